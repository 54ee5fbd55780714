/- What the trees compute: plain laws. -/
import Derived.Test.YthgifdbaegpbpaaGreatDoorKQT
import Derived.Test.YthgifdbaegpbpaaGreatDoorAbsPl
import Derived.Test.YthgifdbaegpbpaaGreatDoorAbsGo
import Derived.Lib.TrimUEq
import Derived.Lib.MapLaws
namespace Go.Proofs.YthgifdbaegpbpaaGreatDoor
open Go Go.aP
set_option linter.unusedSimpArgs false
set_option linter.unusedVariables false
set_option maxRecDepth 100000
namespace Q
theorem Es:∀a b:List UInt8,Op.bytesLess a b=decide (a < b)
 | _,[]=>by simp [Op.bytesLess]
 | [],_::_=>by simp [Op.bytesLess]
 | a::x,b::y=>by
  rw [Op.bytesLess,Es x y,Bool.eq_iff_iff]
  simp -implicitDefEqProofs [List.cons_lt_cons_iff]
/-- An entry: key and value. A row: its entries and its number. -/
abbrev dW:=List UInt8×List UInt8
abbrev Row:=List dW×Int
def ent (x:dW):GV:=.g [.s x.1,.s x.2]
def row (r:Row):GV:=.g [.l (r.1.map ent),.i .u64 r.2]
@[simp] theorem asL (x:dW):(ent x).cells=[.s x.1,.s x.2]:=rfl
@[simp] theorem aus (r:Row):(row r).cells=[.l (r.1.map ent),.i .u64 r.2]:=rfl
@[simp] theorem asM (x:dW):(ent x).scalar=false:=rfl
@[simp] theorem aut (r:Row):(row r).scalar=false:=rfl
/-- Texts and lists of no more than any machine bears. -/
def oH (d:List dW):Prop:=d.length≤140737488351232∧∀x∈d,x.1.length≤140737488351232∧x.2.length≤140737488351232
def Rows (l:List Row):Prop:=l.length≤140737488351232∧∀r∈l,oH r.1∧0≤r.2∧r.2 < 18446744073709551616
def nG (x:dW):Bool:=decide (x.1.length+x.2.length≤600)
theorem abW (d:List dW) (hd:oH d):∀m i:Nat,i+m=d.length→TT.lim 4 [.l (d.map ent),.i .i64 d.length,.i .i64 i]=some (if (d.drop i).all nG=true then [.i .i64 1] else [.i .i64 0])
 | 0,i,hi=>by
  have h0:d.drop i=[]:=List.drop_eq_nil_of_le (by omega)
  refine aA rfl rfl ?_
  have h:¬ ((i:Int) < d.length):=by omega
  simp -implicitDefEqProofs [h,h0]
 | m+1,i,hi=>by
  have hlt:i < d.length:=by omega
  have ih:TT.lim 4 [.l (d.map ent),.i .i64 d.length,.i .i64 ((i:Int)+1)]=_:=abW d hd m (i+1) (by omega)
  refine aA rfl rfl ?_
  have h:((i:Int) < d.length):=by omega
  have hw:=wrap64 (n:=(i:Int)+1) (by omega) (by have:=hd.1;omega)
  have hx:=hd.2 d[i] (List.getElem_mem hlt)
  have hw2:=wrap64 (n:=(d[i].1.length:Int)+(d[i].2.length:Int)) (by omega) (by omega)
  have hda:(d.drop i).all nG=(nG d[i]&&(d.drop (i+1)).all nG):=by rw [List.drop_eq_getElem_cons hlt,List.all_cons]
  by_cases hf:(600:Int) < (d[i].1.length:Int)+(d[i].2.length:Int)
  ·have:nG d[i]=false:=by unfold nG;simp;omega
   simp -implicitDefEqProofs [h,hlt,hw2,hf,hda,this]
  ·have:nG d[i]=true:=by unfold nG;simp;omega
   rw [hda,this,Bool.true_and]
   simp -implicitDefEqProofs [h,hlt,hw,hw2,hf,ih]
def gK (d:List dW):Bool:=d.all nG&&decide (d.length≤40)
theorem aaO (d:List dW) (hd:oH d):TT.lim 3 [.l (d.map ent)]=some [.b (gK d)]:=by
 refine aG rfl rfl ?_ rfl
 have h5:TT.lim 4 [.l (d.map ent),.i .i64 d.length,.i .i64 0]=_:=abW d hd d.length 0 (by omega)
 rw [List.drop_zero] at h5
 cases hc:d.all nG with
 | false=>rw [hc] at h5;simp [h5,gK,hc]
 | true=>
  rw [hc] at h5;simp only [if_true] at h5
  have:(decide ((d.length:Int)≤40))=decide (d.length≤40):=by rw [Bool.eq_iff_iff];simp;omega
  simp -implicitDefEqProofs [h5,gK,hc,this]
def aQ (n:Nat):List UInt8:=if n < 128 then [UInt8.ofNat n] else UInt8.ofNat (n % 128+128)::aQ (n / 128)
termination_by n
decreasing_by omega
theorem Gu {n:Nat} (h:n < 128):aQ n=[UInt8.ofNat n]:=by rw [aQ,if_pos h]
theorem Na {n:Nat} (h:¬ n < 128):aQ n=UInt8.ofNat (n % 128+128)::aQ (n / 128):=by rw [aQ,if_neg h]
def iP (n:Nat):Nat:=(aQ n).length
theorem anA {n:Int} (h0:0≤n):n.fdiv (2 ^ (7:Nat))=n / 128:=by
 rw [Int.fdiv_eq_ediv_of_nonneg _ (by decide)];rfl
theorem ad7 {n:Nat}:nS .shr .u64 (n:Int) 7=some (.i .u64 ((n / 128:Nat):Int)):=by
 have:((n:Int)).fdiv (2 ^ (7:Nat))=((n / 128:Nat):Int):=by rw [anA (by omega)];omega
 simp -implicitDefEqProofs [nS,IntKind.bits]
 exact this
theorem Nc (n:Nat):0 < iP n:=by unfold iP;rw [aQ];split<;>simp
theorem Nb {n:Nat} (h:¬ n < 128):iP n=iP (n / 128)+1:=by unfold iP;rw [Na h];rfl
theorem aeW:∀ (k n:Nat),0 < k→n < 128 ^ k→iP n≤k
 | 0,_,h,_=>by omega
 | k+1,n,_,h=>by
  by_cases hn:n < 128
  ·unfold iP;rw [Gu hn];simp
  ·rw [Nb hn]
   cases k with
   | zero=>simp at h;omega
   | succ k=>
    have:n / 128 < 128 ^ (k+1):=by rw [Nat.pow_succ] at h;omega
    have:=aeW (k+1) (n / 128) (by omega) this
    omega
theorem Bo {n:Nat} (h:n < 18446744073709551616):iP n≤10:=aeW 10 n (by omega) (by omega)
theorem ajX:∀ (n s:Nat),s+iP n≤1000→n < 18446744073709551616→TT.lim 10 [.i .u64 n,.i .i64 s]=some [.i .i64 0,.i .i64 ((s+iP n - 1:Nat):Int)]:=by
 intro n
 induction n using Nat.strongRecOn with
 | _ n ih=>
  intro s hs hn
  refine aA rfl rfl ?_
  by_cases h:n < 128
  ·have h':¬ (128:Int)≤n:=by omega
   simp -implicitDefEqProofs [h',iP,Gu h]
  ·have h':(128:Int)≤n:=by omega
   have hv:=Nb h
   have hp:=Nc (n / 128)
   have hw:=wrap64 (n:=(s:Int)+1) (by omega) (by omega)
   have ih':TT.lim 10 [.i .u64 ((n / 128:Nat):Int),.i .i64 ((s:Int)+1)]=_:=ih (n / 128) (by omega) (s+1) (by omega) (by omega)
   have hn':s+iP n - 1=s+1+iP (n / 128) - 1:=by omega
   rw [hn']
   have h7:nS .shr .u64 (n:Int) 7=some (.i .u64 ((n / 128:Nat):Int)):=ad7
   generalize ((n / 128:Nat):Int)=q at h7 ih'
   simp -implicitDefEqProofs [h',hw,h7,ih']
theorem F7 (n:Nat) (hn:n < 18446744073709551616):TT.lim 9 [.i .u64 n]=some [.i .i64 (iP n)]:=by
 have hp:=Nc n
 have h9:TT.lim 10 [.i .u64 n,.i .i64 1]=_:=ajX n 1 (by have:=Bo hn;omega) hn
 rw [show 1+iP n - 1=iP n by omega] at h9
 refine aG rfl rfl ?_ rfl
 simp -implicitDefEqProofs [h9]
/-- The bytes of a number, each with its high bit set. -/
def iO:Nat→Nat→List Nat
 | 0,_=>[]
 | k+1,n=>(n % 128+128)::iO k (n / 128)
def gq (n:Nat):GV:=.i .u8 n
theorem aff (n:Nat) (hn:n < 18446744073709551616):bK .and .u64 (n:Int) 127=some (.i .u64 ((n % 128:Nat):Int)):=by
 have h1:((BitVec.ofInt 64 (n:Int) &&& BitVec.ofInt 64 127).toNat:Nat)=n % 128:=by
  rw [BitVec.toNat_and,BitVec.toNat_ofInt,BitVec.toNat_ofInt]
  have e1:((n:Int) % ((2 ^ 64:Nat):Int)).toNat=n:=by omega
  have e2:((127:Int) % ((2 ^ 64:Nat):Int)).toNat=2 ^ 7 - 1:=by decide
  rw [e1,e2,Nat.and_two_pow_sub_one_eq_mod]
 show some (GV.i .u64 (IntKind.u64.wrap (((BitVec.ofInt 64 (n:Int) &&& BitVec.ofInt 64 127).toNat:Nat):Int)))=_
 rw [h1,fU (by omega) (by omega)]
theorem afg (n:Nat) (hn:n < 256):bK .and .u8 (n:Int) 127=some (.i .u8 ((n % 128:Nat):Int)):=by
 have:∀x:Fin 256,IntKind.u8.wrap (((BitVec.ofInt IntKind.u8.bits ((x.val:Nat):Int) &&& BitVec.ofInt IntKind.u8.bits 127).toNat:Nat):Int)=((x.val % 128:Nat):Int):=by decide +kernel
 show some (GV.i .u8 _)=some (GV.i .u8 _)
 exact congrArg (fun z=>some (GV.i .u8 z)) (this ⟨n,hn⟩)
theorem ak4 (n:Nat) (hn:n < 128):bK .or .u8 (n:Int) 128=some (.i .u8 ((n+128:Nat):Int)):=by
 have:∀x:Fin 128,IntKind.u8.wrap (((BitVec.ofInt IntKind.u8.bits ((x.val:Nat):Int) ||| BitVec.ofInt IntKind.u8.bits 128).toNat:Nat):Int)=((x.val+128:Nat):Int):=by decide +kernel
 show some (GV.i .u8 _)=some (GV.i .u8 _)
 exact congrArg (fun z=>some (GV.i .u8 z)) (this ⟨n,hn⟩)
theorem Nk {n:Int} (h0:0≤n) (h1:n < 256):IntKind.u8.wrap n=n:=by
 have:IntKind.u8.wrap n=n % 256:=by simp [IntKind.wrap,IntKind.signed,IntKind.bits]
 rw [this];omega
@[simp] theorem asz (n:Nat):(gq n).cells=[gq n]:=rfl
@[simp] theorem asB (n:Nat):(gq n).scalar=true:=rfl
@[simp] theorem asA (n:Nat) (v:GV):(gq n).put 0 [v]=some v:=rfl
theorem Oe:∀l:List Nat,(∀x∈l,x < 256)→jc (l.map gq)=some (l.map UInt8.ofNat)
 | [],_=>rfl
 | a::l,h=>by
  have h1:=h a (by simp)
  have h2:=Oe l fun x hx=>h x (by simp [hx])
  simp only [List.map_cons,gq,jc] at h2 ⊢
  rw [if_pos (by omega)]
  have:(fun n:Nat=>GV.i .u8 (n:Int))=gq:=rfl
  rw [h2]
  simp
theorem abR:∀ (m n:Nat) (done:List Nat),n < 18446744073709551616→done.length+m < 1000→
 TT.lim 11 [.i .u64 n,.l ((done++List.replicate m 0).map gq),.i .i64 ((done.length+m:Nat):Int),.i .i64 done.length]=some [.i .i64 0,.l ((done++iO m n).map gq)]
 | 0,n,done,hn,hd=>by
  refine aA rfl rfl ?_
  simp -implicitDefEqProofs [iO]
 | m+1,n,done,hn,hd=>by
  have hlt:(done.length:Int) < ((done.length+(m+1):Nat):Int):=by omega
  have hw:=wrap64 (n:=(done.length:Int)+1) (by omega) (by omega)
  have hw8:=Nk (n:=((n % 128:Nat):Int)) (by omega) (by omega)
  have h7:nS .shr .u64 (n:Int) 7=some (.i .u64 ((n / 128:Nat):Int)):=ad7
  have ha:=aff n hn
  have ho:=ak4 (n % 128) (by omega)
  have ih:=abR m (n / 128) (done++[n % 128+128]) (by omega) (by simp;omega)
  have hlen:(done++[n % 128+128]).length+m=done.length+(m+1):=by simp;omega
  rw [hlen] at ih
  have hl2:(((done++[n % 128+128]).length:Nat):Int)=(done.length:Int)+1:=by simp
  rw [hl2] at ih
  have hset:((done++List.replicate (m+1) 0).map gq).set done.length (gq (n % 128+128))=(done++[n % 128+128]++List.replicate m 0).map gq:=by
   rw [List.replicate_succ,← List.map_set,List.set_append_right _ _ (Nat.le_refl _),Nat.sub_self]
   simp
  have hget:((done++List.replicate (m+1) 0).map gq)[done.length]? = some (gq 0):=by
   rw [List.getElem?_map,List.getElem?_append_right (Nat.le_refl _),Nat.sub_self,List.replicate_succ];rfl
  have hll:((done++List.replicate (m+1) 0).map gq).length=done.length+(m+1):=by simp
  have hv:done++iO (m+1) n=done++[n % 128+128]++iO m (n / 128):=by simp [iO]
  rw [hv]
  generalize hL:(done++List.replicate (m+1) 0).map gq=L at *
  refine aA rfl rfl ?_
  have hix:(0:Int)≤(done.length:Int)∧(done.length:Int) < (L.length:Int):=by rw [hll];omega
  have hob:GV.i IntKind.u8 ((n % 128+128:Nat):Int)=gq (n % 128+128):=rfl
  have PI:L.set done.length (GV.i IntKind.u8 ((n % 128+128:Nat):Int))=(done++[n % 128+128]++List.replicate m 0).map gq:=hset
  generalize (done++[n % 128+128]++List.replicate m 0).map gq=L2 at ih PI
  generalize (done++[n % 128+128]++iO m (n / 128)).map gq=L3 at ih ⊢
  generalize ((n / 128:Nat):Int)=q at h7 ih
  generalize ((n % 128+128:Nat):Int)=z at ho PI
  generalize ((n % 128:Nat):Int)=rr at ha hw8 ho
  generalize ((done.length+(m+1):Nat):Int)=N at hlt ih ⊢
  simp -implicitDefEqProofs [hlt,ha,hw8,ho,hix,hget,h7,hw,PI,ih]
theorem TK:∀m n,(iO m n).length=m
 | 0,_=>rfl
 | m+1,n=>by simp [iO,TK m]
theorem TL:∀m n,∀x∈iO m n,x < 256
 | 0,_,x,h=>by simp [iO] at h
 | m+1,n,x,h=>by
  simp only [iO,List.mem_cons] at h
  rcases h with rfl | h
  ·omega
  ·exact TL m _ x h
/-- The last byte without its high bit: as numbers are written. -/
theorem aeV:∀ (s n:Nat),iP n=s+1→∃x,(iO (s+1) n)[s]? = some x∧((iO (s+1) n).set s (x % 128)).map UInt8.ofNat=aQ n
 | 0,n,h=>by
  have hn:n < 128:=by
   by_cases hn:n < 128
   ·exact hn
   ·rw [Nb hn] at h;have:=Nc (n / 128);omega
  refine ⟨n % 128+128,by simp [iO], ?_⟩
  rw [Gu hn]
  simp -implicitDefEqProofs [iO]
  rw [Nat.mod_eq_of_lt hn]
 | s+1,n,h=>by
  have hn:¬ n < 128:=by
   intro hn
   unfold iP at h;rw [Gu hn] at h;simp at h
  rw [Nb hn] at h
  obtain ⟨x,h1,h2⟩:=aeV s (n / 128) (by omega)
  refine ⟨x,by simp only [iO,List.getElem?_cons_succ] at h1 ⊢;exact h1, ?_⟩
  rw [Na hn,← h2]
  simp -implicitDefEqProofs [iO]
theorem qO (n:Nat) (hn:n < 18446744073709551616):TT.lim 8 [.i .u64 n]=some [.s (aQ n)]:=by
 have h8:=F7 n hn
 have hp:=Nc n
 have hs:=Bo hn
 obtain ⟨s,hs1⟩:∃s,iP n=s+1:=⟨iP n - 1,by omega⟩
 obtain ⟨x,h1,h2⟩:=aeV s n hs1
 rw [hs1] at h8
 have h10:TT.lim 11 [.i .u64 n,.l ((List.replicate (s+1) 0).map gq),.i .i64 ((s+1:Nat):Int),.i .i64 0]=some [.i .i64 0,.l ((iO (s+1) n).map gq)]:=by
  have:=abR (s+1) n [] hn (by simp;omega)
  simpa using this
 have hr:(List.replicate (s+1) 0).map gq=List.replicate (s+1) (GV.i .u8 0):=by rw [List.map_replicate];rfl
 rw [hr] at h10
 have hx:x < 256:=TL _ _ x (List.mem_of_getElem? h1)
 have ha:=afg x hx
 have hget:((iO (s+1) n).map gq)[s]? = some (gq x):=by rw [List.getElem?_map,h1];rfl
 have hset:((iO (s+1) n).map gq).set s (GV.i .u8 ((x % 128:Nat):Int))=((iO (s+1) n).set s (x % 128)).map gq:=(List.map_set (f:=gq) (l:=iO (s+1) n) (i:=s) (a:=x % 128)).symm
 have hb:=Oe ((iO (s+1) n).set s (x % 128)) (fun y hy=>by
  rcases List.mem_or_eq_of_mem_set hy with hy | rfl
  ·exact TL _ _ y hy
  ·omega)
 rw [h2] at hb
 have hlen:(((iO (s+1) n).set s (x % 128)).map gq).length=s+1:=by simp [TK]
 have hlr:(List.replicate (s+1) (GV.i .u8 0)).length=s+1:=by simp
 have hl1:((iO (s+1) n).map gq).length=s+1:=by simp [TK]
 generalize ((iO (s+1) n).set s (x % 128)).map gq=L3 at hset hb hlen
 generalize (iO (s+1) n).map gq=L2 at h10 hget hset hl1
 generalize hrep:List.replicate (s+1) (GV.i .u8 0)=L1 at h10 hlr
 refine aG rfl rfl ?_ rfl
 have hw:=wrap64 (n:=(s:Int)) (by omega) (by omega)
 have hcast:((s+1:Nat):Int)=(s:Int)+1:=by omega
 rw [hcast] at h8 h10
 have hc1:(0:Int)≤(s:Int)+1∧(s:Int)+1≤281474976710656∧(s:Int)+1≤1152921504606846976:=by omega
 have hc2:((s:Int)+1).toNat=s+1:=by omega
 have hlt:(s:Int) < (s:Int)+1:=by omega
 have hs2:(s:Int)+1 - 1=(s:Int):=by omega
 generalize hM:((x % 128:Nat):Int)=M at ha hset
 have hxx:gq x=.i .u8 x:=rfl
 have h48:s+1≤281474976710656:=by omega
 have hg2:L2[s]'(by omega)=gq x:=by have:=hget;rw [List.getElem?_eq_getElem (by omega)] at this;exact Option.some.inj this
 simp -implicitDefEqProofs [h8,hc1,hc2,hrep,hlr,h10,hl1,hs2,hw,hlt,hget,hg2,ha,hset,hxx,hlen,hb,h48,GV.gJ]
theorem Oa (a b:List UInt8):dJ (a++b)=dJ a++dJ b:=by simp [dJ]
@[simp] theorem Vp (a:List UInt8):(dJ a).length=a.length:=by simp [dJ]
theorem Eo (a:List UInt8):(dJ a).all (GV.gJ 1)=true:=by
 rw [List.all_eq_true]
 intro x hx
 obtain ⟨b,_,rfl⟩:=List.mem_map.1 hx
 rfl
theorem Oc:∀a:List UInt8,jc (dJ a)=some a
 | []=>rfl
 | x::a=>by
  have ih:=Oc a
  simp only [dJ,List.map_cons,jc] at ih ⊢
  have:=x.toNat_lt
  rw [if_pos (by omega),ih]
  simp
def iK (x:dW):List UInt8:=aQ x.1.length++x.1++aQ x.2.length++x.2
def dK (d:List dW):List UInt8:=aQ d.length++d.flatMap iK
theorem fM {n:Nat} (h:n < 18446744073709551616):(aQ n).length≤10:=Bo h
theorem ag8 (x:dW) (h1:x.1.length≤140737488351232) (h2:x.2.length≤140737488351232):TT.lim 13 [ent x]=some [.s (iK x)]:=by
 have k1:=qO x.1.length (by omega)
 have k2:=qO x.2.length (by omega)
 have l1:=fM (n:=x.1.length) (by omega)
 have l2:=fM (n:=x.2.length) (by omega)
 have w1:=fU (n:=(x.1.length:Int)) (by omega) (by omega)
 have w2:=fU (n:=(x.2.length:Int)) (by omega) (by omega)
 refine aG rfl rfl ?_ rfl
 have c1:((aQ x.1.length).length:Int)+(x.1.length:Int)≤9223372036854775807:=by omega
 have c2:((aQ x.1.length).length:Int)+((x.1.length:Int)+((aQ x.2.length).length:Int))≤9223372036854775807:=by omega
 have c3:((aQ x.1.length).length:Int)+((x.1.length:Int)+(((aQ x.2.length).length:Int)+(x.2.length:Int)))≤9223372036854775807:=by omega
 simp -implicitDefEqProofs [w1,w2,k1,k2,c1,c2,c3,iK,Int.add_assoc]
theorem OC {x:dW} (h:nG x=true):(iK x).length≤620:=by
 unfold nG at h
 simp only [decide_eq_true_iff] at h
 have l1:=fM (n:=x.1.length) (by omega)
 have l2:=fM (n:=x.2.length) (by omega)
 simp only [iK,List.length_append]
 omega
theorem OU:∀d:List dW,d.all nG=true→(d.flatMap iK).length≤620 * d.length
 | [],_=>by simp
 | x::d,h=>by
  rw [List.all_cons,Bool.and_eq_true] at h
  have:=OC h.1
  have:=OU d h.2
  simp only [List.flatMap_cons,List.length_append,List.length_cons]
  omega
theorem abS (d:List dW) (hf:d.all nG=true) (hl:d.length≤40):∀ (m i:Nat) (acc:List UInt8),i+m=d.length→acc.length≤10+620 * i→
 TT.lim 12 [.l (d.map ent),.i .i64 d.length,.i .i64 i,.l (dJ acc)]=some [.i .i64 0,.l (dJ (acc++(d.drop i).flatMap iK))]
 | 0,i,acc,hi,ha=>by
  have h0:d.drop i=[]:=List.drop_eq_nil_of_le (by omega)
  refine aA rfl rfl ?_
  have h:¬ ((i:Int) < d.length):=by omega
  simp -implicitDefEqProofs [h,h0]
 | m+1,i,acc,hi,ha=>by
  have hlt:i < d.length:=by omega
  have hx:=List.all_eq_true.1 hf d[i] (List.getElem_mem hlt)
  have hx1:=hx
  unfold nG at hx1
  simp only [decide_eq_true_iff] at hx1
  have hp:=ag8 d[i] (by omega) (by omega)
  have hpl:=OC hx
  have ih:TT.lim 12 [.l (d.map ent),.i .i64 d.length,.i .i64 ((i:Int)+1),.l (dJ (acc++iK d[i]))]=_:=abS d hf hl m (i+1) (acc++iK d[i]) (by omega) (by simp;omega)
  rw [Oa] at ih
  have hd:(d.drop i).flatMap iK=iK d[i]++(d.drop (i+1)).flatMap iK:=by rw [List.drop_eq_getElem_cons hlt,List.flatMap_cons]
  rw [hd,← List.append_assoc]
  refine aA rfl rfl ?_
  have h:((i:Int) < d.length):=by omega
  have hw:=wrap64 (n:=(i:Int)+1) (by omega) (by omega)
  have hok:=Eo (iK d[i])
  have hb:2 * (acc.length+(iK d[i]).length)≤281474976710656∧acc.length+(iK d[i]).length≤281474976710656:=by omega
  have he:GV.g [GV.s d[i].1,GV.s d[i].2]=ent d[i]:=rfl
  simp -implicitDefEqProofs [-List.all_eq_true,h,hlt,he,hp,hok,hb,hw,ih]
theorem Jf (d:List dW) (hf:gK d=true):TT.lim 7 [.l (d.map ent)]=some [.s (dK d)]:=by
 unfold gK at hf
 rw [Bool.and_eq_true,decide_eq_true_iff] at hf
 have k:=qO d.length (by omega)
 have l1:=fM (n:=d.length) (by omega)
 have w1:=fU (n:=(d.length:Int)) (by omega) (by omega)
 have h11:TT.lim 12 [.l (d.map ent),.i .i64 d.length,.i .i64 0,.l (dJ (aQ d.length))]=_:=abS d hf.1 hf.2 d.length 0 (aQ d.length) (by omega) (by omega)
 rw [List.drop_zero] at h11
 have hb:2 * (aQ d.length).length≤281474976710656∧(aQ d.length).length≤281474976710656:=by omega
 have hok:=Eo (aQ d.length)
 have hfl:=OU d hf.1
 have hc:(aQ d.length).length+(List.flatMap iK d).length≤281474976710656:=by omega
 have hbg:=Oc (aQ d.length++d.flatMap iK)
 refine aG rfl rfl ?_ rfl
 unfold dK
 generalize d.flatMap iK=F at *
 simp -implicitDefEqProofs [-List.all_eq_true,w1,k,hb,hok,h11,hc,hbg]
def iY (s:List UInt8) (lo hi:Int):Int:=if (s.length:Int) < lo then 13 else if hi < (s.length:Int) then 13 else if Lib.validD s=true then 0 else 11
theorem aie (s:List UInt8) (h:s.length≤140737488351232):TT.lim 49 [.s s]=some [.b (Lib.validD s)]:=by
 have h21:TT.lim 50 [.s s]=some [.b (Lib.validD s)]:=FW (Ds:=Ds) (k:=50) (f:=DW) rfl (by simp only [DW];rw [if_pos (by omega)])
 refine aG rfl rfl ?_ rfl
 simp -implicitDefEqProofs [h21]
theorem ED (s:List UInt8) (lo hi:Int) (h:s.length≤140737488351232):TT.lim 48 [.s s,.i .i64 lo,.i .i64 hi]=some [.i .i64 (iY s lo hi)]:=by
 have h20:=aie s h
 refine aG rfl rfl ?_ rfl
 unfold iY
 by_cases h1:(s.length:Int) < lo
 ·simp -implicitDefEqProofs [h1]
 ·by_cases h2:hi < (s.length:Int)
  ·simp -implicitDefEqProofs [h1,h2]
  ·cases hv:Lib.validD s<;>rw [hv] at h20<;>simp [h1,h2,h20,hv]
def vU (x:dW):Int:=if iY x.1 1 64≠0 then iY x.1 1 64 else iY x.2 0 256
theorem ag5 (x:dW) (h1:x.1.length≤140737488351232) (h2:x.2.length≤140737488351232):TT.lim 56 [ent x]=some [.i .i64 (vU x)]:=by
 have k1:=ED x.1 1 64 h1
 have k2:=ED x.2 0 256 h2
 refine aG rfl rfl ?_ rfl
 unfold vU
 by_cases h:iY x.1 1 64=0
 ·simp -implicitDefEqProofs [k1,h,k2]
 ·simp -implicitDefEqProofs [k1,h]
def jG:Option (List UInt8)→List dW→Int
 | _,[]=>0
 | p,x::xs=>if vU x≠0 then vU x else match p with
  | none=>jG (some x.1) xs
  | some k=>if x.1=k then 14 else if Op.bytesLess x.1 k=true then 7 else jG (some x.1) xs
def tagged (r:Int):List GV:=if r=0 then [.i .i64 1] else [.i .i64 0,.i .i64 r]
def prevK (d:List dW) (i:Nat):Option (List UInt8):=if i=0 then none else (d[i - 1]?).map (·.1)
theorem abT (d:List dW) (hd:oH d):∀m i:Nat,i+m=d.length→TT.lim 55 [.l (d.map ent),.i .i64 d.length,.i .i64 i]=some (tagged (jG (prevK d i) (d.drop i)))
 | 0,i,hi=>by
  have h0:d.drop i=[]:=List.drop_eq_nil_of_le (by omega)
  refine aA rfl rfl ?_
  have h:¬ ((i:Int) < d.length):=by omega
  simp -implicitDefEqProofs [h,h0,jG,tagged]
 | m+1,i,hi=>by
  have hlt:i < d.length:=by omega
  have hx:=hd.2 d[i] (List.getElem_mem hlt)
  have hp:=ag5 d[i] hx.1 hx.2
  have ih:TT.lim 55 [.l (d.map ent),.i .i64 d.length,.i .i64 ((i:Int)+1)]=_:=abT d hd m (i+1) (by omega)
  have hpk:prevK d (i+1)=some d[i].1:=by unfold prevK;rw [if_neg (by omega)];simp [hlt]
  rw [hpk] at ih
  have hdr:d.drop i=d[i]::d.drop (i+1):=List.drop_eq_getElem_cons hlt
  rw [hdr]
  refine aA rfl rfl ?_
  have h:((i:Int) < d.length):=by omega
  have hw:=wrap64 (n:=(i:Int)+1) (by omega) (by have:=hd.1;omega)
  have he:GV.g [GV.s d[i].1,GV.s d[i].2]=ent d[i]:=rfl
  by_cases h1:vU d[i]=0
  rotate_left
  ·simp -implicitDefEqProofs [h,hlt,he,hp,h1,jG,tagged]
  by_cases h0:i=0
  ·subst h0
   simp only [Int.natCast_zero,Int.zero_add] at hw ih
   simp -implicitDefEqProofs [h,hlt,he,hp,h1,jG,prevK,hw]
   simpa using ih
  ·have hi1:i - 1 < d.length:=by omega
   have hpk2:prevK d i=some d[i - 1].1:=by unfold prevK;rw [if_neg h0];simp [hi1]
   have hw2:=wrap64 (n:=(i:Int) - 1) (by omega) (by have:=hd.1;omega)
   have hi0:¬ ((i:Int)=0):=by omega
   have hge:(0:Int)≤(i:Int) - 1:=by omega
   have ht:((i:Int) - 1).toNat=i - 1:=by omega
   have hnl:(1:Int)≤(i:Int):=by omega
   rw [hpk2]
   by_cases h2:d[i].1=d[i - 1].1
   ·have h2':(d[i].1=d[i - 1].1)=True:=eq_true h2
    clear h2
    simp -implicitDefEqProofs [h,hlt,he,hp,h1,hi0,h0,hw2,ht,hi1,h2',jG,tagged,hnl]
   ·cases h3:Op.bytesLess d[i].1 d[i - 1].1 with
    | true=>simp [h,hlt,he,hp,h1,hi0,h0,hw2,ht,hi1,h2,h3,jG,tagged,hnl]
    | false=>simp [h,hlt,he,hp,h1,hi0,h0,hw2,ht,hi1,h2,h3,jG,hw,ih,hnl]
def og (d:List dW):Int:=if d.length=0 then 12 else if 16 < d.length then 13 else jG none d
theorem XL (d:List dW) (hd:oH d):TT.lim 54 [.l (d.map ent)]=some [.i .i64 (og d)]:=by
 have h17:TT.lim 55 [.l (d.map ent),.i .i64 d.length,.i .i64 0]=_:=abT d hd d.length 0 (by omega)
 have hpk:prevK d 0=none:=rfl
 rw [hpk,List.drop_zero] at h17
 have w1:=fU (n:=(d.length:Int)) (by omega) (by have:=hd.1;omega)
 refine aG rfl rfl ?_ rfl
 unfold og
 by_cases h0:d.length=0
 ·have h0':(d.length:Int)=0:=by omega
  have:d=[]:=List.eq_nil_of_length_eq_zero h0
  subst this
  simp -implicitDefEqProofs [IntKind.wrap,IntKind.signed]
 ·have h0':¬ (d.length:Int)=0:=by omega
  by_cases h1:16 < d.length
  ·have h1':(16:Int) < (d.length:Int):=by omega
   simp -implicitDefEqProofs [w1,h0,h1,h0',h1']
  ·have h1':¬ (16:Int) < (d.length:Int):=by omega
   by_cases h2:jG none d=0
   ·simp only [tagged,h2,if_true] at h17
    simp -implicitDefEqProofs [w1,h0,h1,h0',h1',h17,h2]
   ·simp only [tagged,h2,if_false] at h17
    simp -implicitDefEqProofs [w1,h0,h1,h0',h1',h17]
def mX (r:Row):Int:=if og r.1≠0 then og r.1 else if r.2=0 then 18 else 0
theorem afP (r:Row) (hd:oH r.1):TT.lim 60 [row r]=some [.i .i64 (mX r)]:=by
 have k:=XL r.1 hd
 refine aG rfl rfl ?_ rfl
 unfold mX
 by_cases h:og r.1=0
 ·by_cases h2:r.2=0
  ·simp -implicitDefEqProofs [k,h,h2]
  ·simp -implicitDefEqProofs [k,h,h2]
 ·simp -implicitDefEqProofs [k,h]
def nH (long:Bool) (r:Row):Bool:=decide (r.1.length≤18)&&gK r.1&&(!long || decide ((dK r.1).length≤100))
theorem abU (l:List Row) (hl:Rows l):∀m i:Nat,i+m=l.length→TT.lim 6 [.l (l.map row),.i .i64 l.length,.i .i64 i]=some (if (l.drop i).all (nH (decide (40 < l.length)))=true then [.i .i64 1] else [.i .i64 0])
 | 0,i,hi=>by
  have h0:l.drop i=[]:=List.drop_eq_nil_of_le (by omega)
  refine aA rfl rfl ?_
  have h:¬ ((i:Int) < l.length):=by omega
  simp -implicitDefEqProofs [h,h0]
 | m+1,i,hi=>by
  have hlt:i < l.length:=by omega
  have hr:=hl.2 l[i] (List.getElem_mem hlt)
  have ih:TT.lim 6 [.l (l.map row),.i .i64 l.length,.i .i64 ((i:Int)+1)]=_:=abU l hl m (i+1) (by omega)
  have hda:(l.drop i).all (nH (decide (40 < l.length)))=(nH (decide (40 < l.length)) l[i]&&(l.drop (i+1)).all (nH (decide (40 < l.length)))):=by rw [List.drop_eq_getElem_cons hlt,List.all_cons]
  rw [hda]
  refine aA rfl rfl ?_
  have h:((i:Int) < l.length):=by omega
  have hw:=wrap64 (n:=(i:Int)+1) (by omega) (by have:=hl.1;omega)
  have h4:=aaO l[i].1 hr.1
  by_cases h1:18 < l[i].1.length
  ·have h1':(18:Int) < (l[i].1.length:Int):=by omega
   have:nH (decide (40 < l.length)) l[i]=false:=by unfold nH;simp;omega
   rw [this]
   simp -implicitDefEqProofs [h,hlt,h1']
  have h1':¬ (18:Int) < (l[i].1.length:Int):=by omega
  have h1d:l[i].1.length≤18:=by omega
  cases hf:gK l[i].1 with
  | false=>
   rw [hf] at h4
   have:nH (decide (40 < l.length)) l[i]=false:=by unfold nH;simp [hf]
   rw [this]
   simp -implicitDefEqProofs [h,hlt,h1',h4]
  | true=>
   rw [hf] at h4
   have k6:=Jf l[i].1 hf
   by_cases h2:40 < l.length
   ·have h2':(40:Int) < (l.length:Int):=by omega
    by_cases h3:100 < (dK l[i].1).length
    ·have h3':(100:Int) < ((dK l[i].1).length:Int):=by omega
     have:nH (decide (40 < l.length)) l[i]=false:=by unfold nH;simp [h2];omega
     rw [this]
     simp -implicitDefEqProofs [h,hlt,h1',h4,h2',k6,h3']
    ·have h3':¬ (100:Int) < ((dK l[i].1).length:Int):=by omega
     have:nH (decide (40 < l.length)) l[i]=true:=by unfold nH;simp [h2,hf,h1d];omega
     rw [this,Bool.true_and]
     simp -implicitDefEqProofs [h,hlt,h1',h4,h2',k6,h3',hw,ih]
   ·have h2':¬ (40:Int) < (l.length:Int):=by omega
    have:nH (decide (40 < l.length)) l[i]=true:=by unfold nH;simp [h2,hf,h1d]
    rw [this,Bool.true_and]
    simp -implicitDefEqProofs [h,hlt,h1',h4,h2',hw,ih]
def yj (l:List Row):Bool:=l.all (nH (decide (40 < l.length)))&&decide (l.length≤300)
theorem ahN (l:List Row) (hl:Rows l):TT.lim 5 [.l (l.map row)]=some [.b (yj l)]:=by
 refine aG rfl rfl ?_ rfl
 have h3:TT.lim 6 [.l (l.map row),.i .i64 l.length,.i .i64 0]=_:=abU l hl l.length 0 (by omega)
 rw [List.drop_zero] at h3
 unfold yj
 cases hc:l.all (nH (decide (40 < l.length))) with
 | false=>rw [hc] at h3;simp [h3]
 | true=>
  rw [hc] at h3;simp only [if_true] at h3
  have:(decide ((l.length:Int)≤300))=decide (l.length≤300):=by rw [Bool.eq_iff_iff];simp;omega
  simp -implicitDefEqProofs [h3,this]
theorem ahL {l:List Row} (h:yj l=true):∀r∈l,gK r.1=true:=by
 unfold yj at h
 rw [Bool.and_eq_true] at h
 intro r hr
 have:=List.all_eq_true.1 h.1 r hr
 unfold nH at this
 simp only [Bool.and_eq_true] at this
 exact this.1.2
abbrev K (r:Row):List UInt8:=dK r.1
/-- How many rows at the head have lesser keys. -/
def Ug (k:List UInt8):List Row→Nat
 | []=>0
 | r::rs=>if Op.bytesLess (K r) k=true then Ug k rs+1 else 0
def Un:List Row→List Row→Bool
 | _,[]=>true
 | t,r::rs=>match t.drop (Ug (K r) t) with
  | []=>false
  | s::t'=>decide (K s=K r)&&decide (r.2≤s.2)&&Un (s::t') rs
theorem ahb (x y:dW):kL [1,1] [.s x.1,.s x.2] [.s y.1,.s y.2]=some (decide (x=y)):=by
 simp only [kL,Option.map_some,Bool.and_true]
 congr 1
 rw [Bool.eq_iff_iff]
 simp -implicitDefEqProofs [Prod.ext_iff]
theorem vO (a b:List UInt8):Op.bytesLess a b=true↔a < b:=by rw [Es];simp
theorem afu (a b:List UInt8):Op.bytesLess a b=false↔¬ a < b:=by rw [Es];simp
/-- Rows whose keys rise. -/
def D7 (l:List Row):Prop:=l.Pairwise fun a b=>K a < K b
theorem aha {cs:List GV} {r0:List GV} (h:bD.fO [.list true [.str,.str],.int .u64] cs):∃r:Row,(oH r.1∧0≤r.2∧r.2 < 18446744073709551616)∧GV.g cs=row r:=by
 obtain ⟨g,l,rfl,h1,h⟩:=fV h
 obtain ⟨n,l,rfl,h2,h⟩:=fV h
 obtain rfl:=EZ h
 obtain ⟨n,rfl,n1,n2⟩:=mM h2
 obtain ⟨xs,rfl,h3,h4⟩:=I4 h1
 obtain ⟨d,hd,rfl⟩:∃d:List dW,(∀x∈d,x.1.length≤140737488351232∧x.2.length≤140737488351232)∧xs=d.map ent:=Fq fun x hx=>by
  obtain ⟨k1,k2⟩:=h4 x hx
  cases x<;>simp [GV.scalar] at k2
  obtain ⟨a,l,e1,a1,k1⟩:=fV k1
  obtain ⟨b,l,rfl,b1,k1⟩:=fV k1
  obtain rfl:=EZ k1
  obtain ⟨s,rfl,s1⟩:=yu a1
  obtain ⟨u,rfl,u1⟩:=yu b1
  simp only [Oh] at e1
  subst e1
  exact ⟨(s,u),⟨Nat.le_trans s1 (by decide),Nat.le_trans u1 (by decide)⟩,rfl⟩
 exact ⟨(d,n),⟨⟨by have:=Nat.le_trans h3 (by decide:reachBytes≤140737488351232);simpa using this,hd⟩,n1,n2⟩,rfl⟩
theorem amL {g:GV} (h:(bD.list true [.list true [.str,.str],.int .u64]).has g):∃l:List Row,Rows l∧g=.l (l.map row):=by
 obtain ⟨xs,rfl,h1,h2⟩:=I4 h
 obtain ⟨l,hl,rfl⟩:∃l:List Row,(∀r∈l,oH r.1∧0≤r.2∧r.2 < 18446744073709551616)∧xs=l.map row:=Fq fun x hx=>by
  obtain ⟨k1,k2⟩:=h2 x hx
  cases x<;>simp [GV.scalar] at k2
  obtain ⟨r,hr,e⟩:=aha (r0:=[]) k1
  exact ⟨r,hr,e⟩
 exact ⟨l,⟨by have:=Nat.le_trans h1 (by decide:reachBytes≤140737488351232);simpa using this,hl⟩,rfl⟩
def iF:Option (List UInt8)→List Row→Int
 | _,[]=>0
 | p,r::rs=>if mX r≠0 then mX r else match p with
  | none=>iF (some (K r)) rs
  | some k=>if K r=k then 14 else if Op.bytesLess (K r) k=true then 7 else iF (some (K r)) rs
theorem abV (t:List Row) (ht:Rows t) (hf:∀r∈t,gK r.1=true):∀ (m i:Nat) (p:List UInt8),i+m=t.length→
 TT.lim 59 [.s p,.l (t.map row),.i .i64 t.length,.i .i64 i]=some (tagged (iF (if i=0 then none else some p) (t.drop i)))
 | 0,i,p,hi=>by
  have h0:t.drop i=[]:=List.drop_eq_nil_of_le (by omega)
  refine aA rfl rfl ?_
  have h:¬ ((i:Int) < t.length):=by omega
  simp -implicitDefEqProofs [h,h0,iF,tagged]
 | m+1,i,p,hi=>by
  have hlt:i < t.length:=by omega
  have hr:=ht.2 t[i] (List.getElem_mem hlt)
  have k15:=afP t[i] hr.1
  have k6:=Jf t[i].1 (hf _ (List.getElem_mem hlt))
  have hrow:GV.g [.l (t[i].1.map ent),.i .u64 t[i].2]=row t[i]:=rfl
  have ih:TT.lim 59 [.s (dK t[i].1),.l (t.map row),.i .i64 t.length,.i .i64 ((i:Int)+1)]=_:=abV t ht hf m (i+1) (dK t[i].1) (by omega)
  rw [if_neg (by omega)] at ih
  rw [List.drop_eq_getElem_cons hlt]
  refine aA rfl rfl ?_
  have h:((i:Int) < t.length):=by omega
  have hw:=wrap64 (n:=(i:Int)+1) (by omega) (by have:=ht.1;omega)
  by_cases h1:mX t[i]=0
  rotate_left
  ·simp -implicitDefEqProofs [-List.getElem_cons_drop,h,hlt,hrow,k15,h1,iF,tagged]
  by_cases h0:i=0
  ·subst h0
   simp only [Int.natCast_zero,Int.zero_add] at hw ih
   simp -implicitDefEqProofs [-List.getElem_cons_drop,h,hlt,hrow,k15,h1,k6,hw,iF]
   have hn:(0:Int) < (t.length:Int):=by omega
   simpa using ih
  ·have hi0:0 < i:=by omega
   by_cases h2:dK t[i].1=p
   ·have h2':(dK t[i].1=p)=True:=eq_true h2
    clear h2
    simp -implicitDefEqProofs [-List.getElem_cons_drop,h,hlt,hrow,k15,h1,k6,hi0,h0,h2',iF,tagged]
   ·cases h3:Op.bytesLess (dK t[i].1) p with
    | true=>simp [-List.getElem_cons_drop,h,hlt,hrow,k15,h1,k6,hi0,h0,h2,h3,iF,tagged]
    | false=>simp [-List.getElem_cons_drop,h,hlt,hrow,k15,h1,k6,hi0,h0,h2,h3,hw,ih,iF]
def nC (t:List Row):Int:=if 256 < t.length then 13 else iF none t
theorem XM (t:List Row) (ht:Rows t) (hf:∀r∈t,gK r.1=true):TT.lim 58 [.l (t.map row)]=some [.i .i64 (nC t)]:=by
 have h38:TT.lim 59 [.s [],.l (t.map row),.i .i64 t.length,.i .i64 0]=_:=abV t ht hf t.length 0 [] (by omega)
 rw [if_pos rfl,List.drop_zero] at h38
 refine aG rfl rfl ?_ rfl
 unfold nC
 by_cases h1:256 < t.length
 ·have h1':(256:Int) < (t.length:Int):=by omega
  simp -implicitDefEqProofs [h1,h1']
 ·have h1':¬ (256:Int) < (t.length:Int):=by omega
  by_cases h2:iF none t=0
  ·simp only [tagged,h2,if_true] at h38
   simp -implicitDefEqProofs [h1,h1',h38,h2]
  ·simp only [tagged,h2,if_false] at h38
   simp -implicitDefEqProofs [h1,h1',h38,h2]
theorem XT:∀ {t:List Row} (p:Option (List UInt8)),D7 t→(∀r∈t,mX r=0)→(∀k,p=some k→∀r∈t,k < K r)→iF p t=0
 | [],p,_,_,_=>by cases p<;>rfl
 | r::t,p,ht,hc,hp=>by
  have ht':=List.pairwise_cons.1 ht
  have ih:=XT (t:=t) (some (K r)) ht'.2 (fun x hx=>hc x (by simp [hx])) (fun k hk x hx=>by cases hk;exact ht'.1 x hx)
  unfold iF
  rw [if_neg (by simp [hc r (by simp)])]
  cases p with
  | none=>exact ih
  | some k=>
   have hk:=hp k rfl r (by simp)
   have h1:¬ K r=k:=fun e=>by rw [e] at hk;exact List.lt_irrefl _ hk
   have h2:¬ Op.bytesLess (K r) k=true:=fun e=>List.lt_irrefl _ (List.lt_trans hk ((vO _ _).1 e))
   simp only
   rw [if_neg h1,if_neg h2]
   exact ih
theorem Rows.perm {l m:List Row} (h:l.Perm m) (hl:Rows l):Rows m:=⟨by rw [← h.length_eq];exact hl.1,fun r hr=>hl.2 r (h.mem_iff.2 hr)⟩
def val:List Row→List UInt8→Int
 | [],_=>0
 | r::rs,k=>if K r=k then r.2 else val rs k
def Pos (t:List Row):Prop:=∀r∈t,0 < r.2∧r.2 < 18446744073709551616
theorem OQ {d:List dW} (h:gK d=true):d.length≤40:=by
 unfold gK at h;simp at h;omega
def oI (t:List Row):Prop:=∀r∈t,gK r.1=true
def Ok (t:List Row):Prop:=t.length≤256∧D7 t∧∀r∈t,mX r=0
theorem XR:∀ {t:List Row} (p:Option (List UInt8)),iF p t=0→D7 t∧(∀r∈t,mX r=0)∧∀k,p=some k→∀r∈t,k < K r
 | [],p,_=>⟨List.Pairwise.nil,by simp,by simp⟩
 | r::t,p,h=>by
  unfold iF at h
  by_cases h1:mX r=0
  rotate_left
  ·rw [if_pos h1] at h;exact absurd h h1
  rw [if_neg (by simp [h1])] at h
  have main:∀ (h:iF (some (K r)) t=0),D7 (r::t)∧∀x∈r::t,mX x=0:=by
   intro h
   obtain ⟨i1,i2,i3⟩:=XR (some (K r)) h
   refine ⟨List.Pairwise.cons (i3 _ rfl) i1,fun x hx=>?_⟩
   rcases List.mem_cons.1 hx with rfl | hx
   ·exact h1
   ·exact i2 x hx
  cases p with
  | none=>exact ⟨(main h).1,(main h).2,by simp⟩
  | some k=>
   simp only at h
   split at h
   ·cases h
   next h2=>
   split at h
   ·cases h
   next h3=>
   refine ⟨(main h).1,(main h).2, ?_⟩
   rintro _ ⟨⟩ x hx
   have hk:k < K r:=by
    rcases List.le_iff_lt_or_eq.1 (List.not_lt.1 fun e=>h3 ((vO _ _).2 e)) with e | e
    ·exact e
    ·exact absurd e.symm h2
   rcases List.mem_cons.1 hx with rfl | hx
   ·exact hk
   ·exact List.lt_trans hk ((List.pairwise_cons.1 (main h).1).1 x hx)
theorem Ol (t:List Row):nC t=0↔Ok t:=by
 unfold nC Ok
 constructor
 ·intro h
  split at h
  ·cases h
  ·obtain ⟨h1,h2,_⟩:=XR none h
   exact ⟨by omega,h1,h2⟩
 ·rintro ⟨h1,h2,h3⟩
  rw [if_neg (by omega)]
  exact XT none h2 h3 (by simp)
theorem amJ (r:Row):mX r=0↔og r.1=0∧r.2≠0:=by
 unfold mX
 by_cases h:og r.1=0
 ·simp -implicitDefEqProofs [h]
 ·simp -implicitDefEqProofs [h]
structure Tb (t:List Row):Prop where
 ok:Ok t
 rows:Rows t
 few:oI t
theorem Tb.pos {t:List Row} (h:Tb t):Pos t:=fun r hr=>by
 have h1:=((amJ r).1 (h.ok.2.2 r hr)).2
 have h2:=(h.rows.2 r hr).2
 omega
theorem Tb.rise {t:List Row} (h:Tb t):D7 t:=h.ok.2.1
structure zx (t:List Row):Prop where
 len:t.length≤300
 few:oI t
 rows:Rows t
theorem zx.tb {t:List Row} (h:zx t) (ho:Ok t):Tb t:=⟨ho,h.rows,h.few⟩
theorem aii {l:List Row} (hl:Rows l) (h:yj l=true):zx l:=by
 refine ⟨?_,fun r hr=>ahL h r hr,hl⟩
 unfold yj at h
 rw [Bool.and_eq_true,decide_eq_true_iff] at h
 exact h.2
abbrev Sn:=Int×List Row
def sF:Option (Int×Int×Int)→List GV
 | some (_,b,_)=>[.i .i64 1,.i .i64 b]
 | none=>[.i .i64 0]
theorem OB (s:List UInt8) (size n least:Int):TT.lim 129 [.s s,.i .i64 size,.i .i64 n,.i .i64 least,.i .i64 size]=some (sF (some (size,n,least))):=by
 refine aA rfl rfl ?_
 simp -implicitDefEqProofs [sF]
def bJ (s:List UInt8) (k:Nat):Int:=((s.getD k 0).toNat:Int)
theorem Ef (s:List UInt8) (k:Nat):0≤bJ s k∧bJ s k < 256:=by unfold bJ;have:=(s.getD k 0).toNat_lt;omega
theorem Uo {s:List UInt8} {k:Nat} (h:k < s.length):s[k]? = some (s.getD k 0):=by simp [List.getD,h]
theorem DN (s:List UInt8) (size n least:Int) (i:Nat) (hi:(i:Int) < size) (hl:i < s.length) (h0:0≤n) (h1:n < 1000000000000) (hs:size < 1000) :
 ∀out,(if bJ s i < 128 then some (sF none) else if 192≤bJ s i then some (sF none) else TT.lim 129 [.s s,.i .i64 size,.i .i64 (64 * n+bJ s i - 128),.i .i64 least,.i .i64 ((i:Int)+1)])=some out→
 TT.lim 129 [.s s,.i .i64 size,.i .i64 n,.i .i64 least,.i .i64 i]=some out:=by
 intro out h
 have hb:=Ef s i
 have hx:(s[i]?).bind (fun c=>some (GV.i .u8 c.toNat))=some (.i .u8 (bJ s i)):=by rw [Uo hl];rfl
 generalize bJ s i=x at *
 have w1:=wrap64 (n:=x) (by omega) (by omega)
 refine aA rfl rfl ?_
 by_cases c1:x < 128
 ·rw [if_pos c1] at h
  rw [← h]
  simp -implicitDefEqProofs [hi,hx,w1,c1,sF]
 rw [if_neg c1] at h
 by_cases c2:192≤x
 ·rw [if_pos c2] at h
  rw [← h]
  simp -implicitDefEqProofs [hi,hx,w1,c1,c2,sF]
 rw [if_neg c2] at h
 have w2:=wrap64 (n:=64 * n) (by omega) (by omega)
 have w3:=wrap64 (n:=64 * n+x) (by omega) (by omega)
 have w4:=wrap64 (n:=64 * n+x - 128) (by omega) (by omega)
 have w5:=wrap64 (n:=(i:Int)+1) (by omega) (by omega)
 simp -implicitDefEqProofs [hi,hx,w1,c1,c2,w2,w3,w4,w5,h]
def zT (v least size:Int):Int:=if v < least then 0 else if 1114111 < v then 0 else if 55296≤v∧v < 57344 then 0 else size
abbrev fE (x:Int):Prop:=x < 128∨192≤x
def Ir (n b0 b1 b2 b3:Int):Int:=
 if n=0 then 0 else if b0 < 128 then 1 else if b0 < 192 then 0
 else if b0 < 224 then (if n < 2 then 0 else if fE b1 then 0 else zT (64 * (b0 - 192)+b1 - 128) 128 2)
 else if b0 < 240 then (if n < 3 then 0 else if fE b1∨fE b2 then 0 else zT (64 * (64 * (b0 - 224)+b1 - 128)+b2 - 128) 2048 3)
 else if b0 < 248 then (if n < 4 then 0 else if fE b1∨fE b2∨fE b3 then 0 else zT (64 * (64 * (64 * (b0 - 240)+b1 - 128)+b2 - 128)+b3 - 128) 65536 4)
 else 0
/-- What the loop comes to: two, three, four bytes. -/
theorem ajT (s:List UInt8) (n least:Int) (hl:2≤s.length) (h0:0≤n) (h1:n < 64) :
 TT.lim 129 [.s s,.i .i64 2,.i .i64 n,.i .i64 least,.i .i64 1]=some (sF (if fE (bJ s 1) then none else some (2,64 * n+bJ s 1 - 128,least))):=by
 refine DN s 2 n least 1 (by decide) (by omega) h0 (by omega) (by decide) _ ?_
 have e:=OB s 2 (64 * n+bJ s 1 - 128) least
 by_cases c:fE (bJ s 1)
 ·rw [if_pos c]
  rcases c with c | c
  ·exact if_pos c
  ·rw [if_neg (by omega)];exact if_pos c
 ·rw [if_neg c,if_neg (fun h=>c (.inl h)),if_neg (fun h=>c (.inr h))];exact e
theorem ajU (s:List UInt8) (n least:Int) (hl:3≤s.length) (h0:0≤n) (h1:n < 64) :
 TT.lim 129 [.s s,.i .i64 3,.i .i64 n,.i .i64 least,.i .i64 1]=some (sF (if fE (bJ s 1)∨fE (bJ s 2) then none else some (3,64 * (64 * n+bJ s 1 - 128)+bJ s 2 - 128,least))):=by
 have a1:=Ef s 1
 refine DN s 3 n least 1 (by decide) (by omega) h0 (by omega) (by decide) _ ?_
 by_cases c:fE (bJ s 1)
 ·rw [if_pos (show fE (bJ s 1)∨fE (bJ s 2) from .inl c)]
  rcases c with c | c
  ·exact if_pos c
  ·rw [if_neg (by omega)];exact if_pos c
 ·rw [if_neg (fun h=>c (.inl h)),if_neg (fun h=>c (.inr h))]
  have c1:128≤bJ s 1:=by omega
  refine DN s 3 _ least 2 (by decide) (by omega) (by show 0≤64 * n+bJ s 1 - 128;omega) (by show 64 * n+bJ s 1 - 128 < _;omega) (by decide) _ ?_
  have e:=OB s 3 (64 * (64 * n+bJ s 1 - 128)+bJ s 2 - 128) least
  by_cases d:fE (bJ s 2)
  ·rw [if_pos (show fE (bJ s 1)∨fE (bJ s 2) from .inr d)]
   rcases d with d | d
   ·exact if_pos d
   ·rw [if_neg (by omega)];exact if_pos d
  ·rw [if_neg (show ¬ (fE (bJ s 1)∨fE (bJ s 2)) by simp [c,d]),if_neg (fun h=>d (.inl h)),if_neg (fun h=>d (.inr h))];exact e
theorem ajV (s:List UInt8) (n least:Int) (hl:4≤s.length) (h0:0≤n) (h1:n < 64) :
 TT.lim 129 [.s s,.i .i64 4,.i .i64 n,.i .i64 least,.i .i64 1]=some (sF (if fE (bJ s 1)∨fE (bJ s 2)∨fE (bJ s 3) then none else some (4,64 * (64 * (64 * n+bJ s 1 - 128)+bJ s 2 - 128)+bJ s 3 - 128,least))):=by
 have a1:=Ef s 1
 have a2:=Ef s 2
 refine DN s 4 n least 1 (by decide) (by omega) h0 (by omega) (by decide) _ ?_
 by_cases c:fE (bJ s 1)
 ·rw [if_pos (show fE (bJ s 1)∨fE (bJ s 2)∨fE (bJ s 3) from .inl c)]
  rcases c with c | c
  ·exact if_pos c
  ·rw [if_neg (by omega)];exact if_pos c
 ·rw [if_neg (fun h=>c (.inl h)),if_neg (fun h=>c (.inr h))]
  have c1:128≤bJ s 1:=by omega
  refine DN s 4 _ least 2 (by decide) (by omega) (by show 0≤64 * n+bJ s 1 - 128;omega) (by show 64 * n+bJ s 1 - 128 < _;omega) (by decide) _ ?_
  by_cases d:fE (bJ s 2)
  ·rw [if_pos (show fE (bJ s 1)∨fE (bJ s 2)∨fE (bJ s 3) from .inr (.inl d))]
   rcases d with d | d
   ·exact if_pos d
   ·rw [if_neg (by omega)];exact if_pos d
  ·rw [if_neg (fun h=>d (.inl h)),if_neg (fun h=>d (.inr h))]
   have d1:128≤bJ s 2:=by omega
   refine DN s 4 _ least 3 (by decide) (by omega) (by show 0≤64 * (64 * n+bJ s 1 - 128)+bJ s 2 - 128;omega) (by show 64 * (64 * n+bJ s 1 - 128)+bJ s 2 - 128 < _;omega) (by decide) _ ?_
   have e:=OB s 4 (64 * (64 * (64 * n+bJ s 1 - 128)+bJ s 2 - 128)+bJ s 3 - 128) least
   by_cases f:fE (bJ s 3)
   ·rw [if_pos (show fE (bJ s 1)∨fE (bJ s 2)∨fE (bJ s 3) from .inr (.inr f))]
    rcases f with f | f
    ·exact if_pos f
    ·rw [if_neg (by omega)];exact if_pos f
   ·rw [if_neg (show ¬ (fE (bJ s 1)∨fE (bJ s 2)∨fE (bJ s 3)) by simp [c,d,f]),if_neg (fun h=>f (.inl h)),if_neg (fun h=>f (.inr h))];exact e
def Iq (s:List UInt8):Int:=Ir s.length (bJ s 0) (bJ s 1) (bJ s 2) (bJ s 3)
theorem Ov {c:Prop} [Decidable c] (x:Int×Int×Int) (h:c):sF (if c then none else some x)=[.i .i64 0]:=by rw [if_pos h];rfl
theorem Ox {c:Prop} [Decidable c] (a b d:Int) (h:¬ c):sF (if c then none else some (a,b,d))=[.i .i64 1,.i .i64 b]:=by rw [if_neg h];rfl
set_option maxHeartbeats 4000000 in
theorem ahS (s:List UInt8) (hl:s.length≤140737488351232):TT.lim 128 [.s s]=some [.i .i64 (Iq s)]:=by
 have hb:=Ef s 0
 have k2:=fun hl h0 h1=>ajT s (bJ s 0 - 192) 128 hl h0 h1
 have k3:=fun hl h0 h1=>ajU s (bJ s 0 - 224) 2048 hl h0 h1
 have k4:=fun hl h0 h1=>ajV s (bJ s 0 - 240) 65536 hl h0 h1
 unfold Iq Ir
 by_cases hn:s.length=0
 ·refine aG rfl rfl ?_ rfl
  simp -implicitDefEqProofs [hn]
 have hn':¬ (s.length:Int)=0:=by omega
 have hne:¬ s=[]:=fun e=>hn (by rw [e];rfl)
 have hx:(s[0]?).bind (fun c=>some (GV.i .u8 c.toNat))=some (.i .u8 (bJ s 0)):=by rw [Uo (by omega)];rfl
 have w1:=wrap64 (n:=bJ s 0) (by omega) (by omega)
 rw [if_neg hn']
 generalize bJ s 0=x at *
 generalize bJ s 1=b1 at *
 generalize bJ s 2=b2 at *
 generalize bJ s 3=b3 at *
 by_cases c0:x < 128
 ·refine aG rfl rfl ?_ rfl
  simp -implicitDefEqProofs [hn',hne,hx,w1,c0]
 by_cases c1:x < 192
 ·have d1:¬ 192≤x:=by omega
  have d2:¬ 224≤x:=by omega
  have d3:¬ 240≤x:=by omega
  refine aG rfl rfl ?_ rfl
  simp -implicitDefEqProofs [hn',hne,hx,w1,c0,c1,d1,d2,d3]
 have d1:192≤x:=by omega
 have w2:=wrap64 (n:=x - 192) (by omega) (by omega)
 by_cases c2:x < 224
 ·rw [if_neg c0,if_neg c1,if_pos c2]
  by_cases n2:(s.length:Int) < 2
  ·refine aG rfl rfl ?_ rfl
   simp -implicitDefEqProofs [hn',hne,hx,w1,c0,d1,c2,w2,n2]
  rw [if_neg n2]
  have k:=k2 (by omega) (by omega) (by omega)
  by_cases e1:fE b1
  ·rw [Ov _ e1] at k
   rw [if_pos e1]
   refine aG rfl rfl ?_ rfl
   simp -implicitDefEqProofs [hn',hne,hx,w1,c0,d1,c2,w2,n2,k]
  rw [Ox _ _ _ e1] at k
  rw [if_neg e1]
  generalize 64 * (x - 192)+b1 - 128=v at *
  unfold zT
  by_cases f1:v < 128
  ·refine aG rfl rfl ?_ rfl
   simp -implicitDefEqProofs [hn',hne,hx,w1,c0,d1,c2,w2,n2,k,f1]
  by_cases f2:1114111 < v
  ·refine aG rfl rfl ?_ rfl
   simp -implicitDefEqProofs [hn',hne,hx,w1,c0,d1,c2,w2,n2,k,f1,f2]
  by_cases f3:55296≤v
  ·by_cases f4:v < 57344
   ·refine aG rfl rfl ?_ rfl
    simp -implicitDefEqProofs [hn',hne,hx,w1,c0,d1,c2,w2,n2,k,f1,f2,f3,f4]
   ·refine aG rfl rfl ?_ rfl
    simp -implicitDefEqProofs [hn',hne,hx,w1,c0,d1,c2,w2,n2,k,f1,f2,f3,f4]
  ·refine aG rfl rfl ?_ rfl
   simp -implicitDefEqProofs [hn',hne,hx,w1,c0,d1,c2,w2,n2,k,f1,f2,f3]
 have d2:224≤x:=by omega
 have w3:=wrap64 (n:=x - 224) (by omega) (by omega)
 by_cases c3:x < 240
 ·rw [if_neg c0,if_neg c1,if_neg c2,if_pos c3]
  by_cases n2:(s.length:Int) < 3
  ·refine aG rfl rfl ?_ rfl
   simp -implicitDefEqProofs [hn',hne,hx,w1,c0,d1,c2,d2,c3,w3,n2]
  rw [if_neg n2]
  have k:=k3 (by omega) (by omega) (by omega)
  by_cases e1:fE b1∨fE b2
  ·rw [Ov _ e1] at k
   rw [if_pos e1]
   refine aG rfl rfl ?_ rfl
   simp -implicitDefEqProofs [hn',hne,hx,w1,c0,d1,c2,d2,c3,w3,n2,k]
  rw [Ox _ _ _ e1] at k
  rw [if_neg e1]
  generalize 64 * (64 * (x - 224)+b1 - 128)+b2 - 128=v at *
  unfold zT
  by_cases f1:v < 2048
  ·refine aG rfl rfl ?_ rfl
   simp -implicitDefEqProofs [hn',hne,hx,w1,c0,d1,c2,d2,c3,w3,n2,k,f1]
  by_cases f2:1114111 < v
  ·refine aG rfl rfl ?_ rfl
   simp -implicitDefEqProofs [hn',hne,hx,w1,c0,d1,c2,d2,c3,w3,n2,k,f1,f2]
  by_cases f3:55296≤v
  ·by_cases f4:v < 57344
   ·refine aG rfl rfl ?_ rfl
    simp -implicitDefEqProofs [hn',hne,hx,w1,c0,d1,c2,d2,c3,w3,n2,k,f1,f2,f3,f4]
   ·refine aG rfl rfl ?_ rfl
    simp -implicitDefEqProofs [hn',hne,hx,w1,c0,d1,c2,d2,c3,w3,n2,k,f1,f2,f3,f4]
  ·refine aG rfl rfl ?_ rfl
   simp -implicitDefEqProofs [hn',hne,hx,w1,c0,d1,c2,d2,c3,w3,n2,k,f1,f2,f3]
 have d3:240≤x:=by omega
 have w4:=wrap64 (n:=x - 240) (by omega) (by omega)
 by_cases c4:x < 248
 ·rw [if_neg c0,if_neg c1,if_neg c2,if_neg c3,if_pos c4]
  by_cases n2:(s.length:Int) < 4
  ·refine aG rfl rfl ?_ rfl
   simp -implicitDefEqProofs [hn',hne,hx,w1,c0,d1,c2,d2,c3,d3,c4,w4,n2]
  rw [if_neg n2]
  have k:=k4 (by omega) (by omega) (by omega)
  by_cases e1:fE b1∨fE b2∨fE b3
  ·rw [Ov _ e1] at k
   rw [if_pos e1]
   refine aG rfl rfl ?_ rfl
   simp -implicitDefEqProofs [hn',hne,hx,w1,c0,d1,c2,d2,c3,d3,c4,w4,n2,k]
  rw [Ox _ _ _ e1] at k
  rw [if_neg e1]
  generalize 64 * (64 * (64 * (x - 240)+b1 - 128)+b2 - 128)+b3 - 128=v at *
  unfold zT
  by_cases f1:v < 65536
  ·refine aG rfl rfl ?_ rfl
   simp -implicitDefEqProofs [hn',hne,hx,w1,c0,d1,c2,d2,c3,d3,c4,w4,n2,k,f1]
  by_cases f2:1114111 < v
  ·refine aG rfl rfl ?_ rfl
   simp -implicitDefEqProofs [hn',hne,hx,w1,c0,d1,c2,d2,c3,d3,c4,w4,n2,k,f1,f2]
  by_cases f3:55296≤v
  ·by_cases f4:v < 57344
   ·refine aG rfl rfl ?_ rfl
    simp -implicitDefEqProofs [hn',hne,hx,w1,c0,d1,c2,d2,c3,d3,c4,w4,n2,k,f1,f2,f3,f4]
   ·refine aG rfl rfl ?_ rfl
    simp -implicitDefEqProofs [hn',hne,hx,w1,c0,d1,c2,d2,c3,d3,c4,w4,n2,k,f1,f2,f3,f4]
  ·refine aG rfl rfl ?_ rfl
   simp -implicitDefEqProofs [hn',hne,hx,w1,c0,d1,c2,d2,c3,d3,c4,w4,n2,k,f1,f2,f3]
 ·refine aG rfl rfl ?_ rfl
  simp -implicitDefEqProofs [hn',hne,hx,w1,c0,c1,d1,c2,d2,c3,d3,c4]
set_option maxHeartbeats 8000000 in
/-- It is the model's own way of decoding. -/
theorem ahV (n b0 b1 b2 b3:Nat) (hn:0 < n) (h0:b0 < 256) (h1:b1 < 256) (h2:b2 < 256) (h3:b3 < 256):Ir n b0 b1 b2 b3=if (Lib.decodeN n b0 b1 b2 b3).1=65533∧(Lib.decodeN n b0 b1 b2 b3).2=1 then 0 else ((Lib.decodeN n b0 b1 b2 b3).2:Nat):=by
 generalize hd:Lib.decodeN n b0 b1 b2 b3=d
 unfold Lib.decodeN at hd
 unfold Ir zT
 rw [if_neg (by omega)]
 repeat' split at hd
 all_goals subst hd
 all_goals dsimp only
 ·rw [if_pos (by omega),if_neg (by omega)];rfl
 all_goals rw [if_neg (show ¬ (b0:Int) < 128 by omega)]
 all_goals first | rw [if_neg (by omega)] | rw [if_pos (show True∧True from ⟨trivial,trivial⟩)] | skip
 all_goals (repeat' split)
 all_goals first | omega | (simp only [not_true_eq_false,and_self] at *;omega)
theorem ahU (s:List UInt8) (hne:s≠[]):Iq s=if (Lib.decodeL s).1=65533∧(Lib.decodeL s).2=1 then 0 else ((Lib.decodeL s).2:Nat):=by
 unfold Iq bJ
 rw [Lib.decodeL_N]
 exact ahV _ _ _ _ _ (List.length_pos_iff.2 hne) (UInt8.toNat_lt _) (UInt8.toNat_lt _) (UInt8.toNat_lt _) (UInt8.toNat_lt _)
theorem ag1 (s:List UInt8):1≤(Lib.decodeL s).2:=by
 rw [Lib.decodeL_N]
 rcases Lib.decodeN_shape s.length (s.getD 0 0).toNat (s.getD 1 0).toNat (s.getD 2 0).toNat (s.getD 3 0).toNat with ⟨_,e⟩ | ⟨_,_,_,_,e⟩ | ⟨_,_,_,_,_,_,e⟩ | ⟨_,_,_,_,_,_,_,e⟩ | e
 all_goals rw [e];dsimp only;omega
theorem ab2:∀ (n:Nat) (s:List UInt8),s.length≤n→s.length≤140737488351232→TT.lim 127 [.s s]=some (if Lib.validGoD n s=true then [.i .i64 1] else [.i .i64 0])
 | 0,s,hn,hl=>by
  obtain rfl:s=[]:=List.eq_nil_of_length_eq_zero (by omega)
  refine aA rfl rfl ?_
  simp -implicitDefEqProofs [Lib.validGoD]
 | n+1,s,hn,hl=>by
  by_cases hne:s=[]
  ·subst hne
   refine aA rfl rfl ?_
   simp -implicitDefEqProofs [Lib.validGoD]
  have hp:=List.length_pos_iff.2 hne
  have k:=ahS s hl
  have hf:=ahU s hne
  have hle:=Lib.decodeL_le s hne
  have hd:=ag1 s
  have hp':(0:Int) < (s.length:Int):=by omega
  unfold Lib.validGoD
  rw [if_neg hne]
  by_cases c:(Lib.decodeL s).1=65533∧(Lib.decodeL s).2=1
  ·rw [if_pos c] at hf
   rw [hf] at k
   rw [if_pos c]
   refine aA rfl rfl ?_
   simp -implicitDefEqProofs [hp,hp',k]
  ·rw [if_neg c] at hf
   rw [hf] at k
   rw [if_neg c]
   have ih:=ab2 n (s.drop (Lib.decodeL s).2) (by simp;omega) (by simp;omega)
   generalize (Lib.decodeL s).2=w at *
   have hw:¬ w=0:=by omega
   have ht:List.take s.length s=s:=List.take_length
   refine aA rfl rfl ?_
   simp -implicitDefEqProofs [hp,hp',k,hw,hle,ht,ih]
theorem aif (s:List UInt8) (h:s.length≤140737488351232):TT.lim 126 [.s s]=some [.b (Lib.validD s)]:=by
 have k:=ab2 s.length s (Nat.le_refl _) h
 unfold Lib.validD
 refine aG rfl rfl ?_ rfl
 cases hv:Lib.validGoD s.length s<;>rw [hv] at k<;>simp at k<;>simp [k]
theorem EF (s:List UInt8) (lo hi:Int) (h:s.length≤140737488351232):TT.lim 125 [.s s,.i .i64 lo,.i .i64 hi]=some [.i .i64 (iY s lo hi)]:=by
 have h20:=aif s h
 refine aG rfl rfl ?_ rfl
 unfold iY
 by_cases h1:(s.length:Int) < lo
 ·simp -implicitDefEqProofs [h1]
 ·by_cases h2:hi < (s.length:Int)
  ·simp -implicitDefEqProofs [h1,h2]
  ·cases hv:Lib.validD s<;>rw [hv] at h20<;>simp [h1,h2,h20,hv]
theorem ag6 (x:dW) (h1:x.1.length≤140737488351232) (h2:x.2.length≤140737488351232):TT.lim 124 [ent x]=some [.i .i64 (vU x)]:=by
 have k1:=EF x.1 1 64 h1
 have k2:=EF x.2 0 256 h2
 refine aG rfl rfl ?_ rfl
 unfold vU
 by_cases h:iY x.1 1 64=0
 ·simp -implicitDefEqProofs [k1,h,k2]
 ·simp -implicitDefEqProofs [k1,h]
def uJ:List UInt8→List UInt8→Option Bool
 | x::a,y::b=>if x=y then uJ a b else some (decide (x < y))
 | _,_=>none
theorem Vs:∀a b:List UInt8,Op.bytesLess a b=(uJ a b).getD (decide (a.length < b.length))
 | [],[]=>rfl
 | [],_::_=>by simp [Op.bytesLess,uJ]
 | _::_,[]=>by simp [Op.bytesLess,uJ]
 | x::a,y::b=>by
  unfold Op.bytesLess uJ
  rw [Vs a b]
  by_cases h:x=y
  ·subst h
   simp -implicitDefEqProofs [UInt8.lt_irrefl]
  ·simp -implicitDefEqProofs [h]
def Du (a b:List UInt8):Option Bool→List GV
 | some r=>[.i .i64 0,.b r]
 | none=>[.i .i64 1]
theorem ab3 (a b:List UInt8) (ha:a.length≤140737488351232) (hb:b.length≤140737488351232):∀m i:Nat,i+m=a.length→TT.lim 133 [.s a,.s b,.i .i64 i]=some (Du a b (uJ (a.drop i) (b.drop i)))
 | 0,i,hi=>by
  have h0:a.drop i=[]:=List.drop_eq_nil_of_le (by omega)
  have h:¬ ((i:Int) < a.length):=by omega
  refine aA rfl rfl ?_
  simp -implicitDefEqProofs [h,h0,uJ,Du]
 | m+1,i,hi=>by
  have hlt:i < a.length:=by omega
  have h:((i:Int) < a.length):=by omega
  by_cases hlb:i < b.length
  rotate_left
  ·have h0:b.drop i=[]:=List.drop_eq_nil_of_le (by omega)
   have h1:¬ ((i:Int) < b.length):=by omega
   have hd:uJ (a.drop i) []=none:=by cases a.drop i<;>rfl
   refine aA rfl rfl ?_
   simp -implicitDefEqProofs [h,h0,h1,hd,Du]
  have hb1:((i:Int) < b.length):=by omega
  have ih:TT.lim 133 [.s a,.s b,.i .i64 ((i:Int)+1)]=_:=ab3 a b ha hb m (i+1) (by omega)
  have hw:=wrap64 (n:=(i:Int)+1) (by omega) (by omega)
  rw [List.drop_eq_getElem_cons hlt,List.drop_eq_getElem_cons hlb]
  unfold uJ
  by_cases e:a[i]=b[i]
  ·rw [if_pos e]
   have e':((a[i].toNat:Int)=(b[i].toNat:Int))=True:=eq_true (by rw [e])
   refine aA rfl rfl ?_
   simp -implicitDefEqProofs [h,hlt,hlb,hb1,e',hw,ih]
  ·rw [if_neg e]
   have e':¬ (a[i].toNat:Int)=(b[i].toNat:Int):=fun h=>e (UInt8.toNat_inj.1 (by omega))
   have hd:decide (a[i] < b[i])=decide (a[i].toNat < b[i].toNat):=by rw [Bool.eq_iff_iff];simp [UInt8.lt_iff_toNat_lt]
   refine aA rfl rfl ?_
   simp -implicitDefEqProofs [h,hlt,hlb,hb1,e',hd,Du]
theorem abN (a b:List UInt8) (ha:a.length≤140737488351232) (hb:b.length≤140737488351232):TT.lim 132 [.s a,.s b]=some [.b (Op.bytesLess a b)]:=by
 have k:TT.lim 133 [.s a,.s b,.i .i64 0]=_:=ab3 a b ha hb a.length 0 (by omega)
 rw [List.drop_zero,List.drop_zero] at k
 rw [Vs]
 refine aG rfl rfl ?_ rfl
 cases hd:uJ a b with
 | none=>
  rw [hd] at k
  have hl:decide ((a.length:Int) < (b.length:Int))=decide (a.length < b.length):=by rw [Bool.eq_iff_iff];simp
  simp -implicitDefEqProofs [k,Du,hl]
 | some r=>
  rw [hd] at k
  simp -implicitDefEqProofs [k,Du]
def Cb (x y:dW):Int:=if Op.bytesLess x.1 y.1=true then -1 else if x.1=y.1∧Op.bytesLess x.2 y.2=true then -1 else if x=y then 0 else 1
structure Eb (x:dW):Prop where
 key:x.1.length≤140737488351232
 val:x.2.length≤140737488351232
theorem XV (x y:dW) (hx:Eb x) (hy:Eb y):TT.lim 131 [ent x,ent y]=some [.i .i64 (Cb x y)]:=by
 have k1:=abN x.1 y.1 hx.key hy.key
 have k2:=abN x.2 y.2 hx.val hy.val
 have ke:=ahb x y
 unfold Cb
 refine aG rfl rfl ?_ rfl
 cases h1:Op.bytesLess x.1 y.1 with
 | true=>rw [h1] at k1;simp [k1]
 | false=>
  rw [h1] at k1
  by_cases h2:x.1=y.1
  ·have h2':(x.1=y.1)=True:=eq_true h2
   clear h2
   cases h3:Op.bytesLess x.2 y.2 with
   | true=>rw [h3] at k2;simp [k1,h2',k2]
   | false=>
    rw [h3] at k2
    by_cases h4:x=y
    ·have h4':decide (x=y)=true:=by simp [h4]
     rw [h4'] at ke
     have ail:(x=y)=True:=eq_true h4
     clear h4
     simp -implicitDefEqProofs [k1,h2',k2,ke,ail]
    ·have h4':decide (x=y)=false:=by simp [h4]
     rw [h4'] at ke
     simp -implicitDefEqProofs [k1,h2',k2,ke,h4]
  ·by_cases h4:x=y
   ·exact absurd (by rw [h4]) h2
   ·have h4':decide (x=y)=false:=by simp [h4]
    rw [h4'] at ke
    simp -implicitDefEqProofs [k1,h2,ke,h4]
def zF (p x:List UInt8):Int:=if x=p then 14 else if Op.bytesLess x p=true then 7 else 0
theorem afn (p x:dW) (hp:Eb p) (hx:Eb x):TT.lim 130 [ent p,ent x]=some [.i .i64 (zF p.1 x.1)]:=by
 have k:=XV p x hp hx
 have e1:GV.g [.s p.1,.s p.2]=ent p:=rfl
 have e2:GV.g [.s x.1,.s x.2]=ent x:=rfl
 unfold zF
 by_cases h1:x.1=p.1
 ·have h1':(p.1=x.1)=True:=eq_true h1.symm
  rw [if_pos h1]
  refine aG rfl rfl ?_ rfl
  simp -implicitDefEqProofs [h1']
 rw [if_neg h1]
 have h1':¬ p.1=x.1:=fun e=>h1 e.symm
 have hne:¬ p=x:=fun e=>h1' (by rw [e])
 have hc:Cb p x=if Op.bytesLess x.1 p.1=true then 1 else -1:=by
  unfold Cb
  by_cases h2:p.1 < x.1
  ·rw [if_pos ((vO _ _).2 h2),if_neg fun h=>List.lt_irrefl _ (List.lt_trans h2 ((vO _ _).1 h))]
  ·have h3:x.1 < p.1:=by
    rcases List.le_iff_lt_or_eq.1 (List.not_lt.1 h2) with h | h
    ·exact h
    ·exact absurd h h1
   rw [if_neg fun h=>h2 ((vO _ _).1 h),if_neg fun h=>h1' h.1,if_neg hne,if_pos ((vO _ _).2 h3)]
 rw [hc] at k
 refine aG rfl rfl ?_ rfl
 cases h3:Op.bytesLess x.1 p.1 with
 | true=>rw [h3] at k;simp [h1',e1,e2,k]
 | false=>rw [h3] at k;simp [h1',e1,e2,k]
theorem oH.small {d:List dW} (h:oH d):∀x∈d,Eb x:=fun x hx=>⟨(h.2 x hx).1,(h.2 x hx).2⟩
theorem Qv (d:List dW) (e i:Int) (he:e≠0):TT.lim 123 [.l (d.map ent),.i .i64 e,.i .i64 i]=some [.i .i64 0,.i .i64 e]:=by
 refine aA rfl rfl ?_
 by_cases h:i < (d.length:Int)
 ·simp -implicitDefEqProofs [h,he]
 ·simp -implicitDefEqProofs [h]
theorem ab1 (d:List dW) (hd:oH d):∀m i:Nat,i+m=d.length→TT.lim 123 [.l (d.map ent),.i .i64 0,.i .i64 i]=some [.i .i64 0,.i .i64 (jG (prevK d i) (d.drop i))]
 | 0,i,hi=>by
  have h0:d.drop i=[]:=List.drop_eq_nil_of_le (by omega)
  refine aA rfl rfl ?_
  have h:¬ ((i:Int) < d.length):=by omega
  simp -implicitDefEqProofs [h,h0,jG]
 | m+1,i,hi=>by
  have hlt:i < d.length:=by omega
  have hx:=hd.small d[i] (List.getElem_mem hlt)
  have hp:=ag6 d[i] hx.key hx.val
  have ih:TT.lim 123 [.l (d.map ent),.i .i64 0,.i .i64 ((i:Int)+1)]=_:=ab1 d hd m (i+1) (by omega)
  have hst:=fun e he=>Qv d e ((i:Int)+1) he
  have hpk:prevK d (i+1)=some d[i].1:=by unfold prevK;rw [if_neg (by omega)];simp [hlt]
  rw [hpk] at ih
  have hdr:d.drop i=d[i]::d.drop (i+1):=List.drop_eq_getElem_cons hlt
  rw [hdr]
  have h:((i:Int) < d.length):=by omega
  have hw:=wrap64 (n:=(i:Int)+1) (by omega) (by have:=hd.1;omega)
  have he:GV.g [GV.s d[i].1,GV.s d[i].2]=ent d[i]:=rfl
  by_cases h1:vU d[i]=0
  rotate_left
  ·have hs:=hst _ h1
   have hc:jG (prevK d i) (d[i]::d.drop (i+1))=vU d[i]:=by
    cases prevK d i<;>simp [jG,h1]
   rw [hc]
   refine aA rfl rfl ?_
   simp -implicitDefEqProofs [h,hlt,he,hp,h1,hw,hs]
  by_cases h0:i=0
  ·subst h0
   have hc:jG (prevK d 0) (d[0]::d.drop 1)=jG (some d[0].1) (d.drop 1):=by simp [prevK,jG,h1]
   rw [hc]
   simp only [Int.natCast_zero,Int.zero_add] at hw ih
   have hpos:(0:Int) < (d.length:Int):=by omega
   generalize jG (some d[0].1) (d.drop 1)=out at *
   refine aA rfl rfl ?_
   simp -implicitDefEqProofs [h,hlt,hpos,he,hp,h1,hw,ih]
  ·have hi1:i - 1 < d.length:=by omega
   have hpk2:prevK d i=some d[i - 1].1:=by unfold prevK;rw [if_neg h0];simp [hi1]
   have hw2:=wrap64 (n:=(i:Int) - 1) (by omega) (by have:=hd.1;omega)
   have hi0:(0:Int) < (i:Int):=by omega
   have abh:0 < i:=by omega
   have ht:((i:Int) - 1).toNat=i - 1:=by omega
   have hnl:(1:Int)≤(i:Int):=by omega
   have hge:(0:Int)≤(i:Int) - 1:=by omega
   have hy:=hd.small d[i - 1] (List.getElem_mem hi1)
   have kb:=afn d[i - 1] d[i] hy hx
   have he2:GV.g [GV.s d[i - 1].1,GV.s d[i - 1].2]=ent d[i - 1]:=rfl
   have hc:jG (prevK d i) (d[i]::d.drop (i+1))=if zF d[i - 1].1 d[i].1≠0 then zF d[i - 1].1 d[i].1 else jG (some d[i].1) (d.drop (i+1)):=by
    rw [hpk2]
    unfold zF
    conv=>lhs;unfold jG
    rw [if_neg (by simp [h1])]
    by_cases q1:d[i].1=d[i - 1].1
    ·simp -implicitDefEqProofs [q1]
    ·by_cases q2:Op.bytesLess d[i].1 d[i - 1].1=true
     ·simp -implicitDefEqProofs [q1,q2]
     ·simp -implicitDefEqProofs [q1,q2]
   rw [hc]
   have hst2:=hst (zF d[i - 1].1 d[i].1)
   generalize zF d[i - 1].1 d[i].1=bb at *
   generalize jG (some d[i].1) (d.drop (i+1))=out at *
   by_cases hb:bb=0
   ·subst hb
    refine aA rfl rfl ?_
    simp -implicitDefEqProofs [h,hlt,he,he2,hp,h1,hi0,abh,hw2,ht,hge,hi1,hnl,kb,hw,ih]
   ·have hs:=hst2 hb
    refine aA rfl rfl ?_
    simp -implicitDefEqProofs [h,hlt,he,he2,hp,h1,hi0,abh,hw2,ht,hge,hi1,hnl,kb,hw,hb,hs]
theorem XP (d:List dW) (hd:oH d):TT.lim 122 [.l (d.map ent)]=some [.i .i64 (og d)]:=by
 have h17:TT.lim 123 [.l (d.map ent),.i .i64 0,.i .i64 0]=_:=ab1 d hd d.length 0 (by omega)
 have hpk:prevK d 0=none:=rfl
 rw [hpk,List.drop_zero] at h17
 have w1:=fU (n:=(d.length:Int)) (by omega) (by have:=hd.1;omega)
 have s1:=Qv d 12 0 (by decide)
 have s2:=Qv d 13 0 (by decide)
 refine aG rfl rfl ?_ rfl
 unfold og
 by_cases h0:d.length=0
 ·have:d=[]:=List.eq_nil_of_length_eq_zero h0
  subst this
  simp only [List.map_nil] at s1
  simp -implicitDefEqProofs [IntKind.wrap,IntKind.signed,s1]
 ·have hne:¬ d=[]:=fun e=>h0 (by rw [e];rfl)
  by_cases h1:16 < d.length
  ·have h1':(16:Int) < (d.length:Int):=by omega
   simp -implicitDefEqProofs [w1,h0,hne,h1,h1',s2]
  ·have h1':¬ (16:Int) < (d.length:Int):=by omega
   simp -implicitDefEqProofs [w1,h0,hne,h1,h1',h17]
theorem amK (r:Row) (hd:oH r.1):TT.lim 121 [row r]=some [.i .i64 (mX r)]:=by
 have k:=XP r.1 hd
 refine aG rfl rfl ?_ rfl
 unfold mX
 by_cases h:og r.1=0
 ·by_cases h2:r.2=0
  ·simp -implicitDefEqProofs [k,h,h2]
  ·simp -implicitDefEqProofs [k,h,h2]
 ·simp -implicitDefEqProofs [k,h]
theorem abY (d:List dW) (hd:d.length≤40):∀ (m i:Nat) (acc:List dW),i+m=d.length→acc.length=i→TT.lim 22 [.l (acc.map ent),.l (d.map ent),.i .i64 d.length,.i .i64 i]=some [.i .i64 0,.l ((acc++d.drop i).map ent)]
 | 0,i,acc,hi,ha=>by
  have h0:d.drop i=[]:=List.drop_eq_nil_of_le (by omega)
  have h:¬ ((i:Int) < d.length):=by omega
  refine aA rfl rfl ?_
  simp -implicitDefEqProofs [h,h0]
 | m+1,i,acc,hi,ha=>by
  have hlt:i < d.length:=by omega
  have ih:TT.lim 22 [.l ((acc++[d[i]]).map ent),.l (d.map ent),.i .i64 d.length,.i .i64 ((i:Int)+1)]=_:=abY d hd m (i+1) (acc++[d[i]]) (by omega) (by simp;omega)
  rw [List.append_assoc,List.singleton_append,← List.drop_eq_getElem_cons hlt] at ih
  generalize hL:(acc++d.drop i).map ent=L at ih ⊢
  simp only [List.map_append,List.map_cons,List.map_nil] at ih
  have h:((i:Int) < d.length):=by omega
  have hw:=wrap64 (n:=(i:Int)+1) (by omega) (by omega)
  have he:GV.g [GV.s d[i].1,GV.s d[i].2]=ent d[i]:=rfl
  have hok:(ent d[i]).gJ 2=true:=rfl
  have hb:2 * (acc.length+1) * 32≤281474976710656∧acc.length+1≤281474976710656:=by omega
  refine aA rfl rfl ?_
  simp -implicitDefEqProofs [h,hlt,he,hok,hb,hw,ih]
theorem aey (d:List dW) (hd:d.length≤40):TT.lim 21 [.l (d.map ent)]=some [.l (d.map ent)]:=by
 have k:TT.lim 22 [.l [],.l (d.map ent),.i .i64 d.length,.i .i64 0]=_:=abY d hd d.length 0 [] (by omega) rfl
 rw [List.drop_zero,List.nil_append] at k
 refine aG rfl rfl ?_ rfl
 simp -implicitDefEqProofs [k]
theorem abX (l:List Row) (hl:l.length≤300) (hf:oI l):∀ (m i:Nat) (acc:List Row),i+m=l.length→acc.length=i→TT.lim 24 [.l (acc.map row),.l (l.map row),.i .i64 l.length,.i .i64 i]=some [.i .i64 0,.l ((acc++l.drop i).map row)]
 | 0,i,acc,hi,ha=>by
  have h0:l.drop i=[]:=List.drop_eq_nil_of_le (by omega)
  have h:¬ ((i:Int) < l.length):=by omega
  refine aA rfl rfl ?_
  simp -implicitDefEqProofs [h,h0]
 | m+1,i,acc,hi,ha=>by
  have hlt:i < l.length:=by omega
  have ih:TT.lim 24 [.l ((acc++[l[i]]).map row),.l (l.map row),.i .i64 l.length,.i .i64 ((i:Int)+1)]=_:=abX l hl hf m (i+1) (acc++[l[i]]) (by omega) (by simp;omega)
  rw [List.append_assoc,List.singleton_append,← List.drop_eq_getElem_cons hlt] at ih
  generalize hL:(acc++l.drop i).map row=L at ih ⊢
  simp only [List.map_append,List.map_cons,List.map_nil] at ih
  have k:=aey l[i].1 (OQ (hf _ (List.getElem_mem hlt)))
  have h:((i:Int) < l.length):=by omega
  have hw:=wrap64 (n:=(i:Int)+1) (by omega) (by omega)
  have he:GV.g [GV.l (l[i].1.map ent),GV.i .u64 l[i].2]=row l[i]:=rfl
  have hok:(row l[i]).gJ 2=true:=rfl
  have hb:2 * (acc.length+1) * 32≤281474976710656∧acc.length+1≤281474976710656:=by omega
  refine aA rfl rfl ?_
  simp -implicitDefEqProofs [h,hlt,k,he,hok,hb,hw,ih]
theorem aqo (l:List Row) (hl:zx l):TT.lim 23 [.l (l.map row)]=some [.l (l.map row)]:=by
 have k:TT.lim 24 [.l [],.l (l.map row),.i .i64 l.length,.i .i64 0]=_:=abX l hl.len hl.few l.length 0 [] (by omega) rfl
 rw [List.drop_zero,List.nil_append] at k
 refine aG rfl rfl ?_ rfl
 simp -implicitDefEqProofs [k]
theorem aqm (n:Nat):(n:Int).tmod 128=((n % 128:Nat):Int):=by rw [Int.tmod_eq_emod_of_nonneg (by omega)];omega
theorem aqk (n:Nat):(n:Int).tdiv 128=((n / 128:Nat):Int):=by rw [Int.tdiv_eq_ediv_of_nonneg (by omega)];omega
theorem Vr (n:Nat) (h:n < 256):jc [.i .u8 (n:Int)]=some [UInt8.ofNat n]:=by
 have:=Oe [n] (by simpa using h)
 simpa [gq] using this
theorem add_one (s:List UInt8) (c:UInt8) (h:s.length≤1000000):eY .add (some (.s s)) (some (.s [c]))=some (.s (s++[c])):=by
 rw [NZ,if_pos (by simp only [List.length_singleton];omega)]
theorem apb (n a b q:Int) (s c r:List UInt8) (h':127 < n) (e1:n.tmod 128=a) (e2:n.tdiv 128=b) (w1:IntKind.u64.wrap (a+128)=a+128) (w2:IntKind.u8.wrap (a+128)=a+128) (w3:IntKind.u64.wrap b=b)
 (e3:jc [.i .u8 (a+128)]=some c) (hb:eY .add (some (.s s)) (some (.s c))=some (.s (s++c))) (k:TT.lim 115 [.i .u64 b,.s (s++c)]=some [.i .i64 0,.i .u64 q,.s (s++(c++r))]) :
 TT.lim 115 [.i .u64 n,.s s]=some [.i .i64 0,.i .u64 q,.s (s++(c++r))]:=by
 refine aA rfl rfl ?_
 simp -implicitDefEqProofs [-NZ,h',e1,e2,w1,w2,w3,e3,hb,k]
theorem alJ (n q:Int) (r c:List UInt8) (k:TT.lim 115 [.i .u64 n,.s []]=some [.i .i64 0,.i .u64 q,.s r]) (w:IntKind.u8.wrap q=q) (e:jc [.i .u8 q]=some c) (hr:eY .add (some (.s r)) (some (.s c))=some (.s (r++c))) :
 TT.lim 114 [.i .u64 n]=some [.s (r++c)]:=by
 refine aG rfl rfl ?_ rfl
 simp -implicitDefEqProofs [-NZ,k,w,e,hr]
theorem ajW:∀n:Nat,n < 18446744073709551616→∃q r,q < 128∧r++[UInt8.ofNat q]=aQ n∧∀s:List UInt8,s.length+(aQ n).length≤1000→TT.lim 115 [.i .u64 n,.s s]=some [.i .i64 0,.i .u64 (q:Nat),.s (s++r)]:=by
 intro n
 induction n using Nat.strongRecOn with
 | _ n ih=>
  intro hn
  by_cases h:n < 128
  ·refine ⟨n,[],h,by rw [Gu h,List.nil_append],fun s hs=>?_⟩
   have h':¬ (127:Int) < (n:Int):=by omega
   refine aA rfl rfl ?_
   simp -implicitDefEqProofs [h']
  ·obtain ⟨q,r,h1,h2,h3⟩:=ih (n / 128) (by omega) (by omega)
   refine ⟨q,[UInt8.ofNat (n % 128+128)]++r,h1,by rw [Na h,← h2,List.append_assoc,List.singleton_append],fun s hs=>?_⟩
   rw [Na h,List.length_cons] at hs
   have k:=h3 (s++[UInt8.ofNat (n % 128+128)]) (by simp;omega)
   rw [List.append_assoc] at k
   have e3:=Vr (n % 128+128) (by omega)
   rw [show ((n % 128+128:Nat):Int)=((n % 128:Nat):Int)+128 by omega] at e3
   exact apb n _ _ q s _ r (by omega) (aqm n) (aqk n) (fU (by omega) (by omega)) (Nk (by omega) (by omega)) (fU (by omega) (by omega)) e3 (add_one s _ (by omega)) k
theorem qP (n:Nat) (hn:n < 18446744073709551616):TT.lim 114 [.i .u64 n]=some [.s (aQ n)]:=by
 obtain ⟨q,r,h1,h2,h3⟩:=ajW n hn
 have hl:=fM hn
 have k:=h3 [] (by simp;omega)
 rw [List.nil_append] at k
 rw [← h2]
 exact alJ n q r _ k (Nk (by omega) (by omega)) (Vr q (by omega)) (add_one r _ (by rw [← h2] at hl;simp at hl;omega))
theorem ag9 (x:dW) (h1:x.1.length≤140737488351232) (h2:x.2.length≤140737488351232):TT.lim 117 [ent x]=some [.s (iK x)]:=by
 have k1:=qP x.1.length (by omega)
 have k2:=qP x.2.length (by omega)
 have l1:=fM (n:=x.1.length) (by omega)
 have l2:=fM (n:=x.2.length) (by omega)
 have w1:=fU (n:=(x.1.length:Int)) (by omega) (by omega)
 have w2:=fU (n:=(x.2.length:Int)) (by omega) (by omega)
 have c1:((aQ x.1.length).length:Int)+(x.1.length:Int)≤9223372036854775807:=by omega
 have c2:((aQ x.1.length).length:Int)+((x.1.length:Int)+((aQ x.2.length).length:Int))≤9223372036854775807:=by omega
 have c3:((aQ x.1.length).length:Int)+((x.1.length:Int)+(((aQ x.2.length).length:Int)+(x.2.length:Int)))≤9223372036854775807:=by omega
 refine aG rfl rfl ?_ rfl
 simp -implicitDefEqProofs [w1,w2,k1,k2,c1,c2,c3,iK,Int.add_assoc]
theorem ab4 (d:List dW) (hf:d.all nG=true) (hl:d.length≤40):∀ (m i:Nat) (acc:List UInt8),i+m=d.length→acc.length≤10+620 * i→
 TT.lim 116 [.s acc,.l (d.map ent),.i .i64 d.length,.i .i64 i]=some [.i .i64 0,.s (acc++(d.drop i).flatMap iK)]
 | 0,i,acc,hi,ha=>by
  have h0:d.drop i=[]:=List.drop_eq_nil_of_le (by omega)
  refine aA rfl rfl ?_
  have h:¬ ((i:Int) < d.length):=by omega
  simp -implicitDefEqProofs [h,h0]
 | m+1,i,acc,hi,ha=>by
  have hlt:i < d.length:=by omega
  have hx:=List.all_eq_true.1 hf d[i] (List.getElem_mem hlt)
  have hx1:=hx
  unfold nG at hx1
  simp only [decide_eq_true_iff] at hx1
  have hp:=ag9 d[i] (by omega) (by omega)
  have hpl:=OC hx
  have ih:TT.lim 116 [.s (acc++iK d[i]),.l (d.map ent),.i .i64 d.length,.i .i64 ((i:Int)+1)]=_:=ab4 d hf hl m (i+1) (acc++iK d[i]) (by omega) (by simp;omega)
  have hd:(d.drop i).flatMap iK=iK d[i]++(d.drop (i+1)).flatMap iK:=by rw [List.drop_eq_getElem_cons hlt,List.flatMap_cons]
  rw [hd,← List.append_assoc]
  have h:((i:Int) < d.length):=by omega
  have hw:=wrap64 (n:=(i:Int)+1) (by omega) (by omega)
  have hb:(acc.length:Int)+((iK d[i]).length:Int)≤9223372036854775807:=by omega
  have he:GV.g [GV.s d[i].1,GV.s d[i].2]=ent d[i]:=rfl
  refine aA rfl rfl ?_
  simp -implicitDefEqProofs [h,hlt,he,hp,hb,hw,ih]
theorem Fg (d:List dW) (hf:gK d=true):TT.lim 113 [.l (d.map ent)]=some [.s (dK d)]:=by
 unfold gK at hf
 rw [Bool.and_eq_true,decide_eq_true_iff] at hf
 have k:=qP d.length (by omega)
 have l1:=fM (n:=d.length) (by omega)
 have w1:=fU (n:=(d.length:Int)) (by omega) (by omega)
 have h11:TT.lim 116 [.s (aQ d.length),.l (d.map ent),.i .i64 d.length,.i .i64 0]=_:=ab4 d hf.1 hf.2 d.length 0 (aQ d.length) (by omega) (by omega)
 rw [List.drop_zero] at h11
 refine aG rfl rfl ?_ rfl
 unfold dK
 generalize d.flatMap iK=F at *
 simp -implicitDefEqProofs [w1,k,h11]
theorem Ah {d:List dW} (hf:gK d=true):(dK d).length≤30000:=by
 unfold gK at hf
 rw [Bool.and_eq_true,decide_eq_true_iff] at hf
 have l1:=fM (n:=d.length) (by omega)
 have:=OU d hf.1
 unfold dK
 simp only [List.length_append];omega
theorem ajK (a b:List UInt8) (ha:a.length≤140737488351232) (hb:b.length≤140737488351232):TT.lim 134 [.s a,.s b]=some [.b (Op.bytesLess a b)]:=by
 have k:=XV (a,[]) (b,[]) ⟨ha,by simp⟩ ⟨hb,by simp⟩
 have e1:GV.g [.s a,.s []]=ent (a,[]):=rfl
 have e2:GV.g [.s b,.s []]=ent (b,[]):=rfl
 have hc:decide (Cb (a,[]) (b,[]) < 0)=Op.bytesLess a b:=by
  unfold Cb
  cases h:Op.bytesLess a b with
  | true=>simp
  | false=>
   simp only [Bool.false_eq_true,if_false]
   rw [if_neg (by simp [Op.bytesLess])]
   split<;>rfl
 refine aG rfl rfl ?_ rfl
 simp -implicitDefEqProofs [e1,e2,k,hc]
theorem abZ (t:List Row) (ht:Rows t) (hf:oI t) (h256:t.length≤256):∀m i:Nat,i+m=t.length→
 TT.lim 120 [.l (t.map row),.i .i64 t.length,.i .i64 i]=some (tagged (iF (if h:0 < i then (t[i - 1]?).map K else none) (t.drop i)))
 | 0,i,hi=>by
  have h0:t.drop i=[]:=List.drop_eq_nil_of_le (by omega)
  have h:¬ ((i:Int) < t.length):=by omega
  refine aA rfl rfl ?_
  simp -implicitDefEqProofs [h,h0,iF,tagged]
 | m+1,i,hi=>by
  have hlt:i < t.length:=by omega
  have hr:=ht.2 t[i] (List.getElem_mem hlt)
  have fr:=hf t[i] (List.getElem_mem hlt)
  have k15:=amK t[i] hr.1
  have k6:=Fg t[i].1 fr
  have hrow:GV.g [.l (t[i].1.map ent),.i .u64 t[i].2]=row t[i]:=rfl
  have ih:TT.lim 120 [.l (t.map row),.i .i64 t.length,.i .i64 ((i:Int)+1)]=_:=abZ t ht hf h256 m (i+1) (by omega)
  have hpk:(if h:0 < i+1 then (t[i+1 - 1]?).map K else none)=some (K t[i]):=by simp [hlt]
  rw [hpk] at ih
  rw [List.drop_eq_getElem_cons hlt]
  have h:((i:Int) < t.length):=by omega
  have hw:=wrap64 (n:=(i:Int)+1) (by omega) (by omega)
  by_cases h1:mX t[i]=0
  rotate_left
  ·have hc:∀p,iF p (t[i]::t.drop (i+1))=mX t[i]:=fun p=>by unfold iF;rw [if_pos h1]
   rw [hc]
   have ht1:tagged (mX t[i])=[.i .i64 0,.i .i64 (mX t[i])]:=by unfold tagged;rw [if_neg h1]
   rw [ht1]
   refine aA rfl rfl ?_
   simp -implicitDefEqProofs [-List.getElem_cons_drop,h,hlt,hrow,k15,h1]
  by_cases h0:i=0
  ·subst h0
   have hc:iF (if h:0 < 0 then (t[0 - 1]?).map K else none) (t[0]::t.drop (0+1))=iF (some (K t[0])) (t.drop (0+1)):=by
    conv=>lhs;unfold iF
    simp -implicitDefEqProofs [h1]
   rw [hc]
   generalize tagged (iF (some (K t[0])) (t.drop (0+1)))=out at *
   simp only [Int.natCast_zero,Int.zero_add] at hw ih
   have hn:(0:Int) < (t.length:Int):=by omega
   refine aA rfl rfl ?_
   simp -implicitDefEqProofs [-List.getElem_cons_drop,h,hlt,hn,hrow,k15,h1,k6,hw,ih]
  ·have hi0:0 < i:=by omega
   have hi1:i - 1 < t.length:=by omega
   have Pv:(0:Int) < (i:Int):=by omega
   have hw2:=wrap64 (n:=(i:Int) - 1) (by omega) (by omega)
   have ht2:((i:Int) - 1).toNat=i - 1:=by omega
   have hnl:(1:Int)≤(i:Int):=by omega
   have hge:(0:Int)≤(i:Int) - 1:=by omega
   have fp:=hf t[i - 1] (List.getElem_mem hi1)
   have k7:=Fg t[i - 1].1 fp
   have kl:=ajK (dK t[i - 1].1) (dK t[i].1) (by have:=Ah fp;omega) (by have:=Ah fr;omega)
   have hp:(if h:0 < i then (t[i - 1]?).map K else none)=some (K t[i - 1]):=by simp [hi0,hi1]
   rw [hp]
   have hc:iF (some (K t[i - 1])) (t[i]::t.drop (i+1))=if K t[i]=K t[i - 1] then 14 else if Op.bytesLess (K t[i]) (K t[i - 1])=true then 7 else iF (some (K t[i])) (t.drop (i+1)):=by
    conv=>lhs;unfold iF
    rw [if_neg (by simp [h1])]
   rw [hc]
   generalize iF (some (K t[i])) (t.drop (i+1))=out at *
   by_cases h2:dK t[i].1=dK t[i - 1].1
   ·rw [if_pos h2]
    have h2':(dK t[i - 1].1=dK t[i].1)=True:=eq_true h2.symm
    refine aA rfl rfl ?_
    simp -implicitDefEqProofs [-List.getElem_cons_drop,h,hlt,hrow,k15,h1,k6,Pv,hi0,hw2,ht2,hnl,hge,hi1,k7,h2',tagged]
   ·rw [if_neg h2]
    have h2':¬ dK t[i - 1].1=dK t[i].1:=fun e=>h2 e.symm
    by_cases h3:dK t[i].1 < dK t[i - 1].1
    ·rw [if_pos ((vO _ _).2 h3)]
     rw [(afu _ _).2 fun h=>List.lt_irrefl _ (List.lt_trans h h3)] at kl
     refine aA rfl rfl ?_
     simp -implicitDefEqProofs [-List.getElem_cons_drop,h,hlt,hrow,k15,h1,k6,Pv,hi0,hw2,ht2,hnl,hge,hi1,k7,h2',kl,tagged]
    ·rw [if_neg fun h=>h3 ((vO _ _).1 h)]
     have h4:dK t[i - 1].1 < dK t[i].1:=by
      rcases List.le_iff_lt_or_eq.1 (List.not_lt.1 h3) with h | h
      ·exact h
      ·exact absurd h h2'
     rw [(vO _ _).2 h4] at kl
     refine aA rfl rfl ?_
     simp -implicitDefEqProofs [-List.getElem_cons_drop,h,hlt,hrow,k15,h1,k6,Pv,hi0,hw2,ht2,hnl,hge,hi1,k7,h2',kl,hw,ih]
theorem XO (t:List Row) (ht:Rows t) (hf:oI t):TT.lim 119 [.l (t.map row)]=some [.i .i64 (nC t)]:=by
 unfold nC
 by_cases h1:256 < t.length
 ·have h1':(256:Int) < (t.length:Int):=by omega
  refine aG rfl rfl ?_ rfl
  simp -implicitDefEqProofs [h1,h1']
 ·have h1':¬ (256:Int) < (t.length:Int):=by omega
  have h38:TT.lim 120 [.l (t.map row),.i .i64 t.length,.i .i64 0]=_:=abZ t ht hf (by omega) t.length 0 (by omega)
  rw [List.drop_zero] at h38
  have hp:(if h:0 < 0 then (t[0 - 1]?).map K else none)=none:=rfl
  rw [hp] at h38
  refine aG rfl rfl ?_ rfl
  by_cases h2:iF none t=0
  ·simp only [tagged,h2,if_true] at h38
   simp -implicitDefEqProofs [h1,h1',h38,h2]
  ·simp only [tagged,h2,if_false] at h38
   simp -implicitDefEqProofs [h1,h1',h38,h2]
def common:List UInt8→List UInt8→Nat
 | a::x,b::y=>if a=b then common x y+1 else 0
 | _,_=>0
theorem agM (b:List UInt8):common [] b=0:=by unfold common;rfl
theorem agN (a:List UInt8):common a []=0:=by cases a<;>rfl
theorem EH:∀a b:List UInt8,common a b≤a.length∧common a b≤b.length
 | [],b=>by simp [common]
 | _::_,[]=>by simp [common]
 | a::x,b::y=>by
  unfold common
  have:=EH x y
  split
  ·simp only [List.length_cons];omega
  ·omega
theorem YF (a b:List UInt8) (ha:a.length≤140737488351232) (hb:b.length≤140737488351232):∀m i:Nat,i+m=a.length→TT.lim 88 [.s a,.s b,.i .i64 i]=some [.i .i64 0,.i .i64 ((i+common (a.drop i) (b.drop i):Nat):Int)]
 | 0,i,hi=>by
  have h0:a.drop i=[]:=List.drop_eq_nil_of_le (by omega)
  have h:¬ ((i:Int) < a.length):=by omega
  refine aA rfl rfl ?_
  simp -implicitDefEqProofs [h,h0,agM]
 | m+1,i,hi=>by
  have hlt:i < a.length:=by omega
  have h:((i:Int) < a.length):=by omega
  by_cases hlb:i < b.length
  rotate_left
  ·have h0:b.drop i=[]:=List.drop_eq_nil_of_le (by omega)
   have h1:¬ ((i:Int) < b.length):=by omega
   refine aA rfl rfl ?_
   simp -implicitDefEqProofs [h,h0,h1,agN]
  have hb1:((i:Int) < b.length):=by omega
  have ih:TT.lim 88 [.s a,.s b,.i .i64 ((i:Int)+1)]=_:=YF a b ha hb m (i+1) (by omega)
  have hw:=wrap64 (n:=(i:Int)+1) (by omega) (by omega)
  rw [List.drop_eq_getElem_cons hlt,List.drop_eq_getElem_cons hlb]
  unfold common
  by_cases e:a[i]=b[i]
  ·rw [if_pos e]
   have e':((a[i].toNat:Int)=(b[i].toNat:Int))=True:=eq_true (by rw [e])
   have e2:((i+(common (a.drop (i+1)) (b.drop (i+1))+1):Nat):Int)=((i+1+common (a.drop (i+1)) (b.drop (i+1)):Nat):Int):=by omega
   rw [e2]
   refine aA rfl rfl ?_
   simp -implicitDefEqProofs [h,hlt,hlb,hb1,e',hw,ih]
  ·rw [if_neg e]
   have e':¬ (a[i].toNat:Int)=(b[i].toNat:Int):=fun h=>e (UInt8.toNat_inj.1 (by omega))
   refine aA rfl rfl ?_
   simp -implicitDefEqProofs [h,hlt,hlb,hb1,e']
theorem agL (a b:List UInt8) (ha:a.length≤140737488351232) (hb:b.length≤140737488351232):TT.lim 87 [.s a,.s b]=some [.i .i64 (common a b)]:=by
 have k:TT.lim 88 [.s a,.s b,.i .i64 0]=_:=YF a b ha hb a.length 0 (by omega)
 rw [List.drop_zero,List.drop_zero,Nat.zero_add] at k
 refine aG rfl rfl ?_ rfl
 simp -implicitDefEqProofs [k]
theorem ade (a b:List UInt8) (ha:a.length≤140737488351232) (hb:b.length≤140737488351232):∀m i:Nat,i+m=a.length→
 TT.lim 139 [.s a,.s b,.i .i64 i]=some (if common (a.drop i) (b.drop i) < a.length - i∧common (a.drop i) (b.drop i) < b.length - i then [.i .i64 0,.i .i64 ((i+common (a.drop i) (b.drop i):Nat):Int)] else [.i .i64 1])
 | 0,i,hi=>by
  have h0:a.drop i=[]:=List.drop_eq_nil_of_le (by omega)
  have h:¬ ((i:Int) < a.length):=by omega
  have h2:¬ (common ([]:List UInt8) (b.drop i) < a.length - i∧common [] (b.drop i) < b.length - i):=by omega
  rw [h0,if_neg h2]
  refine aA rfl rfl ?_
  simp -implicitDefEqProofs [h]
 | m+1,i,hi=>by
  have hlt:i < a.length:=by omega
  have h:((i:Int) < a.length):=by omega
  by_cases hlb:i < b.length
  rotate_left
  ·have h1:¬ ((i:Int) < b.length):=by omega
   rw [if_neg (by omega)]
   refine aA rfl rfl ?_
   simp -implicitDefEqProofs [h,h1]
  have hb1:((i:Int) < b.length):=by omega
  have ih:TT.lim 139 [.s a,.s b,.i .i64 ((i:Int)+1)]=_:=ade a b ha hb m (i+1) (by omega)
  have hw:=wrap64 (n:=(i:Int)+1) (by omega) (by omega)
  have hc:common (a.drop i) (b.drop i)=if a[i]=b[i] then common (a.drop (i+1)) (b.drop (i+1))+1 else 0:=by
   rw [List.drop_eq_getElem_cons hlt,List.drop_eq_getElem_cons hlb];rfl
  rw [hc]
  by_cases e:a[i]=b[i]
  ·rw [if_pos e]
   have e':((a[i].toNat:Int)=(b[i].toNat:Int))=True:=eq_true (by rw [e])
   have e2:((i+(common (a.drop (i+1)) (b.drop (i+1))+1):Nat):Int)=((i+1+common (a.drop (i+1)) (b.drop (i+1)):Nat):Int):=by omega
   have e3:(common (a.drop (i+1)) (b.drop (i+1))+1 < a.length - i∧common (a.drop (i+1)) (b.drop (i+1))+1 < b.length - i)=(common (a.drop (i+1)) (b.drop (i+1)) < a.length - (i+1)∧common (a.drop (i+1)) (b.drop (i+1)) < b.length - (i+1)):=by
    apply propext;omega
   rw [e2]
   simp only [e3]
   refine aA rfl rfl ?_
   simp -implicitDefEqProofs [-Int.natCast_add,h,hlt,hlb,hb1,e',hw,ih]
  ·rw [if_neg e]
   have e':¬ (a[i].toNat:Int)=(b[i].toNat:Int):=fun h=>e (UInt8.toNat_inj.1 (by omega))
   rw [if_pos (by omega)]
   refine aA rfl rfl ?_
   simp -implicitDefEqProofs [h,hlt,hlb,hb1,e']
theorem alU (a b:List UInt8) (ha:a.length≤140737488351232) (hb:b.length≤140737488351232):TT.lim 138 [.s a,.s b]=some [.i .i64 (common a b)]:=by
 have k:TT.lim 139 [.s a,.s b,.i .i64 0]=_:=ade a b ha hb a.length 0 (by omega)
 rw [List.drop_zero,List.drop_zero,Nat.zero_add,Nat.sub_zero,Nat.sub_zero] at k
 have hl:=EH a b
 refine aG rfl rfl ?_ rfl
 by_cases hc:common a b < a.length∧common a b < b.length
 ·rw [if_pos hc] at k
  simp -implicitDefEqProofs [k]
 ·rw [if_neg hc] at k
  by_cases h2:(b.length:Int) < a.length
  ·have:(common a b:Int)=b.length:=by omega
   simp -implicitDefEqProofs [k,h2,this]
  ·have:(common a b:Int)=a.length:=by omega
   simp -implicitDefEqProofs [k,h2,this]
/-- A text behind another one, as it is written. -/
def rM (a s:List UInt8):List UInt8:=aQ (common a s)++aQ (s.length - common a s)++s.drop (common a s)
theorem ak0 (a s:List UInt8) (ha:a.length≤100000000) (hs:s.length≤100000000):TT.lim 86 [.s a,.s s]=some [.s (rM a s)]:=by
 have k:=agL a s (by omega) (by omega)
 have hl:=EH a s
 have p1:=qO (common a s) (by omega)
 have p2:=qO (s.length - common a s) (by omega)
 have l1:=fM (n:=common a s) (by omega)
 have l2:=fM (n:=s.length - common a s) (by omega)
 have w1:=fU (n:=(common a s:Int)) (by omega) (by omega)
 have w2:=fU (n:=(s.length:Int) - (common a s:Int)) (by omega) (by omega)
 have w3:=wrap64 (n:=(s.length:Int) - (common a s:Int)) (by omega) (by omega)
 have e2:(s.length:Int) - (common a s:Int)=((s.length - common a s:Nat):Int):=by omega
 rw [e2] at w2 w3
 refine aG rfl rfl ?_ rfl
 unfold rM
 generalize common a s=c at *
 have h1:((aQ c).length:Int)+((aQ (s.length - c)).length:Int)≤9223372036854775807:=by omega
 have h2:((aQ c).length:Int)+((aQ (s.length - c)).length:Int)+((s.length:Int) - (c:Int))≤9223372036854775807:=by omega
 have h3:(c:Int)≤s.length:=by omega
 have h4:((s.length - c:Nat):Int)=(s.length:Int) - c:=by omega
 have hd:(s.take s.length).drop c=s.drop c:=by rw [List.take_length]
 rw [← e2] at w2 w3
 rw [← e2] at p2
 simp -implicitDefEqProofs [k,p1,p2,w1,w2,w3,h1,h2,h3,h4,hd]
theorem Jz (a s:List UInt8) (hs:s.length≤100000000):(rM a s).length≤20+s.length:=by
 have hl:=EH a s
 have l1:=fM (n:=common a s) (by omega)
 have l2:=fM (n:=s.length - common a s) (by omega)
 unfold rM
 simp only [List.length_append,List.length_drop]
 omega
theorem adt (a s:List UInt8) (ha:a.length≤100000000) (hs:s.length≤100000000):TT.lim 137 [.s a,.s s]=some [.s (rM a s)]:=by
 have k:=alU a s (by omega) (by omega)
 have hl:=EH a s
 have p1:=qP (common a s) (by omega)
 have p2:=qP (s.length - common a s) (by omega)
 have l1:=fM (n:=common a s) (by omega)
 have l2:=fM (n:=s.length - common a s) (by omega)
 have w1:=fU (n:=(common a s:Int)) (by omega) (by omega)
 have w2:=fU (n:=(s.length:Int) - (common a s:Int)) (by omega) (by omega)
 have w3:=wrap64 (n:=(s.length:Int) - (common a s:Int)) (by omega) (by omega)
 have e2:(s.length:Int) - (common a s:Int)=((s.length - common a s:Nat):Int):=by omega
 rw [e2] at w2 w3
 refine aG rfl rfl ?_ rfl
 unfold rM
 generalize common a s=c at *
 have h1:((aQ c).length:Int)+((aQ (s.length - c)).length:Int)≤9223372036854775807:=by omega
 have h2:((aQ c).length:Int)+((aQ (s.length - c)).length:Int)+((s.length:Int) - (c:Int))≤9223372036854775807:=by omega
 have h3:(c:Int)≤s.length:=by omega
 have h4:((s.length - c:Nat):Int)=(s.length:Int) - c:=by omega
 have hd:(s.take s.length).drop c=s.drop c:=by rw [List.take_length]
 rw [← e2] at w2 w3
 rw [← e2] at p2
 simp -implicitDefEqProofs [k,p1,p2,w1,w2,w3,h1,h2,h3,h4,hd]
end Q
end Go.Proofs.YthgifdbaegpbpaaGreatDoor
