/- What the trees compute: plain laws. -/
import Derived.Test.YthgifdbaegpbpaaGreatDoorKQe4
namespace Go.Proofs.YthgifdbaegpbpaaGreatDoor
open Go Go.aP
set_option linter.unusedSimpArgs false
set_option linter.unusedVariables false
set_option maxRecDepth 100000
namespace Q
mutual
def ET:aJ→List UInt8
 | .mk t y n s k=>aQ (4 * t+y).toNat++(if y=0 then aQ n.toNat else if y=1 then aQ s.length++s else aQ (bF k).length++bF k)
def bF:List aJ→List UInt8
 | []=>[]
 | f::l=>ET f++bF l
end
mutual
def wF:aJ→Nat
 | .mk _ _ _ s k=>s.length+40+wL k
def wL:List aJ→Nat
 | []=>0
 | f::l=>wF f+wL l
end
mutual
/-- Tags and types that may be. -/
def Bj:aJ→Prop
 | .mk t y n s k=>(1≤t∧t≤4294967296)∧((y=0∧s=[]∧k=[])∨(y=1∧n=0∧k=[])∨(y=2∧n=0∧s=[]))∧pF k
def pF:List aJ→Prop
 | []=>True
 | f::l=>Bj f∧pF l
end
theorem MQ:∀ {l:List aJ},pF l→∀f∈l,Bj f
 | f::l,h,g,hg=>by
  simp only [pF] at h
  rcases List.mem_cons.1 hg with rfl | hg
  ·exact h.1
  ·exact MQ h.2 g hg
theorem H9:∀ (N:Nat) (l:List aJ),cO l < N→dX l→∀w a,eG w a l=0→0≤a→pF l
 | 0,l,h,_,_,_,_,_=>by omega
 | N+1,[],_,_,_,_,_,_=>by simp only [pF]
 | N+1,.mk t y n s k::l,hN,hok,w,a,h,ha=>by
  simp only [cO,oG] at hN
  simp only [dX,pY] at hok
  unfold eG at h
  by_cases h1:(aJ.mk t y n s k).tag=0
  ·rw [if_pos h1] at h;exact absurd h (by decide)
  rw [if_neg h1] at h
  by_cases h2:4294967296 < (aJ.mk t y n s k).tag
  ·rw [if_pos h2] at h;exact absurd h (by decide)
  rw [if_neg h2] at h
  by_cases h3:(aJ.mk t y n s k).tag≤a
  ·rw [if_pos h3] at h;exact absurd h (by decide)
  rw [if_neg h3] at h
  by_cases h4:rC w (.mk t y n s k)=0
  rotate_left
  ·rw [if_pos h4] at h;exact absurd h h4
  rw [if_neg (fun e=>e h4)] at h
  have h1:¬ t=0:=h1
  have h2:¬ 4294967296 < t:=h2
  have h3:¬ t≤a:=h3
  simp only [pF,Bj]
  refine ⟨⟨by omega, ?_, ?_⟩,H9 N l (by omega) hok.2 w t h (by omega)⟩
  ·simp only [rC] at h4
   split at h4
   ·rename_i hy
    split at h4
    ·rename_i hc;exact .inl ⟨hy,hc⟩
    ·cases h4
   ·split at h4
    ·rename_i hy
     split at h4
     ·rename_i hc;exact .inr (.inl ⟨hy,hc⟩)
     ·cases h4
    ·split at h4
     ·rename_i hy
      split at h4
      ·rename_i hc;exact .inr (.inr ⟨hy,hc⟩)
      ·cases h4
     ·cases h4
  ·simp only [rC] at h4
   split at h4
   ·split at h4
    ·rename_i hc;rw [hc.2];simp only [pF]
    ·cases h4
   ·split at h4
    ·split at h4
     ·rename_i hc;rw [hc.2];simp only [pF]
     ·cases h4
    ·split at h4
     ·split at h4
      ·split at h4
       ·cases h4
       ·exact H9 N k (by omega) hok.1.2 _ _ h4 (by omega)
      ·cases h4
     ·cases h4
theorem zV:∀ (N:Nat) (l:List aJ),cO l < N→dX l→pF l→wL l≤1000000000000→(bF l).length≤wL l
 | 0,l,h,_,_,_=>by omega
 | N+1,[],_,_,_,_=>by simp [bF]
 | N+1,.mk t y n s k::l,hN,hok,hty,hw=>by
  simp only [cO,oG] at hN
  simp only [dX,pY] at hok
  simp only [pF,Bj] at hty
  simp only [wL,wF] at hw ⊢
  have h1:=zV N l (by omega) hok.2 hty.2 (by omega)
  have h2:=zV N k (by omega) hok.1.2 hty.1.2.2 (by omega)
  simp only [bF,ET,List.length_append]
  have v1:=fM (n:=(4 * t+y).toNat) (by rcases hty.1.2.1 with h | h | h<;>omega)
  have v2:=fM (n:=n.toNat) (by omega)
  have v3:=fM (n:=s.length) (by omega)
  have v4:=fM (n:=(bF k).length) (by omega)
  split
  ·omega
  ·split
   ·rw [List.length_append];omega
   ·rw [List.length_append];omega
theorem abe (t y:Int) (ht:1≤t∧t≤4294967296) (hy:0≤y∧y < 4):nS .shl .u64 t 2=some (.i .u64 (4 * t))∧IntKind.u64.wrap y=y∧bK .or .u64 (4 * t) y=some (.i .u64 (4 * t+y)):=by
 have wu:∀y:Int,IntKind.u64.wrap y=y % 18446744073709551616:=fun y=>by simp [IntKind.wrap,IntKind.signed,IntKind.bits]
 have hu:IntKind.u64.bits=64:=rfl
 refine ⟨?_,by rw [wu];omega, ?_⟩
 ·have h2:nS .shl .u64 t 2=some (.i .u64 (IntKind.u64.wrap (t * 2 ^ 2))):=rfl
  rw [h2,wu]
  congr 2
  omega
 ·simp only [bK,wu,hu]
  obtain ⟨T,rfl⟩:∃T:Nat,t=(T:Int):=⟨t.toNat,by omega⟩
  obtain ⟨Y,rfl⟩:∃Y:Nat,y=(Y:Int):=⟨y.toNat,by omega⟩
  have e1:(BitVec.ofInt 64 (4 * (T:Int))).toNat=4 * T:=by rw [BitVec.toNat_ofInt];omega
  have e2:(BitVec.ofInt 64 (Y:Int)).toNat=Y:=by rw [BitVec.toNat_ofInt];omega
  have e3:4 * T ||| Y=4 * T+Y:=(Nat.two_pow_add_eq_or_of_lt (i:=2) (b:=Y) (by omega) T).symm
  show some (GV.i IntKind.u64 (((BitVec.ofInt 64 (4 * (T:Int)) ||| BitVec.ofInt 64 (Y:Int)).toNat:Int) % 18446744073709551616))=_
  rw [BitVec.toNat_or,e1,e2,e3]
  congr 2
  omega
theorem OV {t y n:Int} {s:List UInt8} {k:List aJ} (h:Bj (.mk t y n s k)):1≤t∧t≤4294967296∧0≤y∧y < 3∧(y=0∨y=1∨y=2)∧pF k:=by
 simp only [Bj] at h
 rcases h.2.1 with h1 | h1 | h1<;>exact ⟨h.1.1,h.1.2,by omega,by omega,by omega,h.2.2⟩
theorem SI:∀ (N:Nat) (l:List aJ),cO l < N→dX l→pF l→l.length≤1000000→wL l≤1000000000000→TT.lim 94 [.l (ak l)]=some [.i .i64 (bF l).length]
 | 0,l,h,_,_,_,_=>by omega
 | N+1,l,hN,hok,hty,hlen,hw=>by
  have hl1:=iq l
  have loop:∀m i,i+m=l.length→∀acc:Nat,acc+wL (l.drop i)≤1000000000000→TT.lim 95 [.l (ak l),.i .i64 acc,.i .i64 l.length,.i .i64 i]=some [.i .i64 0,.i .i64 ((acc+(bF (l.drop i)).length:Nat):Int)]:=by
   intro m
   induction m with
   | zero=>
    intro i hi acc hacc
    have e1:l.drop i=[]:=List.drop_eq_nil_of_le (by omega)
    have h:¬ ((i:Int) < l.length):=by omega
    rw [e1]
    simp only [bF,List.length_nil,Nat.add_zero]
    refine aA rfl rfl ?_
    simp -implicitDefEqProofs [h]
   | succ m ih=>
    intro i hi acc hacc
    obtain ⟨t,y,n,s,k,g1,g2,g3,g4⟩:=vX (l:=l) (i:=i) (by omega)
    have hf:=rE hok _ g4
    have ht:=MQ hty _ g4
    simp only [pY] at hf
    obtain ⟨t1,t2,y1,y2,y3,tk⟩:=OV ht
    have hs:=zi g4
    simp only [oG] at hs
    rw [g3] at hacc ⊢
    simp only [wL,wF] at hacc
    have hk:=SI N k (by omega) hf.2 tk hf.1.2.2.2.2.2.2.2 (by omega)
    have hkl:=zV (cO k+1) k (by omega) hf.2 tk (by omega)
    obtain ⟨b1,b2,b3⟩:=abe t y ⟨t1,t2⟩ ⟨y1,by omega⟩
    have v1:=F7 (4 * t+y).toNat (by omega)
    have v2:=F7 n.toNat (by omega)
    have v3:=F7 s.length (by omega)
    have v4:=F7 (bF k).length (by omega)
    have z1:=Bo (n:=(4 * t+y).toNat) (by omega)
    have z2:=Bo (n:=n.toNat) (by omega)
    have z3:=Bo (n:=s.length) (by omega)
    have z4:=Bo (n:=(bF k).length) (by omega)
    rw [show (((4 * t+y).toNat:Nat):Int)=4 * t+y by omega] at v1
    rw [show ((n.toNat:Nat):Int)=n by omega] at v2
    have hcast:((i+1:Nat):Int)=(i:Int)+1:=by omega
    have hwr:=wrap64 (n:=(i:Int)+1) (by omega) (by omega)
    have h:((i:Int) < l.length):=by omega
    have ih':=fun a ha=>ih (i+1) (by omega) a ha
    simp only [hcast] at ih'
    have e1:(aQ (4 * t+y).toNat).length=iP (4 * t+y).toNat:=rfl
    have e2:(aQ n.toNat).length=iP n.toNat:=rfl
    have e3:(aQ s.length).length=iP s.length:=rfl
    have e4:(aQ (bF k).length).length=iP (bF k).length:=rfl
    have u3:=fU (n:=(s.length:Int)) (by omega) (by omega)
    have u4:=fU (n:=((bF k).length:Int)) (by omega) (by omega)
    simp only [bF,ET,List.length_append]
    rw [e1]
    generalize iP (4 * t+y).toNat=A at *
    have w1:=wrap64 (n:=(acc:Int)+A) (by omega) (by omega)
    rcases y3 with hy | hy | hy
    ·rw [if_pos hy,e2]
     generalize iP n.toNat=B at *
     have w2:=wrap64 (n:=(acc:Int)+A+B) (by omega) (by omega)
     have je:=ih' (acc+A+B) (by omega)
     rw [show ((acc+A+B:Nat):Int)=(acc:Int)+A+B by omega,show acc+A+B+(bF (l.drop (i+1))).length=acc+(A+B+(bF (l.drop (i+1))).length) by omega] at je
     have q0:(y=0)=True:=eq_true hy
     clear hy
     refine aA rfl rfl ?_
     simp -implicitDefEqProofs [h,g2,q0,b1,b2,b3,v1,v2,w1,w2,hwr,je]
    ·rw [if_neg (by omega),if_pos hy,List.length_append,e3]
     generalize iP s.length=B at *
     have w2:=wrap64 (n:=(B:Int)+s.length) (by omega) (by omega)
     have w3:=wrap64 (n:=(acc:Int)+A+(B+s.length)) (by omega) (by omega)
     have je:=ih' (acc+A+(B+s.length)) (by omega)
     rw [show ((acc+A+(B+s.length):Nat):Int)=(acc:Int)+A+(B+s.length) by omega,show acc+A+(B+s.length)+(bF (l.drop (i+1))).length=acc+(A+(B+s.length)+(bF (l.drop (i+1))).length) by omega] at je
     have q0:(y=0)=False:=eq_false (by omega)
     have q1:(y=1)=True:=eq_true hy
     clear hy
     refine aA rfl rfl ?_
     simp -implicitDefEqProofs [h,g2,q0,q1,b1,b2,b3,v1,v3,u3,w1,w2,w3,hwr,je]
    ·rw [if_neg (by omega),if_neg (by omega),List.length_append,e4]
     generalize iP (bF k).length=B at *
     generalize (bF k).length=C at *
     have w2:=wrap64 (n:=(B:Int)+C) (by omega) (by omega)
     have w3:=wrap64 (n:=(acc:Int)+A+(B+C)) (by omega) (by omega)
     have je:=ih' (acc+A+(B+C)) (by omega)
     rw [show ((acc+A+(B+C):Nat):Int)=(acc:Int)+A+(B+C) by omega,show acc+A+(B+C)+(bF (l.drop (i+1))).length=acc+(A+(B+C)+(bF (l.drop (i+1))).length) by omega] at je
     have q0:(y=0)=False:=eq_false (by omega)
     have q1:(y=1)=False:=eq_false (by omega)
     have q2:(y=2)=True:=eq_true hy
     clear hy
     refine aA rfl rfl ?_
     simp -implicitDefEqProofs [h,g2,q0,q1,q2,b1,b2,b3,v1,hk,v4,u4,w1,w2,w3,hwr,je]
  have h0:=loop l.length 0 (by omega) 0 (by rw [List.drop_zero];omega)
  rw [List.drop_zero,Nat.zero_add] at h0
  have h0':TT.lim 95 [.l (ak l),.i .i64 0,.i .i64 (ak l).length,.i .i64 0]=some [.i .i64 0,.i .i64 ((bF l).length:Int)]:=by rw [hl1];exact h0
  rw [hl1] at h0'
  clear loop h0
  refine aG rfl rfl ?_ rfl
  simp -implicitDefEqProofs [hl1,h0']
/-- The bytes of fields, put behind others. -/
theorem zI (a b:List UInt8):dJ (a++b)=dJ a++dJ b:=by simp [dJ]
theorem ae0:∀ (N:Nat) (l:List aJ),cO l < N→dX l→pF l→l.length≤1000000→∀B:List UInt8,B.length+wL l≤1000000000000→TT.lim 96 [.l (dJ B),.l (ak l)]=some [.i .i64 0,.l (dJ (B++bF l))]
 | 0,l,h,_,_,_,_,_=>by omega
 | N+1,l,hN,hok,hty,hlen,B,hB=>by
  have hl1:=iq l
  have loop:∀m i,i+m=l.length→∀acc:List UInt8,acc.length+wL (l.drop i)≤1000000000000→TT.lim 97 [.l (dJ acc),.l (ak l),.i .i64 l.length,.i .i64 i]=some [.i .i64 0,.l (dJ (acc++bF (l.drop i)))]:=by
   intro m
   induction m with
   | zero=>
    intro i hi acc hacc
    have e1:l.drop i=[]:=List.drop_eq_nil_of_le (by omega)
    have h:¬ ((i:Int) < l.length):=by omega
    rw [e1]
    simp only [bF,List.append_nil]
    refine aA rfl rfl ?_
    simp -implicitDefEqProofs [h]
   | succ m ih=>
    intro i hi acc hacc
    obtain ⟨t,y,n,s,k,g1,g2,g3,g4⟩:=vX (l:=l) (i:=i) (by omega)
    have hf:=rE hok _ g4
    have ht:=MQ hty _ g4
    simp only [pY] at hf
    obtain ⟨t1,t2,y1,y2,y3,tk⟩:=OV ht
    have hs:=zi g4
    simp only [oG] at hs
    rw [g3] at hacc ⊢
    simp only [wL,wF] at hacc
    have hk:=SI N k (by omega) hf.2 tk hf.1.2.2.2.2.2.2.2 (by omega)
    have hkl:=zV (cO k+1) k (by omega) hf.2 tk (by omega)
    obtain ⟨b1,b2,b3⟩:=abe t y ⟨t1,t2⟩ ⟨y1,by omega⟩
    have v1:=qO (4 * t+y).toNat (by omega)
    have v2:=qO n.toNat (by omega)
    have v3:=qO s.length (by omega)
    have v4:=qO (bF k).length (by omega)
    have z1:=fM (n:=(4 * t+y).toNat) (by omega)
    have z2:=fM (n:=n.toNat) (by omega)
    have z3:=fM (n:=s.length) (by omega)
    have z4:=fM (n:=(bF k).length) (by omega)
    rw [show (((4 * t+y).toNat:Nat):Int)=4 * t+y by omega] at v1
    rw [show ((n.toNat:Nat):Int)=n by omega] at v2
    have hcast:((i+1:Nat):Int)=(i:Int)+1:=by omega
    have hwr:=wrap64 (n:=(i:Int)+1) (by omega) (by omega)
    have h:((i:Int) < l.length):=by omega
    have ih':=fun a ha=>ih (i+1) (by omega) a ha
    simp only [hcast] at ih'
    have u3:=fU (n:=(s.length:Int)) (by omega) (by omega)
    have u4:=fU (n:=((bF k).length:Int)) (by omega) (by omega)
    have o8:∀z:List UInt8,(dJ z).all (fun g=>g.gJ 1)=true:=fun z=>by simp [dJ,GV.gJ]
    have l8:∀z:List UInt8,(dJ z).length=z.length:=fun z=>by simp [dJ]
    simp only [bF,ET]
    rcases y3 with hy | hy | hy
    ·rw [if_pos hy]
     have je:=ih' (acc++aQ (4 * t+y).toNat++aQ n.toNat) (by simp only [List.length_append];omega)
     rw [show acc++aQ (4 * t+y).toNat++aQ n.toNat++bF (l.drop (i+1))=acc++(aQ (4 * t+y).toNat++aQ n.toNat++bF (l.drop (i+1))) by simp,zI,zI] at je
     generalize aQ (4 * t+y).toNat=A at *
     generalize aQ n.toNat=C at *
     have c1:2 * (acc.length+A.length)≤281474976710656∧acc.length+A.length≤281474976710656:=by omega
     have c2:2 * (acc.length+A.length+C.length)≤281474976710656∧acc.length+A.length+C.length≤281474976710656:=by omega
     have q0:(y=0)=True:=eq_true hy
     clear hy
     refine aA rfl rfl ?_
     simp -implicitDefEqProofs [-List.append_assoc,h,g2,q0,b1,b2,b3,v1,v2,hwr,je,o8,l8,c1,c2]
    ·rw [if_neg (by omega),if_pos hy]
     have je:=ih' (acc++aQ (4 * t+y).toNat++aQ s.length++s) (by simp only [List.length_append];omega)
     rw [show acc++aQ (4 * t+y).toNat++aQ s.length++s++bF (l.drop (i+1))=acc++(aQ (4 * t+y).toNat++(aQ s.length++s)++bF (l.drop (i+1))) by simp,zI,zI,zI] at je
     generalize aQ (4 * t+y).toNat=A at *
     generalize aQ s.length=C at *
     have c1:2 * (acc.length+A.length)≤281474976710656∧acc.length+A.length≤281474976710656:=by omega
     have c2:2 * (acc.length+A.length+C.length)≤281474976710656∧acc.length+A.length+C.length≤281474976710656:=by omega
     have c3:2 * (acc.length+A.length+C.length+s.length)≤281474976710656∧acc.length+A.length+C.length+s.length≤281474976710656:=by omega
     have q0:(y=0)=False:=eq_false (by omega)
     have q1:(y=1)=True:=eq_true hy
     clear hy
     refine aA rfl rfl ?_
     simp -implicitDefEqProofs [-List.append_assoc,h,g2,q0,q1,b1,b2,b3,v1,v3,u3,hwr,je,o8,l8,c1,c2,c3]
    ·rw [if_neg (by omega),if_neg (by omega)]
     have hwk:=ae0 N k (by omega) hf.2 tk hf.1.2.2.2.2.2.2.2 (acc++aQ (4 * t+y).toNat++aQ (bF k).length) (by simp only [List.length_append];omega)
     have je:=ih' (acc++aQ (4 * t+y).toNat++aQ (bF k).length++bF k) (by simp only [List.length_append];omega)
     rw [show acc++aQ (4 * t+y).toNat++aQ (bF k).length++bF k++bF (l.drop (i+1))=acc++(aQ (4 * t+y).toNat++(aQ (bF k).length++bF k)++bF (l.drop (i+1))) by simp] at je
     rw [zI (acc++_),zI acc] at hwk
     generalize aQ (4 * t+y).toNat=A at *
     generalize aQ (bF k).length=C at *
     have c1:2 * (acc.length+A.length)≤281474976710656∧acc.length+A.length≤281474976710656:=by omega
     have c2:2 * (acc.length+A.length+C.length)≤281474976710656∧acc.length+A.length+C.length≤281474976710656:=by omega
     generalize bF k=K at *
     have q0:(y=0)=False:=eq_false (by omega)
     have q1:(y=1)=False:=eq_false (by omega)
     have q2:(y=2)=True:=eq_true hy
     clear hy
     refine aA rfl rfl ?_
     simp -implicitDefEqProofs [-List.append_assoc,h,g2,q0,q1,q2,b1,b2,b3,v1,hk,v4,u4,hwk,hwr,je,o8,l8,c1,c2]
  have h0:=loop l.length 0 (by omega) B (by rw [List.drop_zero];omega)
  rw [List.drop_zero] at h0
  have h0':TT.lim 97 [.l (dJ B),.l (ak l),.i .i64 l.length,.i .i64 0]=some [.i .i64 0,.l (dJ (B++bF l))]:=h0
  clear loop h0
  generalize dJ B=B' at *
  refine aA rfl rfl ?_
  simp -implicitDefEqProofs [hl1,h0']
theorem alk {α β:Type} {f:α→β} {ys zs:List β} (h:ys.Perm zs):∀l:List α,zs=l.map f→∃p:List α,p.Perm l∧ys=p.map f:=by
 induction h with
 | nil=>intro l e;exact ⟨l,.refl _,e⟩
 | cons x _ ih=>
  intro l e
  cases l with
  | nil=>cases e
  | cons a l=>
   injection e with e1 e2
   obtain ⟨p,h1,h2⟩:=ih l e2
   exact ⟨a::p,h1.cons a,by rw [List.map_cons,← h2,← e1]⟩
 | swap x y l=>
  intro m e
  rcases m with _ | ⟨a,_ | ⟨b,m⟩⟩
  ·cases e
  ·cases e
  ·simp only [List.map_cons,List.cons.injEq] at e
   obtain ⟨e1,e2,e3⟩:=e
   exact ⟨b::a::m,List.Perm.swap a b m,by rw [List.map_cons,List.map_cons,← e1,← e2,← e3]⟩
 | trans _ _ ih1 ih2=>
  intro l e
  obtain ⟨p,h1,h2⟩:=ih2 l e
  obtain ⟨q,h3,h4⟩:=ih1 p h2
  exact ⟨q,h3.trans h1,h4⟩
theorem aed:∀ (p q:List aJ),p.Perm q→p.Pairwise (fun a b=>a.tag≤b.tag)→q.Pairwise (fun a b=>a.tag < b.tag)→p=q
 | [],q,h,_,_=>(List.nil_perm.1 h).symm
 | a::p,[],h,_,_=>by have:=h.length_eq;simp at this
 | a::p,b::q,h,hp,hq=>by
  have hb:b∈a::p:=h.mem_iff.2 (by simp)
  have ha:a∈b::q:=h.mem_iff.1 (by simp)
  rw [List.pairwise_cons] at hp hq
  have h1:a.tag≤b.tag:=by
   rcases List.mem_cons.1 hb with e | hb
   ·rw [e];exact Int.le_refl _
   ·exact hp.1 b hb
  have e:a=b:=by
   rcases List.mem_cons.1 ha with e | ha
   ·exact e
   ·have:=hq.1 a ha;omega
  subst e
  rw [aed p q (List.Perm.cons_inv h) hp.2 hq.2]
def kF (f:aJ):List aJ→Nat
 | []=>0
 | g::l=>if g.tag < f.tag then kF f l+1 else 0
theorem acX (f:aJ):∀l,kF f l≤l.length
 | []=>Nat.le_refl _
 | g::l=>by
  unfold kF
  have:=acX f l
  split
  ·simp only [List.length_cons];omega
  ·omega
def qL (f:aJ) (out:List aJ):List aJ:=out.take (kF f out)++f::out.drop (kF f out)
def nM (out l:List aJ):List aJ:=l.foldl (fun o f=>qL f o) out
theorem Jc (f:aJ) (out:List aJ):(qL f out).Perm (f::out):=by
 unfold qL
 refine List.perm_middle.trans ?_
 rw [List.take_append_drop]
theorem PY (f:aJ):∀out:List aJ,out.Pairwise (fun a b=>a.tag < b.tag)→(∀g∈out,g.tag≠f.tag)→(qL f out).Pairwise (fun a b=>a.tag < b.tag)∧(∀g,out[kF f out]? = some g→g.tag≠f.tag)
 | [],_,_=>by simp [qL,kF]
 | g::l,hp,hn=>by
  rw [List.pairwise_cons] at hp
  unfold qL kF
  by_cases h:g.tag < f.tag
  ·obtain ⟨i1,i2⟩:=PY f l hp.2 fun x hx=>hn x (by simp [hx])
   rw [if_pos h]
   simp only [List.take_succ_cons,List.drop_succ_cons,List.cons_append,List.getElem?_cons_succ]
   refine ⟨List.pairwise_cons.2 ⟨fun x hx=>?_,i1⟩,i2⟩
   have:=(Jc f l).mem_iff.1 hx
   rcases List.mem_cons.1 this with rfl | hx
   ·exact h
   ·exact hp.1 x hx
  ·rw [if_neg h]
   have hg:=hn g (by simp)
   simp only [List.take_zero,List.drop_zero,List.nil_append,List.getElem?_cons_zero]
   refine ⟨List.pairwise_cons.2 ⟨fun x hx=>?_,List.pairwise_cons.2 hp⟩,fun x hx=>?_⟩
   ·rcases List.mem_cons.1 hx with rfl | hx
    ·omega
    ·have:=hp.1 x hx;omega
   ·injection hx with hx
    rw [← hx];exact hg
theorem Ja:∀ (l out:List aJ),out.Pairwise (fun a b=>a.tag < b.tag)→((out++l).map aJ.tag).Nodup→(nM out l).Perm (out++l)∧(nM out l).Pairwise (fun a b=>a.tag < b.tag)
 | [],out,hp,_=>by simp only [nM,List.foldl_nil,List.append_nil];exact ⟨.refl _,hp⟩
 | f::l,out,hp,hn=>by
  have hf:∀g∈out,g.tag≠f.tag:=fun g hg e=>by
   rw [List.map_append,List.nodup_append] at hn
   exact hn.2.2 g.tag (List.mem_map_of_mem hg) f.tag (by simp) e
  have hs:=(PY f out hp hf).1
  have hq:(qL f out++l).Perm (out++f::l):=((Jc f out).append_right l).trans (List.perm_middle.symm)
  have ih:=Ja l (qL f out) hs ((hq.map aJ.tag).nodup_iff.2 hn)
  exact ⟨ih.1.trans hq,ih.2⟩
theorem Iw (l:List aJ):(ak l).all (fun g=>g.gJ 5)=true:=by
 rw [mJ,List.all_eq_true]
 intro g hg
 obtain ⟨f,_,rfl⟩:=List.mem_map.1 hg
 cases f
 simp only [gu];rfl
theorem ah0 (l:List aJ):(ak l).all (fun g=>Nat.beq g.cells.length 5)=true:=by
 rw [mJ,List.all_eq_true]
 intro g hg
 obtain ⟨f,_,rfl⟩:=List.mem_map.1 hg
 cases f
 simp only [gu];rfl
theorem ah3 (l:List aJ) (n:Nat):(ak l).take n=ak (l.take n):=by simp only [mJ,List.map_take]
theorem ah2 (l:List aJ) (n:Nat):(ak l).drop n=ak (l.drop n):=by simp only [mJ,List.map_drop]
theorem Iy (a b:List aJ):ak (a++b)=ak a++ak b:=by simp only [mJ,List.map_append]
/-- What the document's Merge finds: the place of a field. -/
theorem adq (out:List aJ) (hlen:out.length≤10000000) (t y n:Int) (s:List UInt8) (k:List aJ) (x2 x3 x4 x5 x6 x7:GV):∀m i:Nat,i+m=out.length→∃r,TT.lim 152 [.l (ak out),.i .i64 i,x2,x3,x4,x5,x6,x7,.i .u64 t,.i .i64 y,.i .u64 n,.s s,.l (ak k)]=some r∧
 ((∃g,out[i+kF (.mk t y n s k) (out.drop i)]? = some g∧r=[.i .i64 0,.i .i64 (i+kF (.mk t y n s k) (out.drop i):Nat),gu g,.i .u64 g.tag])∨(i+kF (.mk t y n s k) (out.drop i)=out.length∧r=[.i .i64 1,.i .i64 (i+kF (.mk t y n s k) (out.drop i):Nat)]))
 | 0,i,hi=>by
  have h:¬ ((i:Int) < out.length):=by omega
  have hl:=iq out
  have e1:out.drop i=[]:=List.drop_eq_nil_of_le (by omega)
  rw [e1]
  simp only [kF,Nat.add_zero]
  refine ⟨_, ?_,.inr ⟨by omega,rfl⟩⟩
  refine aA rfl rfl ?_
  simp -implicitDefEqProofs [hl,h]
 | m+1,i,hi=>by
  have h:((i:Int) < out.length):=by omega
  have hl:=iq out
  have hw:=wrap64 (n:=(i:Int)+1) (by omega) (by omega)
  obtain ⟨t',y',n',s',k',g1,g2,g3,g4⟩:=vX (l:=out) (i:=i) (by omega)
  obtain ⟨r,ih1,ih2⟩:=adq out hlen t y n s k x2 x3 x4 x5 x6 x7 m (i+1) (by omega)
  have hcast:((i+1:Nat):Int)=(i:Int)+1:=by omega
  rw [hcast] at ih1
  rw [g3]
  unfold kF
  by_cases c:t' < t
  ·have hp:kF (.mk t y n s k) (.mk t' y' n' s' k'::out.drop (i+1))=kF (.mk t y n s k) (out.drop (i+1))+1:=by
    show (if t' < t then _ else _)=_
    rw [if_pos c]
   rw [if_pos (show aJ.tag (.mk t' y' n' s' k') < aJ.tag (.mk t y n s k) from c)]
   rw [show i+(kF (.mk t y n s k) (out.drop (i+1))+1)=i+1+kF (.mk t y n s k) (out.drop (i+1)) by omega]
   refine ⟨r, ?_,ih2⟩
   refine aA rfl rfl ?_
   simp -implicitDefEqProofs [hl,h,g2,c,hw,ih1]
  ·rw [if_neg (show ¬ aJ.tag (.mk t' y' n' s' k') < aJ.tag (.mk t y n s k) from c)]
   refine ⟨_, ?_,.inl ⟨_,g1,rfl⟩⟩
   have hg:gu (.mk t' y' n' s' k')=kM t' y' n' s' k':=by simp only [gu];rfl
   rw [hg]
   refine aA rfl rfl ?_
   simp -implicitDefEqProofs [hl,h,g2,c,aJ.tag]
theorem RY (lists F:List aJ) (L x2 x3:GV) (hF:F.length≤1000000):∀ (m j:Nat) (out:List aJ),j+m=F.length→out.length+m≤5000000→out.Pairwise (fun a b=>a.tag < b.tag)→((out++F.drop j).map aJ.tag).Nodup→
 TT.lim 151 [.l (ak out),L,x2,x3,.l (ak F),.i .i64 F.length,.i .i64 j]=some [.i .i64 1,.l (ak (nM out (F.drop j)))]
 | 0,j,out,hj,ho,hp,hn=>by
  have h:¬ ((j:Int) < F.length):=by omega
  have e1:F.drop j=[]:=List.drop_eq_nil_of_le (by omega)
  rw [e1]
  simp only [nM,List.foldl_nil]
  refine aA rfl rfl ?_
  simp -implicitDefEqProofs [h]
 | m+1,j,out,hj,ho,hp,hn=>by
  have h:((j:Int) < F.length):=by omega
  obtain ⟨t,y,n,s,k,g1,g2,g3,g4⟩:=vX (l:=F) (i:=j) (by omega)
  have hw:=wrap64 (n:=(j:Int)+1) (by omega) (by omega)
  have hcast:((j+1:Nat):Int)=(j:Int)+1:=by omega
  rw [g3] at hn ⊢
  have hf:∀g∈out,g.tag≠aJ.tag (.mk t y n s k):=fun g hg e=>by
   rw [List.map_append,List.nodup_append] at hn
   exact hn.2.2 g.tag (List.mem_map_of_mem hg) _ (by simp) e
  obtain ⟨hs,hne⟩:=PY (.mk t y n s k) out hp hf
  have hq:(qL (.mk t y n s k) out++F.drop (j+1)).Perm (out++.mk t y n s k::F.drop (j+1)):=((Jc _ out).append_right _).trans (List.perm_middle.symm)
  have hil:(qL (.mk t y n s k) out).length=out.length+1:=(Jc _ out).length_eq
  have ih:=RY lists F L x2 x3 hF m (j+1) (qL (.mk t y n s k) out) (by omega) (by omega) hs ((hq.map aJ.tag).nodup_iff.2 hn)
  rw [hcast] at ih
  have hfold:nM out (.mk t y n s k::F.drop (j+1))=nM (qL (.mk t y n s k) out) (F.drop (j+1)):=rfl
  rw [hfold]
  obtain ⟨r,hr1,hr2⟩:=adq out (by omega) t y n s k L x2 x3 (.l (ak F)) (.i .i64 F.length) (.i .i64 j) out.length 0 (by omega)
  rw [List.drop_zero,Nat.zero_add] at hr2
  simp only [Int.natCast_zero] at hr1
  have atw:=acX (.mk t y n s k) out
  unfold qL at ih ⊢
  have hl:=iq out
  have e1:=ah3 out (kF (.mk t y n s k) out)
  have e2:=ah2 out (kF (.mk t y n s k) out)
  have e3:(ak out).take out.length=ak out:=List.take_of_length_le (by omega)
  have hel:(kM t y n s k).gJ 5=true:=rfl
  have hfg:ak (.mk t y n s k::out.drop (kF (.mk t y n s k) out))=kM t y n s k::ak (out.drop (kF (.mk t y n s k) out)):=by simp only [ak,gu];rfl
  rw [Iy,hfg] at ih
  generalize kF (.mk t y n s k) out=P at *
  have o1:=Iw (out.take P)
  have o2:=Iw (out.drop P)
  have c5:=ah0 out
  have l1:=iq (out.take P)
  have l2:=iq (out.drop P)
  rw [List.length_take] at l1
  rw [List.length_drop] at l2
  have hfe:GV.g [.i .u64 t,.i .i64 y,.i .u64 n,.s s,.l (ak k)]=kM t y n s k:=rfl
  have hP0:(0:Int)≤P∧(P:Int)≤out.length:=by omega
  have hdt:((ak out).take P).drop 0=ak (out.take P):=by rw [List.drop_zero,e1]
  have hdd:((ak out).take out.length).drop P=ak (out.drop P):=by rw [e3,e2]
  have q1:(ak (out.take P)).length≤10000000:=by omega
  have q2:(ak (out.drop P)).length≤10000000:=by omega
  clear e1 e2 e3 l1 l2
  generalize ak (out.take P)=T1 at *
  generalize ak (out.drop P)=T2 at *
  have ap:T1++kM t y n s k::T2=T1++[kM t y n s k]++T2:=by simp
  rw [ap] at ih
  have c1:2 * T1.length * 64≤281474976710656∧T1.length≤281474976710656:=by omega
  have c2:2 * (T1.length+1) * 64≤281474976710656∧T1.length+1≤281474976710656:=by omega
  have c3:2 * (T1.length+1+T2.length) * 64≤281474976710656∧T1.length+1+T2.length≤281474976710656:=by omega
  rcases hr2 with ⟨g,hg,rfl⟩ | ⟨hP,rfl⟩
  ·have hlt:(P:Int) < out.length:=by
    have:=(List.getElem?_eq_some_iff.1 hg).1;omega
   have hg2:=hne g hg
   obtain ⟨t1,y1,n1,s1,k1⟩:=g
   have hg3:(ak out)[P]? = some (kM t1 y1 n1 s1 k1):=by rw [mJ,List.getElem?_map,hg];simp only [Option.map_some,gu];rfl
   have hg5:¬ (t1=t):=hg2
   have hg6:gu (.mk t1 y1 n1 s1 k1)=kM t1 y1 n1 s1 k1:=by simp only [gu];rfl
   rw [hg6] at hr1
   clear hne hn hq hs hp hil hfold hg hg2 hg6
   refine aA rfl rfl ?_
   simp -implicitDefEqProofs [-List.all_eq_true, -List.append_assoc,aJ.tag,h,g2,hr1,hl,hlt,hg3,hg5,hfe,hel,hw,c5,hP0,hdt,hdd,o1,o2,c1,c2,c3,ih]
  ·clear hne hn hq hs hp hil hfold
   have hlt:¬ ((P:Int) < out.length):=by omega
   refine aA rfl rfl ?_
   simp -implicitDefEqProofs [-List.all_eq_true, -List.append_assoc,h,g2,hr1,hl,hlt,hfe,hel,hw,c5,hP0,hdt,hdd,o1,o2,c1,c2,c3,ih]
/-- Both lists brought together, where all tags differ. -/
def lN (a b:List aJ):List aJ:=nM [] (a++b)
theorem acA {a b:List aJ} (hn:((a++b).map aJ.tag).Nodup):(lN a b).Perm (a++b)∧(lN a b).Pairwise (fun x y=>x.tag < y.tag):=Ja (a++b) [] List.Pairwise.nil hn
theorem al2 (a b:List aJ) (oa:dX a) (ob:dX b) (la:a.length≤1000000) (lb:b.length≤1000000) (ha:eG 0 0 a=0) (hb:eG 0 0 b=0) (hn:((a++b).map aJ.tag).Nodup):TT.lim 148 [.l [.l (ak a),.l (ak b)]]=some [.l (ak (lN a b)),.i .i64 0]:=by
 have k1:=JJ (cO a+1) a (by omega) oa la 0 (by omega)
 have k2:=JJ (cO b+1) b (by omega) ob lb 0 (by omega)
 rw [ha] at k1
 rw [hb] at k2
 simp only [Int.natCast_zero] at k1 k2
 have hna:(([]++a).map aJ.tag).Nodup:=by
  rw [List.map_append,List.nodup_append] at hn;exact hn.1
 obtain ⟨p1,p2⟩:=Ja a [] List.Pairwise.nil hna
 rw [List.nil_append] at p1
 have hnb:((nM [] a++b).map aJ.tag).Nodup:=(((p1.append_right b).map aJ.tag).nodup_iff).2 hn
 have hla:(nM [] a).length=a.length:=p1.length_eq
 have m1:=RY a a (.l [.l (ak a),.l (ak b)]) (.i .i64 2) (.i .i64 0) la a.length 0 [] (by omega) (by simp;omega) List.Pairwise.nil hna
 have m2:=RY a b (.l [.l (ak a),.l (ak b)]) (.i .i64 2) (.i .i64 1) lb b.length 0 (nM [] a) (by omega) (by omega) p2 hnb
 have hm:nM (nM [] a) b=lN a b:=by unfold lN nM;rw [List.foldl_append]
 rw [List.drop_zero] at m1 m2
 rw [hm] at m2
 simp only [Int.natCast_zero] at m1 m2
 have fn:ak []=[]:=by simp only [ak]
 rw [fn] at m1
 have l1:=iq a
 have l2:=iq b
 have w0:IntKind.i64.wrap 1=1:=by decide
 have w1:IntKind.i64.wrap 2=2:=by decide
 clear hn hna hnb p1 p2 hla hm ha hb oa ob
 generalize ak (nM [] a)=o1 at *
 generalize ak (lN a b)=o2 at *
 generalize ak a=A at *
 generalize ak b=B at *
 have a3:TT.lim 149 [.l [.l A,.l B],.i .i64 2,.i .i64 2]=some [.i .i64 1]:=by
  refine aA rfl rfl ?_
  simp
 have a2:TT.lim 149 [.l [.l A,.l B],.i .i64 2,.i .i64 1]=some [.i .i64 1]:=by
  refine aA rfl rfl ?_
  simp -implicitDefEqProofs [k2,w1,a3]
 have a1:TT.lim 149 [.l [.l A,.l B],.i .i64 2,.i .i64 0]=some [.i .i64 1]:=by
  refine aA rfl rfl ?_
  simp -implicitDefEqProofs [k1,w0,a2]
 have b3:TT.lim 150 [.l o2,.l [.l A,.l B],.i .i64 2,.i .i64 2]=some [.i .i64 1,.l o2]:=by
  refine aA rfl rfl ?_
  simp
 have b2:TT.lim 150 [.l o1,.l [.l A,.l B],.i .i64 2,.i .i64 1]=some [.i .i64 1,.l o2]:=by
  refine aA rfl rfl ?_
  simp -implicitDefEqProofs [l2,m2,w1,b3]
 have b1:TT.lim 150 [.l [],.l [.l A,.l B],.i .i64 2,.i .i64 0]=some [.i .i64 1,.l o2]:=by
  refine aA rfl rfl ?_
  simp -implicitDefEqProofs [l1,m1,w0,b2]
 refine aG rfl rfl ?_ rfl
 simp -implicitDefEqProofs [a1,b1]
theorem aex:∀ (N:Nat) (l:List aJ),cO l < N→dX l→pF l→l.length≤1000000→wL l≤1000000000000→TT.lim 153 [.l (ak l)]=some [.s (bF l)]
 | 0,l,h,_,_,_,_=>by omega
 | N+1,l,hN,hok,hty,hlen,hw=>by
  have hl1:=iq l
  have loop:∀m i,i+m=l.length→∀acc:List UInt8,acc.length+wL (l.drop i)≤1000000000000→TT.lim 154 [.s acc,.l (ak l),.i .i64 l.length,.i .i64 i]=some [.i .i64 0,.s (acc++bF (l.drop i))]:=by
   intro m
   induction m with
   | zero=>
    intro i hi acc hacc
    have e1:l.drop i=[]:=List.drop_eq_nil_of_le (by omega)
    have h:¬ ((i:Int) < l.length):=by omega
    rw [e1]
    simp only [bF,List.append_nil]
    refine aA rfl rfl ?_
    simp -implicitDefEqProofs [h]
   | succ m ih=>
    intro i hi acc hacc
    obtain ⟨t,y,n,s,k,g1,g2,g3,g4⟩:=vX (l:=l) (i:=i) (by omega)
    have hf:=rE hok _ g4
    have ht:=MQ hty _ g4
    simp only [pY] at hf
    obtain ⟨t1,t2,y1,y2,y3,tk⟩:=OV ht
    have hs:=zi g4
    simp only [oG] at hs
    rw [g3] at hacc ⊢
    simp only [wL,wF] at hacc
    have hk:=aex N k (by omega) hf.2 tk hf.1.2.2.2.2.2.2.2 (by omega)
    have hkl:=zV (cO k+1) k (by omega) hf.2 tk (by omega)
    have v1:=qP (4 * t+y).toNat (by omega)
    have v2:=qP n.toNat (by omega)
    have v3:=qP s.length (by omega)
    have v4:=qP (bF k).length (by omega)
    have z1:=fM (n:=(4 * t+y).toNat) (by omega)
    have z2:=fM (n:=n.toNat) (by omega)
    have z3:=fM (n:=s.length) (by omega)
    have z4:=fM (n:=(bF k).length) (by omega)
    rw [show (((4 * t+y).toNat:Nat):Int)=4 * t+y by omega] at v1
    rw [show ((n.toNat:Nat):Int)=n by omega] at v2
    have hcast:((i+1:Nat):Int)=(i:Int)+1:=by omega
    have hwr:=wrap64 (n:=(i:Int)+1) (by omega) (by omega)
    have h:((i:Int) < l.length):=by omega
    have ih':=fun a ha=>ih (i+1) (by omega) a ha
    simp only [hcast] at ih'
    have u0:=fU (n:=4 * t) (by omega) (by omega)
    have u1:=fU (n:=y) (by omega) (by omega)
    have u2:=fU (n:=4 * t+y) (by omega) (by omega)
    have u3:=fU (n:=(s.length:Int)) (by omega) (by omega)
    have u4:=fU (n:=((bF k).length:Int)) (by omega) (by omega)
    have abn:y≠1→y=2→s=[]:=fun h1 h2=>by
     simp only [Bj] at ht
     rcases ht.2.1 with h | h | h
     ·omega
     ·omega
     ·exact h.2.2
    simp only [bF,ET]
    rcases y3 with hy | hy | hy
    ·rw [if_pos hy]
     have je:=ih' (acc++aQ (4 * t+y).toNat++aQ n.toNat) (by simp only [List.length_append];omega)
     rw [show acc++aQ (4 * t+y).toNat++aQ n.toNat++bF (l.drop (i+1))=acc++(aQ (4 * t+y).toNat++aQ n.toNat++bF (l.drop (i+1))) by simp] at je
     generalize aQ (4 * t+y).toNat=A at *
     generalize aQ n.toNat=C at *
     have c1:(acc.length:Int)+A.length≤9223372036854775807:=by omega
     have c2:(acc.length:Int)+A.length+C.length≤9223372036854775807:=by omega
     have q0:(y=0)=True:=eq_true hy
     clear hy
     refine aA rfl rfl ?_
     simp -implicitDefEqProofs [-List.append_assoc,h,g2,q0,u0,u1,u2,v1,v2,hwr,je,c1,c2]
    ·rw [if_neg (by omega),if_pos hy]
     have je:=ih' (acc++aQ (4 * t+y).toNat++aQ s.length++s) (by simp only [List.length_append];omega)
     rw [show acc++aQ (4 * t+y).toNat++aQ s.length++s++bF (l.drop (i+1))=acc++(aQ (4 * t+y).toNat++(aQ s.length++s)++bF (l.drop (i+1))) by simp] at je
     generalize aQ (4 * t+y).toNat=A at *
     generalize aQ s.length=C at *
     have c1:(acc.length:Int)+A.length≤9223372036854775807:=by omega
     have c2:(acc.length:Int)+A.length+C.length≤9223372036854775807:=by omega
     have c3:(acc.length:Int)+A.length+C.length+s.length≤9223372036854775807:=by omega
     have q0:(y=0)=False:=eq_false (by omega)
     have q2:(y=2)=False:=eq_false (by omega)
     clear hy
     refine aA rfl rfl ?_
     simp -implicitDefEqProofs [-List.append_assoc,h,g2,q0,q2,u0,u1,u2,v1,v3,u3,hwr,je,c1,c2,c3]
    ·rw [if_neg (by omega),if_neg (by omega)]
     have je:=ih' (acc++aQ (4 * t+y).toNat++aQ (bF k).length++bF k) (by simp only [List.length_append];omega)
     rw [show acc++aQ (4 * t+y).toNat++aQ (bF k).length++bF k++bF (l.drop (i+1))=acc++(aQ (4 * t+y).toNat++(aQ (bF k).length++bF k)++bF (l.drop (i+1))) by simp] at je
     generalize aQ (4 * t+y).toNat=A at *
     generalize aQ (bF k).length=C at *
     generalize bF k=K at *
     have c1:(acc.length:Int)+A.length≤9223372036854775807:=by omega
     have c2:(acc.length:Int)+A.length+C.length≤9223372036854775807:=by omega
     have c3:(acc.length:Int)+A.length+C.length+K.length≤9223372036854775807:=by omega
     have q0:(y=0)=False:=eq_false (by omega)
     have q2:(y=2)=True:=eq_true hy
     clear hy
     refine aA rfl rfl ?_
     simp -implicitDefEqProofs [-List.append_assoc,h,g2,q0,q2,u0,u1,u2,v1,hk,v4,u4,hwr,je,c1,c2,c3]
  have h0:=loop l.length 0 (by omega) [] (by rw [List.drop_zero];simpa using hw)
  rw [List.drop_zero,List.nil_append] at h0
  simp only [Int.natCast_zero] at h0
  clear loop
  refine aG rfl rfl ?_ rfl
  simp -implicitDefEqProofs [hl1,h0]
theorem afz (s:List UInt8):jc (dJ s)=some s:=by
 induction s with
 | nil=>rfl
 | cons a s ih=>
  have h1:(0:Int)≤a.toNat∧((a.toNat:Nat):Int) < 256:=by have:=a.toNat_lt;omega
  show (if _ then _ else _)=_
  rw [if_pos h1]
  have e:(s.map fun b=>GV.i .u8 b.toNat)=dJ s:=rfl
  rw [e,ih]
  simp
theorem arD (l:List aJ) (hok:dX l) (hlen:l.length≤1000000) (hw:wL l≤1000000000000) (hc:eG 0 0 l=0):TT.lim 93 [.l (ak l)]=some (if 65536 < (bF l).length then [.s [],.i .i64 4] else [.s (bF l),.i .i64 0]):=by
 have ty:=H9 (cO l+1) l (by omega) hok 0 0 hc (by omega)
 have k1:=Io l hok hlen
 rw [hc] at k1
 have k2:=SI (cO l+1) l (by omega) hok ty hlen hw
 have k3:=ae0 (cO l+1) l (by omega) hok ty hlen [] (by simpa using hw)
 have e0:dJ []=[]:=rfl
 rw [e0,List.nil_append] at k3
 have hfl:=zV (cO l+1) l (by omega) hok ty hw
 by_cases c:65536 < (bF l).length
 ·have c':(65536:Int) < (bF l).length:=by omega
  rw [if_pos c]
  refine aG rfl rfl ?_ rfl
  simp -implicitDefEqProofs [k1,k2,c,c']
 ·have c':¬ (65536:Int) < (bF l).length:=by omega
  have hb:=afz (bF l)
  have hl8:(dJ (bF l)).length=(bF l).length:=by simp [dJ]
  have c2:(dJ (bF l)).length≤281474976710656:=by omega
  have c3:(0:Int)≤(bF l).length∧((bF l).length:Int)≤281474976710656∧((bF l).length:Int)≤1152921504606846976:=by omega
  rw [if_neg c]
  clear hok hw hc ty hfl
  generalize bF l=F at *
  generalize ak l=G at *
  generalize dJ F=BF at *
  refine aG rfl rfl ?_ rfl
  simp -implicitDefEqProofs [k1,k2,k3,c,c',hb,c2,c3,GV.gJ]
theorem aes (f:aJ):Bf (gu f)=f.tag:=by
 cases f
 simp only [gu,aJ.tag];rfl
theorem ah1 (l:List aJ):(ak l).all isTagged=true:=by
 rw [mJ,List.all_eq_true]
 intro g hg
 obtain ⟨f,_,rfl⟩:=List.mem_map.1 hg
 cases f
 simp only [gu];rfl
theorem apz {a b:List aJ} (h:a.Perm b):cO a=cO b:=by
 induction h with
 | nil=>rfl
 | cons x _ ih=>simp only [cO,ih]
 | swap x y l=>simp only [cO];omega
 | trans _ _ h1 h2=>rw [h1,h2]
theorem arC {a b:List aJ} (h:a.Perm b):wL a=wL b:=by
 induction h with
 | nil=>rfl
 | cons x _ ih=>simp only [wL,ih]
 | swap x y l=>simp only [wL];omega
 | trans _ _ h1 h2=>rw [h1,h2]
theorem aer:∀a b:List aJ,cO (a++b)=cO a+cO b
 | [],b=>by simp [cO]
 | f::a,b=>by simp only [List.cons_append,cO,aer a b];omega
theorem aeX:∀a b:List aJ,wL (a++b)=wL a+wL b
 | [],b=>by simp [wL]
 | f::a,b=>by simp only [List.cons_append,wL,aeX a b];omega
theorem Iz:∀ {l:List aJ},(∀f∈l,pY f)→dX l
 | [],_=>by simp only [dX]
 | f::l,h=>by
  simp only [dX]
  exact ⟨h f (by simp),Iz fun g hg=>h g (by simp [hg])⟩
theorem ah5 {a b:List aJ} (h:a.Perm b) (hb:dX b):dX a:=Iz fun f hf=>rE hb f (h.mem_iff.1 hf)
theorem ah4 {a b:List aJ} (ha:dX a) (hb:dX b):dX (a++b):=Iz fun f hf=>(List.mem_append.1 hf).elim (rE ha f) (rE hb f)
/-- Slices.SortFunc puts them as the document does. -/
theorem an3 (l:List aJ) (hn:(l.map aJ.tag).Nodup):oZ (ak l)=ak (nM [] l):=by
 have hp:=SK (ak l)
 have hs:=an2 (ak l)
 rw [mJ] at hp
 obtain ⟨p,hp1,hp2⟩:=alk hp l rfl
 rw [← mJ] at hp2
 have hq:=Ja l [] List.Pairwise.nil hn
 rw [List.nil_append] at hq
 have hsp:p.Pairwise (fun a b=>a.tag≤b.tag):=by
  rw [List.pairwise_iff_getElem]
  intro i j hi hj hij
  have:=hs i j (gu p[i]) (gu p[j]) hij (by rw [hp2,List.getElem?_map,List.getElem?_eq_getElem hi];rfl) (by rw [hp2,List.getElem?_map,List.getElem?_eq_getElem hj];rfl)
  rwa [aes,aes] at this
 have e:=aed p (nM [] l) (hp1.trans hq.1.symm) hsp hq.2
 rw [hp2,e,mJ]
theorem acW (l:List aJ) (hl:l.length≤10000000) (hp:l.Pairwise (fun a b=>a.tag < b.tag)):∀m i:Nat,i+1+m=l.length→TT.lim 91 [.l (ak l),.i .i64 ((i:Int)+1)]=some [.i .i64 1]
 | 0,i,hi=>by
  have h:¬ ((i:Int)+1 < l.length):=by omega
  have hg:=iq l
  refine aA rfl rfl ?_
  simp -implicitDefEqProofs [hg,h]
 | m+1,i,hi=>by
  have h:((i:Int)+1 < l.length):=by omega
  have hg:=iq l
  have ih:=acW l hl hp m (i+1) (by omega)
  obtain ⟨t,y,n,s,k,g1,g2,g3,g4⟩:=vX (l:=l) (i:=i) (by omega)
  obtain ⟨t',y',n',s',k',g1',g2',g3',g4'⟩:=vX (l:=l) (i:=i+1) (by omega)
  have hlt:t < t':=by
   have:=List.pairwise_iff_getElem.1 hp i (i+1) (by omega) (by omega) (by omega)
   have e1:l[i]=.mk t y n s k:=by have:=List.getElem?_eq_getElem (l:=l) (i:=i) (by omega);rw [g1] at this;injection this with this;exact this.symm
   have e2:l[i+1]=.mk t' y' n' s' k':=by have:=List.getElem?_eq_getElem (l:=l) (i:=i+1) (by omega);rw [g1'] at this;injection this with this;exact this.symm
   rw [e1,e2] at this
   exact this
  have hne:¬ t'=t:=by omega
  have hcast:((i+1:Nat):Int)=(i:Int)+1:=by omega
  rw [hcast] at ih
  have hw:=wrap64 (n:=(i:Int)+1+1) (by omega) (by omega)
  have hw2:=wrap64 (n:=(i:Int)+1 - 1) (by omega) (by omega)
  have hw3:(i:Int)+1 - 1=i:=by omega
  rw [hw3] at hw2
  have hn0:(0:Int)≤(i:Int)+1:=by omega
  have ht:((i:Int)+1).toNat=i+1:=by omega
  have hi0:i < l.length:=by omega
  have gi:∀h:i < (ak l).length,(ak l)[i]=kM t y n s k:=fun h=>by have:=List.getElem?_eq_getElem h;rw [g2] at this;injection this with this;exact this.symm
  have gi':∀h:i+1 < (ak l).length,(ak l)[i+1]=kM t' y' n' s' k':=fun h=>by have:=List.getElem?_eq_getElem h;rw [g2'] at this;injection this with this;exact this.symm
  refine aA rfl rfl ?_
  simp -implicitDefEqProofs [gi,gi',hg,h,g2,g2',hne,hw,hw2,hw3,hn0,ht,hi0,ih]
theorem alF (a b:List aJ) (oa:dX a) (ob:dX b) (la:a.length≤1000000) (lb:b.length≤1000000) (sa:cO a+cO b≤1000000) (ha:eG 0 0 a=0) (hb:eG 0 0 b=0) (hn:((a++b).map aJ.tag).Nodup):TT.lim 89 [.l [.l (ak a),.l (ak b)]]=some [.l (ak (lN a b)),.i .i64 0]:=by
 have k1:=Io a oa la
 have k2:=Io b ob lb
 rw [ha] at k1
 rw [hb] at k2
 have hab:=Iy a b
 have l1:=iq a
 have l2:=iq b
 have o1:=Iw a
 have o2:=Iw b
 have hso:TT.lim 0 [.l (ak a++ak b)]=some [.l (ak (lN a b))]:=by
  refine FW (Ds:=Ds) (f:=F9) rfl ?_
  have h1:(ak a++ak b).length≤281474976710656∧(ak a++ak b).all isTagged=true:=by
   rw [← hab]
   exact ⟨by rw [iq,List.length_append];omega,ah1 _⟩
  show (if (ak a++ak b).length≤281474976710656∧(ak a++ak b).all isTagged=true then some [GV.l (oZ (ak a++ak b))] else none)=_
  rw [if_pos h1,← hab,an3 _ hn]
  rfl
 obtain ⟨mp,ms⟩:=acA hn
 have hml:(lN a b).length=a.length+b.length:=by rw [mp.length_eq,List.length_append]
 have hsl:(ak (lN a b)).length=(ak a++ak b).length:=by rw [iq,hml,List.length_append,l1,l2]
 have hcl:=ahJ (lN a b) (by rw [apz mp,aer];exact sa)
 have h1:TT.lim 91 [.l (ak (lN a b)),.i .i64 1]=some [.i .i64 1]:=by
  rcases Nat.eq_zero_or_pos (lN a b).length with h0 | h0
  ·have:lN a b=[]:=List.eq_nil_of_length_eq_zero h0
   rw [this]
   have fn:ak []=[]:=by simp only [ak]
   rw [fn]
   refine aA rfl rfl ?_
   simp
  ·have:=acW (lN a b) (by omega) ms ((lN a b).length - 1) 0 (by omega)
   simpa using this
 have w0:IntKind.i64.wrap 1=1:=by decide
 have w1:IntKind.i64.wrap 2=2:=by decide
 have c1:2 * (ak a).length * 64≤281474976710656∧(ak a).length≤281474976710656:=by omega
 have c2:2 * ((ak a).length+(ak b).length) * 64≤281474976710656∧(ak a).length+(ak b).length≤281474976710656:=by omega
 clear hn mp ms hml ha hb oa ob sa hab l1 l2
 generalize ak (lN a b)=M at *
 generalize ak a=A at *
 generalize ak b=B at *
 have a3:TT.lim 90 [.l (A++B),.l [.l A,.l B],.i .i64 2,.i .i64 2]=some [.i .i64 1,.l (A++B)]:=by
  refine aA rfl rfl ?_
  simp
 have a2:TT.lim 90 [.l A,.l [.l A,.l B],.i .i64 2,.i .i64 1]=some [.i .i64 1,.l (A++B)]:=by
  refine aA rfl rfl ?_
  simp -implicitDefEqProofs [-List.all_eq_true,k2,w1,o2,c2,a3]
 have a1:TT.lim 90 [.l [],.l [.l A,.l B],.i .i64 2,.i .i64 0]=some [.i .i64 1,.l (A++B)]:=by
  refine aA rfl rfl ?_
  simp -implicitDefEqProofs [-List.all_eq_true,k1,w0,o1,c1,a2]
 rw [List.length_append] at hsl
 refine aG rfl rfl ?_ rfl
 simp -implicitDefEqProofs [a1,hso,hsl,h1,hcl]
def aW (r:Nat):Nat:=if r % 2=1 then (r / 2) ^^^ 3988292384 else r / 2
theorem gG (a b:Nat):aW (a ^^^ b)=aW a ^^^ aW b:=by
 unfold aW
 have h2:(a ^^^ b) / 2=a / 2 ^^^ b / 2:=Nat.xor_div_two
 have h1:(a ^^^ b) % 2=(a+b) % 2:=by
  have h:=Nat.xor_mod_two_eq_one (a:=a) (b:=b)
  generalize (a ^^^ b)=z at *
  omega
 rw [h2,h1]
 have x1:∀u v:Nat,(u ^^^ 3988292384) ^^^ (v ^^^ 3988292384)=u ^^^ v:=fun u v=>by
  rw [Nat.xor_assoc,Nat.xor_comm v,← Nat.xor_assoc 3988292384,Nat.xor_self,Nat.zero_xor]
 rcases Nat.mod_two_eq_zero_or_one a with ha | ha<;>rcases Nat.mod_two_eq_zero_or_one b with hb | hb
 ·rw [if_neg (by omega),if_neg (by omega),if_neg (by omega)]
 ·rw [if_pos (by omega),if_neg (by omega),if_pos (by omega),Nat.xor_assoc]
 ·rw [if_pos (by omega),if_pos (by omega),if_neg (by omega),Nat.xor_assoc,Nat.xor_assoc,Nat.xor_comm (b / 2)]
 ·rw [if_neg (by omega),if_pos (by omega),if_pos (by omega),x1]
theorem gY (a:Nat):aW (2 * a+1)=a ^^^ 3988292384:=by
 unfold aW
 rw [if_pos (by omega),show (2 * a+1) / 2=a by omega]
theorem gX (a:Nat):aW (2 * a)=a:=by
 unfold aW
 rw [if_neg (by omega),show 2 * a / 2=a by omega]
def dN (r:Nat):Nat:=aW (aW (aW (aW r)))
theorem aoS (q:Nat):dN (16 * q)=q ^^^ 0:=by
 have e0:aW (16 * q)=8 * q:=by rw [show 16 * q=2 * (8 * q) by omega];exact gX _
 have e1:aW (8 * q)=4 * q:=by rw [show 8 * q=2 * (4 * q) by omega];exact gX _
 have e2:aW (4 * q)=2 * q:=by rw [show 4 * q=2 * (2 * q) by omega];exact gX _
 have e3:aW (2 * q)=q:=by exact gX _
 unfold dN
 rw [e0]
 rw [e1]
 rw [e2]
 rw [e3]
 rw [Nat.xor_zero]
theorem aoT (q:Nat):dN (16 * q+1)=q ^^^ 498536548:=by
 have e0:aW (16 * q+1)=(8 * q) ^^^ 3988292384:=by rw [show 16 * q+1=2 * (8 * q)+1 by omega];exact gY _
 have e1:aW (8 * q)=4 * q:=by rw [show 8 * q=2 * (4 * q) by omega];exact gX _
 have e2:aW (4 * q)=2 * q:=by rw [show 4 * q=2 * (2 * q) by omega];exact gX _
 have e3:aW (2 * q)=q:=by exact gX _
 unfold dN
 rw [e0]
 rw [gG,e1,show aW 3988292384=1994146192 by decide]
 rw [gG,e2,show aW 1994146192=997073096 by decide]
 rw [gG,e3,show aW 997073096=498536548 by decide]
theorem ao0 (q:Nat):dN (16 * q+2)=q ^^^ 997073096:=by
 have e0:aW (16 * q+2)=8 * q+1:=by rw [show 16 * q+2=2 * (8 * q+1) by omega];exact gX _
 have e1:aW (8 * q+1)=(4 * q) ^^^ 3988292384:=by rw [show 8 * q+1=2 * (4 * q)+1 by omega];exact gY _
 have e2:aW (4 * q)=2 * q:=by rw [show 4 * q=2 * (2 * q) by omega];exact gX _
 have e3:aW (2 * q)=q:=by exact gX _
 unfold dN
 rw [e0]
 rw [e1]
 rw [gG,e2,show aW 3988292384=1994146192 by decide]
 rw [gG,e3,show aW 1994146192=997073096 by decide]
theorem ao1 (q:Nat):dN (16 * q+3)=q ^^^ 651767980:=by
 have e0:aW (16 * q+3)=(8 * q+1) ^^^ 3988292384:=by rw [show 16 * q+3=2 * (8 * q+1)+1 by omega];exact gY _
 have e1:aW (8 * q+1)=(4 * q) ^^^ 3988292384:=by rw [show 8 * q+1=2 * (4 * q)+1 by omega];exact gY _
 have e2:aW (4 * q)=2 * q:=by rw [show 4 * q=2 * (2 * q) by omega];exact gX _
 have e3:aW (2 * q)=q:=by exact gX _
 unfold dN
 rw [e0]
 rw [gG,e1,show aW 3988292384=1994146192 by decide]
 rw [Nat.xor_assoc,show 3988292384 ^^^ 1994146192=2607071920 by decide]
 rw [gG,e2,show aW 2607071920=1303535960 by decide]
 rw [gG,e3,show aW 1303535960=651767980 by decide]
theorem ao2 (q:Nat):dN (16 * q+4)=q ^^^ 1994146192:=by
 have e0:aW (16 * q+4)=8 * q+2:=by rw [show 16 * q+4=2 * (8 * q+2) by omega];exact gX _
 have e1:aW (8 * q+2)=4 * q+1:=by rw [show 8 * q+2=2 * (4 * q+1) by omega];exact gX _
 have e2:aW (4 * q+1)=(2 * q) ^^^ 3988292384:=by rw [show 4 * q+1=2 * (2 * q)+1 by omega];exact gY _
 have e3:aW (2 * q)=q:=by exact gX _
 unfold dN
 rw [e0]
 rw [e1]
 rw [e2]
 rw [gG,e3,show aW 3988292384=1994146192 by decide]
theorem ao3 (q:Nat):dN (16 * q+5)=q ^^^ 1802195444:=by
 have e0:aW (16 * q+5)=(8 * q+2) ^^^ 3988292384:=by rw [show 16 * q+5=2 * (8 * q+2)+1 by omega];exact gY _
 have e1:aW (8 * q+2)=4 * q+1:=by rw [show 8 * q+2=2 * (4 * q+1) by omega];exact gX _
 have e2:aW (4 * q+1)=(2 * q) ^^^ 3988292384:=by rw [show 4 * q+1=2 * (2 * q)+1 by omega];exact gY _
 have e3:aW (2 * q)=q:=by exact gX _
 unfold dN
 rw [e0]
 rw [gG,e1,show aW 3988292384=1994146192 by decide]
 rw [gG,e2,show aW 1994146192=997073096 by decide]
 rw [Nat.xor_assoc,show 3988292384 ^^^ 997073096=3604390888 by decide]
 rw [gG,e3,show aW 3604390888=1802195444 by decide]
theorem ao4 (q:Nat):dN (16 * q+6)=q ^^^ 1303535960:=by
 have e0:aW (16 * q+6)=8 * q+3:=by rw [show 16 * q+6=2 * (8 * q+3) by omega];exact gX _
 have e1:aW (8 * q+3)=(4 * q+1) ^^^ 3988292384:=by rw [show 8 * q+3=2 * (4 * q+1)+1 by omega];exact gY _
 have e2:aW (4 * q+1)=(2 * q) ^^^ 3988292384:=by rw [show 4 * q+1=2 * (2 * q)+1 by omega];exact gY _
 have e3:aW (2 * q)=q:=by exact gX _
 unfold dN
 rw [e0]
 rw [e1]
 rw [gG,e2,show aW 3988292384=1994146192 by decide]
 rw [Nat.xor_assoc,show 3988292384 ^^^ 1994146192=2607071920 by decide]
 rw [gG,e3,show aW 2607071920=1303535960 by decide]
theorem ao5 (q:Nat):dN (16 * q+7)=q ^^^ 1342533948:=by
 have e0:aW (16 * q+7)=(8 * q+3) ^^^ 3988292384:=by rw [show 16 * q+7=2 * (8 * q+3)+1 by omega];exact gY _
 have e1:aW (8 * q+3)=(4 * q+1) ^^^ 3988292384:=by rw [show 8 * q+3=2 * (4 * q+1)+1 by omega];exact gY _
 have e2:aW (4 * q+1)=(2 * q) ^^^ 3988292384:=by rw [show 4 * q+1=2 * (2 * q)+1 by omega];exact gY _
 have e3:aW (2 * q)=q:=by exact gX _
 unfold dN
 rw [e0]
 rw [gG,e1,show aW 3988292384=1994146192 by decide]
 rw [Nat.xor_assoc,show 3988292384 ^^^ 1994146192=2607071920 by decide]
 rw [gG,e2,show aW 2607071920=1303535960 by decide]
 rw [Nat.xor_assoc,show 3988292384 ^^^ 1303535960=2685067896 by decide]
 rw [gG,e3,show aW 2685067896=1342533948 by decide]
theorem ao6 (q:Nat):dN (16 * q+8)=q ^^^ 3988292384:=by
 have e0:aW (16 * q+8)=8 * q+4:=by rw [show 16 * q+8=2 * (8 * q+4) by omega];exact gX _
 have e1:aW (8 * q+4)=4 * q+2:=by rw [show 8 * q+4=2 * (4 * q+2) by omega];exact gX _
 have e2:aW (4 * q+2)=2 * q+1:=by rw [show 4 * q+2=2 * (2 * q+1) by omega];exact gX _
 have e3:aW (2 * q+1)=q ^^^ 3988292384:=by exact gY _
 unfold dN
 rw [e0]
 rw [e1]
 rw [e2]
 rw [e3]
theorem ao7 (q:Nat):dN (16 * q+9)=q ^^^ 4027552580:=by
 have e0:aW (16 * q+9)=(8 * q+4) ^^^ 3988292384:=by rw [show 16 * q+9=2 * (8 * q+4)+1 by omega];exact gY _
 have e1:aW (8 * q+4)=4 * q+2:=by rw [show 8 * q+4=2 * (4 * q+2) by omega];exact gX _
 have e2:aW (4 * q+2)=2 * q+1:=by rw [show 4 * q+2=2 * (2 * q+1) by omega];exact gX _
 have e3:aW (2 * q+1)=q ^^^ 3988292384:=by exact gY _
 unfold dN
 rw [e0]
 rw [gG,e1,show aW 3988292384=1994146192 by decide]
 rw [gG,e2,show aW 1994146192=997073096 by decide]
 rw [gG,e3,show aW 997073096=498536548 by decide]
 rw [Nat.xor_assoc,show 3988292384 ^^^ 498536548=4027552580 by decide]
theorem aoU (q:Nat):dN (16 * q+10)=q ^^^ 3604390888:=by
 have e0:aW (16 * q+10)=8 * q+5:=by rw [show 16 * q+10=2 * (8 * q+5) by omega];exact gX _
 have e1:aW (8 * q+5)=(4 * q+2) ^^^ 3988292384:=by rw [show 8 * q+5=2 * (4 * q+2)+1 by omega];exact gY _
 have e2:aW (4 * q+2)=2 * q+1:=by rw [show 4 * q+2=2 * (2 * q+1) by omega];exact gX _
 have e3:aW (2 * q+1)=q ^^^ 3988292384:=by exact gY _
 unfold dN
 rw [e0]
 rw [e1]
 rw [gG,e2,show aW 3988292384=1994146192 by decide]
 rw [gG,e3,show aW 1994146192=997073096 by decide]
 rw [Nat.xor_assoc,show 3988292384 ^^^ 997073096=3604390888 by decide]
theorem aoV (q:Nat):dN (16 * q+11)=q ^^^ 3412177804:=by
 have e0:aW (16 * q+11)=(8 * q+5) ^^^ 3988292384:=by rw [show 16 * q+11=2 * (8 * q+5)+1 by omega];exact gY _
 have e1:aW (8 * q+5)=(4 * q+2) ^^^ 3988292384:=by rw [show 8 * q+5=2 * (4 * q+2)+1 by omega];exact gY _
 have e2:aW (4 * q+2)=2 * q+1:=by rw [show 4 * q+2=2 * (2 * q+1) by omega];exact gX _
 have e3:aW (2 * q+1)=q ^^^ 3988292384:=by exact gY _
 unfold dN
 rw [e0]
 rw [gG,e1,show aW 3988292384=1994146192 by decide]
 rw [Nat.xor_assoc,show 3988292384 ^^^ 1994146192=2607071920 by decide]
 rw [gG,e2,show aW 2607071920=1303535960 by decide]
 rw [gG,e3,show aW 1303535960=651767980 by decide]
 rw [Nat.xor_assoc,show 3988292384 ^^^ 651767980=3412177804 by decide]
theorem aoW (q:Nat):dN (16 * q+12)=q ^^^ 2607071920:=by
 have e0:aW (16 * q+12)=8 * q+6:=by rw [show 16 * q+12=2 * (8 * q+6) by omega];exact gX _
 have e1:aW (8 * q+6)=4 * q+3:=by rw [show 8 * q+6=2 * (4 * q+3) by omega];exact gX _
 have e2:aW (4 * q+3)=(2 * q+1) ^^^ 3988292384:=by rw [show 4 * q+3=2 * (2 * q+1)+1 by omega];exact gY _
 have e3:aW (2 * q+1)=q ^^^ 3988292384:=by exact gY _
 unfold dN
 rw [e0]
 rw [e1]
 rw [e2]
 rw [gG,e3,show aW 3988292384=1994146192 by decide]
 rw [Nat.xor_assoc,show 3988292384 ^^^ 1994146192=2607071920 by decide]
theorem aoX (q:Nat):dN (16 * q+13)=q ^^^ 2262029012:=by
 have e0:aW (16 * q+13)=(8 * q+6) ^^^ 3988292384:=by rw [show 16 * q+13=2 * (8 * q+6)+1 by omega];exact gY _
 have e1:aW (8 * q+6)=4 * q+3:=by rw [show 8 * q+6=2 * (4 * q+3) by omega];exact gX _
 have e2:aW (4 * q+3)=(2 * q+1) ^^^ 3988292384:=by rw [show 4 * q+3=2 * (2 * q+1)+1 by omega];exact gY _
 have e3:aW (2 * q+1)=q ^^^ 3988292384:=by exact gY _
 unfold dN
 rw [e0]
 rw [gG,e1,show aW 3988292384=1994146192 by decide]
 rw [gG,e2,show aW 1994146192=997073096 by decide]
 rw [Nat.xor_assoc,show 3988292384 ^^^ 997073096=3604390888 by decide]
 rw [gG,e3,show aW 3604390888=1802195444 by decide]
 rw [Nat.xor_assoc,show 3988292384 ^^^ 1802195444=2262029012 by decide]
theorem aoY (q:Nat):dN (16 * q+14)=q ^^^ 2685067896:=by
 have e0:aW (16 * q+14)=8 * q+7:=by rw [show 16 * q+14=2 * (8 * q+7) by omega];exact gX _
 have e1:aW (8 * q+7)=(4 * q+3) ^^^ 3988292384:=by rw [show 8 * q+7=2 * (4 * q+3)+1 by omega];exact gY _
 have e2:aW (4 * q+3)=(2 * q+1) ^^^ 3988292384:=by rw [show 4 * q+3=2 * (2 * q+1)+1 by omega];exact gY _
 have e3:aW (2 * q+1)=q ^^^ 3988292384:=by exact gY _
 unfold dN
 rw [e0]
 rw [e1]
 rw [gG,e2,show aW 3988292384=1994146192 by decide]
 rw [Nat.xor_assoc,show 3988292384 ^^^ 1994146192=2607071920 by decide]
 rw [gG,e3,show aW 2607071920=1303535960 by decide]
 rw [Nat.xor_assoc,show 3988292384 ^^^ 1303535960=2685067896 by decide]
theorem aoZ (q:Nat):dN (16 * q+15)=q ^^^ 3183342108:=by
 have e0:aW (16 * q+15)=(8 * q+7) ^^^ 3988292384:=by rw [show 16 * q+15=2 * (8 * q+7)+1 by omega];exact gY _
 have e1:aW (8 * q+7)=(4 * q+3) ^^^ 3988292384:=by rw [show 8 * q+7=2 * (4 * q+3)+1 by omega];exact gY _
 have e2:aW (4 * q+3)=(2 * q+1) ^^^ 3988292384:=by rw [show 4 * q+3=2 * (2 * q+1)+1 by omega];exact gY _
 have e3:aW (2 * q+1)=q ^^^ 3988292384:=by exact gY _
 unfold dN
 rw [e0]
 rw [gG,e1,show aW 3988292384=1994146192 by decide]
 rw [Nat.xor_assoc,show 3988292384 ^^^ 1994146192=2607071920 by decide]
 rw [gG,e2,show aW 2607071920=1303535960 by decide]
 rw [Nat.xor_assoc,show 3988292384 ^^^ 1303535960=2685067896 by decide]
 rw [gG,e3,show aW 2685067896=1342533948 by decide]
 rw [Nat.xor_assoc,show 3988292384 ^^^ 1342533948=3183342108 by decide]
def rG (b:ay) (s:dh):Option aJ:=match placeOf s.name with
 | some p=>if (aT b p).1=0∧(aT b p).2=[] then none else some (.mk s.tag (eF p) (aT b p).1 (aT b p).2 [])
 | none=>none
def ji (b:ay) (l:List dh):List aJ:=l.filterMap (rG b)
theorem Fp (b:ay) (s:dh) (l:List dh):ji b (s::l)=(match rG b s with | some f=>[f] | none=>[])++ji b l:=by
 unfold ji
 rw [List.filterMap_cons]
 cases rG b s<;>rfl
theorem aeS {b:ay} {fl:List aJ} (h:uh b fl) {s:dh} (hs:placeOf s.name≠none∧s.use=dY s.name):∃p,placeOf s.name=some p∧TT.lim 83 [bH b (ak fl),.s s.name]=some [.g [.i .u64 0,.i .i64 (eF p),.i .u64 (aT b p).1,.s (aT b p).2,.l []],.b true]∧TT.lim 107 [bH b (ak fl),.s s.name]=some [.i .u64 (aT b p).1,.s (aT b p).2]∧s.use.tdiv 3=eF p∧0≤s.use∧s.use≤5:=by
 rcases aq5 b (ak fl) h.body h.d h.t.few s.name with ⟨p,h1,h2,h3,h4⟩ | ⟨h1,h2⟩
 ·obtain ⟨g1,g2,g3⟩:=aeP p
  rw [← h4,← hs.2] at g1 g2 g3
  exact ⟨p,h1,h2,h3,g2,g1,g3⟩
 ·cases hp:placeOf s.name with
  | none=>exact absurd hp hs.1
  | some p=>
   unfold dY at h2
   rw [hp] at h2
   have:=(aeP p).1
   simp only at h2
   omega
theorem acS {b:ay} {fl:List aJ} (hM:uh b fl) (ls:List dh) (hl:ls.length≤1000) (hls:∀s∈ls,placeOf s.name≠none∧s.use=dY s.name):∀ (m i:Nat) (acc:List aJ),i+m=ls.length→acc.length+m≤2000→
 TT.lim 82 ([.l (ak acc),.l (ls.map bG),.i .i64 ls.length,.i .i64 i]++(bH b (ak fl)).cells)=some [.i .i64 0,.l (ak (acc++ji b (ls.drop i)))]
 | 0,i,acc,hi,ha=>by
  have h:¬ ((i:Int) < ls.length):=by omega
  have e:ls.drop i=[]:=List.drop_eq_nil_of_le (by omega)
  rw [e]
  have:ji b []=[]:=rfl
  rw [this,List.append_nil,rJ]
  simp only [List.cons_append,List.nil_append]
  refine aA rfl rfl ?_
  simp -implicitDefEqProofs [h]
 | m+1,i,acc,hi,ha=>by
  have hlt:i < ls.length:=by omega
  have h:((i:Int) < ls.length):=by omega
  obtain ⟨p,v1,v2, -, -, -, -⟩:=aeS hM (hls _ (List.getElem_mem hlt))
  have hdr:ls.drop i=ls[i]::ls.drop (i+1):=List.drop_eq_getElem_cons hlt
  have hat:(ls.map bG)[i]? = some (bG ls[i]):=by rw [List.getElem?_map,List.getElem?_eq_getElem hlt];rfl
  have hcast:((i+1:Nat):Int)=(i:Int)+1:=by omega
  have hw:=wrap64 (n:=(i:Int)+1) (by omega) (by omega)
  rw [hdr,Fp]
  have hk:rG b ls[i]=if (aT b p).1=0∧(aT b p).2=[] then none else some (.mk ls[i].tag (eF p) (aT b p).1 (aT b p).2 []):=by unfold rG;rw [v1]
  rw [hk]
  have ih:=acS hM ls hl hls m (i+1)
  generalize ls[i]=s at *
  clear hk hdr v1
  have la:=iq acc
  have fn:ak []=[]:=by simp only [ak]
  have hel:(kM s.tag (eF p) (aT b p).1 (aT b p).2 []).gJ 5=true:=rfl
  have hfe:GV.g [.i .u64 s.tag,.i .i64 (eF p),.i .u64 (aT b p).1,.s (aT b p).2,.l []]=kM s.tag (eF p) (aT b p).1 (aT b p).2 []:=by unfold kM;rw [fn]
  have c1:2 * ((ak acc).length+1) * 64≤281474976710656∧(ak acc).length+1≤281474976710656:=by omega
  by_cases hz:(aT b p).1=0∧(aT b p).2=[]
  ·rw [if_pos hz]
   have ih:=ih acc (by omega) (by omega)
   rw [rJ,hcast] at ih
   rw [rJ]
   simp only [List.cons_append,List.nil_append] at ih ⊢
   clear hel hfe c1 la
   obtain ⟨z1,z2⟩:=hz
   rw [z1,z2] at v2
   generalize ak acc=A at *
   generalize ak fl=r at *
   generalize ls.map bG=SP at *
   generalize eF p=ty at *
   refine aA rfl rfl ?_
   simp -implicitDefEqProofs [h,hat,dF,v2,hw,ih]
  ·rw [if_neg hz]
   have ih:=ih (acc++[.mk s.tag (eF p) (aT b p).1 (aT b p).2 []]) (by omega) (by rw [List.length_append,List.length_singleton];omega)
   have hfa:ak (acc++[.mk s.tag (eF p) (aT b p).1 (aT b p).2 []])=ak acc++[kM s.tag (eF p) (aT b p).1 (aT b p).2 []]:=by rw [Iy];simp only [ak,gu];rfl
   rw [rJ,hcast,hfa,List.append_assoc] at ih
   rw [rJ]
   simp only [List.cons_append,List.nil_append] at ih ⊢
   generalize hR:ak (acc++.mk s.tag (eF p) (aT b p).1 (aT b p).2 []::ji b (ls.drop (i+1)))=R at *
   clear hR hfa la
   generalize kM s.tag (eF p) (aT b p).1 (aT b p).2 []=E at *
   generalize ak acc=A at *
   generalize ak fl=r at *
   generalize ls.map bG=SP at *
   generalize eF p=ty at *
   generalize aT b p=vv at *
   obtain ⟨n,t⟩:=vv
   simp only at *
   by_cases hn:n=0
   ·have ht:¬ t=[]:=fun e=>hz ⟨hn,e⟩
    subst hn
    refine aA rfl rfl ?_
    simp -implicitDefEqProofs [h,hat,dF,v2,ht,hfe,hel,c1,hw,ih]
   ·refine aA rfl rfl ?_
    simp -implicitDefEqProofs [h,hat,dF,v2,hn,hfe,hel,c1,hw,ih]
theorem adl {b:ay} {fl:List aJ} (hM:uh b fl) (ls:List dh) (hl:ls.length≤1000) (hls:∀s∈ls,placeOf s.name≠none∧s.use=dY s.name):∀ (m i:Nat) (acc:List aJ),i+m=ls.length→acc.length+m≤2000→
 TT.lim 147 ([.l (ak acc),.l (ls.map bG),.i .i64 ls.length,.i .i64 i]++(bH b (ak fl)).cells)=some [.i .i64 0,.l (ak (acc++ji b (ls.drop i)))]
 | 0,i,acc,hi,ha=>by
  have h:¬ ((i:Int) < ls.length):=by omega
  have e:ls.drop i=[]:=List.drop_eq_nil_of_le (by omega)
  rw [e]
  have:ji b []=[]:=rfl
  rw [this,List.append_nil,rJ]
  simp only [List.cons_append,List.nil_append]
  refine aA rfl rfl ?_
  simp -implicitDefEqProofs [h]
 | m+1,i,acc,hi,ha=>by
  have hlt:i < ls.length:=by omega
  have h:((i:Int) < ls.length):=by omega
  obtain ⟨p,v1, -,v2,u1,u2,u3⟩:=aeS hM (hls _ (List.getElem_mem hlt))
  have hdr:ls.drop i=ls[i]::ls.drop (i+1):=List.drop_eq_getElem_cons hlt
  have hat:(ls.map bG)[i]? = some (bG ls[i]):=by rw [List.getElem?_map,List.getElem?_eq_getElem hlt];rfl
  have hcast:((i+1:Nat):Int)=(i:Int)+1:=by omega
  have hw:=wrap64 (n:=(i:Int)+1) (by omega) (by omega)
  rw [hdr,Fp]
  have hk:rG b ls[i]=if (aT b p).1=0∧(aT b p).2=[] then none else some (.mk ls[i].tag (eF p) (aT b p).1 (aT b p).2 []):=by unfold rG;rw [v1]
  rw [hk]
  have ih:=adl hM ls hl hls m (i+1)
  generalize ls[i]=s at *
  clear hk hdr v1
  have hty:0≤eF p∧eF p≤1:=by cases p<;>simp [eF]
  have hwt:=wrap64 (n:=eF p) (by omega) (by omega)
  have la:=iq acc
  have fn:ak []=[]:=by simp only [ak]
  have hel:(kM s.tag (eF p) (aT b p).1 (aT b p).2 []).gJ 5=true:=rfl
  have hfe:GV.g [.i .u64 s.tag,.i .i64 (eF p),.i .u64 (aT b p).1,.s (aT b p).2,.l []]=kM s.tag (eF p) (aT b p).1 (aT b p).2 []:=by unfold kM;rw [fn]
  have c1:2 * ((ak acc).length+1) * 64≤281474976710656∧(ak acc).length+1≤281474976710656:=by omega
  by_cases hz:(aT b p).1=0∧(aT b p).2=[]
  ·rw [if_pos hz]
   have ih:=ih acc (by omega) (by omega)
   rw [rJ,hcast] at ih
   rw [rJ]
   simp only [List.cons_append,List.nil_append] at ih ⊢
   clear hel hfe c1 la
   obtain ⟨z1,z2⟩:=hz
   rw [z1,z2] at v2
   generalize ak acc=A at *
   generalize ak fl=r at *
   generalize ls.map bG=SP at *
   generalize eF p=ty at *
   refine aA rfl rfl ?_
   simp -implicitDefEqProofs [h,hat,dF,v2,hw,ih]
  ·rw [if_neg hz]
   have ih:=ih (acc++[.mk s.tag (eF p) (aT b p).1 (aT b p).2 []]) (by omega) (by rw [List.length_append,List.length_singleton];omega)
   have hfa:ak (acc++[.mk s.tag (eF p) (aT b p).1 (aT b p).2 []])=ak acc++[kM s.tag (eF p) (aT b p).1 (aT b p).2 []]:=by rw [Iy];simp only [ak,gu];rfl
   rw [rJ,hcast,hfa,List.append_assoc] at ih
   rw [rJ]
   simp only [List.cons_append,List.nil_append] at ih ⊢
   generalize hR:ak (acc++.mk s.tag (eF p) (aT b p).1 (aT b p).2 []::ji b (ls.drop (i+1)))=R at *
   clear hR hfa la
   generalize kM s.tag (eF p) (aT b p).1 (aT b p).2 []=E at *
   generalize ak acc=A at *
   generalize ak fl=r at *
   generalize ls.map bG=SP at *
   rw [← u1] at hwt hfe
   clear u1 hty
   generalize aT b p=vv at *
   obtain ⟨n,t⟩:=vv
   simp only at *
   by_cases hn:n=0
   ·have ht:¬ t=[]:=fun e=>hz ⟨hn,e⟩
    subst hn
    refine aA rfl rfl ?_
    simp -implicitDefEqProofs [h,hat,dF,v2,ht,hwt,hfe,hel,c1,hw,ih]
   ·refine aA rfl rfl ?_
    simp -implicitDefEqProofs [h,hat,dF,v2,hn,hwt,hfe,hel,c1,hw,ih]
theorem H8:∀ (l:List aJ) (w:Nat) (a:Int),eG w a l=0→(∀f∈l,f.tag≠0∧f.tag≤4294967296∧rC w f=0∧a < f.tag)∧l.Pairwise (fun x y=>x.tag < y.tag)
 | [],w,a,_=>⟨by simp,List.Pairwise.nil⟩
 | f::l,w,a,h=>by
  unfold eG at h
  by_cases h1:f.tag=0
  ·rw [if_pos h1] at h;exact absurd h (by decide)
  rw [if_neg h1] at h
  by_cases h2:4294967296 < f.tag
  ·rw [if_pos h2] at h;exact absurd h (by decide)
  rw [if_neg h2] at h
  by_cases h3:f.tag≤a
  ·rw [if_pos h3] at h;exact absurd h (by decide)
  rw [if_neg h3] at h
  by_cases h4:rC w f=0
  rotate_left
  ·rw [if_pos h4] at h;exact absurd h h4
  rw [if_neg (fun e=>e h4)] at h
  obtain ⟨i1,i2⟩:=H8 l w f.tag h
  refine ⟨fun g hg=>?_,List.pairwise_cons.2 ⟨fun g hg=>(i1 g hg).2.2.2,i2⟩⟩
  rcases List.mem_cons.1 hg with rfl | hg
  ·exact ⟨h1,by omega,h4,by omega⟩
  ·obtain ⟨q1,q2,q3,q4⟩:=i1 g hg
   exact ⟨q1,q2,q3,by omega⟩
theorem Om:∀ (l:List aJ) (w:Nat) (a:Int),(∀f∈l,f.tag≠0∧f.tag≤4294967296∧rC w f=0∧a < f.tag)→l.Pairwise (fun x y=>x.tag < y.tag)→eG w a l=0
 | [],w,a,_,_=>by unfold eG;rfl
 | f::l,w,a,h,hp=>by
  obtain ⟨q1,q2,q3,q4⟩:=h f (by simp)
  rw [List.pairwise_cons] at hp
  unfold eG
  rw [if_neg q1,if_neg (by omega),if_neg (by omega),if_neg (fun e=>e q3)]
  refine Om l w f.tag (fun g hg=>?_) hp.2
  obtain ⟨r1,r2,r3,r4⟩:=h g (by simp [hg])
  exact ⟨r1,r2,r3,hp.1 g hg⟩
theorem an5 (k:Int):(iI k).Pairwise (fun s t=>s.tag < t.tag)∧∀s∈iI k,1≤s.tag∧s.tag≤5:=by
 unfold iI
 repeat' split
 all_goals first | (unfold sp1;decide) | (unfold sp2;decide) | (unfold tH;decide) | (unfold tJ;decide) | (unfold tK;decide) | (unfold tN;decide) | (unfold tV;decide) | (unfold tX;decide) | exact ⟨List.Pairwise.nil,fun s hs=>by cases hs⟩
theorem Qe (k v:Int):(dP k v).Pairwise (fun s t=>s.tag < t.tag)∧∀s∈dP k v,1≤s.tag∧s.tag≤5:=by
 obtain ⟨h1,h2⟩:=an5 k
 exact ⟨h1.sublist List.filter_sublist,fun s hs=>h2 s (List.mem_filter.1 hs).1⟩
theorem Jg {b:ay} {s:dh} {f:aJ} (h:rG b s=some f):∃p,placeOf s.name=some p∧f=.mk s.tag (eF p) (aT b p).1 (aT b p).2 []∧¬ ((aT b p).1=0∧(aT b p).2=[]):=by
 unfold rG at h
 cases hp:placeOf s.name with
 | none=>rw [hp] at h;cases h
 | some p=>
  rw [hp] at h
  simp only at h
  by_cases hz:(aT b p).1=0∧(aT b p).2=[]
  ·rw [if_pos hz] at h;cases h
  ·rw [if_neg hz] at h
   injection h with h
   exact ⟨p,rfl,h.symm,hz⟩
theorem Ji {b:ay} {l:List dh} {f:aJ} (h:f∈ji b l):∃s∈l,∃p,placeOf s.name=some p∧f=.mk s.tag (eF p) (aT b p).1 (aT b p).2 []∧¬ ((aT b p).1=0∧(aT b p).2=[]):=by
 unfold ji at h
 obtain ⟨s,hs,hf⟩:=List.mem_filterMap.1 h
 exact ⟨s,hs,Jg hf⟩
theorem Qi (b:ay):∀ (l:List dh),l.Pairwise (fun s t=>s.tag < t.tag)→(ji b l).Pairwise (fun x y=>x.tag < y.tag)
 | [],_=>List.Pairwise.nil
 | s::l,h=>by
  rw [List.pairwise_cons] at h
  rw [Fp]
  have ih:=Qi b l h.2
  cases hk:rG b s with
  | none=>exact ih
  | some f=>
   obtain ⟨p, -,rfl, -⟩:=Jg hk
   refine List.pairwise_cons.2 ⟨fun g hg=>?_,ih⟩
   obtain ⟨s',hs',p', -,rfl, -⟩:=Ji hg
   exact h.1 s' hs'
theorem aq4 (b:ay) (p:Pl):(eF p=0∧(aT b p).2=[])∨(eF p=1∧(aT b p).1=0):=by
 cases p<;>simp [eF,aT]
theorem Qj (b:ay) (k v:Int):eG 0 0 (ji b (dP k v))=0:=by
 obtain ⟨h1,h2⟩:=Qe k v
 refine Om _ 0 0 (fun f hf=>?_) (Qi b _ h1)
 obtain ⟨s,hs,p, -,rfl, -⟩:=Ji hf
 have:=h2 s hs
 refine ⟨by show s.tag≠0;omega,by show s.tag≤_;omega, ?_,by show 0 < s.tag;omega⟩
 unfold rC
 rcases aq4 b p with ⟨q1,q2⟩ | ⟨q1,q2⟩
 ·rw [q1,q2];simp
 ·rw [q1,q2];simp
def Short (b:ay):Prop:=b.name.length≤600∧b.region.length≤600∧b.note.length≤600
theorem aeR {b:ay} {fl:List aJ} (h:uh b fl) (hw:Short b) (p:Pl):(0≤(aT b p).1∧(aT b p).1 < 18446744073709551616)∧(aT b p).2.length≤100000000:=by
 have q:=h.body
 obtain ⟨w1,w2,w3⟩:=hw
 cases p with
 | rem=>
  have hr:=q.remaining
  exact ⟨by simp only [aT];unfold zz;split<;>omega,by simp [aT]⟩
 | allow=>refine ⟨?_,by simp [aT]⟩;simp only [aT];split<;>omega
 | name=>exact ⟨by simp [aT],by simp only [aT];omega⟩
 | region=>exact ⟨by simp [aT],by simp only [aT];omega⟩
 | note=>exact ⟨by simp [aT],by simp only [aT];omega⟩
 | d=>
  refine ⟨by simp [aT], ?_⟩
  simp only [aT]
  have:=Ah h.d
  split
  ·simp
  ·omega
 | t=>
  refine ⟨by simp [aT], ?_⟩
  simp only [aT]
  have:=alg b.t h.t
  split
  ·simp
  ·unfold wY
   split
   ·simp
   ·simp only;omega
 | num k=>
  refine ⟨?_,by simp [aT]⟩
  simp only [aT]
  unfold bQ
  split<;>first | exact q.id | exact q.min | exact q.max | exact q.chosen | exact q.flags | exact q.cost | exact q.priority | exact q.deadline | exact q.retry | exact q.epoch | exact q.base | exact q.digest | exact q.lag | exact q.code | exact q.want
theorem Qh {b:ay} {fl:List aJ} (h:uh b fl) (hw:Short b) (k v:Int):dX (ji b (dP k v)):=Iz fun f hf=>by
 obtain ⟨s,hs,p, -,rfl, -⟩:=Ji hf
 have ht:=(Qe k v).2 s hs
 have hv:=aeR h hw p
 have hy:0≤eF p∧eF p≤1:=by cases p<;>simp [eF]
 simp only [pY,dX]
 refine ⟨⟨?_, ?_, ?_, ?_,hv.1.1,hv.1.2,hv.2, ?_⟩,trivial⟩
 all_goals first | omega | simp
theorem Qg (b:ay) (k v:Int):(ji b (dP k v)).length≤8:=Nat.le_trans (List.length_filterMap_le _ _) (wJ k v)
theorem abB (b:ay):∀l:List dh,cO (ji b l)≤2 * l.length
 | []=>by simp [ji,cO]
 | s::l=>by
  rw [Fp]
  have ih:=abB b l
  cases hk:rG b s with
  | none=>simp only [List.nil_append,List.length_cons];omega
  | some f=>
   obtain ⟨p, -,rfl, -⟩:=Jg hk
   simp only [List.cons_append,List.nil_append,cO,oG,List.length_cons]
   omega
theorem abC {b:ay} {fl:List aJ} (h:uh b fl) (hw:Short b):∀l:List dh,wL (ji b l)≤100000040 * l.length
 | []=>by simp [ji,wL]
 | s::l=>by
  rw [Fp]
  have ih:=abC h hw l
  cases hk:rG b s with
  | none=>simp only [List.nil_append,List.length_cons];omega
  | some f=>
   obtain ⟨p, -,rfl, -⟩:=Jg hk
   have hv:=(aeR h hw p).2
   simp only [List.cons_append,List.nil_append,wL,wF,List.length_cons]
   omega
theorem IE:∀ (n:Nat) (l:List One) (deep:Int),(∀x∈l,x.text.length≤300)→wL (dR n l deep).1+340 * (dR n l deep).2.length≤340 * l.length
 | 0,l,deep,_=>by simp [dR,wL]
 | n+1,[],deep,_=>by simp [dR,wL]
 | n+1,x::l,deep,h=>by
  have hx:=h x (by simp)
  have hl:∀y∈l,y.text.length≤300:=fun y hy=>h y (by simp [hy])
  simp only [dR]
  split
  ·by_cases hd:x.deep=255
   ·rw [if_pos hd]
    have h1:=IE n l deep hl
    simp only [wL,wF,List.length_cons]
    omega
   ·rw [if_neg hd]
    have h1:=IE n l (x.deep+1) hl
    obtain ⟨k,hk⟩:=(zW n l (x.deep+1)).2
    have h2:=IE n (dR n l (x.deep+1)).2 deep (fun y hy=>hl y (by rw [hk] at hy;exact List.mem_of_mem_drop hy))
    simp only [wL,wF,List.length_cons]
    omega
  ·simp -implicitDefEqProofs [wL]
theorem aj7 (l:List One) (hf:pW l=true):wL (jk l)≤20400:=by
 unfold pW at hf
 rw [Bool.and_eq_true,decide_eq_true_iff,List.all_eq_true] at hf
 have:=IE (l.length+1) l 0 fun x hx=>by simpa using hf.1 x hx
 unfold jk
 omega
/-- What is needed of a message that is written. -/
structure BG (b:ay) (fl:List aJ):Prop where
 msg:uh b fl
 short:Short b
 sz:cO fl≤900000
 w:wL fl≤1000000
theorem BX {b:ay} {fl:List aJ} {v:Int} (h:kJ b fl v=0):1≤v∧v≤3∧dP b.kind v≠[]∧eG 0 0 fl=0∧∀f∈fl,hasTag (dP b.kind v) f.tag=false:=by
 unfold kJ at h
 by_cases h1:v < 1
 ·rw [if_pos h1] at h;exact absurd h (by decide)
 rw [if_neg h1] at h
 by_cases h2:3 < v
 ·rw [if_pos h2] at h;exact absurd h (by decide)
 rw [if_neg h2] at h
 by_cases h3:dP b.kind v=[]
 ·rw [if_pos h3] at h;exact absurd h (by decide)
 rw [if_neg h3] at h
 by_cases h4:lq.all (fun n=>nK (dP b.kind v) n || fD b n)=false
 ·rw [if_pos h4] at h;exact absurd h (by decide)
 rw [if_neg h4] at h
 by_cases h5:kN b (dP b.kind v)≠0
 ·rw [if_pos h5] at h;exact absurd h h5
 rw [if_neg h5] at h
 by_cases h6:BO b≠0
 ·rw [if_pos h6] at h;exact absurd h h6
 rw [if_neg h6] at h
 unfold DC at h
 by_cases h7:eG 0 0 fl≠0
 ·rw [if_pos h7] at h;exact absurd h h7
 rw [if_neg h7] at h
 by_cases h8:fl.any (fun f=>hasTag (dP b.kind v) f.tag)=true
 ·rw [if_pos h8] at h;exact absurd h (by decide)
 refine ⟨by omega,by omega,h3,by simpa using h7,fun f hf=>?_⟩
 cases e:hasTag (dP b.kind v) f.tag with
 | false=>rfl
 | true=>exact absurd (List.any_eq_true.2 ⟨f,hf,e⟩) h8
theorem ND {b:ay} {fl:List aJ} {v:Int} (h:kJ b fl v=0):((ji b (dP b.kind v)++fl).map aJ.tag).Nodup:=by
 obtain ⟨-, -, -,h1,h2⟩:=BX h
 have p1:=Qi b _ (Qe b.kind v).1
 have p2:=(H8 fl 0 0 h1).2
 rw [List.map_append,List.nodup_append]
 have nd:∀l:List aJ,l.Pairwise (fun x y=>x.tag < y.tag)→(l.map aJ.tag).Nodup:=fun l hl=>by
  unfold List.Nodup
  rw [List.pairwise_map]
  exact hl.imp fun h e=>by omega
 refine ⟨nd _ p1,nd _ p2,fun x hx y hy e=>?_⟩
 obtain ⟨f,hf,rfl⟩:=List.mem_map.1 hx
 obtain ⟨g,hg,rfl⟩:=List.mem_map.1 hy
 obtain ⟨s,hs,p, -,rfl, -⟩:=Ji hf
 have:=h2 g hg
 unfold hasTag at this
 have h3:(dP b.kind v).any (fun s=>decide (g.tag=s.tag))=true:=List.any_eq_true.2 ⟨s,hs,decide_eq_true (show g.tag=s.tag from e.symm)⟩
 rw [h3] at this
 cases this
def pR (b:ay) (fl:List aJ) (v:Int):List aJ:=lN (ji b (dP b.kind v)) fl
def pX (b:ay) (fl:List aJ) (v:Int):List aJ×Int:=if kJ b fl v=0 then (pR b fl v,0) else ([],kJ b fl v)
structure ae3 (l:List aJ):Prop where
 ok:dX l
 len:l.length≤1000000
 w:wL l≤1000000000000
 chk:eG 0 0 l=0
theorem NG {b:ay} {fl:List aJ} {v:Int} (hm:BG b fl) (h:kJ b fl v=0):ae3 (pR b fl v):=by
 obtain ⟨-, -, -,h1,h2⟩:=BX h
 obtain ⟨mp,ms⟩:=acA (ND h)
 have hl:fl.length≤900000:=by
  have:∀l:List aJ,l.length≤cO l:=fun l=>by
   induction l with
   | nil=>simp [cO]
   | cons f l ih=>simp only [List.length_cons,cO];omega
  have:=this fl
  have:=hm.sz
  omega
 have kl:=Qg b b.kind v
 have kw:=abC hm.msg hm.short (dP b.kind v)
 have k8:=wJ b.kind v
 have mw:=hm.w
 refine ⟨ah5 mp (ah4 (Qh hm.msg hm.short _ _) hm.msg.f8), ?_, ?_, ?_⟩
 ·unfold pR;rw [mp.length_eq,List.length_append];omega
 ·unfold pR;rw [arC mp,aeX]
  have:100000040 * (dP b.kind v).length≤100000040 * 8:=Nat.mul_le_mul_left _ k8
  omega
 ·refine Om _ 0 0 (fun f hf=>?_) ms
  rcases List.mem_append.1 (mp.mem_iff.1 hf) with hf | hf
  ·exact (H8 _ 0 0 (Qj b b.kind v)).1 f hf
  ·exact (H8 _ 0 0 h1).1 f hf
theorem abz {k v:Int} (h:dP k v≠[]):1≤k∧k≤8:=by
 by_cases c:1≤k∧k≤8
 ·exact c
 ·exfalso
  apply h
  unfold dP iI
  rw [if_neg (by omega),if_neg (by omega),if_neg (by omega),if_neg (by omega),if_neg (by omega),if_neg (by omega),if_neg (by omega),if_neg (by omega)]
  rfl
theorem acT {b:ay} {fl:List aJ} (hm:BG b fl) (v:Int):TT.lim 28 [bH b (ak fl),.i .i64 v]=some [.l (ak (pX b fl v).1),.i .i64 (pX b fl v).2]:=by
 have hc:=akC b fl v hm.msg.body hm.msg.t.few hm.msg.f8 hm.msg.len
 unfold pX
 by_cases c:kJ b fl v=0
 rotate_left
 ·rw [if_neg c]
  have fn:ak []=[]:=by simp only [ak]
  rw [fn]
  generalize ak fl=r at *
  generalize kJ b fl v=ck at *
  refine aG rfl rfl ?_ rfl
  simp -implicitDefEqProofs [dF,hc,c]
 rw [if_pos c]
 rw [c] at hc
 obtain ⟨v1,v3,hne,h8, -⟩:=BX c
 have hk:=abA b.kind v v1 v3 (by
  have:=mt (abD b.kind v v1 v3).2 hne
  omega)
 have h0:=acS hm.msg (dP b.kind v) (by have:=wJ b.kind v;omega) (Qk b.kind v) (dP b.kind v).length 0 [] (by omega) (by have:=wJ b.kind v;simp;omega)
 have fn:ak []=[]:=by simp only [ak]
 rw [List.drop_zero,List.nil_append,rJ,fn] at h0
 simp only [List.cons_append,List.nil_append,Int.natCast_zero] at h0
 have hsz:=abB b (dP b.kind v)
 have k8:=wJ b.kind v
 have mo:=alF _ fl (Qh hm.msg hm.short b.kind v) hm.msg.f8 (by have:=Qg b b.kind v;omega) hm.msg.len (by have:=hm.sz;omega) (Qj b b.kind v) h8 (ND c)
 have hal:(((dP b.kind v).map bG).length:Int)=((dP b.kind v).length:Int):=by rw [List.length_map]
 unfold pR
 generalize ak (lN (ji b (dP b.kind v)) fl)=M at *
 generalize ak (ji b (dP b.kind v))=KV at *
 generalize (dP b.kind v).map bG=SP at *
 generalize ((dP b.kind v).length:Int)=L at *
 generalize ak fl=r at *
 clear hsz k8 hne h8 c hm v1 v3
 refine aG rfl rfl ?_ rfl
 simp -implicitDefEqProofs [dF,hc,hk,hal,h0,mo]
theorem adn {b:ay} {fl:List aJ} (hm:BG b fl) (v:Int):TT.lim 146 [bH b (ak fl),.i .i64 v]=some [.l (ak (pX b fl v).1),.i .i64 (pX b fl v).2]:=by
 have hc:=ac6 b fl v hm.msg.body hm.msg.t.few hm.msg.f8 hm.msg.len
 unfold pX
 by_cases c:kJ b fl v=0
 rotate_left
 ·rw [if_neg c]
  have fn:ak []=[]:=by simp only [ak]
  rw [fn]
  generalize ak fl=r at *
  generalize kJ b fl v=ck at *
  refine aG rfl rfl ?_ rfl
  simp -implicitDefEqProofs [dF,hc,c]
 rw [if_pos c]
 rw [c] at hc
 obtain ⟨v1,v3,hne,h8, -⟩:=BX c
 have hk:=ado b.kind v v3
 have h0:=adl hm.msg (dP b.kind v) (by have:=wJ b.kind v;omega) (Qk b.kind v) (dP b.kind v).length 0 [] (by omega) (by have:=wJ b.kind v;simp;omega)
 have fn:ak []=[]:=by simp only [ak]
 rw [List.drop_zero,List.nil_append,rJ,fn] at h0
 simp only [List.cons_append,List.nil_append,Int.natCast_zero] at h0
 have mo:=al2 _ fl (Qh hm.msg hm.short b.kind v) hm.msg.f8 (by have:=Qg b b.kind v;omega) hm.msg.len (Qj b b.kind v) h8 (ND c)
 have hal:(((dP b.kind v).map bG).length:Int)=((dP b.kind v).length:Int):=by rw [List.length_map]
 unfold pR
 generalize ak (lN (ji b (dP b.kind v)) fl)=M at *
 generalize ak (ji b (dP b.kind v))=KV at *
 generalize (dP b.kind v).map bG=SP at *
 generalize ((dP b.kind v).length:Int)=L at *
 generalize ak fl=r at *
 clear hne h8 c hm v1 v3
 refine aG rfl rfl ?_ rfl
 simp -implicitDefEqProofs [dF,hc,hk,hal,h0,mo]
/-- What is written, or why not. -/
def bytesV (b:ay) (fl:List aJ) (v:Int):List UInt8:=aQ b.kind.toNat++bF (pR b fl v)
def rD (b:ay) (fl:List aJ) (v:Int):List UInt8×Int:=if kJ b fl v=0 then (if 65536 < (bytesV b fl v).length then ([],4) else (bytesV b fl v,0)) else ([],kJ b fl v)
theorem alj {b:ay} {fl:List aJ} (hm:BG b fl) (v:Int):TT.lim 27 [bH b (ak fl),.i .i64 v]=some [.s (rD b fl v).1,.i .i64 (rD b fl v).2]:=by
 have hf:=acT hm v
 unfold pX at hf
 unfold rD
 by_cases c:kJ b fl v=0
 rotate_left
 ·rw [if_neg c] at hf ⊢
  generalize ak fl=r at *
  generalize kJ b fl v=ck at *
  refine aG rfl rfl ?_ rfl
  simp -implicitDefEqProofs [dF,hf,c]
 rw [if_pos c] at hf ⊢
 have ao:=NG hm c
 have hw:=arD (pR b fl v) ao.ok ao.len ao.w ao.chk
 obtain ⟨-, -,hne, -, -⟩:=BX c
 obtain ⟨k1,k8⟩:=abz hne
 have hp:=qO b.kind.toNat (by omega)
 have hpl:=fM (n:=b.kind.toNat) (by omega)
 rw [show ((b.kind.toNat:Nat):Int)=b.kind by omega] at hp
 have wk:=fU (n:=b.kind) (by omega) (by omega)
 unfold bytesV
 rw [List.length_append]
 clear ao c hm hne
 generalize pR b fl v=AF at *
 generalize aQ b.kind.toNat=V at *
 generalize ak fl=r at *
 generalize ak AF=G at *
 generalize bF AF=F at *
 by_cases c1:65536 < F.length
 ·rw [if_pos c1] at hw
  rw [if_pos (by omega)]
  refine aG rfl rfl ?_ rfl
  simp -implicitDefEqProofs [dF,hf,hw]
 ·rw [if_neg c1] at hw
  have c3:(V.length:Int)+F.length≤9223372036854775807:=by omega
  by_cases c2:65536 < V.length+F.length
  ·have c2':(65536:Int) < V.length+F.length:=by omega
   rw [if_pos c2]
   refine aG rfl rfl ?_ rfl
   simp -implicitDefEqProofs [dF,hf,hw,wk,hp,c2',c3]
  ·have c2':¬ (65536:Int) < V.length+F.length:=by omega
   rw [if_neg c2]
   refine aG rfl rfl ?_ rfl
   simp -implicitDefEqProofs [dF,hf,hw,wk,hp,c2',c3]
theorem alX {b:ay} {fl:List aJ} (hm:BG b fl) (v:Int):TT.lim 98 [bH b (ak fl),.i .i64 v]=some [.s (rD b fl v).1,.i .i64 (rD b fl v).2]:=by
 have hc:=ac6 b fl v hm.msg.body hm.msg.t.few hm.msg.f8 hm.msg.len
 have hf:=adn hm v
 unfold pX at hf
 unfold rD
 by_cases c:kJ b fl v=0
 rotate_left
 ·rw [if_neg c] at hf ⊢
  generalize ak fl=r at *
  generalize kJ b fl v=ck at *
  refine aG rfl rfl ?_ rfl
  simp -implicitDefEqProofs [dF,hc,c]
 rw [if_pos c] at hf ⊢
 rw [c] at hc
 have ao:=NG hm c
 have hty:=H9 (cO (pR b fl v)+1) _ (by omega) ao.ok 0 0 ao.chk (by omega)
 have hw:=aex (cO (pR b fl v)+1) (pR b fl v) (by omega) ao.ok hty ao.len ao.w
 have hfl:=zV (cO (pR b fl v)+1) _ (by omega) ao.ok hty ao.w
 have haw:=ao.w
 obtain ⟨-, -,hne, -, -⟩:=BX c
 obtain ⟨k1,k8⟩:=abz hne
 have hp:=qP b.kind.toNat (by omega)
 have hpl:=fM (n:=b.kind.toNat) (by omega)
 rw [show ((b.kind.toNat:Nat):Int)=b.kind by omega] at hp
 have wk:=fU (n:=b.kind) (by omega) (by omega)
 unfold bytesV
 rw [List.length_append]
 clear ao c hm hne hty
 generalize pR b fl v=AF at *
 generalize aQ b.kind.toNat=V at *
 generalize ak fl=r at *
 generalize ak AF=G at *
 have c3:(V.length:Int)+(bF AF).length≤9223372036854775807:=by omega
 generalize bF AF=F at *
 clear hfl haw
 have ht:TT.lim 145 [bH b r,.i .i64 v]=some [.s (V++F)]:=by
  refine aG rfl rfl ?_ rfl
  simp -implicitDefEqProofs [dF,hf,hw,wk,hp,c3]
 by_cases c2:65536 < V.length+F.length
 ·have c2':(65536:Int) < V.length+F.length:=by omega
  rw [if_pos c2]
  refine aG rfl rfl ?_ rfl
  simp -implicitDefEqProofs [dF,hc,ht,c2']
 ·have c2':¬ (65536:Int) < V.length+F.length:=by omega
  rw [if_neg c2]
  refine aG rfl rfl ?_ rfl
  simp -implicitDefEqProofs [dF,hc,ht,c2']
end Q
end Go.Proofs.YthgifdbaegpbpaaGreatDoor
