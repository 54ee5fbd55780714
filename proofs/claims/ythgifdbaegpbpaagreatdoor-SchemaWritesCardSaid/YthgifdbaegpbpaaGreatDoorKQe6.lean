/- What the trees compute: plain laws. -/
import Derived.Test.YthgifdbaegpbpaaGreatDoorKQe5
namespace Go.Proofs.YthgifdbaegpbpaaGreatDoor
open Go Go.aP
set_option linter.unusedSimpArgs false
set_option linter.unusedVariables false
set_option maxRecDepth 100000
namespace Q
theorem wrap32 {n:Int} (h0:0≤n) (h1:n < 4294967296):IntKind.u32.wrap n=n:=by
 have wu:∀y:Int,IntKind.u32.wrap y=y % 4294967296:=fun y=>by simp [IntKind.wrap,IntKind.signed,IntKind.bits]
 rw [wu];omega
theorem ofInt32 (a:Nat) (ha:a < 4294967296):(BitVec.ofInt 32 (a:Int)).toNat=a:=by rw [BitVec.toNat_ofInt];omega
theorem Gv {a b:Nat} (ha:a < 4294967296) (hb:b < 4294967296):a ^^^ b < 4294967296:=Nat.xor_lt_two_pow (n:=32) ha hb
theorem x32 (a b:Nat) (ha:a < 4294967296) (hb:b < 4294967296):bK .xor .u32 (a:Int) (b:Int)=some (.i .u32 ((a ^^^ b:Nat):Int)):=by
 show some (GV.i IntKind.u32 (IntKind.u32.wrap ((BitVec.ofInt 32 (a:Int) ^^^ BitVec.ofInt 32 (b:Int)).toNat:Int)))=_
 have hlt:=Gv ha hb
 rw [BitVec.toNat_xor,ofInt32 a ha,ofInt32 b hb,wrap32 (by omega) (by omega)]
theorem afh (a:Nat) (ha:a < 4294967296):bK .and .u32 (a:Int) 15=some (.i .u32 ((a % 16:Nat):Int)):=by
 have h:=ofInt32 15 (by decide)
 show some (GV.i IntKind.u32 (IntKind.u32.wrap ((BitVec.ofInt 32 (a:Int) &&& BitVec.ofInt 32 15).toNat:Int)))=_
 have e:a &&& 15=a % 16:=Nat.and_two_pow_sub_one_eq_mod a 4
 rw [BitVec.toNat_and,ofInt32 a ha,show (BitVec.ofInt 32 15).toNat=15 from h,e,wrap32 (by omega) (by omega)]
theorem ad6 (a:Nat):nS .shr .u32 (a:Int) 4=some (.i .u32 ((a:Int) / 16)):=by
 show some (GV.i IntKind.u32 ((a:Int).fdiv (2 ^ 4)))=_
 rw [Int.fdiv_eq_ediv_of_nonneg _ (by decide)]
 rfl
theorem Gf {r:Nat} (h:r < 4294967296):aW r < 4294967296:=by
 unfold aW
 split
 ·exact Gv (by omega) (by decide)
 ·omega
theorem SQ {r:Nat} (h:r < 4294967296):dN r < 4294967296:=Gf (Gf (Gf (Gf h)))
theorem nib (y:Nat) (hy:y < 4294967296):(bK .and .u32 (y:Int) 15=some (.i .u32 0)∧bK .xor .u32 ((y:Int) / 16) 0=some (.i .u32 (dN y:Nat)))∨(bK .and .u32 (y:Int) 15=some (.i .u32 1)∧bK .xor .u32 ((y:Int) / 16) 498536548=some (.i .u32 (dN y:Nat)))∨(bK .and .u32 (y:Int) 15=some (.i .u32 2)∧bK .xor .u32 ((y:Int) / 16) 997073096=some (.i .u32 (dN y:Nat)))∨(bK .and .u32 (y:Int) 15=some (.i .u32 3)∧bK .xor .u32 ((y:Int) / 16) 651767980=some (.i .u32 (dN y:Nat)))∨(bK .and .u32 (y:Int) 15=some (.i .u32 4)∧bK .xor .u32 ((y:Int) / 16) 1994146192=some (.i .u32 (dN y:Nat)))∨(bK .and .u32 (y:Int) 15=some (.i .u32 5)∧bK .xor .u32 ((y:Int) / 16) 1802195444=some (.i .u32 (dN y:Nat)))∨(bK .and .u32 (y:Int) 15=some (.i .u32 6)∧bK .xor .u32 ((y:Int) / 16) 1303535960=some (.i .u32 (dN y:Nat)))∨(bK .and .u32 (y:Int) 15=some (.i .u32 7)∧bK .xor .u32 ((y:Int) / 16) 1342533948=some (.i .u32 (dN y:Nat)))∨(bK .and .u32 (y:Int) 15=some (.i .u32 8)∧bK .xor .u32 ((y:Int) / 16) 3988292384=some (.i .u32 (dN y:Nat)))∨(bK .and .u32 (y:Int) 15=some (.i .u32 9)∧bK .xor .u32 ((y:Int) / 16) 4027552580=some (.i .u32 (dN y:Nat)))∨(bK .and .u32 (y:Int) 15=some (.i .u32 10)∧bK .xor .u32 ((y:Int) / 16) 3604390888=some (.i .u32 (dN y:Nat)))∨(bK .and .u32 (y:Int) 15=some (.i .u32 11)∧bK .xor .u32 ((y:Int) / 16) 3412177804=some (.i .u32 (dN y:Nat)))∨(bK .and .u32 (y:Int) 15=some (.i .u32 12)∧bK .xor .u32 ((y:Int) / 16) 2607071920=some (.i .u32 (dN y:Nat)))∨(bK .and .u32 (y:Int) 15=some (.i .u32 13)∧bK .xor .u32 ((y:Int) / 16) 2262029012=some (.i .u32 (dN y:Nat)))∨(bK .and .u32 (y:Int) 15=some (.i .u32 14)∧bK .xor .u32 ((y:Int) / 16) 2685067896=some (.i .u32 (dN y:Nat)))∨(bK .and .u32 (y:Int) 15=some (.i .u32 15)∧bK .xor .u32 ((y:Int) / 16) 3183342108=some (.i .u32 (dN y:Nat))):=by
 have ha:=afh y hy
 have hx:∀T:Nat,T < 4294967296→bK .xor .u32 ((y / 16:Nat):Int) (T:Int)=some (.i .u32 ((y / 16 ^^^ T:Nat):Int)):=fun T hT=>x32 _ T (by omega) hT
 have h16:y % 16=0∨y % 16=1∨y % 16=2∨y % 16=3∨y % 16=4∨y % 16=5∨y % 16=6∨y % 16=7∨y % 16=8∨y % 16=9∨y % 16=10∨y % 16=11∨y % 16=12∨y % 16=13∨y % 16=14∨y % 16=15:=by omega
 rcases h16 with h | h | h | h | h | h | h | h | h | h | h | h | h | h | h | h
 ·refine .inl ⟨?_, ?_⟩
  ·rw [ha,h];rfl
  ·have e:=aoS (y / 16)
   rw [show 16 * (y / 16)=y by omega] at e
   rw [e]
   have hq:((y / 16:Nat):Int)=(y:Int) / 16:=by omega
   rw [← hq]
   exact hx 0 (by decide)
 ·refine .inr (.inl ⟨?_, ?_⟩)
  ·rw [ha,h];rfl
  ·have e:=aoT (y / 16)
   rw [show 16 * (y / 16)+1=y by omega] at e
   rw [e]
   have hq:((y / 16:Nat):Int)=(y:Int) / 16:=by omega
   rw [← hq]
   exact hx 498536548 (by decide)
 ·refine .inr (.inr (.inl ⟨?_, ?_⟩))
  ·rw [ha,h];rfl
  ·have e:=ao0 (y / 16)
   rw [show 16 * (y / 16)+2=y by omega] at e
   rw [e]
   have hq:((y / 16:Nat):Int)=(y:Int) / 16:=by omega
   rw [← hq]
   exact hx 997073096 (by decide)
 ·refine .inr (.inr (.inr (.inl ⟨?_, ?_⟩)))
  ·rw [ha,h];rfl
  ·have e:=ao1 (y / 16)
   rw [show 16 * (y / 16)+3=y by omega] at e
   rw [e]
   have hq:((y / 16:Nat):Int)=(y:Int) / 16:=by omega
   rw [← hq]
   exact hx 651767980 (by decide)
 ·refine .inr (.inr (.inr (.inr (.inl ⟨?_, ?_⟩))))
  ·rw [ha,h];rfl
  ·have e:=ao2 (y / 16)
   rw [show 16 * (y / 16)+4=y by omega] at e
   rw [e]
   have hq:((y / 16:Nat):Int)=(y:Int) / 16:=by omega
   rw [← hq]
   exact hx 1994146192 (by decide)
 ·refine .inr (.inr (.inr (.inr (.inr (.inl ⟨?_, ?_⟩)))))
  ·rw [ha,h];rfl
  ·have e:=ao3 (y / 16)
   rw [show 16 * (y / 16)+5=y by omega] at e
   rw [e]
   have hq:((y / 16:Nat):Int)=(y:Int) / 16:=by omega
   rw [← hq]
   exact hx 1802195444 (by decide)
 ·refine .inr (.inr (.inr (.inr (.inr (.inr (.inl ⟨?_, ?_⟩))))))
  ·rw [ha,h];rfl
  ·have e:=ao4 (y / 16)
   rw [show 16 * (y / 16)+6=y by omega] at e
   rw [e]
   have hq:((y / 16:Nat):Int)=(y:Int) / 16:=by omega
   rw [← hq]
   exact hx 1303535960 (by decide)
 ·refine .inr (.inr (.inr (.inr (.inr (.inr (.inr (.inl ⟨?_, ?_⟩)))))))
  ·rw [ha,h];rfl
  ·have e:=ao5 (y / 16)
   rw [show 16 * (y / 16)+7=y by omega] at e
   rw [e]
   have hq:((y / 16:Nat):Int)=(y:Int) / 16:=by omega
   rw [← hq]
   exact hx 1342533948 (by decide)
 ·refine .inr (.inr (.inr (.inr (.inr (.inr (.inr (.inr (.inl ⟨?_, ?_⟩))))))))
  ·rw [ha,h];rfl
  ·have e:=ao6 (y / 16)
   rw [show 16 * (y / 16)+8=y by omega] at e
   rw [e]
   have hq:((y / 16:Nat):Int)=(y:Int) / 16:=by omega
   rw [← hq]
   exact hx 3988292384 (by decide)
 ·refine .inr (.inr (.inr (.inr (.inr (.inr (.inr (.inr (.inr (.inl ⟨?_, ?_⟩)))))))))
  ·rw [ha,h];rfl
  ·have e:=ao7 (y / 16)
   rw [show 16 * (y / 16)+9=y by omega] at e
   rw [e]
   have hq:((y / 16:Nat):Int)=(y:Int) / 16:=by omega
   rw [← hq]
   exact hx 4027552580 (by decide)
 ·refine .inr (.inr (.inr (.inr (.inr (.inr (.inr (.inr (.inr (.inr (.inl ⟨?_, ?_⟩))))))))))
  ·rw [ha,h];rfl
  ·have e:=aoU (y / 16)
   rw [show 16 * (y / 16)+10=y by omega] at e
   rw [e]
   have hq:((y / 16:Nat):Int)=(y:Int) / 16:=by omega
   rw [← hq]
   exact hx 3604390888 (by decide)
 ·refine .inr (.inr (.inr (.inr (.inr (.inr (.inr (.inr (.inr (.inr (.inr (.inl ⟨?_, ?_⟩)))))))))))
  ·rw [ha,h];rfl
  ·have e:=aoV (y / 16)
   rw [show 16 * (y / 16)+11=y by omega] at e
   rw [e]
   have hq:((y / 16:Nat):Int)=(y:Int) / 16:=by omega
   rw [← hq]
   exact hx 3412177804 (by decide)
 ·refine .inr (.inr (.inr (.inr (.inr (.inr (.inr (.inr (.inr (.inr (.inr (.inr (.inl ⟨?_, ?_⟩))))))))))))
  ·rw [ha,h];rfl
  ·have e:=aoW (y / 16)
   rw [show 16 * (y / 16)+12=y by omega] at e
   rw [e]
   have hq:((y / 16:Nat):Int)=(y:Int) / 16:=by omega
   rw [← hq]
   exact hx 2607071920 (by decide)
 ·refine .inr (.inr (.inr (.inr (.inr (.inr (.inr (.inr (.inr (.inr (.inr (.inr (.inr (.inl ⟨?_, ?_⟩)))))))))))))
  ·rw [ha,h];rfl
  ·have e:=aoX (y / 16)
   rw [show 16 * (y / 16)+13=y by omega] at e
   rw [e]
   have hq:((y / 16:Nat):Int)=(y:Int) / 16:=by omega
   rw [← hq]
   exact hx 2262029012 (by decide)
 ·refine .inr (.inr (.inr (.inr (.inr (.inr (.inr (.inr (.inr (.inr (.inr (.inr (.inr (.inr (.inl ⟨?_, ?_⟩))))))))))))))
  ·rw [ha,h];rfl
  ·have e:=aoY (y / 16)
   rw [show 16 * (y / 16)+14=y by omega] at e
   rw [e]
   have hq:((y / 16:Nat):Int)=(y:Int) / 16:=by omega
   rw [← hq]
   exact hx 2685067896 (by decide)
 ·refine .inr (.inr (.inr (.inr (.inr (.inr (.inr (.inr (.inr (.inr (.inr (.inr (.inr (.inr (.inr (⟨?_, ?_⟩)))))))))))))))
  ·rw [ha,h];rfl
  ·have e:=aoZ (y / 16)
   rw [show 16 * (y / 16)+15=y by omega] at e
   rw [e]
   have hq:((y / 16:Nat):Int)=(y:Int) / 16:=by omega
   rw [← hq]
   exact hx 3183342108 (by decide)
def xR (r c:Nat):Nat:=dN (dN (r ^^^ c))
theorem N9 {r c:Nat} (hr:r < 4294967296) (hc:c < 256):xR r c < 4294967296:=SQ (SQ (Gv hr (by omega)))
def qR (r:Nat) (s:List UInt8):Nat:=s.foldl (fun r c=>xR r c.toNat) r
theorem SV:∀ (s:List UInt8) (r:Nat),r < 4294967296→qR r s < 4294967296
 | [],r,h=>h
 | c::s,r,h=>SV s _ (N9 h (by have:=c.toNat_lt;omega))
set_option maxHeartbeats 8000000 in
theorem ak6 (r:Nat) (hr:r < 4294967296) (c:UInt8) (s:List UInt8) (x2 x3 x4:GV) (L:Int) (i:Nat) (out:List GV) (h:(i:Int) < L) (hat:s[i]? = some c) (hw:IntKind.i64.wrap ((i:Int)+1)=(i:Int)+1)
 (ih:TT.lim 161 [.i .u32 (xR r c.toNat:Nat),.s s,x2,x3,x4,.i .i64 L,.i .i64 ((i:Int)+1),.i .u32 0,.i .u32 498536548,.i .u32 997073096,.i .u32 651767980,.i .u32 1994146192,.i .u32 1802195444,.i .u32 1303535960,.i .u32 1342533948,.i .u32 3988292384,.i .u32 4027552580,.i .u32 3604390888,.i .u32 3412177804,.i .u32 2607071920,.i .u32 2262029012,.i .u32 2685067896,.i .u32 3183342108]=some out):TT.lim 161 [.i .u32 (r:Nat),.s s,x2,x3,x4,.i .i64 L,.i .i64 i,.i .u32 0,.i .u32 498536548,.i .u32 997073096,.i .u32 651767980,.i .u32 1994146192,.i .u32 1802195444,.i .u32 1303535960,.i .u32 1342533948,.i .u32 3988292384,.i .u32 4027552580,.i .u32 3604390888,.i .u32 3412177804,.i .u32 2607071920,.i .u32 2262029012,.i .u32 2685067896,.i .u32 3183342108]=some out:=by
 have hc:=c.toNat_lt
 have wc:=wrap32 (n:=(c.toNat:Int)) (by omega) (by omega)
 have X:=x32 r c.toNat hr (by omega)
 have hx:=Gv hr (show c.toNat < 4294967296 by omega)
 unfold xR at ih
 generalize r ^^^ c.toNat=x at *
 have S1:=ad6 x
 have hy:=SQ hx
 have N1:=nib x hx
 generalize dN x=y at *
 have S2:=ad6 y
 have N2:=nib y hy
 generalize dN y=z at *
 rcases N1 with ⟨A1,X1⟩ | ⟨A1,X1⟩ | ⟨A1,X1⟩ | ⟨A1,X1⟩ | ⟨A1,X1⟩ | ⟨A1,X1⟩ | ⟨A1,X1⟩ | ⟨A1,X1⟩ | ⟨A1,X1⟩ | ⟨A1,X1⟩ | ⟨A1,X1⟩ | ⟨A1,X1⟩ | ⟨A1,X1⟩ | ⟨A1,X1⟩ | ⟨A1,X1⟩ | ⟨A1,X1⟩
 all_goals
  refine aA rfl rfl ?_
  simp -implicitDefEqProofs [h,hat,wc,X,A1,S1,X1]
  rcases N2 with ⟨A2,X2⟩ | ⟨A2,X2⟩ | ⟨A2,X2⟩ | ⟨A2,X2⟩ | ⟨A2,X2⟩ | ⟨A2,X2⟩ | ⟨A2,X2⟩ | ⟨A2,X2⟩ | ⟨A2,X2⟩ | ⟨A2,X2⟩ | ⟨A2,X2⟩ | ⟨A2,X2⟩ | ⟨A2,X2⟩ | ⟨A2,X2⟩ | ⟨A2,X2⟩ | ⟨A2,X2⟩
  all_goals simp [A2,S2,X2,hw,ih]
end Q
end Go.Proofs.YthgifdbaegpbpaaGreatDoor
