/- What the trees compute: plain laws. -/
import Derived.Test.YtnlegpmfkopalaaGreatDoorKSe5
namespace Go.Proofs.YtnlegpmfkopalaaGreatDoor
open Go Go.aN
set_option linter.unusedSimpArgs false
set_option linter.unusedVariables false
set_option maxRecDepth 100000
namespace S
theorem wrap32 {n:Int} (h0:0<=n) (h1:n < 4294967296):IntKind.u32.wrap n=n:=by
 have wu:∀y:Int,IntKind.u32.wrap y=y % 4294967296:=λy=>by simp [IntKind.wrap,IntKind.signed,IntKind.bits]
 rw [wu];omega
theorem ofInt32 (a:Nat) (ha:a < 4294967296):(BitVec.ofInt 32 (a:Int)).toNat=a:=by rw [qH];omega
theorem Ro {a b:Nat} (ha:a < 4294967296) (hb:b < 4294967296):a ^^^ b < 4294967296:=Nat.xor_lt_two_pow (n:=32) ha hb
theorem x32 (a b:Nat) (ha:a < 4294967296) (hb:b < 4294967296):bU .xor .u32 (a:Int) (b:Int)=some (.i .u32 ((a ^^^ b:Nat):Int)):=by
 show some (GV.i IntKind.u32 (IntKind.u32.wrap ((BitVec.ofInt 32 (a:Int) ^^^ BitVec.ofInt 32 (b:Int)).toNat:Int)))=_
 have hlt:=Ro ha hb;rw [BitVec.toNat_xor,ofInt32 a ha,ofInt32 b hb,wrap32 (by omega) (by omega)]
theorem afw (a:Nat) (ha:a < 4294967296):bU .and .u32 (a:Int) 15=some (.i .u32 ((a % 16:Nat):Int)):=by
 have h:=ofInt32 15 (by decide);show some (GV.i IntKind.u32 (IntKind.u32.wrap ((BitVec.ofInt 32 (a:Int) &&& BitVec.ofInt 32 15).toNat:Int)))=_
 have e:a &&& 15=a % 16:=Yy a 4;rw [Rx,ofInt32 a ha,show (BitVec.ofInt 32 15).toNat=15 from h,e,wrap32 (by omega) (by omega)]
theorem adX (a:Nat):jI .shr .u32 (a:Int) 4=some (.i .u32 ((a:Int) / 16)):=by
 show some (GV.i IntKind.u32 ((a:Int).fdiv (2 ^ 4)))=_
 rw [AA _ (by decide)];rfl
theorem QB {r:Nat} (h:r < 4294967296):aX r < 4294967296:=by
 unfold aX;split
 ·exact Ro (by omega) (by decide)
 ·omega
theorem Xo {r:Nat} (h:r < 4294967296):eX r < 4294967296:=QB (QB (QB (QB h)))
theorem nib (y:Nat) (hy:y < 4294967296):(bU .and .u32 (y:Int) 15=some (.i .u32 0)/\bU .xor .u32 ((y:Int) / 16) 0=some (.i .u32 (eX y:Nat)))\/(bU .and .u32 (y:Int) 15=some (.i .u32 1)/\bU .xor .u32 ((y:Int) / 16) 498536548=some (.i .u32 (eX y:Nat)))\/(bU .and .u32 (y:Int) 15=some (.i .u32 2)/\bU .xor .u32 ((y:Int) / 16) 997073096=some (.i .u32 (eX y:Nat)))\/(bU .and .u32 (y:Int) 15=some (.i .u32 3)/\bU .xor .u32 ((y:Int) / 16) 651767980=some (.i .u32 (eX y:Nat)))\/(bU .and .u32 (y:Int) 15=some (.i .u32 4)/\bU .xor .u32 ((y:Int) / 16) 1994146192=some (.i .u32 (eX y:Nat)))\/(bU .and .u32 (y:Int) 15=some (.i .u32 5)/\bU .xor .u32 ((y:Int) / 16) 1802195444=some (.i .u32 (eX y:Nat)))\/(bU .and .u32 (y:Int) 15=some (.i .u32 6)/\bU .xor .u32 ((y:Int) / 16) 1303535960=some (.i .u32 (eX y:Nat)))\/(bU .and .u32 (y:Int) 15=some (.i .u32 7)/\bU .xor .u32 ((y:Int) / 16) 1342533948=some (.i .u32 (eX y:Nat)))\/(bU .and .u32 (y:Int) 15=some (.i .u32 8)/\bU .xor .u32 ((y:Int) / 16) 3988292384=some (.i .u32 (eX y:Nat)))\/(bU .and .u32 (y:Int) 15=some (.i .u32 9)/\bU .xor .u32 ((y:Int) / 16) 4027552580=some (.i .u32 (eX y:Nat)))\/(bU .and .u32 (y:Int) 15=some (.i .u32 10)/\bU .xor .u32 ((y:Int) / 16) 3604390888=some (.i .u32 (eX y:Nat)))\/(bU .and .u32 (y:Int) 15=some (.i .u32 11)/\bU .xor .u32 ((y:Int) / 16) 3412177804=some (.i .u32 (eX y:Nat)))\/(bU .and .u32 (y:Int) 15=some (.i .u32 12)/\bU .xor .u32 ((y:Int) / 16) 2607071920=some (.i .u32 (eX y:Nat)))\/(bU .and .u32 (y:Int) 15=some (.i .u32 13)/\bU .xor .u32 ((y:Int) / 16) 2262029012=some (.i .u32 (eX y:Nat)))\/(bU .and .u32 (y:Int) 15=some (.i .u32 14)/\bU .xor .u32 ((y:Int) / 16) 2685067896=some (.i .u32 (eX y:Nat)))\/(bU .and .u32 (y:Int) 15=some (.i .u32 15)/\bU .xor .u32 ((y:Int) / 16) 3183342108=some (.i .u32 (eX y:Nat))):=by
 have ha:=afw y hy;have hx:∀T:Nat,T < 4294967296->bU .xor .u32 ((y / 16:Nat):Int) (T:Int)=some (.i .u32 ((y / 16 ^^^ T:Nat):Int)):=λT hT=>x32 _ T (by omega) hT;have h16:y % 16=0\/y % 16=1\/y % 16=2\/y % 16=3\/y % 16=4\/y % 16=5\/y % 16=6\/y % 16=7\/y % 16=8\/y % 16=9\/y % 16=10\/y % 16=11\/y % 16=12\/y % 16=13\/y % 16=14\/y % 16=15:=by omega
 rcases h16 with h | h | h | h | h | h | h | h | h | h | h | h | h | h | h | h
 ·refine .inl ⟨?_, ?_⟩
  ·rw [ha,h];rfl
  ·have e:=apy (y / 16)
   rw [show 16 * (y / 16)=y by omega] at e;rw [e];have hq:((y / 16:Nat):Int)=(y:Int) / 16:=by omega
   rw [<- hq];exact hx 0 (by decide)
 ·refine .inr (.inl ⟨?_, ?_⟩)
  ·rw [ha,h];rfl
  ·have e:=apz (y / 16)
   rw [show 16 * (y / 16)+1=y by omega] at e;rw [e];have hq:((y / 16:Nat):Int)=(y:Int) / 16:=by omega
   rw [<- hq];exact hx 498536548 (by decide)
 ·refine .inr (.inr (.inl ⟨?_, ?_⟩))
  ·rw [ha,h];rfl
  ·have e:=apG (y / 16)
   rw [show 16 * (y / 16)+2=y by omega] at e;rw [e];have hq:((y / 16:Nat):Int)=(y:Int) / 16:=by omega
   rw [<- hq];exact hx 997073096 (by decide)
 ·refine .inr (.inr (.inr (.inl ⟨?_, ?_⟩)))
  ·rw [ha,h];rfl
  ·have e:=apH (y / 16)
   rw [show 16 * (y / 16)+3=y by omega] at e;rw [e];have hq:((y / 16:Nat):Int)=(y:Int) / 16:=by omega
   rw [<- hq];exact hx 651767980 (by decide)
 ·refine .inr (.inr (.inr (.inr (.inl ⟨?_, ?_⟩))))
  ·rw [ha,h];rfl
  ·have e:=apI (y / 16)
   rw [show 16 * (y / 16)+4=y by omega] at e;rw [e];have hq:((y / 16:Nat):Int)=(y:Int) / 16:=by omega
   rw [<- hq];exact hx 1994146192 (by decide)
 ·refine .inr (.inr (.inr (.inr (.inr (.inl ⟨?_, ?_⟩)))))
  ·rw [ha,h];rfl
  ·have e:=apJ (y / 16)
   rw [show 16 * (y / 16)+5=y by omega] at e;rw [e];have hq:((y / 16:Nat):Int)=(y:Int) / 16:=by omega
   rw [<- hq];exact hx 1802195444 (by decide)
 ·refine .inr (.inr (.inr (.inr (.inr (.inr (.inl ⟨?_, ?_⟩))))))
  ·rw [ha,h];rfl
  ·have e:=apK (y / 16)
   rw [show 16 * (y / 16)+6=y by omega] at e;rw [e];have hq:((y / 16:Nat):Int)=(y:Int) / 16:=by omega
   rw [<- hq];exact hx 1303535960 (by decide)
 ·refine .inr (.inr (.inr (.inr (.inr (.inr (.inr (.inl ⟨?_, ?_⟩)))))))
  ·rw [ha,h];rfl
  ·have e:=apL (y / 16)
   rw [show 16 * (y / 16)+7=y by omega] at e;rw [e];have hq:((y / 16:Nat):Int)=(y:Int) / 16:=by omega
   rw [<- hq];exact hx 1342533948 (by decide)
 ·refine .inr (.inr (.inr (.inr (.inr (.inr (.inr (.inr (.inl ⟨?_, ?_⟩))))))))
  ·rw [ha,h];rfl
  ·have e:=apM (y / 16)
   rw [show 16 * (y / 16)+8=y by omega] at e;rw [e];have hq:((y / 16:Nat):Int)=(y:Int) / 16:=by omega
   rw [<- hq];exact hx 3988292384 (by decide)
 ·refine .inr (.inr (.inr (.inr (.inr (.inr (.inr (.inr (.inr (.inl ⟨?_, ?_⟩)))))))))
  ·rw [ha,h];rfl
  ·have e:=apN (y / 16)
   rw [show 16 * (y / 16)+9=y by omega] at e;rw [e];have hq:((y / 16:Nat):Int)=(y:Int) / 16:=by omega
   rw [<- hq];exact hx 4027552580 (by decide)
 ·refine .inr (.inr (.inr (.inr (.inr (.inr (.inr (.inr (.inr (.inr (.inl ⟨?_, ?_⟩))))))))))
  ·rw [ha,h];rfl
  ·have e:=apA (y / 16)
   rw [show 16 * (y / 16)+10=y by omega] at e;rw [e];have hq:((y / 16:Nat):Int)=(y:Int) / 16:=by omega
   rw [<- hq];exact hx 3604390888 (by decide)
 ·refine .inr (.inr (.inr (.inr (.inr (.inr (.inr (.inr (.inr (.inr (.inr (.inl ⟨?_, ?_⟩)))))))))))
  ·rw [ha,h];rfl
  ·have e:=apB (y / 16)
   rw [show 16 * (y / 16)+11=y by omega] at e;rw [e];have hq:((y / 16:Nat):Int)=(y:Int) / 16:=by omega
   rw [<- hq];exact hx 3412177804 (by decide)
 ·refine .inr (.inr (.inr (.inr (.inr (.inr (.inr (.inr (.inr (.inr (.inr (.inr (.inl ⟨?_, ?_⟩))))))))))))
  ·rw [ha,h];rfl
  ·have e:=apC (y / 16)
   rw [show 16 * (y / 16)+12=y by omega] at e;rw [e];have hq:((y / 16:Nat):Int)=(y:Int) / 16:=by omega
   rw [<- hq];exact hx 2607071920 (by decide)
 ·refine .inr (.inr (.inr (.inr (.inr (.inr (.inr (.inr (.inr (.inr (.inr (.inr (.inr (.inl ⟨?_, ?_⟩)))))))))))))
  ·rw [ha,h];rfl
  ·have e:=apD (y / 16)
   rw [show 16 * (y / 16)+13=y by omega] at e;rw [e];have hq:((y / 16:Nat):Int)=(y:Int) / 16:=by omega
   rw [<- hq];exact hx 2262029012 (by decide)
 ·refine .inr (.inr (.inr (.inr (.inr (.inr (.inr (.inr (.inr (.inr (.inr (.inr (.inr (.inr (.inl ⟨?_, ?_⟩))))))))))))))
  ·rw [ha,h];rfl
  ·have e:=apE (y / 16)
   rw [show 16 * (y / 16)+14=y by omega] at e;rw [e];have hq:((y / 16:Nat):Int)=(y:Int) / 16:=by omega
   rw [<- hq];exact hx 2685067896 (by decide)
 ·refine .inr (.inr (.inr (.inr (.inr (.inr (.inr (.inr (.inr (.inr (.inr (.inr (.inr (.inr (.inr (⟨?_, ?_⟩)))))))))))))))
  ·rw [ha,h];rfl
  ·have e:=apF (y / 16)
   rw [show 16 * (y / 16)+15=y by omega] at e;rw [e];have hq:((y / 16:Nat):Int)=(y:Int) / 16:=by omega
   rw [<- hq];exact hx 3183342108 (by decide)
def JI (r c:Nat):Nat:=eX (eX (r ^^^ c))
theorem Za {r c:Nat} (hr:r < 4294967296) (hc:c < 256):JI r c < 4294967296:=Xo (Xo (Ro hr (by omega)))
def I5 (r:Nat) (s:List UInt8):Nat:=s.foldl (λr c=>JI r c.toNat) r
theorem aed:∀ (s:List UInt8) (r:Nat),r < 4294967296->I5 r s < 4294967296
 | [],r,h=>h
 | c::s,r,h=>aed s _ (Za h (by have:=c.toNat_lt;omega))
set_option maxHeartbeats 8000000 in
theorem amk (r:Nat) (hr:r < 4294967296) (c:UInt8) (s:List UInt8) (x2 x3 x4:GV) (L:Int) (i:Nat) (out:List GV) (h:(i:Int) < L) (hat:s[i]? = some c) (hw:IntKind.i64.wrap ((i:Int)+1)=(i:Int)+1)
 (ih:TT.lim 131 [.i .u32 (JI r c.toNat:Nat),.s s,x2,x3,x4,.i .i64 L,.i .i64 ((i:Int)+1),.i .u32 0,.i .u32 498536548,.i .u32 997073096,.i .u32 651767980,.i .u32 1994146192,.i .u32 1802195444,.i .u32 1303535960,.i .u32 1342533948,.i .u32 3988292384,.i .u32 4027552580,.i .u32 3604390888,.i .u32 3412177804,.i .u32 2607071920,.i .u32 2262029012,.i .u32 2685067896,.i .u32 3183342108]=some out):TT.lim 131 [.i .u32 (r:Nat),.s s,x2,x3,x4,.i .i64 L,.i .i64 i,.i .u32 0,.i .u32 498536548,.i .u32 997073096,.i .u32 651767980,.i .u32 1994146192,.i .u32 1802195444,.i .u32 1303535960,.i .u32 1342533948,.i .u32 3988292384,.i .u32 4027552580,.i .u32 3604390888,.i .u32 3412177804,.i .u32 2607071920,.i .u32 2262029012,.i .u32 2685067896,.i .u32 3183342108]=some out:=by
 have hc:=c.toNat_lt;have wc:=wrap32 (n:=(c.toNat:Int)) (by omega) (by omega);have X:=x32 r c.toNat hr (by omega);have hx:=Ro hr (show c.toNat < 4294967296 by omega);unfold JI at ih;generalize r ^^^ c.toNat=x at *;have S1:=adX x;have hy:=Xo hx;have N1:=nib x hx;generalize eX x=y at *;have S2:=adX y;have N2:=nib y hy;generalize eX y=z at *;rcases N1 with ⟨A1,X1⟩ | ⟨A1,X1⟩ | ⟨A1,X1⟩ | ⟨A1,X1⟩ | ⟨A1,X1⟩ | ⟨A1,X1⟩ | ⟨A1,X1⟩ | ⟨A1,X1⟩ | ⟨A1,X1⟩ | ⟨A1,X1⟩ | ⟨A1,X1⟩ | ⟨A1,X1⟩ | ⟨A1,X1⟩ | ⟨A1,X1⟩ | ⟨A1,X1⟩ | ⟨A1,X1⟩
 all_goals as_aux_lemma=>
  refine aB rfl rfl ?_;simp -implicitDefEqProofs [h,hat,wc,X,A1,S1,X1];rcases N2 with ⟨A2,X2⟩ | ⟨A2,X2⟩ | ⟨A2,X2⟩ | ⟨A2,X2⟩ | ⟨A2,X2⟩ | ⟨A2,X2⟩ | ⟨A2,X2⟩ | ⟨A2,X2⟩ | ⟨A2,X2⟩ | ⟨A2,X2⟩ | ⟨A2,X2⟩ | ⟨A2,X2⟩ | ⟨A2,X2⟩ | ⟨A2,X2⟩ | ⟨A2,X2⟩ | ⟨A2,X2⟩
  all_goals simp -implicitDefEqProofs [A2,S2,X2,hw,ih]
theorem acK (s:List UInt8) (hs:s.length<=100000000) (x2 x3 x4:GV):∀ (m i:Nat) (r:Nat),i+m=s.length->r < 4294967296->
 TT.lim 131 [.i .u32 (r:Nat),.s s,x2,x3,x4,.i .i64 s.length,.i .i64 i,.i .u32 0,.i .u32 498536548,.i .u32 997073096,.i .u32 651767980,.i .u32 1994146192,.i .u32 1802195444,.i .u32 1303535960,.i .u32 1342533948,.i .u32 3988292384,.i .u32 4027552580,.i .u32 3604390888,.i .u32 3412177804,.i .u32 2607071920,.i .u32 2262029012,.i .u32 2685067896,.i .u32 3183342108]=some [.i .i64 0,.i .u32 (I5 r (s.drop i):Nat)]
 | 0,i,r,hi,hr=>by
   have e:s.drop i=[]:=gJ (by omega);have h:¬ ((i:Int) < s.length):=by omega
   rw [e];show _=some [GV.i .i64 0,.i .u32 (r:Nat)]
   refine aB rfl rfl ?_;simp [h]
 | m+1,i,r,hi,hr=>by
   have hlt:i < s.length:=by omega
   have hdr:s.drop i=s[i]::s.drop (i+1):=jc hlt;have hat:s[i]? = some s[i]:=cO hlt;have hcast:((i+1:Nat):Int)=(i:Int)+1:=by omega
   have hw:=wrap64 (n:=(i:Int)+1) (by omega) (by omega);have ih:=acK s hs x2 x3 x4 m (i+1) (JI r s[i].toNat) (by omega) (Za hr (by have:=s[i].toNat_lt;omega));rw [hcast] at ih;rw [hdr];exact amk r hr s[i] s x2 x3 x4 s.length i _ (by omega) hat hw ih
theorem acA (a:Nat) (ha:a < 4294967296):bU .xor .u32 4294967295 (a:Int)=some (.i .u32 ((4294967295 - a:Nat):Int)):=by
 show some (GV.i IntKind.u32 (IntKind.u32.wrap ((BitVec.ofInt 32 4294967295 ^^^ BitVec.ofInt 32 (a:Int)).toNat:Int)))=_
 have e:BitVec.ofInt 32 4294967295=BitVec.allOnes 32:=by decide
 rw [e,BitVec.xor_comm,X4,X3,ofInt32 a ha,wrap32 (by omega) (by omega)]
/-- A text's sum. -/
def gy (s:List UInt8):Nat:=4294967295 - I5 4294967295 s
theorem ZL (s:List UInt8):gy s < 4294967296:=by unfold gy;omega
theorem apU:TT.lim 129 []=some [.g [.i .u32 0,.i .u32 498536548,.i .u32 997073096,.i .u32 651767980,.i .u32 1994146192,.i .u32 1802195444,.i .u32 1303535960,.i .u32 1342533948,.i .u32 3988292384,.i .u32 4027552580,.i .u32 3604390888,.i .u32 3412177804,.i .u32 2607071920,.i .u32 2262029012,.i .u32 2685067896,.i .u32 3183342108]]:=IG (Ds:=Ds) (f:=QE) rfl rfl
theorem ZM (s:List UInt8) (hs:s.length<=100000000):TT.lim 127 [.l [.s s]]=some [.i .u32 (gy s:Nat)]:=by
 have h0:=acK s hs (.l [.s s]) (.i .i64 1) (.i .i64 0) s.length 0 4294967295 (by omega) (by decide);rw [eP] at h0;have h0:TT.lim 131 [.i .u32 4294967295,.s s,.l [.s s],.i .i64 1,.i .i64 0,.i .i64 s.length,.i .i64 0,.i .u32 0,.i .u32 498536548,.i .u32 997073096,.i .u32 651767980,.i .u32 1994146192,.i .u32 1802195444,.i .u32 1303535960,.i .u32 1342533948,.i .u32 3988292384,.i .u32 4027552580,.i .u32 3604390888,.i .u32 3412177804,.i .u32 2607071920,.i .u32 2262029012,.i .u32 2685067896,.i .u32 3183342108]=some [.i .i64 0,.i .u32 (I5 4294967295 s:Nat)]:=h0;have hlt:=aed s 4294967295 (by decide);have hn:=acA (I5 4294967295 s) hlt;unfold gy;have ht:=apU;have w0:IntKind.i64.wrap 1=1:=by decide
 generalize I5 4294967295 s=Z at *;have h2:TT.lim 130 [.i .u32 (Z:Nat),.l [.s s],.i .i64 1,.i .i64 1,.i .u32 0,.i .u32 498536548,.i .u32 997073096,.i .u32 651767980,.i .u32 1994146192,.i .u32 1802195444,.i .u32 1303535960,.i .u32 1342533948,.i .u32 3988292384,.i .u32 4027552580,.i .u32 3604390888,.i .u32 3412177804,.i .u32 2607071920,.i .u32 2262029012,.i .u32 2685067896,.i .u32 3183342108]=some [.i .i64 0,.i .u32 (Z:Nat)]:=by
  refine aB rfl rfl ?_;simp
 have h1:TT.lim 130 [.i .u32 4294967295,.l [.s s],.i .i64 1,.i .i64 0,.i .u32 0,.i .u32 498536548,.i .u32 997073096,.i .u32 651767980,.i .u32 1994146192,.i .u32 1802195444,.i .u32 1303535960,.i .u32 1342533948,.i .u32 3988292384,.i .u32 4027552580,.i .u32 3604390888,.i .u32 3412177804,.i .u32 2607071920,.i .u32 2262029012,.i .u32 2685067896,.i .u32 3183342108]=some [.i .i64 0,.i .u32 (Z:Nat)]:=by
  refine aB rfl rfl ?_;simp [h0,w0,h2]
 have hz:bU .xor .u32 4294967295 0=some (.i .u32 4294967295):=acA 0 (by decide);have hu:∀n:Int,Q7 .xor (some (.i .u32 n))=bU .xor .u32 4294967295 n:=λ_=>rfl;have hov:TT.lim 128 [.i .u32 0,.l [.s s]]=some [.i .u32 (4294967295 - Z:Nat)]:=by
  refine aY rfl rfl ?_ rfl;simp [ht,hu,hz,h1,hn]
 refine aY rfl rfl ?_ rfl;simp [hov]
theorem Rk (n:Int):IntKind.u8.wrap n=n % 256:=by simp [IntKind.wrap,IntKind.signed,IntKind.bits]
def le4 (n:Nat):List UInt8:=[UInt8.ofNat (n % 256),UInt8.ofNat (n / 256 % 256),UInt8.ofNat (n / 65536 % 256),UInt8.ofNat (n / 16777216 % 256)]
/-- A frame. -/
def bg (p:List UInt8):List UInt8:=[81,70]++aJ p.length++p++le4 (gy p)
theorem akJ (n:Nat):lH [.i .u8 ((n:Int) % 256),.i .u8 ((n:Int) / 256 % 256),.i .u8 ((n:Int) / 65536 % 256),.i .u8 ((n:Int) / 16777216 % 256)]=some (le4 n):=by
 have key:∀ (x:Int) (r:List GV),0<=x->x < 256->lH (.i .u8 x::r)=(lH r).map (UInt8.ofNat x.toNat::·):=λx r h0 h1=>by
  show (if _ then _ else _)=_
  rw [aj ⟨h0,h1⟩]
 rw [key _ _ (by omega) (by omega),key _ _ (by omega) (by omega),key _ _ (by omega) (by omega),key _ _ (by omega) (by omega)];show some _=_
 unfold le4;congr 5<;>omega
theorem aph (a:Nat):jI .shr .u32 (a:Int) 8=some (.i .u32 ((a:Int) / 256)):=by
 show some (GV.i IntKind.u32 ((a:Int).fdiv (2 ^ 8)))=_
 rw [AA _ (by decide)];rfl
theorem apd (a:Nat):jI .shr .u32 (a:Int) 16=some (.i .u32 ((a:Int) / 65536)):=by
 show some (GV.i IntKind.u32 ((a:Int).fdiv (2 ^ 16)))=_
 rw [AA _ (by decide)];rfl
theorem apf (a:Nat):jI .shr .u32 (a:Int) 24=some (.i .u32 ((a:Int) / 16777216)):=by
 show some (GV.i IntKind.u32 ((a:Int).fdiv (2 ^ 24)))=_
 rw [AA _ (by decide)];rfl
theorem aqY (p:List UInt8) (hp:p.length<=65536):TT.lim 126 [.s p]=some [.s (bg p),.i .i64 0]:=by
 have hc:=ZM p (by omega);have hlt:=ZL p;have hv:=vk p.length (by omega);have hvl:=lD (n:=p.length) (by omega);have wu:=jS (n:=(p.length:Int)) (by omega) (by omega);have h1:¬ (65536:Int) < p.length:=by omega
 have c1:(2:Int)+(aJ p.length).length<=9223372036854775807:=by omega
 have c2:((aJ p.length).length:Int)+1+1+p.length<=9223372036854775807:=by omega
 have c3:((aJ p.length).length:Int)+p.length+1+1+4<=9223372036854775807:=by omega
 unfold bg;have b4:=akJ (gy p);have l4:(le4 (gy p)).length=4:=rfl;have s8:=aph (gy p);have s16:=apd (gy p);have s24:=apf (gy p);generalize gy p=n at *;generalize aJ p.length=V at *;have w0:=Rk (n:Int);have w1:=Rk ((n:Int) / 256);have w2:=Rk ((n:Int) / 65536);have w3:=Rk ((n:Int) / 16777216);generalize le4 n=F at *;generalize (n:Int) % 256=a0 at *;generalize (n:Int) / 256 % 256=a1 at *;generalize (n:Int) / 65536 % 256=a2 at *;generalize (n:Int) / 16777216 % 256=a3 at *;refine aY rfl rfl ?_ rfl;simp -implicitDefEqProofs [-List.append_assoc,h1,hc,hv,wu,s8,s16,s24,w0,w1,w2,w3,b4,l4,c1,c2,c3]
theorem ahV (b:aK) (fl:List aC) (v:Int):(lV b fl v).1.length<=65536:=by
 unfold lV;split
 ·split
  ·simp
  ·simp only;omega
 ·simp
theorem ahU (b:aK) (fl:List aC) (v:Int) (h:(lV b fl v).2≠0):(lV b fl v).1=[]:=by
 unfold lV at h ⊢;by_cases c:fZ b fl v=0
 ·rw [aj c] at h ⊢
  by_cases d:65536 < (bytesV b fl v).length
  ·rw [aj d]
  ·rw [ah d] at h;exact absurd rfl h
 ·rw [ah c]
end S
end Go.Proofs.YtnlegpmfkopalaaGreatDoor
