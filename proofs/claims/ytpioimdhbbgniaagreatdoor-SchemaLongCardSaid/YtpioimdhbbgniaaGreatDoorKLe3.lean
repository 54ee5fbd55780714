/- What the trees compute: plain laws. -/
import Derived.Test.YtpioimdhbbgniaaGreatDoorKLe2
namespace Go.Proofs.YtpioimdhbbgniaaGreatDoor
open Go Go.aJ
set_option linter.unusedSimpArgs false
set_option linter.unusedVariables false
set_option maxRecDepth 100000
namespace L
theorem abk (b:aB) (fl:List aH) (t:List Row) (ht:t.length<=1000) (hd:∀r∈t,r.1.length<=40):∀ (m i:Nat),i+m=t.length->
 TT.lim 105 [.l ((t.take i).map row),.l (t.map row),.i .i64 t.length,.i .i64 i,.i .i64 b.kind,.i .u64 b.id,.i .u64 b.min,.i .u64 b.max,.i .u64 b.chosen,.i .u64 b.flags,.i .u64 b.cost,.i .u64 b.priority,.i .u64 b.deadline,.i .u64 b.retry,.i .u64 b.epoch,.i .u64 b.base,.i .u64 b.digest,.i .u64 b.lag,.i .u64 b.code,.i .u64 b.want,.i .i64 b.remaining,.b b.allowed,.s b.name,.s b.region,.s b.note,.l (b.d.map ent),.l (aF fl)]=some [.i .i64 0,.l (t.map row)]
 | 0,i,hi=>by
   have h0:t.take i=t:=mP (by omega);have h:¬ ((i:Int) < t.length):=by omega
   rw [h0];refine aA rfl rfl ?_;simp [h]
 | m+1,i,hi=>by
   have hlt:i < t.length:=by omega
   have ih:=abk b fl t ht hd m (i+1) (by omega);have h:((i:Int) < t.length):=by omega
   have hcast:((i+1:Nat):Int)=(i:Int)+1:=by omega
   have hwr:=wrap64 (n:=(i:Int)+1) (by omega) (by omega);have hg:(t.map row)[i]? = some (row t[i]):=by rw [iQ,bK hlt];rfl
   have hc:=Yt t[i].1 (hd _ (jE hlt));have hfold:GV.g [.l (t[i].1.map ent),.i .u64 t[i].2]=row t[i]:=rfl;have htk:(t.take (i+1)).map row=(t.take i).map row++[row t[i]]:=by rw [QA,bK hlt,xH];rfl
   rw [htk,hcast] at ih;have hel:(row t[i]).fQ 2=true:=rfl;have hb1:2 * (((t.take i).map row).length+1) * 32<=281474976710656:=by simp;omega
   have hb2:((t.take i).map row).length<=281474976710655:=by simp;omega
   generalize (t.take i).map row=A at *;generalize t.map row=L at *;refine aA rfl rfl ?_;simp [h,hg,hc,hfold,hel,hb1,hb2,hwr,ih]
theorem aiO (b:aB) (fl:List aH) (hd:b.d.length<=40) (ht:xE b.t) (hs:cu fl<=1000000):TT.lim 103 [jf b (aF fl)]=some [jf b (aF fl)]:=by
 have ahl:∀r∈b.t,r.1.length<=40:=λr hr=>by
  have:=ht.few r hr;unfold iV at this;rw [aG,decide_eq_true_iff] at this;exact this.2
 have h1:=abk b fl b.t (by have:=ht.len;omega) ahl b.t.length 0 (by omega);have hl:=ht.len;rw [QC,show ((0:Nat):Int)=0 from rfl] at h1;have h2:=Yt b.d hd;have h3:=Nv fl hs;have hml:((b.t.map row).length:Int)=b.t.length:=by simp
 have hz1:(32:Int) * b.t.length<=281474976710656:=by omega
 have hz2:(b.t.length:Int)<=1152921504606846976:=by omega
 have hz3:b.t.length<=8796093022208:=by omega
 simp only [Ai] at h1;generalize hL:b.t.map row=L at *;refine bF rfl rfl ?_ rfl;unfold jf;rw [hL];simp [hml,h1,h2,h3,GV.fQ,hz1,hz2];try omega
def Ae (n:Int):Int:=if n % 2=0 then n / 2 else -(n / 2) - 1
theorem apl (n:Int) (h0:0<=n) (h1:n < 18446744073709551616):eH .and .u64 n 1=some (.i .u64 (n % 2))/\eH .xor .i64 (IntKind.i64.wrap (n / 2)) (IntKind.i64.wrap (0 - IntKind.i64.wrap (n % 2)))=some (.i .i64 (Ae n))/\n.fdiv 2=n / 2:=by
 have wu:∀y:Int,IntKind.u64.wrap y=y % 18446744073709551616:=λy=>by simp [IntKind.wrap,IntKind.signed,IntKind.bits]
 have hu:IntKind.u64.bits=64:=rfl;have hi:IntKind.i64.bits=64:=rfl;refine ⟨?_, ?_,KU _ (by decide)⟩
 ·simp only [eH,wu,hu]
  have e:(BitVec.ofInt 64 n &&& BitVec.ofInt 64 1).toNat=(BitVec.ofInt 64 n).toNat % 2:=by
   rw [WQ];exact Nat.and_one_is_mod _
  show some (GV.i IntKind.u64 (((BitVec.ofInt 64 n &&& BitVec.ofInt 64 1).toNat:Int) % 18446744073709551616))=_
  rw [e,wC];congr 2;omega
 ·rw [wrap64 (by omega) (by omega),wrap64 (n:=n % 2) (by omega) (by omega),wrap64 (by omega) (by omega)]
  simp only [eH,hi];unfold Ae;by_cases h:n % 2=0
  ·rw [ak h,h]
   have e:BitVec.ofInt 64 (0 - 0)=0#64:=rfl;show some (GV.i IntKind.i64 (IntKind.i64.wrap ((BitVec.ofInt 64 (n / 2) ^^^ BitVec.ofInt 64 (0 - 0)).toNat:Int)))=_
   rw [e,BitVec.xor_zero,wC];congr 2;rw [wrap64 (by omega) (by omega)];omega
  ·rw [ah h,show n % 2=1 by omega]
   have e:BitVec.ofInt 64 (0 - 1)=BitVec.allOnes 64:=by decide
   show some (GV.i IntKind.i64 (IntKind.i64.wrap ((BitVec.ofInt 64 (n / 2) ^^^ BitVec.ofInt 64 (0 - 1)).toNat:Int)))=_
   rw [e,BitVec.xor_allOnes,BitVec.toNat_not,wC];congr 2;have wi:∀y:Int,IntKind.i64.wrap y=if y % 18446744073709551616>=9223372036854775808 then y % 18446744073709551616 - 18446744073709551616 else y % 18446744073709551616:=λy=>by
    simp [IntKind.wrap,IntKind.signed,IntKind.bits]
   rw [wi];split<;>omega
def setB (b:aB) (n:Int) (s:List UInt8):Pl->aB
 | .rem=>{ b with remaining:=Ae n }
 | .allow=>{ b with allowed:=true }
 | .name=>{ b with name:=s }
 | .region=>{ b with region:=s }
 | .note=>{ b with note:=s }
 | .d=>{ b with d:=(oI s).1 }
 | .t=>{ b with t:=(oO s).1 }
 | .num k=>match k with
   | 0=>{ b with id:=n }
   | 1=>{ b with min:=n }
   | 2=>{ b with max:=n }
   | 3=>{ b with chosen:=n }
   | 4=>{ b with flags:=n }
   | 5=>{ b with cost:=n }
   | 6=>{ b with priority:=n }
   | 7=>{ b with deadline:=n }
   | 8=>{ b with retry:=n }
   | 9=>{ b with epoch:=n }
   | 10=>{ b with base:=n }
   | 11=>{ b with digest:=n }
   | 12=>{ b with lag:=n }
   | 13=>{ b with code:=n }
   | _=>{ b with want:=n }
def gG (n:Int) (s:List UInt8):Pl->Int
 | .allow=>if n=1 then 0 else 18
 | .name=>iT s 0 256
 | .region=>iT s 0 256
 | .note=>iT s 0 256
 | .d=>(oI s).2
 | .t=>if (oO s).2=0 then (if (oO s).1.length=0 then 17 else 0) else (oO s).2
 | _=>0
def aO (ty n:Int) (s:List UInt8) (p:Pl):Int:=if ty=aY p then (if ty=0 then (if n=0 then 17 else gG n s p) else (if s=[] then 17 else gG n s p)) else 8
theorem kY (u:Int):TT.lim 107 [.i .i64 u]=some [.i .i64 (if u=0 then 0 else if u=1 then 0 else if u=2 then 0 else if u=3 then 1 else if u=4 then 1 else if u=5 then 1 else -1)]:=by
 refine bF rfl rfl ?_ rfl;by_cases h0:u=0
 ·simp [h0]
 by_cases h1:u=1
 ·simp [h1]
 by_cases h2:u=2
 ·simp [h2]
 by_cases h3:u=3
 ·simp [h3]
 by_cases h4:u=4
 ·simp [h4]
 by_cases h5:u=5
 ·simp [h5]
 simp [h0,h1,h2,h3,h4,h5]
/-- A message's cells, but for the first and the last one. -/
def bI (b:aB):List GV:=[.i .u64 b.id,.i .u64 b.min,.i .u64 b.max,.i .u64 b.chosen,.i .u64 b.flags,.i .u64 b.cost,.i .u64 b.priority,.i .u64 b.deadline,.i .u64 b.retry,.i .u64 b.epoch,.i .u64 b.base,.i .u64 b.digest,.i .u64 b.lag,.i .u64 b.code,.i .u64 b.want,.i .i64 b.remaining,.b b.allowed,.s b.name,.s b.region,.s b.note,.l (b.d.map ent),.l (b.t.map row)]
/-- What set does. -/
def eG (b:aB) (r:List GV) (tag ty n:Int) (s:List UInt8) (L:GV) (nm:List UInt8) (p:Pl):Prop:=∃b':aB,TT.lim 106 [.s nm,.i .u64 tag,.i .i64 ty,.i .u64 n,.s s,L,.i .i64 b.kind,.i .u64 b.id,.i .u64 b.min,.i .u64 b.max,.i .u64 b.chosen,.i .u64 b.flags,.i .u64 b.cost,.i .u64 b.priority,.i .u64 b.deadline,.i .u64 b.retry,.i .u64 b.epoch,.i .u64 b.base,.i .u64 b.digest,.i .u64 b.lag,.i .u64 b.code,.i .u64 b.want,.i .i64 b.remaining,.b b.allowed,.s b.name,.s b.region,.s b.note,.l (b.d.map ent),.l (b.t.map row),.l r]=some ([.i .i64 0,.i .i64 (aO ty n s p)]++bI b')/\(aO ty n s p=0->b'=setB b n s p)
theorem al1 (b:aB) (r:List GV) (tag ty n:Int) (s:List UInt8) (L:GV):eG b r tag ty n s L lM (.num 0):=by
 unfold eG;have hk:=kY;unfold lM;by_cases h1:ty=0;rotate_left
 ·have e:aO ty n s (.num 0)=8:=by unfold aO;rw [ah (by simpa [aY] using h1)]
  refine ⟨b, ?_,λh=>by rw [e] at h;cases h⟩;rw [e];refine aA rfl rfl ?_;simp [bI,hk,h1]
 subst h1;by_cases h2:n=0
 ·have e:aO 0 n s (.num 0)=17:=by unfold aO;simp [aY,h2]
  refine ⟨b, ?_,λh=>by rw [e] at h;cases h⟩;rw [e];refine aA rfl rfl ?_;simp [bI,hk,h2]
 have e:aO 0 n s (.num 0)=gG n s (.num 0):=by unfold aO;simp [aY,h2]
 rw [e];refine ⟨{ b with id:=n }, ?_,λ_=>rfl⟩;show _=some ([GV.i .i64 0,GV.i .i64 0]++_)
 refine aA rfl rfl ?_;simp [bI,hk,h2]
theorem al4 (b:aB) (r:List GV) (tag ty n:Int) (s:List UInt8) (L:GV):eG b r tag ty n s L lS (.num 1):=by
 unfold eG;have hk:=kY;unfold lS;by_cases h1:ty=0;rotate_left
 ·have e:aO ty n s (.num 1)=8:=by unfold aO;rw [ah (by simpa [aY] using h1)]
  refine ⟨b, ?_,λh=>by rw [e] at h;cases h⟩;rw [e];refine aA rfl rfl ?_;simp [bI,hk,h1]
 subst h1;by_cases h2:n=0
 ·have e:aO 0 n s (.num 1)=17:=by unfold aO;simp [aY,h2]
  refine ⟨b, ?_,λh=>by rw [e] at h;cases h⟩;rw [e];refine aA rfl rfl ?_;simp [bI,hk,h2]
 have e:aO 0 n s (.num 1)=gG n s (.num 1):=by unfold aO;simp [aY,h2]
 rw [e];refine ⟨{ b with min:=n }, ?_,λ_=>rfl⟩;show _=some ([GV.i .i64 0,GV.i .i64 0]++_)
 refine aA rfl rfl ?_;simp [bI,hk,h2]
theorem al3 (b:aB) (r:List GV) (tag ty n:Int) (s:List UInt8) (L:GV):eG b r tag ty n s L lQ (.num 2):=by
 unfold eG;have hk:=kY;unfold lQ;by_cases h1:ty=0;rotate_left
 ·have e:aO ty n s (.num 2)=8:=by unfold aO;rw [ah (by simpa [aY] using h1)]
  refine ⟨b, ?_,λh=>by rw [e] at h;cases h⟩;rw [e];refine aA rfl rfl ?_;simp [bI,hk,h1]
 subst h1;by_cases h2:n=0
 ·have e:aO 0 n s (.num 2)=17:=by unfold aO;simp [aY,h2]
  refine ⟨b, ?_,λh=>by rw [e] at h;cases h⟩;rw [e];refine aA rfl rfl ?_;simp [bI,hk,h2]
 have e:aO 0 n s (.num 2)=gG n s (.num 2):=by unfold aO;simp [aY,h2]
 rw [e];refine ⟨{ b with max:=n }, ?_,λ_=>rfl⟩;show _=some ([GV.i .i64 0,GV.i .i64 0]++_)
 refine aA rfl rfl ?_;simp [bI,hk,h2]
theorem alT (b:aB) (r:List GV) (tag ty n:Int) (s:List UInt8) (L:GV):eG b r tag ty n s L lC (.num 3):=by
 unfold eG;have hk:=kY;unfold lC;by_cases h1:ty=0;rotate_left
 ·have e:aO ty n s (.num 3)=8:=by unfold aO;rw [ah (by simpa [aY] using h1)]
  refine ⟨b, ?_,λh=>by rw [e] at h;cases h⟩;rw [e];refine aA rfl rfl ?_;simp [bI,hk,h1]
 subst h1;by_cases h2:n=0
 ·have e:aO 0 n s (.num 3)=17:=by unfold aO;simp [aY,h2]
  refine ⟨b, ?_,λh=>by rw [e] at h;cases h⟩;rw [e];refine aA rfl rfl ?_;simp [bI,hk,h2]
 have e:aO 0 n s (.num 3)=gG n s (.num 3):=by unfold aO;simp [aY,h2]
 rw [e];refine ⟨{ b with chosen:=n }, ?_,λ_=>rfl⟩;show _=some ([GV.i .i64 0,GV.i .i64 0]++_)
 refine aA rfl rfl ?_;simp [bI,hk,h2]
theorem al0 (b:aB) (r:List GV) (tag ty n:Int) (s:List UInt8) (L:GV):eG b r tag ty n s L lK (.num 4):=by
 unfold eG;have hk:=kY;unfold lK;by_cases h1:ty=0;rotate_left
 ·have e:aO ty n s (.num 4)=8:=by unfold aO;rw [ah (by simpa [aY] using h1)]
  refine ⟨b, ?_,λh=>by rw [e] at h;cases h⟩;rw [e];refine aA rfl rfl ?_;simp [bI,hk,h1]
 subst h1;by_cases h2:n=0
 ·have e:aO 0 n s (.num 4)=17:=by unfold aO;simp [aY,h2]
  refine ⟨b, ?_,λh=>by rw [e] at h;cases h⟩;rw [e];refine aA rfl rfl ?_;simp [bI,hk,h2]
 have e:aO 0 n s (.num 4)=gG n s (.num 4):=by unfold aO;simp [aY,h2]
 rw [e];refine ⟨{ b with flags:=n }, ?_,λ_=>rfl⟩;show _=some ([GV.i .i64 0,GV.i .i64 0]++_)
 refine aA rfl rfl ?_;simp [bI,hk,h2]
theorem alV (b:aB) (r:List GV) (tag ty n:Int) (s:List UInt8) (L:GV):eG b r tag ty n s L lF (.num 5):=by
 unfold eG;have hk:=kY;unfold lF;by_cases h1:ty=0;rotate_left
 ·have e:aO ty n s (.num 5)=8:=by unfold aO;rw [ah (by simpa [aY] using h1)]
  refine ⟨b, ?_,λh=>by rw [e] at h;cases h⟩;rw [e];refine aA rfl rfl ?_;simp [bI,hk,h1]
 subst h1;by_cases h2:n=0
 ·have e:aO 0 n s (.num 5)=17:=by unfold aO;simp [aY,h2]
  refine ⟨b, ?_,λh=>by rw [e] at h;cases h⟩;rw [e];refine aA rfl rfl ?_;simp [bI,hk,h2]
 have e:aO 0 n s (.num 5)=gG n s (.num 5):=by unfold aO;simp [aY,h2]
 rw [e];refine ⟨{ b with cost:=n }, ?_,λ_=>rfl⟩;show _=some ([GV.i .i64 0,GV.i .i64 0]++_)
 refine aA rfl rfl ?_;simp [bI,hk,h2]
theorem al8 (b:aB) (r:List GV) (tag ty n:Int) (s:List UInt8) (L:GV):eG b r tag ty n s L lV (.num 6):=by
 unfold eG;have hk:=kY;unfold lV;by_cases h1:ty=0;rotate_left
 ·have e:aO ty n s (.num 6)=8:=by unfold aO;rw [ah (by simpa [aY] using h1)]
  refine ⟨b, ?_,λh=>by rw [e] at h;cases h⟩;rw [e];refine aA rfl rfl ?_;simp [bI,hk,h1]
 subst h1;by_cases h2:n=0
 ·have e:aO 0 n s (.num 6)=17:=by unfold aO;simp [aY,h2]
  refine ⟨b, ?_,λh=>by rw [e] at h;cases h⟩;rw [e];refine aA rfl rfl ?_;simp [bI,hk,h2]
 have e:aO 0 n s (.num 6)=gG n s (.num 6):=by unfold aO;simp [aY,h2]
 rw [e];refine ⟨{ b with priority:=n }, ?_,λ_=>rfl⟩;show _=some ([GV.i .i64 0,GV.i .i64 0]++_)
 refine aA rfl rfl ?_;simp [bI,hk,h2]
theorem alW (b:aB) (r:List GV) (tag ty n:Int) (s:List UInt8) (L:GV):eG b r tag ty n s L lG (.num 7):=by
 unfold eG;have hk:=kY;unfold lG;by_cases h1:ty=0;rotate_left
 ·have e:aO ty n s (.num 7)=8:=by unfold aO;rw [ah (by simpa [aY] using h1)]
  refine ⟨b, ?_,λh=>by rw [e] at h;cases h⟩;rw [e];refine aA rfl rfl ?_;simp [bI,hk,h1]
 subst h1;by_cases h2:n=0
 ·have e:aO 0 n s (.num 7)=17:=by unfold aO;simp [aY,h2]
  refine ⟨b, ?_,λh=>by rw [e] at h;cases h⟩;rw [e];refine aA rfl rfl ?_;simp [bI,hk,h2]
 have e:aO 0 n s (.num 7)=gG n s (.num 7):=by unfold aO;simp [aY,h2]
 rw [e];refine ⟨{ b with deadline:=n }, ?_,λ_=>rfl⟩;show _=some ([GV.i .i64 0,GV.i .i64 0]++_)
 refine aA rfl rfl ?_;simp [bI,hk,h2]
theorem amb (b:aB) (r:List GV) (tag ty n:Int) (s:List UInt8) (L:GV):eG b r tag ty n s L lY (.num 8):=by
 unfold eG;have hk:=kY;unfold lY;by_cases h1:ty=0;rotate_left
 ·have e:aO ty n s (.num 8)=8:=by unfold aO;rw [ah (by simpa [aY] using h1)]
  refine ⟨b, ?_,λh=>by rw [e] at h;cases h⟩;rw [e];refine aA rfl rfl ?_;simp [bI,hk,h1]
 subst h1;by_cases h2:n=0
 ·have e:aO 0 n s (.num 8)=17:=by unfold aO;simp [aY,h2]
  refine ⟨b, ?_,λh=>by rw [e] at h;cases h⟩;rw [e];refine aA rfl rfl ?_;simp [bI,hk,h2]
 have e:aO 0 n s (.num 8)=gG n s (.num 8):=by unfold aO;simp [aY,h2]
 rw [e];refine ⟨{ b with retry:=n }, ?_,λ_=>rfl⟩;show _=some ([GV.i .i64 0,GV.i .i64 0]++_)
 refine aA rfl rfl ?_;simp [bI,hk,h2]
theorem alZ (b:aB) (r:List GV) (tag ty n:Int) (s:List UInt8) (L:GV):eG b r tag ty n s L lJ (.num 9):=by
 unfold eG;have hk:=kY;unfold lJ;by_cases h1:ty=0;rotate_left
 ·have e:aO ty n s (.num 9)=8:=by unfold aO;rw [ah (by simpa [aY] using h1)]
  refine ⟨b, ?_,λh=>by rw [e] at h;cases h⟩;rw [e];refine aA rfl rfl ?_;simp [bI,hk,h1]
 subst h1;by_cases h2:n=0
 ·have e:aO 0 n s (.num 9)=17:=by unfold aO;simp [aY,h2]
  refine ⟨b, ?_,λh=>by rw [e] at h;cases h⟩;rw [e];refine aA rfl rfl ?_;simp [bI,hk,h2]
 have e:aO 0 n s (.num 9)=gG n s (.num 9):=by unfold aO;simp [aY,h2]
 rw [e];refine ⟨{ b with epoch:=n }, ?_,λ_=>rfl⟩;show _=some ([GV.i .i64 0,GV.i .i64 0]++_)
 refine aA rfl rfl ?_;simp [bI,hk,h2]
theorem alS (b:aB) (r:List GV) (tag ty n:Int) (s:List UInt8) (L:GV):eG b r tag ty n s L lu (.num 10):=by
 unfold eG;have hk:=kY;unfold lu;by_cases h1:ty=0;rotate_left
 ·have e:aO ty n s (.num 10)=8:=by unfold aO;rw [ah (by simpa [aY] using h1)]
  refine ⟨b, ?_,λh=>by rw [e] at h;cases h⟩;rw [e];refine aA rfl rfl ?_;simp [bI,hk,h1]
 subst h1;by_cases h2:n=0
 ·have e:aO 0 n s (.num 10)=17:=by unfold aO;simp [aY,h2]
  refine ⟨b, ?_,λh=>by rw [e] at h;cases h⟩;rw [e];refine aA rfl rfl ?_;simp [bI,hk,h2]
 have e:aO 0 n s (.num 10)=gG n s (.num 10):=by unfold aO;simp [aY,h2]
 rw [e];refine ⟨{ b with base:=n }, ?_,λ_=>rfl⟩;show _=some ([GV.i .i64 0,GV.i .i64 0]++_)
 refine aA rfl rfl ?_;simp [bI,hk,h2]
theorem alY (b:aB) (r:List GV) (tag ty n:Int) (s:List UInt8) (L:GV):eG b r tag ty n s L lI (.num 11):=by
 unfold eG;have hk:=kY;unfold lI;by_cases h1:ty=0;rotate_left
 ·have e:aO ty n s (.num 11)=8:=by unfold aO;rw [ah (by simpa [aY] using h1)]
  refine ⟨b, ?_,λh=>by rw [e] at h;cases h⟩;rw [e];refine aA rfl rfl ?_;simp [bI,hk,h1]
 subst h1;by_cases h2:n=0
 ·have e:aO 0 n s (.num 11)=17:=by unfold aO;simp [aY,h2]
  refine ⟨b, ?_,λh=>by rw [e] at h;cases h⟩;rw [e];refine aA rfl rfl ?_;simp [bI,hk,h2]
 have e:aO 0 n s (.num 11)=gG n s (.num 11):=by unfold aO;simp [aY,h2]
 rw [e];refine ⟨{ b with digest:=n }, ?_,λ_=>rfl⟩;show _=some ([GV.i .i64 0,GV.i .i64 0]++_)
 refine aA rfl rfl ?_;simp [bI,hk,h2]
theorem al2 (b:aB) (r:List GV) (tag ty n:Int) (s:List UInt8) (L:GV):eG b r tag ty n s L lN (.num 12):=by
 unfold eG;have hk:=kY;unfold lN;by_cases h1:ty=0;rotate_left
 ·have e:aO ty n s (.num 12)=8:=by unfold aO;rw [ah (by simpa [aY] using h1)]
  refine ⟨b, ?_,λh=>by rw [e] at h;cases h⟩;rw [e];refine aA rfl rfl ?_;simp [bI,hk,h1]
 subst h1;by_cases h2:n=0
 ·have e:aO 0 n s (.num 12)=17:=by unfold aO;simp [aY,h2]
  refine ⟨b, ?_,λh=>by rw [e] at h;cases h⟩;rw [e];refine aA rfl rfl ?_;simp [bI,hk,h2]
 have e:aO 0 n s (.num 12)=gG n s (.num 12):=by unfold aO;simp [aY,h2]
 rw [e];refine ⟨{ b with lag:=n }, ?_,λ_=>rfl⟩;show _=some ([GV.i .i64 0,GV.i .i64 0]++_)
 refine aA rfl rfl ?_;simp [bI,hk,h2]
theorem alU (b:aB) (r:List GV) (tag ty n:Int) (s:List UInt8) (L:GV):eG b r tag ty n s L lD (.num 13):=by
 unfold eG;have hk:=kY;unfold lD;by_cases h1:ty=0;rotate_left
 ·have e:aO ty n s (.num 13)=8:=by unfold aO;rw [ah (by simpa [aY] using h1)]
  refine ⟨b, ?_,λh=>by rw [e] at h;cases h⟩;rw [e];refine aA rfl rfl ?_;simp [bI,hk,h1]
 subst h1;by_cases h2:n=0
 ·have e:aO 0 n s (.num 13)=17:=by unfold aO;simp [aY,h2]
  refine ⟨b, ?_,λh=>by rw [e] at h;cases h⟩;rw [e];refine aA rfl rfl ?_;simp [bI,hk,h2]
 have e:aO 0 n s (.num 13)=gG n s (.num 13):=by unfold aO;simp [aY,h2]
 rw [e];refine ⟨{ b with code:=n }, ?_,λ_=>rfl⟩;show _=some ([GV.i .i64 0,GV.i .i64 0]++_)
 refine aA rfl rfl ?_;simp [bI,hk,h2]
theorem amd (b:aB) (r:List GV) (tag ty n:Int) (s:List UInt8) (L:GV):eG b r tag ty n s L l7 (.num 14):=by
 unfold eG;have hk:=kY;unfold l7;by_cases h1:ty=0;rotate_left
 ·have e:aO ty n s (.num 14)=8:=by unfold aO;rw [ah (by simpa [aY] using h1)]
  refine ⟨b, ?_,λh=>by rw [e] at h;cases h⟩;rw [e];refine aA rfl rfl ?_;simp [bI,hk,h1]
 subst h1;by_cases h2:n=0
 ·have e:aO 0 n s (.num 14)=17:=by unfold aO;simp [aY,h2]
  refine ⟨b, ?_,λh=>by rw [e] at h;cases h⟩;rw [e];refine aA rfl rfl ?_;simp [bI,hk,h2]
 have e:aO 0 n s (.num 14)=gG n s (.num 14):=by unfold aO;simp [aY,h2]
 rw [e];refine ⟨{ b with want:=n }, ?_,λ_=>rfl⟩;show _=some ([GV.i .i64 0,GV.i .i64 0]++_)
 refine aA rfl rfl ?_;simp [bI,hk,h2]
theorem ama (b:aB) (r:List GV) (tag ty n:Int) (s:List UInt8) (L:GV) (hn:0<=n/\n < 18446744073709551616):eG b r tag ty n s L lX .rem:=by
 unfold eG;have hk:=kY;unfold lX;by_cases h1:ty=0;rotate_left
 ·have e:aO ty n s .rem=8:=by unfold aO;rw [ah (by simpa [aY] using h1)]
  refine ⟨b, ?_,λh=>by rw [e] at h;cases h⟩;rw [e];refine aA rfl rfl ?_;simp [bI,hk,h1]
 subst h1;by_cases h2:n=0
 ·have e:aO 0 n s .rem=17:=by unfold aO;simp [aY,h2]
  refine ⟨b, ?_,λh=>by rw [e] at h;cases h⟩;rw [e];refine aA rfl rfl ?_;simp [bI,hk,h2]
 have e:aO 0 n s .rem=gG n s .rem:=by unfold aO;simp [aY,h2]
 rw [e];obtain ⟨k1,k2,k3⟩:=apl n hn.1 hn.2;refine ⟨{ b with remaining:=Ae n }, ?_,λ_=>rfl⟩;show _=some ([GV.i .i64 0,GV.i .i64 0]++_)
 refine aA rfl rfl ?_;simp only [Int.zero_sub] at k2;simp [bI,hk,h2,nH,IntKind.bits,k1,k2,k3]
theorem alQ (b:aB) (r:List GV) (tag ty n:Int) (s:List UInt8) (L:GV):eG b r tag ty n s L lq .allow:=by
 unfold eG;have hk:=kY;unfold lq;by_cases h1:ty=0;rotate_left
 ·have e:aO ty n s .allow=8:=by unfold aO;rw [ah (by simpa [aY] using h1)]
  refine ⟨b, ?_,λh=>by rw [e] at h;cases h⟩;rw [e];refine aA rfl rfl ?_;simp [bI,hk,h1]
 subst h1;by_cases h2:n=0
 ·have e:aO 0 n s .allow=17:=by unfold aO;simp [aY,h2]
  refine ⟨b, ?_,λh=>by rw [e] at h;cases h⟩;rw [e];refine aA rfl rfl ?_;simp [bI,hk,h2]
 have e:aO 0 n s .allow=gG n s .allow:=by unfold aO;simp [aY,h2]
 rw [e];by_cases h3:n=1
 ·have e2:gG n s .allow=0:=by unfold gG;rw [ak h3]
  rw [e2];refine ⟨{ b with allowed:=true }, ?_,λ_=>rfl⟩;refine aA rfl rfl ?_;simp [bI,hk,h2,h3]
 ·have e2:gG n s .allow=18:=by unfold gG;rw [ah h3]
  rw [e2];refine ⟨b, ?_,λh=>by cases h⟩;refine aA rfl rfl ?_;simp [bI,hk,h2,h3]
theorem al5 (b:aB) (r:List GV) (tag ty n:Int) (s:List UInt8) (L:GV) (hs:s.length<=100000000):eG b r tag ty n s L lT .name:=by
 unfold eG;have hk:=kY;unfold lT;by_cases h1:ty=1;rotate_left
 ·have e:aO ty n s .name=8:=by unfold aO;rw [ah (by simpa [aY] using h1)]
  refine ⟨b, ?_,λh=>by rw [e] at h;cases h⟩;rw [e];refine aA rfl rfl ?_;simp [bI,hk,h1]
 subst h1;by_cases h2:s=[]
 ·have e:aO 1 n s .name=17:=by unfold aO;simp [aY,h2]
  refine ⟨b, ?_,λh=>by rw [e] at h;cases h⟩;rw [e];refine aA rfl rfl ?_;simp [bI,hk,h2]
 have e:aO 1 n s .name=gG n s .name:=by unfold aO;simp [aY,h2]
 rw [e];have hc:=AO s 0 256 (by omega);refine ⟨{ b with name:=s }, ?_,λ_=>rfl⟩;show _=some ([GV.i .i64 0,GV.i .i64 (iT s 0 256)]++_)
 generalize iT s 0 256=u at *;refine aA rfl rfl ?_;simp [bI,hk,h2,hc]
theorem al9 (b:aB) (r:List GV) (tag ty n:Int) (s:List UInt8) (L:GV) (hs:s.length<=100000000):eG b r tag ty n s L lW .region:=by
 unfold eG;have hk:=kY;unfold lW;by_cases h1:ty=1;rotate_left
 ·have e:aO ty n s .region=8:=by unfold aO;rw [ah (by simpa [aY] using h1)]
  refine ⟨b, ?_,λh=>by rw [e] at h;cases h⟩;rw [e];refine aA rfl rfl ?_;simp [bI,hk,h1]
 subst h1;by_cases h2:s=[]
 ·have e:aO 1 n s .region=17:=by unfold aO;simp [aY,h2]
  refine ⟨b, ?_,λh=>by rw [e] at h;cases h⟩;rw [e];refine aA rfl rfl ?_;simp [bI,hk,h2]
 have e:aO 1 n s .region=gG n s .region:=by unfold aO;simp [aY,h2]
 rw [e];have hc:=AO s 0 256 (by omega);refine ⟨{ b with region:=s }, ?_,λ_=>rfl⟩;show _=some ([GV.i .i64 0,GV.i .i64 (iT s 0 256)]++_)
 generalize iT s 0 256=u at *;refine aA rfl rfl ?_;simp [bI,hk,h2,hc]
theorem al7 (b:aB) (r:List GV) (tag ty n:Int) (s:List UInt8) (L:GV) (hs:s.length<=100000000):eG b r tag ty n s L lU .note:=by
 unfold eG;have hk:=kY;unfold lU;by_cases h1:ty=1;rotate_left
 ·have e:aO ty n s .note=8:=by unfold aO;rw [ah (by simpa [aY] using h1)]
  refine ⟨b, ?_,λh=>by rw [e] at h;cases h⟩;rw [e];refine aA rfl rfl ?_;simp [bI,hk,h1]
 subst h1;by_cases h2:s=[]
 ·have e:aO 1 n s .note=17:=by unfold aO;simp [aY,h2]
  refine ⟨b, ?_,λh=>by rw [e] at h;cases h⟩;rw [e];refine aA rfl rfl ?_;simp [bI,hk,h2]
 have e:aO 1 n s .note=gG n s .note:=by unfold aO;simp [aY,h2]
 rw [e];have hc:=AO s 0 256 (by omega);refine ⟨{ b with note:=s }, ?_,λ_=>rfl⟩;show _=some ([GV.i .i64 0,GV.i .i64 (iT s 0 256)]++_)
 generalize iT s 0 256=u at *;refine aA rfl rfl ?_;simp [bI,hk,h2,hc]
theorem alX (b:aB) (r:List GV) (tag ty n:Int) (s:List UInt8) (L:GV) (hs:s.length<=100000000):eG b r tag ty n s L lH .d:=by
 unfold eG;have hk:=kY;unfold lH;by_cases h1:ty=1;rotate_left
 ·have e:aO ty n s .d=8:=by unfold aO;rw [ah (by simpa [aY] using h1)]
  refine ⟨b, ?_,λh=>by rw [e] at h;cases h⟩;rw [e];refine aA rfl rfl ?_;simp [bI,hk,h1]
 subst h1;by_cases h2:s=[]
 ·have e:aO 1 n s .d=17:=by unfold aO;simp [aY,h2]
  refine ⟨b, ?_,λh=>by rw [e] at h;cases h⟩;rw [e];refine aA rfl rfl ?_;simp [bI,hk,h2]
 have e:aO 1 n s .d=gG n s .d:=by unfold aO;simp [aY,h2]
 rw [e];have hc:=YW s hs;refine ⟨{ b with d:=(oI s).1 }, ?_,λ_=>rfl⟩;show _=some ([GV.i .i64 0,GV.i .i64 (oI s).2]++_)
 refine aA rfl rfl ?_;simp [bI,hk,h2,hc]
theorem amc (b:aB) (r:List GV) (tag ty n:Int) (s:List UInt8) (L:GV) (hs:s.length<=100000000):eG b r tag ty n s L lZ .t:=by
 unfold eG;have hk:=kY;unfold lZ;by_cases h1:ty=1;rotate_left
 ·have e:aO ty n s .t=8:=by unfold aO;rw [ah (by simpa [aY] using h1)]
  refine ⟨b, ?_,λh=>by rw [e] at h;cases h⟩;rw [e];refine aA rfl rfl ?_;simp [bI,hk,h1]
 subst h1;by_cases h2:s=[]
 ·have e:aO 1 n s .t=17:=by unfold aO;simp [aY,h2]
  refine ⟨b, ?_,λh=>by rw [e] at h;cases h⟩;rw [e];refine aA rfl rfl ?_;simp [bI,hk,h2]
 have e:aO 1 n s .t=gG n s .t:=by unfold aO;simp [aY,h2]
 rw [e];have hc:=aoa s hs;refine ⟨{ b with t:=(oO s).1 }, ?_,λ_=>rfl⟩;unfold gG;by_cases h3:(oO s).2=0
 ·rw [ak h3]
  by_cases h4:(oO s).1.length=0
  ·have h5:=jD h4
   rw [ak h4];refine aA rfl rfl ?_;simp [bI,hk,h2,hc,h3,h5]
  ·have h5:(oO s).1≠[]:=λe=>h4 (by rw [e];rfl)
   rw [ah h4];refine aA rfl rfl ?_;simp [bI,hk,h2,hc,h3,h5]
 ·rw [ah h3]
  refine aA rfl rfl ?_;simp [bI,hk,h2,hc,h3]
def dG:aB:={ kind:=0,id:=0,min:=0,max:=0,chosen:=0,flags:=0,cost:=0,priority:=0,deadline:=0,retry:=0,epoch:=0,base:=0,digest:=0,lag:=0,code:=0,want:=0,remaining:=0,allowed:=false,name:=[],region:=[],note:=[],d:=[],t:=[] }
def WG (b:aB) (r:List GV) (ty n:Int) (s:List UInt8) (p:Pl):List GV:=if aO ty n s p=0 then [jf (setB b n s p) r,.i .i64 0] else [jf dG [],.i .i64 (aO ty n s p)]
def WE (b:aB) (r:List GV) (ty n:Int) (s nm:List UInt8):List GV:=match placeOf nm with
 | some p=>WG b r ty n s p
 | none=>[jf dG [],.i .i64 26]
theorem alL (b:aB) (n:Int) (s:List UInt8) (p:Pl):(setB b n s p).kind=b.kind:=by
 unfold setB;split<;>first | rfl | (split<;>rfl)
theorem al6 (b:aB) (r:List GV) (tag ty n:Int) (s:List UInt8) (L:GV) (nm:List UInt8) (e0:¬ nm=lX) (e1:¬ nm=lq) (e2:¬ nm=lT) (e3:¬ nm=lW) (e4:¬ nm=lU) (e5:¬ nm=lH) (e6:¬ nm=lZ) (e7:¬ nm=lM) (e8:¬ nm=lS) (e9:¬ nm=lQ) (e10:¬ nm=lC) (e11:¬ nm=lK) (e12:¬ nm=lF) (e13:¬ nm=lV) (e14:¬ nm=lG) (e15:¬ nm=lY) (e16:¬ nm=lJ) (e17:¬ nm=lu) (e18:¬ nm=lI) (e19:¬ nm=lN) (e20:¬ nm=lD) (e21:¬ nm=l7):TT.lim 106 [.s nm,.i .u64 tag,.i .i64 ty,.i .u64 n,.s s,L,.i .i64 b.kind,.i .u64 b.id,.i .u64 b.min,.i .u64 b.max,.i .u64 b.chosen,.i .u64 b.flags,.i .u64 b.cost,.i .u64 b.priority,.i .u64 b.deadline,.i .u64 b.retry,.i .u64 b.epoch,.i .u64 b.base,.i .u64 b.digest,.i .u64 b.lag,.i .u64 b.code,.i .u64 b.want,.i .i64 b.remaining,.b b.allowed,.s b.name,.s b.region,.s b.note,.l (b.d.map ent),.l (b.t.map row),.l r]=some ([.i .i64 0,.i .i64 26]++bI b):=by
 unfold lX lq lT lW lU lH lZ lM lS lQ lC lK lF lV lG lY lJ lu lI lN lD l7 at *;refine aA rfl rfl ?_;simp [bI,e0,e1,e2,e3,e4,e5,e6,e7,e8,e9,e10,e11,e12,e13,e14,e15,e16,e17,e18,e19,e20,e21]
theorem alP (b:aB) (r:List GV) (tag ty n:Int) (s:List UInt8) (L:GV) (hn:0<=n/\n < 18446744073709551616) (hs:s.length<=100000000) (nm:List UInt8):(∃p,placeOf nm=some p/\eG b r tag ty n s L nm p)\/(placeOf nm=none/\TT.lim 106 [.s nm,.i .u64 tag,.i .i64 ty,.i .u64 n,.s s,L,.i .i64 b.kind,.i .u64 b.id,.i .u64 b.min,.i .u64 b.max,.i .u64 b.chosen,.i .u64 b.flags,.i .u64 b.cost,.i .u64 b.priority,.i .u64 b.deadline,.i .u64 b.retry,.i .u64 b.epoch,.i .u64 b.base,.i .u64 b.digest,.i .u64 b.lag,.i .u64 b.code,.i .u64 b.want,.i .i64 b.remaining,.b b.allowed,.s b.name,.s b.region,.s b.note,.l (b.d.map ent),.l (b.t.map row),.l r]=some ([.i .i64 0,.i .i64 26]++bI b)):=by
 refine I8 (Q:=λnm=>(∃p,placeOf nm=some p/\eG b r tag ty n s L nm p)\/(placeOf nm=none/\TT.lim 106 [.s nm,.i .u64 tag,.i .i64 ty,.i .u64 n,.s s,L,.i .i64 b.kind,.i .u64 b.id,.i .u64 b.min,.i .u64 b.max,.i .u64 b.chosen,.i .u64 b.flags,.i .u64 b.cost,.i .u64 b.priority,.i .u64 b.deadline,.i .u64 b.retry,.i .u64 b.epoch,.i .u64 b.base,.i .u64 b.digest,.i .u64 b.lag,.i .u64 b.code,.i .u64 b.want,.i .i64 b.remaining,.b b.allowed,.s b.name,.s b.region,.s b.note,.l (b.d.map ent),.l (b.t.map row),.l r]=some ([.i .i64 0,.i .i64 26]++bI b))) (.inl ⟨_,Hq,ama b r tag ty n s L hn⟩) (.inl ⟨_,GI,alQ b r tag ty n s L ⟩) (.inl ⟨_,Hf,al5 b r tag ty n s L hs⟩) (.inl ⟨_,Ho,al9 b r tag ty n s L hs⟩) (.inl ⟨_,Hg,al7 b r tag ty n s L hs⟩) (.inl ⟨_,GY,alX b r tag ty n s L hs⟩) (.inl ⟨_,Ht,amc b r tag ty n s L hs⟩) (.inl ⟨_,G7,al1 b r tag ty n s L ⟩) (.inl ⟨_,He,al4 b r tag ty n s L ⟩) (.inl ⟨_,G9,al3 b r tag ty n s L ⟩) (.inl ⟨_,GL,alT b r tag ty n s L ⟩) (.inl ⟨_,G6,al0 b r tag ty n s L ⟩) (.inl ⟨_,GU,alV b r tag ty n s L ⟩) (.inl ⟨_,Hl,al8 b r tag ty n s L ⟩) (.inl ⟨_,GX,alW b r tag ty n s L ⟩) (.inl ⟨_,Hr,amb b r tag ty n s L ⟩) (.inl ⟨_,G5,alZ b r tag ty n s L ⟩) (.inl ⟨_,GK,alS b r tag ty n s L ⟩) (.inl ⟨_,GZ,alY b r tag ty n s L ⟩) (.inl ⟨_,G8,al2 b r tag ty n s L ⟩) (.inl ⟨_,GN,alU b r tag ty n s L ⟩) (.inl ⟨_,Hu,amd b r tag ty n s L ⟩) (λnm e0 e1 e2 e3 e4 e5 e6 e7 e8 e9 e10 e11 e12 e13 e14 e15 e16 e17 e18 e19 e20 e21=>.inr ⟨J6 nm e0 e1 e2 e3 e4 e5 e6 e7 e8 e9 e10 e11 e12 e13 e14 e15 e16 e17 e18 e19 e20 e21,al6 b r tag ty n s L nm e0 e1 e2 e3 e4 e5 e6 e7 e8 e9 e10 e11 e12 e13 e14 e15 e16 e17 e18 e19 e20 e21⟩) nm
theorem aiW (K:List GV) (b:aB) (fl:List aH) (hd:b.d.length<=40) (ht:xE b.t) (hsz:cu fl<=1000000) (tag ty n:Int) (s:List UInt8) (hn:0<=n/\n < 18446744073709551616) (hs:s.length<=100000000) (nm:List UInt8) :
 TT.lim 102 [jf b (aF fl),.s nm,.g [.i .u64 tag,.i .i64 ty,.i .u64 n,.s s,.l K]]=some (WE b (aF fl) ty n s nm):=by
 have hc:=aiO b fl hd ht hsz;have ha:=alP b (aF fl) tag ty n s (.l K) hn hs nm;generalize aF fl=r at *;have hz:GV.g [.i .i64 0,.i .u64 0,.i .u64 0,.i .u64 0,.i .u64 0,.i .u64 0,.i .u64 0,.i .u64 0,.i .u64 0,.i .u64 0,.i .u64 0,.i .u64 0,.i .u64 0,.i .u64 0,.i .u64 0,.i .u64 0,.i .i64 0,.b false,.s [],.s [],.s [],.l [],.l [],.l []]=jf dG []:=rfl;unfold WE;rcases ha with ⟨p,hp,b',h1,h2⟩ | ⟨hp,h1⟩
 ·rw [hp]
  simp only;unfold WG;have hk:=alL b n s p;generalize aO ty n s p=e at *;by_cases he:e=0
  ·have h3:=h2 he
   rw [ak he];rw [he,h3] at h1;have hm:jf (setB b n s p) r=GV.g ([.i .i64 b.kind]++bI (setB b n s p)++[.l r]):=by rw [<- hk];rfl
   rw [hm];generalize setB b n s p=B at *;unfold bI at h1 ⊢;refine bF rfl rfl ?_ rfl;simp [qQ,hc];simp [h1]
  ·rw [ah he]
   unfold bI at h1;rw [<- hz];refine bF rfl rfl ?_ rfl;simp [qQ,hc];simp [h1,he]
 ·rw [hp]
  simp only;unfold bI at h1;rw [<- hz];refine bF rfl rfl ?_ rfl;simp [qQ,hc];simp [h1]
end L
end Go.Proofs.YtpioimdhbbgniaaGreatDoor
