/- What the trees compute: plain laws. -/
import Derived.Test.YtcpfjpcdcafjmaaGreatDoorKKe2
namespace Go.Proofs.YtcpfjpcdcafjmaaGreatDoor
open Go Go.aO
set_option linter.unusedSimpArgs false
set_option linter.unusedVariables false
set_option maxRecDepth 100000
namespace K
theorem ac9 (b:aB) (fl:List aF) (t:List Row) (ht:t.length<=1000) (hd:∀r∈t,r.1.length<=40):∀ (m i:Nat),i+m=t.length->
 TT.lim 115 [.l ((t.take i).map row),.l (t.map row),.i .i64 t.length,.i .i64 i,.i .i64 b.kind,.i .u64 b.id,.i .u64 b.min,.i .u64 b.max,.i .u64 b.chosen,.i .u64 b.flags,.i .u64 b.cost,.i .u64 b.priority,.i .u64 b.deadline,.i .u64 b.retry,.i .u64 b.epoch,.i .u64 b.base,.i .u64 b.digest,.i .u64 b.lag,.i .u64 b.code,.i .u64 b.want,.i .i64 b.remaining,.b b.allowed,.s b.name,.s b.region,.s b.note,.l (b.d.map ent),.l (aC fl)]=some [.i .i64 0,.l (t.map row)]
 | 0,i,hi=>by
   have h0:t.take i=t:=nG (by omega);have h:¬ ((i:Int) < t.length):=by omega
   rw [h0];refine ay rfl rfl ?_;simp [h]
 | m+1,i,hi=>by
   have hlt:i < t.length:=by omega
   have ih:=ac9 b fl t ht hd m (i+1) (by omega);have h:((i:Int) < t.length):=by omega
   have hcast:((i+1:Nat):Int)=(i:Int)+1:=by omega
   have hwr:=wrap64 (n:=(i:Int)+1) (by omega) (by omega);have hg:(t.map row)[i]? = some (row t[i]):=by rw [iL,bT hlt];rfl
   have hc:=Z5 t[i].1 (hd _ (jf hlt));have hfold:GV.g [.l (t[i].1.map ent),.i .u64 t[i].2]=row t[i]:=rfl;have htk:(t.take (i+1)).map row=(t.take i).map row++[row t[i]]:=by rw [SG,bT hlt,wS];rfl
   rw [htk,hcast] at ih;have hel:(row t[i]).fU 2=true:=rfl;have hb1:2 * (((t.take i).map row).length+1) * 32<=281474976710656:=by simp;omega
   have hb2:((t.take i).map row).length<=281474976710655:=by simp;omega
   generalize (t.take i).map row=A at *;generalize t.map row=L at *;refine ay rfl rfl ?_;simp [h,hg,hc,hfold,hel,hb1,hb2,hwr,ih]
theorem ada (b:aB) (fl:List aF) (hd:b.d.length<=40) (ht:oD b.t) (hs:bI fl<=1000000):TT.lim 113 [bU b (aC fl)]=some [bU b (aC fl)]:=by
 have akg:∀r∈b.t,r.1.length<=40:=λr hr=>by
  have:=ht.few r hr;unfold iq at this;rw [aJ,decide_eq_true_iff] at this;exact this.2
 have h1:=ac9 b fl b.t (by have:=ht.len;omega) akg b.t.length 0 (by omega);have hl:=ht.len;rw [SI,show ((0:Nat):Int)=0 from rfl] at h1;have h2:=Z5 b.d hd;have h3:=O0 fl hs;have hml:((b.t.map row).length:Int)=b.t.length:=by simp
 have hz1:(32:Int) * b.t.length<=281474976710656:=by omega
 have hz2:(b.t.length:Int)<=1152921504606846976:=by omega
 have hz3:b.t.length<=8796093022208:=by omega
 simp only [wU] at h1;generalize hL:b.t.map row=L at *;refine aW rfl rfl ?_ rfl;unfold bU;rw [hL];simp [hml,h1,h2,h3,GV.fU,hz1,hz2];try omega
def BP (n:Int):Int:=if n % 2=0 then n / 2 else -(n / 2) - 1
theorem atc (n:Int) (h0:0<=n) (h1:n < 18446744073709551616):fJ .and .u64 n 1=some (.i .u64 (n % 2))/\fJ .xor .i64 (IntKind.i64.wrap (n / 2)) (IntKind.i64.wrap (0 - IntKind.i64.wrap (n % 2)))=some (.i .i64 (BP n))/\n.fdiv 2=n / 2:=by
 have wu:∀y:Int,IntKind.u64.wrap y=y % 18446744073709551616:=λy=>by simp [IntKind.wrap,IntKind.signed,IntKind.bits]
 have hu:IntKind.u64.bits=64:=rfl;have hi:IntKind.i64.bits=64:=rfl;refine ⟨?_, ?_,Nk _ (by decide)⟩
 ·simp only [fJ,wu,hu]
  have e:(BitVec.ofInt 64 n &&& BitVec.ofInt 64 1).toNat=(BitVec.ofInt 64 n).toNat % 2:=by
   rw [Yy];exact Nat.and_one_is_mod _
  show some (GV.i IntKind.u64 (((BitVec.ofInt 64 n &&& BitVec.ofInt 64 1).toNat:Int) % 18446744073709551616))=_
  rw [e,xM];congr 2;omega
 ·rw [wrap64 (by omega) (by omega),wrap64 (n:=n % 2) (by omega) (by omega),wrap64 (by omega) (by omega)]
  simp only [fJ,hi];unfold BP;by_cases h:n % 2=0
  ·rw [aj h,h]
   have e:BitVec.ofInt 64 (0 - 0)=0#64:=rfl;show some (GV.i IntKind.i64 (IntKind.i64.wrap ((BitVec.ofInt 64 (n / 2) ^^^ BitVec.ofInt 64 (0 - 0)).toNat:Int)))=_
   rw [e,BitVec.xor_zero,xM];congr 2;rw [wrap64 (by omega) (by omega)];omega
  ·rw [ah h,show n % 2=1 by omega]
   have e:BitVec.ofInt 64 (0 - 1)=BitVec.allOnes 64:=by decide
   show some (GV.i IntKind.i64 (IntKind.i64.wrap ((BitVec.ofInt 64 (n / 2) ^^^ BitVec.ofInt 64 (0 - 1)).toNat:Int)))=_
   rw [e,BitVec.xor_allOnes,BitVec.toNat_not,xM];congr 2;have wi:∀y:Int,IntKind.i64.wrap y=if y % 18446744073709551616>=9223372036854775808 then y % 18446744073709551616 - 18446744073709551616 else y % 18446744073709551616:=λy=>by
    simp [IntKind.wrap,IntKind.signed,IntKind.bits]
   rw [wi];split<;>omega
def setB (b:aB) (n:Int) (s:List UInt8):Pl->aB
 | .rem=>{ b with remaining:=BP n }
 | .allow=>{ b with allowed:=true }
 | .name=>{ b with name:=s }
 | .region=>{ b with region:=s }
 | .note=>{ b with note:=s }
 | .d=>{ b with d:=(pV s).1 }
 | .t=>{ b with t:=(ql s).1 }
 | .num k=>match k with
   | 0=>{ b with id:=n }
   | 1=>{ b with min:=n }
   | 2=>{ b with max:=n }
   | 3=>{ b with chosen:=n }
   | 4=>{ b with flags:=n }
   | 5=>{ b with cost:=n }
   | 6=>{ b with priority:=n }
   | 7=>{ b with deadline:=n }
   | 8=>{ b with retry:=n }
   | 9=>{ b with epoch:=n }
   | 10=>{ b with base:=n }
   | 11=>{ b with digest:=n }
   | 12=>{ b with lag:=n }
   | 13=>{ b with code:=n }
   | _=>{ b with want:=n }
def iF (n:Int) (s:List UInt8):Pl->Int
 | .allow=>if n=1 then 0 else 18
 | .name=>jI s 0 256
 | .region=>jI s 0 256
 | .note=>jI s 0 256
 | .d=>(pV s).2
 | .t=>if (ql s).2=0 then (if (ql s).1.length=0 then 17 else 0) else (ql s).2
 | _=>0
def aN (ty n:Int) (s:List UInt8) (p:Pl):Int:=if ty=aV p then (if ty=0 then (if n=0 then 17 else iF n s p) else (if s=[] then 17 else iF n s p)) else 8
theorem nN (u:Int):TT.lim 117 [.i .i64 u]=some [.i .i64 (if u=0 then 0 else if u=1 then 0 else if u=2 then 0 else if u=3 then 1 else if u=4 then 1 else if u=5 then 1 else -1)]:=by
 refine aW rfl rfl ?_ rfl;by_cases h0:u=0
 ·simp [h0]
 by_cases h1:u=1
 ·simp [h1]
 by_cases h2:u=2
 ·simp [h2]
 by_cases h3:u=3
 ·simp [h3]
 by_cases h4:u=4
 ·simp [h4]
 by_cases h5:u=5
 ·simp [h5]
 simp [h0,h1,h2,h3,h4,h5]
/-- A message's cells, but for the first and the last one. -/
def bg (b:aB):List GV:=[.i .u64 b.id,.i .u64 b.min,.i .u64 b.max,.i .u64 b.chosen,.i .u64 b.flags,.i .u64 b.cost,.i .u64 b.priority,.i .u64 b.deadline,.i .u64 b.retry,.i .u64 b.epoch,.i .u64 b.base,.i .u64 b.digest,.i .u64 b.lag,.i .u64 b.code,.i .u64 b.want,.i .i64 b.remaining,.b b.allowed,.s b.name,.s b.region,.s b.note,.l (b.d.map ent),.l (b.t.map row)]
/-- What set does. -/
def fG (b:aB) (r:List GV) (tag ty n:Int) (s:List UInt8) (L:GV) (nm:List UInt8) (p:Pl):Prop:=∃b':aB,TT.lim 116 [.s nm,.i .u64 tag,.i .i64 ty,.i .u64 n,.s s,L,.i .i64 b.kind,.i .u64 b.id,.i .u64 b.min,.i .u64 b.max,.i .u64 b.chosen,.i .u64 b.flags,.i .u64 b.cost,.i .u64 b.priority,.i .u64 b.deadline,.i .u64 b.retry,.i .u64 b.epoch,.i .u64 b.base,.i .u64 b.digest,.i .u64 b.lag,.i .u64 b.code,.i .u64 b.want,.i .i64 b.remaining,.b b.allowed,.s b.name,.s b.region,.s b.note,.l (b.d.map ent),.l (b.t.map row),.l r]=some ([.i .i64 0,.i .i64 (aN ty n s p)]++bg b')/\(aN ty n s p=0->b'=setB b n s p)
theorem apI (b:aB) (r:List GV) (tag ty n:Int) (s:List UInt8) (L:GV):fG b r tag ty n s L lS (.num 0):=by
 unfold fG;have hk:=nN;unfold lS;by_cases h1:ty=0;rotate_left
 ·have e:aN ty n s (.num 0)=8:=by unfold aN;rw [ah (by simpa [aV] using h1)]
  refine ⟨b, ?_,λh=>by rw [e] at h;cases h⟩;rw [e];refine ay rfl rfl ?_;simp [bg,hk,h1]
 subst h1;by_cases h2:n=0
 ·have e:aN 0 n s (.num 0)=17:=by unfold aN;simp [aV,h2]
  refine ⟨b, ?_,λh=>by rw [e] at h;cases h⟩;rw [e];refine ay rfl rfl ?_;simp [bg,hk,h2]
 have e:aN 0 n s (.num 0)=iF n s (.num 0):=by unfold aN;simp [aV,h2]
 rw [e];refine ⟨{ b with id:=n }, ?_,λ_=>rfl⟩;show _=some ([GV.i .i64 0,GV.i .i64 0]++_)
 refine ay rfl rfl ?_;simp [bg,hk,h2]
theorem apL (b:aB) (r:List GV) (tag ty n:Int) (s:List UInt8) (L:GV):fG b r tag ty n s L lV (.num 1):=by
 unfold fG;have hk:=nN;unfold lV;by_cases h1:ty=0;rotate_left
 ·have e:aN ty n s (.num 1)=8:=by unfold aN;rw [ah (by simpa [aV] using h1)]
  refine ⟨b, ?_,λh=>by rw [e] at h;cases h⟩;rw [e];refine ay rfl rfl ?_;simp [bg,hk,h1]
 subst h1;by_cases h2:n=0
 ·have e:aN 0 n s (.num 1)=17:=by unfold aN;simp [aV,h2]
  refine ⟨b, ?_,λh=>by rw [e] at h;cases h⟩;rw [e];refine ay rfl rfl ?_;simp [bg,hk,h2]
 have e:aN 0 n s (.num 1)=iF n s (.num 1):=by unfold aN;simp [aV,h2]
 rw [e];refine ⟨{ b with min:=n }, ?_,λ_=>rfl⟩;show _=some ([GV.i .i64 0,GV.i .i64 0]++_)
 refine ay rfl rfl ?_;simp [bg,hk,h2]
theorem apK (b:aB) (r:List GV) (tag ty n:Int) (s:List UInt8) (L:GV):fG b r tag ty n s L lU (.num 2):=by
 unfold fG;have hk:=nN;unfold lU;by_cases h1:ty=0;rotate_left
 ·have e:aN ty n s (.num 2)=8:=by unfold aN;rw [ah (by simpa [aV] using h1)]
  refine ⟨b, ?_,λh=>by rw [e] at h;cases h⟩;rw [e];refine ay rfl rfl ?_;simp [bg,hk,h1]
 subst h1;by_cases h2:n=0
 ·have e:aN 0 n s (.num 2)=17:=by unfold aN;simp [aV,h2]
  refine ⟨b, ?_,λh=>by rw [e] at h;cases h⟩;rw [e];refine ay rfl rfl ?_;simp [bg,hk,h2]
 have e:aN 0 n s (.num 2)=iF n s (.num 2):=by unfold aN;simp [aV,h2]
 rw [e];refine ⟨{ b with max:=n }, ?_,λ_=>rfl⟩;show _=some ([GV.i .i64 0,GV.i .i64 0]++_)
 refine ay rfl rfl ?_;simp [bg,hk,h2]
theorem apA (b:aB) (r:List GV) (tag ty n:Int) (s:List UInt8) (L:GV):fG b r tag ty n s L lG (.num 3):=by
 unfold fG;have hk:=nN;unfold lG;by_cases h1:ty=0;rotate_left
 ·have e:aN ty n s (.num 3)=8:=by unfold aN;rw [ah (by simpa [aV] using h1)]
  refine ⟨b, ?_,λh=>by rw [e] at h;cases h⟩;rw [e];refine ay rfl rfl ?_;simp [bg,hk,h1]
 subst h1;by_cases h2:n=0
 ·have e:aN 0 n s (.num 3)=17:=by unfold aN;simp [aV,h2]
  refine ⟨b, ?_,λh=>by rw [e] at h;cases h⟩;rw [e];refine ay rfl rfl ?_;simp [bg,hk,h2]
 have e:aN 0 n s (.num 3)=iF n s (.num 3):=by unfold aN;simp [aV,h2]
 rw [e];refine ⟨{ b with chosen:=n }, ?_,λ_=>rfl⟩;show _=some ([GV.i .i64 0,GV.i .i64 0]++_)
 refine ay rfl rfl ?_;simp [bg,hk,h2]
theorem apH (b:aB) (r:List GV) (tag ty n:Int) (s:List UInt8) (L:GV):fG b r tag ty n s L lQ (.num 4):=by
 unfold fG;have hk:=nN;unfold lQ;by_cases h1:ty=0;rotate_left
 ·have e:aN ty n s (.num 4)=8:=by unfold aN;rw [ah (by simpa [aV] using h1)]
  refine ⟨b, ?_,λh=>by rw [e] at h;cases h⟩;rw [e];refine ay rfl rfl ?_;simp [bg,hk,h1]
 subst h1;by_cases h2:n=0
 ·have e:aN 0 n s (.num 4)=17:=by unfold aN;simp [aV,h2]
  refine ⟨b, ?_,λh=>by rw [e] at h;cases h⟩;rw [e];refine ay rfl rfl ?_;simp [bg,hk,h2]
 have e:aN 0 n s (.num 4)=iF n s (.num 4):=by unfold aN;simp [aV,h2]
 rw [e];refine ⟨{ b with flags:=n }, ?_,λ_=>rfl⟩;show _=some ([GV.i .i64 0,GV.i .i64 0]++_)
 refine ay rfl rfl ?_;simp [bg,hk,h2]
theorem apC (b:aB) (r:List GV) (tag ty n:Int) (s:List UInt8) (L:GV):fG b r tag ty n s L lI (.num 5):=by
 unfold fG;have hk:=nN;unfold lI;by_cases h1:ty=0;rotate_left
 ·have e:aN ty n s (.num 5)=8:=by unfold aN;rw [ah (by simpa [aV] using h1)]
  refine ⟨b, ?_,λh=>by rw [e] at h;cases h⟩;rw [e];refine ay rfl rfl ?_;simp [bg,hk,h1]
 subst h1;by_cases h2:n=0
 ·have e:aN 0 n s (.num 5)=17:=by unfold aN;simp [aV,h2]
  refine ⟨b, ?_,λh=>by rw [e] at h;cases h⟩;rw [e];refine ay rfl rfl ?_;simp [bg,hk,h2]
 have e:aN 0 n s (.num 5)=iF n s (.num 5):=by unfold aN;simp [aV,h2]
 rw [e];refine ⟨{ b with cost:=n }, ?_,λ_=>rfl⟩;show _=some ([GV.i .i64 0,GV.i .i64 0]++_)
 refine ay rfl rfl ?_;simp [bg,hk,h2]
theorem apQ (b:aB) (r:List GV) (tag ty n:Int) (s:List UInt8) (L:GV):fG b r tag ty n s L lW (.num 6):=by
 unfold fG;have hk:=nN;unfold lW;by_cases h1:ty=0;rotate_left
 ·have e:aN ty n s (.num 6)=8:=by unfold aN;rw [ah (by simpa [aV] using h1)]
  refine ⟨b, ?_,λh=>by rw [e] at h;cases h⟩;rw [e];refine ay rfl rfl ?_;simp [bg,hk,h1]
 subst h1;by_cases h2:n=0
 ·have e:aN 0 n s (.num 6)=17:=by unfold aN;simp [aV,h2]
  refine ⟨b, ?_,λh=>by rw [e] at h;cases h⟩;rw [e];refine ay rfl rfl ?_;simp [bg,hk,h2]
 have e:aN 0 n s (.num 6)=iF n s (.num 6):=by unfold aN;simp [aV,h2]
 rw [e];refine ⟨{ b with priority:=n }, ?_,λ_=>rfl⟩;show _=some ([GV.i .i64 0,GV.i .i64 0]++_)
 refine ay rfl rfl ?_;simp [bg,hk,h2]
theorem apD (b:aB) (r:List GV) (tag ty n:Int) (s:List UInt8) (L:GV):fG b r tag ty n s L lJ (.num 7):=by
 unfold fG;have hk:=nN;unfold lJ;by_cases h1:ty=0;rotate_left
 ·have e:aN ty n s (.num 7)=8:=by unfold aN;rw [ah (by simpa [aV] using h1)]
  refine ⟨b, ?_,λh=>by rw [e] at h;cases h⟩;rw [e];refine ay rfl rfl ?_;simp [bg,hk,h1]
 subst h1;by_cases h2:n=0
 ·have e:aN 0 n s (.num 7)=17:=by unfold aN;simp [aV,h2]
  refine ⟨b, ?_,λh=>by rw [e] at h;cases h⟩;rw [e];refine ay rfl rfl ?_;simp [bg,hk,h2]
 have e:aN 0 n s (.num 7)=iF n s (.num 7):=by unfold aN;simp [aV,h2]
 rw [e];refine ⟨{ b with deadline:=n }, ?_,λ_=>rfl⟩;show _=some ([GV.i .i64 0,GV.i .i64 0]++_)
 refine ay rfl rfl ?_;simp [bg,hk,h2]
theorem apT (b:aB) (r:List GV) (tag ty n:Int) (s:List UInt8) (L:GV):fG b r tag ty n s L lY (.num 8):=by
 unfold fG;have hk:=nN;unfold lY;by_cases h1:ty=0;rotate_left
 ·have e:aN ty n s (.num 8)=8:=by unfold aN;rw [ah (by simpa [aV] using h1)]
  refine ⟨b, ?_,λh=>by rw [e] at h;cases h⟩;rw [e];refine ay rfl rfl ?_;simp [bg,hk,h1]
 subst h1;by_cases h2:n=0
 ·have e:aN 0 n s (.num 8)=17:=by unfold aN;simp [aV,h2]
  refine ⟨b, ?_,λh=>by rw [e] at h;cases h⟩;rw [e];refine ay rfl rfl ?_;simp [bg,hk,h2]
 have e:aN 0 n s (.num 8)=iF n s (.num 8):=by unfold aN;simp [aV,h2]
 rw [e];refine ⟨{ b with retry:=n }, ?_,λ_=>rfl⟩;show _=some ([GV.i .i64 0,GV.i .i64 0]++_)
 refine ay rfl rfl ?_;simp [bg,hk,h2]
theorem apG (b:aB) (r:List GV) (tag ty n:Int) (s:List UInt8) (L:GV):fG b r tag ty n s L lN (.num 9):=by
 unfold fG;have hk:=nN;unfold lN;by_cases h1:ty=0;rotate_left
 ·have e:aN ty n s (.num 9)=8:=by unfold aN;rw [ah (by simpa [aV] using h1)]
  refine ⟨b, ?_,λh=>by rw [e] at h;cases h⟩;rw [e];refine ay rfl rfl ?_;simp [bg,hk,h1]
 subst h1;by_cases h2:n=0
 ·have e:aN 0 n s (.num 9)=17:=by unfold aN;simp [aV,h2]
  refine ⟨b, ?_,λh=>by rw [e] at h;cases h⟩;rw [e];refine ay rfl rfl ?_;simp [bg,hk,h2]
 have e:aN 0 n s (.num 9)=iF n s (.num 9):=by unfold aN;simp [aV,h2]
 rw [e];refine ⟨{ b with epoch:=n }, ?_,λ_=>rfl⟩;show _=some ([GV.i .i64 0,GV.i .i64 0]++_)
 refine ay rfl rfl ?_;simp [bg,hk,h2]
theorem apz (b:aB) (r:List GV) (tag ty n:Int) (s:List UInt8) (L:GV):fG b r tag ty n s L lF (.num 10):=by
 unfold fG;have hk:=nN;unfold lF;by_cases h1:ty=0;rotate_left
 ·have e:aN ty n s (.num 10)=8:=by unfold aN;rw [ah (by simpa [aV] using h1)]
  refine ⟨b, ?_,λh=>by rw [e] at h;cases h⟩;rw [e];refine ay rfl rfl ?_;simp [bg,hk,h1]
 subst h1;by_cases h2:n=0
 ·have e:aN 0 n s (.num 10)=17:=by unfold aN;simp [aV,h2]
  refine ⟨b, ?_,λh=>by rw [e] at h;cases h⟩;rw [e];refine ay rfl rfl ?_;simp [bg,hk,h2]
 have e:aN 0 n s (.num 10)=iF n s (.num 10):=by unfold aN;simp [aV,h2]
 rw [e];refine ⟨{ b with base:=n }, ?_,λ_=>rfl⟩;show _=some ([GV.i .i64 0,GV.i .i64 0]++_)
 refine ay rfl rfl ?_;simp [bg,hk,h2]
theorem apF (b:aB) (r:List GV) (tag ty n:Int) (s:List UInt8) (L:GV):fG b r tag ty n s L lM (.num 11):=by
 unfold fG;have hk:=nN;unfold lM;by_cases h1:ty=0;rotate_left
 ·have e:aN ty n s (.num 11)=8:=by unfold aN;rw [ah (by simpa [aV] using h1)]
  refine ⟨b, ?_,λh=>by rw [e] at h;cases h⟩;rw [e];refine ay rfl rfl ?_;simp [bg,hk,h1]
 subst h1;by_cases h2:n=0
 ·have e:aN 0 n s (.num 11)=17:=by unfold aN;simp [aV,h2]
  refine ⟨b, ?_,λh=>by rw [e] at h;cases h⟩;rw [e];refine ay rfl rfl ?_;simp [bg,hk,h2]
 have e:aN 0 n s (.num 11)=iF n s (.num 11):=by unfold aN;simp [aV,h2]
 rw [e];refine ⟨{ b with digest:=n }, ?_,λ_=>rfl⟩;show _=some ([GV.i .i64 0,GV.i .i64 0]++_)
 refine ay rfl rfl ?_;simp [bg,hk,h2]
theorem apJ (b:aB) (r:List GV) (tag ty n:Int) (s:List UInt8) (L:GV):fG b r tag ty n s L lT (.num 12):=by
 unfold fG;have hk:=nN;unfold lT;by_cases h1:ty=0;rotate_left
 ·have e:aN ty n s (.num 12)=8:=by unfold aN;rw [ah (by simpa [aV] using h1)]
  refine ⟨b, ?_,λh=>by rw [e] at h;cases h⟩;rw [e];refine ay rfl rfl ?_;simp [bg,hk,h1]
 subst h1;by_cases h2:n=0
 ·have e:aN 0 n s (.num 12)=17:=by unfold aN;simp [aV,h2]
  refine ⟨b, ?_,λh=>by rw [e] at h;cases h⟩;rw [e];refine ay rfl rfl ?_;simp [bg,hk,h2]
 have e:aN 0 n s (.num 12)=iF n s (.num 12):=by unfold aN;simp [aV,h2]
 rw [e];refine ⟨{ b with lag:=n }, ?_,λ_=>rfl⟩;show _=some ([GV.i .i64 0,GV.i .i64 0]++_)
 refine ay rfl rfl ?_;simp [bg,hk,h2]
theorem apB (b:aB) (r:List GV) (tag ty n:Int) (s:List UInt8) (L:GV):fG b r tag ty n s L lH (.num 13):=by
 unfold fG;have hk:=nN;unfold lH;by_cases h1:ty=0;rotate_left
 ·have e:aN ty n s (.num 13)=8:=by unfold aN;rw [ah (by simpa [aV] using h1)]
  refine ⟨b, ?_,λh=>by rw [e] at h;cases h⟩;rw [e];refine ay rfl rfl ?_;simp [bg,hk,h1]
 subst h1;by_cases h2:n=0
 ·have e:aN 0 n s (.num 13)=17:=by unfold aN;simp [aV,h2]
  refine ⟨b, ?_,λh=>by rw [e] at h;cases h⟩;rw [e];refine ay rfl rfl ?_;simp [bg,hk,h2]
 have e:aN 0 n s (.num 13)=iF n s (.num 13):=by unfold aN;simp [aV,h2]
 rw [e];refine ⟨{ b with code:=n }, ?_,λ_=>rfl⟩;show _=some ([GV.i .i64 0,GV.i .i64 0]++_)
 refine ay rfl rfl ?_;simp [bg,hk,h2]
theorem apW (b:aB) (r:List GV) (tag ty n:Int) (s:List UInt8) (L:GV):fG b r tag ty n s L l7 (.num 14):=by
 unfold fG;have hk:=nN;unfold l7;by_cases h1:ty=0;rotate_left
 ·have e:aN ty n s (.num 14)=8:=by unfold aN;rw [ah (by simpa [aV] using h1)]
  refine ⟨b, ?_,λh=>by rw [e] at h;cases h⟩;rw [e];refine ay rfl rfl ?_;simp [bg,hk,h1]
 subst h1;by_cases h2:n=0
 ·have e:aN 0 n s (.num 14)=17:=by unfold aN;simp [aV,h2]
  refine ⟨b, ?_,λh=>by rw [e] at h;cases h⟩;rw [e];refine ay rfl rfl ?_;simp [bg,hk,h2]
 have e:aN 0 n s (.num 14)=iF n s (.num 14):=by unfold aN;simp [aV,h2]
 rw [e];refine ⟨{ b with want:=n }, ?_,λ_=>rfl⟩;show _=some ([GV.i .i64 0,GV.i .i64 0]++_)
 refine ay rfl rfl ?_;simp [bg,hk,h2]
theorem apS (b:aB) (r:List GV) (tag ty n:Int) (s:List UInt8) (L:GV) (hn:0<=n/\n < 18446744073709551616):fG b r tag ty n s L lX .rem:=by
 unfold fG;have hk:=nN;unfold lX;by_cases h1:ty=0;rotate_left
 ·have e:aN ty n s .rem=8:=by unfold aN;rw [ah (by simpa [aV] using h1)]
  refine ⟨b, ?_,λh=>by rw [e] at h;cases h⟩;rw [e];refine ay rfl rfl ?_;simp [bg,hk,h1]
 subst h1;by_cases h2:n=0
 ·have e:aN 0 n s .rem=17:=by unfold aN;simp [aV,h2]
  refine ⟨b, ?_,λh=>by rw [e] at h;cases h⟩;rw [e];refine ay rfl rfl ?_;simp [bg,hk,h2]
 have e:aN 0 n s .rem=iF n s .rem:=by unfold aN;simp [aV,h2]
 rw [e];obtain ⟨k1,k2,k3⟩:=atc n hn.1 hn.2;refine ⟨{ b with remaining:=BP n }, ?_,λ_=>rfl⟩;show _=some ([GV.i .i64 0,GV.i .i64 0]++_)
 refine ay rfl rfl ?_;simp only [Int.zero_sub] at k2;simp [bg,hk,h2,oz,IntKind.bits,k1,k2,k3]
theorem apx (b:aB) (r:List GV) (tag ty n:Int) (s:List UInt8) (L:GV):fG b r tag ty n s L lD .allow:=by
 unfold fG;have hk:=nN;unfold lD;by_cases h1:ty=0;rotate_left
 ·have e:aN ty n s .allow=8:=by unfold aN;rw [ah (by simpa [aV] using h1)]
  refine ⟨b, ?_,λh=>by rw [e] at h;cases h⟩;rw [e];refine ay rfl rfl ?_;simp [bg,hk,h1]
 subst h1;by_cases h2:n=0
 ·have e:aN 0 n s .allow=17:=by unfold aN;simp [aV,h2]
  refine ⟨b, ?_,λh=>by rw [e] at h;cases h⟩;rw [e];refine ay rfl rfl ?_;simp [bg,hk,h2]
 have e:aN 0 n s .allow=iF n s .allow:=by unfold aN;simp [aV,h2]
 rw [e];by_cases h3:n=1
 ·have e2:iF n s .allow=0:=by unfold iF;rw [aj h3]
  rw [e2];refine ⟨{ b with allowed:=true }, ?_,λ_=>rfl⟩;refine ay rfl rfl ?_;simp [bg,hk,h2,h3]
 ·have e2:iF n s .allow=18:=by unfold iF;rw [ah h3]
  rw [e2];refine ⟨b, ?_,λh=>by cases h⟩;refine ay rfl rfl ?_;simp [bg,hk,h2,h3]
theorem apM (b:aB) (r:List GV) (tag ty n:Int) (s:List UInt8) (L:GV) (hs:s.length<=100000000):fG b r tag ty n s L kR .name:=by
 unfold fG;have hk:=nN;unfold kR;by_cases h1:ty=1;rotate_left
 ·have e:aN ty n s .name=8:=by unfold aN;rw [ah (by simpa [aV] using h1)]
  refine ⟨b, ?_,λh=>by rw [e] at h;cases h⟩;rw [e];refine ay rfl rfl ?_;simp [bg,hk,h1]
 subst h1;by_cases h2:s=[]
 ·have e:aN 1 n s .name=17:=by unfold aN;simp [aV,h2]
  refine ⟨b, ?_,λh=>by rw [e] at h;cases h⟩;rw [e];refine ay rfl rfl ?_;simp [bg,hk,h2]
 have e:aN 1 n s .name=iF n s .name:=by unfold aN;simp [aV,h2]
 rw [e];have hc:=CS s 0 256 (by omega);refine ⟨{ b with name:=s }, ?_,λ_=>rfl⟩;show _=some ([GV.i .i64 0,GV.i .i64 (jI s 0 256)]++_)
 generalize jI s 0 256=u at *;refine ay rfl rfl ?_;simp [bg,hk,h2,hc]
theorem apR (b:aB) (r:List GV) (tag ty n:Int) (s:List UInt8) (L:GV) (hs:s.length<=100000000):fG b r tag ty n s L kT .region:=by
 unfold fG;have hk:=nN;unfold kT;by_cases h1:ty=1;rotate_left
 ·have e:aN ty n s .region=8:=by unfold aN;rw [ah (by simpa [aV] using h1)]
  refine ⟨b, ?_,λh=>by rw [e] at h;cases h⟩;rw [e];refine ay rfl rfl ?_;simp [bg,hk,h1]
 subst h1;by_cases h2:s=[]
 ·have e:aN 1 n s .region=17:=by unfold aN;simp [aV,h2]
  refine ⟨b, ?_,λh=>by rw [e] at h;cases h⟩;rw [e];refine ay rfl rfl ?_;simp [bg,hk,h2]
 have e:aN 1 n s .region=iF n s .region:=by unfold aN;simp [aV,h2]
 rw [e];have hc:=CS s 0 256 (by omega);refine ⟨{ b with region:=s }, ?_,λ_=>rfl⟩;show _=some ([GV.i .i64 0,GV.i .i64 (jI s 0 256)]++_)
 generalize jI s 0 256=u at *;refine ay rfl rfl ?_;simp [bg,hk,h2,hc]
theorem apO (b:aB) (r:List GV) (tag ty n:Int) (s:List UInt8) (L:GV) (hs:s.length<=100000000):fG b r tag ty n s L kS .note:=by
 unfold fG;have hk:=nN;unfold kS;by_cases h1:ty=1;rotate_left
 ·have e:aN ty n s .note=8:=by unfold aN;rw [ah (by simpa [aV] using h1)]
  refine ⟨b, ?_,λh=>by rw [e] at h;cases h⟩;rw [e];refine ay rfl rfl ?_;simp [bg,hk,h1]
 subst h1;by_cases h2:s=[]
 ·have e:aN 1 n s .note=17:=by unfold aN;simp [aV,h2]
  refine ⟨b, ?_,λh=>by rw [e] at h;cases h⟩;rw [e];refine ay rfl rfl ?_;simp [bg,hk,h2]
 have e:aN 1 n s .note=iF n s .note:=by unfold aN;simp [aV,h2]
 rw [e];have hc:=CS s 0 256 (by omega);refine ⟨{ b with note:=s }, ?_,λ_=>rfl⟩;show _=some ([GV.i .i64 0,GV.i .i64 (jI s 0 256)]++_)
 generalize jI s 0 256=u at *;refine ay rfl rfl ?_;simp [bg,hk,h2,hc]
theorem apE (b:aB) (r:List GV) (tag ty n:Int) (s:List UInt8) (L:GV) (hs:s.length<=100000000):fG b r tag ty n s L lK .d:=by
 unfold fG;have hk:=nN;unfold lK;by_cases h1:ty=1;rotate_left
 ·have e:aN ty n s .d=8:=by unfold aN;rw [ah (by simpa [aV] using h1)]
  refine ⟨b, ?_,λh=>by rw [e] at h;cases h⟩;rw [e];refine ay rfl rfl ?_;simp [bg,hk,h1]
 subst h1;by_cases h2:s=[]
 ·have e:aN 1 n s .d=17:=by unfold aN;simp [aV,h2]
  refine ⟨b, ?_,λh=>by rw [e] at h;cases h⟩;rw [e];refine ay rfl rfl ?_;simp [bg,hk,h2]
 have e:aN 1 n s .d=iF n s .d:=by unfold aN;simp [aV,h2]
 rw [e];have hc:=aaz s hs;refine ⟨{ b with d:=(pV s).1 }, ?_,λ_=>rfl⟩;show _=some ([GV.i .i64 0,GV.i .i64 (pV s).2]++_)
 refine ay rfl rfl ?_;simp [bg,hk,h2,hc]
theorem apV (b:aB) (r:List GV) (tag ty n:Int) (s:List UInt8) (L:GV) (hs:s.length<=100000000):fG b r tag ty n s L lZ .t:=by
 unfold fG;have hk:=nN;unfold lZ;by_cases h1:ty=1;rotate_left
 ·have e:aN ty n s .t=8:=by unfold aN;rw [ah (by simpa [aV] using h1)]
  refine ⟨b, ?_,λh=>by rw [e] at h;cases h⟩;rw [e];refine ay rfl rfl ?_;simp [bg,hk,h1]
 subst h1;by_cases h2:s=[]
 ·have e:aN 1 n s .t=17:=by unfold aN;simp [aV,h2]
  refine ⟨b, ?_,λh=>by rw [e] at h;cases h⟩;rw [e];refine ay rfl rfl ?_;simp [bg,hk,h2]
 have e:aN 1 n s .t=iF n s .t:=by unfold aN;simp [aV,h2]
 rw [e];have hc:=arU s hs;refine ⟨{ b with t:=(ql s).1 }, ?_,λ_=>rfl⟩;unfold iF;by_cases h3:(ql s).2=0
 ·rw [aj h3]
  by_cases h4:(ql s).1.length=0
  ·have h5:=jr h4
   rw [aj h4];refine ay rfl rfl ?_;simp [bg,hk,h2,hc,h3,h5]
  ·have h5:(ql s).1≠[]:=λe=>h4 (by rw [e];rfl)
   rw [ah h4];refine ay rfl rfl ?_;simp [bg,hk,h2,hc,h3,h5]
 ·rw [ah h3]
  refine ay rfl rfl ?_;simp [bg,hk,h2,hc,h3]
def bP:aB:={ kind:=0,id:=0,min:=0,max:=0,chosen:=0,flags:=0,cost:=0,priority:=0,deadline:=0,retry:=0,epoch:=0,base:=0,digest:=0,lag:=0,code:=0,want:=0,remaining:=0,allowed:=false,name:=[],region:=[],note:=[],d:=[],t:=[] }
def RS (b:aB) (r:List GV) (ty n:Int) (s:List UInt8) (p:Pl):List GV:=if aN ty n s p=0 then [bU (setB b n s p) r,.i .i64 0] else [bU bP [],.i .i64 (aN ty n s p)]
def MW (b:aB) (r:List GV) (ty n:Int) (s nm:List UInt8):List GV:=match placeOf nm with
 | some p=>RS b r ty n s p
 | none=>[bU bP [],.i .i64 26]
theorem L9 (b:aB) (n:Int) (s:List UInt8) (p:Pl):(setB b n s p).kind=b.kind:=by
 unfold setB;split<;>first | rfl | (split<;>rfl)
theorem apN (b:aB) (r:List GV) (tag ty n:Int) (s:List UInt8) (L:GV) (nm:List UInt8) (e0:¬ nm=lX) (e1:¬ nm=lD) (e2:¬ nm=kR) (e3:¬ nm=kT) (e4:¬ nm=kS) (e5:¬ nm=lK) (e6:¬ nm=lZ) (e7:¬ nm=lS) (e8:¬ nm=lV) (e9:¬ nm=lU) (e10:¬ nm=lG) (e11:¬ nm=lQ) (e12:¬ nm=lI) (e13:¬ nm=lW) (e14:¬ nm=lJ) (e15:¬ nm=lY) (e16:¬ nm=lN) (e17:¬ nm=lF) (e18:¬ nm=lM) (e19:¬ nm=lT) (e20:¬ nm=lH) (e21:¬ nm=l7):TT.lim 116 [.s nm,.i .u64 tag,.i .i64 ty,.i .u64 n,.s s,L,.i .i64 b.kind,.i .u64 b.id,.i .u64 b.min,.i .u64 b.max,.i .u64 b.chosen,.i .u64 b.flags,.i .u64 b.cost,.i .u64 b.priority,.i .u64 b.deadline,.i .u64 b.retry,.i .u64 b.epoch,.i .u64 b.base,.i .u64 b.digest,.i .u64 b.lag,.i .u64 b.code,.i .u64 b.want,.i .i64 b.remaining,.b b.allowed,.s b.name,.s b.region,.s b.note,.l (b.d.map ent),.l (b.t.map row),.l r]=some ([.i .i64 0,.i .i64 26]++bg b):=by
 unfold lX lD kR kT kS lK lZ lS lV lU lG lQ lI lW lJ lY lN lF lM lT lH l7 at *;refine ay rfl rfl ?_;simp [bg,e0,e1,e2,e3,e4,e5,e6,e7,e8,e9,e10,e11,e12,e13,e14,e15,e16,e17,e18,e19,e20,e21]
theorem apw (b:aB) (r:List GV) (tag ty n:Int) (s:List UInt8) (L:GV) (hn:0<=n/\n < 18446744073709551616) (hs:s.length<=100000000) (nm:List UInt8):(∃p,placeOf nm=some p/\fG b r tag ty n s L nm p)\/(placeOf nm=none/\TT.lim 116 [.s nm,.i .u64 tag,.i .i64 ty,.i .u64 n,.s s,L,.i .i64 b.kind,.i .u64 b.id,.i .u64 b.min,.i .u64 b.max,.i .u64 b.chosen,.i .u64 b.flags,.i .u64 b.cost,.i .u64 b.priority,.i .u64 b.deadline,.i .u64 b.retry,.i .u64 b.epoch,.i .u64 b.base,.i .u64 b.digest,.i .u64 b.lag,.i .u64 b.code,.i .u64 b.want,.i .i64 b.remaining,.b b.allowed,.s b.name,.s b.region,.s b.note,.l (b.d.map ent),.l (b.t.map row),.l r]=some ([.i .i64 0,.i .i64 26]++bg b)):=by
 refine JZ (Q:=λnm=>(∃p,placeOf nm=some p/\fG b r tag ty n s L nm p)\/(placeOf nm=none/\TT.lim 116 [.s nm,.i .u64 tag,.i .i64 ty,.i .u64 n,.s s,L,.i .i64 b.kind,.i .u64 b.id,.i .u64 b.min,.i .u64 b.max,.i .u64 b.chosen,.i .u64 b.flags,.i .u64 b.cost,.i .u64 b.priority,.i .u64 b.deadline,.i .u64 b.retry,.i .u64 b.epoch,.i .u64 b.base,.i .u64 b.digest,.i .u64 b.lag,.i .u64 b.code,.i .u64 b.want,.i .i64 b.remaining,.b b.allowed,.s b.name,.s b.region,.s b.note,.l (b.d.map ent),.l (b.t.map row),.l r]=some ([.i .i64 0,.i .i64 26]++bg b))) (.inl ⟨_,DZ,apS b r tag ty n s L hn⟩) (.inl ⟨_,Dz,apx b r tag ty n s L ⟩) (.inl ⟨_,Bj,apM b r tag ty n s L hs⟩) (.inl ⟨_,Bo,apR b r tag ty n s L hs⟩) (.inl ⟨_,Bl,apO b r tag ty n s L hs⟩) (.inl ⟨_,DL,apE b r tag ty n s L hs⟩) (.inl ⟨_,D6,apV b r tag ty n s L hs⟩) (.inl ⟨_,DU,apI b r tag ty n s L ⟩) (.inl ⟨_,DX,apL b r tag ty n s L ⟩) (.inl ⟨_,DW,apK b r tag ty n s L ⟩) (.inl ⟨_,DF,apA b r tag ty n s L ⟩) (.inl ⟨_,DT,apH b r tag ty n s L ⟩) (.inl ⟨_,DJ,apC b r tag ty n s L ⟩) (.inl ⟨_,DY,apQ b r tag ty n s L ⟩) (.inl ⟨_,DK,apD b r tag ty n s L ⟩) (.inl ⟨_,D5,apT b r tag ty n s L ⟩) (.inl ⟨_,DR,apG b r tag ty n s L ⟩) (.inl ⟨_,DC,apz b r tag ty n s L ⟩) (.inl ⟨_,DN,apF b r tag ty n s L ⟩) (.inl ⟨_,DV,apJ b r tag ty n s L ⟩) (.inl ⟨_,DI,apB b r tag ty n s L ⟩) (.inl ⟨_,D7,apW b r tag ty n s L ⟩) (λnm e0 e1 e2 e3 e4 e5 e6 e7 e8 e9 e10 e11 e12 e13 e14 e15 e16 e17 e18 e19 e20 e21=>.inr ⟨LW nm e0 e1 e2 e3 e4 e5 e6 e7 e8 e9 e10 e11 e12 e13 e14 e15 e16 e17 e18 e19 e20 e21,apN b r tag ty n s L nm e0 e1 e2 e3 e4 e5 e6 e7 e8 e9 e10 e11 e12 e13 e14 e15 e16 e17 e18 e19 e20 e21⟩) nm
theorem adn (K:List GV) (b:aB) (fl:List aF) (hd:b.d.length<=40) (ht:oD b.t) (hsz:bI fl<=1000000) (tag ty n:Int) (s:List UInt8) (hn:0<=n/\n < 18446744073709551616) (hs:s.length<=100000000) (nm:List UInt8) :
 TT.lim 112 [bU b (aC fl),.s nm,.g [.i .u64 tag,.i .i64 ty,.i .u64 n,.s s,.l K]]=some (MW b (aC fl) ty n s nm):=by
 have hc:=ada b fl hd ht hsz;have ha:=apw b (aC fl) tag ty n s (.l K) hn hs nm;generalize aC fl=r at *;have hz:GV.g [.i .i64 0,.i .u64 0,.i .u64 0,.i .u64 0,.i .u64 0,.i .u64 0,.i .u64 0,.i .u64 0,.i .u64 0,.i .u64 0,.i .u64 0,.i .u64 0,.i .u64 0,.i .u64 0,.i .u64 0,.i .u64 0,.i .i64 0,.b false,.s [],.s [],.s [],.l [],.l [],.l []]=bU bP []:=rfl;unfold MW;rcases ha with ⟨p,hp,b',h1,h2⟩ | ⟨hp,h1⟩
 ·rw [hp]
  simp only;unfold RS;have hk:=L9 b n s p;generalize aN ty n s p=e at *;by_cases he:e=0
  ·have h3:=h2 he
   rw [aj he];rw [he,h3] at h1;have hm:bU (setB b n s p) r=GV.g ([.i .i64 b.kind]++bg (setB b n s p)++[.l r]):=by rw [<- hk];rfl
   rw [hm];generalize setB b n s p=B at *;unfold bg at h1 ⊢;refine aW rfl rfl ?_ rfl;simp [jk,hc];simp [h1]
  ·rw [ah he]
   unfold bg at h1;rw [<- hz];refine aW rfl rfl ?_ rfl;simp [jk,hc];simp [h1,he]
 ·rw [hp]
  simp only;unfold bg at h1;rw [<- hz];refine aW rfl rfl ?_ rfl;simp [jk,hc];simp [h1]
theorem ami (b:aB) (fl:List aF) (hd:b.d.length<=40) (ht:oD b.t) (hsz:bI fl<=1000000) (tag ty n:Int) (s:List UInt8) (hn:0<=n/\n < 18446744073709551616) (hs:s.length<=100000000) (nm:List UInt8) :
 TT.lim 112 [bU b (aC fl),.s nm,.g [.i .u64 tag,.i .i64 ty,.i .u64 n,.s s,.l []]]=some (MW b (aC fl) ty n s nm):=adn [] b fl hd ht hsz tag ty n s hn hs nm
end K
end Go.Proofs.YtcpfjpcdcafjmaaGreatDoor
