/- What the trees compute: plain laws. -/
import Derived.Test.YthgifdbaegpbpaaGreatDoorKVe1
namespace Go.Proofs.YthgifdbaegpbpaaGreatDoor
open Go Go.aK
set_option linter.unusedSimpArgs false
set_option linter.unusedVariables false
set_option maxRecDepth 100000
namespace V
def common:List UInt8->List UInt8->Nat
 | a::x,b::y=>if a=b then common x y+1 else 0
 | _,_=>0
theorem Me (b:List UInt8):common [] b=0:=by unfold common;rfl
theorem aeO (a:List UInt8):common a []=0:=by cases a<;>rfl
theorem Yu:∀a b:List UInt8,common a b<=a.length/\common a b<=b.length
 | [],b=>by simp [common]
 | _::_,[]=>by simp [common]
 | a::x,b::y=>by
  unfold common;have:=Yu x y;split
  ·simp only [pJ];omega
  ·omega
theorem Yr (a b:List UInt8) (ha:a.length<=140737488351232) (hb:b.length<=140737488351232):∀m i:Nat,i+m=a.length->TT.lim 52 [.s a,.s b,.i .i64 i]=some [.i .i64 0,.i .i64 ((i+common (a.drop i) (b.drop i):Nat):Int)]
 | 0,i,hi=>by
  have h0:a.drop i=[]:=dQ (by omega);have h:¬ ((i:Int) < a.length):=by omega
  refine ay rfl rfl ?_;simp [h,h0,Me]
 | m+1,i,hi=>by
  have hlt:i < a.length:=by omega
  have h:((i:Int) < a.length):=by omega
  by_cases hlb:i < b.length;rotate_left
  ·have h0:b.drop i=[]:=dQ (by omega)
   have h1:¬ ((i:Int) < b.length):=by omega
   refine ay rfl rfl ?_;simp [h,h0,h1,aeO]
  have hb1:((i:Int) < b.length):=by omega
  have ih:TT.lim 52 [.s a,.s b,.i .i64 ((i:Int)+1)]=_:=Yr a b ha hb m (i+1) (by omega);have hw:=wrap64 (n:=(i:Int)+1) (by omega) (by omega);rw [eH hlt,eH hlb];unfold common;by_cases e:a[i]=b[i]
  ·rw [ak e]
   have e':((a[i].toNat:Int)=(b[i].toNat:Int))=True:=eq_true (by rw [e]);have e2:((i+(common (a.drop (i+1)) (b.drop (i+1))+1):Nat):Int)=((i+1+common (a.drop (i+1)) (b.drop (i+1)):Nat):Int):=by omega
   rw [e2];refine ay rfl rfl ?_;simp [h,hlt,hlb,hb1,e',hw,ih]
  ·rw [ah e]
   have e':¬ (a[i].toNat:Int)=(b[i].toNat:Int):=λh=>e (KY.1 (by omega));refine ay rfl rfl ?_;simp [h,hlt,hlb,hb1,e']
theorem Yt (a b:List UInt8) (ha:a.length<=140737488351232) (hb:b.length<=140737488351232):TT.lim 51 [.s a,.s b]=some [.i .i64 (common a b)]:=by
 have k:TT.lim 52 [.s a,.s b,.i .i64 0]=_:=Yr a b ha hb a.length 0 (by omega);rw [dF,dF,iZ] at k;refine aG rfl rfl ?_ rfl;simp [k]
theorem abZ (a b:List UInt8) (ha:a.length<=140737488351232) (hb:b.length<=140737488351232):∀m i:Nat,i+m=a.length->
 TT.lim 137 [.s a,.s b,.i .i64 i]=some (if common (a.drop i) (b.drop i) < a.length - i/\common (a.drop i) (b.drop i) < b.length - i then [.i .i64 0,.i .i64 ((i+common (a.drop i) (b.drop i):Nat):Int)] else [.i .i64 1])
 | 0,i,hi=>by
  have h0:a.drop i=[]:=dQ (by omega);have h:¬ ((i:Int) < a.length):=by omega
  have h2:¬ (common ([]:List UInt8) (b.drop i) < a.length - i/\common [] (b.drop i) < b.length - i):=by omega
  rw [h0,ah h2];refine ay rfl rfl ?_;simp [h]
 | m+1,i,hi=>by
  have hlt:i < a.length:=by omega
  have h:((i:Int) < a.length):=by omega
  by_cases hlb:i < b.length;rotate_left
  ·have h1:¬ ((i:Int) < b.length):=by omega
   rw [ah (by omega)];refine ay rfl rfl ?_;simp [h,h1]
  have hb1:((i:Int) < b.length):=by omega
  have ih:TT.lim 137 [.s a,.s b,.i .i64 ((i:Int)+1)]=_:=abZ a b ha hb m (i+1) (by omega);have hw:=wrap64 (n:=(i:Int)+1) (by omega) (by omega);have hc:common (a.drop i) (b.drop i)=if a[i]=b[i] then common (a.drop (i+1)) (b.drop (i+1))+1 else 0:=by
   rw [eH hlt,eH hlb];rfl
  rw [hc];by_cases e:a[i]=b[i]
  ·rw [ak e]
   have e':((a[i].toNat:Int)=(b[i].toNat:Int))=True:=eq_true (by rw [e]);have e2:((i+(common (a.drop (i+1)) (b.drop (i+1))+1):Nat):Int)=((i+1+common (a.drop (i+1)) (b.drop (i+1)):Nat):Int):=by omega
   have e3:(common (a.drop (i+1)) (b.drop (i+1))+1 < a.length - i/\common (a.drop (i+1)) (b.drop (i+1))+1 < b.length - i)=(common (a.drop (i+1)) (b.drop (i+1)) < a.length - (i+1)/\common (a.drop (i+1)) (b.drop (i+1)) < b.length - (i+1)):=by
    apply propext;omega
   rw [e2];simp only [e3];refine ay rfl rfl ?_;simp [-Int.natCast_add,h,hlt,hlb,hb1,e',hw,ih]
  ·rw [ah e]
   have e':¬ (a[i].toNat:Int)=(b[i].toNat:Int):=λh=>e (KY.1 (by omega));rw [ak (by omega)];refine ay rfl rfl ?_;simp [h,hlt,hlb,hb1,e']
theorem alM (a b:List UInt8) (ha:a.length<=140737488351232) (hb:b.length<=140737488351232):TT.lim 136 [.s a,.s b]=some [.i .i64 (common a b)]:=by
 have k:TT.lim 137 [.s a,.s b,.i .i64 0]=_:=abZ a b ha hb a.length 0 (by omega);rw [dF,dF,iZ,xX,xX] at k;have hl:=Yu a b;refine aG rfl rfl ?_ rfl;by_cases hc:common a b < a.length/\common a b < b.length
 ·rw [ak hc] at k
  simp [k]
 ·rw [ah hc] at k
  by_cases h2:(b.length:Int) < a.length
  ·have:(common a b:Int)=b.length:=by omega
   simp [k,h2,this]
  ·have:(common a b:Int)=a.length:=by omega
   simp [k,h2,this]
/-- A text behind another one, as it is written. -/
def Om (a s:List UInt8):List UInt8:=fH (common a s)++fH (s.length - common a s)++s.drop (common a s)
def iq:List UInt8->Nat
 | []=>0
 | b::r=>b.toNat % 128+128 * iq r
def jo:Nat->List UInt8->Option Nat
 | 0,_=>none
 | _+1,[]=>none
 | n+1,b::r=>if b.toNat < 128 then some 1 else (jo n r).map (· + 1)
def pG (k:Nat) (b:Nat):Int:=if k=10/\1 < b then 3 else if 1 < k/\b=0 then 2 else 0
/-- The number that a text begins with, in how many bytes, or why there is none. -/
def aj (s:List UInt8):Nat×Nat×Int:=match jo 10 s with
 | none=>(0,0,if 10<=s.length then 3 else 1)
 | some k=>if pG k (s.getD (k - 1) 0).toNat≠0 then (0,0,pG k (s.getD (k - 1) 0).toNat) else (iq (s.take k),k,0)
theorem Kw:∀ {n:Nat} {s:List UInt8} {k:Nat},jo n s=some k->1<=k/\k<=n/\k<=s.length/\(s.getD (k - 1) 0).toNat < 128
 | 0,s,k,h=>by simp [jo] at h
 | n+1,[],k,h=>by simp [jo] at h
 | n+1,b::r,k,h=>by
  unfold jo at h;split at h
  ·next hb=>cases h;simpa using hb
  ·obtain ⟨j,hj,rfl⟩:=aX.1 h
   obtain ⟨h1,h2,h3,h4⟩:=Kw hj;obtain ⟨i,rfl⟩:∃i,j=i+1:=⟨j - 1,by omega⟩
   refine ⟨by omega,by omega,by simp;omega, ?_⟩;simpa using h4
theorem Wl:∀ (s:List UInt8),iq s < 128 ^ s.length
 | []=>by simp [iq]
 | b::r=>by
  have:=Wl r;simp only [iq,pJ,BA];omega
theorem acL (b i:Nat) (hb:b < 128) (hi:i<=9) (h9:i=9->b<=1):pY .shl .u64 (b:Int) ((7 * i:Nat):Int)=some (.i .u64 ((b * 128 ^ i:Nat):Int)):=by
 have e:min ((7 * i:Nat):Int).toNat 64=7 * i:=by simp;omega
 have e2:(2:Int) ^ (7 * i)=((128 ^ i:Nat):Int):=by rw [Int.pow_mul];simp
 have hlt:b * 128 ^ i < 18446744073709551616:=by
  rcases vH i 9 with h | h
  ·have:(128:Nat) ^ i<=128 ^ 8:=Fa (by omega) (by omega)
   have h2:b * 128 ^ i<=127 * 128 ^ 8:=Nat.mul_le_mul (by omega) this;omega
  ·have hi9:i=9:=by omega
   subst hi9;have:=h9 rfl;omega
 unfold pY;rw [ah (by omega)];show some (GV.i .u64 (IntKind.u64.wrap ((b:Int) * 2 ^ (min ((7 * i:Nat):Int).toNat 64))))=_
 rw [e,e2,<- Int.natCast_mul,dX (by omega) (by omega)]
theorem orI (a c i:Nat) (ha:a < 2 ^ i) (h:a+c * 2 ^ i < 18446744073709551616):gI .or .u64 (a:Int) ((c * 2 ^ i:Nat):Int)=some (.i .u64 ((a+c * 2 ^ i:Nat):Int)):=by
 have h1:((BitVec.ofInt 64 (a:Int) ||| BitVec.ofInt 64 ((c * 2 ^ i:Nat):Int)).toNat:Nat)=a+c * 2 ^ i:=by
  rw [BitVec.toNat_or,Dc,Dc];generalize hC:c * 2 ^ i=C at *;have e1:((a:Int) % ((2 ^ 64:Nat):Int)).toNat=a:=by omega
  have e2:((C:Int) % ((2 ^ 64:Nat):Int)).toNat=C:=by omega
  rw [e1,e2,<- hC,Nat.or_comm,Bz,Il];exact (Nat.two_pow_add_eq_or_of_lt ha c).symm
 show some (GV.i .u64 (IntKind.u64.wrap (((BitVec.ofInt 64 (a:Int) ||| BitVec.ofInt 64 ((c * 2 ^ i:Nat):Int)).toNat:Nat):Int)))=_
 rw [h1,dX (by omega) (by omega)]
theorem GX (i:Nat):128 ^ i=2 ^ (7 * i):=by rw [Nat.pow_mul]
/-- Some number, whichever. -/
theorem acM (a b:Int) (hb:0<=b):∃r,pY .shl .u64 a b=some (.i .u64 r):=by
 unfold pY;rw [ah (by omega)];exact ⟨_,rfl⟩
theorem or_some (a b:Int):∃r,gI .or .u64 a b=some (.i .u64 r):=⟨_,rfl⟩
def Aj (s:List UInt8) (acc:Int) (i:Nat):List GV:=match jo (10 - i) (s.drop i) with
 | none=>[.i .i64 1,.s s]
 | some k=>if pG (i+k) (s.getD (i+k - 1) 0).toNat≠0 then [.i .i64 0,.i .u64 0,.i .i64 0,.i .i64 (pG (i+k) (s.getD (i+k - 1) 0).toNat)]
  else [.i .i64 0,.i .u64 (acc+((128 ^ i * iq ((s.drop i).take k):Nat):Int)),.i .i64 ((i+k:Nat):Int),.i .i64 0]
theorem getLoop (s:List UInt8) (hs:s.length<=140737488351232):∀ (m i:Nat) (acc:Int),i+m=min s.length 10->(i<=9->0<=acc/\acc < ((128 ^ i:Nat):Int))->
 TT.lim 4 [.s s,.i .u64 acc,.i .i64 ((min s.length 10:Nat):Int),.i .i64 i]=some (Aj s acc i)
 | 0,i,acc,hi,ha=>by
  have h:¬ ((i:Int) < ((min s.length 10:Nat):Int)):=by omega
  have hv:jo (10 - i) (s.drop i)=none:=by
   rcases vH i 10 with h1 | h1
   ·have:s.drop i=[]:=dQ (by omega)
    rw [this];obtain ⟨j,hj⟩:∃j,10 - i=j+1:=⟨10 - i - 1,by omega⟩
    rw [hj];rfl
   ·have:10 - i=0:=by omega
    rw [this];unfold jo;rfl
  unfold Aj;rw [hv];generalize ((min s.length 10:Nat):Int)=M at *;refine ay rfl rfl ?_;simp [h]
 | m+1,i,acc,hi,ha=>by
  have hlt:i < s.length:=by omega
  have h9:i<=9:=by omega
  have h:((i:Int) < ((min s.length 10:Nat):Int)):=by omega
  obtain ⟨a1,a2⟩:=ha h9;obtain ⟨n,rfl⟩:∃n:Nat,acc=n:=⟨acc.toNat,by omega⟩
  have hb:=(s[i]).toNat_lt;have k7:=Xz (s[i]).toNat (by omega);have w8:=dX (n:=(((s[i]).toNat % 128:Nat):Int)) (by omega) (by omega);have wi:=wrap64 (n:=7 * (i:Int)) (by omega) (by omega);have wj:=wrap64 (n:=(i:Int)+1) (by omega) (by omega);have hd:s.drop i=s[i]::s.drop (i+1):=eH hlt;obtain ⟨j,hj⟩:∃j,10 - i=j+1:=⟨10 - i - 1,by omega⟩
  have hj':10 - (i+1)=j:=by omega
  have e7:(7 * (i:Int))=((7 * i:Nat):Int):=by omega
  have hgd:s.getD i 0=s[i]:=by simp [List.getD,hlt]
  by_cases hc:128<=(s[i]).toNat
  ·-- another one follows
   have hc':((128:Int)<=((s[i]).toNat:Int)):=by omega
   have step:∃V:Int,(i+1<=9->0<=V/\V < ((128 ^ (i+1):Nat):Int)/\V=n+(((s[i]).toNat % 128 * 128 ^ i:Nat):Int))/\(∃S,pY .shl .u64 ((((s[i]).toNat % 128:Nat)):Int) (7 * (i:Int))=some (.i .u64 S)/\gI .or .u64 (n:Int) S=some (.i .u64 V)):=by
    rcases vH i 9 with h1 | h1
    ·have k1:=acL ((s[i]).toNat % 128) i (by omega) (by omega) (by omega)
     have hp:(s[i]).toNat % 128 * 128 ^ i<=127 * 128 ^ i:=sJ _ (by omega);have hpp:128 ^ (i+1)=128 * 128 ^ i:=by rw [BA,Bz]
     have hq:(128:Nat) ^ i<=128 ^ 8:=Fa (by omega) (by omega);have k2:=orI n ((s[i]).toNat % 128) (7 * i) (by rw [<- GX];omega) (by rw [<- GX];omega);rw [<- GX] at k2;refine ⟨_,λ_=>⟨by omega, ?_,rfl⟩,_,by rw [e7];exact k1,by rw [k2];simp⟩;rw [hpp];omega
    ·obtain ⟨S,hS⟩:=acM ((((s[i]).toNat % 128:Nat)):Int) (7 * (i:Int)) (by omega)
     obtain ⟨V,hV⟩:=or_some (n:Int) S;exact ⟨V,λh=>by omega,S,hS,hV⟩
   obtain ⟨V,hV,S,hS,hO⟩:=step;have ih:TT.lim 4 [.s s,.i .u64 V,.i .i64 ((min s.length 10:Nat):Int),.i .i64 ((i:Int)+1)]=_:=getLoop s hs m (i+1) V (by omega) (λh=>⟨(hV h).1,(hV h).2.1⟩);have hout:Aj s n i=Aj s V (i+1):=by
    unfold Aj;rw [hd,hj,hj'];have hv:jo (j+1) (s[i]::s.drop (i+1))=(jo j (s.drop (i+1))).map (· + 1):=by
     show (if (s[i]).toNat < 128 then _ else _)=_
     rw [ah (by omega)]
    rw [hv];cases hx:jo j (s.drop (i+1)) with
    | none=>rfl
    | some k=>
     obtain ⟨q1,q2,_,_⟩:=Kw hx;have hV':=hV (by omega);have e1:i+(k+1)=i+1+k:=by omega
     simp only [gy,e1];split
     ·rfl
     ·have e2:(n:Int)+((128 ^ i * iq ((s[i]::s.drop (i+1)).take (k+1)):Nat):Int)=V+((128 ^ (i+1) * iq ((s.drop (i+1)).take k):Nat):Int):=by
       rw [hV'.2.2,zL];have:128 ^ i * iq (s[i]::(s.drop (i+1)).take k)=(s[i]).toNat % 128 * 128 ^ i+128 ^ (i+1) * iq ((s.drop (i+1)).take k):=by
        show 128 ^ i * ((s[i]).toNat % 128+128 * iq _)=_
        rw [Qe,BA,Qg,Bz (128 ^ i) ((s[i]).toNat % 128)]
       rw [this];omega
      rw [e2]
   rw [hout];generalize Aj s V (i+1)=O at *;generalize ((min s.length 10:Nat):Int)=M at *;have em:(((s[i]).toNat % 128:Nat):Int)=((s[i]).toNat:Int) % 128:=by omega
   rw [em] at k7 w8 hS;refine ay rfl rfl ?_;simp [h,hlt,hc',k7,w8,wi,wj,hS,hO,ih]
  ·-- the last one
   have hc':¬ ((128:Int)<=((s[i]).toNat:Int)):=by omega
   have hv:jo (j+1) (s[i]::s.drop (i+1))=some 1:=by
    show (if (s[i]).toNat < 128 then _ else _)=_
    rw [ak (by omega)]
   have hout:Aj s n i=if pG (i+1) (s[i]).toNat≠0 then [.i .i64 0,.i .u64 0,.i .i64 0,.i .i64 (pG (i+1) (s[i]).toNat)] else [.i .i64 0,.i .u64 ((n+(s[i]).toNat * 128 ^ i:Nat):Int),.i .i64 ((i:Int)+1),.i .i64 0]:=by
    unfold Aj;rw [hd,hj,hv];have e1:i+1 - 1=i:=by omega
    have e2:128 ^ i * iq ((s[i]::s.drop (i+1)).take 1)=(s[i]).toNat * 128 ^ i:=by
     simp only [zL,Xi,iq];rw [KP (by omega),Bz];simp
    simp only [e1,hgd,e2];congr 1
   rw [hout];have step:∃S V,pY .shl .u64 ((((s[i]).toNat % 128:Nat)):Int) (7 * (i:Int))=some (.i .u64 S)/\gI .or .u64 (n:Int) S=some (.i .u64 V)/\(pG (i+1) (s[i]).toNat=0->V=((n+(s[i]).toNat * 128 ^ i:Nat):Int)):=by
    by_cases hbad:i=9/\1 < (s[i]).toNat
    ·obtain ⟨S,hS⟩:=acM ((((s[i]).toNat % 128:Nat)):Int) (7 * (i:Int)) (by omega)
     obtain ⟨V,hV⟩:=or_some (n:Int) S;refine ⟨S,V,hS,hV,λh=>?_⟩;unfold pG at h;rw [ak (by omega)] at h;cases h
    ·have k1:=acL ((s[i]).toNat % 128) i (by omega) (by omega) (by omega)
     have em:(s[i]).toNat % 128=(s[i]).toNat:=KP (by omega);rw [em] at k1;have hp:(s[i]).toNat * 128 ^ i<=127 * 128 ^ i:=sJ _ (by omega);have hb64:n+(s[i]).toNat * 128 ^ i < 18446744073709551616:=by
      rcases vH i 9 with h1 | h1
      ·have hq:(128:Nat) ^ i<=128 ^ 8:=Fa (by omega) (by omega)
       omega
      ·have hi9:i=9:=by omega
       have h1:(s[i]).toNat<=1:=by omega
       have hq:(128:Nat) ^ i=128 ^ 9:=by rw [hi9]
       have hp2:(s[i]).toNat * 128 ^ i<=1 * 128 ^ i:=sJ _ h1;omega
     have k2:=orI n (s[i]).toNat (7 * i) (by rw [<- GX];omega) (by rw [<- GX];omega);rw [<- GX] at k2;exact ⟨_,_,by rw [e7,em];exact k1,k2,λ_=>rfl⟩
   obtain ⟨S,V,hS,hO,hV⟩:=step;generalize ((n+(s[i]).toNat * 128 ^ i:Nat):Int)=R at *;generalize ((min s.length 10:Nat):Int)=M at *;have bd:pG (i+1) (s[i]).toNat=if (i:Int)=9/\(1:Int) < ((s[i]).toNat:Int) then 3 else if (0:Int) < (i:Int)/\((s[i]).toNat:Int)=0 then 2 else 0:=by
    unfold pG;congr 1
    ·apply propext;omega
    ·congr 1
     apply propext;omega
   rw [bd] at hV ⊢;have em:(((s[i]).toNat % 128:Nat):Int)=((s[i]).toNat:Int) % 128:=by omega
   rw [em] at k7 w8 hS;refine ay rfl rfl ?_
   rcases (Df ((i:Int)=9)).imp eq_true eq_false with q1 | q1<;>rcases (Df ((1:Int) < ((s[i]).toNat:Int))).imp eq_true eq_false with q2 | q2<;>
    rcases (Df ((0:Int) < (i:Int))).imp eq_true eq_false with q3 | q3<;>rcases (Df (((s[i]).toNat:Int)=0)).imp eq_true eq_false with q4 | q4
   all_goals
    have JQ:(0 < i)=((0:Int) < (i:Int)):=propext (by omega);have JR:((s[i]).toNat=0)=(((s[i]).toNat:Int)=0):=propext (by omega);rw [q3] at JQ;rw [q4] at JR;simp only [q1,q2,q3,q4,and_self,and_true,and_false,false_and,true_and,if_true,if_false] at hV ⊢;first
    | (have hV:=hV trivial;subst hV)
    | skip
    simp [h,hlt,hc',k7,w8,wi,wj,hS,hO,q1,q2,q3,q4,JQ,JR]
theorem tC (s:List UInt8) (hs:s.length<=140737488351232):TT.lim 3 [.s s]=some [.i .u64 ((aj s).1:Nat),.i .i64 ((aj s).2.1:Nat),.i .i64 (aj s).2.2]:=by
 have k:TT.lim 4 [.s s,.i .u64 0,.i .i64 ((min s.length 10:Nat):Int),.i .i64 0]=_:=getLoop s hs (min s.length 10) 0 0 (by omega) (by simp);have hm:(if (10:Int) < (s.length:Int) then (10:Int) else (s.length:Int))=((min s.length 10:Nat):Int):=by split<;>omega
 unfold Aj at k;rw [dF,xX] at k;unfold aj;generalize ((min s.length 10:Nat):Int)=M at *;refine aG rfl rfl ?_ rfl;cases hv:jo 10 s with
 | none=>
  rw [hv] at k;by_cases h10:10<=s.length
  ·have h1:(10:Int)<=s.length:=by omega
   simp [hm,k,h10,h1]
  ·have h1:¬ (10:Int)<=s.length:=by omega
   simp [hm,k,h10,h1]
 | some j=>
  rw [hv] at k;simp only [iZ,Nat.pow_zero,Dj,KG] at k;by_cases hb:pG j (s.getD (j - 1) 0).toNat=0
  ·simp only [hb,ne_eq,not_true_eq_false,if_false] at k ⊢
   simp [hm,k]
  ·simp only [hb,ne_eq,not_false_eq_true,if_true] at k ⊢
   simp [hm,k]
theorem al4 (s:List UInt8) (k i:Int) (h:¬ k=0) (h0:0<=i):TT.lim 101 [.s s,.i .i64 k,.i .i64 i]=some [.i .i64 0,.s s,.i .i64 k]:=by
 refine ay rfl rfl ?_;by_cases h1:i < s.length<;>by_cases h2:i < 10<;>simp [h,h1,h2]
theorem acf (s:List UInt8) (hs:s.length<=140737488351232):∀m i:Nat,i+m=min s.length 10->
 TT.lim 101 [.s s,.i .i64 0,.i .i64 i]=some [.i .i64 0,.s s,.i .i64 ((match jo (10 - i) (s.drop i) with | none=>0 | some k=>i+k:Nat):Int)]
 | 0,i,hi=>by
  have hv:jo (10 - i) (s.drop i)=none:=by
   rcases vH i 10 with h1 | h1
   ·have:s.drop i=[]:=dQ (by omega)
    rw [this];obtain ⟨j,hj⟩:∃j,10 - i=j+1:=⟨10 - i - 1,by omega⟩
    rw [hj];rfl
   ·have:10 - i=0:=by omega
    rw [this];unfold jo;rfl
  rw [hv];refine ay rfl rfl ?_;by_cases h1:(i:Int) < s.length
  ·have h2:¬ (i:Int) < 10:=by omega
   simp [h1,h2]
  ·simp [h1]
 | m+1,i,hi=>by
  have hlt:i < s.length:=by omega
  have h1:(i:Int) < s.length:=by omega
  have h2:(i:Int) < 10:=by omega
  have wj:=wrap64 (n:=(i:Int)+1) (by omega) (by omega);have hd:s.drop i=s[i]::s.drop (i+1):=eH hlt;obtain ⟨j,hj⟩:∃j,10 - i=j+1:=⟨10 - i - 1,by omega⟩
  have hj':10 - (i+1)=j:=by omega
  rw [hd,hj];by_cases hc:(s[i]).toNat < 128
  ·have hc':((s[i]).toNat:Int) < 128:=by omega
   have hv:jo (j+1) (s[i]::s.drop (i+1))=some 1:=by
    show (if (s[i]).toNat < 128 then _ else _)=_
    rw [ak hc]
   rw [hv];have k:=al4 s ((i:Int)+1) ((i:Int)+1) (by omega) (by omega);refine ay rfl rfl ?_;simp [h1,h2,hlt,hc',wj,k]
  ·have hc':¬ ((s[i]).toNat:Int) < 128:=by omega
   have hv:jo (j+1) (s[i]::s.drop (i+1))=(jo j (s.drop (i+1))).map (· + 1):=by
    show (if (s[i]).toNat < 128 then _ else _)=_
    rw [ah hc]
   rw [hv];have ih:TT.lim 101 [.s s,.i .i64 0,.i .i64 ((i:Int)+1)]=_:=acf s hs m (i+1) (by omega);rw [hj'] at ih;have he:(match (jo j (s.drop (i+1))).map (· + 1) with | none=>0 | some k=>i+k:Nat)=(match jo j (s.drop (i+1)) with | none=>0 | some k=>i+1+k:Nat):=by
    cases jo j (s.drop (i+1)) with
    | none=>rfl
    | some k=>simp;omega
   rw [he];generalize (match jo j (s.drop (i+1)) with | none=>0 | some k=>i+1+k:Nat)=R at *;refine ay rfl rfl ?_;simp [h1,h2,hlt,hc',wj,ih]
theorem acg (s:List UInt8) (K:Nat) (hK:K<=10) (hs:K<=s.length):∀ (m i acc:Nat) (p:Int),i+m=K->(i<=9->p=((128 ^ i:Nat):Int))->acc+128 ^ i * iq ((s.drop i).take m) < 18446744073709551616->
 TT.lim 102 [.s s,.i .i64 K,.i .u64 acc,.i .u64 p,.i .i64 i]=some [.i .i64 0,.i .i64 K,.i .u64 ((acc+128 ^ i * iq ((s.drop i).take m):Nat):Int)]
 | 0,i,acc,p,hi,hp,hb=>by
  have h:¬ ((i:Int) < (K:Int)):=by omega
  refine ay rfl rfl ?_;simp [h,iq]
 | m+1,i,acc,p,hi,hp,hb=>by
  have hlt:i < s.length:=by omega
  have h:((i:Int) < (K:Int)):=by omega
  have hp:=hp (by omega);subst hp;have hd:s.drop i=s[i]::s.drop (i+1):=eH hlt;have e:128 ^ i * iq ((s.drop i).take (m+1))=(s[i]).toNat % 128 * 128 ^ i+128 ^ (i+1) * iq ((s.drop (i+1)).take m):=by
   rw [hd,zL];show 128 ^ i * ((s[i]).toNat % 128+128 * iq _)=_
   rw [Qe,BA,Qg,Bz (128 ^ i) ((s[i]).toNat % 128)]
  rw [e] at hb ⊢;have hb8:=(s[i]).toNat_lt;have wj:=wrap64 (n:=(i:Int)+1) (by omega) (by omega)
  have ih:TT.lim 102 [.s s,.i .i64 K,.i .u64 ((acc+(s[i]).toNat % 128 * 128 ^ i:Nat):Int),.i .u64 (IntKind.u64.wrap (((128 ^ i:Nat):Int) * 128)),.i .i64 ((i:Int)+1)]=_:=
   acg s K hK hs m (i+1) (acc+(s[i]).toNat % 128 * 128 ^ i) _ (by omega) (λh9=>by
    have hq:(128:Nat) ^ i<=128 ^ 8:=Fa (by omega) (by omega);have h0:(0:Int)<=((128 ^ i:Nat):Int):=Int.natCast_nonneg _;have:=dX (n:=((128 ^ i:Nat):Int) * 128) (by omega) (by omega);rw [this,BA];simp) (by omega)
  have em:((s[i]).toNat:Int).tmod 128=(((s[i]).toNat % 128:Nat):Int):=by rw [P5 (by omega)];omega
  have w8:=dX (n:=(((s[i]).toNat % 128:Nat):Int)) (by omega) (by omega);have hml:(s[i]).toNat % 128 * 128 ^ i < 18446744073709551616:=by omega
  have wm:IntKind.u64.wrap ((((s[i]).toNat % 128:Nat):Int) * ((128 ^ i:Nat):Int))=(((s[i]).toNat % 128 * 128 ^ i:Nat):Int):=by
   rw [<- Int.natCast_mul,dX (by omega) (by omega)]
  have wa:IntKind.u64.wrap ((acc:Int)+(((s[i]).toNat % 128 * 128 ^ i:Nat):Int))=((acc+(s[i]).toNat % 128 * 128 ^ i:Nat):Int):=by
   rw [<- Int.natCast_add,dX (by omega) (by omega)]
  rw [iY] at ih;generalize acc+((s[i]).toNat % 128 * 128 ^ i+128 ^ (i+1) * iq ((s.drop (i+1)).take m))=TOT at *;generalize ((acc+(s[i]).toNat % 128 * 128 ^ i:Nat):Int)=A at *;generalize (((s[i]).toNat % 128 * 128 ^ i:Nat):Int)=B at *;generalize (((s[i]).toNat % 128:Nat):Int)=C at *;generalize ((128 ^ i:Nat):Int)=Q at *;refine ay rfl rfl ?_;simp [h,hlt,em,w8,wm,wa,wj,ih]
theorem AU (s:List UInt8) (hs:s.length<=140737488351232):TT.lim 100 [.s s]=some [.i .u64 ((aj s).1:Nat),.i .i64 ((aj s).2.1:Nat),.i .i64 (aj s).2.2]:=by
 have k:TT.lim 101 [.s s,.i .i64 0,.i .i64 0]=_:=acf s hs (min s.length 10) 0 (by omega);rw [dF,xX] at k;unfold aj;refine aG rfl rfl ?_ rfl;cases hv:jo 10 s with
 | none=>
  rw [hv] at k;have k:TT.lim 101 [.s s,.i .i64 0,.i .i64 0]=some [.i .i64 0,.s s,.i .i64 0]:=k;by_cases h10:10<=s.length
  ·have h1:(10:Int)<=s.length:=by omega
   simp [k,h10,h1]
  ·have h1:¬ (10:Int)<=s.length:=by omega
   simp [k,h10,h1]
 | some K=>
  rw [hv] at k;obtain ⟨v1,v2,v3,v4⟩:=Kw hv;simp only [iZ] at k;have hgd:s.getD (K - 1) 0=s[K - 1]'(by omega):=by simp [List.getD,show K - 1 < s.length by omega]
  rw [hgd] at v4;simp only [hgd];have hget:s[K - 1]? = some (s[K - 1]'(by omega)):=dA (by omega);have hK0:¬ ((K:Int)=0):=by omega
  have hK1:¬ (K=0):=by omega
  have hK2:(1:Int)<=(K:Int):=by omega
  have hK3:1<=K:=by omega
  have wk:=wrap64 (n:=(K:Int) - 1) (by omega) (by omega);have hkn:((K:Int) - 1).toNat=K - 1:=by omega
  have hk0:(0:Int)<=(K:Int) - 1:=by omega
  have hval:pG K (s[K - 1]'(by omega)).toNat=0->TT.lim 102 [.s s,.i .i64 K,.i .u64 0,.i .u64 1,.i .i64 0]=some [.i .i64 0,.i .i64 K,.i .u64 ((iq (s.take K):Nat):Int)]:=by
   intro hbad;have hlt:iq (s.take K) < 18446744073709551616:=by
    have h1:iq (s.take K)=iq (s.take (K - 1))+128 ^ (K - 1) * ((s[K - 1]'(by omega)).toNat % 128):=by
     have:∀ (a:List UInt8) (b:UInt8),iq (a++[b])=iq a+128 ^ a.length * (b.toNat % 128):=by
      intro a b;induction a with
      | nil=>simp [iq]
      | cons c a ih=>
       simp only [jv,iq,ih,pJ,BA,Qe,iY];rw [Bz (128 ^ a.length) 128,Qg]
     have e:s.take K=s.take (K - 1)++[s[K - 1]'(by omega)]:=by
      obtain ⟨j,rfl⟩:∃j,K=j+1:=⟨K - 1,by omega⟩
      simp
     rw [e,this,jR,Di (by omega)]
    have h2:=Wl (s.take (K - 1));rw [jR,Di (by omega)] at h2;rw [h1];rcases vH K 10 with h3 | h3
    ·have hq:(128:Nat) ^ (K - 1)<=128 ^ 8:=Fa (by omega) (by omega)
     have hq2:128 ^ (K - 1) * ((s[K - 1]'(by omega)).toNat % 128)<=128 ^ (K - 1) * 127:=Qh _ (by omega);omega
    ·have hK10:K=10:=by omega
     have hb1:(s[K - 1]'(by omega)).toNat<=1:=by
      unfold pG at hbad;split at hbad
      ·cases hbad
      ·next h=>omega
     have hq:(128:Nat) ^ (K - 1)=128 ^ 9:=by rw [hK10]
     have hq2:128 ^ (K - 1) * ((s[K - 1]'(by omega)).toNat % 128)<=128 ^ (K - 1) * 1:=Qh _ (by omega);omega
   have:=acg s K v2 v3 K 0 0 1 (by omega) (λ_=>rfl) (by simpa using hlt);simpa using this
  have bd:pG K (s[K - 1]'(by omega)).toNat=if (K:Int)=10/\(1:Int) < ((s[K - 1]'(by omega)).toNat:Int) then 3 else if (1:Int) < (K:Int)/\((s[K - 1]'(by omega)).toNat:Int)=0 then 2 else 0:=by
   unfold pG;congr 1
   ·apply propext;omega
   ·congr 1
    apply propext;omega
  have h9:(K:Int)=10->s[9]? = some (s[K - 1]'(by omega)):=by
   intro h;have:K - 1=9:=by omega
   rw [<- this];exact hget
  obtain ⟨b,hbe⟩:∃b,s[K - 1]'(by omega)=b:=⟨_,rfl⟩
  simp only [hbe] at hval bd h9 hget ⊢;rw [bd] at hval ⊢
  rcases (Df ((K:Int)=10)).imp eq_true eq_false with q1 | q1<;>rcases (Df ((1:Int) < (b.toNat:Int))).imp eq_true eq_false with q2 | q2<;>
   rcases (Df ((1:Int) < (K:Int))).imp eq_true eq_false with q3 | q3<;>rcases (Df ((b.toNat:Int)=0)).imp eq_true eq_false with q4 | q4
  all_goals
   have q2n:(1 < b.toNat)=((1:Int) < (b.toNat:Int)):=propext (by omega);have JQ:(1 < K)=((1:Int) < (K:Int)):=propext (by omega);have JR:(b.toNat=0)=((b.toNat:Int)=0):=propext (by omega);rw [q2] at q2n;rw [q3] at JQ;rw [q4] at JR;simp only [q1,q2,q3,q4,and_self,and_true,and_false,false_and,true_and,if_true,if_false,ne_eq,not_true_eq_false,not_false_eq_true] at hval ⊢;first
   | (have hval:=hval trivial)
   | skip
   first
   | (have h9:=h9 (of_eq_true q1))
   | skip
   simp [k,hK0,hK1,hK2,hK3,wk,hkn,hk0,hget,h9,hval,q1,q2,q3,q4,q2n,JQ,JR]
theorem arh (a:List UInt8) (b:UInt8):iq (a++[b])=iq a+128 ^ a.length * (b.toNat % 128):=by
 induction a with
 | nil=>simp [iq]
 | cons c a ih=>
  simp only [jv,iq,ih,pJ,BA,Qe,iY];rw [Bz (128 ^ a.length) 128,Qg]
/-- Bytes that are a number's writing. -/
theorem abR:∀ (j k:Nat) (s:List UInt8),jo j s=some k->(1 < k->(s.getD (k - 1) 0)≠0)->fH (iq (s.take k))=s.take k/\(1 < k\/s.getD (k - 1) 0≠0->iq (s.take k)≠0)
 | 0,k,s,h,_=>by simp [jo] at h
 | j+1,k,[],h,_=>by simp [jo] at h
 | j+1,k,b::r,h,hz=>by
  unfold jo at h;split at h
  ·next hb=>
   cases h;simp only [zL,Xi,iq,Nat.mul_zero,mJ];rw [KP hb];refine ⟨by rw [Hy hb];simp,λhh=>?_⟩;rcases hh with hh | hh
   ·omega
   ·intro e
    apply hh;simp only [xW,List.getD_cons_zero];exact KY.1 (by simpa using e)
  ·next hb=>
   obtain ⟨i,hi,rfl⟩:=aX.1 h;obtain ⟨q1,q2,q3,q4⟩:=Kw hi;obtain ⟨l,rfl⟩:∃l,i=l+1:=⟨i - 1,by omega⟩
   have hz':r.getD l 0≠0:=by have:=hz (by omega);simpa using this
   obtain ⟨e1,e2⟩:=abR j (l+1) r hi (λ_=>by simpa using hz');have e2:=e2 (.inr (by simpa using hz'));have hb8:=b.toNat_lt;rw [zL];simp only [iq];refine ⟨?_,λ_=>by omega⟩;rw [Ky (by omega)];have a1:(b.toNat % 128+128 * iq (r.take (l+1))) % 128+128=b.toNat:=by omega
   have a2:(b.toNat % 128+128 * iq (r.take (l+1))) / 128=iq (r.take (l+1)):=by omega
   rw [a1,a2,e1];simp
structure VOk (s:List UInt8) (n k:Nat):Prop where
 pos:1<=k
 ten:k<=10
 len:k<=s.length
 lt:n < 18446744073709551616
 put:fH n=s.take k
theorem ig {s:List UInt8} (h:(aj s).2.2=0):VOk s (aj s).1 (aj s).2.1:=by
 unfold aj at h ⊢;cases hv:jo 10 s with
 | none=>
  rw [hv] at h;simp only at h;split at h<;>cases h
 | some k=>
  rw [hv] at h;simp only at h ⊢;obtain ⟨v1,v2,v3,v4⟩:=Kw hv;by_cases hb:pG k (s.getD (k - 1) 0).toNat=0
  ·simp only [hb,ne_eq,not_true_eq_false,if_false]
   have hz:1 < k->s.getD (k - 1) 0≠0:=by
    intro h1 h2;unfold pG at hb;rw [h2] at hb;split at hb
    ·cases hb
    ·rw [ak ⟨h1,rfl⟩] at hb;cases hb
   refine ⟨v1,v2,v3, ?_,(abR 10 k s hv hz).1⟩;have e:s.take k=s.take (k - 1)++[s.getD (k - 1) 0]:=by
    obtain ⟨j,rfl⟩:∃j,k=j+1:=⟨k - 1,by omega⟩
    have:j < s.length:=by omega
    simp [List.getD,this]
   have h2:=Wl (s.take (k - 1));rw [e,arh,jR,Di (by omega)];rw [jR,Di (by omega)] at h2;rcases vH k 10 with h3 | h3
   ·have hq:(128:Nat) ^ (k - 1)<=128 ^ 8:=Fa (by omega) (by omega)
    have hq2:128 ^ (k - 1) * ((s.getD (k - 1) 0).toNat % 128)<=128 ^ (k - 1) * 127:=Qh _ (by omega);omega
   ·have hK10:k=10:=by omega
    have hb1:(s.getD (k - 1) 0).toNat<=1:=by
     unfold pG at hb;split at hb
     ·cases hb
     ·next h=>omega
    have hq:(128:Nat) ^ (k - 1)=128 ^ 9:=by rw [hK10]
    have hq2:128 ^ (k - 1) * ((s.getD (k - 1) 0).toNat % 128)<=128 ^ (k - 1) * 1:=Qh _ (by omega);omega
  ·simp only [hb,ne_eq,not_false_eq_true,if_true] at h
theorem CY {s:List UInt8} (h:(aj s).2.2≠0):(aj s).1=0/\(aj s).2.1=0:=by
 unfold aj at h ⊢;cases hv:jo 10 s with
 | none=>exact ⟨rfl,rfl⟩
 | some k=>
  rw [hv] at h;simp only at h ⊢;by_cases hb:pG k (s.getD (k - 1) 0).toNat=0
  ·simp only [hb,ne_eq,not_true_eq_false,if_false] at h
  ·simp only [hb,ne_eq,not_false_eq_true,if_true]
   exact ⟨trivial,trivial⟩
/-- Taken of a cursor. -/
theorem zD (t:List UInt8) (at':Nat) (h:at'<=t.length) (ht:t.length<=140737488351232) :
 TT.lim 10 [.s t,.i .i64 at']=some [.i .i64 0,.i .u64 ((aj (t.drop at')).1:Nat),.i .i64 (aj (t.drop at')).2.2,.s t,.i .i64 ((at'+(aj (t.drop at')).2.1:Nat):Int)]:=by
 have k:=tC (t.drop at') (by rw [cZ];omega);have hd:(t.take t.length).drop at'=t.drop at':=by rw [pK]
 have h1:(at':Int)<=t.length:=by omega
 refine ay rfl rfl ?_;by_cases he:(aj (t.drop at')).2.2=0
 ·have hv:=ig he
  have hl:=hv.len;have h10:=hv.ten;rw [cZ] at hl;generalize (aj (t.drop at')).1=n at *;generalize (aj (t.drop at')).2.1=j at *;generalize (aj (t.drop at')).2.2=e at *;have w1:=dX (n:=(j:Int)) (by omega) (by omega);have w2:=wrap64 (n:=(t.length:Int) - (at':Int)) (by omega) (by omega);have w3:=dX (n:=(t.length:Int) - (at':Int)) (by omega) (by omega);have w4:=wrap64 (n:=(j:Int)) (by omega) (by omega);have w5:=wrap64 (n:=(at':Int)+(j:Int)) (by omega) (by omega);have c1:¬ ((t.length:Int) - (at':Int) < (j:Int)):=by omega
  have c2:(at':Int)<=(at':Int)+(j:Int)/\(at':Int)+(j:Int)<=t.length:=by omega
  subst he;simp [hd,h1,k,w1,w2,w3,w4,w5,c1,c2]
 ·obtain ⟨e1,e2⟩:=CY he
  rw [e1,e2] at k ⊢;generalize (aj (t.drop at')).2.2=e at *;simp [hd,h1,k,he]
def gJ (e:Int):List UInt8×Nat×Int:=([],0,e)
/-- The text that stands next, how many bytes it took, and the code. -/
def aT (s a0:List UInt8) (first:Bool):List UInt8×Nat×Int:=
 let a:=if first=true then [] else a0
 let v:=aj s
 if v.2.2≠0 then gJ v.2.2 else
 if a.length < v.1 then gJ 23 else
 let v2:=aj (s.drop v.2.1)
 if v2.2.2≠0 then gJ v2.2.2 else
 if s.length - (v.2.1+v2.2.1) < v2.1 then gJ 1 else
 let t:=a.take v.1++(s.drop (v.2.1+v2.2.1)).take v2.1
 if first=false/\Op.bytesLess a t=false then gJ 7 else
 if v.1 < common a t then gJ 23 else (t,v.2.1+v2.2.1+v2.1,0)
theorem aje (a t:List UInt8):(Op.bytesLess t a || t==a) = !(Op.bytesLess a t):=by
 rw [IW,IW,vg];simp only [mg,decide_eq_true_iff,beq_iff_eq,xK,decide_eq_false_iff_not];constructor
 ·rintro (h | h) h2
  ·exact Ic _ (Ie h h2)
  ·subst h;exact Ic _ h2
 ·intro h
  by_cases h1:t < a
  ·exact .inl h1
  ·exact .inr (List.le_antisymm (KI.1 h) (KI.1 h1))
theorem QI:∀ (k:Nat) (a x:List UInt8),k<=a.length->k<=common a (a.take k++x)
 | 0,a,x,h=>by omega
 | k+1,[],x,h=>by simp at h
 | k+1,b::a,x,h=>by
  rw [zL,jv];unfold common;rw [ak rfl];have:=QI k a x (by simpa using h);omega
theorem ak3 (t a:List UInt8) (first:Bool) (at':Nat) (h:at'<=t.length) (ht:t.length<=100000000) (ha:a.length<=100000000) :
 ∃at2:Nat,TT.lim 50 [.s t,.i .i64 at',.s a,.b first]=some [.i .i64 0,.s (aT (t.drop at') a first).1,.i .i64 (aT (t.drop at') a first).2.2,.s t,.i .i64 at2]/\
  ((aT (t.drop at') a first).2.2=0->at2=at'+(aT (t.drop at') a first).2.1):=by
 have k1:=zD t at' h (by omega);by_cases he:(aj (t.drop at')).2.2=0;rotate_left
 ·obtain ⟨e1,e2⟩:=CY he
  have hp:aT (t.drop at') a first=gJ (aj (t.drop at')).2.2:=by unfold aT;simp only;rw [ak he]
  rw [e1,e2] at k1;rw [hp];clear e1 e2 hp;generalize (aj (t.drop at')).2.2=e at *;refine ⟨at',ay rfl rfl ?_,λh=>absurd h he⟩;cases first<;>simp [k1,he,gJ]
 have hv:=ig he;have hl:=hv.len;have h64:=hv.lt;have h10:=hv.ten;rw [cZ] at hl
 have hpn:∀a':List UInt8,a'=(if first=true then [] else a)->aT (t.drop at') a first=(if a'.length < (aj (t.drop at')).1 then gJ 23 else
  if (aj (t.drop (at'+(aj (t.drop at')).2.1))).2.2≠0 then gJ (aj (t.drop (at'+(aj (t.drop at')).2.1))).2.2 else
  if (t.length - at') - ((aj (t.drop at')).2.1+(aj (t.drop (at'+(aj (t.drop at')).2.1))).2.1) < (aj (t.drop (at'+(aj (t.drop at')).2.1))).1 then gJ 1 else
  if first=false/\Op.bytesLess a' (a'.take (aj (t.drop at')).1++(t.drop (at'+((aj (t.drop at')).2.1+(aj (t.drop (at'+(aj (t.drop at')).2.1))).2.1))).take (aj (t.drop (at'+(aj (t.drop at')).2.1))).1)=false then gJ 7 else
  if (aj (t.drop at')).1 < common a' (a'.take (aj (t.drop at')).1++(t.drop (at'+((aj (t.drop at')).2.1+(aj (t.drop (at'+(aj (t.drop at')).2.1))).2.1))).take (aj (t.drop (at'+(aj (t.drop at')).2.1))).1) then gJ 23 else
  (a'.take (aj (t.drop at')).1++(t.drop (at'+((aj (t.drop at')).2.1+(aj (t.drop (at'+(aj (t.drop at')).2.1))).2.1))).take (aj (t.drop (at'+(aj (t.drop at')).2.1))).1,(aj (t.drop at')).2.1+(aj (t.drop (at'+(aj (t.drop at')).2.1))).2.1+(aj (t.drop (at'+(aj (t.drop at')).2.1))).1,0)):=by
  intro a' ha';unfold aT;simp only [mD,cZ,<- ha',he,ne_eq,not_true_eq_false,if_false]
 rw [he] at k1;have k2:=zD t (at'+(aj (t.drop at')).2.1) (by omega) (by omega);have hv2:=λh=>ig (s:=t.drop (at'+(aj (t.drop at')).2.1)) h;have hv3:=λh=>CY (s:=t.drop (at'+(aj (t.drop at')).2.1)) h;generalize hv0:aj (t.drop at')=v at *;obtain ⟨n,i,e⟩:=v;simp only at *;generalize hv1:aj (t.drop (at'+i))=v2 at *;obtain ⟨m,j,e2⟩:=v2;simp only at *;clear hv0 hv1 hv;subst he;simp only [Int.natCast_add] at k1 k2
 -- whichever is ahead
 cases first with
 | true=>
  have hp:=hpn [] rfl;rw [hp];clear hp hpn;by_cases c1:0 < n
  ·have c1':(0:Int) < n:=by omega
   rw [ak (by simpa using c1)];refine ⟨at'+i,ay rfl rfl ?_,λh=>by cases h⟩;simp [k1,c1,c1',gJ]
  have c1':¬ (0:Int) < n:=by omega
  rw [ah (by simpa using c1)];by_cases c2:e2=0;rotate_left
  ·obtain ⟨q1,q2⟩:=hv3 c2
   subst q1;subst q2;rw [ak c2];refine ⟨at'+i,ay rfl rfl ?_,λh=>absurd h c2⟩;simp [k1,k2,c1,c1',c2,gJ]
  subst c2;obtain ⟨q1,q2,q3,q4,_⟩:=hv2 rfl;rw [cZ] at q3;rw [ah (by simp)];have w2:=wrap64 (n:=(t.length:Int) - ((at':Int)+(i:Int)+(j:Int))) (by omega) (by omega);have w3:=dX (n:=(t.length:Int) - ((at':Int)+(i:Int)+(j:Int))) (by omega) (by omega);by_cases c3:t.length - at' - (i+j) < m
  ·have c3':(t.length:Int) - ((at':Int)+(i:Int)+(j:Int)) < (m:Int):=by omega
   rw [ak c3];refine ⟨at'+i+j,ay rfl rfl ?_,λh=>by cases h⟩;simp [k1,k2,c1,c1',w2,w3,c3',gJ]
  have c3':¬ (t.length:Int) - ((at':Int)+(i:Int)+(j:Int)) < (m:Int):=by omega
  rw [ah c3,ah (by simp)];have n0:n=0:=by omega
  subst n0;have hc:common [] ([]++(t.drop (at'+(i+j))).take m)=0:=Me _;have w4:=wrap64 (n:=(m:Int)) (by omega) (by omega);have w5:=wrap64 (n:=(at':Int)+(i:Int)+(j:Int)+(m:Int)) (by omega) (by omega);have w0:=wrap64 (n:=(0:Int)) (by omega) (by omega);have ts:((t.take (at'+i+j+m)).drop (at'+i+j))=(t.drop (at'+(i+j))).take m:=by
   rw [<- iY,xP];congr 1;omega
  have kc:=Yt [] ((t.drop (at'+(i+j))).take m) (by simp) (by simp;omega);rw [Me] at kc;have c4:(at':Int)+(i:Int)+(j:Int)<=(at':Int)+(i:Int)+(j:Int)+(m:Int)/\(at':Int)+(i:Int)+(j:Int)+(m:Int)<=t.length:=by omega
  have c5:(0:Int)<=(at':Int)+(i:Int)+(j:Int):=by omega
  have t1:((at':Int)+(i:Int)+(j:Int)+(m:Int)).toNat=at'+i+j+m:=by omega
  have t2:((at':Int)+(i:Int)+(j:Int)).toNat=at'+i+j:=by omega
  rw [List.take_nil,ah (by rw [hc];omega)];have hl0:(((t.drop (at'+(i+j))).take m).length:Int)<=9223372036854775807:=by
   have:((t.drop (at'+(i+j))).take m).length<=t.length:=by rw [jR,cZ];omega
   omega
  refine ⟨at'+i+j+m,ay rfl rfl ?_,λ_=>by simp only;omega⟩;rw [eP];generalize (t.drop (at'+(i+j))).take m=X at *;simp [k1,k2,w0,w2,w3,w4,w5,c3',c4,c5,t1,t2,ts,kc,hl0]
 | false=>
  have hp:=hpn a rfl;rw [hp];clear hp hpn;have wa:=dX (n:=(a.length:Int)) (by omega) (by omega);by_cases c1:a.length < n
  ·have c1':(a.length:Int) < n:=by omega
   rw [ak c1];refine ⟨at'+i,ay rfl rfl ?_,λh=>by cases h⟩;simp [k1,c1,c1',wa,gJ]
  have c1':¬ (a.length:Int) < n:=by omega
  rw [ah c1];by_cases c2:e2=0;rotate_left
  ·obtain ⟨q1,q2⟩:=hv3 c2
   subst q1;subst q2;rw [ak c2];refine ⟨at'+i,ay rfl rfl ?_,λh=>absurd h c2⟩;simp [k1,k2,c1,c1',c2,wa,gJ]
  subst c2;obtain ⟨q1,q2,q3,q4,_⟩:=hv2 rfl;rw [cZ] at q3;rw [ah (by simp)];have w2:=wrap64 (n:=(t.length:Int) - ((at':Int)+(i:Int)+(j:Int))) (by omega) (by omega);have w3:=dX (n:=(t.length:Int) - ((at':Int)+(i:Int)+(j:Int))) (by omega) (by omega);by_cases c3:t.length - at' - (i+j) < m
  ·have c3':(t.length:Int) - ((at':Int)+(i:Int)+(j:Int)) < (m:Int):=by omega
   rw [ak c3];refine ⟨at'+i+j,ay rfl rfl ?_,λh=>by cases h⟩;simp [k1,k2,c1,c1',w2,w3,c3',wa,gJ]
  have c3':¬ (t.length:Int) - ((at':Int)+(i:Int)+(j:Int)) < (m:Int):=by omega
  rw [ah c3];have w4:=wrap64 (n:=(m:Int)) (by omega) (by omega);have w5:=wrap64 (n:=(at':Int)+(i:Int)+(j:Int)+(m:Int)) (by omega) (by omega);have wn:=wrap64 (n:=(n:Int)) (by omega) (by omega);have ts:((t.take (at'+i+j+m)).drop (at'+i+j))=(t.drop (at'+(i+j))).take m:=by
   rw [<- iY,xP];congr 1;omega
  have hlx:((t.drop (at'+(i+j))).take m).length<=t.length:=by rw [jR,cZ];omega
  have kc:=Yt a (a.take n++(t.drop (at'+(i+j))).take m) (by omega) (by rw [jD,jR];omega);have c4:(at':Int)+(i:Int)+(j:Int)<=(at':Int)+(i:Int)+(j:Int)+(m:Int)/\(at':Int)+(i:Int)+(j:Int)+(m:Int)<=t.length:=by omega
  have c5:(0:Int)<=(at':Int)+(i:Int)+(j:Int):=by omega
  have c6:(n:Int)<=a.length:=by omega
  have t1:((at':Int)+(i:Int)+(j:Int)+(m:Int)).toNat=at'+i+j+m:=by omega
  have t2:((at':Int)+(i:Int)+(j:Int)).toNat=at'+i+j:=by omega
  have hlm:(min n a.length:Nat)=n:=by omega
  have hl0:(n:Int)+(((t.drop (at'+(i+j))).take m).length:Int)<=9223372036854775807:=by omega
  have hle:=aje a (a.take n++(t.drop (at'+(i+j))).take m);generalize (t.drop (at'+(i+j))).take m=X at *;by_cases c7:Op.bytesLess a (a.take n++X)=false
  ·rw [ak ⟨rfl,c7⟩]
   rw [c7] at hle;refine ⟨at'+i+j+m,ay rfl rfl ?_,λh=>by cases h⟩;have hle':(Op.bytesLess (a.take n++X) a=true\/a.take n++X=a)=True:=eq_true (by simpa using hle);simp [k1,k2,wa,wn,w2,w3,w4,w5,c1',c3',c4,c5,c6,t1,t2,ts,hl0,hlm,hle',gJ]
  ·rw [ah (λh=>c7 h.2)]
   have c7:Op.bytesLess a (a.take n++X)=true:=by simpa using c7
   rw [c7] at hle;have hle':(Op.bytesLess (a.take n++X) a=true\/a.take n++X=a)=False:=eq_false (by simpa using hle);by_cases c8:n < common a (a.take n++X)
   ·have wH:(n:Int) < (common a (a.take n++X):Int):=by omega
    rw [ak c8];refine ⟨at'+i+j+m,ay rfl rfl ?_,λh=>by cases h⟩;simp [k1,k2,wa,wn,w2,w3,w4,w5,c1',c3',c4,c5,c6,t1,t2,ts,hl0,hlm,hle',kc,wH,gJ]
   ·have wH:¬ (n:Int) < (common a (a.take n++X):Int):=by omega
    rw [ah c8];refine ⟨at'+i+j+m,ay rfl rfl ?_,λ_=>by simp only;omega⟩;simp [k1,k2,wa,wn,w2,w3,w4,w5,c1',c3',c4,c5,c6,t1,t2,ts,hl0,hlm,hle',kc,wH]
theorem Oz {s a:List UInt8} {first:Bool} (h:(aT s a first).2.2=0):2<=(aT s a first).2.1/\(aT s a first).2.1<=s.length/\(aT s a first).1.length<=(if first=true then 0 else a.length)+(aT s a first).2.1:=by
 have hA:(if first=true then 0 else a.length)=(if first=true then [] else a).length:=by cases first<;>rfl
 rw [hA];clear hA;unfold aT at h ⊢;simp only at h ⊢;generalize (if first=true then [] else a)=a' at h ⊢;split at h
 ·next c=>exact absurd h c
 next c0=>
 rw [ah c0];split at h
 ·cases h
 next c1=>
 rw [ah c1];split at h
 ·next c=>exact absurd h c
 next c2=>
 rw [ah c2];split at h
 ·cases h
 next c3=>
 rw [ah c3];split at h
 ·cases h
 next c4=>
 rw [ah c4];split at h
 ·cases h
 next c5=>
 rw [ah c5];have v1:=ig (s:=s) (by simpa using c0);have v2:=ig (s:=s.drop (aj s).2.1) (by simpa using c2);have p1:=v1.pos;have p2:=v2.pos;have l1:=v1.len;have l2:=v2.len;rw [cZ] at l2;refine ⟨by simp only;omega,by simp only;omega, ?_⟩;simp only [jD,jR,cZ];omega
/-- What the document's way hands back. -/
theorem al6 (s a:List UInt8) (first:Bool) (hs:s.length<=100000000) (ha:a.length<=100000000) :
 TT.lim 134 [.s s,.s a,.b first]=some [.s (aT s a first).1,.s (if (aT s a first).2.2=0 then s.drop (aT s a first).2.1 else []),.i .i64 (aT s a first).2.2]:=by
 have k1:=AU s (by omega);by_cases he:(aj s).2.2=0;rotate_left
 ·have hp:aT s a first=gJ (aj s).2.2:=by unfold aT;simp only;rw [ak he]
  rw [hp];clear hp;generalize (aj s).2.2=e at *;refine aG rfl (by cases first<;>rfl) ?_ (by rfl);simp [k1,he,gJ]
 have hv:=ig he;have hl:=hv.len;have h64:=hv.lt;have h10:=hv.ten;have k2:=AU (s.drop (aj s).2.1) (by rw [cZ];omega);have hd:(s.take s.length).drop (aj s).2.1=s.drop (aj s).2.1:=by rw [pK]
 have hpn:∀a':List UInt8,a'=(if first=true then [] else a)->aT s a first=(if a'.length < (aj s).1 then gJ 23 else
  if (aj (s.drop (aj s).2.1)).2.2≠0 then gJ (aj (s.drop (aj s).2.1)).2.2 else
  if s.length - ((aj s).2.1+(aj (s.drop (aj s).2.1)).2.1) < (aj (s.drop (aj s).2.1)).1 then gJ 1 else
  if first=false/\Op.bytesLess a' (a'.take (aj s).1++(s.drop ((aj s).2.1+(aj (s.drop (aj s).2.1)).2.1)).take (aj (s.drop (aj s).2.1)).1)=false then gJ 7 else
  if (aj s).1 < common a' (a'.take (aj s).1++(s.drop ((aj s).2.1+(aj (s.drop (aj s).2.1)).2.1)).take (aj (s.drop (aj s).2.1)).1) then gJ 23 else
  (a'.take (aj s).1++(s.drop ((aj s).2.1+(aj (s.drop (aj s).2.1)).2.1)).take (aj (s.drop (aj s).2.1)).1,(aj s).2.1+(aj (s.drop (aj s).2.1)).2.1+(aj (s.drop (aj s).2.1)).1,0)):=by
  intro a' ha';unfold aT;simp only [mD,cZ,<- ha',he,ne_eq,not_true_eq_false,if_false]
 rw [he] at k1;have hv2:=λh=>ig (s:=s.drop (aj s).2.1) h;have hv3:=λh=>CY (s:=s.drop (aj s).2.1) h;generalize hv0:aj s=v at *;obtain ⟨n,i,e⟩:=v;simp only at *;generalize hv1:aj (s.drop i)=v2 at *;obtain ⟨m,j,e2⟩:=v2;simp only at *;clear hv0 hv1 hv;subst he;have i1:(i:Int)<=s.length:=by omega
 have wa:=dX (n:=(a.length:Int)) (by omega) (by omega);cases first with
 | true=>
  have hp:=hpn [] rfl;rw [hp];clear hp hpn;by_cases c1:n=0;rotate_left
  ·rw [ak (by simp;omega)]
   refine aG rfl rfl ?_ rfl;simp [k1,c1,gJ]
  subst c1;have c1':¬ (a.length:Int) < 0:=by omega
  rw [ah (by simp)];by_cases c2:e2=0;rotate_left
  ·rw [ak c2]
   refine aG rfl rfl ?_ rfl;simp [k1,k2,hd,i1,wa,c1',c2,gJ]
  subst c2;obtain ⟨q1,q2,q3,q4,_⟩:=hv2 rfl;rw [cZ] at q3;rw [ah (by simp)];have w1:=wrap64 (n:=(i:Int)+(j:Int)) (by omega) (by omega);have w2:=wrap64 (n:=(s.length:Int) - ((i:Int)+(j:Int))) (by omega) (by omega);have w3:=dX (n:=(s.length:Int) - ((i:Int)+(j:Int))) (by omega) (by omega);by_cases c3:s.length - (i+j) < m
  ·have c3':(s.length:Int) - ((i:Int)+(j:Int)) < (m:Int):=by omega
   rw [ak c3];refine aG rfl rfl ?_ rfl;simp [k1,k2,hd,i1,wa,c1',w1,w2,w3,c3',gJ]
  have c3':¬ (s.length:Int) - ((i:Int)+(j:Int)) < (m:Int):=by omega
  rw [ah c3,ah (by simp)];have hc:common [] ([]++(s.drop (i+j)).take m)=0:=Me _;have w4:=wrap64 (n:=(m:Int)) (by omega) (by omega);have w5:=wrap64 (n:=(i:Int)+(j:Int)+(m:Int)) (by omega) (by omega);have w0:=wrap64 (n:=(0:Int)) (by omega) (by omega);have ts:((s.take (i+j+m)).drop (i+j))=(s.drop (i+j)).take m:=by
   rw [xP];congr 1;omega
  have tr:((s.take s.length).drop (i+j+m))=s.drop (i+j+m):=by rw [pK]
  have c4:(i:Int)+(j:Int)<=(i:Int)+(j:Int)+(m:Int)/\(i:Int)+(j:Int)+(m:Int)<=s.length:=by omega
  have c5:(0:Int)<=(i:Int)+(j:Int):=by omega
  have c6:(0:Int)<=(i:Int)+(j:Int)+(m:Int):=by omega
  have t1:((i:Int)+(j:Int)+(m:Int)).toNat=i+j+m:=by omega
  have t2:((i:Int)+(j:Int)).toNat=i+j:=by omega
  rw [List.take_nil,ah (by rw [hc];omega)];have hlx:((s.drop (i+j)).take m).length<=s.length:=by rw [jR,cZ];omega
  have hl0:(((s.drop (i+j)).take m).length:Int)<=9223372036854775807:=by omega
  refine aG rfl rfl ?_ rfl;rw [eP];generalize (s.drop (i+j)).take m=X at *;generalize hY:s.drop (i+j+m)=Y at *;simp [k1,k2,hd,i1,wa,c1',w0,w1,w2,w3,w4,w5,c3',c4,c5,c6,t1,t2,ts,tr,hY,hl0]
 | false=>
  have hp:=hpn a rfl;rw [hp];clear hp hpn;by_cases c1:a.length < n
  ·have c1':(a.length:Int) < n:=by omega
   rw [ak c1];refine aG rfl rfl ?_ rfl;simp [k1,c1,c1',wa,gJ]
  have c1':¬ (a.length:Int) < n:=by omega
  rw [ah c1];by_cases c2:e2=0;rotate_left
  ·rw [ak c2]
   refine aG rfl rfl ?_ rfl;simp [k1,k2,hd,i1,c1',c2,wa,gJ]
  subst c2;obtain ⟨q1,q2,q3,q4,_⟩:=hv2 rfl;rw [cZ] at q3;rw [ah (by simp)];have w1:=wrap64 (n:=(i:Int)+(j:Int)) (by omega) (by omega);have w2:=wrap64 (n:=(s.length:Int) - ((i:Int)+(j:Int))) (by omega) (by omega);have w3:=dX (n:=(s.length:Int) - ((i:Int)+(j:Int))) (by omega) (by omega);by_cases c3:s.length - (i+j) < m
  ·have c3':(s.length:Int) - ((i:Int)+(j:Int)) < (m:Int):=by omega
   rw [ak c3];refine aG rfl rfl ?_ rfl;simp [k1,k2,hd,i1,c1',w1,w2,w3,c3',wa,gJ]
  have c3':¬ (s.length:Int) - ((i:Int)+(j:Int)) < (m:Int):=by omega
  rw [ah c3];have w4:=wrap64 (n:=(m:Int)) (by omega) (by omega);have w5:=wrap64 (n:=(i:Int)+(j:Int)+(m:Int)) (by omega) (by omega);have wn:=wrap64 (n:=(n:Int)) (by omega) (by omega);have ts:((s.take (i+j+m)).drop (i+j))=(s.drop (i+j)).take m:=by
   rw [xP];congr 1;omega
  have tr:((s.take s.length).drop (i+j+m))=s.drop (i+j+m):=by rw [pK]
  have hlx:((s.drop (i+j)).take m).length<=s.length:=by rw [jR,cZ];omega
  have hla:(a.take n++(s.drop (i+j)).take m).length<=200000000:=by rw [jD,jR];omega
  have kc:=alM a (a.take n++(s.drop (i+j)).take m) (by omega) (by omega);have kl:=aaC a (a.take n++(s.drop (i+j)).take m) (by omega) (by omega);have hge:=QI n a ((s.drop (i+j)).take m) (by omega);have c4:(i:Int)+(j:Int)<=(i:Int)+(j:Int)+(m:Int)/\(i:Int)+(j:Int)+(m:Int)<=s.length:=by omega
  have c5:(0:Int)<=(i:Int)+(j:Int):=by omega
  have c9:(0:Int)<=(i:Int)+(j:Int)+(m:Int):=by omega
  have c6:(n:Int)<=a.length:=by omega
  have t1:((i:Int)+(j:Int)+(m:Int)).toNat=i+j+m:=by omega
  have t2:((i:Int)+(j:Int)).toNat=i+j:=by omega
  have hlm:(min n a.length:Nat)=n:=by omega
  have hl0:(n:Int)+(((s.drop (i+j)).take m).length:Int)<=9223372036854775807:=by omega
  generalize (s.drop (i+j)).take m=X at *;generalize hY:s.drop (i+j+m)=Y at *;by_cases c7:Op.bytesLess a (a.take n++X)=false
  ·rw [ak ⟨rfl,c7⟩]
   rw [c7] at kl;refine aG rfl rfl ?_ rfl;simp [k1,k2,hd,i1,wa,wn,w1,w2,w3,w4,w5,c1',c3',c4,c5,c6,c9,t1,t2,ts,tr,hY,hl0,hlm,kl,gJ]
  ·rw [ah (λh=>c7 h.2)]
   have c7:Op.bytesLess a (a.take n++X)=true:=by simpa using c7
   rw [c7] at kl;by_cases c8:n < common a (a.take n++X)
   ·have wH:¬ ((common a (a.take n++X):Int)=n):=by omega
    have c8n:¬ (common a (a.take n++X)=n):=by omega
    rw [ak c8];refine aG rfl rfl ?_ rfl;simp [k1,k2,hd,i1,wa,wn,w1,w2,w3,w4,w5,c1',c3',c4,c5,c6,c9,t1,t2,ts,tr,hY,hl0,hlm,kl,kc,wH,c8n,gJ]
   ·have wH:common a (a.take n++X)=n:=by omega
    rw [ah c8];rw [wH] at kc;refine aG rfl rfl ?_ rfl;simp [k1,k2,hd,i1,wa,wn,w1,w2,w3,w4,w5,c1',c3',c4,c5,c6,c9,t1,t2,ts,tr,hY,hl0,hlm,kl,kc]
/-- A text that stands next: the text, how many bytes it took, the code. -/
def bK (s:List UInt8):List UInt8×Nat×Int:=
 if (aj s).2.2≠0 then ([],0,(aj s).2.2) else
 if s.length - (aj s).2.1 < (aj s).1 then ([],0,1) else
 ((s.drop (aj s).2.1).take (aj s).1,(aj s).2.1+(aj s).1,0)
theorem Hq {s:List UInt8} (h:(bK s).2.2=0):1<=(bK s).2.1/\(bK s).2.1<=s.length/\(bK s).1.length<=s.length:=by
 unfold bK at h ⊢;by_cases h1:(aj s).2.2=0;rotate_left
 ·rw [ak h1] at h
  exact absurd h h1
 rw [ah (λe=>e h1)] at h ⊢;obtain ⟨v1,v2,v3,v4,v5⟩:=ig h1;by_cases h2:s.length - (aj s).2.1 < (aj s).1
 ·rw [ak h2] at h;cases h
 rw [ah h2];simp only [jR,cZ];omega
theorem ac8 (t:List UInt8) (at':Nat) (h:at'<=t.length) (ht:t.length<=100000000) :
 ∃at2:Nat,TT.lim 45 [.s t,.i .i64 at']=some [.i .i64 0,.s (bK (t.drop at')).1,.i .i64 (bK (t.drop at')).2.2,.s t,.i .i64 at2]/\((bK (t.drop at')).2.2=0->at2=at'+(bK (t.drop at')).2.1):=by
 have k1:=zD t at' h (by omega);unfold bK;by_cases he:(aj (t.drop at')).2.2=0;rotate_left
 ·obtain ⟨e1,e2⟩:=CY he
  rw [e1,e2] at k1;rw [ak he];generalize (aj (t.drop at')).2.2=e at *;refine ⟨at',ay rfl rfl ?_,λh=>absurd h he⟩;simp [k1,he]
 obtain ⟨v1,v2,v3,v4,_⟩:=ig he;rw [ah (λe=>e he)];rw [he] at k1;rw [cZ] at v3 ⊢;rw [mD];generalize (aj (t.drop at')).1=n at *;generalize (aj (t.drop at')).2.1=i at *;have w1:=wrap64 (n:=(t.length:Int) - ((at':Int)+(i:Int))) (by omega) (by omega);have w2:=dX (n:=(t.length:Int) - ((at':Int)+(i:Int))) (by omega) (by omega);simp only [Int.natCast_add] at k1;by_cases c1:t.length - at' - i < n
 ·have c1':(t.length:Int) - ((at':Int)+(i:Int)) < (n:Int):=by omega
  rw [ak c1];refine ⟨at'+i,ay rfl rfl ?_,λh=>by cases h⟩;simp [k1,w1,w2,c1']
 ·have c1':¬ (t.length:Int) - ((at':Int)+(i:Int)) < (n:Int):=by omega
  rw [ah c1];have w3:=wrap64 (n:=(n:Int)) (by omega) (by omega);have w4:=wrap64 (n:=(at':Int)+(i:Int)+(n:Int)) (by omega) (by omega);have ts:((t.take (at'+i+n)).drop (at'+i))=(t.drop (at'+i)).take n:=by
   rw [xP];congr 1;omega
  have c2:(at':Int)+(i:Int)<=(at':Int)+(i:Int)+(n:Int)/\(at':Int)+(i:Int)+(n:Int)<=t.length:=by omega
  have c3:(0:Int)<=(at':Int)+(i:Int):=by omega
  have t1:((at':Int)+(i:Int)+(n:Int)).toNat=at'+i+n:=by omega
  have t2:((at':Int)+(i:Int)).toNat=at'+i:=by omega
  generalize (t.drop (at'+i)).take n=X at *;refine ⟨at'+i+n,ay rfl rfl ?_,λ_=>by simp only;omega⟩;simp [k1,w1,w2,w3,w4,c1',c2,c3,t1,t2,ts]
theorem acv (s:List UInt8) (hs:s.length<=100000000):TT.lim 125 [.s s]=some [.s (bK s).1,.s (if (bK s).2.2=0 then s.drop (bK s).2.1 else []),.i .i64 (bK s).2.2]:=by
 have k1:=AU s (by omega);unfold bK;by_cases he:(aj s).2.2=0;rotate_left
 ·rw [ak he]
  generalize (aj s).2.2=e at *;refine aG rfl rfl ?_ (by rfl);simp [k1,he]
 obtain ⟨v1,v2,v3,v4,_⟩:=ig he;rw [ah (λe=>e he)];rw [he] at k1;generalize (aj s).1=n at *;generalize (aj s).2.1=i at *;have w1:=wrap64 (n:=(s.length:Int) - (i:Int)) (by omega) (by omega);have w2:=dX (n:=(s.length:Int) - (i:Int)) (by omega) (by omega);by_cases c1:s.length - i < n
 ·have c1':(s.length:Int) - (i:Int) < (n:Int):=by omega
  rw [ak c1];refine aG rfl rfl ?_ rfl;simp [k1,w1,w2,c1']
 ·have c1':¬ (s.length:Int) - (i:Int) < (n:Int):=by omega
  rw [ah c1];have w3:=wrap64 (n:=(n:Int)) (by omega) (by omega);have w4:=wrap64 (n:=(i:Int)+(n:Int)) (by omega) (by omega);have ts:((s.take (i+n)).drop i)=(s.drop i).take n:=by
   rw [xP];congr 1;omega
  have tr:(s.take s.length).drop (i+n)=s.drop (i+n):=by rw [pK]
  have c2:(i:Int)<=(i:Int)+(n:Int)/\(i:Int)+(n:Int)<=s.length:=by omega
  have c3:(0:Int)<=(i:Int)+(n:Int):=by omega
  have c4:i<=i+n:=by omega
  have c5:(i:Int)+(n:Int)<=s.length:=by omega
  have t1:((i:Int)+(n:Int)).toNat=i+n:=by omega
  generalize (s.drop i).take n=X at *;generalize hY:s.drop (i+n)=Y at *;refine aG rfl rfl ?_ rfl;simp [k1,w1,w2,w3,w4,c1',c2,c3,c5,t1,ts,tr,hY]
/-- An entry that stands next. -/
def bI (s:List UInt8):bU×Nat×Int:=
 if (bK s).2.2≠0 then (([],[]),0,(bK s).2.2) else
 if (bK (s.drop (bK s).2.1)).2.2≠0 then (([],[]),0,(bK (s.drop (bK s).2.1)).2.2) else
 if nZ ((bK s).1,(bK (s.drop (bK s).2.1)).1)≠0 then (([],[]),0,nZ ((bK s).1,(bK (s.drop (bK s).2.1)).1)) else
 (((bK s).1,(bK (s.drop (bK s).2.1)).1),(bK s).2.1+(bK (s.drop (bK s).2.1)).2.1,0)
theorem Jg {s:List UInt8} (h:(bI s).2.2=0):2<=(bI s).2.1/\(bI s).2.1<=s.length/\nZ (bI s).1=0/\(bI s).1.1.length<=s.length/\(bI s).1.2.length<=s.length/\
 (bK s).2.2=0/\(bK (s.drop (bK s).2.1)).2.2=0/\(bI s).1=((bK s).1,(bK (s.drop (bK s).2.1)).1)/\(bI s).2.1=(bK s).2.1+(bK (s.drop (bK s).2.1)).2.1:=by
 unfold bI at h ⊢;by_cases h1:(bK s).2.2=0;rotate_left
 ·rw [ak h1] at h;exact absurd h h1
 rw [ah (λe=>e h1)] at h ⊢;by_cases h2:(bK (s.drop (bK s).2.1)).2.2=0;rotate_left
 ·rw [ak h2] at h;exact absurd h h2
 rw [ah (λe=>e h2)] at h ⊢;by_cases h3:nZ ((bK s).1,(bK (s.drop (bK s).2.1)).1)=0;rotate_left
 ·rw [ak h3] at h;exact absurd h h3
 rw [ah (λe=>e h3)];obtain ⟨a1,a2,a3⟩:=Hq h1;obtain ⟨b1,b2,b3⟩:=Hq h2;rw [cZ] at b2 b3;exact ⟨by simp only;omega,by simp only;omega,h3,a3,by simp only;omega,h1,h2,rfl,rfl⟩
theorem agx (t:List UInt8) (at':Nat) (h:at'<=t.length) (ht:t.length<=100000000) :
 ∃at2:Nat,TT.lim 44 [.s t,.i .i64 at']=some [.i .i64 0,.s (bI (t.drop at')).1.1,.s (bI (t.drop at')).1.2,.i .i64 (bI (t.drop at')).2.2,.s t,.i .i64 at2]/\((bI (t.drop at')).2.2=0->at2=at'+(bI (t.drop at')).2.1):=by
 obtain ⟨p,k1,e1⟩:=ac8 t at' h ht;unfold bI;by_cases h1:(bK (t.drop at')).2.2=0;rotate_left
 ·rw [ak h1]
  generalize bK (t.drop at')=A at *;refine ⟨p,ay rfl rfl ?_,λh=>absurd h h1⟩;simp [k1,h1]
 have e1:=e1 h1;obtain ⟨a1,a2,a3⟩:=Hq h1;rw [cZ] at a2 a3;have hdd:(t.drop at').drop (bK (t.drop at')).2.1=t.drop p:=by rw [mD,e1]
 obtain ⟨q,k2,e2⟩:=ac8 t p (by omega) ht;rw [ah (λe=>e h1),hdd];rw [h1] at k1;by_cases h2:(bK (t.drop p)).2.2=0;rotate_left
 ·rw [ak h2]
  generalize bK (t.drop at')=A at *;generalize bK (t.drop p)=B at *;refine ⟨q,ay rfl rfl ?_,λh=>absurd h h2⟩;simp [k1,k2,h2]
 have e2:=e2 h2;obtain ⟨b1,b2,b3⟩:=Hq h2;rw [cZ] at b2 b3;rw [ah (λe=>e h2)];rw [h2] at k2;have kc:=Zf ((bK (t.drop at')).1,(bK (t.drop p)).1) (by simp only;omega) (by simp only;omega);have Ee:TT.lim 46 [.g [.s (bK (t.drop at')).1,.s (bK (t.drop p)).1]]=_:=kc;generalize bK (t.drop at')=A at *;generalize bK (t.drop p)=B at *;by_cases h3:nZ (A.1,B.1)=0;rotate_left
 ·rw [ak h3]
  refine ⟨q,ay rfl rfl ?_,λh=>absurd h h3⟩;generalize nZ (A.1,B.1)=E at *;simp [k1,k2,Ee,h3]
 ·rw [ah (λe=>e h3)]
  rw [h3] at Ee;refine ⟨q,ay rfl rfl ?_,λ_=>by simp only;omega⟩;simp [k1,k2,Ee]
theorem al1 (s:List UInt8) (hs:s.length<=100000000):TT.lim 124 [.s s]=some [ent (bI s).1,.s (if (bI s).2.2=0 then s.drop (bI s).2.1 else []),.i .i64 (bI s).2.2]:=by
 have k1:=acv s hs;unfold bI;by_cases h1:(bK s).2.2=0;rotate_left
 ·rw [ak h1]
  generalize bK s=A at *;refine aG rfl rfl ?_ (by rfl);simp [k1,h1];rfl
 obtain ⟨a1,a2,a3⟩:=Hq h1;rw [ak h1,h1] at k1;have k2:=acv (s.drop (bK s).2.1) (by rw [cZ];omega);rw [ah (λe=>e h1)];by_cases h2:(bK (s.drop (bK s).2.1)).2.2=0;rotate_left
 ·rw [ak h2]
  generalize bK (s.drop (bK s).2.1)=B at *;generalize s.drop (bK s).2.1=Y at *;generalize bK s=A at *;refine aG rfl rfl ?_ (by rfl);simp [k1,k2,h2];rfl
 obtain ⟨b1,b2,b3⟩:=Hq h2;rw [cZ] at b2 b3;rw [ak h2,h2,mD] at k2;rw [ah (λe=>e h2)];have kc:=Zg ((bK s).1,(bK (s.drop (bK s).2.1)).1) (by simp only;omega) (by simp only;omega);have Ee:TT.lim 126 [.g [.s (bK s).1,.s (bK (s.drop (bK s).2.1)).1]]=_:=kc;generalize bK (s.drop (bK s).2.1)=B at *;generalize s.drop (bK s).2.1=Y at *;generalize bK s=A at *;by_cases h3:nZ (A.1,B.1)=0;rotate_left
 ·rw [ak h3]
  generalize nZ (A.1,B.1)=E at *;refine aG rfl rfl ?_ (by rfl);simp [k1,k2,Ee,h3];rfl
 ·rw [ah (λe=>e h3)]
  rw [h3] at Ee;refine aG rfl rfl ?_ (by rfl);simp [k1,k2,Ee];rfl
def sU (p:Option bU) (x:bU):Int:=match p with
 | none=>0
 | some k=>oP k.1 x.1
/-- Entries by rising keys: what is read, how many bytes it took, the code. -/
def dL:Nat->Option bU->List UInt8->List bU×Nat×Int
 | 0,_,_=>([],0,0)
 | m+1,p,s=>if (bI s).2.2≠0 then ([],0,(bI s).2.2) else
  if sU p (bI s).1≠0 then ([],0,sU p (bI s).1) else
  if (dL m (some (bI s).1) (s.drop (bI s).2.1)).2.2≠0 then ([],0,(dL m (some (bI s).1) (s.drop (bI s).2.1)).2.2) else
  ((bI s).1::(dL m (some (bI s).1) (s.drop (bI s).2.1)).1,(bI s).2.1+(dL m (some (bI s).1) (s.drop (bI s).2.1)).2.1,0)
theorem MG (m:Nat) (p:Option bU) (s:List UInt8):dL (m+1) p s=if (bI s).2.2≠0 then ([],0,(bI s).2.2) else
 if sU p (bI s).1≠0 then ([],0,sU p (bI s).1) else
 if (dL m (some (bI s).1) (s.drop (bI s).2.1)).2.2≠0 then ([],0,(dL m (some (bI s).1) (s.drop (bI s).2.1)).2.2) else
 ((bI s).1::(dL m (some (bI s).1) (s.drop (bI s).2.1)).1,(bI s).2.1+(dL m (some (bI s).1) (s.drop (bI s).2.1)).2.1,0):=rfl
def yN (acc:List bU) (t:List UInt8) (at2:Nat) (r:List bU×Nat×Int):List GV:=if r.2.2≠0 then [.i .i64 0,.i .i64 r.2.2,.s t,.i .i64 at2] else [.i .i64 1,.l ((acc++r.1).map ent),.s t,.i .i64 at2]
theorem agu (L:List GV) (n i at' at2:Int) (t:List UInt8) (x:bU) (e:Int) (h:i < n) (he:¬ e=0)
 (k:TT.lim 44 [.s t,.i .i64 at']=some [.i .i64 0,.s x.1,.s x.2,.i .i64 e,.s t,.i .i64 at2]) :
 TT.lim 43 [.l L,.i .i64 n,.i .i64 i,.s t,.i .i64 at']=some [.i .i64 0,.i .i64 e,.s t,.i .i64 at2]:=by
 refine ay rfl rfl ?_;simp [h,k,he]
theorem ags (L:List GV) (n at' at2:Int) (t:List UInt8) (x:bU) (R:List GV) (h:0 < n) (hb:2 * (L.length+1) * 32<=281474976710656/\L.length+1<=281474976710656)
 (k:TT.lim 44 [.s t,.i .i64 at']=some [.i .i64 0,.s x.1,.s x.2,.i .i64 0,.s t,.i .i64 at2])
 (ih:TT.lim 43 [.l (L++[ent x]),.i .i64 n,.i .i64 1,.s t,.i .i64 at2]=some R) :
 TT.lim 43 [.l L,.i .i64 n,.i .i64 0,.s t,.i .i64 at']=some R:=by
 have he:GV.g [.s x.1,.s x.2]=ent x:=rfl;have w1:=wrap64 (n:=1) (by omega) (by omega);refine ay rfl rfl ?_;simp [h,k,he,GV.fF,hb,w1,ih]
theorem agt (L:List GV) (n:Int) (i:Nat) (at' at2:Int) (t:List UInt8) (p x:bU) (h:(i:Int)+1 < n) (hi:i+1<=100000000) (hl:L.length=i+1) (hg:L[i]? = some (ent p)) (hb:¬ oP p.1 x.1=0)
 (k:TT.lim 44 [.s t,.i .i64 at']=some [.i .i64 0,.s x.1,.s x.2,.i .i64 0,.s t,.i .i64 at2]) :
 TT.lim 43 [.l L,.i .i64 n,.i .i64 ((i:Int)+1),.s t,.i .i64 at']=some [.i .i64 0,.i .i64 (oP p.1 x.1),.s t,.i .i64 at2]:=by
 have h0:(0:Int) < (i:Int)+1:=by omega
 have hii:(i:Int) < (i:Int)+1:=by omega
 have w:=wrap64 (n:=(i:Int)) (by omega) (by omega);have hgi:L[i]'(by omega)=ent p:=by have:=hg;rw [dA (by omega)] at this;exact zN this
 unfold oP at hb ⊢;by_cases e1:x.1=p.1
 ·have e1':(x.1=p.1)=True:=eq_true e1
  clear e1;refine ay rfl rfl ?_;simp [h,k,h0,hii,w,hl,hg,hgi,e1']
 ·by_cases e2:Op.bytesLess x.1 p.1=true
  ·refine ay rfl rfl ?_
   simp [h,k,h0,hii,w,hl,hg,hgi,e1,e2]
  ·simp [e1,e2] at hb
theorem agv (L:List GV) (n:Int) (i:Nat) (at' at2:Int) (t:List UInt8) (p x:bU) (R:List GV) (h:(i:Int)+1 < n) (hi:i+1<=100000000) (hl:(i:Int) < L.length) (hl2:L.length<=100000000) (hg:L[i]? = some (ent p)) (hb:oP p.1 x.1=0)
 (k:TT.lim 44 [.s t,.i .i64 at']=some [.i .i64 0,.s x.1,.s x.2,.i .i64 0,.s t,.i .i64 at2])
 (ih:TT.lim 43 [.l (L++[ent x]),.i .i64 n,.i .i64 ((i:Int)+1+1),.s t,.i .i64 at2]=some R) :
 TT.lim 43 [.l L,.i .i64 n,.i .i64 ((i:Int)+1),.s t,.i .i64 at']=some R:=by
 have h0:(0:Int) < (i:Int)+1:=by omega
 have hii:(i:Int) < (i:Int)+1:=by omega
 have w:=wrap64 (n:=(i:Int)) (by omega) (by omega);have w2:=wrap64 (n:=(i:Int)+1+1) (by omega) (by omega);have hl3:i < L.length:=by omega
 have hgi:L[i]=ent p:=by have:=hg;rw [dA hl3] at this;exact zN this
 have he:GV.g [.s x.1,.s x.2]=ent x:=rfl;have hbb:2 * (L.length+1) * 32<=281474976710656/\L.length+1<=281474976710656:=by omega
 unfold oP at hb;have e1:¬ x.1=p.1:=by intro e;rw [ak e] at hb;exact absurd hb (by decide)
 rw [ah e1] at hb;have e2:¬ Op.bytesLess x.1 p.1=true:=by intro e;rw [ak e] at hb;exact absurd hb (by decide)
 have e2:Op.bytesLess x.1 p.1=false:=by simpa using e2
 refine ay rfl rfl ?_;simp [h,k,h0,hii,w,w2,hl,hl3,hg,hgi,e1,e2,he,GV.fF,hbb,ih]
/-- What is ahead. -/
def aay (acc:List bU) (p:Option bU):Prop:=(acc=[]/\p=none)\/∃a x,acc=a++[x]/\p=some x
theorem YG (t:List UInt8) (ht:t.length<=100000000) (n:Nat) (hn:n<=1000):∀ (m:Nat) (acc:List bU) (p:Option bU) (at':Nat),acc.length+m=n->aay acc p->at'<=t.length->
 ∃at2:Nat,TT.lim 43 [.l (acc.map ent),.i .i64 n,.i .i64 acc.length,.s t,.i .i64 at']=some (yN acc t at2 (dL m p (t.drop at')))/\((dL m p (t.drop at')).2.2=0->at2=at'+(dL m p (t.drop at')).2.1)
 | 0,acc,p,at',hi,hp,h=>by
  have hlt:¬ ((acc.length:Int) < (n:Int)):=by omega
  refine ⟨at', ?_,λ_=>by simp [dL]⟩;have hl:(acc.map ent).length=acc.length:=by simp
  unfold dL yN;simp only [ne_eq,not_true_eq_false,if_false,pI];generalize acc.map ent=L at *;refine ay rfl rfl ?_;simp [hlt]
 | m+1,acc,p,at',hi,hp,h=>by
  obtain ⟨at2,k,e2⟩:=agx t at' h ht;rw [MG];by_cases h1:(bI (t.drop at')).2.2=0;rotate_left
  ·rw [ak h1]
   refine ⟨at2, ?_,λh=>absurd h h1⟩;have:yN acc t at2 ([],0,(bI (t.drop at')).2.2)=[.i .i64 0,.i .i64 (bI (t.drop at')).2.2,.s t,.i .i64 at2]:=by unfold yN;rw [ak h1]
   rw [this];exact agu _ _ _ _ _ _ _ _ (by omega) h1 k
  rw [ah (λe=>e h1)];rw [h1] at k;have e2:=e2 h1;obtain ⟨a1,a2,_⟩:=Jg h1;rw [cZ] at a2;have hdd:(t.drop at').drop (bI (t.drop at')).2.1=t.drop at2:=by rw [mD,e2]
  rw [hdd];have hat:at2<=t.length:=by omega
  generalize hX:(bI (t.drop at')).1=x at *;obtain ⟨at3,ih,e3⟩:=YG t ht n hn m (acc++[x]) (some x) at2 (by rw [jD,uw];omega) (.inr ⟨acc,x,rfl,rfl⟩) hat;have hout:yN acc t at3 (if (dL m (some x) (t.drop at2)).2.2≠0 then ([],0,(dL m (some x) (t.drop at2)).2.2) else (x::(dL m (some x) (t.drop at2)).1,(bI (t.drop at')).2.1+(dL m (some x) (t.drop at2)).2.1,0))=yN (acc++[x]) t at3 (dL m (some x) (t.drop at2)):=by
   unfold yN;by_cases hq:(dL m (some x) (t.drop at2)).2.2=0
   ·simp [hq]
   ·simp [hq]
  have hfin:((if (dL m (some x) (t.drop at2)).2.2≠0 then (([]:List bU),0,(dL m (some x) (t.drop at2)).2.2) else (x::(dL m (some x) (t.drop at2)).1,(bI (t.drop at')).2.1+(dL m (some x) (t.drop at2)).2.1,0)).2.2=0->at3=at'+(if (dL m (some x) (t.drop at2)).2.2≠0 then (([]:List bU),0,(dL m (some x) (t.drop at2)).2.2) else (x::(dL m (some x) (t.drop at2)).1,(bI (t.drop at')).2.1+(dL m (some x) (t.drop at2)).2.1,0)).2.1):=by
   by_cases hq:(dL m (some x) (t.drop at2)).2.2=0
   ·rw [ah (λe=>e hq)]
    intro _;have:=e3 hq;simp only;omega
   ·rw [ak hq]
    intro h;exact absurd h hq
  rw [uy] at ih;rcases hp with ⟨rfl,rfl⟩ | ⟨a,y,rfl,rfl⟩
  ·have hb0:sU none x=0:=rfl
   rw [hb0,ah (by simp)];refine ⟨at3, ?_,hfin⟩;rw [hout];exact ags [] n at' at2 t x _ (by simp at hi;omega) (by simp) k ih
  ·by_cases hb:oP y.1 x.1=0
   rotate_left
   ·have hb':sU (some y) x≠0:=hb
    rw [ak hb'];refine ⟨at2, ?_,λh=>absurd h hb⟩;have:yN (a++[y]) t at2 ([],0,sU (some y) x)=[.i .i64 0,.i .i64 (oP y.1 x.1),.s t,.i .i64 at2]:=by unfold yN;rw [ak hb'];rfl
    rw [this];have hl:((a++[y]).length:Int)=(a.length:Int)+1:=by simp
    rw [hl];rw [jD,uw] at hi;exact agt _ n a.length at' at2 t y x (by omega) (by omega) (by simp) (by simp) hb k
   ·have hb':¬ sU (some y) x≠0:=λe=>e hb
    rw [ah hb'];refine ⟨at3, ?_,hfin⟩;rw [hout];have hl:((a++[y]).length:Int)=(a.length:Int)+1:=by simp
    have hl2:((a++[y]++[x]).length:Int)=(a.length:Int)+1+1:=by simp;omega
    rw [hl];rw [hl2] at ih;rw [jD,uw] at hi;exact agv _ n a.length at' at2 t y x _ (by omega) (by omega) (by simp;omega) (by simp;omega) (by simp) hb k ih
def sZ (e:Int):List bU×Nat×Int:=([],0,e)
/-- A descriptor that stands next. -/
def iQ (s:List UInt8):List bU×Nat×Int:=
 if (aj s).2.2≠0 then sZ (aj s).2.2 else
 if (aj s).1=0 then sZ 12 else
 if 16 < (aj s).1 then sZ 13 else
 if (dL (aj s).1 none (s.drop (aj s).2.1)).2.2≠0 then sZ (dL (aj s).1 none (s.drop (aj s).2.1)).2.2 else
 ((dL (aj s).1 none (s.drop (aj s).2.1)).1,(aj s).2.1+(dL (aj s).1 none (s.drop (aj s).2.1)).2.1,0)
theorem agp (t:List UInt8) (at':Nat) (h:at'<=t.length) (ht:t.length<=100000000) :
 ∃at2:Nat,TT.lim 42 [.s t,.i .i64 at']=some [.i .i64 0,.l ((iQ (t.drop at')).1.map ent),.i .i64 (iQ (t.drop at')).2.2,.s t,.i .i64 at2]/\((iQ (t.drop at')).2.2=0->at2=at'+(iQ (t.drop at')).2.1):=by
 have k1:=zD t at' h (by omega);unfold iQ;by_cases he:(aj (t.drop at')).2.2=0;rotate_left
 ·obtain ⟨e1,e2⟩:=CY he
  rw [e1,e2] at k1;rw [ak he];generalize (aj (t.drop at')).2.2=e at *;refine ⟨at',ay rfl rfl ?_,λh=>absurd h he⟩;simp [k1,he,sZ]
 obtain ⟨v1,v2,v3,v4,_⟩:=ig he;rw [ah (λe=>e he)];rw [he] at k1;rw [cZ] at v3;rw [mD];by_cases h16:16 < (aj (t.drop at')).1
 ·have h0:¬ (aj (t.drop at')).1=0:=by omega
  have oW:(16:Int) < ((aj (t.drop at')).1:Nat):=by omega
  rw [ah h0,ak h16];generalize (aj (t.drop at')).1=n at *;generalize (aj (t.drop at')).2.1=i at *;refine ⟨at'+i,ay rfl rfl ?_,λh=>by cases h⟩;simp only [Int.natCast_add] at k1;simp [k1,h0,h16,oW,sZ]
 obtain ⟨at2,k2,e2⟩:=YG t ht (aj (t.drop at')).1 (by omega) (aj (t.drop at')).1 [] none (at'+(aj (t.drop at')).2.1) (by simp) (.inl ⟨rfl,rfl⟩) (by omega);generalize (aj (t.drop at')).1=n at *;generalize (aj (t.drop at')).2.1=i at *;by_cases h0:n=0
 ·rw [ak h0]
  have h0':((n:Int)=0)=True:=eq_true (by omega);refine ⟨at'+i,ay rfl rfl ?_,λh=>by cases h⟩;simp only [Int.natCast_add] at k1;simp [k1,h0,h0',sZ]
 rw [ah h0,ah h16];have oW:¬ (16:Int) < (n:Int):=by omega
 have w:=wrap64 (n:=(n:Int)) (by omega) (by omega);have hc:(0:Int)<=(n:Int)/\32 * (n:Int)<=281474976710656/\(n:Int)<=1152921504606846976:=by omega
 have k2':TT.lim 43 [.l [],.i .i64 n,.i .i64 0,.s t,.i .i64 ((at':Int)+(i:Int))]=_:=k2;generalize hdl:dL n none (t.drop (at'+i))=r at *;refine ⟨at2,ay rfl rfl ?_,λh=>?_⟩
 ·simp only [Int.natCast_add] at k1
  unfold yN at k2';by_cases hq:r.2.2=0
  ·simp only [hq,ne_eq,not_true_eq_false,if_false,eP] at k2' ⊢
   simp [k1,h0,h16,oW,w,hc,k2',GV.fF]
  ·simp only [hq,ne_eq,not_false_eq_true,if_true] at k2' ⊢
   simp [k1,h0,h16,oW,w,hc,k2',GV.fF,sZ]
 ·by_cases hq:r.2.2=0
  ·rw [ah (λe=>e hq)]
   have:=e2 hq;simp only;omega
  ·rw [ak hq] at h
   exact absurd h hq
def yQ (acc:List bU) (s:List UInt8) (r:List bU×Nat×Int):List GV:=if r.2.2≠0 then [.i .i64 0,.i .i64 r.2.2] else [.i .i64 1,.s (s.drop r.2.1),.l ((acc++r.1).map ent)]
theorem alX (L:List GV) (n i:Int) (s Y:List UInt8) (x:bU) (e:Int) (h:i < n) (he:¬ e=0)
 (k:TT.lim 124 [.s s]=some [ent x,.s Y,.i .i64 e]) :
 TT.lim 123 [.s s,.i .u64 n,.l L,.i .u64 i]=some [.i .i64 0,.i .i64 e]:=by
 refine ay rfl rfl ?_;simp [h,k,he]
theorem alV (L:List GV) (n:Int) (s Y:List UInt8) (x:bU) (R:List GV) (h:0 < n) (hb:2 * (L.length+1) * 32<=281474976710656/\L.length+1<=281474976710656)
 (k:TT.lim 124 [.s s]=some [ent x,.s Y,.i .i64 0])
 (ih:TT.lim 123 [.s Y,.i .u64 n,.l (L++[ent x]),.i .u64 1]=some R) :
 TT.lim 123 [.s s,.i .u64 n,.l L,.i .u64 0]=some R:=by
 have he:GV.g [.s x.1,.s x.2]=ent x:=rfl;have w1:=dX (n:=1) (by omega) (by omega);refine ay rfl rfl ?_;simp [h,k,he,GV.fF,hb,w1,ih]
theorem alW (L:List GV) (n:Int) (i:Nat) (s Y:List UInt8) (p x:bU) (b:Int) (h:(i:Int)+1 < n) (hi:i+1<=100000000) (hl:(i:Int) < L.length) (hg:L[i]? = some (ent p)) (hb:¬ b=0)
 (kb:TT.lim 127 [ent p,ent x]=some [.i .i64 b]) (k:TT.lim 124 [.s s]=some [ent x,.s Y,.i .i64 0]) :
 TT.lim 123 [.s s,.i .u64 n,.l L,.i .u64 ((i:Int)+1)]=some [.i .i64 0,.i .i64 b]:=by
 have h0:(0:Int) < (i:Int)+1:=by omega
 have w:=dX (n:=(i:Int)) (by omega) (by omega);have hl3:i < L.length:=by omega
 have hgi:L[i]=ent p:=by have:=hg;rw [dA hl3] at this;exact zN this
 have he:GV.g [.s x.1,.s x.2]=ent x:=rfl;have he2:GV.g [.s p.1,.s p.2]=ent p:=rfl;refine ay rfl rfl ?_;simp [h,k,h0,w,hl,hl3,hg,hgi,he,he2,kb,hb]
theorem alY (L:List GV) (n:Int) (i:Nat) (s Y:List UInt8) (p x:bU) (R:List GV) (h:(i:Int)+1 < n) (hi:i+1<=100000000) (hl:(i:Int) < L.length) (hl2:L.length<=100000000) (hg:L[i]? = some (ent p))
 (kb:TT.lim 127 [ent p,ent x]=some [.i .i64 0]) (k:TT.lim 124 [.s s]=some [ent x,.s Y,.i .i64 0])
 (ih:TT.lim 123 [.s Y,.i .u64 n,.l (L++[ent x]),.i .u64 ((i:Int)+1+1)]=some R) :
 TT.lim 123 [.s s,.i .u64 n,.l L,.i .u64 ((i:Int)+1)]=some R:=by
 have h0:(0:Int) < (i:Int)+1:=by omega
 have w:=dX (n:=(i:Int)) (by omega) (by omega);have w2:=dX (n:=(i:Int)+1+1) (by omega) (by omega);have hl3:i < L.length:=by omega
 have hgi:L[i]=ent p:=by have:=hg;rw [dA hl3] at this;exact zN this
 have he:GV.g [.s x.1,.s x.2]=ent x:=rfl;have he2:GV.g [.s p.1,.s p.2]=ent p:=rfl;have hbb:2 * (L.length+1) * 32<=281474976710656/\L.length+1<=281474976710656:=by omega
 refine ay rfl rfl ?_;simp [h,k,h0,w,w2,hl,hl3,hg,hgi,he,he2,kb,GV.fF,hbb,ih]
theorem ab4 (n:Nat) (hn:n<=1000):∀ (m:Nat) (acc:List bU) (p:Option bU) (s:List UInt8),acc.length+m=n->aay acc p->s.length<=100000000->(∀x,p=some x->Dn x)->
 TT.lim 123 [.s s,.i .u64 n,.l (acc.map ent),.i .u64 acc.length]=some (yQ acc s (dL m p s))
 | 0,acc,p,s,hi,hp,h,_=>by
  have hlt:¬ ((acc.length:Int) < (n:Int)):=by omega
  unfold dL yQ;simp only [ne_eq,not_true_eq_false,if_false,pI,dF];generalize acc.map ent=L at *;refine ay rfl rfl ?_;simp [hlt]
 | m+1,acc,p,s,hi,hp,h,hsm=>by
  have k:=al1 s h;rw [MG];by_cases h1:(bI s).2.2=0;rotate_left
  ·rw [ak h1]
   have:yQ acc s ([],0,(bI s).2.2)=[.i .i64 0,.i .i64 (bI s).2.2]:=by unfold yQ;rw [ak h1]
   rw [this];exact alX _ _ _ _ _ _ _ (by omega) h1 k
  rw [ah (λe=>e h1)];rw [ak h1,h1] at k;obtain ⟨a1,a2,_,a4,a5,_⟩:=Jg h1;have hsx:Dn (bI s).1:=⟨by omega,by omega⟩
  generalize hX:(bI s).1=x at *;have ih:=ab4 n hn m (acc++[x]) (some x) (s.drop (bI s).2.1) (by rw [jD,uw];omega) (.inr ⟨acc,x,rfl,rfl⟩) (by rw [cZ];omega) (λy hy=>by cases hy;exact hsx);have hout:yQ acc s (if (dL m (some x) (s.drop (bI s).2.1)).2.2≠0 then ([],0,(dL m (some x) (s.drop (bI s).2.1)).2.2) else (x::(dL m (some x) (s.drop (bI s).2.1)).1,(bI s).2.1+(dL m (some x) (s.drop (bI s).2.1)).2.1,0))=yQ (acc++[x]) (s.drop (bI s).2.1) (dL m (some x) (s.drop (bI s).2.1)):=by
   unfold yQ;by_cases hq:(dL m (some x) (s.drop (bI s).2.1)).2.2=0
   ·simp [hq]
   ·simp [hq]
  rw [uy] at ih;rcases hp with ⟨rfl,rfl⟩ | ⟨a,y,rfl,rfl⟩
  ·have hb0:sU none x=0:=rfl
   rw [hb0,ah (by simp),hout];exact alV [] n s _ x _ (by simp at hi;omega) (by simp) k ih
  ·have kb:=XI y x (hsm y rfl) hsx
   have hl:((a++[y]).length:Int)=(a.length:Int)+1:=by simp
   rw [jD,uw] at hi;by_cases hb:oP y.1 x.1=0;rotate_left
   ·have hb':sU (some y) x≠0:=hb
    rw [ak hb'];have:yQ (a++[y]) s ([],0,sU (some y) x)=[.i .i64 0,.i .i64 (oP y.1 x.1)]:=by unfold yQ;rw [ak hb'];rfl
    rw [this,hl];exact alW _ n a.length s _ y x _ (by omega) (by omega) (by simp;omega) (by simp) hb kb k
   ·have hb':¬ sU (some y) x≠0:=λe=>e hb
    rw [ah hb',hout];have hl2:((a++[y]++[x]).length:Int)=(a.length:Int)+1+1:=by simp;omega
    rw [hl];rw [hl2] at ih;rw [hb] at kb;exact alY _ n a.length s _ y x _ (by omega) (by omega) (by simp;omega) (by simp;omega) (by simp) kb k ih
theorem alU (s:List UInt8) (hs:s.length<=100000000):TT.lim 122 [.s s]=some [.l ((iQ s).1.map ent),.s (if (iQ s).2.2=0 then s.drop (iQ s).2.1 else []),.i .i64 (iQ s).2.2]:=by
 have k1:=AU s (by omega);unfold iQ;by_cases he:(aj s).2.2=0;rotate_left
 ·rw [ak he]
  generalize (aj s).2.2=e at *;refine aG rfl rfl ?_ (by rfl);simp [k1,he,sZ]
 obtain ⟨v1,v2,v3,v4,_⟩:=ig he;rw [ah (λe=>e he)];rw [he] at k1;by_cases h16:16 < (aj s).1
 ·have h0:¬ (aj s).1=0:=by omega
  have oW:(16:Int) < ((aj s).1:Nat):=by omega
  rw [ah h0,ak h16];generalize (aj s).1=n at *;generalize (aj s).2.1=i at *;refine aG rfl rfl ?_ rfl;simp [k1,h0,h16,oW,sZ]
 have k2:=ab4 (aj s).1 (by omega) (aj s).1 [] none (s.drop (aj s).2.1) (by simp) (.inl ⟨rfl,rfl⟩) (by rw [cZ];omega) (λx hx=>by cases hx);have hd:(s.take s.length).drop (aj s).2.1=s.drop (aj s).2.1:=by rw [pK]
 generalize (aj s).1=n at *;generalize (aj s).2.1=i at *;by_cases h0:n=0
 ·rw [ak h0]
  have h0':((n:Int)=0)=True:=eq_true (by omega);refine aG rfl rfl ?_ rfl;simp [k1,h0,h0',sZ]
 rw [ah h0,ah h16];have oW:¬ (16:Int) < (n:Int):=by omega
 have hi:(i:Int)<=s.length:=by omega
 have k2':TT.lim 123 [.s (s.drop i),.i .u64 n,.l [],.i .u64 0]=_:=k2;unfold yQ at k2';rw [mD] at k2';generalize dL n none (s.drop i)=r at *;generalize hY:s.drop i=Y at *;by_cases hq:r.2.2=0
 ·simp only [hq,ne_eq,not_true_eq_false,if_false,eP] at k2' ⊢
  generalize s.drop (i+r.2.1)=Z at *;refine aG rfl rfl ?_ (by rfl);simp [k1,h0,h16,oW,hi,hd,hY,k2']
 ·simp only [hq,ne_eq,not_false_eq_true,if_true] at k2' ⊢
  refine aG rfl rfl ?_ (by rfl);simp [k1,h0,h16,oW,hi,hd,hY,k2',sZ,hq]
/-- A whole text, as a descriptor. -/
def jd (s:List UInt8):List bU×Int:=
 if (iQ s).2.2≠0 then ([],(iQ s).2.2) else if (iQ s).2.1 < s.length then ([],10) else ((iQ s).1,0)
theorem QO:∀ (m:Nat) (p:Option bU) (s:List UInt8),(dL m p s).2.2=0->(dL m p s).2.1<=s.length/\(dL m p s).1.length=m/\∀x∈(dL m p s).1,nZ x=0/\x.1.length<=s.length/\x.2.length<=s.length
 | 0,p,s,_=>by simp [dL]
 | m+1,p,s,h=>by
  rw [MG] at h ⊢;by_cases h1:(bI s).2.2=0;rotate_left
  ·rw [ak h1] at h;exact absurd h h1
  rw [ah (λe=>e h1)] at h ⊢;by_cases h2:sU p (bI s).1=0;rotate_left
  ·rw [ak h2] at h;exact absurd h h2
  rw [ah (λe=>e h2)] at h ⊢;by_cases h3:(dL m (some (bI s).1) (s.drop (bI s).2.1)).2.2=0;rotate_left
  ·rw [ak h3] at h;exact absurd h h3
  rw [ah (λe=>e h3)];obtain ⟨a1,a2,a3,a4,a5,_⟩:=Jg h1;obtain ⟨b1,b2,b3⟩:=QO m (some (bI s).1) _ h3;rw [cZ] at b1;refine ⟨by simp only;omega,by simp [b2],λx hx=>?_⟩;rcases dR.1 hx with rfl | hx
  ·exact ⟨a3,a4,a5⟩
  ·obtain ⟨c1,c2,c3⟩:=b3 x hx
   rw [cZ] at c2 c3;exact ⟨c1,by omega,by omega⟩
theorem YI {s:List UInt8} (h:(iQ s).2.2=0):(aj s).2.2=0/\0 < (aj s).1/\(aj s).1<=16/\(dL (aj s).1 none (s.drop (aj s).2.1)).2.2=0/\(iQ s).1=(dL (aj s).1 none (s.drop (aj s).2.1)).1/\
 (iQ s).2.1=(aj s).2.1+(dL (aj s).1 none (s.drop (aj s).2.1)).2.1/\(iQ s).2.1<=s.length:=by
 unfold iQ at h ⊢;by_cases h1:(aj s).2.2=0;rotate_left
 ·rw [ak h1] at h;exact absurd h h1
 rw [ah (λe=>e h1)] at h ⊢;by_cases h2:(aj s).1=0
 ·rw [ak h2] at h;exact absurd h (by simp [sZ])
 rw [ah h2] at h ⊢;by_cases h3:16 < (aj s).1
 ·rw [ak h3] at h;exact absurd h (by simp [sZ])
 rw [ah h3] at h ⊢;by_cases h4:(dL (aj s).1 none (s.drop (aj s).2.1)).2.2=0;rotate_left
 ·rw [ak h4] at h;exact absurd h h4
 rw [ah (λe=>e h4)];obtain ⟨v1,v2,v3,_,_⟩:=ig h1;obtain ⟨d1,_,_⟩:=QO _ _ _ h4;rw [cZ] at d1;exact ⟨h1,by omega,by omega,h4,rfl,rfl,by simp only;omega⟩
theorem YJ (s:List UInt8) (hs:s.length<=100000000):TT.lim 41 [.s s]=some [.l ((jd s).1.map ent),.i .i64 (jd s).2]:=by
 obtain ⟨at2,k,e2⟩:=agp s 0 (by omega) hs;rw [dF,show ((0:Nat):Int)=0 from rfl] at k;rw [dF] at e2;unfold jd;by_cases h1:(iQ s).2.2=0;rotate_left
 ·rw [ak h1]
  generalize iQ s=r at *;refine aG rfl rfl ?_ (by rfl);simp [k,h1]
 have e2:=e2 h1;obtain ⟨_,_,_,_,_,_,a7⟩:=YI h1;rw [ah (λe=>e h1)];rw [h1] at k;rw [iZ] at e2;have w:=wrap64 (n:=(s.length:Int) - (at2:Int)) (by omega) (by omega);rw [<- e2] at a7 ⊢;generalize iQ s=r at *;by_cases h2:at2 < s.length
 ·rw [ak h2]
  refine aG rfl rfl ?_ rfl;simp [k,w,h2]
 ·rw [ah h2]
  refine aG rfl rfl ?_ rfl;simp [k,w,h2]
theorem ab5 (s:List UInt8) (hs:s.length<=100000000):TT.lim 121 [.s s]=some [.l ((jd s).1.map ent),.i .i64 (jd s).2]:=by
 have k:=alU s hs;unfold jd;by_cases h1:(iQ s).2.2=0;rotate_left
 ·rw [ak h1]
  generalize iQ s=r at *;refine aG rfl rfl ?_ (by rfl);simp [k,h1]
 rw [ah (λe=>e h1)];rw [ak h1,h1] at k;have hd:(s.drop (iQ s).2.1=[])=¬ ((iQ s).2.1 < s.length):=by apply propext;rw [List.drop_eq_nil_iff];omega
 generalize hY:s.drop (iQ s).2.1=Y at *;generalize iQ s=r at *;by_cases h2:r.2.1 < s.length
 ·rw [ak h2]
  have hd':(Y=[])=False:=by rw [hd];simp [h2]
  clear hd;refine aG rfl rfl ?_ rfl;simp [k,hd']
 ·rw [ah h2]
  have hd':(Y=[])=True:=by rw [hd];simp [h2]
  clear hd;refine aG rfl rfl ?_ rfl;simp [k,hd']
def uU (e:Int):Row×Nat×Int:=(([],0),0,e)
/-- The row of a key, whose number stands next. -/
def dV (key s:List UInt8):Row×Nat×Int:=
 if (jd key).2≠0 then uU (jd key).2 else
 if (aj s).2.2≠0 then uU (aj s).2.2 else
 if (aj s).1=0 then uU 17 else (((jd key).1,((aj s).1:Nat)),(aj s).2.1,0)
theorem UU {key s:List UInt8} (h:(dV key s).2.2=0):(jd key).2=0/\(aj s).2.2=0/\(aj s).1≠0/\(dV key s).1=((jd key).1,(((aj s).1:Nat):Int))/\(dV key s).2.1=(aj s).2.1:=by
 unfold dV at h ⊢;by_cases h1:(jd key).2=0;rotate_left
 ·rw [ak h1] at h;exact absurd h h1
 rw [ah (λe=>e h1)] at h ⊢;by_cases h2:(aj s).2.2=0;rotate_left
 ·rw [ak h2] at h;exact absurd h h2
 rw [ah (λe=>e h2)] at h ⊢;by_cases h3:(aj s).1=0
 ·rw [ak h3] at h;exact absurd h (by simp [uU])
 rw [ah h3];exact ⟨h1,h2,h3,rfl,rfl⟩
theorem rowP (key t:List UInt8) (at':Nat) (h:at'<=t.length) (ht:t.length<=100000000) (hk:key.length<=100000000) :
 ∃at2:Nat,TT.lim 53 [.s key,.s t,.i .i64 at']=some [.i .i64 0,.l ((dV key (t.drop at')).1.1.map ent),.i .u64 (dV key (t.drop at')).1.2,.i .i64 (dV key (t.drop at')).2.2,.s t,.i .i64 at2]/\
  ((dV key (t.drop at')).2.2=0->at2=at'+(dV key (t.drop at')).2.1):=by
 have k1:=YJ key hk;have k2:=zD t at' h (by omega);unfold dV;generalize jd key=D at *;by_cases h1:D.2=0;rotate_left
 ·rw [ak h1]
  refine ⟨at',ay rfl rfl ?_,λh=>absurd h h1⟩;simp [k1,h1,uU]
 rw [ah (λe=>e h1)];by_cases h2:(aj (t.drop at')).2.2=0;rotate_left
 ·obtain ⟨e1,e2⟩:=CY h2
  rw [e1,e2] at k2;rw [ak h2];generalize aj (t.drop at')=V at *;refine ⟨at',ay rfl rfl ?_,λh=>absurd h h2⟩;simp [k1,k2,h1,h2,uU]
 rw [ah (λe=>e h2)];rw [h2] at k2;simp only [Int.natCast_add] at k2;generalize aj (t.drop at')=V at *;by_cases h3:V.1=0
 ·rw [ak h3]
  rw [h3] at k2;refine ⟨at'+V.2.1,ay rfl rfl ?_,λh=>by cases h⟩;simp [k1,k2,h1,uU]
 ·rw [ah h3]
  refine ⟨at'+V.2.1,ay rfl rfl ?_,λ_=>rfl⟩;simp [k1,k2,h1,h3]
/-- Rows, one behind the other. -/
def dU:Nat->List UInt8->Bool->List UInt8->List Row×Nat×Int
 | 0,_,_,_=>([],0,0)
 | m+1,a,first,s=>if (aT s a first).2.2≠0 then ([],0,(aT s a first).2.2) else
  if (dV (aT s a first).1 (s.drop (aT s a first).2.1)).2.2≠0 then ([],0,(dV (aT s a first).1 (s.drop (aT s a first).2.1)).2.2) else
  if (dU m (aT s a first).1 false (s.drop ((aT s a first).2.1+(dV (aT s a first).1 (s.drop (aT s a first).2.1)).2.1))).2.2≠0 then ([],0,(dU m (aT s a first).1 false (s.drop ((aT s a first).2.1+(dV (aT s a first).1 (s.drop (aT s a first).2.1)).2.1))).2.2) else
  ((dV (aT s a first).1 (s.drop (aT s a first).2.1)).1::(dU m (aT s a first).1 false (s.drop ((aT s a first).2.1+(dV (aT s a first).1 (s.drop (aT s a first).2.1)).2.1))).1,
   (aT s a first).2.1+(dV (aT s a first).1 (s.drop (aT s a first).2.1)).2.1+(dU m (aT s a first).1 false (s.drop ((aT s a first).2.1+(dV (aT s a first).1 (s.drop (aT s a first).2.1)).2.1))).2.1,0)
theorem Oy (m:Nat) (a:List UInt8) (first:Bool) (s:List UInt8):dU (m+1) a first s=if (aT s a first).2.2≠0 then ([],0,(aT s a first).2.2) else
 if (dV (aT s a first).1 (s.drop (aT s a first).2.1)).2.2≠0 then ([],0,(dV (aT s a first).1 (s.drop (aT s a first).2.1)).2.2) else
 if (dU m (aT s a first).1 false (s.drop ((aT s a first).2.1+(dV (aT s a first).1 (s.drop (aT s a first).2.1)).2.1))).2.2≠0 then ([],0,(dU m (aT s a first).1 false (s.drop ((aT s a first).2.1+(dV (aT s a first).1 (s.drop (aT s a first).2.1)).2.1))).2.2) else
 ((dV (aT s a first).1 (s.drop (aT s a first).2.1)).1::(dU m (aT s a first).1 false (s.drop ((aT s a first).2.1+(dV (aT s a first).1 (s.drop (aT s a first).2.1)).2.1))).1,
  (aT s a first).2.1+(dV (aT s a first).1 (s.drop (aT s a first).2.1)).2.1+(dU m (aT s a first).1 false (s.drop ((aT s a first).2.1+(dV (aT s a first).1 (s.drop (aT s a first).2.1)).2.1))).2.1,0):=rfl
def yP (acc:List Row) (t:List UInt8) (at2:Nat) (r:List Row×Nat×Int):List GV:=if r.2.2≠0 then [.i .i64 0,.i .i64 r.2.2,.s t,.i .i64 at2] else [.i .i64 1,.l ((acc++r.1).map row),.s t,.i .i64 at2]
theorem ak7 (L:List GV) (a t X:List UInt8) (n i at' at2:Int) (first:Bool) (e:Int) (h:i < n) (hf:decide (i=0)=first) (he:¬ e=0)
 (k:TT.lim 50 [.s t,.i .i64 at',.s a,.b first]=some [.i .i64 0,.s X,.i .i64 e,.s t,.i .i64 at2]) :
 TT.lim 49 [.l L,.s a,.i .i64 n,.i .i64 i,.s t,.i .i64 at']=some [.i .i64 0,.i .i64 e,.s t,.i .i64 at2]:=by
 refine ay rfl rfl ?_;simp [h,hf,k,he]
theorem ak9 (L:List GV) (a t X:List UInt8) (D:List GV) (N:Int) (n i at' at2 at3:Int) (first:Bool) (e:Int) (h:i < n) (hf:decide (i=0)=first) (he:¬ e=0)
 (k:TT.lim 50 [.s t,.i .i64 at',.s a,.b first]=some [.i .i64 0,.s X,.i .i64 0,.s t,.i .i64 at2])
 (k2:TT.lim 53 [.s X,.s t,.i .i64 at2]=some [.i .i64 0,.l D,.i .u64 N,.i .i64 e,.s t,.i .i64 at3]) :
 TT.lim 49 [.l L,.s a,.i .i64 n,.i .i64 i,.s t,.i .i64 at']=some [.i .i64 0,.i .i64 e,.s t,.i .i64 at3]:=by
 refine ay rfl rfl ?_;simp [h,hf,k,k2,he]
theorem ak8 (L:List GV) (a t X:List UInt8) (D:List GV) (N:Int) (n i at' at2 at3:Int) (first:Bool) (R:List GV) (h:i < n) (hf:decide (i=0)=first) (hw:IntKind.i64.wrap (i+1)=i+1) (hb:L.length<=100000000)
 (k:TT.lim 50 [.s t,.i .i64 at',.s a,.b first]=some [.i .i64 0,.s X,.i .i64 0,.s t,.i .i64 at2])
 (k2:TT.lim 53 [.s X,.s t,.i .i64 at2]=some [.i .i64 0,.l D,.i .u64 N,.i .i64 0,.s t,.i .i64 at3])
 (ih:TT.lim 49 [.l (L++[.g [.l D,.i .u64 N]]),.s X,.i .i64 n,.i .i64 (i+1),.s t,.i .i64 at3]=some R) :
 TT.lim 49 [.l L,.s a,.i .i64 n,.i .i64 i,.s t,.i .i64 at']=some R:=by
 have hbb:2 * (L.length+1) * 32<=281474976710656/\L.length+1<=281474976710656:=by omega
 refine ay rfl rfl ?_;simp [h,hf,k,k2,hw,GV.fF,hbb,ih]
theorem abJ (t:List UInt8) (ht:t.length<=100000000) (n:Nat) (hn:n<=1000):∀ (m:Nat) (acc:List Row) (a:List UInt8) (at':Nat),acc.length+m=n->at'<=t.length->a.length<=at'->
 ∃at2:Nat,TT.lim 49 [.l (acc.map row),.s a,.i .i64 n,.i .i64 acc.length,.s t,.i .i64 at']=some (yP acc t at2 (dU m a (decide ((acc.length:Int)=0)) (t.drop at')))/\
  ((dU m a (decide ((acc.length:Int)=0)) (t.drop at')).2.2=0->at2=at'+(dU m a (decide ((acc.length:Int)=0)) (t.drop at')).2.1)
 | 0,acc,a,at',hi,h,ha=>by
  have hlt:¬ ((acc.length:Int) < (n:Int)):=by omega
  refine ⟨at', ?_,λ_=>by simp [dU]⟩;unfold dU yP;simp only [ne_eq,not_true_eq_false,if_false,pI];generalize acc.map row=L at *;refine ay rfl rfl ?_;simp [hlt]
 | m+1,acc,a,at',hi,h,ha=>by
  obtain ⟨at2,k,e2⟩:=ak3 t a (decide ((acc.length:Int)=0)) at' h ht (by omega);rw [Oy];generalize hf:decide ((acc.length:Int)=0)=first at *
  by_cases h1:(aT (t.drop at') a first).2.2=0;rotate_left
  ·rw [ak h1]
   refine ⟨at2, ?_,λh=>absurd h h1⟩;have:yP acc t at2 ([],0,(aT (t.drop at') a first).2.2)=[.i .i64 0,.i .i64 (aT (t.drop at') a first).2.2,.s t,.i .i64 at2]:=by unfold yP;rw [ak h1]
   rw [this];exact ak7 _ _ _ _ _ _ _ _ _ _ (by omega) hf h1 k
  rw [ah (λe=>e h1)];rw [h1] at k;have e2:=e2 h1;obtain ⟨a1,a2,a3⟩:=Oz h1;rw [cZ] at a2;have hdd:∀j,(t.drop at').drop ((aT (t.drop at') a first).2.1+j)=t.drop (at2+j):=by intro j;rw [mD,e2,iY]
  have aic:(t.drop at').drop (aT (t.drop at') a first).2.1=t.drop at2:=by rw [mD,e2]
  have hal:(aT (t.drop at') a first).1.length<=at2:=by split at a3<;>omega
  rw [hdd,aic];generalize (aT (t.drop at') a first).1=X at *;generalize (aT (t.drop at') a first).2.1=j1 at *;obtain ⟨at3,k2,e3⟩:=rowP X t at2 (by omega) ht (by omega);by_cases h2:(dV X (t.drop at2)).2.2=0;rotate_left
  ·rw [ak h2]
   refine ⟨at3, ?_,λh=>absurd h h2⟩;have:yP acc t at3 ([],0,(dV X (t.drop at2)).2.2)=[.i .i64 0,.i .i64 (dV X (t.drop at2)).2.2,.s t,.i .i64 at3]:=by unfold yP;rw [ak h2]
   rw [this];exact ak9 _ _ _ _ _ _ _ _ _ _ _ _ _ (by omega) hf h2 k k2
  rw [ah (λe=>e h2)];rw [h2] at k2;have e3:=e3 h2;obtain ⟨_,q2,_,_,q5⟩:=UU h2;obtain ⟨v1,v2,v3,_,_⟩:=ig q2;rw [cZ] at v3;have e3':at2+(dV X (t.drop at2)).2.1=at3:=e3.symm;rw [e3'];have hrow:GV.g [.l ((dV X (t.drop at2)).1.1.map ent),.i .u64 (dV X (t.drop at2)).1.2]=row (dV X (t.drop at2)).1:=rfl;obtain ⟨at4,ih,e4⟩:=abJ t ht n hn m (acc++[(dV X (t.drop at2)).1]) X at3 (by rw [jD,uw];omega) (by omega) (by omega);have hfalse:decide (((acc++[(dV X (t.drop at2)).1]).length:Int)=0)=false:=by simp;omega
  have hl:((acc++[(dV X (t.drop at2)).1]).length:Int)=(acc.length:Int)+1:=by simp
  rw [hfalse] at ih e4;rw [hl,uy] at ih;generalize (dV X (t.drop at2)).1=Q at *;generalize (dV X (t.drop at2)).2.1=j2 at *;have hout:yP acc t at4 (if (dU m X false (t.drop at3)).2.2≠0 then ([],0,(dU m X false (t.drop at3)).2.2) else (Q::(dU m X false (t.drop at3)).1,j1+j2+(dU m X false (t.drop at3)).2.1,0))=yP (acc++[Q]) t at4 (dU m X false (t.drop at3)):=by
   unfold yP;by_cases hq:(dU m X false (t.drop at3)).2.2=0
   ·simp [hq]
   ·simp [hq]
  refine ⟨at4, ?_, ?_⟩
  ·rw [hout]
   exact ak8 _ _ _ _ _ _ _ _ _ _ _ _ _ (by omega) hf (wrap64 (by omega) (by omega)) (by simp;omega) k k2 (by rw [hrow];exact ih)
  ·by_cases hq:(dU m X false (t.drop at3)).2.2=0
   ·rw [ah (λe=>e hq)]
    intro _;have:=e4 hq;simp only;omega
   ·rw [ak hq]
    intro h;exact absurd h hq
def yK (e:Int):List Row×Nat×Int:=([],0,e)
/-- A table that stands next. -/
def iK (s:List UInt8):List Row×Nat×Int:=
 if (aj s).2.2≠0 then yK (aj s).2.2 else
 if 256 < (aj s).1 then yK 13 else
 if (dU (aj s).1 [] true (s.drop (aj s).2.1)).2.2≠0 then yK (dU (aj s).1 [] true (s.drop (aj s).2.1)).2.2 else
 ((dU (aj s).1 [] true (s.drop (aj s).2.1)).1,(aj s).2.1+(dU (aj s).1 [] true (s.drop (aj s).2.1)).2.1,0)
theorem ai6 (t:List UInt8) (at':Nat) (h:at'<=t.length) (ht:t.length<=100000000) :
 ∃at2:Nat,TT.lim 48 [.s t,.i .i64 at']=some [.i .i64 0,.l ((iK (t.drop at')).1.map row),.i .i64 (iK (t.drop at')).2.2,.s t,.i .i64 at2]/\((iK (t.drop at')).2.2=0->at2=at'+(iK (t.drop at')).2.1):=by
 have k1:=zD t at' h (by omega);unfold iK;by_cases he:(aj (t.drop at')).2.2=0;rotate_left
 ·obtain ⟨e1,e2⟩:=CY he
  rw [e1,e2] at k1;rw [ak he];generalize (aj (t.drop at')).2.2=e at *;refine ⟨at',ay rfl rfl ?_,λh=>absurd h he⟩;simp [k1,he,yK]
 obtain ⟨v1,v2,v3,v4,_⟩:=ig he;rw [ah (λe=>e he)];rw [he] at k1;rw [cZ] at v3;rw [mD];by_cases h16:256 < (aj (t.drop at')).1
 ·have oW:(256:Int) < ((aj (t.drop at')).1:Nat):=by omega
  rw [ak h16];generalize (aj (t.drop at')).1=n at *;generalize (aj (t.drop at')).2.1=i at *;refine ⟨at'+i,ay rfl rfl ?_,λh=>by cases h⟩;simp only [Int.natCast_add] at k1;simp [k1,h16,oW,yK]
 obtain ⟨at2,k2,e2⟩:=abJ t ht (aj (t.drop at')).1 (by omega) (aj (t.drop at')).1 [] [] (at'+(aj (t.drop at')).2.1) (by simp) (by omega) (by simp);generalize (aj (t.drop at')).1=n at *;generalize (aj (t.drop at')).2.1=i at *;rw [ah h16];have oW:¬ (256:Int) < (n:Int):=by omega
 have w:=wrap64 (n:=(n:Int)) (by omega) (by omega);have hc:(0:Int)<=(n:Int)/\32 * (n:Int)<=281474976710656/\(n:Int)<=1152921504606846976:=by omega
 rw [show decide ((([]:List Row).length:Int)=0)=true from rfl] at k2 e2;have k2':TT.lim 49 [.l [],.s [],.i .i64 n,.i .i64 0,.s t,.i .i64 ((at':Int)+(i:Int))]=_:=k2;generalize dU n [] true (t.drop (at'+i))=r at *;refine ⟨at2,ay rfl rfl ?_,λh=>?_⟩
 ·simp only [Int.natCast_add] at k1
  unfold yP at k2';by_cases hq:r.2.2=0
  ·simp only [hq,ne_eq,not_true_eq_false,if_false,eP] at k2' ⊢
   simp [k1,h16,oW,w,hc,k2',GV.fF]
  ·simp only [hq,ne_eq,not_false_eq_true,if_true] at k2' ⊢
   simp [k1,h16,oW,w,hc,k2',GV.fF,yK]
 ·by_cases hq:r.2.2=0
  ·rw [ah (λe=>e hq)]
   have:=e2 hq;simp only;omega
  ·rw [ak hq] at h
   exact absurd h hq
def uT (acc:List Row) (s:List UInt8) (r:List Row×Nat×Int):List GV:=if r.2.2≠0 then [.i .i64 0,.i .i64 r.2.2] else [.i .i64 1,.s (s.drop r.2.1),.l ((acc++r.1).map row)]
theorem amQ (L:List GV) (a s X Y:List UInt8) (n i:Int) (first:Bool) (e:Int) (h:i < n) (hf:decide (i=0)=first) (he:¬ e=0)
 (k:TT.lim 134 [.s s,.s a,.b first]=some [.s X,.s Y,.i .i64 e]) :
 TT.lim 133 [.s s,.i .u64 n,.l L,.s a,.i .u64 i]=some [.i .i64 0,.i .i64 e]:=by
 refine ay rfl rfl ?_;simp [h,hf,k,he]
theorem amP (L:List GV) (a s X Y:List UInt8) (D:List GV) (n i:Int) (first:Bool) (e:Int) (h:i < n) (hf:decide (i=0)=first) (he:¬ e=0)
 (k:TT.lim 134 [.s s,.s a,.b first]=some [.s X,.s Y,.i .i64 0]) (k2:TT.lim 121 [.s X]=some [.l D,.i .i64 e]) :
 TT.lim 133 [.s s,.i .u64 n,.l L,.s a,.i .u64 i]=some [.i .i64 0,.i .i64 e]:=by
 refine ay rfl rfl ?_;simp [h,hf,k,k2,he]
theorem amS (L:List GV) (a s X Y:List UInt8) (D:List GV) (n i N j:Int) (first:Bool) (e:Int) (h:i < n) (hf:decide (i=0)=first) (he:¬ e=0)
 (k:TT.lim 134 [.s s,.s a,.b first]=some [.s X,.s Y,.i .i64 0]) (k2:TT.lim 121 [.s X]=some [.l D,.i .i64 0])
 (k3:TT.lim 100 [.s Y]=some [.i .u64 N,.i .i64 j,.i .i64 e]) :
 TT.lim 133 [.s s,.i .u64 n,.l L,.s a,.i .u64 i]=some [.i .i64 0,.i .i64 e]:=by
 refine ay rfl rfl ?_;simp [h,hf,k,k2,k3,he]
theorem amT (L:List GV) (a s X Y:List UInt8) (D:List GV) (n i j:Int) (first:Bool) (h:i < n) (hf:decide (i=0)=first)
 (k:TT.lim 134 [.s s,.s a,.b first]=some [.s X,.s Y,.i .i64 0]) (k2:TT.lim 121 [.s X]=some [.l D,.i .i64 0])
 (k3:TT.lim 100 [.s Y]=some [.i .u64 0,.i .i64 j,.i .i64 0]) :
 TT.lim 133 [.s s,.i .u64 n,.l L,.s a,.i .u64 i]=some [.i .i64 0,.i .i64 17]:=by
 refine ay rfl rfl ?_;simp [h,hf,k,k2,k3]
theorem amR (L:List GV) (a s X Y:List UInt8) (D:List GV) (n i N:Int) (j:Nat) (first:Bool) (R:List GV) (h:i < n) (hf:decide (i=0)=first) (hN:¬ N=0) (hw:IntKind.u64.wrap (i+1)=i+1) (hb:L.length<=100000000) (hj:j<=Y.length)
 (k:TT.lim 134 [.s s,.s a,.b first]=some [.s X,.s Y,.i .i64 0]) (k2:TT.lim 121 [.s X]=some [.l D,.i .i64 0])
 (k3:TT.lim 100 [.s Y]=some [.i .u64 N,.i .i64 j,.i .i64 0])
 (ih:TT.lim 133 [.s (Y.drop j),.i .u64 n,.l (L++[.g [.l D,.i .u64 N]]),.s X,.i .u64 (i+1)]=some R) :
 TT.lim 133 [.s s,.i .u64 n,.l L,.s a,.i .u64 i]=some R:=by
 have hbb:2 * (L.length+1) * 32<=281474976710656/\L.length+1<=281474976710656:=by omega
 have hj':(j:Int)<=Y.length:=by omega
 have hd:(Y.take Y.length).drop j=Y.drop j:=by rw [pK]
 generalize hZ:Y.drop j=Z at *;refine ay rfl rfl ?_;simp [h,hf,k,k2,k3,hN,hw,GV.fF,hbb,hj',hd,hZ,ih]
theorem aco (n:Nat) (hn:n<=1000):∀ (m:Nat) (acc:List Row) (a s:List UInt8),acc.length+m=n->a.length+s.length<=100000000->
 TT.lim 133 [.s s,.i .u64 n,.l (acc.map row),.s a,.i .u64 acc.length]=some (uT acc s (dU m a (decide ((acc.length:Int)=0)) s))
 | 0,acc,a,s,hi,h=>by
  have hlt:¬ ((acc.length:Int) < (n:Int)):=by omega
  unfold dU uT;simp only [ne_eq,not_true_eq_false,if_false,pI,dF];generalize acc.map row=L at *;refine ay rfl rfl ?_;simp [hlt]
 | m+1,acc,a,s,hi,h=>by
  have k:=al6 s a (decide ((acc.length:Int)=0)) (by omega) (by omega);rw [Oy];generalize hf:decide ((acc.length:Int)=0)=first at *
  by_cases h1:(aT s a first).2.2=0;rotate_left
  ·rw [ak h1]
   have:uT acc s ([],0,(aT s a first).2.2)=[.i .i64 0,.i .i64 (aT s a first).2.2]:=by unfold uT;rw [ak h1]
   rw [this];exact amQ _ _ _ _ _ _ _ _ _ (by omega) hf h1 k
  rw [ah (λe=>e h1)];rw [ak h1,h1] at k;obtain ⟨a1,a2,a3⟩:=Oz h1;have hal:(aT s a first).1.length+(s.length - (aT s a first).2.1)<=a.length+s.length:=by split at a3<;>omega
  have hdd:∀j,s.drop ((aT s a first).2.1+j)=(s.drop (aT s a first).2.1).drop j:=by intro j;rw [mD]
  rw [hdd];have hYl:(s.drop (aT s a first).2.1).length=s.length - (aT s a first).2.1:=cZ;generalize hX:(aT s a first).1=X at *;generalize hj1:(aT s a first).2.1=j1 at *;generalize hY:s.drop j1=Y at *;have kd:=ab5 X (by omega);have kv:=AU Y (by omega);have Sj:∀e,e≠0->uT acc s ([],0,e)=[.i .i64 0,.i .i64 e]:=by intro e he;unfold uT;rw [ak he]
  by_cases c1:(jd X).2=0;rotate_left
  ·have:dV X Y=uU (jd X).2:=by unfold dV;rw [ak c1]
   rw [this,ak (show (uU (jd X).2).2.2≠0 from c1)];show _=some (uT acc s ([],0,(jd X).2))
   rw [Sj _ c1];exact amP _ _ _ _ _ _ _ _ _ _ (by omega) hf c1 k kd
  by_cases c2:(aj Y).2.2=0;rotate_left
  ·have:dV X Y=uU (aj Y).2.2:=by unfold dV;rw [ah (λe=>e c1),ak c2]
   rw [this,ak (show (uU (aj Y).2.2).2.2≠0 from c2)];show _=some (uT acc s ([],0,(aj Y).2.2))
   rw [Sj _ c2];rw [c1] at kd;exact amS _ _ _ _ _ _ _ _ _ _ _ _ (by omega) hf c2 k kd kv
  by_cases c3:(aj Y).1=0
  ·have:dV X Y=uU 17:=by unfold dV;rw [ah (λe=>e c1),ah (λe=>e c2),ak c3]
   rw [this,ak (by simp [uU])];show _=some (uT acc s ([],0,17))
   rw [Sj _ (by decide)];rw [c1] at kd;rw [c2,c3] at kv;exact amT _ _ _ _ _ _ _ _ _ _ (by omega) hf k kd kv
  have hq:dV X Y=(((jd X).1,(((aj Y).1:Nat):Int)),(aj Y).2.1,0):=by unfold dV;rw [ah (λe=>e c1),ah (λe=>e c2),ah c3]
  obtain ⟨v1,v2,v3,_,_⟩:=ig c2;rw [hq,ah (by simp)];simp only;rw [c1] at kd;rw [c2] at kv;have ih:=aco n hn m (acc++[((jd X).1,(((aj Y).1:Nat):Int))]) X (Y.drop (aj Y).2.1) (by rw [jD,uw];omega) (by rw [cZ];omega);have hfalse:decide (((acc++[((jd X).1,(((aj Y).1:Nat):Int))]).length:Int)=0)=false:=by simp;omega
  have hl:((acc++[((jd X).1,(((aj Y).1:Nat):Int))]).length:Int)=(acc.length:Int)+1:=by simp
  rw [hfalse,hl,uy] at ih;have hsd:∀z,s.drop (j1+(aj Y).2.1+z)=(Y.drop (aj Y).2.1).drop z:=by intro z;rw [<- hY,mD,mD];congr 1;omega
  have hout:uT acc s (if (dU m X false (Y.drop (aj Y).2.1)).2.2≠0 then ([],0,(dU m X false (Y.drop (aj Y).2.1)).2.2) else (((jd X).1,(((aj Y).1:Nat):Int))::(dU m X false (Y.drop (aj Y).2.1)).1,j1+(aj Y).2.1+(dU m X false (Y.drop (aj Y).2.1)).2.1,0)) =
   uT (acc++[((jd X).1,(((aj Y).1:Nat):Int))]) (Y.drop (aj Y).2.1) (dU m X false (Y.drop (aj Y).2.1)):=by
   unfold uT;by_cases hq:(dU m X false (Y.drop (aj Y).2.1)).2.2=0
   ·simp only [hq,ne_eq,not_true_eq_false,if_false,hsd]
    simp
   ·simp [hq]
  rw [hout];exact amR _ _ _ _ _ _ _ _ _ _ _ _ (by omega) hf (by omega) (dX (by omega) (by omega)) (by simp;omega) v3 k kd kv ih
theorem al5 (s:List UInt8) (hs:s.length<=100000000):TT.lim 132 [.s s]=some [.l ((iK s).1.map row),.s (if (iK s).2.2=0 then s.drop (iK s).2.1 else []),.i .i64 (iK s).2.2]:=by
 have k1:=AU s (by omega);unfold iK;by_cases he:(aj s).2.2=0;rotate_left
 ·rw [ak he]
  generalize (aj s).2.2=e at *;refine aG rfl rfl ?_ (by rfl);simp [k1,he,yK]
 obtain ⟨v1,v2,v3,v4,_⟩:=ig he;rw [ah (λe=>e he)];rw [he] at k1;by_cases h16:256 < (aj s).1
 ·have oW:(256:Int) < ((aj s).1:Nat):=by omega
  rw [ak h16];generalize (aj s).1=n at *;generalize (aj s).2.1=i at *;refine aG rfl rfl ?_ rfl;simp [k1,h16,oW,yK]
 have k2:=aco (aj s).1 (by omega) (aj s).1 [] [] (s.drop (aj s).2.1) (by simp) (by rw [cZ];simp;omega);have hd:(s.take s.length).drop (aj s).2.1=s.drop (aj s).2.1:=by rw [pK]
 generalize (aj s).1=n at *;generalize (aj s).2.1=i at *;rw [ah h16];have oW:¬ (256:Int) < (n:Int):=by omega
 have hi:(i:Int)<=s.length:=by omega
 rw [show decide ((([]:List Row).length:Int)=0)=true from rfl] at k2;have k2':TT.lim 133 [.s (s.drop i),.i .u64 n,.l [],.s [],.i .u64 0]=_:=k2;unfold uT at k2';rw [mD] at k2';generalize dU n [] true (s.drop i)=r at *;generalize hY:s.drop i=Y at *;by_cases hq:r.2.2=0
 ·simp only [hq,ne_eq,not_true_eq_false,if_false,eP] at k2' ⊢
  generalize s.drop (i+r.2.1)=Z at *;refine aG rfl rfl ?_ (by rfl);simp [k1,h16,oW,hi,hd,hY,k2']
 ·simp only [hq,ne_eq,not_false_eq_true,if_true] at k2' ⊢
  refine aG rfl rfl ?_ (by rfl);simp [k1,h16,oW,hi,hd,hY,k2',yK,hq]
/-- A whole text, as a table. -/
def lQ (s:List UInt8):List Row×Int:=
 if (iK s).2.2≠0 then ([],(iK s).2.2) else if (iK s).2.1 < s.length then ([],10) else ((iK s).1,0)
theorem UK:∀ (m:Nat) (a:List UInt8) (first:Bool) (s:List UInt8),(dU m a first s).2.2=0->(dU m a first s).2.1<=s.length/\(dU m a first s).1.length=m
 | 0,a,first,s,_=>by simp [dU]
 | m+1,a,first,s,h=>by
  rw [Oy] at h ⊢;by_cases h1:(aT s a first).2.2=0;rotate_left
  ·rw [ak h1] at h;exact absurd h h1
  rw [ah (λe=>e h1)] at h ⊢;by_cases h2:(dV (aT s a first).1 (s.drop (aT s a first).2.1)).2.2=0;rotate_left
  ·rw [ak h2] at h;exact absurd h h2
  rw [ah (λe=>e h2)] at h ⊢;by_cases h3:(dU m (aT s a first).1 false (s.drop ((aT s a first).2.1+(dV (aT s a first).1 (s.drop (aT s a first).2.1)).2.1))).2.2=0;rotate_left
  ·rw [ak h3] at h;exact absurd h h3
  rw [ah (λe=>e h3)];obtain ⟨a1,a2,_⟩:=Oz h1;obtain ⟨_,q2,_,_,q5⟩:=UU h2;obtain ⟨v1,v2,v3,_,_⟩:=ig q2;rw [cZ] at v3;obtain ⟨b1,b2⟩:=UK m _ _ _ h3;rw [cZ] at b1;exact ⟨by simp only;omega,by simp [b2]⟩
theorem aau {s:List UInt8} (h:(iK s).2.2=0):(aj s).2.2=0/\(aj s).1<=256/\(dU (aj s).1 [] true (s.drop (aj s).2.1)).2.2=0/\(iK s).1=(dU (aj s).1 [] true (s.drop (aj s).2.1)).1/\
 (iK s).2.1=(aj s).2.1+(dU (aj s).1 [] true (s.drop (aj s).2.1)).2.1/\(iK s).2.1<=s.length:=by
 unfold iK at h ⊢;by_cases h1:(aj s).2.2=0;rotate_left
 ·rw [ak h1] at h;exact absurd h h1
 rw [ah (λe=>e h1)] at h ⊢;by_cases h3:256 < (aj s).1
 ·rw [ak h3] at h;exact absurd h (by simp [yK])
 rw [ah h3] at h ⊢;by_cases h4:(dU (aj s).1 [] true (s.drop (aj s).2.1)).2.2=0;rotate_left
 ·rw [ak h4] at h;exact absurd h h4
 rw [ah (λe=>e h4)];obtain ⟨v1,v2,v3,_,_⟩:=ig h1;obtain ⟨d1,_⟩:=UK _ _ _ _ h4;rw [cZ] at d1;exact ⟨h1,by omega,h4,rfl,rfl,by simp only;omega⟩
theorem aqx (s:List UInt8) (hs:s.length<=100000000):TT.lim 47 [.s s]=some [.l ((lQ s).1.map row),.i .i64 (lQ s).2]:=by
 obtain ⟨at2,k,e2⟩:=ai6 s 0 (by omega) hs;rw [dF,show ((0:Nat):Int)=0 from rfl] at k;rw [dF] at e2;unfold lQ;by_cases h1:(iK s).2.2=0;rotate_left
 ·rw [ak h1]
  generalize iK s=r at *;refine aG rfl rfl ?_ (by rfl);simp [k,h1]
 have e2:=e2 h1;obtain ⟨_,_,_,_,_,a7⟩:=aau h1;rw [ah (λe=>e h1)];rw [h1] at k;rw [iZ] at e2;have w:=wrap64 (n:=(s.length:Int) - (at2:Int)) (by omega) (by omega);rw [<- e2] at a7 ⊢;generalize iK s=r at *;by_cases h2:at2 < s.length
 ·rw [ak h2]
  refine aG rfl rfl ?_ rfl;simp [k,w,h2]
 ·rw [ah h2]
  refine aG rfl rfl ?_ rfl;simp [k,w,h2]
theorem am3 (s:List UInt8) (hs:s.length<=100000000):TT.lim 131 [.s s]=some [.l ((lQ s).1.map row),.i .i64 (lQ s).2]:=by
 have k:=al5 s hs;unfold lQ;by_cases h1:(iK s).2.2=0;rotate_left
 ·rw [ak h1]
  generalize iK s=r at *;refine aG rfl rfl ?_ (by rfl);simp [k,h1]
 rw [ah (λe=>e h1)];rw [ak h1,h1] at k;have hd:(s.drop (iK s).2.1=[])=¬ ((iK s).2.1 < s.length):=by apply propext;rw [List.drop_eq_nil_iff];omega
 generalize hY:s.drop (iK s).2.1=Y at *;generalize iK s=r at *;by_cases h2:r.2.1 < s.length
 ·rw [ak h2]
  have hd':(Y=[])=False:=by rw [hd];simp [h2]
  clear hd;refine aG rfl rfl ?_ rfl;simp [k,hd']
 ·rw [ah h2]
  have hd':(Y=[])=True:=by rw [hd];simp [h2]
  clear hd;refine aG rfl rfl ?_ rfl;simp [k,hd']
def JY:List UInt8->List Row->List UInt8
 | _,[]=>[]
 | a,r::t=>Om a (jG r.1)++(fH r.2.toNat++JY (jG r.1) t)
/-- A table, as it is written. -/
def Ou (t:List Row):List UInt8:=fH t.length++JY [] t
def ald (t:List Row):List UInt8×Int:=if pV t≠0 then ([],pV t) else (Ou t,0)
theorem Ze {x:bU} (h:nZ x=0):x.1.length<=64/\x.2.length<=256:=by
 have hu:∀ (s:List UInt8) (lo hi:Int),fC s lo hi=0->(s.length:Int)<=hi:=by
  intro s lo hi h;unfold fC at h;split at h
  ·cases h
  ·split at h
   ·cases h
   ·omega
 unfold nZ at h;by_cases h1:fC x.1 1 64=0
 ·rw [ah (λe=>e h1)] at h
  have a:=hu _ _ _ h1;have b:=hu _ _ _ h;omega
 ·rw [ak h1] at h;exact absurd h h1
theorem ac9 {s:List UInt8} (h:(bK s).2.2=0):fH (bK s).1.length++(bK s).1=s.take (bK s).2.1:=by
 unfold bK at h ⊢;by_cases h1:(aj s).2.2=0;rotate_left
 ·rw [ak h1] at h;exact absurd h h1
 rw [ah (λe=>e h1)] at h ⊢;obtain ⟨v1,v2,v3,v4,v5⟩:=ig h1;by_cases h2:s.length - (aj s).2.1 < (aj s).1
 ·rw [ak h2] at h;cases h
 rw [ah h2];simp only [jR,cZ];rw [Di (by omega),v5,zK]
theorem agw {s:List UInt8} (h:(bI s).2.2=0):jg (bI s).1=s.take (bI s).2.1:=by
 obtain ⟨_,_,_,_,_,h1,h2,h3,h4⟩:=Jg h;rw [h3,h4];unfold jg;simp only;have p1:=ac9 h1;have p2:=ac9 h2;rw [p1,rE,p2,zK]
theorem YH:∀ (m:Nat) (p:Option bU) (s:List UInt8),(dL m p s).2.2=0->(dL m p s).1.flatMap jg=s.take (dL m p s).2.1/\kV (p.map (·.1)) (dL m p s).1=0
 | 0,p,s,_=>by simp [dL,kV]
 | m+1,p,s,h=>by
  rw [MG] at h ⊢;by_cases h1:(bI s).2.2=0;rotate_left
  ·rw [ak h1] at h;exact absurd h h1
  rw [ah (λe=>e h1)] at h ⊢;by_cases h2:sU p (bI s).1=0;rotate_left
  ·rw [ak h2] at h;exact absurd h h2
  rw [ah (λe=>e h2)] at h ⊢;by_cases h3:(dL m (some (bI s).1) (s.drop (bI s).2.1)).2.2=0;rotate_left
  ·rw [ak h3] at h;exact absurd h h3
  rw [ah (λe=>e h3)];obtain ⟨b1,b2⟩:=YH m (some (bI s).1) _ h3;obtain ⟨_,_,a3,_⟩:=Jg h1;have p1:=agw h1;refine ⟨by simp only [iW,b1,p1,zK], ?_⟩;unfold kV;rw [ah (λe=>e a3)];cases p with
  | none=>exact b2
  | some k=>
   have h2':oP k.1 (bI s).1.1=0:=h2;unfold oP at h2';simp only [gy];by_cases c1:(bI s).1.1=k.1
   ·rw [ak c1] at h2';exact absurd h2' (by decide)
   rw [ah c1] at h2' ⊢;by_cases c2:Op.bytesLess (bI s).1.1 k.1=true
   ·rw [ak c2] at h2';exact absurd h2' (by decide)
   rw [ah c2];exact b2
structure WB (d:List bU) (key:List UInt8):Prop where
 chk:pW d=0
 few:lF d=true
 ents:uq d
 put:jG d=key
theorem agq {s:List UInt8} (h:(iQ s).2.2=0) (hs:s.length<=100000000):WB (iQ s).1 (s.take (iQ s).2.1):=by
 obtain ⟨a1,a2,a3,a4,a5,a6,a7⟩:=YI h;obtain ⟨b1,b2,b3⟩:=QO _ _ _ a4;obtain ⟨c1,c2⟩:=YH _ _ _ a4;obtain ⟨v1,v2,v3,v4,v5⟩:=ig a1;rw [a5,a6];refine ⟨?_, ?_,⟨by omega,λx hx=>?_⟩, ?_⟩
 ·unfold pW
  rw [ah (by omega),ah (by omega)];exact c2
 ·unfold lF
  rw [aJ,decide_eq_true_iff,List.all_eq_true];refine ⟨λx hx=>?_,by omega⟩;obtain ⟨e1,e2⟩:=Ze (b3 x hx).1;unfold Af;rw [decide_eq_true_iff];omega
 ·obtain ⟨e1,e2⟩:=Ze (b3 x hx).1
  omega
 ·unfold jG
  rw [b2,v5,c1,zK]
theorem YK {s:List UInt8} (h:(jd s).2=0) (hs:s.length<=100000000):WB (jd s).1 s:=by
 unfold jd at h ⊢;by_cases h1:(iQ s).2.2=0;rotate_left
 ·rw [ak h1] at h;exact absurd h h1
 rw [ah (λe=>e h1)] at h ⊢;by_cases h2:(iQ s).2.1 < s.length
 ·rw [ak h2] at h;exact absurd h (by simp)
 rw [ah h2];have:=agq h1 hs;rw [mG (by omega)] at this;exact this
theorem ak4 {s a:List UInt8} {first:Bool} (h:(aT s a first).2.2=0) (hf:first=true->a=[]):Om a (aT s a first).1=s.take (aT s a first).2.1/\(first=false->a < (aT s a first).1):=by
 have ha:(if first=true then [] else a)=a:=by
  cases first with
  | true=>rw [ak rfl,hf rfl]
  | false=>rfl
 unfold aT at h ⊢;simp only [ha] at h ⊢;by_cases h1:(aj s).2.2=0;rotate_left
 ·rw [ak h1] at h;exact absurd h h1
 rw [ah (λe=>e h1)] at h ⊢;by_cases h2:a.length < (aj s).1
 ·rw [ak h2] at h;exact absurd h (by simp [gJ])
 rw [ah h2] at h ⊢;by_cases h3:(aj (s.drop (aj s).2.1)).2.2=0;rotate_left
 ·rw [ak h3] at h;exact absurd h h3
 rw [ah (λe=>e h3)] at h ⊢;by_cases h4:s.length - ((aj s).2.1+(aj (s.drop (aj s).2.1)).2.1) < (aj (s.drop (aj s).2.1)).1
 ·rw [ak h4] at h;exact absurd h (by simp [gJ])
 rw [ah h4] at h ⊢;obtain ⟨v1,v2,v3,v4,v5⟩:=ig h1;obtain ⟨u1,u2,u3,u4,u5⟩:=ig h3;have hx:((s.drop ((aj s).2.1+(aj (s.drop (aj s).2.1)).2.1)).take (aj (s.drop (aj s).2.1)).1).length=(aj (s.drop (aj s).2.1)).1:=by
  rw [jR,cZ];omega
 generalize hX:(s.drop ((aj s).2.1+(aj (s.drop (aj s).2.1)).2.1)).take (aj (s.drop (aj s).2.1)).1=X at *;by_cases h5:first=false/\Op.bytesLess a (a.take (aj s).1++X)=false
 ·rw [ak h5] at h;exact absurd h (by simp [gJ])
 rw [ah h5] at h ⊢;by_cases h6:(aj s).1 < common a (a.take (aj s).1++X)
 ·rw [ak h6] at h;exact absurd h (by simp [gJ])
 rw [ah h6];have hge:=QI (aj s).1 a X (by omega);have hc:common a (a.take (aj s).1++X)=(aj s).1:=by omega
 refine ⟨?_,λhf=>?_⟩
 ·unfold Om
  simp only [hc];have hl:(a.take (aj s).1++X).length - (aj s).1=(aj (s.drop (aj s).2.1)).1:=by
   rw [jD,jR,hx];omega
  have hd:(a.take (aj s).1++X).drop (aj s).1=X:=by
   rw [P8 (by rw [jR];omega)];rw [dQ (by rw [jR];omega)];rfl
  rw [hl,hd,v5,u5,<- hX];rw [zK,zK,<- mD]
 ·simp only [hf,true_and] at h5
  rw [<- yx];simpa using h5
theorem abK:∀ (m:Nat) (a:List UInt8) (first:Bool) (s:List UInt8),(dU m a first s).2.2=0->(first=true->a=[])->a.length+s.length<=100000000->
 JY a (dU m a first s).1=s.take (dU m a first s).2.1/\Dk (dU m a first s).1/\(first=false->∀r∈(dU m a first s).1,a < K r)/\(∀r∈(dU m a first s).1,pF r=0/\lF r.1=true/\uq r.1/\0<=r.2/\r.2 < 18446744073709551616)
 | 0,a,first,s,_,_,_=>by simp [dU,JY,Dk]
 | m+1,a,first,s,h,hf,hl=>by
  rw [Oy] at h ⊢;by_cases h1:(aT s a first).2.2=0;rotate_left
  ·rw [ak h1] at h;exact absurd h h1
  rw [ah (λe=>e h1)] at h ⊢;by_cases h2:(dV (aT s a first).1 (s.drop (aT s a first).2.1)).2.2=0;rotate_left
  ·rw [ak h2] at h;exact absurd h h2
  rw [ah (λe=>e h2)] at h ⊢;by_cases h3:(dU m (aT s a first).1 false (s.drop ((aT s a first).2.1+(dV (aT s a first).1 (s.drop (aT s a first).2.1)).2.1))).2.2=0;rotate_left
  ·rw [ak h3] at h;exact absurd h h3
  rw [ah (λe=>e h3)];obtain ⟨a1,a2,a3⟩:=Oz h1;obtain ⟨p1,p2⟩:=ak4 h1 hf;obtain ⟨q1,q2,q3,q4,q5⟩:=UU h2;have hxl:(aT s a first).1.length<=a.length+(aT s a first).2.1:=by
   cases first<;>simp at a3<;>omega
  obtain ⟨v1,v2,v3,v4,v5⟩:=ig q2;have dk:=YK q1 (by omega);obtain ⟨b1,b2,b3,b4⟩:=abK m _ false _ h3 (λe=>by cases e) (by rw [cZ];omega);have hK:K (dV (aT s a first).1 (s.drop (aT s a first).2.1)).1=(aT s a first).1:=by rw [q4];exact dk.put
  have hN:(dV (aT s a first).1 (s.drop (aT s a first).2.1)).1.2.toNat=(aj (s.drop (aT s a first).2.1)).1:=by rw [q4];simp
  simp only;refine ⟨?_, ?_,λD8 r hr=>?_,λr hr=>?_⟩
  ·show Om a (K _)++(fH _++JY (K _) _)=_
   rw [hK,hN,b1,p1,v5,<- q5];rw [zK,zK,rE]
  ·refine KJ.2 ⟨λr hr=>?_,b2⟩
   rw [hK];exact b3 rfl r hr
  ·rcases dR.1 hr with rfl | hr
   ·rw [hK];exact p2 D8
   ·exact Ie (p2 D8) (b3 rfl r hr)
  ·rcases dR.1 hr with rfl | hr
   ·rw [q4]
    refine ⟨?_,dk.few,dk.ents,by simp only;omega,by simp only;omega⟩;rw [acn];exact ⟨dk.chk,by simp only;omega⟩
   ·exact b4 r hr
structure zT (t:List Row):Prop where
 ok:Ok t
 few:vk t
 rows:Rows t
theorem zT.tb {t:List Row} (h:zT t):pV t=0:=(aeE t).2 h.ok
theorem ai7 {s:List UInt8} (h:(iK s).2.2=0) (hs:s.length<=100000000):Ou (iK s).1=s.take (iK s).2.1/\zT (iK s).1:=by
 obtain ⟨a1,a2,a3,a4,a5,a6⟩:=aau h;obtain ⟨v1,v2,v3,v4,v5⟩:=ig a1;obtain ⟨l1,l2⟩:=UK _ _ _ _ a3;obtain ⟨b1,b2,_,b4⟩:=abK _ _ _ _ a3 (λ_=>rfl) (by rw [cZ];simp;omega);rw [a4,a5];refine ⟨?_,⟨by omega,b2,λr hr=>(b4 r hr).1⟩,λr hr=>(b4 r hr).2.1,by omega,λr hr=>(b4 r hr).2.2⟩;unfold Ou;rw [l2,v5,b1,zK]
theorem adg:zT []:=⟨⟨by simp,List.Pairwise.nil,by simp⟩,λr hr=>by simp at hr,by simp,by simp⟩
theorem aqy {s:List UInt8} (hs:s.length<=100000000):zT (lQ s).1/\((lQ s).2=0->Ou (lQ s).1=s)/\((lQ s).2≠0->(lQ s).1=[]):=by
 unfold lQ;by_cases h1:(iK s).2.2=0;rotate_left
 ·rw [ak h1]
  exact ⟨adg,λh=>absurd h h1,λ_=>rfl⟩
 rw [ah (λe=>e h1)];by_cases h2:(iK s).2.1 < s.length
 ·rw [ak h2]
  exact ⟨adg,λh=>absurd h (by decide),λ_=>rfl⟩
 rw [ah h2];obtain ⟨b1,b2⟩:=ai7 h1 hs;rw [mG (by omega)] at b1;exact ⟨b2,λ_=>b1,λh=>absurd rfl h⟩
theorem zT.len {t:List Row} (h:zT t):t.length<=256:=h.ok.1
theorem zT.good {t:List Row} (h:zT t):vw t:=⟨Nat.le_trans h.len (by decide),h.few,h.rows⟩
end V
end Go.Proofs.YthgifdbaegpbpaaGreatDoor
