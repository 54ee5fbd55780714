/- What the trees compute: plain laws. -/
import Derived.Test.YtcpfjpcdcafjmaaGreatDoorKCe1
namespace Go.Proofs.YtcpfjpcdcafjmaaGreatDoor
open Go Go.aN
set_option linter.unusedSimpArgs false
set_option linter.unusedVariables false
set_option maxRecDepth 100000
namespace C
def common:List UInt8->List UInt8->Nat
 | a::x,b::y=>if a=b then common x y+1 else 0
 | _,_=>0
theorem LH (b:List UInt8):common [] b=0:=by unfold common;rfl
theorem aev (a:List UInt8):common a []=0:=by cases a<;>rfl
theorem IJ:∀a b:List UInt8,common a b<=a.length/\common a b<=b.length
 | [],b=>by simp [common]
 | _::_,[]=>by simp [common]
 | a::x,b::y=>by
   unfold common;have:=IJ x y;split
   ·simp only [lq];omega
   ·omega
theorem Yj (a b:List UInt8) (ha:a.length<=140737488351232) (hb:b.length<=140737488351232):∀m i:Nat,i+m=a.length->TT.lim 42 [.s a,.s b,.i .i64 i]=some [.i .i64 0,.i .i64 ((i+common (a.drop i) (b.drop i):Nat):Int)]
 | 0,i,hi=>by
   have h0:a.drop i=[]:=eY (by omega);have h:¬ ((i:Int) < a.length):=by omega
   refine aC rfl rfl ?_;simp [h,h0,LH]
 | m+1,i,hi=>by
   have hlt:i < a.length:=by omega
   have h:((i:Int) < a.length):=by omega
   by_cases hlb:i < b.length;rotate_left
   ·have h0:b.drop i=[]:=eY (by omega)
    have h1:¬ ((i:Int) < b.length):=by omega
    refine aC rfl rfl ?_;simp [h,h0,h1,aev]
   have hb1:((i:Int) < b.length):=by omega
   have ih:TT.lim 42 [.s a,.s b,.i .i64 ((i:Int)+1)]=_:=Yj a b ha hb m (i+1) (by omega);have hw:=wrap64 (n:=(i:Int)+1) (by omega) (by omega);rw [fZ hlt,fZ hlb];unfold common;by_cases e:a[i]=b[i]
   ·rw [ak e]
    have e':((a[i].toNat:Int)=(b[i].toNat:Int))=True:=eq_true (by rw [e]);have e2:((i+(common (a.drop (i+1)) (b.drop (i+1))+1):Nat):Int)=((i+1+common (a.drop (i+1)) (b.drop (i+1)):Nat):Int):=by omega
    rw [e2];refine aC rfl rfl ?_;simp [h,hlt,hlb,hb1,e',hw,ih]
   ·rw [ah e]
    have e':¬ (a[i].toNat:Int)=(b[i].toNat:Int):=λh=>e (KF.1 (by omega));refine aC rfl rfl ?_;simp [h,hlt,hlb,hb1,e']
theorem QE (a b:List UInt8) (ha:a.length<=140737488351232) (hb:b.length<=140737488351232):TT.lim 41 [.s a,.s b]=some [.i .i64 (common a b)]:=by
 have k:TT.lim 42 [.s a,.s b,.i .i64 0]=_:=Yj a b ha hb a.length 0 (by omega);rw [dJ,dJ,iW] at k;refine aA rfl rfl ?_ rfl;simp [k]
theorem abQ (a b:List UInt8) (ha:a.length<=140737488351232) (hb:b.length<=140737488351232):∀m i:Nat,i+m=a.length->
 TT.lim 102 [.s a,.s b,.i .i64 i]=some (if common (a.drop i) (b.drop i) < a.length - i/\common (a.drop i) (b.drop i) < b.length - i then [.i .i64 0,.i .i64 ((i+common (a.drop i) (b.drop i):Nat):Int)] else [.i .i64 1])
 | 0,i,hi=>by
   have h0:a.drop i=[]:=eY (by omega);have h:¬ ((i:Int) < a.length):=by omega
   have h2:¬ (common ([]:List UInt8) (b.drop i) < a.length - i/\common [] (b.drop i) < b.length - i):=by omega
   rw [h0,ah h2];refine aC rfl rfl ?_;simp [h]
 | m+1,i,hi=>by
   have hlt:i < a.length:=by omega
   have h:((i:Int) < a.length):=by omega
   by_cases hlb:i < b.length;rotate_left
   ·have h1:¬ ((i:Int) < b.length):=by omega
    rw [ah (by omega)];refine aC rfl rfl ?_;simp [h,h1]
   have hb1:((i:Int) < b.length):=by omega
   have ih:TT.lim 102 [.s a,.s b,.i .i64 ((i:Int)+1)]=_:=abQ a b ha hb m (i+1) (by omega);have hw:=wrap64 (n:=(i:Int)+1) (by omega) (by omega);have hc:common (a.drop i) (b.drop i)=if a[i]=b[i] then common (a.drop (i+1)) (b.drop (i+1))+1 else 0:=by
    rw [fZ hlt,fZ hlb];rfl
   rw [hc];by_cases e:a[i]=b[i]
   ·rw [ak e]
    have e':((a[i].toNat:Int)=(b[i].toNat:Int))=True:=eq_true (by rw [e]);have e2:((i+(common (a.drop (i+1)) (b.drop (i+1))+1):Nat):Int)=((i+1+common (a.drop (i+1)) (b.drop (i+1)):Nat):Int):=by omega
    have e3:(common (a.drop (i+1)) (b.drop (i+1))+1 < a.length - i/\common (a.drop (i+1)) (b.drop (i+1))+1 < b.length - i)=(common (a.drop (i+1)) (b.drop (i+1)) < a.length - (i+1)/\common (a.drop (i+1)) (b.drop (i+1)) < b.length - (i+1)):=by
     apply propext;omega
    rw [e2];simp only [e3];refine aC rfl rfl ?_;simp [-Int.natCast_add,h,hlt,hlb,hb1,e',hw,ih]
   ·rw [ah e]
    have e':¬ (a[i].toNat:Int)=(b[i].toNat:Int):=λh=>e (KF.1 (by omega));rw [ak (by omega)];refine aC rfl rfl ?_;simp [h,hlt,hlb,hb1,e']
theorem abR (a b:List UInt8) (ha:a.length<=140737488351232) (hb:b.length<=140737488351232):TT.lim 101 [.s a,.s b]=some [.i .i64 (common a b)]:=by
 have k:TT.lim 102 [.s a,.s b,.i .i64 0]=_:=abQ a b ha hb a.length 0 (by omega);rw [dJ,dJ,iW,yc,yc] at k;have hl:=IJ a b;refine aA rfl rfl ?_ rfl;by_cases hc:common a b < a.length/\common a b < b.length
 ·rw [ak hc] at k
  simp [k]
 ·rw [ah hc] at k
  by_cases h2:(b.length:Int) < a.length
  ·have:(common a b:Int)=b.length:=by omega
   simp [k,h2,this]
  ·have:(common a b:Int)=a.length:=by omega
   simp [k,h2,this]
/-- A text behind another one, as it is written. -/
def rF (a s:List UInt8):List UInt8:=cO (common a s)++cO (s.length - common a s)++s.drop (common a s)
theorem aiU (a s:List UInt8) (ha:a.length<=100000000) (hs:s.length<=100000000):TT.lim 40 [.s a,.s s]=some [.s (rF a s)]:=by
 have k:=QE a s (by omega) (by omega);have hl:=IJ a s;have p1:=DZ (common a s) (by omega);have p2:=DZ (s.length - common a s) (by omega);have l1:=mP (n:=common a s) (by omega);have l2:=mP (n:=s.length - common a s) (by omega);have w1:=eH (n:=(common a s:Int)) (by omega) (by omega);have w2:=eH (n:=(s.length:Int) - (common a s:Int)) (by omega) (by omega);have w3:=wrap64 (n:=(s.length:Int) - (common a s:Int)) (by omega) (by omega);have e2:(s.length:Int) - (common a s:Int)=((s.length - common a s:Nat):Int):=by omega
 rw [e2] at w2 w3;refine aA rfl rfl ?_ rfl;unfold rF;generalize common a s=c at *;have h1:((cO c).length:Int)+((cO (s.length - c)).length:Int)<=9223372036854775807:=by omega
 have h2:((cO c).length:Int)+((cO (s.length - c)).length:Int)+((s.length:Int) - (c:Int))<=9223372036854775807:=by omega
 have h3:(c:Int)<=s.length:=by omega
 have h4:((s.length - c:Nat):Int)=(s.length:Int) - c:=by omega
 have hd:(s.take s.length).drop c=s.drop c:=by rw [oU]
 rw [<- e2] at w2 w3;rw [<- e2] at p2;simp [k,p1,p2,w1,w2,w3,h1,h2,h3,h4,hd]
def gQ:List UInt8->Nat
 | []=>0
 | b::r=>b.toNat % 128+128 * gQ r
def jm:Nat->List UInt8->Option Nat
 | 0,_=>none
 | _+1,[]=>none
 | n+1,b::r=>if b.toNat < 128 then some 1 else (jm n r).map (· + 1)
def oO (k:Nat) (b:Nat):Int:=if k=10/\1 < b then 3 else if 1 < k/\b=0 then 2 else 0
/-- The number that a text begins with, in how many bytes, or why there is none. -/
def ay (s:List UInt8):Nat×Nat×Int:=match jm 10 s with
 | none=>(0,0,if 10<=s.length then 3 else 1)
 | some k=>if oO k (s.getD (k - 1) 0).toNat≠0 then (0,0,oO k (s.getD (k - 1) 0).toNat) else (gQ (s.take k),k,0)
theorem JZ:∀ {n:Nat} {s:List UInt8} {k:Nat},jm n s=some k->1<=k/\k<=n/\k<=s.length/\(s.getD (k - 1) 0).toNat < 128
 | 0,s,k,h=>by simp [jm] at h
 | n+1,[],k,h=>by simp [jm] at h
 | n+1,b::r,k,h=>by
   unfold jm at h;split at h
   ·next hb=>cases h;simpa using hb
   ·obtain ⟨j,hj,rfl⟩:=aZ.1 h
    obtain ⟨h1,h2,h3,h4⟩:=JZ hj;obtain ⟨i,rfl⟩:∃i,j=i+1:=⟨j - 1,by omega⟩
    refine ⟨by omega,by omega,by simp;omega, ?_⟩;simpa using h4
theorem Wq:∀ (s:List UInt8),gQ s < 128 ^ s.length
 | []=>by simp [gQ]
 | b::r=>by
   have:=Wq r;simp only [gQ,lq,AL];omega
theorem acw (b i:Nat) (hb:b < 128) (hi:i<=9) (h9:i=9->b<=1):pI .shl .u64 (b:Int) ((7 * i:Nat):Int)=some (.i .u64 ((b * 128 ^ i:Nat):Int)):=by
 have e:min ((7 * i:Nat):Int).toNat 64=7 * i:=by simp;omega
 have e2:(2:Int) ^ (7 * i)=((128 ^ i:Nat):Int):=by rw [Int.pow_mul];simp
 have hlt:b * 128 ^ i < 18446744073709551616:=by
  rcases uY i 9 with h | h
  ·have:(128:Nat) ^ i<=128 ^ 8:=Ey (by omega) (by omega)
   have h2:b * 128 ^ i<=127 * 128 ^ 8:=Nat.mul_le_mul (by omega) this;omega
  ·have hi9:i=9:=by omega
   subst hi9;have:=h9 rfl;omega
 unfold pI;rw [ah (by omega)];show some (GV.i .u64 (IntKind.u64.wrap ((b:Int) * 2 ^ (min ((7 * i:Nat):Int).toNat 64))))=_
 rw [e,e2,<- Int.natCast_mul,eH (by omega) (by omega)]
theorem orI (a c i:Nat) (ha:a < 2 ^ i) (h:a+c * 2 ^ i < 18446744073709551616):fO .or .u64 (a:Int) ((c * 2 ^ i:Nat):Int)=some (.i .u64 ((a+c * 2 ^ i:Nat):Int)):=by
 have h1:((BitVec.ofInt 64 (a:Int) ||| BitVec.ofInt 64 ((c * 2 ^ i:Nat):Int)).toNat:Nat)=a+c * 2 ^ i:=by
  rw [BitVec.toNat_or,Aq,Aq];generalize hC:c * 2 ^ i=C at *;have e1:((a:Int) % ((2 ^ 64:Nat):Int)).toNat=a:=by omega
  have e2:((C:Int) % ((2 ^ 64:Nat):Int)).toNat=C:=by omega
  rw [e1,e2,<- hC,Nat.or_comm,AB,Hu];exact (Nat.two_pow_add_eq_or_of_lt ha c).symm
 show some (GV.i .u64 (IntKind.u64.wrap (((BitVec.ofInt 64 (a:Int) ||| BitVec.ofInt 64 ((c * 2 ^ i:Nat):Int)).toNat:Nat):Int)))=_
 rw [h1,eH (by omega) (by omega)]
theorem Gf (i:Nat):128 ^ i=2 ^ (7 * i):=by rw [Nat.pow_mul]
/-- Some number, whichever. -/
theorem acy (a b:Int) (hb:0<=b):∃r,pI .shl .u64 a b=some (.i .u64 r):=by
 unfold pI;rw [ah (by omega)];exact ⟨_,rfl⟩
theorem or_some (a b:Int):∃r,fO .or .u64 a b=some (.i .u64 r):=⟨_,rfl⟩
def zJ (s:List UInt8) (acc:Int) (i:Nat):List GV:=match jm (10 - i) (s.drop i) with
 | none=>[.i .i64 1,.s s]
 | some k=>if oO (i+k) (s.getD (i+k - 1) 0).toNat≠0 then [.i .i64 0,.i .u64 0,.i .i64 0,.i .i64 (oO (i+k) (s.getD (i+k - 1) 0).toNat)]
   else [.i .i64 0,.i .u64 (acc+((128 ^ i * gQ ((s.drop i).take k):Nat):Int)),.i .i64 ((i+k:Nat):Int),.i .i64 0]
theorem getLoop (s:List UInt8) (hs:s.length<=140737488351232):∀ (m i:Nat) (acc:Int),i+m=min s.length 10->(i<=9->0<=acc/\acc < ((128 ^ i:Nat):Int))->
 TT.lim 51 [.s s,.i .u64 acc,.i .i64 ((min s.length 10:Nat):Int),.i .i64 i]=some (zJ s acc i)
 | 0,i,acc,hi,ha=>by
   have h:¬ ((i:Int) < ((min s.length 10:Nat):Int)):=by omega
   have hv:jm (10 - i) (s.drop i)=none:=by
    rcases uY i 10 with h1 | h1
    ·have:s.drop i=[]:=eY (by omega)
     rw [this];obtain ⟨j,hj⟩:∃j,10 - i=j+1:=⟨10 - i - 1,by omega⟩
     rw [hj];rfl
    ·have:10 - i=0:=by omega
     rw [this];unfold jm;rfl
   unfold zJ;rw [hv];generalize ((min s.length 10:Nat):Int)=M at *;refine aC rfl rfl ?_;simp [h]
 | m+1,i,acc,hi,ha=>by
   have hlt:i < s.length:=by omega
   have h9:i<=9:=by omega
   have h:((i:Int) < ((min s.length 10:Nat):Int)):=by omega
   obtain ⟨a1,a2⟩:=ha h9;obtain ⟨n,rfl⟩:∃n:Nat,acc=n:=⟨acc.toNat,by omega⟩
   have hb:=(s[i]).toNat_lt;have k7:=Xr (s[i]).toNat (by omega);have w8:=eH (n:=(((s[i]).toNat % 128:Nat):Int)) (by omega) (by omega);have wi:=wrap64 (n:=7 * (i:Int)) (by omega) (by omega);have wj:=wrap64 (n:=(i:Int)+1) (by omega) (by omega);have hd:s.drop i=s[i]::s.drop (i+1):=fZ hlt;obtain ⟨j,hj⟩:∃j,10 - i=j+1:=⟨10 - i - 1,by omega⟩
   have hj':10 - (i+1)=j:=by omega
   have e7:(7 * (i:Int))=((7 * i:Nat):Int):=by omega
   have hgd:s.getD i 0=s[i]:=by simp [List.getD,hlt]
   by_cases hc:128<=(s[i]).toNat
   ·-- another one follows
    have hc':((128:Int)<=((s[i]).toNat:Int)):=by omega
    have step:∃V:Int,(i+1<=9->0<=V/\V < ((128 ^ (i+1):Nat):Int)/\V=n+(((s[i]).toNat % 128 * 128 ^ i:Nat):Int))/\(∃S,pI .shl .u64 ((((s[i]).toNat % 128:Nat)):Int) (7 * (i:Int))=some (.i .u64 S)/\fO .or .u64 (n:Int) S=some (.i .u64 V)):=by
     rcases uY i 9 with h1 | h1
     ·have k1:=acw ((s[i]).toNat % 128) i (by omega) (by omega) (by omega)
      have hp:(s[i]).toNat % 128 * 128 ^ i<=127 * 128 ^ i:=rY _ (by omega);have hpp:128 ^ (i+1)=128 * 128 ^ i:=by rw [AL,AB]
      have hq:(128:Nat) ^ i<=128 ^ 8:=Ey (by omega) (by omega);have k2:=orI n ((s[i]).toNat % 128) (7 * i) (by rw [<- Gf];omega) (by rw [<- Gf];omega);rw [<- Gf] at k2;refine ⟨_,λ_=>⟨by omega, ?_,rfl⟩,_,by rw [e7];exact k1,by rw [k2];simp⟩;rw [hpp];omega
     ·obtain ⟨S,hS⟩:=acy ((((s[i]).toNat % 128:Nat)):Int) (7 * (i:Int)) (by omega)
      obtain ⟨V,hV⟩:=or_some (n:Int) S;exact ⟨V,λh=>by omega,S,hS,hV⟩
    obtain ⟨V,hV,S,hS,hO⟩:=step;have ih:TT.lim 51 [.s s,.i .u64 V,.i .i64 ((min s.length 10:Nat):Int),.i .i64 ((i:Int)+1)]=_:=getLoop s hs m (i+1) V (by omega) (λh=>⟨(hV h).1,(hV h).2.1⟩);have hout:zJ s n i=zJ s V (i+1):=by
     unfold zJ;rw [hd,hj,hj'];have hv:jm (j+1) (s[i]::s.drop (i+1))=(jm j (s.drop (i+1))).map (· + 1):=by
      show (if (s[i]).toNat < 128 then _ else _)=_
      rw [ah (by omega)]
     rw [hv];cases hx:jm j (s.drop (i+1)) with
     | none=>rfl
     | some k=>
       obtain ⟨q1,q2,_,_⟩:=JZ hx;have hV':=hV (by omega);have e1:i+(k+1)=i+1+k:=by omega
       simp only [fQ,e1];split
       ·rfl
       ·have e2:(n:Int)+((128 ^ i * gQ ((s[i]::s.drop (i+1)).take (k+1)):Nat):Int)=V+((128 ^ (i+1) * gQ ((s.drop (i+1)).take k):Nat):Int):=by
         rw [hV'.2.2,zh];have:128 ^ i * gQ (s[i]::(s.drop (i+1)).take k)=(s[i]).toNat % 128 * 128 ^ i+128 ^ (i+1) * gQ ((s.drop (i+1)).take k):=by
          show 128 ^ i * ((s[i]).toNat % 128+128 * gQ _)=_
          rw [PZ,AL,P5,AB (128 ^ i) ((s[i]).toNat % 128)]
         rw [this];omega
        rw [e2]
    rw [hout];generalize zJ s V (i+1)=O at *;generalize ((min s.length 10:Nat):Int)=M at *;have em:(((s[i]).toNat % 128:Nat):Int)=((s[i]).toNat:Int) % 128:=by omega
    rw [em] at k7 w8 hS;refine aC rfl rfl ?_;simp [h,hlt,hc',k7,w8,wi,wj,hS,hO,ih]
   ·-- the last one
    have hc':¬ ((128:Int)<=((s[i]).toNat:Int)):=by omega
    have hv:jm (j+1) (s[i]::s.drop (i+1))=some 1:=by
     show (if (s[i]).toNat < 128 then _ else _)=_
     rw [ak (by omega)]
    have hout:zJ s n i=if oO (i+1) (s[i]).toNat≠0 then [.i .i64 0,.i .u64 0,.i .i64 0,.i .i64 (oO (i+1) (s[i]).toNat)] else [.i .i64 0,.i .u64 ((n+(s[i]).toNat * 128 ^ i:Nat):Int),.i .i64 ((i:Int)+1),.i .i64 0]:=by
     unfold zJ;rw [hd,hj,hv];have e1:i+1 - 1=i:=by omega
     have e2:128 ^ i * gQ ((s[i]::s.drop (i+1)).take 1)=(s[i]).toNat * 128 ^ i:=by
      simp only [zh,Xa,gQ];rw [Ky (by omega),AB];simp
     simp only [e1,hgd,e2];congr 1
    rw [hout];have step:∃S V,pI .shl .u64 ((((s[i]).toNat % 128:Nat)):Int) (7 * (i:Int))=some (.i .u64 S)/\fO .or .u64 (n:Int) S=some (.i .u64 V)/\(oO (i+1) (s[i]).toNat=0->V=((n+(s[i]).toNat * 128 ^ i:Nat):Int)):=by
     by_cases hbad:i=9/\1 < (s[i]).toNat
     ·obtain ⟨S,hS⟩:=acy ((((s[i]).toNat % 128:Nat)):Int) (7 * (i:Int)) (by omega)
      obtain ⟨V,hV⟩:=or_some (n:Int) S;refine ⟨S,V,hS,hV,λh=>?_⟩;unfold oO at h;rw [ak (by omega)] at h;cases h
     ·have k1:=acw ((s[i]).toNat % 128) i (by omega) (by omega) (by omega)
      have em:(s[i]).toNat % 128=(s[i]).toNat:=Ky (by omega);rw [em] at k1;have hp:(s[i]).toNat * 128 ^ i<=127 * 128 ^ i:=rY _ (by omega);have hb64:n+(s[i]).toNat * 128 ^ i < 18446744073709551616:=by
       rcases uY i 9 with h1 | h1
       ·have hq:(128:Nat) ^ i<=128 ^ 8:=Ey (by omega) (by omega)
        omega
       ·have hi9:i=9:=by omega
        have h1:(s[i]).toNat<=1:=by omega
        have hq:(128:Nat) ^ i=128 ^ 9:=by rw [hi9]
        have hp2:(s[i]).toNat * 128 ^ i<=1 * 128 ^ i:=rY _ h1;omega
      have k2:=orI n (s[i]).toNat (7 * i) (by rw [<- Gf];omega) (by rw [<- Gf];omega);rw [<- Gf] at k2;exact ⟨_,_,by rw [e7,em];exact k1,k2,λ_=>rfl⟩
    obtain ⟨S,V,hS,hO,hV⟩:=step;generalize ((n+(s[i]).toNat * 128 ^ i:Nat):Int)=R at *;generalize ((min s.length 10:Nat):Int)=M at *;have bd:oO (i+1) (s[i]).toNat=if (i:Int)=9/\(1:Int) < ((s[i]).toNat:Int) then 3 else if (0:Int) < (i:Int)/\((s[i]).toNat:Int)=0 then 2 else 0:=by
     unfold oO;congr 1
     ·apply propext;omega
     ·congr 1
      apply propext;omega
    rw [bd] at hV ⊢;have em:(((s[i]).toNat % 128:Nat):Int)=((s[i]).toNat:Int) % 128:=by omega
    rw [em] at k7 w8 hS;refine aC rfl rfl ?_
    rcases (BQ ((i:Int)=9)).imp eq_true eq_false with q1 | q1<;>rcases (BQ ((1:Int) < ((s[i]).toNat:Int))).imp eq_true eq_false with q2 | q2<;>
     rcases (BQ ((0:Int) < (i:Int))).imp eq_true eq_false with q3 | q3<;>rcases (BQ (((s[i]).toNat:Int)=0)).imp eq_true eq_false with q4 | q4
    all_goals
     have JD:(0 < i)=((0:Int) < (i:Int)):=propext (by omega);have JE:((s[i]).toNat=0)=(((s[i]).toNat:Int)=0):=propext (by omega);rw [q3] at JD;rw [q4] at JE;simp only [q1,q2,q3,q4,and_self,and_true,and_false,false_and,true_and,if_true,if_false] at hV ⊢;first
     | (have hV:=hV trivial;subst hV)
     | skip
     simp [h,hlt,hc',k7,w8,wi,wj,hS,hO,q1,q2,q3,q4,JD,JE]
theorem uG (s:List UInt8) (hs:s.length<=140737488351232):TT.lim 50 [.s s]=some [.i .u64 ((ay s).1:Nat),.i .i64 ((ay s).2.1:Nat),.i .i64 (ay s).2.2]:=by
 have k:TT.lim 51 [.s s,.i .u64 0,.i .i64 ((min s.length 10:Nat):Int),.i .i64 0]=_:=getLoop s hs (min s.length 10) 0 0 (by omega) (by simp);have hm:(if (10:Int) < (s.length:Int) then (10:Int) else (s.length:Int))=((min s.length 10:Nat):Int):=by split<;>omega
 unfold zJ at k;rw [dJ,yc] at k;unfold ay;generalize ((min s.length 10:Nat):Int)=M at *;refine aA rfl rfl ?_ rfl;cases hv:jm 10 s with
 | none=>
   rw [hv] at k;by_cases h10:10<=s.length
   ·have h1:(10:Int)<=s.length:=by omega
    simp [hm,k,h10,h1]
   ·have h1:¬ (10:Int)<=s.length:=by omega
    simp [hm,k,h10,h1]
 | some j=>
   rw [hv] at k;simp only [iW,Nat.pow_zero,Cc,J9] at k;by_cases hb:oO j (s.getD (j - 1) 0).toNat=0
   ·simp only [hb,ne_eq,not_true_eq_false,if_false] at k ⊢
    simp [hm,k]
   ·simp only [hb,ne_eq,not_false_eq_true,if_true] at k ⊢
    simp [hm,k]
theorem akr (s:List UInt8) (k i:Int) (h:¬ k=0) (h0:0<=i):TT.lim 107 [.s s,.i .i64 k,.i .i64 i]=some [.i .i64 0,.s s,.i .i64 k]:=by
 refine aC rfl rfl ?_;by_cases h1:i < s.length<;>by_cases h2:i < 10<;>simp [h,h1,h2]
theorem abZ (s:List UInt8) (hs:s.length<=140737488351232):∀m i:Nat,i+m=min s.length 10->
 TT.lim 107 [.s s,.i .i64 0,.i .i64 i]=some [.i .i64 0,.s s,.i .i64 ((match jm (10 - i) (s.drop i) with | none=>0 | some k=>i+k:Nat):Int)]
 | 0,i,hi=>by
   have hv:jm (10 - i) (s.drop i)=none:=by
    rcases uY i 10 with h1 | h1
    ·have:s.drop i=[]:=eY (by omega)
     rw [this];obtain ⟨j,hj⟩:∃j,10 - i=j+1:=⟨10 - i - 1,by omega⟩
     rw [hj];rfl
    ·have:10 - i=0:=by omega
     rw [this];unfold jm;rfl
   rw [hv];refine aC rfl rfl ?_;by_cases h1:(i:Int) < s.length
   ·have h2:¬ (i:Int) < 10:=by omega
    simp [h1,h2]
   ·simp [h1]
 | m+1,i,hi=>by
   have hlt:i < s.length:=by omega
   have h1:(i:Int) < s.length:=by omega
   have h2:(i:Int) < 10:=by omega
   have wj:=wrap64 (n:=(i:Int)+1) (by omega) (by omega);have hd:s.drop i=s[i]::s.drop (i+1):=fZ hlt;obtain ⟨j,hj⟩:∃j,10 - i=j+1:=⟨10 - i - 1,by omega⟩
   have hj':10 - (i+1)=j:=by omega
   rw [hd,hj];by_cases hc:(s[i]).toNat < 128
   ·have hc':((s[i]).toNat:Int) < 128:=by omega
    have hv:jm (j+1) (s[i]::s.drop (i+1))=some 1:=by
     show (if (s[i]).toNat < 128 then _ else _)=_
     rw [ak hc]
    rw [hv];have k:=akr s ((i:Int)+1) ((i:Int)+1) (by omega) (by omega);refine aC rfl rfl ?_;simp [h1,h2,hlt,hc',wj,k]
   ·have hc':¬ ((s[i]).toNat:Int) < 128:=by omega
    have hv:jm (j+1) (s[i]::s.drop (i+1))=(jm j (s.drop (i+1))).map (· + 1):=by
     show (if (s[i]).toNat < 128 then _ else _)=_
     rw [ah hc]
    rw [hv];have ih:TT.lim 107 [.s s,.i .i64 0,.i .i64 ((i:Int)+1)]=_:=abZ s hs m (i+1) (by omega);rw [hj'] at ih;have he:(match (jm j (s.drop (i+1))).map (· + 1) with | none=>0 | some k=>i+k:Nat)=(match jm j (s.drop (i+1)) with | none=>0 | some k=>i+1+k:Nat):=by
     cases jm j (s.drop (i+1)) with
     | none=>rfl
     | some k=>simp;omega
    rw [he];generalize (match jm j (s.drop (i+1)) with | none=>0 | some k=>i+1+k:Nat)=R at *;refine aC rfl rfl ?_;simp [h1,h2,hlt,hc',wj,ih]
theorem ab1 (s:List UInt8) (K:Nat) (hK:K<=10) (hs:K<=s.length):∀ (m i acc:Nat) (p:Int),i+m=K->(i<=9->p=((128 ^ i:Nat):Int))->acc+128 ^ i * gQ ((s.drop i).take m) < 18446744073709551616->
 TT.lim 108 [.s s,.i .i64 K,.i .u64 acc,.i .u64 p,.i .i64 i]=some [.i .i64 0,.i .i64 K,.i .u64 ((acc+128 ^ i * gQ ((s.drop i).take m):Nat):Int)]
 | 0,i,acc,p,hi,hp,hb=>by
   have h:¬ ((i:Int) < (K:Int)):=by omega
   refine aC rfl rfl ?_;simp [h,gQ]
 | m+1,i,acc,p,hi,hp,hb=>by
   have hlt:i < s.length:=by omega
   have h:((i:Int) < (K:Int)):=by omega
   have hp:=hp (by omega);subst hp;have hd:s.drop i=s[i]::s.drop (i+1):=fZ hlt;have e:128 ^ i * gQ ((s.drop i).take (m+1))=(s[i]).toNat % 128 * 128 ^ i+128 ^ (i+1) * gQ ((s.drop (i+1)).take m):=by
    rw [hd,zh];show 128 ^ i * ((s[i]).toNat % 128+128 * gQ _)=_
    rw [PZ,AL,P5,AB (128 ^ i) ((s[i]).toNat % 128)]
   rw [e] at hb ⊢;have hb8:=(s[i]).toNat_lt;have wj:=wrap64 (n:=(i:Int)+1) (by omega) (by omega)
   have ih:TT.lim 108 [.s s,.i .i64 K,.i .u64 ((acc+(s[i]).toNat % 128 * 128 ^ i:Nat):Int),.i .u64 (IntKind.u64.wrap (((128 ^ i:Nat):Int) * 128)),.i .i64 ((i:Int)+1)]=_:=
    ab1 s K hK hs m (i+1) (acc+(s[i]).toNat % 128 * 128 ^ i) _ (by omega) (λh9=>by
     have hq:(128:Nat) ^ i<=128 ^ 8:=Ey (by omega) (by omega);have h0:(0:Int)<=((128 ^ i:Nat):Int):=Int.natCast_nonneg _;have:=eH (n:=((128 ^ i:Nat):Int) * 128) (by omega) (by omega);rw [this,AL];simp) (by omega)
   have em:((s[i]).toNat:Int).tmod 128=(((s[i]).toNat % 128:Nat):Int):=by rw [WI (by omega)];omega
   have w8:=eH (n:=(((s[i]).toNat % 128:Nat):Int)) (by omega) (by omega);have hml:(s[i]).toNat % 128 * 128 ^ i < 18446744073709551616:=by omega
   have wm:IntKind.u64.wrap ((((s[i]).toNat % 128:Nat):Int) * ((128 ^ i:Nat):Int))=(((s[i]).toNat % 128 * 128 ^ i:Nat):Int):=by
    rw [<- Int.natCast_mul,eH (by omega) (by omega)]
   have wa:IntKind.u64.wrap ((acc:Int)+(((s[i]).toNat % 128 * 128 ^ i:Nat):Int))=((acc+(s[i]).toNat % 128 * 128 ^ i:Nat):Int):=by
    rw [<- Int.natCast_add,eH (by omega) (by omega)]
   rw [iV] at ih;generalize acc+((s[i]).toNat % 128 * 128 ^ i+128 ^ (i+1) * gQ ((s.drop (i+1)).take m))=TOT at *;generalize ((acc+(s[i]).toNat % 128 * 128 ^ i:Nat):Int)=A at *;generalize (((s[i]).toNat % 128 * 128 ^ i:Nat):Int)=B at *;generalize (((s[i]).toNat % 128:Nat):Int)=C at *;generalize ((128 ^ i:Nat):Int)=Q at *;refine aC rfl rfl ?_;simp [h,hlt,em,w8,wm,wa,wj,ih]
theorem Gn (s:List UInt8) (hs:s.length<=140737488351232):TT.lim 106 [.s s]=some [.i .u64 ((ay s).1:Nat),.i .i64 ((ay s).2.1:Nat),.i .i64 (ay s).2.2]:=by
 have k:TT.lim 107 [.s s,.i .i64 0,.i .i64 0]=_:=abZ s hs (min s.length 10) 0 (by omega);rw [dJ,yc] at k;unfold ay;refine aA rfl rfl ?_ rfl;cases hv:jm 10 s with
 | none=>
   rw [hv] at k;have k:TT.lim 107 [.s s,.i .i64 0,.i .i64 0]=some [.i .i64 0,.s s,.i .i64 0]:=k;by_cases h10:10<=s.length
   ·have h1:(10:Int)<=s.length:=by omega
    simp [k,h10,h1]
   ·have h1:¬ (10:Int)<=s.length:=by omega
    simp [k,h10,h1]
 | some K=>
   rw [hv] at k;obtain ⟨v1,v2,v3,v4⟩:=JZ hv;simp only [iW] at k;have hgd:s.getD (K - 1) 0=s[K - 1]'(by omega):=by simp [List.getD,show K - 1 < s.length by omega]
   rw [hgd] at v4;simp only [hgd];have hget:s[K - 1]? = some (s[K - 1]'(by omega)):=dK (by omega);have hK0:¬ ((K:Int)=0):=by omega
   have hK1:¬ (K=0):=by omega
   have hK2:(1:Int)<=(K:Int):=by omega
   have hK3:1<=K:=by omega
   have wk:=wrap64 (n:=(K:Int) - 1) (by omega) (by omega);have hkn:((K:Int) - 1).toNat=K - 1:=by omega
   have hk0:(0:Int)<=(K:Int) - 1:=by omega
   have hval:oO K (s[K - 1]'(by omega)).toNat=0->TT.lim 108 [.s s,.i .i64 K,.i .u64 0,.i .u64 1,.i .i64 0]=some [.i .i64 0,.i .i64 K,.i .u64 ((gQ (s.take K):Nat):Int)]:=by
    intro hbad;have hlt:gQ (s.take K) < 18446744073709551616:=by
     have h1:gQ (s.take K)=gQ (s.take (K - 1))+128 ^ (K - 1) * ((s[K - 1]'(by omega)).toNat % 128):=by
      have:∀ (a:List UInt8) (b:UInt8),gQ (a++[b])=gQ a+128 ^ a.length * (b.toNat % 128):=by
       intro a b;induction a with
       | nil=>simp [gQ]
       | cons c a ih=>
         simp only [eP,gQ,ih,lq,AL,PZ,iV];rw [AB (128 ^ a.length) 128,P5]
      have e:s.take K=s.take (K - 1)++[s[K - 1]'(by omega)]:=by
       obtain ⟨j,rfl⟩:∃j,K=j+1:=⟨K - 1,by omega⟩
       simp
      rw [e,this,lX,Cb (by omega)]
     have h2:=Wq (s.take (K - 1));rw [lX,Cb (by omega)] at h2;rw [h1];rcases uY K 10 with h3 | h3
     ·have hq:(128:Nat) ^ (K - 1)<=128 ^ 8:=Ey (by omega) (by omega)
      have hq2:128 ^ (K - 1) * ((s[K - 1]'(by omega)).toNat % 128)<=128 ^ (K - 1) * 127:=Kz _ (by omega);omega
     ·have hK10:K=10:=by omega
      have hb1:(s[K - 1]'(by omega)).toNat<=1:=by
       unfold oO at hbad;split at hbad
       ·cases hbad
       ·next h=>omega
      have hq:(128:Nat) ^ (K - 1)=128 ^ 9:=by rw [hK10]
      have hq2:128 ^ (K - 1) * ((s[K - 1]'(by omega)).toNat % 128)<=128 ^ (K - 1) * 1:=Kz _ (by omega);omega
    have:=ab1 s K v2 v3 K 0 0 1 (by omega) (λ_=>rfl) (by simpa using hlt);simpa using this
   have bd:oO K (s[K - 1]'(by omega)).toNat=if (K:Int)=10/\(1:Int) < ((s[K - 1]'(by omega)).toNat:Int) then 3 else if (1:Int) < (K:Int)/\((s[K - 1]'(by omega)).toNat:Int)=0 then 2 else 0:=by
    unfold oO;congr 1
    ·apply propext;omega
    ·congr 1
     apply propext;omega
   have h9:(K:Int)=10->s[9]? = some (s[K - 1]'(by omega)):=by
    intro h;have:K - 1=9:=by omega
    rw [<- this];exact hget
   obtain ⟨b,hbe⟩:∃b,s[K - 1]'(by omega)=b:=⟨_,rfl⟩
   simp only [hbe] at hval bd h9 hget ⊢;rw [bd] at hval ⊢
   rcases (BQ ((K:Int)=10)).imp eq_true eq_false with q1 | q1<;>rcases (BQ ((1:Int) < (b.toNat:Int))).imp eq_true eq_false with q2 | q2<;>
    rcases (BQ ((1:Int) < (K:Int))).imp eq_true eq_false with q3 | q3<;>rcases (BQ ((b.toNat:Int)=0)).imp eq_true eq_false with q4 | q4
   all_goals
    have q2n:(1 < b.toNat)=((1:Int) < (b.toNat:Int)):=propext (by omega);have JD:(1 < K)=((1:Int) < (K:Int)):=propext (by omega);have JE:(b.toNat=0)=((b.toNat:Int)=0):=propext (by omega);rw [q2] at q2n;rw [q3] at JD;rw [q4] at JE;simp only [q1,q2,q3,q4,and_self,and_true,and_false,false_and,true_and,if_true,if_false,ne_eq,not_true_eq_false,not_false_eq_true] at hval ⊢;first
    | (have hval:=hval trivial)
    | skip
    first
    | (have h9:=h9 (of_eq_true q1))
    | skip
    simp [k,hK0,hK1,hK2,hK3,wk,hkn,hk0,hget,h9,hval,q1,q2,q3,q4,q2n,JD,JE]
theorem aov (a:List UInt8) (b:UInt8):gQ (a++[b])=gQ a+128 ^ a.length * (b.toNat % 128):=by
 induction a with
 | nil=>simp [gQ]
 | cons c a ih=>
   simp only [eP,gQ,ih,lq,AL,PZ,iV];rw [AB (128 ^ a.length) 128,P5]
/-- Bytes that are a number's writing. -/
theorem abM:∀ (j k:Nat) (s:List UInt8),jm j s=some k->(1 < k->(s.getD (k - 1) 0)≠0)->cO (gQ (s.take k))=s.take k/\(1 < k\/s.getD (k - 1) 0≠0->gQ (s.take k)≠0)
 | 0,k,s,h,_=>by simp [jm] at h
 | j+1,k,[],h,_=>by simp [jm] at h
 | j+1,k,b::r,h,hz=>by
   unfold jm at h;split at h
   ·next hb=>
    cases h;simp only [zh,Xa,gQ,Nat.mul_zero,lZ];rw [Ky hb];refine ⟨by rw [GU hb];simp,λhh=>?_⟩;rcases hh with hh | hh
    ·omega
    ·intro e
     apply hh;simp only [xZ,List.getD_cons_zero];exact KF.1 (by simpa using e)
   ·next hb=>
    obtain ⟨i,hi,rfl⟩:=aZ.1 h;obtain ⟨q1,q2,q3,q4⟩:=JZ hi;obtain ⟨l,rfl⟩:∃l,i=l+1:=⟨i - 1,by omega⟩
    have hz':r.getD l 0≠0:=by have:=hz (by omega);simpa using this
    obtain ⟨e1,e2⟩:=abM j (l+1) r hi (λ_=>by simpa using hz');have e2:=e2 (.inr (by simpa using hz'));have hb8:=b.toNat_lt;rw [zh];simp only [gQ];refine ⟨?_,λ_=>by omega⟩;rw [J3 (by omega)];have a1:(b.toNat % 128+128 * gQ (r.take (l+1))) % 128+128=b.toNat:=by omega
    have a2:(b.toNat % 128+128 * gQ (r.take (l+1))) / 128=gQ (r.take (l+1)):=by omega
    rw [a1,a2,e1];simp
structure VOk (s:List UInt8) (n k:Nat):Prop where
 pos:1<=k
 ten:k<=10
 len:k<=s.length
 lt:n < 18446744073709551616
 put:cO n=s.take k
theorem kZ {s:List UInt8} (h:(ay s).2.2=0):VOk s (ay s).1 (ay s).2.1:=by
 unfold ay at h ⊢;cases hv:jm 10 s with
 | none=>
   rw [hv] at h;simp only at h;split at h<;>cases h
 | some k=>
   rw [hv] at h;simp only at h ⊢;obtain ⟨v1,v2,v3,v4⟩:=JZ hv;by_cases hb:oO k (s.getD (k - 1) 0).toNat=0
   ·simp only [hb,ne_eq,not_true_eq_false,if_false]
    have hz:1 < k->s.getD (k - 1) 0≠0:=by
     intro h1 h2;unfold oO at hb;rw [h2] at hb;split at hb
     ·cases hb
     ·rw [ak ⟨h1,rfl⟩] at hb;cases hb
    refine ⟨v1,v2,v3, ?_,(abM 10 k s hv hz).1⟩;have e:s.take k=s.take (k - 1)++[s.getD (k - 1) 0]:=by
     obtain ⟨j,rfl⟩:∃j,k=j+1:=⟨k - 1,by omega⟩
     have:j < s.length:=by omega
     simp [List.getD,this]
    have h2:=Wq (s.take (k - 1));rw [e,aov,lX,Cb (by omega)];rw [lX,Cb (by omega)] at h2;rcases uY k 10 with h3 | h3
    ·have hq:(128:Nat) ^ (k - 1)<=128 ^ 8:=Ey (by omega) (by omega)
     have hq2:128 ^ (k - 1) * ((s.getD (k - 1) 0).toNat % 128)<=128 ^ (k - 1) * 127:=Kz _ (by omega);omega
    ·have hK10:k=10:=by omega
     have hb1:(s.getD (k - 1) 0).toNat<=1:=by
      unfold oO at hb;split at hb
      ·cases hb
      ·next h=>omega
     have hq:(128:Nat) ^ (k - 1)=128 ^ 9:=by rw [hK10]
     have hq2:128 ^ (k - 1) * ((s.getD (k - 1) 0).toNat % 128)<=128 ^ (k - 1) * 1:=Kz _ (by omega);omega
   ·simp only [hb,ne_eq,not_false_eq_true,if_true] at h
theorem BO {s:List UInt8} (h:(ay s).2.2≠0):(ay s).1=0/\(ay s).2.1=0:=by
 unfold ay at h ⊢;cases hv:jm 10 s with
 | none=>exact ⟨rfl,rfl⟩
 | some k=>
   rw [hv] at h;simp only at h ⊢;by_cases hb:oO k (s.getD (k - 1) 0).toNat=0
   ·simp only [hb,ne_eq,not_true_eq_false,if_false] at h
   ·simp only [hb,ne_eq,not_false_eq_true,if_true]
    exact ⟨trivial,trivial⟩
/-- Taken of a cursor. -/
theorem GN (t:List UInt8) (at':Nat) (h:at'<=t.length) (ht:t.length<=140737488351232) :
 TT.lim 49 [.s t,.i .i64 at']=some [.i .i64 0,.i .u64 ((ay (t.drop at')).1:Nat),.i .i64 (ay (t.drop at')).2.2,.s t,.i .i64 ((at'+(ay (t.drop at')).2.1:Nat):Int)]:=by
 have k:=uG (t.drop at') (by rw [eU];omega);have hd:(t.take t.length).drop at'=t.drop at':=by rw [oU]
 have h1:(at':Int)<=t.length:=by omega
 refine aC rfl rfl ?_;by_cases he:(ay (t.drop at')).2.2=0
 ·have hv:=kZ he
  have hl:=hv.len;have h10:=hv.ten;rw [eU] at hl;generalize (ay (t.drop at')).1=n at *;generalize (ay (t.drop at')).2.1=j at *;generalize (ay (t.drop at')).2.2=e at *;have w1:=eH (n:=(j:Int)) (by omega) (by omega);have w2:=wrap64 (n:=(t.length:Int) - (at':Int)) (by omega) (by omega);have w3:=eH (n:=(t.length:Int) - (at':Int)) (by omega) (by omega);have w4:=wrap64 (n:=(j:Int)) (by omega) (by omega);have w5:=wrap64 (n:=(at':Int)+(j:Int)) (by omega) (by omega);have c1:¬ ((t.length:Int) - (at':Int) < (j:Int)):=by omega
  have c2:(at':Int)<=(at':Int)+(j:Int)/\(at':Int)+(j:Int)<=t.length:=by omega
  subst he;simp [hd,h1,k,w1,w2,w3,w4,w5,c1,c2]
 ·obtain ⟨e1,e2⟩:=BO he
  rw [e1,e2] at k ⊢;generalize (ay (t.drop at')).2.2=e at *;simp [hd,h1,k,he]
def gI (e:Int):List UInt8×Nat×Int:=([],0,e)
/-- The text that stands next, how many bytes it took, and the code. -/
def aW (s a0:List UInt8) (first:Bool):List UInt8×Nat×Int:=
 let a:=if first=true then [] else a0
 let v:=ay s
 if v.2.2≠0 then gI v.2.2 else
 if a.length < v.1 then gI 23 else
 let v2:=ay (s.drop v.2.1)
 if v2.2.2≠0 then gI v2.2.2 else
 if s.length - (v.2.1+v2.2.1) < v2.1 then gI 1 else
 let t:=a.take v.1++(s.drop (v.2.1+v2.2.1)).take v2.1
 if first=false/\Op.bytesLess a t=false then gI 7 else
 if v.1 < common a t then gI 23 else (t,v.2.1+v2.2.1+v2.1,0)
theorem ah0 (a t:List UInt8):(Op.bytesLess t a || t==a) = !(Op.bytesLess a t):=by
 rw [Iq,Iq,qp];simp only [lW,decide_eq_true_iff,beq_iff_eq,xQ,decide_eq_false_iff_not];constructor
 ·rintro (h | h) h2
  ·exact Hf _ (Hg h h2)
  ·subst h;exact Hf _ h2
 ·intro h
  by_cases h1:t < a
  ·exact .inl h1
  ·exact .inr (List.le_antisymm (Kt.1 h) (Kt.1 h1))
theorem QF:∀ (k:Nat) (a x:List UInt8),k<=a.length->k<=common a (a.take k++x)
 | 0,a,x,h=>by omega
 | k+1,[],x,h=>by simp at h
 | k+1,b::a,x,h=>by
   rw [zh,eP];unfold common;rw [ak rfl];have:=QF k a x (by simpa using h);omega
theorem ajz (t a:List UInt8) (first:Bool) (at':Nat) (h:at'<=t.length) (ht:t.length<=100000000) (ha:a.length<=100000000) :
 ∃at2:Nat,TT.lim 58 [.s t,.i .i64 at',.s a,.b first]=some [.i .i64 0,.s (aW (t.drop at') a first).1,.i .i64 (aW (t.drop at') a first).2.2,.s t,.i .i64 at2]/\
  ((aW (t.drop at') a first).2.2=0->at2=at'+(aW (t.drop at') a first).2.1):=by
 have k1:=GN t at' h (by omega);by_cases he:(ay (t.drop at')).2.2=0;rotate_left
 ·obtain ⟨e1,e2⟩:=BO he
  have hp:aW (t.drop at') a first=gI (ay (t.drop at')).2.2:=by unfold aW;simp only;rw [ak he]
  rw [e1,e2] at k1;rw [hp];clear e1 e2 hp;generalize (ay (t.drop at')).2.2=e at *;refine ⟨at',aC rfl rfl ?_,λh=>absurd h he⟩;cases first<;>simp [k1,he,gI]
 have hv:=kZ he;have hl:=hv.len;have h64:=hv.lt;have h10:=hv.ten;rw [eU] at hl
 have hpn:∀a':List UInt8,a'=(if first=true then [] else a)->aW (t.drop at') a first=(if a'.length < (ay (t.drop at')).1 then gI 23 else
  if (ay (t.drop (at'+(ay (t.drop at')).2.1))).2.2≠0 then gI (ay (t.drop (at'+(ay (t.drop at')).2.1))).2.2 else
  if (t.length - at') - ((ay (t.drop at')).2.1+(ay (t.drop (at'+(ay (t.drop at')).2.1))).2.1) < (ay (t.drop (at'+(ay (t.drop at')).2.1))).1 then gI 1 else
  if first=false/\Op.bytesLess a' (a'.take (ay (t.drop at')).1++(t.drop (at'+((ay (t.drop at')).2.1+(ay (t.drop (at'+(ay (t.drop at')).2.1))).2.1))).take (ay (t.drop (at'+(ay (t.drop at')).2.1))).1)=false then gI 7 else
  if (ay (t.drop at')).1 < common a' (a'.take (ay (t.drop at')).1++(t.drop (at'+((ay (t.drop at')).2.1+(ay (t.drop (at'+(ay (t.drop at')).2.1))).2.1))).take (ay (t.drop (at'+(ay (t.drop at')).2.1))).1) then gI 23 else
  (a'.take (ay (t.drop at')).1++(t.drop (at'+((ay (t.drop at')).2.1+(ay (t.drop (at'+(ay (t.drop at')).2.1))).2.1))).take (ay (t.drop (at'+(ay (t.drop at')).2.1))).1,(ay (t.drop at')).2.1+(ay (t.drop (at'+(ay (t.drop at')).2.1))).2.1+(ay (t.drop (at'+(ay (t.drop at')).2.1))).1,0)):=by
  intro a' ha';unfold aW;simp only [nH,eU,<- ha',he,ne_eq,not_true_eq_false,if_false]
 rw [he] at k1;have k2:=GN t (at'+(ay (t.drop at')).2.1) (by omega) (by omega);have hv2:=λh=>kZ (s:=t.drop (at'+(ay (t.drop at')).2.1)) h;have hv3:=λh=>BO (s:=t.drop (at'+(ay (t.drop at')).2.1)) h;generalize hv0:ay (t.drop at')=v at *;obtain ⟨n,i,e⟩:=v;simp only at *;generalize hv1:ay (t.drop (at'+i))=v2 at *;obtain ⟨m,j,e2⟩:=v2;simp only at *;clear hv0 hv1 hv;subst he;simp only [Int.natCast_add] at k1 k2
 -- whichever is ahead
 cases first with
 | true=>
   have hp:=hpn [] rfl;rw [hp];clear hp hpn;by_cases c1:0 < n
   ·have c1':(0:Int) < n:=by omega
    rw [ak (by simpa using c1)];refine ⟨at'+i,aC rfl rfl ?_,λh=>by cases h⟩;simp [k1,c1,c1',gI]
   have c1':¬ (0:Int) < n:=by omega
   rw [ah (by simpa using c1)];by_cases c2:e2=0;rotate_left
   ·obtain ⟨q1,q2⟩:=hv3 c2
    subst q1;subst q2;rw [ak c2];refine ⟨at'+i,aC rfl rfl ?_,λh=>absurd h c2⟩;simp [k1,k2,c1,c1',c2,gI]
   subst c2;obtain ⟨q1,q2,q3,q4,_⟩:=hv2 rfl;rw [eU] at q3;rw [ah (by simp)];have w2:=wrap64 (n:=(t.length:Int) - ((at':Int)+(i:Int)+(j:Int))) (by omega) (by omega);have w3:=eH (n:=(t.length:Int) - ((at':Int)+(i:Int)+(j:Int))) (by omega) (by omega);by_cases c3:t.length - at' - (i+j) < m
   ·have c3':(t.length:Int) - ((at':Int)+(i:Int)+(j:Int)) < (m:Int):=by omega
    rw [ak c3];refine ⟨at'+i+j,aC rfl rfl ?_,λh=>by cases h⟩;simp [k1,k2,c1,c1',w2,w3,c3',gI]
   have c3':¬ (t.length:Int) - ((at':Int)+(i:Int)+(j:Int)) < (m:Int):=by omega
   rw [ah c3,ah (by simp)];have n0:n=0:=by omega
   subst n0;have hc:common [] ([]++(t.drop (at'+(i+j))).take m)=0:=LH _;have w4:=wrap64 (n:=(m:Int)) (by omega) (by omega);have w5:=wrap64 (n:=(at':Int)+(i:Int)+(j:Int)+(m:Int)) (by omega) (by omega);have w0:=wrap64 (n:=(0:Int)) (by omega) (by omega);have ts:((t.take (at'+i+j+m)).drop (at'+i+j))=(t.drop (at'+(i+j))).take m:=by
    rw [<- iV,BX];congr 1;omega
   have kc:=QE [] ((t.drop (at'+(i+j))).take m) (by simp) (by simp;omega);rw [LH] at kc;have c4:(at':Int)+(i:Int)+(j:Int)<=(at':Int)+(i:Int)+(j:Int)+(m:Int)/\(at':Int)+(i:Int)+(j:Int)+(m:Int)<=t.length:=by omega
   have c5:(0:Int)<=(at':Int)+(i:Int)+(j:Int):=by omega
   have t1:((at':Int)+(i:Int)+(j:Int)+(m:Int)).toNat=at'+i+j+m:=by omega
   have t2:((at':Int)+(i:Int)+(j:Int)).toNat=at'+i+j:=by omega
   rw [List.take_nil,ah (by rw [hc];omega)];have hl0:(((t.drop (at'+(i+j))).take m).length:Int)<=9223372036854775807:=by
    have:((t.drop (at'+(i+j))).take m).length<=t.length:=by rw [lX,eU];omega
    omega
   refine ⟨at'+i+j+m,aC rfl rfl ?_,λ_=>by simp only;omega⟩;rw [dD];generalize (t.drop (at'+(i+j))).take m=X at *;simp [k1,k2,w0,w2,w3,w4,w5,c3',c4,c5,t1,t2,ts,kc,hl0]
 | false=>
   have hp:=hpn a rfl;rw [hp];clear hp hpn;have wa:=eH (n:=(a.length:Int)) (by omega) (by omega);by_cases c1:a.length < n
   ·have c1':(a.length:Int) < n:=by omega
    rw [ak c1];refine ⟨at'+i,aC rfl rfl ?_,λh=>by cases h⟩;simp [k1,c1,c1',wa,gI]
   have c1':¬ (a.length:Int) < n:=by omega
   rw [ah c1];by_cases c2:e2=0;rotate_left
   ·obtain ⟨q1,q2⟩:=hv3 c2
    subst q1;subst q2;rw [ak c2];refine ⟨at'+i,aC rfl rfl ?_,λh=>absurd h c2⟩;simp [k1,k2,c1,c1',c2,wa,gI]
   subst c2;obtain ⟨q1,q2,q3,q4,_⟩:=hv2 rfl;rw [eU] at q3;rw [ah (by simp)];have w2:=wrap64 (n:=(t.length:Int) - ((at':Int)+(i:Int)+(j:Int))) (by omega) (by omega);have w3:=eH (n:=(t.length:Int) - ((at':Int)+(i:Int)+(j:Int))) (by omega) (by omega);by_cases c3:t.length - at' - (i+j) < m
   ·have c3':(t.length:Int) - ((at':Int)+(i:Int)+(j:Int)) < (m:Int):=by omega
    rw [ak c3];refine ⟨at'+i+j,aC rfl rfl ?_,λh=>by cases h⟩;simp [k1,k2,c1,c1',w2,w3,c3',wa,gI]
   have c3':¬ (t.length:Int) - ((at':Int)+(i:Int)+(j:Int)) < (m:Int):=by omega
   rw [ah c3];have w4:=wrap64 (n:=(m:Int)) (by omega) (by omega);have w5:=wrap64 (n:=(at':Int)+(i:Int)+(j:Int)+(m:Int)) (by omega) (by omega);have wn:=wrap64 (n:=(n:Int)) (by omega) (by omega);have ts:((t.take (at'+i+j+m)).drop (at'+i+j))=(t.drop (at'+(i+j))).take m:=by
    rw [<- iV,BX];congr 1;omega
   have hlx:((t.drop (at'+(i+j))).take m).length<=t.length:=by rw [lX,eU];omega
   have kc:=QE a (a.take n++(t.drop (at'+(i+j))).take m) (by omega) (by rw [iJ,lX];omega);have c4:(at':Int)+(i:Int)+(j:Int)<=(at':Int)+(i:Int)+(j:Int)+(m:Int)/\(at':Int)+(i:Int)+(j:Int)+(m:Int)<=t.length:=by omega
   have c5:(0:Int)<=(at':Int)+(i:Int)+(j:Int):=by omega
   have c6:(n:Int)<=a.length:=by omega
   have t1:((at':Int)+(i:Int)+(j:Int)+(m:Int)).toNat=at'+i+j+m:=by omega
   have t2:((at':Int)+(i:Int)+(j:Int)).toNat=at'+i+j:=by omega
   have hlm:(min n a.length:Nat)=n:=by omega
   have hl0:(n:Int)+(((t.drop (at'+(i+j))).take m).length:Int)<=9223372036854775807:=by omega
   have hle:=ah0 a (a.take n++(t.drop (at'+(i+j))).take m);generalize (t.drop (at'+(i+j))).take m=X at *;by_cases c7:Op.bytesLess a (a.take n++X)=false
   ·rw [ak ⟨rfl,c7⟩]
    rw [c7] at hle;refine ⟨at'+i+j+m,aC rfl rfl ?_,λh=>by cases h⟩;have hle':(Op.bytesLess (a.take n++X) a=true\/a.take n++X=a)=True:=eq_true (by simpa using hle);simp [k1,k2,wa,wn,w2,w3,w4,w5,c1',c3',c4,c5,c6,t1,t2,ts,hl0,hlm,hle',gI]
   ·rw [ah (λh=>c7 h.2)]
    have c7:Op.bytesLess a (a.take n++X)=true:=by simpa using c7
    rw [c7] at hle;have hle':(Op.bytesLess (a.take n++X) a=true\/a.take n++X=a)=False:=eq_false (by simpa using hle);by_cases c8:n < common a (a.take n++X)
    ·have CW:(n:Int) < (common a (a.take n++X):Int):=by omega
     rw [ak c8];refine ⟨at'+i+j+m,aC rfl rfl ?_,λh=>by cases h⟩;simp [k1,k2,wa,wn,w2,w3,w4,w5,c1',c3',c4,c5,c6,t1,t2,ts,hl0,hlm,hle',kc,CW,gI]
    ·have CW:¬ (n:Int) < (common a (a.take n++X):Int):=by omega
     rw [ah c8];refine ⟨at'+i+j+m,aC rfl rfl ?_,λ_=>by simp only;omega⟩;simp [k1,k2,wa,wn,w2,w3,w4,w5,c1',c3',c4,c5,c6,t1,t2,ts,hl0,hlm,hle',kc,CW]
theorem Oh {s a:List UInt8} {first:Bool} (h:(aW s a first).2.2=0):2<=(aW s a first).2.1/\(aW s a first).2.1<=s.length/\(aW s a first).1.length<=(if first=true then 0 else a.length)+(aW s a first).2.1:=by
 have hA:(if first=true then 0 else a.length)=(if first=true then [] else a).length:=by cases first<;>rfl
 rw [hA];clear hA;unfold aW at h ⊢;simp only at h ⊢;generalize (if first=true then [] else a)=a' at h ⊢;split at h
 ·next c=>exact absurd h c
 next c0=>
 rw [ah c0];split at h
 ·cases h
 next c1=>
 rw [ah c1];split at h
 ·next c=>exact absurd h c
 next c2=>
 rw [ah c2];split at h
 ·cases h
 next c3=>
 rw [ah c3];split at h
 ·cases h
 next c4=>
 rw [ah c4];split at h
 ·cases h
 next c5=>
 rw [ah c5];have v1:=kZ (s:=s) (by simpa using c0);have v2:=kZ (s:=s.drop (ay s).2.1) (by simpa using c2);have p1:=v1.pos;have p2:=v2.pos;have l1:=v1.len;have l2:=v2.len;rw [eU] at l2;refine ⟨by simp only;omega,by simp only;omega, ?_⟩;simp only [iJ,lX,eU];omega
/-- What the document's way hands back. -/
theorem akw (s a:List UInt8) (first:Bool) (hs:s.length<=100000000) (ha:a.length<=100000000) :
 TT.lim 115 [.s s,.s a,.b first]=some [.s (aW s a first).1,.s (if (aW s a first).2.2=0 then s.drop (aW s a first).2.1 else []),.i .i64 (aW s a first).2.2]:=by
 have k1:=Gn s (by omega);by_cases he:(ay s).2.2=0;rotate_left
 ·have hp:aW s a first=gI (ay s).2.2:=by unfold aW;simp only;rw [ak he]
  rw [hp];clear hp;generalize (ay s).2.2=e at *;refine aA rfl (by cases first<;>rfl) ?_ (by rfl);simp [k1,he,gI]
 have hv:=kZ he;have hl:=hv.len;have h64:=hv.lt;have h10:=hv.ten;have k2:=Gn (s.drop (ay s).2.1) (by rw [eU];omega);have hd:(s.take s.length).drop (ay s).2.1=s.drop (ay s).2.1:=by rw [oU]
 have hpn:∀a':List UInt8,a'=(if first=true then [] else a)->aW s a first=(if a'.length < (ay s).1 then gI 23 else
  if (ay (s.drop (ay s).2.1)).2.2≠0 then gI (ay (s.drop (ay s).2.1)).2.2 else
  if s.length - ((ay s).2.1+(ay (s.drop (ay s).2.1)).2.1) < (ay (s.drop (ay s).2.1)).1 then gI 1 else
  if first=false/\Op.bytesLess a' (a'.take (ay s).1++(s.drop ((ay s).2.1+(ay (s.drop (ay s).2.1)).2.1)).take (ay (s.drop (ay s).2.1)).1)=false then gI 7 else
  if (ay s).1 < common a' (a'.take (ay s).1++(s.drop ((ay s).2.1+(ay (s.drop (ay s).2.1)).2.1)).take (ay (s.drop (ay s).2.1)).1) then gI 23 else
  (a'.take (ay s).1++(s.drop ((ay s).2.1+(ay (s.drop (ay s).2.1)).2.1)).take (ay (s.drop (ay s).2.1)).1,(ay s).2.1+(ay (s.drop (ay s).2.1)).2.1+(ay (s.drop (ay s).2.1)).1,0)):=by
  intro a' ha';unfold aW;simp only [nH,eU,<- ha',he,ne_eq,not_true_eq_false,if_false]
 rw [he] at k1;have hv2:=λh=>kZ (s:=s.drop (ay s).2.1) h;have hv3:=λh=>BO (s:=s.drop (ay s).2.1) h;generalize hv0:ay s=v at *;obtain ⟨n,i,e⟩:=v;simp only at *;generalize hv1:ay (s.drop i)=v2 at *;obtain ⟨m,j,e2⟩:=v2;simp only at *;clear hv0 hv1 hv;subst he;have i1:(i:Int)<=s.length:=by omega
 have wa:=eH (n:=(a.length:Int)) (by omega) (by omega);cases first with
 | true=>
   have hp:=hpn [] rfl;rw [hp];clear hp hpn;by_cases c1:n=0;rotate_left
   ·rw [ak (by simp;omega)]
    refine aA rfl rfl ?_ rfl;simp [k1,c1,gI]
   subst c1;have c1':¬ (a.length:Int) < 0:=by omega
   rw [ah (by simp)];by_cases c2:e2=0;rotate_left
   ·rw [ak c2]
    refine aA rfl rfl ?_ rfl;simp [k1,k2,hd,i1,wa,c1',c2,gI]
   subst c2;obtain ⟨q1,q2,q3,q4,_⟩:=hv2 rfl;rw [eU] at q3;rw [ah (by simp)];have w1:=wrap64 (n:=(i:Int)+(j:Int)) (by omega) (by omega);have w2:=wrap64 (n:=(s.length:Int) - ((i:Int)+(j:Int))) (by omega) (by omega);have w3:=eH (n:=(s.length:Int) - ((i:Int)+(j:Int))) (by omega) (by omega);by_cases c3:s.length - (i+j) < m
   ·have c3':(s.length:Int) - ((i:Int)+(j:Int)) < (m:Int):=by omega
    rw [ak c3];refine aA rfl rfl ?_ rfl;simp [k1,k2,hd,i1,wa,c1',w1,w2,w3,c3',gI]
   have c3':¬ (s.length:Int) - ((i:Int)+(j:Int)) < (m:Int):=by omega
   rw [ah c3,ah (by simp)];have hc:common [] ([]++(s.drop (i+j)).take m)=0:=LH _;have w4:=wrap64 (n:=(m:Int)) (by omega) (by omega);have w5:=wrap64 (n:=(i:Int)+(j:Int)+(m:Int)) (by omega) (by omega);have w0:=wrap64 (n:=(0:Int)) (by omega) (by omega);have ts:((s.take (i+j+m)).drop (i+j))=(s.drop (i+j)).take m:=by
    rw [BX];congr 1;omega
   have tr:((s.take s.length).drop (i+j+m))=s.drop (i+j+m):=by rw [oU]
   have c4:(i:Int)+(j:Int)<=(i:Int)+(j:Int)+(m:Int)/\(i:Int)+(j:Int)+(m:Int)<=s.length:=by omega
   have c5:(0:Int)<=(i:Int)+(j:Int):=by omega
   have c6:(0:Int)<=(i:Int)+(j:Int)+(m:Int):=by omega
   have t1:((i:Int)+(j:Int)+(m:Int)).toNat=i+j+m:=by omega
   have t2:((i:Int)+(j:Int)).toNat=i+j:=by omega
   rw [List.take_nil,ah (by rw [hc];omega)];have hlx:((s.drop (i+j)).take m).length<=s.length:=by rw [lX,eU];omega
   have hl0:(((s.drop (i+j)).take m).length:Int)<=9223372036854775807:=by omega
   refine aA rfl rfl ?_ rfl;rw [dD];generalize (s.drop (i+j)).take m=X at *;generalize hY:s.drop (i+j+m)=Y at *;simp [k1,k2,hd,i1,wa,c1',w0,w1,w2,w3,w4,w5,c3',c4,c5,c6,t1,t2,ts,tr,hY,hl0]
 | false=>
   have hp:=hpn a rfl;rw [hp];clear hp hpn;by_cases c1:a.length < n
   ·have c1':(a.length:Int) < n:=by omega
    rw [ak c1];refine aA rfl rfl ?_ rfl;simp [k1,c1,c1',wa,gI]
   have c1':¬ (a.length:Int) < n:=by omega
   rw [ah c1];by_cases c2:e2=0;rotate_left
   ·rw [ak c2]
    refine aA rfl rfl ?_ rfl;simp [k1,k2,hd,i1,c1',c2,wa,gI]
   subst c2;obtain ⟨q1,q2,q3,q4,_⟩:=hv2 rfl;rw [eU] at q3;rw [ah (by simp)];have w1:=wrap64 (n:=(i:Int)+(j:Int)) (by omega) (by omega);have w2:=wrap64 (n:=(s.length:Int) - ((i:Int)+(j:Int))) (by omega) (by omega);have w3:=eH (n:=(s.length:Int) - ((i:Int)+(j:Int))) (by omega) (by omega);by_cases c3:s.length - (i+j) < m
   ·have c3':(s.length:Int) - ((i:Int)+(j:Int)) < (m:Int):=by omega
    rw [ak c3];refine aA rfl rfl ?_ rfl;simp [k1,k2,hd,i1,c1',w1,w2,w3,c3',wa,gI]
   have c3':¬ (s.length:Int) - ((i:Int)+(j:Int)) < (m:Int):=by omega
   rw [ah c3];have w4:=wrap64 (n:=(m:Int)) (by omega) (by omega);have w5:=wrap64 (n:=(i:Int)+(j:Int)+(m:Int)) (by omega) (by omega);have wn:=wrap64 (n:=(n:Int)) (by omega) (by omega);have ts:((s.take (i+j+m)).drop (i+j))=(s.drop (i+j)).take m:=by
    rw [BX];congr 1;omega
   have tr:((s.take s.length).drop (i+j+m))=s.drop (i+j+m):=by rw [oU]
   have hlx:((s.drop (i+j)).take m).length<=s.length:=by rw [lX,eU];omega
   have hla:(a.take n++(s.drop (i+j)).take m).length<=200000000:=by rw [iJ,lX];omega
   have kc:=abR a (a.take n++(s.drop (i+j)).take m) (by omega) (by omega);have kl:=aaz a (a.take n++(s.drop (i+j)).take m) (by omega) (by omega);have hge:=QF n a ((s.drop (i+j)).take m) (by omega);have c4:(i:Int)+(j:Int)<=(i:Int)+(j:Int)+(m:Int)/\(i:Int)+(j:Int)+(m:Int)<=s.length:=by omega
   have c5:(0:Int)<=(i:Int)+(j:Int):=by omega
   have c9:(0:Int)<=(i:Int)+(j:Int)+(m:Int):=by omega
   have c6:(n:Int)<=a.length:=by omega
   have t1:((i:Int)+(j:Int)+(m:Int)).toNat=i+j+m:=by omega
   have t2:((i:Int)+(j:Int)).toNat=i+j:=by omega
   have hlm:(min n a.length:Nat)=n:=by omega
   have hl0:(n:Int)+(((s.drop (i+j)).take m).length:Int)<=9223372036854775807:=by omega
   generalize (s.drop (i+j)).take m=X at *;generalize hY:s.drop (i+j+m)=Y at *;by_cases c7:Op.bytesLess a (a.take n++X)=false
   ·rw [ak ⟨rfl,c7⟩]
    rw [c7] at kl;refine aA rfl rfl ?_ rfl;simp [k1,k2,hd,i1,wa,wn,w1,w2,w3,w4,w5,c1',c3',c4,c5,c6,c9,t1,t2,ts,tr,hY,hl0,hlm,kl,gI]
   ·rw [ah (λh=>c7 h.2)]
    have c7:Op.bytesLess a (a.take n++X)=true:=by simpa using c7
    rw [c7] at kl;by_cases c8:n < common a (a.take n++X)
    ·have CW:¬ ((common a (a.take n++X):Int)=n):=by omega
     have c8n:¬ (common a (a.take n++X)=n):=by omega
     rw [ak c8];refine aA rfl rfl ?_ rfl;simp [k1,k2,hd,i1,wa,wn,w1,w2,w3,w4,w5,c1',c3',c4,c5,c6,c9,t1,t2,ts,tr,hY,hl0,hlm,kl,kc,CW,c8n,gI]
    ·have CW:common a (a.take n++X)=n:=by omega
     rw [ah c8];rw [CW] at kc;refine aA rfl rfl ?_ rfl;simp [k1,k2,hd,i1,wa,wn,w1,w2,w3,w4,w5,c1',c3',c4,c5,c6,c9,t1,t2,ts,tr,hY,hl0,hlm,kl,kc]
def strs (l:List (List UInt8)):GV:=.l (l.map GV.s)
def Sm (n:Nat) (l:List (List UInt8)):Prop:=∀s∈l,s.length<=n
theorem N8 (a s:List UInt8) (hs:s.length<=100000000):(rF a s).length<=20+s.length:=by
 have hl:=IJ a s;have l1:=mP (n:=common a s) (by omega);have l2:=mP (n:=s.length - common a s) (by omega);unfold rF;simp only [iJ,eU];omega
theorem ab5 (a s:List UInt8) (ha:a.length<=100000000) (hs:s.length<=100000000):TT.lim 100 [.s a,.s s]=some [.s (rF a s)]:=by
 have k:=abR a s (by omega) (by omega);have hl:=IJ a s;have p1:=D5 (common a s) (by omega);have p2:=D5 (s.length - common a s) (by omega);have l1:=mP (n:=common a s) (by omega);have l2:=mP (n:=s.length - common a s) (by omega);have w1:=eH (n:=(common a s:Int)) (by omega) (by omega);have w2:=eH (n:=(s.length:Int) - (common a s:Int)) (by omega) (by omega);have w3:=wrap64 (n:=(s.length:Int) - (common a s:Int)) (by omega) (by omega);have e2:(s.length:Int) - (common a s:Int)=((s.length - common a s:Nat):Int):=by omega
 rw [e2] at w2 w3;refine aA rfl rfl ?_ rfl;unfold rF;generalize common a s=c at *;have h1:((cO c).length:Int)+((cO (s.length - c)).length:Int)<=9223372036854775807:=by omega
 have h2:((cO c).length:Int)+((cO (s.length - c)).length:Int)+((s.length:Int) - (c:Int))<=9223372036854775807:=by omega
 have h3:(c:Int)<=s.length:=by omega
 have h4:((s.length - c:Nat):Int)=(s.length:Int) - c:=by omega
 have hd:(s.take s.length).drop c=s.drop c:=by rw [oU]
 rw [<- e2] at w2 w3;rw [<- e2] at p2;simp [k,p1,p2,w1,w2,w3,h1,h2,h3,h4,hd]
theorem Zf (d e:List (List UInt8)) (hl:d.length=e.length) (hb:d.length<=140737488351232):∀m i:Nat,i+m=d.length->
 TT.lim 127 [.l (d.map GV.s),.l (e.map GV.s),.i .i64 d.length,.i .i64 i]=some (if d.drop i=e.drop i then [.i .i64 1] else [.i .i64 0])
 | 0,i,hi=>by
   have h0:d.drop i=[]:=eY (by omega);have h1:e.drop i=[]:=eY (by omega);refine aC rfl rfl ?_;have h:¬ ((i:Int) < d.length):=by omega
   simp [h,h0,h1]
 | m+1,i,hi=>by
   have hlt:i < d.length:=by omega
   have hlt2:i < e.length:=by omega
   have ih:TT.lim 127 [.l (d.map GV.s),.l (e.map GV.s),.i .i64 d.length,.i .i64 ((i:Int)+1)]=_:=Zf d e hl hb m (i+1) (by omega);have hd:(d.drop i=e.drop i)↔(d[i]=e[i]/\d.drop (i+1)=e.drop (i+1)):=by
    rw [fZ hlt,fZ hlt2,BU]
   refine aC rfl rfl ?_;have h:((i:Int) < d.length):=by omega
   have hw:=wrap64 (n:=(i:Int)+1) (by omega) (by omega);by_cases h1:d[i]=e[i]
   ·have h2:(d.drop i=e.drop i)↔(d.drop (i+1)=e.drop (i+1)):=by rw [hd];simp [h1]
    have h1':(d[i]=e[i])=True:=eq_true h1;clear h1;simp only [h2];simp [h,hlt,hlt2,h1',hw,ih]
   ·have h2:¬ (d.drop i=e.drop i):=by rw [hd];simp [h1]
    rw [ah h2];simp [h,hlt,hlt2,h1]
theorem afs (d e:List (List UInt8)) (hb:d.length<=140737488351232) (hb2:e.length<=140737488351232):TT.lim 126 [strs d,strs e]=some [.b (decide (d=e))]:=by
 unfold strs;refine aA rfl rfl ?_ rfl;by_cases hl:d.length=e.length
 ·have hl':(d.length:Int)=(e.length:Int):=by omega
  have h32:TT.lim 127 [.l (d.map GV.s),.l (e.map GV.s),.i .i64 d.length,.i .i64 0]=_:=Zf d e hl hb d.length 0 (by omega);rw [dJ,dJ] at h32;by_cases h:d=e
  ·rw [ak h] at h32
   have h':(d=e)=True:=eq_true h;clear h;rw [hl'] at h32;simp [hl',h32,h']
  ·rw [ah h] at h32
   rw [hl'] at h32;simp [hl',h32,h]
 ·have hl':¬ (d.length:Int)=(e.length:Int):=by omega
  have h:¬ d=e:=λh=>hl (by rw [h]);simp [hl',hl,h]
theorem ag1 {g:GV} (h:(bF.list false [.str]).has g):∃l:List (List UInt8),g=strs l/\l.length<=140737488351232/\Sm 140737488351232 l:=by
 obtain ⟨xs,rfl,hl,hx⟩:=Jd h;obtain ⟨rs,h1,rfl⟩:=FT (f:=GV.s) (p:=λs=>s.length<=140737488351232) (xs:=xs) λx hx'=>by
  obtain ⟨h1,h2⟩:=hx x hx';obtain ⟨g,r,e,h3,h4⟩:=gX h1;obtain ⟨s,rfl,hs⟩:=zL h3;have:=FD h4;subst this;have hs':s.length<=140737488351232:=hs;cases x<;>simp [GV.cells] at e<;>simp at h2
  ·cases e;exact ⟨s,hs',rfl⟩
 exact ⟨rs,rfl,by rw [oQ] at hl;exact hl,h1⟩
/-- A text that stands next: the text, how many bytes it took, the code. -/
def bI (s:List UInt8):List UInt8×Nat×Int:=
 if (ay s).2.2≠0 then ([],0,(ay s).2.2) else
 if s.length - (ay s).2.1 < (ay s).1 then ([],0,1) else
 ((s.drop (ay s).2.1).take (ay s).1,(ay s).2.1+(ay s).1,0)
theorem Gy {s:List UInt8} (h:(bI s).2.2=0):1<=(bI s).2.1/\(bI s).2.1<=s.length/\(bI s).1.length<=s.length:=by
 unfold bI at h ⊢;by_cases h1:(ay s).2.2=0;rotate_left
 ·rw [ak h1] at h
  exact absurd h h1
 rw [ah (λe=>e h1)] at h ⊢;obtain ⟨v1,v2,v3,v4,v5⟩:=kZ h1;by_cases h2:s.length - (ay s).2.1 < (ay s).1
 ·rw [ak h2] at h;cases h
 rw [ah h2];simp only [lX,eU];omega
theorem acR (t:List UInt8) (at':Nat) (h:at'<=t.length) (ht:t.length<=100000000) :
 ∃at2:Nat,TT.lim 54 [.s t,.i .i64 at']=some [.i .i64 0,.s (bI (t.drop at')).1,.i .i64 (bI (t.drop at')).2.2,.s t,.i .i64 at2]/\((bI (t.drop at')).2.2=0->at2=at'+(bI (t.drop at')).2.1):=by
 have k1:=GN t at' h (by omega);unfold bI;by_cases he:(ay (t.drop at')).2.2=0;rotate_left
 ·obtain ⟨e1,e2⟩:=BO he
  rw [e1,e2] at k1;rw [ak he];generalize (ay (t.drop at')).2.2=e at *;refine ⟨at',aC rfl rfl ?_,λh=>absurd h he⟩;simp [k1,he]
 obtain ⟨v1,v2,v3,v4,_⟩:=kZ he;rw [ah (λe=>e he)];rw [he] at k1;rw [eU] at v3 ⊢;rw [nH];generalize (ay (t.drop at')).1=n at *;generalize (ay (t.drop at')).2.1=i at *;have w1:=wrap64 (n:=(t.length:Int) - ((at':Int)+(i:Int))) (by omega) (by omega);have w2:=eH (n:=(t.length:Int) - ((at':Int)+(i:Int))) (by omega) (by omega);simp only [Int.natCast_add] at k1;by_cases c1:t.length - at' - i < n
 ·have c1':(t.length:Int) - ((at':Int)+(i:Int)) < (n:Int):=by omega
  rw [ak c1];refine ⟨at'+i,aC rfl rfl ?_,λh=>by cases h⟩;simp [k1,w1,w2,c1']
 ·have c1':¬ (t.length:Int) - ((at':Int)+(i:Int)) < (n:Int):=by omega
  rw [ah c1];have w3:=wrap64 (n:=(n:Int)) (by omega) (by omega);have w4:=wrap64 (n:=(at':Int)+(i:Int)+(n:Int)) (by omega) (by omega);have ts:((t.take (at'+i+n)).drop (at'+i))=(t.drop (at'+i)).take n:=by
   rw [BX];congr 1;omega
  have c2:(at':Int)+(i:Int)<=(at':Int)+(i:Int)+(n:Int)/\(at':Int)+(i:Int)+(n:Int)<=t.length:=by omega
  have c3:(0:Int)<=(at':Int)+(i:Int):=by omega
  have t1:((at':Int)+(i:Int)+(n:Int)).toNat=at'+i+n:=by omega
  have t2:((at':Int)+(i:Int)).toNat=at'+i:=by omega
  generalize (t.drop (at'+i)).take n=X at *;refine ⟨at'+i+n,aC rfl rfl ?_,λ_=>by simp only;omega⟩;simp [k1,w1,w2,w3,w4,c1',c2,c3,t1,t2,ts]
theorem acf (s:List UInt8) (hs:s.length<=100000000):TT.lim 111 [.s s]=some [.s (bI s).1,.s (if (bI s).2.2=0 then s.drop (bI s).2.1 else []),.i .i64 (bI s).2.2]:=by
 have k1:=Gn s (by omega);unfold bI;by_cases he:(ay s).2.2=0;rotate_left
 ·rw [ak he]
  generalize (ay s).2.2=e at *;refine aA rfl rfl ?_ (by rfl);simp [k1,he]
 obtain ⟨v1,v2,v3,v4,_⟩:=kZ he;rw [ah (λe=>e he)];rw [he] at k1;generalize (ay s).1=n at *;generalize (ay s).2.1=i at *;have w1:=wrap64 (n:=(s.length:Int) - (i:Int)) (by omega) (by omega);have w2:=eH (n:=(s.length:Int) - (i:Int)) (by omega) (by omega);by_cases c1:s.length - i < n
 ·have c1':(s.length:Int) - (i:Int) < (n:Int):=by omega
  rw [ak c1];refine aA rfl rfl ?_ rfl;simp [k1,w1,w2,c1']
 ·have c1':¬ (s.length:Int) - (i:Int) < (n:Int):=by omega
  rw [ah c1];have w3:=wrap64 (n:=(n:Int)) (by omega) (by omega);have w4:=wrap64 (n:=(i:Int)+(n:Int)) (by omega) (by omega);have ts:((s.take (i+n)).drop i)=(s.drop i).take n:=by
   rw [BX];congr 1;omega
  have tr:(s.take s.length).drop (i+n)=s.drop (i+n):=by rw [oU]
  have c2:(i:Int)<=(i:Int)+(n:Int)/\(i:Int)+(n:Int)<=s.length:=by omega
  have c3:(0:Int)<=(i:Int)+(n:Int):=by omega
  have c4:i<=i+n:=by omega
  have c5:(i:Int)+(n:Int)<=s.length:=by omega
  have t1:((i:Int)+(n:Int)).toNat=i+n:=by omega
  generalize (s.drop i).take n=X at *;generalize hY:s.drop (i+n)=Y at *;refine aA rfl rfl ?_ rfl;simp [k1,w1,w2,w3,w4,c1',c2,c3,c5,t1,ts,tr,hY]
/-- An entry that stands next. -/
def bG (s:List UInt8):bJ×Nat×Int:=
 if (bI s).2.2≠0 then (([],[]),0,(bI s).2.2) else
 if (bI (s.drop (bI s).2.1)).2.2≠0 then (([],[]),0,(bI (s.drop (bI s).2.1)).2.2) else
 if nO ((bI s).1,(bI (s.drop (bI s).2.1)).1)≠0 then (([],[]),0,nO ((bI s).1,(bI (s.drop (bI s).2.1)).1)) else
 (((bI s).1,(bI (s.drop (bI s).2.1)).1),(bI s).2.1+(bI (s.drop (bI s).2.1)).2.1,0)
theorem IX {s:List UInt8} (h:(bG s).2.2=0):2<=(bG s).2.1/\(bG s).2.1<=s.length/\nO (bG s).1=0/\(bG s).1.1.length<=s.length/\(bG s).1.2.length<=s.length/\
 (bI s).2.2=0/\(bI (s.drop (bI s).2.1)).2.2=0/\(bG s).1=((bI s).1,(bI (s.drop (bI s).2.1)).1)/\(bG s).2.1=(bI s).2.1+(bI (s.drop (bI s).2.1)).2.1:=by
 unfold bG at h ⊢;by_cases h1:(bI s).2.2=0;rotate_left
 ·rw [ak h1] at h;exact absurd h h1
 rw [ah (λe=>e h1)] at h ⊢;by_cases h2:(bI (s.drop (bI s).2.1)).2.2=0;rotate_left
 ·rw [ak h2] at h;exact absurd h h2
 rw [ah (λe=>e h2)] at h ⊢;by_cases h3:nO ((bI s).1,(bI (s.drop (bI s).2.1)).1)=0;rotate_left
 ·rw [ak h3] at h;exact absurd h h3
 rw [ah (λe=>e h3)];obtain ⟨a1,a2,a3⟩:=Gy h1;obtain ⟨b1,b2,b3⟩:=Gy h2;rw [eU] at b2 b3;exact ⟨by simp only;omega,by simp only;omega,h3,a3,by simp only;omega,h1,h2,rfl,rfl⟩
theorem afn (t:List UInt8) (at':Nat) (h:at'<=t.length) (ht:t.length<=100000000) :
 ∃at2:Nat,TT.lim 53 [.s t,.i .i64 at']=some [.i .i64 0,.s (bG (t.drop at')).1.1,.s (bG (t.drop at')).1.2,.i .i64 (bG (t.drop at')).2.2,.s t,.i .i64 at2]/\((bG (t.drop at')).2.2=0->at2=at'+(bG (t.drop at')).2.1):=by
 obtain ⟨p,k1,e1⟩:=acR t at' h ht;unfold bG;by_cases h1:(bI (t.drop at')).2.2=0;rotate_left
 ·rw [ak h1]
  generalize bI (t.drop at')=A at *;refine ⟨p,aC rfl rfl ?_,λh=>absurd h h1⟩;simp [k1,h1]
 have e1:=e1 h1;obtain ⟨a1,a2,a3⟩:=Gy h1;rw [eU] at a2 a3;have hdd:(t.drop at').drop (bI (t.drop at')).2.1=t.drop p:=by rw [nH,e1]
 obtain ⟨q,k2,e2⟩:=acR t p (by omega) ht;rw [ah (λe=>e h1),hdd];rw [h1] at k1;by_cases h2:(bI (t.drop p)).2.2=0;rotate_left
 ·rw [ak h2]
  generalize bI (t.drop at')=A at *;generalize bI (t.drop p)=B at *;refine ⟨q,aC rfl rfl ?_,λh=>absurd h h2⟩;simp [k1,k2,h2]
 have e2:=e2 h2;obtain ⟨b1,b2,b3⟩:=Gy h2;rw [eU] at b2 b3;rw [ah (λe=>e h2)];rw [h2] at k2;have kc:=Y3 ((bI (t.drop at')).1,(bI (t.drop p)).1) (by simp only;omega) (by simp only;omega);have Dz:TT.lim 21 [.g [.s (bI (t.drop at')).1,.s (bI (t.drop p)).1]]=_:=kc;generalize bI (t.drop at')=A at *;generalize bI (t.drop p)=B at *;by_cases h3:nO (A.1,B.1)=0;rotate_left
 ·rw [ak h3]
  refine ⟨q,aC rfl rfl ?_,λh=>absurd h h3⟩;generalize nO (A.1,B.1)=E at *;simp [k1,k2,Dz,h3]
 ·rw [ah (λe=>e h3)]
  rw [h3] at Dz;refine ⟨q,aC rfl rfl ?_,λ_=>by simp only;omega⟩;simp [k1,k2,Dz]
theorem ako (s:List UInt8) (hs:s.length<=100000000):TT.lim 110 [.s s]=some [ent (bG s).1,.s (if (bG s).2.2=0 then s.drop (bG s).2.1 else []),.i .i64 (bG s).2.2]:=by
 have k1:=acf s hs;unfold bG;by_cases h1:(bI s).2.2=0;rotate_left
 ·rw [ak h1]
  generalize bI s=A at *;refine aA rfl rfl ?_ (by rfl);simp [k1,h1];rfl
 obtain ⟨a1,a2,a3⟩:=Gy h1;rw [ak h1,h1] at k1;have k2:=acf (s.drop (bI s).2.1) (by rw [eU];omega);rw [ah (λe=>e h1)];by_cases h2:(bI (s.drop (bI s).2.1)).2.2=0;rotate_left
 ·rw [ak h2]
  generalize bI (s.drop (bI s).2.1)=B at *;generalize s.drop (bI s).2.1=Y at *;generalize bI s=A at *;refine aA rfl rfl ?_ (by rfl);simp [k1,k2,h2];rfl
 obtain ⟨b1,b2,b3⟩:=Gy h2;rw [eU] at b2 b3;rw [ak h2,h2,nH] at k2;rw [ah (λe=>e h2)];have kc:=Y4 ((bI s).1,(bI (s.drop (bI s).2.1)).1) (by simp only;omega) (by simp only;omega);have Dz:TT.lim 87 [.g [.s (bI s).1,.s (bI (s.drop (bI s).2.1)).1]]=_:=kc;generalize bI (s.drop (bI s).2.1)=B at *;generalize s.drop (bI s).2.1=Y at *;generalize bI s=A at *;by_cases h3:nO (A.1,B.1)=0;rotate_left
 ·rw [ak h3]
  generalize nO (A.1,B.1)=E at *;refine aA rfl rfl ?_ (by rfl);simp [k1,k2,Dz,h3];rfl
 ·rw [ah (λe=>e h3)]
  rw [h3] at Dz;refine aA rfl rfl ?_ (by rfl);simp [k1,k2,Dz];rfl
def sH (p:Option bJ) (x:bJ):Int:=match p with
 | none=>0
 | some k=>oD k.1 x.1
/-- Entries by rising keys: what is read, how many bytes it took, the code. -/
def dL:Nat->Option bJ->List UInt8->List bJ×Nat×Int
 | 0,_,_=>([],0,0)
 | m+1,p,s=>if (bG s).2.2≠0 then ([],0,(bG s).2.2) else
   if sH p (bG s).1≠0 then ([],0,sH p (bG s).1) else
   if (dL m (some (bG s).1) (s.drop (bG s).2.1)).2.2≠0 then ([],0,(dL m (some (bG s).1) (s.drop (bG s).2.1)).2.2) else
   ((bG s).1::(dL m (some (bG s).1) (s.drop (bG s).2.1)).1,(bG s).2.1+(dL m (some (bG s).1) (s.drop (bG s).2.1)).2.1,0)
theorem LM (m:Nat) (p:Option bJ) (s:List UInt8):dL (m+1) p s=if (bG s).2.2≠0 then ([],0,(bG s).2.2) else
 if sH p (bG s).1≠0 then ([],0,sH p (bG s).1) else
 if (dL m (some (bG s).1) (s.drop (bG s).2.1)).2.2≠0 then ([],0,(dL m (some (bG s).1) (s.drop (bG s).2.1)).2.2) else
 ((bG s).1::(dL m (some (bG s).1) (s.drop (bG s).2.1)).1,(bG s).2.1+(dL m (some (bG s).1) (s.drop (bG s).2.1)).2.1,0):=rfl
def yO (acc:List bJ) (t:List UInt8) (at2:Nat) (r:List bJ×Nat×Int):List GV:=if r.2.2≠0 then [.i .i64 0,.i .i64 r.2.2,.s t,.i .i64 at2] else [.i .i64 1,.l ((acc++r.1).map ent),.s t,.i .i64 at2]
theorem afk (L:List GV) (n i at' at2:Int) (t:List UInt8) (x:bJ) (e:Int) (h:i < n) (he:¬ e=0)
 (k:TT.lim 53 [.s t,.i .i64 at']=some [.i .i64 0,.s x.1,.s x.2,.i .i64 e,.s t,.i .i64 at2]) :
 TT.lim 52 [.l L,.i .i64 n,.i .i64 i,.s t,.i .i64 at']=some [.i .i64 0,.i .i64 e,.s t,.i .i64 at2]:=by
 refine aC rfl rfl ?_;simp [h,k,he]
theorem afi (L:List GV) (n at' at2:Int) (t:List UInt8) (x:bJ) (R:List GV) (h:0 < n) (hb:2 * (L.length+1) * 32<=281474976710656/\L.length+1<=281474976710656)
 (k:TT.lim 53 [.s t,.i .i64 at']=some [.i .i64 0,.s x.1,.s x.2,.i .i64 0,.s t,.i .i64 at2])
 (ih:TT.lim 52 [.l (L++[ent x]),.i .i64 n,.i .i64 1,.s t,.i .i64 at2]=some R) :
 TT.lim 52 [.l L,.i .i64 n,.i .i64 0,.s t,.i .i64 at']=some R:=by
 have he:GV.g [.s x.1,.s x.2]=ent x:=rfl;have w1:=wrap64 (n:=1) (by omega) (by omega);refine aC rfl rfl ?_;simp [h,k,he,GV.fV,hb,w1,ih]
theorem afj (L:List GV) (n:Int) (i:Nat) (at' at2:Int) (t:List UInt8) (p x:bJ) (h:(i:Int)+1 < n) (hi:i+1<=100000000) (hl:L.length=i+1) (hg:L[i]? = some (ent p)) (hb:¬ oD p.1 x.1=0)
 (k:TT.lim 53 [.s t,.i .i64 at']=some [.i .i64 0,.s x.1,.s x.2,.i .i64 0,.s t,.i .i64 at2]) :
 TT.lim 52 [.l L,.i .i64 n,.i .i64 ((i:Int)+1),.s t,.i .i64 at']=some [.i .i64 0,.i .i64 (oD p.1 x.1),.s t,.i .i64 at2]:=by
 have h0:(0:Int) < (i:Int)+1:=by omega
 have hii:(i:Int) < (i:Int)+1:=by omega
 have w:=wrap64 (n:=(i:Int)) (by omega) (by omega);have hgi:L[i]'(by omega)=ent p:=by have:=hg;rw [dK (by omega)] at this;exact zk this
 unfold oD at hb ⊢;by_cases e1:x.1=p.1
 ·have e1':(x.1=p.1)=True:=eq_true e1
  clear e1;refine aC rfl rfl ?_;simp [h,k,h0,hii,w,hl,hg,hgi,e1']
 ·by_cases e2:Op.bytesLess x.1 p.1=true
  ·refine aC rfl rfl ?_
   simp [h,k,h0,hii,w,hl,hg,hgi,e1,e2]
  ·simp [e1,e2] at hb
theorem afl (L:List GV) (n:Int) (i:Nat) (at' at2:Int) (t:List UInt8) (p x:bJ) (R:List GV) (h:(i:Int)+1 < n) (hi:i+1<=100000000) (hl:(i:Int) < L.length) (hl2:L.length<=100000000) (hg:L[i]? = some (ent p)) (hb:oD p.1 x.1=0)
 (k:TT.lim 53 [.s t,.i .i64 at']=some [.i .i64 0,.s x.1,.s x.2,.i .i64 0,.s t,.i .i64 at2])
 (ih:TT.lim 52 [.l (L++[ent x]),.i .i64 n,.i .i64 ((i:Int)+1+1),.s t,.i .i64 at2]=some R) :
 TT.lim 52 [.l L,.i .i64 n,.i .i64 ((i:Int)+1),.s t,.i .i64 at']=some R:=by
 have h0:(0:Int) < (i:Int)+1:=by omega
 have hii:(i:Int) < (i:Int)+1:=by omega
 have w:=wrap64 (n:=(i:Int)) (by omega) (by omega);have w2:=wrap64 (n:=(i:Int)+1+1) (by omega) (by omega);have hl3:i < L.length:=by omega
 have hgi:L[i]=ent p:=by have:=hg;rw [dK hl3] at this;exact zk this
 have he:GV.g [.s x.1,.s x.2]=ent x:=rfl;have hbb:2 * (L.length+1) * 32<=281474976710656/\L.length+1<=281474976710656:=by omega
 unfold oD at hb;have e1:¬ x.1=p.1:=by intro e;rw [ak e] at hb;exact absurd hb (by decide)
 rw [ah e1] at hb;have e2:¬ Op.bytesLess x.1 p.1=true:=by intro e;rw [ak e] at hb;exact absurd hb (by decide)
 have e2:Op.bytesLess x.1 p.1=false:=by simpa using e2
 refine aC rfl rfl ?_;simp [h,k,h0,hii,w,w2,hl,hl3,hg,hgi,e1,e2,he,GV.fV,hbb,ih]
/-- What is ahead. -/
def aau (acc:List bJ) (p:Option bJ):Prop:=(acc=[]/\p=none)\/∃a x,acc=a++[x]/\p=some x
theorem Yu (t:List UInt8) (ht:t.length<=100000000) (n:Nat) (hn:n<=1000):∀ (m:Nat) (acc:List bJ) (p:Option bJ) (at':Nat),acc.length+m=n->aau acc p->at'<=t.length->
 ∃at2:Nat,TT.lim 52 [.l (acc.map ent),.i .i64 n,.i .i64 acc.length,.s t,.i .i64 at']=some (yO acc t at2 (dL m p (t.drop at')))/\((dL m p (t.drop at')).2.2=0->at2=at'+(dL m p (t.drop at')).2.1)
 | 0,acc,p,at',hi,hp,h=>by
   have hlt:¬ ((acc.length:Int) < (n:Int)):=by omega
   refine ⟨at', ?_,λ_=>by simp [dL]⟩;have hl:(acc.map ent).length=acc.length:=by simp
   unfold dL yO;simp only [ne_eq,not_true_eq_false,if_false,qV];generalize acc.map ent=L at *;refine aC rfl rfl ?_;simp [hlt]
 | m+1,acc,p,at',hi,hp,h=>by
   obtain ⟨at2,k,e2⟩:=afn t at' h ht;rw [LM];by_cases h1:(bG (t.drop at')).2.2=0;rotate_left
   ·rw [ak h1]
    refine ⟨at2, ?_,λh=>absurd h h1⟩;have:yO acc t at2 ([],0,(bG (t.drop at')).2.2)=[.i .i64 0,.i .i64 (bG (t.drop at')).2.2,.s t,.i .i64 at2]:=by unfold yO;rw [ak h1]
    rw [this];exact afk _ _ _ _ _ _ _ _ (by omega) h1 k
   rw [ah (λe=>e h1)];rw [h1] at k;have e2:=e2 h1;obtain ⟨a1,a2,_⟩:=IX h1;rw [eU] at a2;have hdd:(t.drop at').drop (bG (t.drop at')).2.1=t.drop at2:=by rw [nH,e2]
   rw [hdd];have hat:at2<=t.length:=by omega
   generalize hX:(bG (t.drop at')).1=x at *;obtain ⟨at3,ih,e3⟩:=Yu t ht n hn m (acc++[x]) (some x) at2 (by rw [iJ,y9];omega) (.inr ⟨acc,x,rfl,rfl⟩) hat;have hout:yO acc t at3 (if (dL m (some x) (t.drop at2)).2.2≠0 then ([],0,(dL m (some x) (t.drop at2)).2.2) else (x::(dL m (some x) (t.drop at2)).1,(bG (t.drop at')).2.1+(dL m (some x) (t.drop at2)).2.1,0))=yO (acc++[x]) t at3 (dL m (some x) (t.drop at2)):=by
    unfold yO;by_cases hq:(dL m (some x) (t.drop at2)).2.2=0
    ·simp [hq]
    ·simp [hq]
   have hfin:((if (dL m (some x) (t.drop at2)).2.2≠0 then (([]:List bJ),0,(dL m (some x) (t.drop at2)).2.2) else (x::(dL m (some x) (t.drop at2)).1,(bG (t.drop at')).2.1+(dL m (some x) (t.drop at2)).2.1,0)).2.2=0->at3=at'+(if (dL m (some x) (t.drop at2)).2.2≠0 then (([]:List bJ),0,(dL m (some x) (t.drop at2)).2.2) else (x::(dL m (some x) (t.drop at2)).1,(bG (t.drop at')).2.1+(dL m (some x) (t.drop at2)).2.1,0)).2.1):=by
    by_cases hq:(dL m (some x) (t.drop at2)).2.2=0
    ·rw [ah (λe=>e hq)]
     intro _;have:=e3 hq;simp only;omega
    ·rw [ak hq]
     intro h;exact absurd h hq
   rw [qy] at ih;rcases hp with ⟨rfl,rfl⟩ | ⟨a,y,rfl,rfl⟩
   ·have hb0:sH none x=0:=rfl
    rw [hb0,ah (by simp)];refine ⟨at3, ?_,hfin⟩;rw [hout];exact afi [] n at' at2 t x _ (by simp at hi;omega) (by simp) k ih
   ·by_cases hb:oD y.1 x.1=0
    rotate_left
    ·have hb':sH (some y) x≠0:=hb
     rw [ak hb'];refine ⟨at2, ?_,λh=>absurd h hb⟩;have:yO (a++[y]) t at2 ([],0,sH (some y) x)=[.i .i64 0,.i .i64 (oD y.1 x.1),.s t,.i .i64 at2]:=by unfold yO;rw [ak hb'];rfl
     rw [this];have hl:((a++[y]).length:Int)=(a.length:Int)+1:=by simp
     rw [hl];rw [iJ,y9] at hi;exact afj _ n a.length at' at2 t y x (by omega) (by omega) (by simp) (by simp) hb k
    ·have hb':¬ sH (some y) x≠0:=λe=>e hb
     rw [ah hb'];refine ⟨at3, ?_,hfin⟩;rw [hout];have hl:((a++[y]).length:Int)=(a.length:Int)+1:=by simp
     have hl2:((a++[y]++[x]).length:Int)=(a.length:Int)+1+1:=by simp;omega
     rw [hl];rw [hl2] at ih;rw [iJ,y9] at hi;exact afl _ n a.length at' at2 t y x _ (by omega) (by omega) (by simp;omega) (by simp;omega) (by simp) hb k ih
def sN (e:Int):List bJ×Nat×Int:=([],0,e)
/-- A descriptor that stands next. -/
def iM (s:List UInt8):List bJ×Nat×Int:=
 if (ay s).2.2≠0 then sN (ay s).2.2 else
 if (ay s).1=0 then sN 12 else
 if 16 < (ay s).1 then sN 13 else
 if (dL (ay s).1 none (s.drop (ay s).2.1)).2.2≠0 then sN (dL (ay s).1 none (s.drop (ay s).2.1)).2.2 else
 ((dL (ay s).1 none (s.drop (ay s).2.1)).1,(ay s).2.1+(dL (ay s).1 none (s.drop (ay s).2.1)).2.1,0)
theorem aff (t:List UInt8) (at':Nat) (h:at'<=t.length) (ht:t.length<=100000000) :
 ∃at2:Nat,TT.lim 48 [.s t,.i .i64 at']=some [.i .i64 0,.l ((iM (t.drop at')).1.map ent),.i .i64 (iM (t.drop at')).2.2,.s t,.i .i64 at2]/\((iM (t.drop at')).2.2=0->at2=at'+(iM (t.drop at')).2.1):=by
 have k1:=GN t at' h (by omega);unfold iM;by_cases he:(ay (t.drop at')).2.2=0;rotate_left
 ·obtain ⟨e1,e2⟩:=BO he
  rw [e1,e2] at k1;rw [ak he];generalize (ay (t.drop at')).2.2=e at *;refine ⟨at',aC rfl rfl ?_,λh=>absurd h he⟩;simp [k1,he,sN]
 obtain ⟨v1,v2,v3,v4,_⟩:=kZ he;rw [ah (λe=>e he)];rw [he] at k1;rw [eU] at v3;rw [nH];by_cases h16:16 < (ay (t.drop at')).1
 ·have h0:¬ (ay (t.drop at')).1=0:=by omega
  have oH:(16:Int) < ((ay (t.drop at')).1:Nat):=by omega
  rw [ah h0,ak h16];generalize (ay (t.drop at')).1=n at *;generalize (ay (t.drop at')).2.1=i at *;refine ⟨at'+i,aC rfl rfl ?_,λh=>by cases h⟩;simp only [Int.natCast_add] at k1;simp [k1,h0,h16,oH,sN]
 obtain ⟨at2,k2,e2⟩:=Yu t ht (ay (t.drop at')).1 (by omega) (ay (t.drop at')).1 [] none (at'+(ay (t.drop at')).2.1) (by simp) (.inl ⟨rfl,rfl⟩) (by omega);generalize (ay (t.drop at')).1=n at *;generalize (ay (t.drop at')).2.1=i at *;by_cases h0:n=0
 ·rw [ak h0]
  have h0':((n:Int)=0)=True:=eq_true (by omega);refine ⟨at'+i,aC rfl rfl ?_,λh=>by cases h⟩;simp only [Int.natCast_add] at k1;simp [k1,h0,h0',sN]
 rw [ah h0,ah h16];have oH:¬ (16:Int) < (n:Int):=by omega
 have w:=wrap64 (n:=(n:Int)) (by omega) (by omega);have hc:(0:Int)<=(n:Int)/\32 * (n:Int)<=281474976710656/\(n:Int)<=1152921504606846976:=by omega
 have k2':TT.lim 52 [.l [],.i .i64 n,.i .i64 0,.s t,.i .i64 ((at':Int)+(i:Int))]=_:=k2;generalize hdl:dL n none (t.drop (at'+i))=r at *;refine ⟨at2,aC rfl rfl ?_,λh=>?_⟩
 ·simp only [Int.natCast_add] at k1
  unfold yO at k2';by_cases hq:r.2.2=0
  ·simp only [hq,ne_eq,not_true_eq_false,if_false,dD] at k2' ⊢
   simp [k1,h0,h16,oH,w,hc,k2',GV.fV]
  ·simp only [hq,ne_eq,not_false_eq_true,if_true] at k2' ⊢
   simp [k1,h0,h16,oH,w,hc,k2',GV.fV,sN]
 ·by_cases hq:r.2.2=0
  ·rw [ah (λe=>e hq)]
   have:=e2 hq;simp only;omega
  ·rw [ak hq] at h
   exact absurd h hq
def yR (acc:List bJ) (s:List UInt8) (r:List bJ×Nat×Int):List GV:=if r.2.2≠0 then [.i .i64 0,.i .i64 r.2.2] else [.i .i64 1,.s (s.drop r.2.1),.l ((acc++r.1).map ent)]
theorem akl (L:List GV) (n i:Int) (s Y:List UInt8) (x:bJ) (e:Int) (h:i < n) (he:¬ e=0)
 (k:TT.lim 110 [.s s]=some [ent x,.s Y,.i .i64 e]) :
 TT.lim 109 [.s s,.i .u64 n,.l L,.i .u64 i]=some [.i .i64 0,.i .i64 e]:=by
 refine aC rfl rfl ?_;simp [h,k,he]
theorem akj (L:List GV) (n:Int) (s Y:List UInt8) (x:bJ) (R:List GV) (h:0 < n) (hb:2 * (L.length+1) * 32<=281474976710656/\L.length+1<=281474976710656)
 (k:TT.lim 110 [.s s]=some [ent x,.s Y,.i .i64 0])
 (ih:TT.lim 109 [.s Y,.i .u64 n,.l (L++[ent x]),.i .u64 1]=some R) :
 TT.lim 109 [.s s,.i .u64 n,.l L,.i .u64 0]=some R:=by
 have he:GV.g [.s x.1,.s x.2]=ent x:=rfl;have w1:=eH (n:=1) (by omega) (by omega);refine aC rfl rfl ?_;simp [h,k,he,GV.fV,hb,w1,ih]
theorem akk (L:List GV) (n:Int) (i:Nat) (s Y:List UInt8) (p x:bJ) (b:Int) (h:(i:Int)+1 < n) (hi:i+1<=100000000) (hl:(i:Int) < L.length) (hg:L[i]? = some (ent p)) (hb:¬ b=0)
 (kb:TT.lim 93 [ent p,ent x]=some [.i .i64 b]) (k:TT.lim 110 [.s s]=some [ent x,.s Y,.i .i64 0]) :
 TT.lim 109 [.s s,.i .u64 n,.l L,.i .u64 ((i:Int)+1)]=some [.i .i64 0,.i .i64 b]:=by
 have h0:(0:Int) < (i:Int)+1:=by omega
 have w:=eH (n:=(i:Int)) (by omega) (by omega);have hl3:i < L.length:=by omega
 have hgi:L[i]=ent p:=by have:=hg;rw [dK hl3] at this;exact zk this
 have he:GV.g [.s x.1,.s x.2]=ent x:=rfl;have he2:GV.g [.s p.1,.s p.2]=ent p:=rfl;refine aC rfl rfl ?_;simp [h,k,h0,w,hl,hl3,hg,hgi,he,he2,kb,hb]
theorem akm (L:List GV) (n:Int) (i:Nat) (s Y:List UInt8) (p x:bJ) (R:List GV) (h:(i:Int)+1 < n) (hi:i+1<=100000000) (hl:(i:Int) < L.length) (hl2:L.length<=100000000) (hg:L[i]? = some (ent p))
 (kb:TT.lim 93 [ent p,ent x]=some [.i .i64 0]) (k:TT.lim 110 [.s s]=some [ent x,.s Y,.i .i64 0])
 (ih:TT.lim 109 [.s Y,.i .u64 n,.l (L++[ent x]),.i .u64 ((i:Int)+1+1)]=some R) :
 TT.lim 109 [.s s,.i .u64 n,.l L,.i .u64 ((i:Int)+1)]=some R:=by
 have h0:(0:Int) < (i:Int)+1:=by omega
 have w:=eH (n:=(i:Int)) (by omega) (by omega);have w2:=eH (n:=(i:Int)+1+1) (by omega) (by omega);have hl3:i < L.length:=by omega
 have hgi:L[i]=ent p:=by have:=hg;rw [dK hl3] at this;exact zk this
 have he:GV.g [.s x.1,.s x.2]=ent x:=rfl;have he2:GV.g [.s p.1,.s p.2]=ent p:=rfl;have hbb:2 * (L.length+1) * 32<=281474976710656/\L.length+1<=281474976710656:=by omega
 refine aC rfl rfl ?_;simp [h,k,h0,w,w2,hl,hl3,hg,hgi,he,he2,kb,GV.fV,hbb,ih]
theorem abS (n:Nat) (hn:n<=1000):∀ (m:Nat) (acc:List bJ) (p:Option bJ) (s:List UInt8),acc.length+m=n->aau acc p->s.length<=100000000->(∀x,p=some x->Ci x)->
 TT.lim 109 [.s s,.i .u64 n,.l (acc.map ent),.i .u64 acc.length]=some (yR acc s (dL m p s))
 | 0,acc,p,s,hi,hp,h,_=>by
   have hlt:¬ ((acc.length:Int) < (n:Int)):=by omega
   unfold dL yR;simp only [ne_eq,not_true_eq_false,if_false,qV,dJ];generalize acc.map ent=L at *;refine aC rfl rfl ?_;simp [hlt]
 | m+1,acc,p,s,hi,hp,h,hsm=>by
   have k:=ako s h;rw [LM];by_cases h1:(bG s).2.2=0;rotate_left
   ·rw [ak h1]
    have:yR acc s ([],0,(bG s).2.2)=[.i .i64 0,.i .i64 (bG s).2.2]:=by unfold yR;rw [ak h1]
    rw [this];exact akl _ _ _ _ _ _ _ (by omega) h1 k
   rw [ah (λe=>e h1)];rw [ak h1,h1] at k;obtain ⟨a1,a2,_,a4,a5,_⟩:=IX h1;have hsx:Ci (bG s).1:=⟨by omega,by omega⟩
   generalize hX:(bG s).1=x at *;have ih:=abS n hn m (acc++[x]) (some x) (s.drop (bG s).2.1) (by rw [iJ,y9];omega) (.inr ⟨acc,x,rfl,rfl⟩) (by rw [eU];omega) (λy hy=>by cases hy;exact hsx);have hout:yR acc s (if (dL m (some x) (s.drop (bG s).2.1)).2.2≠0 then ([],0,(dL m (some x) (s.drop (bG s).2.1)).2.2) else (x::(dL m (some x) (s.drop (bG s).2.1)).1,(bG s).2.1+(dL m (some x) (s.drop (bG s).2.1)).2.1,0))=yR (acc++[x]) (s.drop (bG s).2.1) (dL m (some x) (s.drop (bG s).2.1)):=by
    unfold yR;by_cases hq:(dL m (some x) (s.drop (bG s).2.1)).2.2=0
    ·simp [hq]
    ·simp [hq]
   rw [qy] at ih;rcases hp with ⟨rfl,rfl⟩ | ⟨a,y,rfl,rfl⟩
   ·have hb0:sH none x=0:=rfl
    rw [hb0,ah (by simp),hout];exact akj [] n s _ x _ (by simp at hi;omega) (by simp) k ih
   ·have kb:=XB y x (hsm y rfl) hsx
    have hl:((a++[y]).length:Int)=(a.length:Int)+1:=by simp
    rw [iJ,y9] at hi;by_cases hb:oD y.1 x.1=0;rotate_left
    ·have hb':sH (some y) x≠0:=hb
     rw [ak hb'];have:yR (a++[y]) s ([],0,sH (some y) x)=[.i .i64 0,.i .i64 (oD y.1 x.1)]:=by unfold yR;rw [ak hb'];rfl
     rw [this,hl];exact akk _ n a.length s _ y x _ (by omega) (by omega) (by simp;omega) (by simp) hb kb k
    ·have hb':¬ sH (some y) x≠0:=λe=>e hb
     rw [ah hb',hout];have hl2:((a++[y]++[x]).length:Int)=(a.length:Int)+1+1:=by simp;omega
     rw [hl];rw [hl2] at ih;rw [hb] at kb;exact akm _ n a.length s _ y x _ (by omega) (by omega) (by simp;omega) (by simp;omega) (by simp) kb k ih
theorem aki (s:List UInt8) (hs:s.length<=100000000):TT.lim 105 [.s s]=some [.l ((iM s).1.map ent),.s (if (iM s).2.2=0 then s.drop (iM s).2.1 else []),.i .i64 (iM s).2.2]:=by
 have k1:=Gn s (by omega);unfold iM;by_cases he:(ay s).2.2=0;rotate_left
 ·rw [ak he]
  generalize (ay s).2.2=e at *;refine aA rfl rfl ?_ (by rfl);simp [k1,he,sN]
 obtain ⟨v1,v2,v3,v4,_⟩:=kZ he;rw [ah (λe=>e he)];rw [he] at k1;by_cases h16:16 < (ay s).1
 ·have h0:¬ (ay s).1=0:=by omega
  have oH:(16:Int) < ((ay s).1:Nat):=by omega
  rw [ah h0,ak h16];generalize (ay s).1=n at *;generalize (ay s).2.1=i at *;refine aA rfl rfl ?_ rfl;simp [k1,h0,h16,oH,sN]
 have k2:=abS (ay s).1 (by omega) (ay s).1 [] none (s.drop (ay s).2.1) (by simp) (.inl ⟨rfl,rfl⟩) (by rw [eU];omega) (λx hx=>by cases hx);have hd:(s.take s.length).drop (ay s).2.1=s.drop (ay s).2.1:=by rw [oU]
 generalize (ay s).1=n at *;generalize (ay s).2.1=i at *;by_cases h0:n=0
 ·rw [ak h0]
  have h0':((n:Int)=0)=True:=eq_true (by omega);refine aA rfl rfl ?_ rfl;simp [k1,h0,h0',sN]
 rw [ah h0,ah h16];have oH:¬ (16:Int) < (n:Int):=by omega
 have hi:(i:Int)<=s.length:=by omega
 have k2':TT.lim 109 [.s (s.drop i),.i .u64 n,.l [],.i .u64 0]=_:=k2;unfold yR at k2';rw [nH] at k2';generalize dL n none (s.drop i)=r at *;generalize hY:s.drop i=Y at *;by_cases hq:r.2.2=0
 ·simp only [hq,ne_eq,not_true_eq_false,if_false,dD] at k2' ⊢
  generalize s.drop (i+r.2.1)=Z at *;refine aA rfl rfl ?_ (by rfl);simp [k1,h0,h16,oH,hi,hd,hY,k2']
 ·simp only [hq,ne_eq,not_false_eq_true,if_true] at k2' ⊢
  refine aA rfl rfl ?_ (by rfl);simp [k1,h0,h16,oH,hi,hd,hY,k2',sN,hq]
/-- A whole text, as a descriptor. -/
def iO (s:List UInt8):List bJ×Int:=
 if (iM s).2.2≠0 then ([],(iM s).2.2) else if (iM s).2.1 < s.length then ([],10) else ((iM s).1,0)
theorem QM:∀ (m:Nat) (p:Option bJ) (s:List UInt8),(dL m p s).2.2=0->(dL m p s).2.1<=s.length/\(dL m p s).1.length=m/\∀x∈(dL m p s).1,nO x=0/\x.1.length<=s.length/\x.2.length<=s.length
 | 0,p,s,_=>by simp [dL]
 | m+1,p,s,h=>by
   rw [LM] at h ⊢;by_cases h1:(bG s).2.2=0;rotate_left
   ·rw [ak h1] at h;exact absurd h h1
   rw [ah (λe=>e h1)] at h ⊢;by_cases h2:sH p (bG s).1=0;rotate_left
   ·rw [ak h2] at h;exact absurd h h2
   rw [ah (λe=>e h2)] at h ⊢;by_cases h3:(dL m (some (bG s).1) (s.drop (bG s).2.1)).2.2=0;rotate_left
   ·rw [ak h3] at h;exact absurd h h3
   rw [ah (λe=>e h3)];obtain ⟨a1,a2,a3,a4,a5,_⟩:=IX h1;obtain ⟨b1,b2,b3⟩:=QM m (some (bG s).1) _ h3;rw [eU] at b1;refine ⟨by simp only;omega,by simp [b2],λx hx=>?_⟩;rcases dP.1 hx with rfl | hx
   ·exact ⟨a3,a4,a5⟩
   ·obtain ⟨c1,c2,c3⟩:=b3 x hx
    rw [eU] at c2 c3;exact ⟨c1,by omega,by omega⟩
theorem Yw {s:List UInt8} (h:(iM s).2.2=0):(ay s).2.2=0/\0 < (ay s).1/\(ay s).1<=16/\(dL (ay s).1 none (s.drop (ay s).2.1)).2.2=0/\(iM s).1=(dL (ay s).1 none (s.drop (ay s).2.1)).1/\
 (iM s).2.1=(ay s).2.1+(dL (ay s).1 none (s.drop (ay s).2.1)).2.1/\(iM s).2.1<=s.length:=by
 unfold iM at h ⊢;by_cases h1:(ay s).2.2=0;rotate_left
 ·rw [ak h1] at h;exact absurd h h1
 rw [ah (λe=>e h1)] at h ⊢;by_cases h2:(ay s).1=0
 ·rw [ak h2] at h;exact absurd h (by simp [sN])
 rw [ah h2] at h ⊢;by_cases h3:16 < (ay s).1
 ·rw [ak h3] at h;exact absurd h (by simp [sN])
 rw [ah h3] at h ⊢;by_cases h4:(dL (ay s).1 none (s.drop (ay s).2.1)).2.2=0;rotate_left
 ·rw [ak h4] at h;exact absurd h h4
 rw [ah (λe=>e h4)];obtain ⟨v1,v2,v3,_,_⟩:=kZ h1;obtain ⟨d1,_,_⟩:=QM _ _ _ h4;rw [eU] at d1;exact ⟨h1,by omega,by omega,h4,rfl,rfl,by simp only;omega⟩
theorem Yx (s:List UInt8) (hs:s.length<=100000000):TT.lim 47 [.s s]=some [.l ((iO s).1.map ent),.i .i64 (iO s).2]:=by
 obtain ⟨at2,k,e2⟩:=aff s 0 (by omega) hs;rw [dJ,show ((0:Nat):Int)=0 from rfl] at k;rw [dJ] at e2;unfold iO;by_cases h1:(iM s).2.2=0;rotate_left
 ·rw [ak h1]
  generalize iM s=r at *;refine aA rfl rfl ?_ (by rfl);simp [k,h1]
 have e2:=e2 h1;obtain ⟨_,_,_,_,_,_,a7⟩:=Yw h1;rw [ah (λe=>e h1)];rw [h1] at k;rw [iW] at e2;have w:=wrap64 (n:=(s.length:Int) - (at2:Int)) (by omega) (by omega);rw [<- e2] at a7 ⊢;generalize iM s=r at *;by_cases h2:at2 < s.length
 ·rw [ak h2]
  refine aA rfl rfl ?_ rfl;simp [k,w,h2]
 ·rw [ah h2]
  refine aA rfl rfl ?_ rfl;simp [k,w,h2]
theorem abT (s:List UInt8) (hs:s.length<=100000000):TT.lim 104 [.s s]=some [.l ((iO s).1.map ent),.i .i64 (iO s).2]:=by
 have k:=aki s hs;unfold iO;by_cases h1:(iM s).2.2=0;rotate_left
 ·rw [ak h1]
  generalize iM s=r at *;refine aA rfl rfl ?_ (by rfl);simp [k,h1]
 rw [ah (λe=>e h1)];rw [ak h1,h1] at k;have hd:(s.drop (iM s).2.1=[])=¬ ((iM s).2.1 < s.length):=by apply propext;rw [List.drop_eq_nil_iff];omega
 generalize hY:s.drop (iM s).2.1=Y at *;generalize iM s=r at *;by_cases h2:r.2.1 < s.length
 ·rw [ak h2]
  have hd':(Y=[])=False:=by rw [hd];simp [h2]
  clear hd;refine aA rfl rfl ?_ rfl;simp [k,hd']
 ·rw [ah h2]
  have hd':(Y=[])=True:=by rw [hd];simp [h2]
  clear hd;refine aA rfl rfl ?_ rfl;simp [k,hd']
def uN (e:Int):Row×Nat×Int:=(([],0),0,e)
/-- The row of a key, whose number stands next. -/
def dW (key s:List UInt8):Row×Nat×Int:=
 if (iO key).2≠0 then uN (iO key).2 else
 if (ay s).2.2≠0 then uN (ay s).2.2 else
 if (ay s).1=0 then uN 17 else (((iO key).1,((ay s).1:Nat)),(ay s).2.1,0)
theorem UO {key s:List UInt8} (h:(dW key s).2.2=0):(iO key).2=0/\(ay s).2.2=0/\(ay s).1≠0/\(dW key s).1=((iO key).1,(((ay s).1:Nat):Int))/\(dW key s).2.1=(ay s).2.1:=by
 unfold dW at h ⊢;by_cases h1:(iO key).2=0;rotate_left
 ·rw [ak h1] at h;exact absurd h h1
 rw [ah (λe=>e h1)] at h ⊢;by_cases h2:(ay s).2.2=0;rotate_left
 ·rw [ak h2] at h;exact absurd h h2
 rw [ah (λe=>e h2)] at h ⊢;by_cases h3:(ay s).1=0
 ·rw [ak h3] at h;exact absurd h (by simp [uN])
 rw [ah h3];exact ⟨h1,h2,h3,rfl,rfl⟩
theorem rowP (key t:List UInt8) (at':Nat) (h:at'<=t.length) (ht:t.length<=100000000) (hk:key.length<=100000000) :
 ∃at2:Nat,TT.lim 59 [.s key,.s t,.i .i64 at']=some [.i .i64 0,.l ((dW key (t.drop at')).1.1.map ent),.i .u64 (dW key (t.drop at')).1.2,.i .i64 (dW key (t.drop at')).2.2,.s t,.i .i64 at2]/\
  ((dW key (t.drop at')).2.2=0->at2=at'+(dW key (t.drop at')).2.1):=by
 have k1:=Yx key hk;have k2:=GN t at' h (by omega);unfold dW;generalize iO key=D at *;by_cases h1:D.2=0;rotate_left
 ·rw [ak h1]
  refine ⟨at',aC rfl rfl ?_,λh=>absurd h h1⟩;simp [k1,h1,uN]
 rw [ah (λe=>e h1)];by_cases h2:(ay (t.drop at')).2.2=0;rotate_left
 ·obtain ⟨e1,e2⟩:=BO h2
  rw [e1,e2] at k2;rw [ak h2];generalize ay (t.drop at')=V at *;refine ⟨at',aC rfl rfl ?_,λh=>absurd h h2⟩;simp [k1,k2,h1,h2,uN]
 rw [ah (λe=>e h2)];rw [h2] at k2;simp only [Int.natCast_add] at k2;generalize ay (t.drop at')=V at *;by_cases h3:V.1=0
 ·rw [ak h3]
  rw [h3] at k2;refine ⟨at'+V.2.1,aC rfl rfl ?_,λh=>by cases h⟩;simp [k1,k2,h1,uN]
 ·rw [ah h3]
  refine ⟨at'+V.2.1,aC rfl rfl ?_,λ_=>rfl⟩;simp [k1,k2,h1,h3]
/-- Rows, one behind the other. -/
def dV:Nat->List UInt8->Bool->List UInt8->List Row×Nat×Int
 | 0,_,_,_=>([],0,0)
 | m+1,a,first,s=>if (aW s a first).2.2≠0 then ([],0,(aW s a first).2.2) else
   if (dW (aW s a first).1 (s.drop (aW s a first).2.1)).2.2≠0 then ([],0,(dW (aW s a first).1 (s.drop (aW s a first).2.1)).2.2) else
   if (dV m (aW s a first).1 false (s.drop ((aW s a first).2.1+(dW (aW s a first).1 (s.drop (aW s a first).2.1)).2.1))).2.2≠0 then ([],0,(dV m (aW s a first).1 false (s.drop ((aW s a first).2.1+(dW (aW s a first).1 (s.drop (aW s a first).2.1)).2.1))).2.2) else
   ((dW (aW s a first).1 (s.drop (aW s a first).2.1)).1::(dV m (aW s a first).1 false (s.drop ((aW s a first).2.1+(dW (aW s a first).1 (s.drop (aW s a first).2.1)).2.1))).1,
    (aW s a first).2.1+(dW (aW s a first).1 (s.drop (aW s a first).2.1)).2.1+(dV m (aW s a first).1 false (s.drop ((aW s a first).2.1+(dW (aW s a first).1 (s.drop (aW s a first).2.1)).2.1))).2.1,0)
theorem Og (m:Nat) (a:List UInt8) (first:Bool) (s:List UInt8):dV (m+1) a first s=if (aW s a first).2.2≠0 then ([],0,(aW s a first).2.2) else
 if (dW (aW s a first).1 (s.drop (aW s a first).2.1)).2.2≠0 then ([],0,(dW (aW s a first).1 (s.drop (aW s a first).2.1)).2.2) else
 if (dV m (aW s a first).1 false (s.drop ((aW s a first).2.1+(dW (aW s a first).1 (s.drop (aW s a first).2.1)).2.1))).2.2≠0 then ([],0,(dV m (aW s a first).1 false (s.drop ((aW s a first).2.1+(dW (aW s a first).1 (s.drop (aW s a first).2.1)).2.1))).2.2) else
 ((dW (aW s a first).1 (s.drop (aW s a first).2.1)).1::(dV m (aW s a first).1 false (s.drop ((aW s a first).2.1+(dW (aW s a first).1 (s.drop (aW s a first).2.1)).2.1))).1,
  (aW s a first).2.1+(dW (aW s a first).1 (s.drop (aW s a first).2.1)).2.1+(dV m (aW s a first).1 false (s.drop ((aW s a first).2.1+(dW (aW s a first).1 (s.drop (aW s a first).2.1)).2.1))).2.1,0):=rfl
def yQ (acc:List Row) (t:List UInt8) (at2:Nat) (r:List Row×Nat×Int):List GV:=if r.2.2≠0 then [.i .i64 0,.i .i64 r.2.2,.s t,.i .i64 at2] else [.i .i64 1,.l ((acc++r.1).map row),.s t,.i .i64 at2]
theorem ajD (L:List GV) (a t X:List UInt8) (n i at' at2:Int) (first:Bool) (e:Int) (h:i < n) (hf:decide (i=0)=first) (he:¬ e=0)
 (k:TT.lim 58 [.s t,.i .i64 at',.s a,.b first]=some [.i .i64 0,.s X,.i .i64 e,.s t,.i .i64 at2]) :
 TT.lim 57 [.l L,.s a,.i .i64 n,.i .i64 i,.s t,.i .i64 at']=some [.i .i64 0,.i .i64 e,.s t,.i .i64 at2]:=by
 refine aC rfl rfl ?_;simp [h,hf,k,he]
theorem ajF (L:List GV) (a t X:List UInt8) (D:List GV) (N:Int) (n i at' at2 at3:Int) (first:Bool) (e:Int) (h:i < n) (hf:decide (i=0)=first) (he:¬ e=0)
 (k:TT.lim 58 [.s t,.i .i64 at',.s a,.b first]=some [.i .i64 0,.s X,.i .i64 0,.s t,.i .i64 at2])
 (k2:TT.lim 59 [.s X,.s t,.i .i64 at2]=some [.i .i64 0,.l D,.i .u64 N,.i .i64 e,.s t,.i .i64 at3]) :
 TT.lim 57 [.l L,.s a,.i .i64 n,.i .i64 i,.s t,.i .i64 at']=some [.i .i64 0,.i .i64 e,.s t,.i .i64 at3]:=by
 refine aC rfl rfl ?_;simp [h,hf,k,k2,he]
theorem ajE (L:List GV) (a t X:List UInt8) (D:List GV) (N:Int) (n i at' at2 at3:Int) (first:Bool) (R:List GV) (h:i < n) (hf:decide (i=0)=first) (hw:IntKind.i64.wrap (i+1)=i+1) (hb:L.length<=100000000)
 (k:TT.lim 58 [.s t,.i .i64 at',.s a,.b first]=some [.i .i64 0,.s X,.i .i64 0,.s t,.i .i64 at2])
 (k2:TT.lim 59 [.s X,.s t,.i .i64 at2]=some [.i .i64 0,.l D,.i .u64 N,.i .i64 0,.s t,.i .i64 at3])
 (ih:TT.lim 57 [.l (L++[.g [.l D,.i .u64 N]]),.s X,.i .i64 n,.i .i64 (i+1),.s t,.i .i64 at3]=some R) :
 TT.lim 57 [.l L,.s a,.i .i64 n,.i .i64 i,.s t,.i .i64 at']=some R:=by
 have hbb:2 * (L.length+1) * 32<=281474976710656/\L.length+1<=281474976710656:=by omega
 refine aC rfl rfl ?_;simp [h,hf,k,k2,hw,GV.fV,hbb,ih]
theorem abC (t:List UInt8) (ht:t.length<=100000000) (n:Nat) (hn:n<=1000):∀ (m:Nat) (acc:List Row) (a:List UInt8) (at':Nat),acc.length+m=n->at'<=t.length->a.length<=at'->
 ∃at2:Nat,TT.lim 57 [.l (acc.map row),.s a,.i .i64 n,.i .i64 acc.length,.s t,.i .i64 at']=some (yQ acc t at2 (dV m a (decide ((acc.length:Int)=0)) (t.drop at')))/\
  ((dV m a (decide ((acc.length:Int)=0)) (t.drop at')).2.2=0->at2=at'+(dV m a (decide ((acc.length:Int)=0)) (t.drop at')).2.1)
 | 0,acc,a,at',hi,h,ha=>by
   have hlt:¬ ((acc.length:Int) < (n:Int)):=by omega
   refine ⟨at', ?_,λ_=>by simp [dV]⟩;unfold dV yQ;simp only [ne_eq,not_true_eq_false,if_false,qV];generalize acc.map row=L at *;refine aC rfl rfl ?_;simp [hlt]
 | m+1,acc,a,at',hi,h,ha=>by
   obtain ⟨at2,k,e2⟩:=ajz t a (decide ((acc.length:Int)=0)) at' h ht (by omega);rw [Og];generalize hf:decide ((acc.length:Int)=0)=first at *
   by_cases h1:(aW (t.drop at') a first).2.2=0;rotate_left
   ·rw [ak h1]
    refine ⟨at2, ?_,λh=>absurd h h1⟩;have:yQ acc t at2 ([],0,(aW (t.drop at') a first).2.2)=[.i .i64 0,.i .i64 (aW (t.drop at') a first).2.2,.s t,.i .i64 at2]:=by unfold yQ;rw [ak h1]
    rw [this];exact ajD _ _ _ _ _ _ _ _ _ _ (by omega) hf h1 k
   rw [ah (λe=>e h1)];rw [h1] at k;have e2:=e2 h1;obtain ⟨a1,a2,a3⟩:=Oh h1;rw [eU] at a2;have hdd:∀j,(t.drop at').drop ((aW (t.drop at') a first).2.1+j)=t.drop (at2+j):=by intro j;rw [nH,e2,iV]
   have ag6:(t.drop at').drop (aW (t.drop at') a first).2.1=t.drop at2:=by rw [nH,e2]
   have hal:(aW (t.drop at') a first).1.length<=at2:=by split at a3<;>omega
   rw [hdd,ag6];generalize (aW (t.drop at') a first).1=X at *;generalize (aW (t.drop at') a first).2.1=j1 at *;obtain ⟨at3,k2,e3⟩:=rowP X t at2 (by omega) ht (by omega);by_cases h2:(dW X (t.drop at2)).2.2=0;rotate_left
   ·rw [ak h2]
    refine ⟨at3, ?_,λh=>absurd h h2⟩;have:yQ acc t at3 ([],0,(dW X (t.drop at2)).2.2)=[.i .i64 0,.i .i64 (dW X (t.drop at2)).2.2,.s t,.i .i64 at3]:=by unfold yQ;rw [ak h2]
    rw [this];exact ajF _ _ _ _ _ _ _ _ _ _ _ _ _ (by omega) hf h2 k k2
   rw [ah (λe=>e h2)];rw [h2] at k2;have e3:=e3 h2;obtain ⟨_,q2,_,_,q5⟩:=UO h2;obtain ⟨v1,v2,v3,_,_⟩:=kZ q2;rw [eU] at v3;have e3':at2+(dW X (t.drop at2)).2.1=at3:=e3.symm;rw [e3'];have hrow:GV.g [.l ((dW X (t.drop at2)).1.1.map ent),.i .u64 (dW X (t.drop at2)).1.2]=row (dW X (t.drop at2)).1:=rfl;obtain ⟨at4,ih,e4⟩:=abC t ht n hn m (acc++[(dW X (t.drop at2)).1]) X at3 (by rw [iJ,y9];omega) (by omega) (by omega);have hfalse:decide (((acc++[(dW X (t.drop at2)).1]).length:Int)=0)=false:=by simp;omega
   have hl:((acc++[(dW X (t.drop at2)).1]).length:Int)=(acc.length:Int)+1:=by simp
   rw [hfalse] at ih e4;rw [hl,qy] at ih;generalize (dW X (t.drop at2)).1=Q at *;generalize (dW X (t.drop at2)).2.1=j2 at *;have hout:yQ acc t at4 (if (dV m X false (t.drop at3)).2.2≠0 then ([],0,(dV m X false (t.drop at3)).2.2) else (Q::(dV m X false (t.drop at3)).1,j1+j2+(dV m X false (t.drop at3)).2.1,0))=yQ (acc++[Q]) t at4 (dV m X false (t.drop at3)):=by
    unfold yQ;by_cases hq:(dV m X false (t.drop at3)).2.2=0
    ·simp [hq]
    ·simp [hq]
   refine ⟨at4, ?_, ?_⟩
   ·rw [hout]
    exact ajE _ _ _ _ _ _ _ _ _ _ _ _ _ (by omega) hf (wrap64 (by omega) (by omega)) (by simp;omega) k k2 (by rw [hrow];exact ih)
   ·by_cases hq:(dV m X false (t.drop at3)).2.2=0
    ·rw [ah (λe=>e hq)]
     intro _;have:=e4 hq;simp only;omega
    ·rw [ak hq]
     intro h;exact absurd h hq
def yK (e:Int):List Row×Nat×Int:=([],0,e)
/-- A table that stands next. -/
def iF (s:List UInt8):List Row×Nat×Int:=
 if (ay s).2.2≠0 then yK (ay s).2.2 else
 if 256 < (ay s).1 then yK 13 else
 if (dV (ay s).1 [] true (s.drop (ay s).2.1)).2.2≠0 then yK (dV (ay s).1 [] true (s.drop (ay s).2.1)).2.2 else
 ((dV (ay s).1 [] true (s.drop (ay s).2.1)).1,(ay s).2.1+(dV (ay s).1 [] true (s.drop (ay s).2.1)).2.1,0)
theorem ahS (t:List UInt8) (at':Nat) (h:at'<=t.length) (ht:t.length<=100000000) :
 ∃at2:Nat,TT.lim 56 [.s t,.i .i64 at']=some [.i .i64 0,.l ((iF (t.drop at')).1.map row),.i .i64 (iF (t.drop at')).2.2,.s t,.i .i64 at2]/\((iF (t.drop at')).2.2=0->at2=at'+(iF (t.drop at')).2.1):=by
 have k1:=GN t at' h (by omega);unfold iF;by_cases he:(ay (t.drop at')).2.2=0;rotate_left
 ·obtain ⟨e1,e2⟩:=BO he
  rw [e1,e2] at k1;rw [ak he];generalize (ay (t.drop at')).2.2=e at *;refine ⟨at',aC rfl rfl ?_,λh=>absurd h he⟩;simp [k1,he,yK]
 obtain ⟨v1,v2,v3,v4,_⟩:=kZ he;rw [ah (λe=>e he)];rw [he] at k1;rw [eU] at v3;rw [nH];by_cases h16:256 < (ay (t.drop at')).1
 ·have oH:(256:Int) < ((ay (t.drop at')).1:Nat):=by omega
  rw [ak h16];generalize (ay (t.drop at')).1=n at *;generalize (ay (t.drop at')).2.1=i at *;refine ⟨at'+i,aC rfl rfl ?_,λh=>by cases h⟩;simp only [Int.natCast_add] at k1;simp [k1,h16,oH,yK]
 obtain ⟨at2,k2,e2⟩:=abC t ht (ay (t.drop at')).1 (by omega) (ay (t.drop at')).1 [] [] (at'+(ay (t.drop at')).2.1) (by simp) (by omega) (by simp);generalize (ay (t.drop at')).1=n at *;generalize (ay (t.drop at')).2.1=i at *;rw [ah h16];have oH:¬ (256:Int) < (n:Int):=by omega
 have w:=wrap64 (n:=(n:Int)) (by omega) (by omega);have hc:(0:Int)<=(n:Int)/\32 * (n:Int)<=281474976710656/\(n:Int)<=1152921504606846976:=by omega
 rw [show decide ((([]:List Row).length:Int)=0)=true from rfl] at k2 e2;have k2':TT.lim 57 [.l [],.s [],.i .i64 n,.i .i64 0,.s t,.i .i64 ((at':Int)+(i:Int))]=_:=k2;generalize dV n [] true (t.drop (at'+i))=r at *;refine ⟨at2,aC rfl rfl ?_,λh=>?_⟩
 ·simp only [Int.natCast_add] at k1
  unfold yQ at k2';by_cases hq:r.2.2=0
  ·simp only [hq,ne_eq,not_true_eq_false,if_false,dD] at k2' ⊢
   simp [k1,h16,oH,w,hc,k2',GV.fV]
  ·simp only [hq,ne_eq,not_false_eq_true,if_true] at k2' ⊢
   simp [k1,h16,oH,w,hc,k2',GV.fV,yK]
 ·by_cases hq:r.2.2=0
  ·rw [ah (λe=>e hq)]
   have:=e2 hq;simp only;omega
  ·rw [ak hq] at h
   exact absurd h hq
def uM (acc:List Row) (s:List UInt8) (r:List Row×Nat×Int):List GV:=if r.2.2≠0 then [.i .i64 0,.i .i64 r.2.2] else [.i .i64 1,.s (s.drop r.2.1),.l ((acc++r.1).map row)]
theorem akR (L:List GV) (a s X Y:List UInt8) (n i:Int) (first:Bool) (e:Int) (h:i < n) (hf:decide (i=0)=first) (he:¬ e=0)
 (k:TT.lim 115 [.s s,.s a,.b first]=some [.s X,.s Y,.i .i64 e]) :
 TT.lim 114 [.s s,.i .u64 n,.l L,.s a,.i .u64 i]=some [.i .i64 0,.i .i64 e]:=by
 refine aC rfl rfl ?_;simp [h,hf,k,he]
theorem akQ (L:List GV) (a s X Y:List UInt8) (D:List GV) (n i:Int) (first:Bool) (e:Int) (h:i < n) (hf:decide (i=0)=first) (he:¬ e=0)
 (k:TT.lim 115 [.s s,.s a,.b first]=some [.s X,.s Y,.i .i64 0]) (k2:TT.lim 104 [.s X]=some [.l D,.i .i64 e]) :
 TT.lim 114 [.s s,.i .u64 n,.l L,.s a,.i .u64 i]=some [.i .i64 0,.i .i64 e]:=by
 refine aC rfl rfl ?_;simp [h,hf,k,k2,he]
theorem akT (L:List GV) (a s X Y:List UInt8) (D:List GV) (n i N j:Int) (first:Bool) (e:Int) (h:i < n) (hf:decide (i=0)=first) (he:¬ e=0)
 (k:TT.lim 115 [.s s,.s a,.b first]=some [.s X,.s Y,.i .i64 0]) (k2:TT.lim 104 [.s X]=some [.l D,.i .i64 0])
 (k3:TT.lim 106 [.s Y]=some [.i .u64 N,.i .i64 j,.i .i64 e]) :
 TT.lim 114 [.s s,.i .u64 n,.l L,.s a,.i .u64 i]=some [.i .i64 0,.i .i64 e]:=by
 refine aC rfl rfl ?_;simp [h,hf,k,k2,k3,he]
theorem akU (L:List GV) (a s X Y:List UInt8) (D:List GV) (n i j:Int) (first:Bool) (h:i < n) (hf:decide (i=0)=first)
 (k:TT.lim 115 [.s s,.s a,.b first]=some [.s X,.s Y,.i .i64 0]) (k2:TT.lim 104 [.s X]=some [.l D,.i .i64 0])
 (k3:TT.lim 106 [.s Y]=some [.i .u64 0,.i .i64 j,.i .i64 0]) :
 TT.lim 114 [.s s,.i .u64 n,.l L,.s a,.i .u64 i]=some [.i .i64 0,.i .i64 17]:=by
 refine aC rfl rfl ?_;simp [h,hf,k,k2,k3]
theorem akS (L:List GV) (a s X Y:List UInt8) (D:List GV) (n i N:Int) (j:Nat) (first:Bool) (R:List GV) (h:i < n) (hf:decide (i=0)=first) (hN:¬ N=0) (hw:IntKind.u64.wrap (i+1)=i+1) (hb:L.length<=100000000) (hj:j<=Y.length)
 (k:TT.lim 115 [.s s,.s a,.b first]=some [.s X,.s Y,.i .i64 0]) (k2:TT.lim 104 [.s X]=some [.l D,.i .i64 0])
 (k3:TT.lim 106 [.s Y]=some [.i .u64 N,.i .i64 j,.i .i64 0])
 (ih:TT.lim 114 [.s (Y.drop j),.i .u64 n,.l (L++[.g [.l D,.i .u64 N]]),.s X,.i .u64 (i+1)]=some R) :
 TT.lim 114 [.s s,.i .u64 n,.l L,.s a,.i .u64 i]=some R:=by
 have hbb:2 * (L.length+1) * 32<=281474976710656/\L.length+1<=281474976710656:=by omega
 have hj':(j:Int)<=Y.length:=by omega
 have hd:(Y.take Y.length).drop j=Y.drop j:=by rw [oU]
 generalize hZ:Y.drop j=Z at *;refine aC rfl rfl ?_;simp [h,hf,k,k2,k3,hN,hw,GV.fV,hbb,hj',hd,hZ,ih]
theorem ab7 (n:Nat) (hn:n<=1000):∀ (m:Nat) (acc:List Row) (a s:List UInt8),acc.length+m=n->a.length+s.length<=100000000->
 TT.lim 114 [.s s,.i .u64 n,.l (acc.map row),.s a,.i .u64 acc.length]=some (uM acc s (dV m a (decide ((acc.length:Int)=0)) s))
 | 0,acc,a,s,hi,h=>by
   have hlt:¬ ((acc.length:Int) < (n:Int)):=by omega
   unfold dV uM;simp only [ne_eq,not_true_eq_false,if_false,qV,dJ];generalize acc.map row=L at *;refine aC rfl rfl ?_;simp [hlt]
 | m+1,acc,a,s,hi,h=>by
   have k:=akw s a (decide ((acc.length:Int)=0)) (by omega) (by omega);rw [Og];generalize hf:decide ((acc.length:Int)=0)=first at *
   by_cases h1:(aW s a first).2.2=0;rotate_left
   ·rw [ak h1]
    have:uM acc s ([],0,(aW s a first).2.2)=[.i .i64 0,.i .i64 (aW s a first).2.2]:=by unfold uM;rw [ak h1]
    rw [this];exact akR _ _ _ _ _ _ _ _ _ (by omega) hf h1 k
   rw [ah (λe=>e h1)];rw [ak h1,h1] at k;obtain ⟨a1,a2,a3⟩:=Oh h1;have hal:(aW s a first).1.length+(s.length - (aW s a first).2.1)<=a.length+s.length:=by split at a3<;>omega
   have hdd:∀j,s.drop ((aW s a first).2.1+j)=(s.drop (aW s a first).2.1).drop j:=by intro j;rw [nH]
   rw [hdd];have hYl:(s.drop (aW s a first).2.1).length=s.length - (aW s a first).2.1:=eU;generalize hX:(aW s a first).1=X at *;generalize hj1:(aW s a first).2.1=j1 at *;generalize hY:s.drop j1=Y at *;have kd:=abT X (by omega);have kv:=Gn Y (by omega);have Sl:∀e,e≠0->uM acc s ([],0,e)=[.i .i64 0,.i .i64 e]:=by intro e he;unfold uM;rw [ak he]
   by_cases c1:(iO X).2=0;rotate_left
   ·have:dW X Y=uN (iO X).2:=by unfold dW;rw [ak c1]
    rw [this,ak (show (uN (iO X).2).2.2≠0 from c1)];show _=some (uM acc s ([],0,(iO X).2))
    rw [Sl _ c1];exact akQ _ _ _ _ _ _ _ _ _ _ (by omega) hf c1 k kd
   by_cases c2:(ay Y).2.2=0;rotate_left
   ·have:dW X Y=uN (ay Y).2.2:=by unfold dW;rw [ah (λe=>e c1),ak c2]
    rw [this,ak (show (uN (ay Y).2.2).2.2≠0 from c2)];show _=some (uM acc s ([],0,(ay Y).2.2))
    rw [Sl _ c2];rw [c1] at kd;exact akT _ _ _ _ _ _ _ _ _ _ _ _ (by omega) hf c2 k kd kv
   by_cases c3:(ay Y).1=0
   ·have:dW X Y=uN 17:=by unfold dW;rw [ah (λe=>e c1),ah (λe=>e c2),ak c3]
    rw [this,ak (by simp [uN])];show _=some (uM acc s ([],0,17))
    rw [Sl _ (by decide)];rw [c1] at kd;rw [c2,c3] at kv;exact akU _ _ _ _ _ _ _ _ _ _ (by omega) hf k kd kv
   have hq:dW X Y=(((iO X).1,(((ay Y).1:Nat):Int)),(ay Y).2.1,0):=by unfold dW;rw [ah (λe=>e c1),ah (λe=>e c2),ah c3]
   obtain ⟨v1,v2,v3,_,_⟩:=kZ c2;rw [hq,ah (by simp)];simp only;rw [c1] at kd;rw [c2] at kv;have ih:=ab7 n hn m (acc++[((iO X).1,(((ay Y).1:Nat):Int))]) X (Y.drop (ay Y).2.1) (by rw [iJ,y9];omega) (by rw [eU];omega);have hfalse:decide (((acc++[((iO X).1,(((ay Y).1:Nat):Int))]).length:Int)=0)=false:=by simp;omega
   have hl:((acc++[((iO X).1,(((ay Y).1:Nat):Int))]).length:Int)=(acc.length:Int)+1:=by simp
   rw [hfalse,hl,qy] at ih;have hsd:∀z,s.drop (j1+(ay Y).2.1+z)=(Y.drop (ay Y).2.1).drop z:=by intro z;rw [<- hY,nH,nH];congr 1;omega
   have hout:uM acc s (if (dV m X false (Y.drop (ay Y).2.1)).2.2≠0 then ([],0,(dV m X false (Y.drop (ay Y).2.1)).2.2) else (((iO X).1,(((ay Y).1:Nat):Int))::(dV m X false (Y.drop (ay Y).2.1)).1,j1+(ay Y).2.1+(dV m X false (Y.drop (ay Y).2.1)).2.1,0)) =
    uM (acc++[((iO X).1,(((ay Y).1:Nat):Int))]) (Y.drop (ay Y).2.1) (dV m X false (Y.drop (ay Y).2.1)):=by
    unfold uM;by_cases hq:(dV m X false (Y.drop (ay Y).2.1)).2.2=0
    ·simp only [hq,ne_eq,not_true_eq_false,if_false,hsd]
     simp
    ·simp [hq]
   rw [hout];exact akS _ _ _ _ _ _ _ _ _ _ _ _ (by omega) hf (by omega) (eH (by omega) (by omega)) (by simp;omega) v3 k kd kv ih
theorem aks (s:List UInt8) (hs:s.length<=100000000):TT.lim 113 [.s s]=some [.l ((iF s).1.map row),.s (if (iF s).2.2=0 then s.drop (iF s).2.1 else []),.i .i64 (iF s).2.2]:=by
 have k1:=Gn s (by omega);unfold iF;by_cases he:(ay s).2.2=0;rotate_left
 ·rw [ak he]
  generalize (ay s).2.2=e at *;refine aA rfl rfl ?_ (by rfl);simp [k1,he,yK]
 obtain ⟨v1,v2,v3,v4,_⟩:=kZ he;rw [ah (λe=>e he)];rw [he] at k1;by_cases h16:256 < (ay s).1
 ·have oH:(256:Int) < ((ay s).1:Nat):=by omega
  rw [ak h16];generalize (ay s).1=n at *;generalize (ay s).2.1=i at *;refine aA rfl rfl ?_ rfl;simp [k1,h16,oH,yK]
 have k2:=ab7 (ay s).1 (by omega) (ay s).1 [] [] (s.drop (ay s).2.1) (by simp) (by rw [eU];simp;omega);have hd:(s.take s.length).drop (ay s).2.1=s.drop (ay s).2.1:=by rw [oU]
 generalize (ay s).1=n at *;generalize (ay s).2.1=i at *;rw [ah h16];have oH:¬ (256:Int) < (n:Int):=by omega
 have hi:(i:Int)<=s.length:=by omega
 rw [show decide ((([]:List Row).length:Int)=0)=true from rfl] at k2;have k2':TT.lim 114 [.s (s.drop i),.i .u64 n,.l [],.s [],.i .u64 0]=_:=k2;unfold uM at k2';rw [nH] at k2';generalize dV n [] true (s.drop i)=r at *;generalize hY:s.drop i=Y at *;by_cases hq:r.2.2=0
 ·simp only [hq,ne_eq,not_true_eq_false,if_false,dD] at k2' ⊢
  generalize s.drop (i+r.2.1)=Z at *;refine aA rfl rfl ?_ (by rfl);simp [k1,h16,oH,hi,hd,hY,k2']
 ·simp only [hq,ne_eq,not_false_eq_true,if_true] at k2' ⊢
  refine aA rfl rfl ?_ (by rfl);simp [k1,h16,oH,hi,hd,hY,k2',yK,hq]
/-- A whole text, as a table. -/
def kW (s:List UInt8):List Row×Int:=
 if (iF s).2.2≠0 then ([],(iF s).2.2) else if (iF s).2.1 < s.length then ([],10) else ((iF s).1,0)
theorem UH:∀ (m:Nat) (a:List UInt8) (first:Bool) (s:List UInt8),(dV m a first s).2.2=0->(dV m a first s).2.1<=s.length/\(dV m a first s).1.length=m
 | 0,a,first,s,_=>by simp [dV]
 | m+1,a,first,s,h=>by
   rw [Og] at h ⊢;by_cases h1:(aW s a first).2.2=0;rotate_left
   ·rw [ak h1] at h;exact absurd h h1
   rw [ah (λe=>e h1)] at h ⊢;by_cases h2:(dW (aW s a first).1 (s.drop (aW s a first).2.1)).2.2=0;rotate_left
   ·rw [ak h2] at h;exact absurd h h2
   rw [ah (λe=>e h2)] at h ⊢;by_cases h3:(dV m (aW s a first).1 false (s.drop ((aW s a first).2.1+(dW (aW s a first).1 (s.drop (aW s a first).2.1)).2.1))).2.2=0;rotate_left
   ·rw [ak h3] at h;exact absurd h h3
   rw [ah (λe=>e h3)];obtain ⟨a1,a2,_⟩:=Oh h1;obtain ⟨_,q2,_,_,q5⟩:=UO h2;obtain ⟨v1,v2,v3,_,_⟩:=kZ q2;rw [eU] at v3;obtain ⟨b1,b2⟩:=UH m _ _ _ h3;rw [eU] at b1;exact ⟨by simp only;omega,by simp [b2]⟩
theorem aar {s:List UInt8} (h:(iF s).2.2=0):(ay s).2.2=0/\(ay s).1<=256/\(dV (ay s).1 [] true (s.drop (ay s).2.1)).2.2=0/\(iF s).1=(dV (ay s).1 [] true (s.drop (ay s).2.1)).1/\
 (iF s).2.1=(ay s).2.1+(dV (ay s).1 [] true (s.drop (ay s).2.1)).2.1/\(iF s).2.1<=s.length:=by
 unfold iF at h ⊢;by_cases h1:(ay s).2.2=0;rotate_left
 ·rw [ak h1] at h;exact absurd h h1
 rw [ah (λe=>e h1)] at h ⊢;by_cases h3:256 < (ay s).1
 ·rw [ak h3] at h;exact absurd h (by simp [yK])
 rw [ah h3] at h ⊢;by_cases h4:(dV (ay s).1 [] true (s.drop (ay s).2.1)).2.2=0;rotate_left
 ·rw [ak h4] at h;exact absurd h h4
 rw [ah (λe=>e h4)];obtain ⟨v1,v2,v3,_,_⟩:=kZ h1;obtain ⟨d1,_⟩:=UH _ _ _ _ h4;rw [eU] at d1;exact ⟨h1,by omega,h4,rfl,rfl,by simp only;omega⟩
theorem anr (s:List UInt8) (hs:s.length<=100000000):TT.lim 55 [.s s]=some [.l ((kW s).1.map row),.i .i64 (kW s).2]:=by
 obtain ⟨at2,k,e2⟩:=ahS s 0 (by omega) hs;rw [dJ,show ((0:Nat):Int)=0 from rfl] at k;rw [dJ] at e2;unfold kW;by_cases h1:(iF s).2.2=0;rotate_left
 ·rw [ak h1]
  generalize iF s=r at *;refine aA rfl rfl ?_ (by rfl);simp [k,h1]
 have e2:=e2 h1;obtain ⟨_,_,_,_,_,a7⟩:=aar h1;rw [ah (λe=>e h1)];rw [h1] at k;rw [iW] at e2;have w:=wrap64 (n:=(s.length:Int) - (at2:Int)) (by omega) (by omega);rw [<- e2] at a7 ⊢;generalize iF s=r at *;by_cases h2:at2 < s.length
 ·rw [ak h2]
  refine aA rfl rfl ?_ rfl;simp [k,w,h2]
 ·rw [ah h2]
  refine aA rfl rfl ?_ rfl;simp [k,w,h2]
theorem akZ (s:List UInt8) (hs:s.length<=100000000):TT.lim 112 [.s s]=some [.l ((kW s).1.map row),.i .i64 (kW s).2]:=by
 have k:=aks s hs;unfold kW;by_cases h1:(iF s).2.2=0;rotate_left
 ·rw [ak h1]
  generalize iF s=r at *;refine aA rfl rfl ?_ (by rfl);simp [k,h1]
 rw [ah (λe=>e h1)];rw [ak h1,h1] at k;have hd:(s.drop (iF s).2.1=[])=¬ ((iF s).2.1 < s.length):=by apply propext;rw [List.drop_eq_nil_iff];omega
 generalize hY:s.drop (iF s).2.1=Y at *;generalize iF s=r at *;by_cases h2:r.2.1 < s.length
 ·rw [ak h2]
  have hd':(Y=[])=False:=by rw [hd];simp [h2]
  clear hd;refine aA rfl rfl ?_ rfl;simp [k,hd']
 ·rw [ah h2]
  have hd':(Y=[])=True:=by rw [hd];simp [h2]
  clear hd;refine aA rfl rfl ?_ rfl;simp [k,hd']
def pG:List UInt8->List Row->List UInt8
 | _,[]=>[]
 | a,r::t=>rF a (dN r.1)++(cO r.2.toNat++pG (dN r.1) t)
/-- A table, as it is written. -/
def tC (t:List Row):List UInt8:=cO t.length++pG [] t
def zY (t:List Row):List UInt8×Int:=if qH t≠0 then ([],qH t) else (tC t,0)
theorem U0:∀ (t:List Row) (a:List UInt8),(∀r∈t,gy r.1=true/\0<=r.2/\r.2 < 18446744073709551616)->(pG a t).length<=40000 * t.length
 | [],a,_=>by simp [pG]
 | r::t,a,h=>by
   obtain ⟨h1,h2,h3⟩:=h r (by simp);have hk:=DC h1;have ho:=N8 a (dN r.1) (by omega);have hv:=mP (n:=r.2.toNat) (by omega);have ih:=U0 t (dN r.1) λq hq=>h q (by simp [hq]);simp only [pG,iJ,lq];omega
theorem ahV (L:List GV) (n i:Int) (D:List bJ) (N:Int) (a k O V acc:List UInt8) (R:List GV) (j:Nat) (hi:i=j) (h:i < n) (hg:L[j]? = some (row (D,N))) (hw:IntKind.i64.wrap (i+1)=i+1) (k1:TT.lim 7 [.l (D.map ent)]=some [.s k]) (k2:TT.lim 40 [.s a,.s k]=some [.s O])
 (k3:TT.lim 8 [.i .u64 N]=some [.s V]) (hb1:2 * (acc.length+O.length)<=281474976710656/\acc.length+O.length<=281474976710656) (hb2:2 * (acc.length+(O.length+V.length))<=281474976710656/\acc.length+(O.length+V.length)<=281474976710656)
 (ih:TT.lim 39 [.s k,.l L,.i .i64 n,.i .i64 (i+1),.l (jf acc++(jf O++jf V))]=some R) :
 TT.lim 39 [.s a,.l L,.i .i64 n,.i .i64 i,.l (jf acc)]=some R:=by
 subst hi;have ok1:=Io O;have ok2:=Io V;refine aC rfl rfl ?_;simp [-List.all_eq_true,h,hg,hw,k1,k2,k3,ok1,ok2,hb1,hb2,iV,ih]
theorem aas (l:List Row) (hl:l.length<=1000) (hf:∀r∈l,gy r.1=true/\0<=r.2/\r.2 < 18446744073709551616):∀ (m i:Nat) (a acc:List UInt8),i+m=l.length->a.length<=100000->acc.length<=10+40000 * i->
 TT.lim 39 [.s a,.l (l.map row),.i .i64 l.length,.i .i64 i,.l (jf acc)]=some [.i .i64 0,.l (jf (acc++pG a (l.drop i)))]
 | 0,i,a,acc,hi,ha,hacc=>by
   have hd:l.drop i=[]:=eY (by omega);have h:¬ ((i:Int) < l.length):=by omega
   rw [hd];refine aC rfl rfl ?_;simp [h,pG]
 | m+1,i,a,acc,hi,ha,hacc=>by
   have hlt:i < l.length:=by omega
   obtain ⟨h1,h2,h3⟩:=hf l[i] (iI hlt);have hk:=DC h1;have k1:=Nr l[i].1 h1;have k2:=aiU a (dN l[i].1) (by omega) (by omega);have ho:=N8 a (dN l[i].1) (by omega);have k3:=DZ l[i].2.toNat (by omega);rw [show ((l[i].2.toNat:Nat):Int)=l[i].2 by omega] at k3;have hv:=mP (n:=l[i].2.toNat) (by omega);have ih:=aas l hl hf m (i+1) (dN l[i].1) (acc++(rF a (dN l[i].1)++cO l[i].2.toNat)) (by omega) (by omega) (by simp only [iJ];omega);have he:acc++pG a (l.drop i)=acc++(rF a (dN l[i].1)++cO l[i].2.toNat)++pG (dN l[i].1) (l.drop (i+1)):=by
    rw [fZ hlt];simp [pG]
   rw [he];rw [Qn acc,Qn] at ih;rw [show ((i+1:Nat):Int)=(i:Int)+1 by omega] at ih;exact ahV _ _ _ l[i].1 l[i].2 a _ _ _ acc _ i rfl (by omega) (by simp [hlt]) (wrap64 (by omega) (by omega)) k1 k2 k3 (by omega) (by omega) ih
theorem ahU (t:List Row) (ht:Rows t) (hf:oP t):TT.lim 38 [.l (t.map row)]=some [.s (zY t).1,.i .i64 (zY t).2]:=by
 have k1:=Qx t ht hf;unfold zY;by_cases hc:qH t=0;rotate_left
 ·rw [ak hc]
  refine aA rfl rfl ?_ (by rfl);simp [k1,hc]
 rw [ah (λe=>e hc)];rw [hc] at k1;have h256:=((Qy t).1 hc).1;have vK:∀r∈t,gy r.1=true/\0<=r.2/\r.2 < 18446744073709551616:=λr hr=>⟨hf r hr,(ht.2 r hr).2.1,(ht.2 r hr).2.2⟩
 have k2:=DZ t.length (by omega);have l2:=mP (n:=t.length) (by omega);have k3:=aas t (by omega) vK t.length 0 [] (cO t.length) (by omega) (by simp) (by omega);rw [dJ,show ((0:Nat):Int)=0 from rfl] at k3;have hlen:=U0 t [] vK;have w:=eH (n:=(t.length:Int)) (by omega) (by omega);have ok:=Io (cO t.length);have hb:2 * (cO t.length).length<=281474976710656/\(cO t.length).length<=281474976710656:=by omega
 have hbg:=Qp (tC t);have hpl:(jf (tC t)).length<=281474976710656:=by
  rw [XM];unfold tC;rw [iJ];omega
 have hk3:TT.lim 39 [.s [],.l (t.map row),.i .i64 t.length,.i .i64 0,.l (jf (cO t.length))]=some [.i .i64 0,.l (jf (tC t))]:=k3;generalize jf (tC t)=PG at *;generalize tC t=P at *;generalize ZO:jf (cO t.length)=VG at *;have hvl:VG.length=(cO t.length).length:=by rw [<- ZO,XM]
 rw [<- hvl] at hb;have hlm:(t.map row).length=t.length:=by simp
 generalize t.map row=L at *;refine aA rfl rfl ?_ rfl;simp [-List.all_eq_true,k1,hlm,w,k2,ZO,ok,hb,hk3,hbg,hpl]
theorem akv (L:List GV) (n:Int) (D:List bJ) (N:Int) (k O V acc:List UInt8) (R:List GV) (h:0 < n) (hg:L[0]? = some (row (D,N))) (k1:TT.lim 76 [.l (D.map ent)]=some [.s k]) (k2:TT.lim 100 [.s [],.s k]=some [.s O])
 (k3:TT.lim 77 [.i .u64 N]=some [.s V]) (hb1:(acc.length:Int)+(O.length:Int)<=9223372036854775807) (hb2:(acc.length:Int)+(O.length:Int)+(V.length:Int)<=9223372036854775807)
 (ih:TT.lim 99 [.l L,.s (acc++(O++V)),.i .i64 n,.i .i64 1]=some R) :
 TT.lim 99 [.l L,.s acc,.i .i64 n,.i .i64 0]=some R:=by
 have w1:=wrap64 (n:=1) (by omega) (by omega);refine aC rfl rfl ?_;simp [h,hg,w1,k1,k2,k3,hb1,hb2,ih]
theorem aku (L:List GV) (n i:Int) (D E:List bJ) (N M:Int) (k k' O V acc:List UInt8) (R:List GV) (j:Nat) (hi:i=(j:Int)+1) (h:i < n) (h0:(0:Int) < i) (hg:L[j+1]? = some (row (D,N))) (hg':L[j]? = some (row (E,M))) (hw:IntKind.i64.wrap (i+1)=i+1) (hw2:IntKind.i64.wrap (i - 1)=i - 1) (hn1:(i - 1).toNat=j) (hn2:i.toNat=j+1) (hn0:(0:Int)<=i - 1) (hn3:(1:Int)<=i) (hn4:(0:Int)<=i)
 (k1:TT.lim 76 [.l (D.map ent)]=some [.s k]) (k1':TT.lim 76 [.l (E.map ent)]=some [.s k']) (k2:TT.lim 100 [.s k',.s k]=some [.s O])
 (k3:TT.lim 77 [.i .u64 N]=some [.s V]) (hb1:(acc.length:Int)+(O.length:Int)<=9223372036854775807) (hb2:(acc.length:Int)+(O.length:Int)+(V.length:Int)<=9223372036854775807)
 (ih:TT.lim 99 [.l L,.s (acc++(O++V)),.i .i64 n,.i .i64 (i+1)]=some R) :
 TT.lim 99 [.l L,.s acc,.i .i64 n,.i .i64 i]=some R:=by
 clear hi;refine aC rfl rfl ?_;simp [h,h0,hg,hg',hw,hw2,hn0,hn1,hn2,hn3,hn4,k1,k1',k2,k3,hb1,hb2,ih]
theorem ab2 (l:List Row) (hl:l.length<=1000) (hf:∀r∈l,gy r.1=true/\0<=r.2/\r.2 < 18446744073709551616):∀ (m i:Nat) (acc:List UInt8),i+m=l.length->acc.length<=10+40000 * i->
 TT.lim 99 [.l (l.map row),.s acc,.i .i64 l.length,.i .i64 i]=some [.i .i64 0,.s (acc++pG (if 0 < i then ((l[i - 1]?).map K).getD [] else []) (l.drop i))]
 | 0,i,acc,hi,hacc=>by
   have hd:l.drop i=[]:=eY (by omega);have h:¬ ((i:Int) < l.length):=by omega
   rw [hd];refine aC rfl rfl ?_;simp [h,pG]
 | m+1,i,acc,hi,hacc=>by
   have hlt:i < l.length:=by omega
   obtain ⟨h1,h2,h3⟩:=hf l[i] (iI hlt);have hk:=DC h1;have k1:=Jj l[i].1 h1;have k3:=D5 l[i].2.toNat (by omega);rw [show ((l[i].2.toNat:Nat):Int)=l[i].2 by omega] at k3;have hv:=mP (n:=l[i].2.toNat) (by omega);have he:∀a,acc++pG a (l.drop i)=acc++(rF a (dN l[i].1)++cO l[i].2.toNat)++pG (dN l[i].1) (l.drop (i+1)):=by
    intro a;rw [fZ hlt];simp [pG]
   have ih:=λa (ha:(rF a (dN l[i].1)).length<=20+(dN l[i].1).length)=>ab2 l hl hf m (i+1) (acc++(rF a (dN l[i].1)++cO l[i].2.toNat)) (by omega) (by simp only [iJ];omega);have hpr:(if 0 < i+1 then ((l[i+1 - 1]?).map K).getD [] else [])=dN l[i].1:=by simp [hlt]
   rw [hpr,show ((i+1:Nat):Int)=(i:Int)+1 by omega] at ih;by_cases h0:i=0
   ·subst h0
    rw [ah (by omega),he];have k2:=ab5 [] (dN l[0].1) (by simp) (by omega);have ho:=N8 [] (dN l[0].1) (by omega);exact akv _ _ l[0].1 l[0].2 _ _ _ acc _ (by omega) (by simp [hlt]) k1 k2 k3 (by omega) (by omega) (ih [] ho)
   ·obtain ⟨j,rfl⟩:∃j,i=j+1:=⟨i - 1,by omega⟩
    have hj:j < l.length:=by omega
    obtain ⟨g1,_,_⟩:=hf l[j] (iI hj);have k1':=Jj l[j].1 g1;have hkj:=DC g1;rw [ak (by omega),show ((l[j+1 - 1]?).map K).getD []=dN l[j].1 by simp [hj],he];have k2:=ab5 (dN l[j].1) (dN l[j+1].1) (by omega) (by omega);have ho:=N8 (dN l[j].1) (dN l[j+1].1) (by omega);exact aku _ _ _ l[j+1].1 l[j].1 l[j+1].2 l[j].2 _ _ _ _ acc _ j (by omega) (by omega) (by omega) (by simp [hlt]) (by simp [hj]) (wrap64 (by omega) (by omega)) (wrap64 (by omega) (by omega)) (by omega) (by omega) (by omega) (by omega) (by omega) k1 k1' k2 k3 (by omega) (by omega) (ih _ ho)
theorem akt (t:List Row) (ht:Rows t) (hf:oP t):TT.lim 81 [.l (t.map row)]=some [.s (zY t).1,.i .i64 (zY t).2]:=by
 have k1:=aeh t ht hf;unfold zY;by_cases hc:qH t=0;rotate_left
 ·rw [ak hc]
  refine aA rfl rfl ?_ (by rfl);simp [k1,hc]
 rw [ah (λe=>e hc)];rw [hc] at k1;have h256:=((Qy t).1 hc).1;have vK:∀r∈t,gy r.1=true/\0<=r.2/\r.2 < 18446744073709551616:=λr hr=>⟨hf r hr,(ht.2 r hr).2.1,(ht.2 r hr).2.2⟩
 have k2:=D5 t.length (by omega);have l2:=mP (n:=t.length) (by omega);have k3:=ab2 t (by omega) vK t.length 0 (cO t.length) (by omega) (by omega);rw [dJ,ah (by omega),show ((0:Nat):Int)=0 from rfl] at k3;have hk3:TT.lim 99 [.l (t.map row),.s (cO t.length),.i .i64 t.length,.i .i64 0]=some [.i .i64 0,.s (tC t)]:=k3;have w:=eH (n:=(t.length:Int)) (by omega) (by omega);have hlm:(t.map row).length=t.length:=by simp
 generalize tC t=P at *;generalize cO t.length=V at *;generalize t.map row=L at *;have kt:TT.lim 98 [.l L]=some [.s P]:=by
  refine aA rfl rfl ?_ rfl;simp [hlm,w,k2,hk3]
 refine aA rfl rfl ?_ rfl;simp [k1,kt]
theorem Y2 {x:bJ} (h:nO x=0):x.1.length<=64/\x.2.length<=256:=by
 have hu:∀ (s:List UInt8) (lo hi:Int),jQ s lo hi=0->(s.length:Int)<=hi:=by
  intro s lo hi h;unfold jQ at h;split at h
  ·cases h
  ·split at h
   ·cases h
   ·omega
 unfold nO at h;by_cases h1:jQ x.1 1 64=0
 ·rw [ah (λe=>e h1)] at h
  have a:=hu _ _ _ h1;have b:=hu _ _ _ h;omega
 ·rw [ak h1] at h;exact absurd h h1
theorem acS {s:List UInt8} (h:(bI s).2.2=0):cO (bI s).1.length++(bI s).1=s.take (bI s).2.1:=by
 unfold bI at h ⊢;by_cases h1:(ay s).2.2=0;rotate_left
 ·rw [ak h1] at h;exact absurd h h1
 rw [ah (λe=>e h1)] at h ⊢;obtain ⟨v1,v2,v3,v4,v5⟩:=kZ h1;by_cases h2:s.length - (ay s).2.1 < (ay s).1
 ·rw [ak h2] at h;cases h
 rw [ah h2];simp only [lX,eU];rw [Cb (by omega),v5,zf]
theorem afm {s:List UInt8} (h:(bG s).2.2=0):jg (bG s).1=s.take (bG s).2.1:=by
 obtain ⟨_,_,_,_,_,h1,h2,h3,h4⟩:=IX h;rw [h3,h4];unfold jg;simp only;have p1:=acS h1;have p2:=acS h2;rw [p1,rU,p2,zf]
theorem Yv:∀ (m:Nat) (p:Option bJ) (s:List UInt8),(dL m p s).2.2=0->(dL m p s).1.flatMap jg=s.take (dL m p s).2.1/\jW (p.map (·.1)) (dL m p s).1=0
 | 0,p,s,_=>by simp [dL,jW]
 | m+1,p,s,h=>by
   rw [LM] at h ⊢;by_cases h1:(bG s).2.2=0;rotate_left
   ·rw [ak h1] at h;exact absurd h h1
   rw [ah (λe=>e h1)] at h ⊢;by_cases h2:sH p (bG s).1=0;rotate_left
   ·rw [ak h2] at h;exact absurd h h2
   rw [ah (λe=>e h2)] at h ⊢;by_cases h3:(dL m (some (bG s).1) (s.drop (bG s).2.1)).2.2=0;rotate_left
   ·rw [ak h3] at h;exact absurd h h3
   rw [ah (λe=>e h3)];obtain ⟨b1,b2⟩:=Yv m (some (bG s).1) _ h3;obtain ⟨_,_,a3,_⟩:=IX h1;have p1:=afm h1;refine ⟨by simp only [iU,b1,p1,zf], ?_⟩;unfold jW;rw [ah (λe=>e a3)];cases p with
   | none=>exact b2
   | some k=>
     have h2':oD k.1 (bG s).1.1=0:=h2;unfold oD at h2';simp only [fQ];by_cases c1:(bG s).1.1=k.1
     ·rw [ak c1] at h2';exact absurd h2' (by decide)
     rw [ah c1] at h2' ⊢;by_cases c2:Op.bytesLess (bG s).1.1 k.1=true
     ·rw [ak c2] at h2';exact absurd h2' (by decide)
     rw [ah c2];exact b2
structure Wy (d:List bJ) (key:List UInt8):Prop where
 chk:vG d=0
 few:gy d=true
 ents:oq d
 put:dN d=key
theorem afg {s:List UInt8} (h:(iM s).2.2=0) (hs:s.length<=100000000):Wy (iM s).1 (s.take (iM s).2.1):=by
 obtain ⟨a1,a2,a3,a4,a5,a6,a7⟩:=Yw h;obtain ⟨b1,b2,b3⟩:=QM _ _ _ a4;obtain ⟨c1,c2⟩:=Yv _ _ _ a4;obtain ⟨v1,v2,v3,v4,v5⟩:=kZ a1;rw [a5,a6];refine ⟨?_, ?_,⟨by omega,λx hx=>?_⟩, ?_⟩
 ·unfold vG
  rw [ah (by omega),ah (by omega)];exact c2
 ·unfold gy
  rw [aH,decide_eq_true_iff,List.all_eq_true];refine ⟨λx hx=>?_,by omega⟩;obtain ⟨e1,e2⟩:=Y2 (b3 x hx).1;unfold pq;rw [decide_eq_true_iff];omega
 ·obtain ⟨e1,e2⟩:=Y2 (b3 x hx).1
  omega
 ·unfold dN
  rw [b2,v5,c1,zf]
theorem Yy {s:List UInt8} (h:(iO s).2=0) (hs:s.length<=100000000):Wy (iO s).1 s:=by
 unfold iO at h ⊢;by_cases h1:(iM s).2.2=0;rotate_left
 ·rw [ak h1] at h;exact absurd h h1
 rw [ah (λe=>e h1)] at h ⊢;by_cases h2:(iM s).2.1 < s.length
 ·rw [ak h2] at h;exact absurd h (by simp)
 rw [ah h2];have:=afg h1 hs;rw [lK (by omega)] at this;exact this
theorem ajA {s a:List UInt8} {first:Bool} (h:(aW s a first).2.2=0) (hf:first=true->a=[]):rF a (aW s a first).1=s.take (aW s a first).2.1/\(first=false->a < (aW s a first).1):=by
 have ha:(if first=true then [] else a)=a:=by
  cases first with
  | true=>rw [ak rfl,hf rfl]
  | false=>rfl
 unfold aW at h ⊢;simp only [ha] at h ⊢;by_cases h1:(ay s).2.2=0;rotate_left
 ·rw [ak h1] at h;exact absurd h h1
 rw [ah (λe=>e h1)] at h ⊢;by_cases h2:a.length < (ay s).1
 ·rw [ak h2] at h;exact absurd h (by simp [gI])
 rw [ah h2] at h ⊢;by_cases h3:(ay (s.drop (ay s).2.1)).2.2=0;rotate_left
 ·rw [ak h3] at h;exact absurd h h3
 rw [ah (λe=>e h3)] at h ⊢;by_cases h4:s.length - ((ay s).2.1+(ay (s.drop (ay s).2.1)).2.1) < (ay (s.drop (ay s).2.1)).1
 ·rw [ak h4] at h;exact absurd h (by simp [gI])
 rw [ah h4] at h ⊢;obtain ⟨v1,v2,v3,v4,v5⟩:=kZ h1;obtain ⟨u1,u2,u3,u4,u5⟩:=kZ h3;have hx:((s.drop ((ay s).2.1+(ay (s.drop (ay s).2.1)).2.1)).take (ay (s.drop (ay s).2.1)).1).length=(ay (s.drop (ay s).2.1)).1:=by
  rw [lX,eU];omega
 generalize hX:(s.drop ((ay s).2.1+(ay (s.drop (ay s).2.1)).2.1)).take (ay (s.drop (ay s).2.1)).1=X at *;by_cases h5:first=false/\Op.bytesLess a (a.take (ay s).1++X)=false
 ·rw [ak h5] at h;exact absurd h (by simp [gI])
 rw [ah h5] at h ⊢;by_cases h6:(ay s).1 < common a (a.take (ay s).1++X)
 ·rw [ak h6] at h;exact absurd h (by simp [gI])
 rw [ah h6];have hge:=QF (ay s).1 a X (by omega);have hc:common a (a.take (ay s).1++X)=(ay s).1:=by omega
 refine ⟨?_,λhf=>?_⟩
 ·unfold rF
  simp only [hc];have hl:(a.take (ay s).1++X).length - (ay s).1=(ay (s.drop (ay s).2.1)).1:=by
   rw [iJ,lX,hx];omega
  have hd:(a.take (ay s).1++X).drop (ay s).1=X:=by
   rw [PU (by rw [lX];omega)];rw [eY (by rw [lX];omega)];rfl
  rw [hl,hd,v5,u5,<- hX];rw [zf,zf,<- nH]
 ·simp only [hf,true_and] at h5
  rw [<- yB];simpa using h5
theorem abD:∀ (m:Nat) (a:List UInt8) (first:Bool) (s:List UInt8),(dV m a first s).2.2=0->(first=true->a=[])->a.length+s.length<=100000000->
 pG a (dV m a first s).1=s.take (dV m a first s).2.1/\Ce (dV m a first s).1/\(first=false->∀r∈(dV m a first s).1,a < K r)/\(∀r∈(dV m a first s).1,oN r=0/\gy r.1=true/\oq r.1/\0<=r.2/\r.2 < 18446744073709551616)
 | 0,a,first,s,_,_,_=>by simp [dV,pG,Ce]
 | m+1,a,first,s,h,hf,hl=>by
   rw [Og] at h ⊢;by_cases h1:(aW s a first).2.2=0;rotate_left
   ·rw [ak h1] at h;exact absurd h h1
   rw [ah (λe=>e h1)] at h ⊢;by_cases h2:(dW (aW s a first).1 (s.drop (aW s a first).2.1)).2.2=0;rotate_left
   ·rw [ak h2] at h;exact absurd h h2
   rw [ah (λe=>e h2)] at h ⊢;by_cases h3:(dV m (aW s a first).1 false (s.drop ((aW s a first).2.1+(dW (aW s a first).1 (s.drop (aW s a first).2.1)).2.1))).2.2=0;rotate_left
   ·rw [ak h3] at h;exact absurd h h3
   rw [ah (λe=>e h3)];obtain ⟨a1,a2,a3⟩:=Oh h1;obtain ⟨p1,p2⟩:=ajA h1 hf;obtain ⟨q1,q2,q3,q4,q5⟩:=UO h2;have hxl:(aW s a first).1.length<=a.length+(aW s a first).2.1:=by
    cases first<;>simp at a3<;>omega
   obtain ⟨v1,v2,v3,v4,v5⟩:=kZ q2;have dk:=Yy q1 (by omega);obtain ⟨b1,b2,b3,b4⟩:=abD m _ false _ h3 (λe=>by cases e) (by rw [eU];omega);have hK:K (dW (aW s a first).1 (s.drop (aW s a first).2.1)).1=(aW s a first).1:=by rw [q4];exact dk.put
   have hN:(dW (aW s a first).1 (s.drop (aW s a first).2.1)).1.2.toNat=(ay (s.drop (aW s a first).2.1)).1:=by rw [q4];simp
   simp only;refine ⟨?_, ?_,λvK r hr=>?_,λr hr=>?_⟩
   ·show rF a (K _)++(cO _++pG (K _) _)=_
    rw [hK,hN,b1,p1,v5,<- q5];rw [zf,zf,rU]
   ·refine Hq.2 ⟨λr hr=>?_,b2⟩
    rw [hK];exact b3 rfl r hr
   ·rcases dP.1 hr with rfl | hr
    ·rw [hK];exact p2 vK
    ·exact Hg (p2 vK) (b3 rfl r hr)
   ·rcases dP.1 hr with rfl | hr
    ·rw [q4]
     refine ⟨?_,dk.few,dk.ents,by simp only;omega,by simp only;omega⟩;rw [ab6];exact ⟨dk.chk,by simp only;omega⟩
    ·exact b4 r hr
structure zq (t:List Row):Prop where
 ok:Ok t
 few:oP t
 rows:Rows t
theorem zq.tb {t:List Row} (h:zq t):qH t=0:=(Qy t).2 h.ok
theorem ahT {s:List UInt8} (h:(iF s).2.2=0) (hs:s.length<=100000000):tC (iF s).1=s.take (iF s).2.1/\zq (iF s).1:=by
 obtain ⟨a1,a2,a3,a4,a5,a6⟩:=aar h;obtain ⟨v1,v2,v3,v4,v5⟩:=kZ a1;obtain ⟨l1,l2⟩:=UH _ _ _ _ a3;obtain ⟨b1,b2,_,b4⟩:=abD _ _ _ _ a3 (λ_=>rfl) (by rw [eU];simp;omega);rw [a4,a5];refine ⟨?_,⟨by omega,b2,λr hr=>(b4 r hr).1⟩,λr hr=>(b4 r hr).2.1,by omega,λr hr=>(b4 r hr).2.2⟩;unfold tC;rw [l2,v5,b1,zf]
theorem acX:zq []:=⟨⟨by simp,List.Pairwise.nil,by simp⟩,λr hr=>by simp at hr,by simp,by simp⟩
theorem ant {s:List UInt8} (hs:s.length<=100000000):zq (kW s).1/\((kW s).2=0->tC (kW s).1=s)/\((kW s).2≠0->(kW s).1=[]):=by
 unfold kW;by_cases h1:(iF s).2.2=0;rotate_left
 ·rw [ak h1]
  exact ⟨acX,λh=>absurd h h1,λ_=>rfl⟩
 rw [ah (λe=>e h1)];by_cases h2:(iF s).2.1 < s.length
 ·rw [ak h2]
  exact ⟨acX,λh=>absurd h (by decide),λ_=>rfl⟩
 rw [ah h2];obtain ⟨b1,b2⟩:=ahT h1 hs;rw [lK (by omega)] at b1;exact ⟨b2,λ_=>b1,λh=>absurd rfl h⟩
theorem zq.len {t:List Row} (h:zq t):t.length<=256:=h.ok.1
theorem zq.good {t:List Row} (h:zq t):qU t:=⟨Nat.le_trans h.len (by decide),h.few,h.rows⟩
end C
end Go.Proofs.YtcpfjpcdcafjmaaGreatDoor
