/- What the trees compute: plain laws. -/
import Derived.Test.YtnlegpmfkopalaaGreatDoorKSe2
namespace Go.Proofs.YtnlegpmfkopalaaGreatDoor
open Go Go.aN
set_option linter.unusedSimpArgs false
set_option linter.unusedVariables false
set_option maxRecDepth 100000
namespace S
theorem acf (b:aK) (fl:List aC) (t:List Row) (ht:t.length<=1000) (hd:∀r∈t,r.1.length<=40):∀ (m i:Nat),i+m=t.length->
 TT.lim 112 [.l ((t.take i).map row),.l (t.map row),.i .i64 t.length,.i .i64 i,.i .i64 b.kind,.i .u64 b.id,.i .u64 b.min,.i .u64 b.max,.i .u64 b.chosen,.i .u64 b.flags,.i .u64 b.cost,.i .u64 b.priority,.i .u64 b.deadline,.i .u64 b.retry,.i .u64 b.epoch,.i .u64 b.base,.i .u64 b.digest,.i .u64 b.lag,.i .u64 b.code,.i .u64 b.want,.i .i64 b.remaining,.b b.allowed,.s b.name,.s b.region,.s b.note,.l (b.d.map ent),.l (aA fl)]=some [.i .i64 0,.l (t.map row)]
 | 0,i,hi=>by
   have h0:t.take i=t:=jJ (by omega);have h:¬ ((i:Int) < t.length):=by omega
   rw [h0];refine aB rfl rfl ?_;simp [h]
 | m+1,i,hi=>by
   have hlt:i < t.length:=by omega
   have ih:=acf b fl t ht hd m (i+1) (by omega);have h:((i:Int) < t.length):=by omega
   have hcast:((i+1:Nat):Int)=(i:Int)+1:=by omega
   have hwr:=wrap64 (n:=(i:Int)+1) (by omega) (by omega);have hg:(t.map row)[i]? = some (row t[i]):=by rw [jm,cO hlt];rfl
   have hc:=Zx t[i].1 (hd _ (jo hlt));have hfold:GV.g [.l (t[i].1.map ent),.i .u64 t[i].2]=row t[i]:=rfl;have htk:(t.take (i+1)).map row=(t.take i).map row++[row t[i]]:=by rw [RP,cO hlt,xP];rfl
   rw [htk,hcast] at ih;have hel:(row t[i]).fJ 2=true:=rfl;have hb1:2 * (((t.take i).map row).length+1) * 32<=281474976710656:=by simp;omega
   have hb2:((t.take i).map row).length<=281474976710655:=by simp;omega
   generalize (t.take i).map row=A at *;generalize t.map row=L at *;refine aB rfl rfl ?_;simp [h,hg,hc,hfold,hel,hb1,hb2,hwr,ih]
theorem alg (b:aK) (fl:List aC) (hd:b.d.length<=40) (ht:oh b.t) (hs:bV fl<=1000000):TT.lim 110 [fC b (aA fl)]=some [fC b (aA fl)]:=by
 have ajX:∀r∈b.t,r.1.length<=40:=λr hr=>by
  have:=ht.few r hr;unfold iJ at this;rw [aI,decide_eq_true_iff] at this;exact this.2
 have h1:=acf b fl b.t (by have:=ht.len;omega) ajX b.t.length 0 (by omega);have hl:=ht.len;rw [F5,show ((0:Nat):Int)=0 from rfl] at h1;have h2:=Zx b.d hd;have h3:=Om fl hs;have hml:((b.t.map row).length:Int)=b.t.length:=by simp
 have hz1:(32:Int) * b.t.length<=281474976710656:=by omega
 have hz2:(b.t.length:Int)<=1152921504606846976:=by omega
 have hz3:b.t.length<=8796093022208:=by omega
 simp only [Dh] at h1;generalize hL:b.t.map row=L at *;refine aY rfl rfl ?_ rfl;unfold fC;rw [hL];simp [hml,h1,h2,h3,GV.fJ,hz1,hz2];try omega
def xK (n:Int):Int:=if n % 2=0 then n / 2 else -(n / 2) - 1
theorem arl (n:Int) (h0:0<=n) (h1:n < 18446744073709551616):bU .and .u64 n 1=some (.i .u64 (n % 2))/\bU .xor .i64 (IntKind.i64.wrap (n / 2)) (IntKind.i64.wrap (0 - IntKind.i64.wrap (n % 2)))=some (.i .i64 (xK n))/\n.fdiv 2=n / 2:=by
 have wu:∀y:Int,IntKind.u64.wrap y=y % 18446744073709551616:=λy=>by simp [IntKind.wrap,IntKind.signed,IntKind.bits]
 have hu:IntKind.u64.bits=64:=rfl;have hi:IntKind.i64.bits=64:=rfl;refine ⟨?_, ?_,AA _ (by decide)⟩
 ·simp only [bU,wu,hu]
  have e:(BitVec.ofInt 64 n &&& BitVec.ofInt 64 1).toNat=(BitVec.ofInt 64 n).toNat % 2:=by
   rw [Rx];exact Nat.and_one_is_mod _
  show some (GV.i IntKind.u64 (((BitVec.ofInt 64 n &&& BitVec.ofInt 64 1).toNat:Int) % 18446744073709551616))=_
  rw [e,qH];congr 2;omega
 ·rw [wrap64 (by omega) (by omega),wrap64 (n:=n % 2) (by omega) (by omega),wrap64 (by omega) (by omega)]
  simp only [bU,hi];unfold xK;by_cases h:n % 2=0
  ·rw [aj h,h]
   have e:BitVec.ofInt 64 (0 - 0)=0#64:=rfl;show some (GV.i IntKind.i64 (IntKind.i64.wrap ((BitVec.ofInt 64 (n / 2) ^^^ BitVec.ofInt 64 (0 - 0)).toNat:Int)))=_
   rw [e,BitVec.xor_zero,qH];congr 2;rw [wrap64 (by omega) (by omega)];omega
  ·rw [ah h,show n % 2=1 by omega]
   have e:BitVec.ofInt 64 (0 - 1)=BitVec.allOnes 64:=by decide
   show some (GV.i IntKind.i64 (IntKind.i64.wrap ((BitVec.ofInt 64 (n / 2) ^^^ BitVec.ofInt 64 (0 - 1)).toNat:Int)))=_
   rw [e,X4,X3,qH];congr 2;have wi:∀y:Int,IntKind.i64.wrap y=if y % 18446744073709551616>=9223372036854775808 then y % 18446744073709551616 - 18446744073709551616 else y % 18446744073709551616:=λy=>by
    simp [IntKind.wrap,IntKind.signed,IntKind.bits]
   rw [wi];split<;>omega
def setB (b:aK) (n:Int) (s:List UInt8):Pl->aK
 | .rem=>{ b with remaining:=xK n }
 | .allow=>{ b with allowed:=true }
 | .name=>{ b with name:=s }
 | .region=>{ b with region:=s }
 | .note=>{ b with note:=s }
 | .d=>{ b with d:=(nJ s).1 }
 | .t=>{ b with t:=(lZ s).1 }
 | .num k=>match k with
   | 0=>{ b with id:=n }
   | 1=>{ b with min:=n }
   | 2=>{ b with max:=n }
   | 3=>{ b with chosen:=n }
   | 4=>{ b with flags:=n }
   | 5=>{ b with cost:=n }
   | 6=>{ b with priority:=n }
   | 7=>{ b with deadline:=n }
   | 8=>{ b with retry:=n }
   | 9=>{ b with epoch:=n }
   | 10=>{ b with base:=n }
   | 11=>{ b with digest:=n }
   | 12=>{ b with lag:=n }
   | 13=>{ b with code:=n }
   | _=>{ b with want:=n }
def nX (n:Int) (s:List UInt8):Pl->Int
 | .allow=>if n=1 then 0 else 18
 | .name=>oK s 0 256
 | .region=>oK s 0 256
 | .note=>oK s 0 256
 | .d=>(nJ s).2
 | .t=>if (lZ s).2=0 then (if (lZ s).1.length=0 then 17 else 0) else (lZ s).2
 | _=>0
def jD (ty n:Int) (s:List UInt8) (p:Pl):Int:=if ty=bJ p then (if ty=0 then (if n=0 then 17 else nX n s p) else (if s=[] then 17 else nX n s p)) else 8
theorem akE (u:Int):TT.lim 114 [.i .i64 u]=some [.i .i64 (if u=0 then 0 else if u=1 then 0 else if u=2 then 0 else if u=3 then 1 else if u=4 then 1 else if u=5 then 1 else -1)]:=by
 refine aY rfl rfl ?_ rfl;by_cases h0:u=0
 ·simp [h0]
 by_cases h1:u=1
 ·simp [h1]
 by_cases h2:u=2
 ·simp [h2]
 by_cases h3:u=3
 ·simp [h3]
 by_cases h4:u=4
 ·simp [h4]
 by_cases h5:u=5
 ·simp [h5]
 simp [h0,h1,h2,h3,h4,h5]
/-- A message's cells, but for the first and the last one. -/
def oH (b:aK):List GV:=[.i .u64 b.id,.i .u64 b.min,.i .u64 b.max,.i .u64 b.chosen,.i .u64 b.flags,.i .u64 b.cost,.i .u64 b.priority,.i .u64 b.deadline,.i .u64 b.retry,.i .u64 b.epoch,.i .u64 b.base,.i .u64 b.digest,.i .u64 b.lag,.i .u64 b.code,.i .u64 b.want,.i .i64 b.remaining,.b b.allowed,.s b.name,.s b.region,.s b.note,.l (b.d.map ent),.l (b.t.map row)]
/-- What set does. -/
def RZ (b:aK) (r:List GV) (tag ty n:Int) (s:List UInt8) (L:GV) (nm:List UInt8) (p:Pl):Prop:=∃b':aK,TT.lim 113 [.s nm,.i .u64 tag,.i .i64 ty,.i .u64 n,.s s,L,.i .i64 b.kind,.i .u64 b.id,.i .u64 b.min,.i .u64 b.max,.i .u64 b.chosen,.i .u64 b.flags,.i .u64 b.cost,.i .u64 b.priority,.i .u64 b.deadline,.i .u64 b.retry,.i .u64 b.epoch,.i .u64 b.base,.i .u64 b.digest,.i .u64 b.lag,.i .u64 b.code,.i .u64 b.want,.i .i64 b.remaining,.b b.allowed,.s b.name,.s b.region,.s b.note,.l (b.d.map ent),.l (b.t.map row),.l r]=some ([.i .i64 0,.i .i64 (jD ty n s p)]++oH b')/\(jD ty n s p=0->b'=setB b n s p)
set_option maxHeartbeats 8000000 in
theorem ao6 (b:aK) (r:List GV) (tag ty n:Int) (s:List UInt8) (L:GV) (hn:0<=n/\n < 18446744073709551616) (hs:s.length<=100000000) {nm:List UInt8} {p:Pl} (hp:placeOf nm=some p):RZ b r tag ty n s L nm p:=by
 unfold RZ;have hk:=akE;have hI:=O1 hp;have hok:=(su nm p hp).2.1;clear hp;by_cases h1:ty=bJ p;rotate_left
 ·have e:jD ty n s p=8:=by unfold jD;rw [ah h1]
  refine ⟨b, ?_,λh=>by rw [e] at h;cases h⟩;rw [e];clear e;induction p,hok using Iz<;>(simp only [bJ] at h1;refine aB rfl rfl ?_;simp [hI,oH,hk,h1])
 subst h1;by_cases h2:(bJ p=0/\n=0)\/(bJ p=1/\s=[])
 ·have e:jD (bJ p) n s p=17:=by
   unfold jD;rw [aj rfl];rcases h2 with ⟨a,c⟩ | ⟨a,c⟩
   ·rw [aj a,aj c]
   ·rw [ah (by omega),aj c]
  refine ⟨b, ?_,λh=>by rw [e] at h;cases h⟩;rw [e];clear e;induction p,hok using Iz<;>(simp [bJ] at h2;refine aB rfl rfl ?_;simp [hI,oH,hk,bJ,h2])
 have e:jD (bJ p) n s p=nX n s p:=by
  unfold jD;rw [aj rfl];by_cases a:bJ p=0
  ·rw [aj a,ah λc=>h2 (.inl ⟨a,c⟩)]
  ·rw [ah a,ah λc=>h2 (.inr ⟨by cases p<;>simp [bJ] at a ⊢,c⟩)]
 rw [e];clear e;induction p,hok using Iz
 case h0=>
  have h2:¬ n=0:=by simpa [bJ] using h2
  obtain ⟨k1,k2,k3⟩:=arl n hn.1 hn.2;refine ⟨{ b with remaining:=xK n }, ?_,λ_=>rfl⟩;show _=some ([GV.i .i64 0,GV.i .i64 0]++_)
  refine aB rfl rfl ?_;simp only [Int.zero_sub] at k2;simp [hI,oH,hk,bJ,h2,jI,IntKind.bits,k1,k2,k3]
 case h1=>
  have h2:¬ n=0:=by simpa [bJ] using h2
  by_cases h3:n=1
  ·have e2:nX n s .allow=0:=by unfold nX;rw [aj h3]
   rw [e2];refine ⟨{ b with allowed:=true }, ?_,λ_=>rfl⟩;refine aB rfl rfl ?_;simp [hI,oH,hk,bJ,h2,h3]
  ·have e2:nX n s .allow=18:=by unfold nX;rw [ah h3]
   rw [e2];refine ⟨b, ?_,λh=>by cases h⟩;refine aB rfl rfl ?_;simp [hI,oH,hk,bJ,h2,h3]
 case h5=>
  have h2:¬ s=[]:=by simpa [bJ] using h2
  have hc:=Z8 s hs;refine ⟨{ b with d:=(nJ s).1 }, ?_,λ_=>rfl⟩;show _=some ([GV.i .i64 0,GV.i .i64 (nJ s).2]++_)
  refine aB rfl rfl ?_;simp [hI,oH,hk,bJ,h2,hc]
 case h6=>
  have h2:¬ s=[]:=by simpa [bJ] using h2
  have hc:=aqn s hs;refine ⟨{ b with t:=(lZ s).1 }, ?_,λ_=>rfl⟩;unfold nX;by_cases h3:(lZ s).2=0
  ·rw [aj h3]
   by_cases h4:(lZ s).1.length=0
   ·have h5:=jd h4
    rw [aj h4];refine aB rfl rfl ?_;simp [hI,oH,hk,bJ,h2,hc,h3,h5]
   ·have h5:(lZ s).1≠[]:=λe=>h4 (by rw [e];rfl)
    rw [ah h4];refine aB rfl rfl ?_;simp [hI,oH,hk,bJ,h2,hc,h3,h5]
  ·rw [ah h3]
   refine aB rfl rfl ?_;simp [hI,oH,hk,bJ,h2,hc,h3]
 all_goals first
  | (have h2:¬ s=[]:=by simpa [bJ] using h2
     have hc:=Gz s 0 256 (by omega);refine ⟨setB b n s _, ?_,λ_=>rfl⟩;show _=some ([GV.i .i64 0,GV.i .i64 (oK s 0 256)]++_)
     generalize oK s 0 256=u at *;refine aB rfl rfl ?_;simp [hI,oH,setB,hk,bJ,h2,hc];done)
  | (have h2:¬ n=0:=by simpa [bJ] using h2
     refine ⟨setB b n s _, ?_,λ_=>rfl⟩;show _=some ([GV.i .i64 0,GV.i .i64 0]++_)
     refine aB rfl rfl ?_;simp [hI,oH,setB,hk,bJ,h2])
def dw:aK:={ kind:=0,id:=0,min:=0,max:=0,chosen:=0,flags:=0,cost:=0,priority:=0,deadline:=0,retry:=0,epoch:=0,base:=0,digest:=0,lag:=0,code:=0,want:=0,remaining:=0,allowed:=false,name:=[],region:=[],note:=[],d:=[],t:=[] }
def XT (b:aK) (r:List GV) (ty n:Int) (s:List UInt8) (p:Pl):List GV:=if jD ty n s p=0 then [fC (setB b n s p) r,.i .i64 0] else [fC dw [],.i .i64 (jD ty n s p)]
def XR (b:aK) (r:List GV) (ty n:Int) (s nm:List UInt8):List GV:=match placeOf nm with
 | some p=>XT b r ty n s p
 | none=>[fC dw [],.i .i64 26]
theorem adT (b:aK) (n:Int) (s:List UInt8) (p:Pl):(setB b n s p).kind=b.kind:=by
 unfold setB;split<;>first | rfl | (split<;>rfl)
theorem ao8 (b:aK) (r:List GV) (tag ty n:Int) (s:List UInt8) (L:GV) {nm:List UInt8} (hp:placeOf nm=none):TT.lim 113 [.s nm,.i .u64 tag,.i .i64 ty,.i .u64 n,.s s,L,.i .i64 b.kind,.i .u64 b.id,.i .u64 b.min,.i .u64 b.max,.i .u64 b.chosen,.i .u64 b.flags,.i .u64 b.cost,.i .u64 b.priority,.i .u64 b.deadline,.i .u64 b.retry,.i .u64 b.epoch,.i .u64 b.base,.i .u64 b.digest,.i .u64 b.lag,.i .u64 b.code,.i .u64 b.want,.i .i64 b.remaining,.b b.allowed,.s b.name,.s b.region,.s b.note,.l (b.d.map ent),.l (b.t.map row),.l r]=some ([.i .i64 0,.i .i64 26]++oH b):=by
 have hI:=abl hp;refine aB rfl rfl ?_;simp [oH,hI]
theorem ao5 (b:aK) (r:List GV) (tag ty n:Int) (s:List UInt8) (L:GV) (hn:0<=n/\n < 18446744073709551616) (hs:s.length<=100000000) (nm:List UInt8):(∃p,placeOf nm=some p/\RZ b r tag ty n s L nm p)\/(placeOf nm=none/\TT.lim 113 [.s nm,.i .u64 tag,.i .i64 ty,.i .u64 n,.s s,L,.i .i64 b.kind,.i .u64 b.id,.i .u64 b.min,.i .u64 b.max,.i .u64 b.chosen,.i .u64 b.flags,.i .u64 b.cost,.i .u64 b.priority,.i .u64 b.deadline,.i .u64 b.retry,.i .u64 b.epoch,.i .u64 b.base,.i .u64 b.digest,.i .u64 b.lag,.i .u64 b.code,.i .u64 b.want,.i .i64 b.remaining,.b b.allowed,.s b.name,.s b.region,.s b.note,.l (b.d.map ent),.l (b.t.map row),.l r]=some ([.i .i64 0,.i .i64 26]++oH b)):=by
 cases hp:placeOf nm with
 | some p=>exact .inl ⟨p,rfl,ao6 b r tag ty n s L hn hs hp⟩
 | none=>exact .inr ⟨rfl,ao8 b r tag ty n s L hp⟩
theorem alR (K:List GV) (b:aK) (fl:List aC) (hd:b.d.length<=40) (ht:oh b.t) (hsz:bV fl<=1000000) (tag ty n:Int) (s:List UInt8) (hn:0<=n/\n < 18446744073709551616) (hs:s.length<=100000000) (nm:List UInt8) :
 TT.lim 109 [fC b (aA fl),.s nm,.g [.i .u64 tag,.i .i64 ty,.i .u64 n,.s s,.l K]]=some (XR b (aA fl) ty n s nm):=by
 have hc:=alg b fl hd ht hsz;have ha:=ao5 b (aA fl) tag ty n s (.l K) hn hs nm;generalize aA fl=r at *;have hz:GV.g [.i .i64 0,.i .u64 0,.i .u64 0,.i .u64 0,.i .u64 0,.i .u64 0,.i .u64 0,.i .u64 0,.i .u64 0,.i .u64 0,.i .u64 0,.i .u64 0,.i .u64 0,.i .u64 0,.i .u64 0,.i .u64 0,.i .i64 0,.b false,.s [],.s [],.s [],.l [],.l [],.l []]=fC dw []:=rfl;unfold XR;rcases ha with ⟨p,hp,b',h1,h2⟩ | ⟨hp,h1⟩
 ·rw [hp]
  simp only;unfold XT;have hk:=adT b n s p;generalize jD ty n s p=e at *;by_cases he:e=0
  ·have h3:=h2 he
   rw [aj he];rw [he,h3] at h1;have hm:fC (setB b n s p) r=GV.g ([.i .i64 b.kind]++oH (setB b n s p)++[.l r]):=by rw [<- hk];rfl
   rw [hm];generalize setB b n s p=B at *;unfold oH at h1 ⊢;refine aY rfl rfl ?_ rfl;simp [kQ,hc];simp [h1]
  ·rw [ah he]
   unfold oH at h1;rw [<- hz];refine aY rfl rfl ?_ rfl;simp [kQ,hc];simp [h1,he]
 ·rw [hp]
  simp only;unfold oH at h1;rw [<- hz];refine aY rfl rfl ?_ rfl;simp [kQ,hc];simp [h1]
end S
end Go.Proofs.YtnlegpmfkopalaaGreatDoor
