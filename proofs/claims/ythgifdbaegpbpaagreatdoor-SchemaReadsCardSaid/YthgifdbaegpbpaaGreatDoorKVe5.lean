/- What the trees compute: plain laws. -/
import Derived.Test.YthgifdbaegpbpaaGreatDoorKVe4
namespace Go.Proofs.YthgifdbaegpbpaaGreatDoor
open Go Go.aK
set_option linter.unusedSimpArgs false
set_option linter.unusedVariables false
set_option maxRecDepth 100000
namespace V
noncomputable def jB (p:Prop):Bool:=@decide p (Classical.propDecidable p)
theorem wW {p:Prop} (h:p):jB p=true:=@DT p (Classical.propDecidable p) h
theorem oq {p:Prop} (h:¬ p):jB p=false:=@Ac p (Classical.propDecidable p) h
theorem Ec {p q:Prop} (h:p↔q):jB p=jB q:=by rw [propext h]
def lV (t y n:Int) (s:List UInt8) (k:List aS):GV:=.g [.i .u64 t,.i .i64 y,.i .u64 n,.s s,.l (aC k)]
@[simp] theorem Ro (t y n:Int) (s:List UInt8) (k:List aS):(lV t y n s k).cells=[.i .u64 t,.i .i64 y,.i .u64 n,.s s,.l (aC k)]:=rfl
theorem Jl {l:List aS} {i:Nat} (h:i < l.length):∃t y n s k,l[i]? = some (.mk t y n s k)/\(aC l)[i]? = some (lV t y n s k)/\l.drop i=.mk t y n s k::l.drop (i+1)/\aS.mk t y n s k∈l:=by
 have hget:(aC l)[i]? = some (iR l[i]):=by rw [Ag,jw,dA h];rfl
 have hd:=eH h;have hm:=iI h;have hg:=dA h;cases hf:l[i] with
 | mk t y n s k=>
   rw [hf] at hget hd hm hg;exact ⟨t,y,n,s,k,hg,by rw [hget];simp only [iR];rfl,hd,hm⟩
theorem acp:∀ (N:Nat) (a b:List aS),gZ a < N->gU a->gU b->a.length<=1000000->b.length<=1000000->TT.lim 179 [.l (aC a),.l (aC b)]=some [.b (jB (a=b))]
 | 0,a,b,hN,_,_,_,_=>by omega
 | N+1,a,b,hN,ha,hb,hla,hlb=>by
   have hl1:=oU a;have hl2:=oU b;by_cases hl:a.length=b.length;rotate_left
   ·have hne:jB (a=b)=false:=oq λe=>hl (by rw [e])
    have hc:¬ ((a.length:Int)=(b.length:Int)):=by omega
    rw [hne];refine aG rfl rfl ?_ rfl;simp [hl1,hl2,hc]
   have loop:∀m i,i+m=a.length->TT.lim 180 [.l (aC a),.l (aC b),.i .i64 a.length,.i .i64 i]=some [.i .i64 (if jB (a.drop i=b.drop i)=true then 1 else 0)]:=by
    intro m;induction m with
    | zero=>
      intro i hi;have e1:a.drop i=[]:=dQ (by omega);have e2:b.drop i=[]:=dQ (by omega);have h:¬ ((i:Int) < a.length):=by omega
      have ht:jB (a.drop i=b.drop i)=true:=wW (by rw [e1,e2]);rw [ht];refine ay rfl rfl ?_;simp [h]
    | succ m ih=>
      intro i hi;obtain ⟨t,y,n,s,k,g1,g2,g3,g4⟩:=Jl (l:=a) (i:=i) (by omega);obtain ⟨t',y',n',s',k',g1',g2',g3',g4'⟩:=Jl (l:=b) (i:=i) (by omega);have hf:=Cb ha _ g4;have hf':=Cb hb _ g4';simp only [uO] at hf hf';have hs:=Ko g4;simp only [vY] at hs;have hk:=acp N k k' (by omega) hf.2 hf'.2 hf.1.2.2.2.2.2.2.2 hf'.1.2.2.2.2.2.2.2;have ih':=ih (i+1) (by omega);have hcast:((i+1:Nat):Int)=(i:Int)+1:=by omega
      rw [hcast] at ih';have hwr:=wrap64 (n:=(i:Int)+1) (by omega) (by omega);have h:((i:Int) < a.length):=by omega
      have hda:(a.drop i=b.drop i)↔(t=t'/\y=y'/\n=n'/\s=s'/\k=k'/\a.drop (i+1)=b.drop (i+1)):=by
       rw [g3,g3'];simp [and_assoc]
      rw [Ec hda];clear hda g1 g1' g3 g3' g4 g4' hf hf' hs;by_cases c1:t=t';rotate_left
      ·rw [oq λh=>c1 h.1]
       refine ay rfl rfl ?_;simp [h,g2,g2',c1]
      by_cases c2:y=y';rotate_left
      ·rw [oq λh=>c2 h.2.1]
       refine ay rfl rfl ?_;simp [h,g2,g2',c1,c2]
      by_cases c3:n=n';rotate_left
      ·rw [oq λh=>c3 h.2.2.1]
       refine ay rfl rfl ?_;simp [h,g2,g2',c1,c2,c3]
      by_cases c4:s=s';rotate_left
      ·rw [oq λh=>c4 h.2.2.2.1]
       refine ay rfl rfl ?_;simp [h,g2,g2',c1,c2,c3,c4]
      by_cases c5:k=k';rotate_left
      ·rw [oq λh=>c5 h.2.2.2.2.1]
       rw [oq c5] at hk;refine ay rfl rfl ?_;simp [h,g2,g2',c1,c2,c3,c4,hk]
      rw [wW c5] at hk;have hq:jB (t=t'/\y=y'/\n=n'/\s=s'/\k=k'/\a.drop (i+1)=b.drop (i+1))=jB (a.drop (i+1)=b.drop (i+1)):=Ec ⟨λh=>h.2.2.2.2.2,λh=>⟨c1,c2,c3,c4,c5,h⟩⟩;rw [hq];generalize jB (a.drop (i+1)=b.drop (i+1))=r at *;refine ay rfl rfl ?_;simp [h,g2,g2',c1,c2,c3,c4,hk,hwr,ih']
   have h0:=loop a.length 0 (by omega);rw [dF,dF] at h0;have h0':TT.lim 180 [.l (aC a),.l (aC b),.i .i64 (aC a).length,.i .i64 0]=some [.i .i64 (if jB (a=b)=true then 1 else 0)]:=by rw [hl1];exact h0
   have hc:b.length=a.length:=by omega
   clear loop h0;refine aG rfl rfl ?_ rfl;generalize jB (a=b)=r at *;rw [hl1] at h0';cases r with
   | true=>simp at h0';simp [hl1,hl2,hc,h0']
   | false=>simp at h0';simp [hl1,hl2,hc,h0']
mutual
def toFt:aS->Ft
 | .mk t y n s k=>.mk [.int .u64 t,.int .i64 y,.int .u64 n,.string ⟨⟨s⟩⟩] (EN k)
def EN:List aS->List Ft
 | []=>[]
 | f::l=>toFt f::EN l
end
mutual
theorem aqw:∀f:aS,Aq (toFt f) (iR f)/\cntF (toFt f)<=vY f
 | .mk t y n s k=>by
   have h:=VY k;simp only [toFt,Aq,iR,cntF,vY];exact ⟨⟨_,_,_,_,_,rfl,rfl,h.1⟩,by omega⟩
theorem VY:∀l:List aS,ou (EN l) (aC l)/\mQ (EN l)<=gZ l
 | []=>by simp only [EN,ou,aC,mQ,gZ];exact ⟨trivial,dH _⟩
 | f::l=>by
   have h1:=aqw f;have h2:=VY l;simp only [EN,ou,aC,mQ,gZ];exact ⟨⟨_,_,rfl,h1.1,h2.1⟩,by omega⟩
end
theorem Rk (l:List aS) (hs:gZ l<=1000000):TT.lim 30 [.l (aC l)]=some [.l (aC l)]:=by
 refine OB (Ds:=Ds) (k:=30) (f:=FZ) rfl ?_;have h:=VY l;unfold FZ;exact ak ⟨EN l,h.1,by omega⟩
theorem abb (b:aB) (fl:List aS) (t:List Row) (ht:t.length<=1000) (hd:∀r∈t,r.1.length<=40):∀ (m i:Nat),i+m=t.length->
 TT.lim 35 [.l ((t.take i).map row),.l (t.map row),.i .i64 t.length,.i .i64 i,.i .i64 b.kind,.i .u64 b.id,.i .u64 b.min,.i .u64 b.max,.i .u64 b.chosen,.i .u64 b.flags,.i .u64 b.cost,.i .u64 b.priority,.i .u64 b.deadline,.i .u64 b.retry,.i .u64 b.epoch,.i .u64 b.base,.i .u64 b.digest,.i .u64 b.lag,.i .u64 b.code,.i .u64 b.want,.i .i64 b.remaining,.b b.allowed,.s b.name,.s b.region,.s b.note,.l (b.d.map ent),.l (aC fl)]=some [.i .i64 0,.l (t.map row)]
 | 0,i,hi=>by
   have h0:t.take i=t:=mG (by omega);have h:¬ ((i:Int) < t.length):=by omega
   rw [h0];refine ay rfl rfl ?_;simp [h]
 | m+1,i,hi=>by
   have hlt:i < t.length:=by omega
   have ih:=abb b fl t ht hd m (i+1) (by omega);have h:((i:Int) < t.length):=by omega
   have hcast:((i+1:Nat):Int)=(i:Int)+1:=by omega
   have hwr:=wrap64 (n:=(i:Int)+1) (by omega) (by omega);have hg:(t.map row)[i]? = some (row t[i]):=by rw [jw,dA hlt];rfl
   have hc:=Yj t[i].1 (hd _ (iI hlt));have hfold:GV.g [.l (t[i].1.map ent),.i .u64 t[i].2]=row t[i]:=rfl;have htk:(t.take (i+1)).map row=(t.take i).map row++[row t[i]]:=by rw [KL,dA hlt,uy];rfl
   rw [htk,hcast] at ih;have hel:(row t[i]).fF 2=true:=rfl;have hb1:2 * (((t.take i).map row).length+1) * 32<=281474976710656:=by simp;omega
   have hb2:((t.take i).map row).length<=281474976710655:=by simp;omega
   generalize (t.take i).map row=A at *;generalize t.map row=L at *;refine ay rfl rfl ?_;simp [h,hg,hc,hfold,hel,hb1,hb2,hwr,ih]
theorem aj1 (b:aB) (fl:List aS) (hd:b.d.length<=40) (ht:vw b.t) (hs:gZ fl<=1000000):TT.lim 33 [bJ b (aC fl)]=some [bJ b (aC fl)]:=by
 have aiF:∀r∈b.t,r.1.length<=40:=λr hr=>by
  have:=ht.few r hr;unfold lF at this;rw [aJ,decide_eq_true_iff] at this;exact this.2
 have h1:=abb b fl b.t (by have:=ht.len;omega) aiF b.t.length 0 (by omega);have hl:=ht.len;rw [Xi,show ((0:Nat):Int)=0 from rfl] at h1;have h2:=Yj b.d hd;have h3:=Rk fl hs;have hml:((b.t.map row).length:Int)=b.t.length:=by simp
 have hz1:(32:Int) * b.t.length<=281474976710656:=by omega
 have hz2:(b.t.length:Int)<=1152921504606846976:=by omega
 have hz3:b.t.length<=8796093022208:=by omega
 simp only [vF] at h1;generalize hL:b.t.map row=L at *;refine aG rfl rfl ?_ rfl;unfold bJ;rw [hL];simp [hml,h1,h2,h3,GV.fF,hz1,hz2];try omega
def CZ (n:Int):Int:=if n % 2=0 then n / 2 else -(n / 2) - 1
theorem arE (n:Int) (h0:0<=n) (h1:n < 18446744073709551616):gI .and .u64 n 1=some (.i .u64 (n % 2))/\gI .xor .i64 (IntKind.i64.wrap (n / 2)) (IntKind.i64.wrap (0 - IntKind.i64.wrap (n % 2)))=some (.i .i64 (CZ n))/\n.fdiv 2=n / 2:=by
 have wu:∀y:Int,IntKind.u64.wrap y=y % 18446744073709551616:=λy=>by simp [IntKind.wrap,IntKind.signed,IntKind.bits]
 have hu:IntKind.u64.bits=64:=rfl;have hi:IntKind.i64.bits=64:=rfl;refine ⟨?_, ?_,WO _ (by decide)⟩
 ·simp only [gI,wu,hu]
  have e:(BitVec.ofInt 64 n &&& BitVec.ofInt 64 1).toNat=(BitVec.ofInt 64 n).toNat % 2:=by
   rw [WA];exact Nat.and_one_is_mod _
  show some (GV.i IntKind.u64 (((BitVec.ofInt 64 n &&& BitVec.ofInt 64 1).toNat:Int) % 18446744073709551616))=_
  rw [e,Dc];congr 2;omega
 ·rw [wrap64 (by omega) (by omega),wrap64 (n:=n % 2) (by omega) (by omega),wrap64 (by omega) (by omega)]
  simp only [gI,hi];unfold CZ;by_cases h:n % 2=0
  ·rw [ak h,h]
   have e:BitVec.ofInt 64 (0 - 0)=0#64:=rfl;show some (GV.i IntKind.i64 (IntKind.i64.wrap ((BitVec.ofInt 64 (n / 2) ^^^ BitVec.ofInt 64 (0 - 0)).toNat:Int)))=_
   rw [e,BitVec.xor_zero,Dc];congr 2;rw [wrap64 (by omega) (by omega)];omega
  ·rw [ah h,show n % 2=1 by omega]
   have e:BitVec.ofInt 64 (0 - 1)=BitVec.allOnes 64:=by decide
   show some (GV.i IntKind.i64 (IntKind.i64.wrap ((BitVec.ofInt 64 (n / 2) ^^^ BitVec.ofInt 64 (0 - 1)).toNat:Int)))=_
   rw [e,BitVec.xor_allOnes,BitVec.toNat_not,Dc];congr 2;have wi:∀y:Int,IntKind.i64.wrap y=if y % 18446744073709551616>=9223372036854775808 then y % 18446744073709551616 - 18446744073709551616 else y % 18446744073709551616:=λy=>by
    simp [IntKind.wrap,IntKind.signed,IntKind.bits]
   rw [wi];split<;>omega
def setB (b:aB) (n:Int) (s:List UInt8):Pl->aB
 | .rem=>{ b with remaining:=CZ n }
 | .allow=>{ b with allowed:=true }
 | .name=>{ b with name:=s }
 | .region=>{ b with region:=s }
 | .note=>{ b with note:=s }
 | .d=>{ b with d:=(jd s).1 }
 | .t=>{ b with t:=(lQ s).1 }
 | .num k=>match k with
   | 0=>{ b with id:=n }
   | 1=>{ b with min:=n }
   | 2=>{ b with max:=n }
   | 3=>{ b with chosen:=n }
   | 4=>{ b with flags:=n }
   | 5=>{ b with cost:=n }
   | 6=>{ b with priority:=n }
   | 7=>{ b with deadline:=n }
   | 8=>{ b with retry:=n }
   | 9=>{ b with epoch:=n }
   | 10=>{ b with base:=n }
   | 11=>{ b with digest:=n }
   | 12=>{ b with lag:=n }
   | 13=>{ b with code:=n }
   | _=>{ b with want:=n }
def gY (n:Int) (s:List UInt8):Pl->Int
 | .allow=>if n=1 then 0 else 18
 | .name=>fC s 0 256
 | .region=>fC s 0 256
 | .note=>fC s 0 256
 | .d=>(jd s).2
 | .t=>if (lQ s).2=0 then (if (lQ s).1.length=0 then 17 else 0) else (lQ s).2
 | _=>0
def aI (ty n:Int) (s:List UInt8) (p:Pl):Int:=if ty=bH p then (if ty=0 then (if n=0 then 17 else gY n s p) else (if s=[] then 17 else gY n s p)) else 8
theorem mZ (u:Int):TT.lim 37 [.i .i64 u]=some [.i .i64 (if u=0 then 0 else if u=1 then 0 else if u=2 then 0 else if u=3 then 1 else if u=4 then 1 else if u=5 then 1 else -1)]:=by
 refine aG rfl rfl ?_ rfl;by_cases h0:u=0
 ·simp [h0]
 by_cases h1:u=1
 ·simp [h1]
 by_cases h2:u=2
 ·simp [h2]
 by_cases h3:u=3
 ·simp [h3]
 by_cases h4:u=4
 ·simp [h4]
 by_cases h5:u=5
 ·simp [h5]
 simp [h0,h1,h2,h3,h4,h5]
/-- A message's cells, but for the first and the last one. -/
def aY (b:aB):List GV:=[.i .u64 b.id,.i .u64 b.min,.i .u64 b.max,.i .u64 b.chosen,.i .u64 b.flags,.i .u64 b.cost,.i .u64 b.priority,.i .u64 b.deadline,.i .u64 b.retry,.i .u64 b.epoch,.i .u64 b.base,.i .u64 b.digest,.i .u64 b.lag,.i .u64 b.code,.i .u64 b.want,.i .i64 b.remaining,.b b.allowed,.s b.name,.s b.region,.s b.note,.l (b.d.map ent),.l (b.t.map row)]
/-- What set does. -/
def eY (b:aB) (r:List GV) (tag ty n:Int) (s:List UInt8) (L:GV) (nm:List UInt8) (p:Pl):Prop:=∃b':aB,TT.lim 36 [.s nm,.i .u64 tag,.i .i64 ty,.i .u64 n,.s s,L,.i .i64 b.kind,.i .u64 b.id,.i .u64 b.min,.i .u64 b.max,.i .u64 b.chosen,.i .u64 b.flags,.i .u64 b.cost,.i .u64 b.priority,.i .u64 b.deadline,.i .u64 b.retry,.i .u64 b.epoch,.i .u64 b.base,.i .u64 b.digest,.i .u64 b.lag,.i .u64 b.code,.i .u64 b.want,.i .i64 b.remaining,.b b.allowed,.s b.name,.s b.region,.s b.note,.l (b.d.map ent),.l (b.t.map row),.l r]=some ([.i .i64 0,.i .i64 (aI ty n s p)]++aY b')/\(aI ty n s p=0->b'=setB b n s p)
theorem aov (b:aB) (r:List GV) (tag ty n:Int) (s:List UInt8) (L:GV):eY b r tag ty n s L kK (.num 0):=by
 unfold eY;have hk:=mZ;unfold kK;by_cases h1:ty=0;rotate_left
 ·have e:aI ty n s (.num 0)=8:=by unfold aI;rw [ah (by simpa [bH] using h1)]
  refine ⟨b, ?_,λh=>by rw [e] at h;cases h⟩;rw [e];refine ay rfl rfl ?_;simp [aY,hk,h1]
 subst h1;by_cases h2:n=0
 ·have e:aI 0 n s (.num 0)=17:=by unfold aI;simp [bH,h2]
  refine ⟨b, ?_,λh=>by rw [e] at h;cases h⟩;rw [e];refine ay rfl rfl ?_;simp [aY,hk,h2]
 have e:aI 0 n s (.num 0)=gY n s (.num 0):=by unfold aI;simp [bH,h2]
 rw [e];refine ⟨{ b with id:=n }, ?_,λ_=>rfl⟩;show _=some ([GV.i .i64 0,GV.i .i64 0]++_)
 refine ay rfl rfl ?_;simp [aY,hk,h2]
theorem aoy (b:aB) (r:List GV) (tag ty n:Int) (s:List UInt8) (L:GV):eY b r tag ty n s L kN (.num 1):=by
 unfold eY;have hk:=mZ;unfold kN;by_cases h1:ty=0;rotate_left
 ·have e:aI ty n s (.num 1)=8:=by unfold aI;rw [ah (by simpa [bH] using h1)]
  refine ⟨b, ?_,λh=>by rw [e] at h;cases h⟩;rw [e];refine ay rfl rfl ?_;simp [aY,hk,h1]
 subst h1;by_cases h2:n=0
 ·have e:aI 0 n s (.num 1)=17:=by unfold aI;simp [bH,h2]
  refine ⟨b, ?_,λh=>by rw [e] at h;cases h⟩;rw [e];refine ay rfl rfl ?_;simp [aY,hk,h2]
 have e:aI 0 n s (.num 1)=gY n s (.num 1):=by unfold aI;simp [bH,h2]
 rw [e];refine ⟨{ b with min:=n }, ?_,λ_=>rfl⟩;show _=some ([GV.i .i64 0,GV.i .i64 0]++_)
 refine ay rfl rfl ?_;simp [aY,hk,h2]
theorem aox (b:aB) (r:List GV) (tag ty n:Int) (s:List UInt8) (L:GV):eY b r tag ty n s L kM (.num 2):=by
 unfold eY;have hk:=mZ;unfold kM;by_cases h1:ty=0;rotate_left
 ·have e:aI ty n s (.num 2)=8:=by unfold aI;rw [ah (by simpa [bH] using h1)]
  refine ⟨b, ?_,λh=>by rw [e] at h;cases h⟩;rw [e];refine ay rfl rfl ?_;simp [aY,hk,h1]
 subst h1;by_cases h2:n=0
 ·have e:aI 0 n s (.num 2)=17:=by unfold aI;simp [bH,h2]
  refine ⟨b, ?_,λh=>by rw [e] at h;cases h⟩;rw [e];refine ay rfl rfl ?_;simp [aY,hk,h2]
 have e:aI 0 n s (.num 2)=gY n s (.num 2):=by unfold aI;simp [bH,h2]
 rw [e];refine ⟨{ b with max:=n }, ?_,λ_=>rfl⟩;show _=some ([GV.i .i64 0,GV.i .i64 0]++_)
 refine ay rfl rfl ?_;simp [aY,hk,h2]
theorem aon (b:aB) (r:List GV) (tag ty n:Int) (s:List UInt8) (L:GV):eY b r tag ty n s L kC (.num 3):=by
 unfold eY;have hk:=mZ;unfold kC;by_cases h1:ty=0;rotate_left
 ·have e:aI ty n s (.num 3)=8:=by unfold aI;rw [ah (by simpa [bH] using h1)]
  refine ⟨b, ?_,λh=>by rw [e] at h;cases h⟩;rw [e];refine ay rfl rfl ?_;simp [aY,hk,h1]
 subst h1;by_cases h2:n=0
 ·have e:aI 0 n s (.num 3)=17:=by unfold aI;simp [bH,h2]
  refine ⟨b, ?_,λh=>by rw [e] at h;cases h⟩;rw [e];refine ay rfl rfl ?_;simp [aY,hk,h2]
 have e:aI 0 n s (.num 3)=gY n s (.num 3):=by unfold aI;simp [bH,h2]
 rw [e];refine ⟨{ b with chosen:=n }, ?_,λ_=>rfl⟩;show _=some ([GV.i .i64 0,GV.i .i64 0]++_)
 refine ay rfl rfl ?_;simp [aY,hk,h2]
theorem aou (b:aB) (r:List GV) (tag ty n:Int) (s:List UInt8) (L:GV):eY b r tag ty n s L kJ (.num 4):=by
 unfold eY;have hk:=mZ;unfold kJ;by_cases h1:ty=0;rotate_left
 ·have e:aI ty n s (.num 4)=8:=by unfold aI;rw [ah (by simpa [bH] using h1)]
  refine ⟨b, ?_,λh=>by rw [e] at h;cases h⟩;rw [e];refine ay rfl rfl ?_;simp [aY,hk,h1]
 subst h1;by_cases h2:n=0
 ·have e:aI 0 n s (.num 4)=17:=by unfold aI;simp [bH,h2]
  refine ⟨b, ?_,λh=>by rw [e] at h;cases h⟩;rw [e];refine ay rfl rfl ?_;simp [aY,hk,h2]
 have e:aI 0 n s (.num 4)=gY n s (.num 4):=by unfold aI;simp [bH,h2]
 rw [e];refine ⟨{ b with flags:=n }, ?_,λ_=>rfl⟩;show _=some ([GV.i .i64 0,GV.i .i64 0]++_)
 refine ay rfl rfl ?_;simp [aY,hk,h2]
theorem aop (b:aB) (r:List GV) (tag ty n:Int) (s:List UInt8) (L:GV):eY b r tag ty n s L kE (.num 5):=by
 unfold eY;have hk:=mZ;unfold kE;by_cases h1:ty=0;rotate_left
 ·have e:aI ty n s (.num 5)=8:=by unfold aI;rw [ah (by simpa [bH] using h1)]
  refine ⟨b, ?_,λh=>by rw [e] at h;cases h⟩;rw [e];refine ay rfl rfl ?_;simp [aY,hk,h1]
 subst h1;by_cases h2:n=0
 ·have e:aI 0 n s (.num 5)=17:=by unfold aI;simp [bH,h2]
  refine ⟨b, ?_,λh=>by rw [e] at h;cases h⟩;rw [e];refine ay rfl rfl ?_;simp [aY,hk,h2]
 have e:aI 0 n s (.num 5)=gY n s (.num 5):=by unfold aI;simp [bH,h2]
 rw [e];refine ⟨{ b with cost:=n }, ?_,λ_=>rfl⟩;show _=some ([GV.i .i64 0,GV.i .i64 0]++_)
 refine ay rfl rfl ?_;simp [aY,hk,h2]
theorem aoC (b:aB) (r:List GV) (tag ty n:Int) (s:List UInt8) (L:GV):eY b r tag ty n s L kP (.num 6):=by
 unfold eY;have hk:=mZ;unfold kP;by_cases h1:ty=0;rotate_left
 ·have e:aI ty n s (.num 6)=8:=by unfold aI;rw [ah (by simpa [bH] using h1)]
  refine ⟨b, ?_,λh=>by rw [e] at h;cases h⟩;rw [e];refine ay rfl rfl ?_;simp [aY,hk,h1]
 subst h1;by_cases h2:n=0
 ·have e:aI 0 n s (.num 6)=17:=by unfold aI;simp [bH,h2]
  refine ⟨b, ?_,λh=>by rw [e] at h;cases h⟩;rw [e];refine ay rfl rfl ?_;simp [aY,hk,h2]
 have e:aI 0 n s (.num 6)=gY n s (.num 6):=by unfold aI;simp [bH,h2]
 rw [e];refine ⟨{ b with priority:=n }, ?_,λ_=>rfl⟩;show _=some ([GV.i .i64 0,GV.i .i64 0]++_)
 refine ay rfl rfl ?_;simp [aY,hk,h2]
theorem aoq (b:aB) (r:List GV) (tag ty n:Int) (s:List UInt8) (L:GV):eY b r tag ty n s L kF (.num 7):=by
 unfold eY;have hk:=mZ;unfold kF;by_cases h1:ty=0;rotate_left
 ·have e:aI ty n s (.num 7)=8:=by unfold aI;rw [ah (by simpa [bH] using h1)]
  refine ⟨b, ?_,λh=>by rw [e] at h;cases h⟩;rw [e];refine ay rfl rfl ?_;simp [aY,hk,h1]
 subst h1;by_cases h2:n=0
 ·have e:aI 0 n s (.num 7)=17:=by unfold aI;simp [bH,h2]
  refine ⟨b, ?_,λh=>by rw [e] at h;cases h⟩;rw [e];refine ay rfl rfl ?_;simp [aY,hk,h2]
 have e:aI 0 n s (.num 7)=gY n s (.num 7):=by unfold aI;simp [bH,h2]
 rw [e];refine ⟨{ b with deadline:=n }, ?_,λ_=>rfl⟩;show _=some ([GV.i .i64 0,GV.i .i64 0]++_)
 refine ay rfl rfl ?_;simp [aY,hk,h2]
theorem aoF (b:aB) (r:List GV) (tag ty n:Int) (s:List UInt8) (L:GV):eY b r tag ty n s L kQ (.num 8):=by
 unfold eY;have hk:=mZ;unfold kQ;by_cases h1:ty=0;rotate_left
 ·have e:aI ty n s (.num 8)=8:=by unfold aI;rw [ah (by simpa [bH] using h1)]
  refine ⟨b, ?_,λh=>by rw [e] at h;cases h⟩;rw [e];refine ay rfl rfl ?_;simp [aY,hk,h1]
 subst h1;by_cases h2:n=0
 ·have e:aI 0 n s (.num 8)=17:=by unfold aI;simp [bH,h2]
  refine ⟨b, ?_,λh=>by rw [e] at h;cases h⟩;rw [e];refine ay rfl rfl ?_;simp [aY,hk,h2]
 have e:aI 0 n s (.num 8)=gY n s (.num 8):=by unfold aI;simp [bH,h2]
 rw [e];refine ⟨{ b with retry:=n }, ?_,λ_=>rfl⟩;show _=some ([GV.i .i64 0,GV.i .i64 0]++_)
 refine ay rfl rfl ?_;simp [aY,hk,h2]
theorem aot (b:aB) (r:List GV) (tag ty n:Int) (s:List UInt8) (L:GV):eY b r tag ty n s L kH (.num 9):=by
 unfold eY;have hk:=mZ;unfold kH;by_cases h1:ty=0;rotate_left
 ·have e:aI ty n s (.num 9)=8:=by unfold aI;rw [ah (by simpa [bH] using h1)]
  refine ⟨b, ?_,λh=>by rw [e] at h;cases h⟩;rw [e];refine ay rfl rfl ?_;simp [aY,hk,h1]
 subst h1;by_cases h2:n=0
 ·have e:aI 0 n s (.num 9)=17:=by unfold aI;simp [bH,h2]
  refine ⟨b, ?_,λh=>by rw [e] at h;cases h⟩;rw [e];refine ay rfl rfl ?_;simp [aY,hk,h2]
 have e:aI 0 n s (.num 9)=gY n s (.num 9):=by unfold aI;simp [bH,h2]
 rw [e];refine ⟨{ b with epoch:=n }, ?_,λ_=>rfl⟩;show _=some ([GV.i .i64 0,GV.i .i64 0]++_)
 refine ay rfl rfl ?_;simp [aY,hk,h2]
theorem aom (b:aB) (r:List GV) (tag ty n:Int) (s:List UInt8) (L:GV):eY b r tag ty n s L ku (.num 10):=by
 unfold eY;have hk:=mZ;unfold ku;by_cases h1:ty=0;rotate_left
 ·have e:aI ty n s (.num 10)=8:=by unfold aI;rw [ah (by simpa [bH] using h1)]
  refine ⟨b, ?_,λh=>by rw [e] at h;cases h⟩;rw [e];refine ay rfl rfl ?_;simp [aY,hk,h1]
 subst h1;by_cases h2:n=0
 ·have e:aI 0 n s (.num 10)=17:=by unfold aI;simp [bH,h2]
  refine ⟨b, ?_,λh=>by rw [e] at h;cases h⟩;rw [e];refine ay rfl rfl ?_;simp [aY,hk,h2]
 have e:aI 0 n s (.num 10)=gY n s (.num 10):=by unfold aI;simp [bH,h2]
 rw [e];refine ⟨{ b with base:=n }, ?_,λ_=>rfl⟩;show _=some ([GV.i .i64 0,GV.i .i64 0]++_)
 refine ay rfl rfl ?_;simp [aY,hk,h2]
theorem aos (b:aB) (r:List GV) (tag ty n:Int) (s:List UInt8) (L:GV):eY b r tag ty n s L kG (.num 11):=by
 unfold eY;have hk:=mZ;unfold kG;by_cases h1:ty=0;rotate_left
 ·have e:aI ty n s (.num 11)=8:=by unfold aI;rw [ah (by simpa [bH] using h1)]
  refine ⟨b, ?_,λh=>by rw [e] at h;cases h⟩;rw [e];refine ay rfl rfl ?_;simp [aY,hk,h1]
 subst h1;by_cases h2:n=0
 ·have e:aI 0 n s (.num 11)=17:=by unfold aI;simp [bH,h2]
  refine ⟨b, ?_,λh=>by rw [e] at h;cases h⟩;rw [e];refine ay rfl rfl ?_;simp [aY,hk,h2]
 have e:aI 0 n s (.num 11)=gY n s (.num 11):=by unfold aI;simp [bH,h2]
 rw [e];refine ⟨{ b with digest:=n }, ?_,λ_=>rfl⟩;show _=some ([GV.i .i64 0,GV.i .i64 0]++_)
 refine ay rfl rfl ?_;simp [aY,hk,h2]
theorem aow (b:aB) (r:List GV) (tag ty n:Int) (s:List UInt8) (L:GV):eY b r tag ty n s L kL (.num 12):=by
 unfold eY;have hk:=mZ;unfold kL;by_cases h1:ty=0;rotate_left
 ·have e:aI ty n s (.num 12)=8:=by unfold aI;rw [ah (by simpa [bH] using h1)]
  refine ⟨b, ?_,λh=>by rw [e] at h;cases h⟩;rw [e];refine ay rfl rfl ?_;simp [aY,hk,h1]
 subst h1;by_cases h2:n=0
 ·have e:aI 0 n s (.num 12)=17:=by unfold aI;simp [bH,h2]
  refine ⟨b, ?_,λh=>by rw [e] at h;cases h⟩;rw [e];refine ay rfl rfl ?_;simp [aY,hk,h2]
 have e:aI 0 n s (.num 12)=gY n s (.num 12):=by unfold aI;simp [bH,h2]
 rw [e];refine ⟨{ b with lag:=n }, ?_,λ_=>rfl⟩;show _=some ([GV.i .i64 0,GV.i .i64 0]++_)
 refine ay rfl rfl ?_;simp [aY,hk,h2]
theorem aoo (b:aB) (r:List GV) (tag ty n:Int) (s:List UInt8) (L:GV):eY b r tag ty n s L kD (.num 13):=by
 unfold eY;have hk:=mZ;unfold kD;by_cases h1:ty=0;rotate_left
 ·have e:aI ty n s (.num 13)=8:=by unfold aI;rw [ah (by simpa [bH] using h1)]
  refine ⟨b, ?_,λh=>by rw [e] at h;cases h⟩;rw [e];refine ay rfl rfl ?_;simp [aY,hk,h1]
 subst h1;by_cases h2:n=0
 ·have e:aI 0 n s (.num 13)=17:=by unfold aI;simp [bH,h2]
  refine ⟨b, ?_,λh=>by rw [e] at h;cases h⟩;rw [e];refine ay rfl rfl ?_;simp [aY,hk,h2]
 have e:aI 0 n s (.num 13)=gY n s (.num 13):=by unfold aI;simp [bH,h2]
 rw [e];refine ⟨{ b with code:=n }, ?_,λ_=>rfl⟩;show _=some ([GV.i .i64 0,GV.i .i64 0]++_)
 refine ay rfl rfl ?_;simp [aY,hk,h2]
theorem aoH (b:aB) (r:List GV) (tag ty n:Int) (s:List UInt8) (L:GV):eY b r tag ty n s L kR (.num 14):=by
 unfold eY;have hk:=mZ;unfold kR;by_cases h1:ty=0;rotate_left
 ·have e:aI ty n s (.num 14)=8:=by unfold aI;rw [ah (by simpa [bH] using h1)]
  refine ⟨b, ?_,λh=>by rw [e] at h;cases h⟩;rw [e];refine ay rfl rfl ?_;simp [aY,hk,h1]
 subst h1;by_cases h2:n=0
 ·have e:aI 0 n s (.num 14)=17:=by unfold aI;simp [bH,h2]
  refine ⟨b, ?_,λh=>by rw [e] at h;cases h⟩;rw [e];refine ay rfl rfl ?_;simp [aY,hk,h2]
 have e:aI 0 n s (.num 14)=gY n s (.num 14):=by unfold aI;simp [bH,h2]
 rw [e];refine ⟨{ b with want:=n }, ?_,λ_=>rfl⟩;show _=some ([GV.i .i64 0,GV.i .i64 0]++_)
 refine ay rfl rfl ?_;simp [aY,hk,h2]
theorem aoE (b:aB) (r:List GV) (tag ty n:Int) (s:List UInt8) (L:GV) (hn:0<=n/\n < 18446744073709551616):eY b r tag ty n s L lI .rem:=by
 unfold eY;have hk:=mZ;unfold lI;by_cases h1:ty=0;rotate_left
 ·have e:aI ty n s .rem=8:=by unfold aI;rw [ah (by simpa [bH] using h1)]
  refine ⟨b, ?_,λh=>by rw [e] at h;cases h⟩;rw [e];refine ay rfl rfl ?_;simp [aY,hk,h1]
 subst h1;by_cases h2:n=0
 ·have e:aI 0 n s .rem=17:=by unfold aI;simp [bH,h2]
  refine ⟨b, ?_,λh=>by rw [e] at h;cases h⟩;rw [e];refine ay rfl rfl ?_;simp [aY,hk,h2]
 have e:aI 0 n s .rem=gY n s .rem:=by unfold aI;simp [bH,h2]
 rw [e];obtain ⟨k1,k2,k3⟩:=arE n hn.1 hn.2;refine ⟨{ b with remaining:=CZ n }, ?_,λ_=>rfl⟩;show _=some ([GV.i .i64 0,GV.i .i64 0]++_)
 refine ay rfl rfl ?_;simp only [Int.zero_sub] at k2;simp [aY,hk,h2,pY,IntKind.bits,k1,k2,k3]
theorem aol (b:aB) (r:List GV) (tag ty n:Int) (s:List UInt8) (L:GV):eY b r tag ty n s L lH .allow:=by
 unfold eY;have hk:=mZ;unfold lH;by_cases h1:ty=0;rotate_left
 ·have e:aI ty n s .allow=8:=by unfold aI;rw [ah (by simpa [bH] using h1)]
  refine ⟨b, ?_,λh=>by rw [e] at h;cases h⟩;rw [e];refine ay rfl rfl ?_;simp [aY,hk,h1]
 subst h1;by_cases h2:n=0
 ·have e:aI 0 n s .allow=17:=by unfold aI;simp [bH,h2]
  refine ⟨b, ?_,λh=>by rw [e] at h;cases h⟩;rw [e];refine ay rfl rfl ?_;simp [aY,hk,h2]
 have e:aI 0 n s .allow=gY n s .allow:=by unfold aI;simp [bH,h2]
 rw [e];by_cases h3:n=1
 ·have e2:gY n s .allow=0:=by unfold gY;rw [ak h3]
  rw [e2];refine ⟨{ b with allowed:=true }, ?_,λ_=>rfl⟩;refine ay rfl rfl ?_;simp [aY,hk,h2,h3]
 ·have e2:gY n s .allow=18:=by unfold gY;rw [ah h3]
  rw [e2];refine ⟨b, ?_,λh=>by cases h⟩;refine ay rfl rfl ?_;simp [aY,hk,h2,h3]
theorem aoz (b:aB) (r:List GV) (tag ty n:Int) (s:List UInt8) (L:GV) (hs:s.length<=100000000):eY b r tag ty n s L jK .name:=by
 unfold eY;have hk:=mZ;unfold jK;by_cases h1:ty=1;rotate_left
 ·have e:aI ty n s .name=8:=by unfold aI;rw [ah (by simpa [bH] using h1)]
  refine ⟨b, ?_,λh=>by rw [e] at h;cases h⟩;rw [e];refine ay rfl rfl ?_;simp [aY,hk,h1]
 subst h1;by_cases h2:s=[]
 ·have e:aI 1 n s .name=17:=by unfold aI;simp [bH,h2]
  refine ⟨b, ?_,λh=>by rw [e] at h;cases h⟩;rw [e];refine ay rfl rfl ?_;simp [aY,hk,h2]
 have e:aI 1 n s .name=gY n s .name:=by unfold aI;simp [bH,h2]
 rw [e];have hc:=BL s 0 256 (by omega);refine ⟨{ b with name:=s }, ?_,λ_=>rfl⟩;show _=some ([GV.i .i64 0,GV.i .i64 (fC s 0 256)]++_)
 generalize fC s 0 256=u at *;refine ay rfl rfl ?_;simp [aY,hk,h2,hc]
theorem aoD (b:aB) (r:List GV) (tag ty n:Int) (s:List UInt8) (L:GV) (hs:s.length<=100000000):eY b r tag ty n s L jM .region:=by
 unfold eY;have hk:=mZ;unfold jM;by_cases h1:ty=1;rotate_left
 ·have e:aI ty n s .region=8:=by unfold aI;rw [ah (by simpa [bH] using h1)]
  refine ⟨b, ?_,λh=>by rw [e] at h;cases h⟩;rw [e];refine ay rfl rfl ?_;simp [aY,hk,h1]
 subst h1;by_cases h2:s=[]
 ·have e:aI 1 n s .region=17:=by unfold aI;simp [bH,h2]
  refine ⟨b, ?_,λh=>by rw [e] at h;cases h⟩;rw [e];refine ay rfl rfl ?_;simp [aY,hk,h2]
 have e:aI 1 n s .region=gY n s .region:=by unfold aI;simp [bH,h2]
 rw [e];have hc:=BL s 0 256 (by omega);refine ⟨{ b with region:=s }, ?_,λ_=>rfl⟩;show _=some ([GV.i .i64 0,GV.i .i64 (fC s 0 256)]++_)
 generalize fC s 0 256=u at *;refine ay rfl rfl ?_;simp [aY,hk,h2,hc]
theorem aoB (b:aB) (r:List GV) (tag ty n:Int) (s:List UInt8) (L:GV) (hs:s.length<=100000000):eY b r tag ty n s L jL .note:=by
 unfold eY;have hk:=mZ;unfold jL;by_cases h1:ty=1;rotate_left
 ·have e:aI ty n s .note=8:=by unfold aI;rw [ah (by simpa [bH] using h1)]
  refine ⟨b, ?_,λh=>by rw [e] at h;cases h⟩;rw [e];refine ay rfl rfl ?_;simp [aY,hk,h1]
 subst h1;by_cases h2:s=[]
 ·have e:aI 1 n s .note=17:=by unfold aI;simp [bH,h2]
  refine ⟨b, ?_,λh=>by rw [e] at h;cases h⟩;rw [e];refine ay rfl rfl ?_;simp [aY,hk,h2]
 have e:aI 1 n s .note=gY n s .note:=by unfold aI;simp [bH,h2]
 rw [e];have hc:=BL s 0 256 (by omega);refine ⟨{ b with note:=s }, ?_,λ_=>rfl⟩;show _=some ([GV.i .i64 0,GV.i .i64 (fC s 0 256)]++_)
 generalize fC s 0 256=u at *;refine ay rfl rfl ?_;simp [aY,hk,h2,hc]
theorem aor (b:aB) (r:List GV) (tag ty n:Int) (s:List UInt8) (L:GV) (hs:s.length<=100000000):eY b r tag ty n s L jJ .d:=by
 unfold eY;have hk:=mZ;unfold jJ;by_cases h1:ty=1;rotate_left
 ·have e:aI ty n s .d=8:=by unfold aI;rw [ah (by simpa [bH] using h1)]
  refine ⟨b, ?_,λh=>by rw [e] at h;cases h⟩;rw [e];refine ay rfl rfl ?_;simp [aY,hk,h1]
 subst h1;by_cases h2:s=[]
 ·have e:aI 1 n s .d=17:=by unfold aI;simp [bH,h2]
  refine ⟨b, ?_,λh=>by rw [e] at h;cases h⟩;rw [e];refine ay rfl rfl ?_;simp [aY,hk,h2]
 have e:aI 1 n s .d=gY n s .d:=by unfold aI;simp [bH,h2]
 rw [e];have hc:=YJ s hs;refine ⟨{ b with d:=(jd s).1 }, ?_,λ_=>rfl⟩;show _=some ([GV.i .i64 0,GV.i .i64 (jd s).2]++_)
 refine ay rfl rfl ?_;simp [aY,hk,h2,hc]
theorem aoG (b:aB) (r:List GV) (tag ty n:Int) (s:List UInt8) (L:GV) (hs:s.length<=100000000):eY b r tag ty n s L jO .t:=by
 unfold eY;have hk:=mZ;unfold jO;by_cases h1:ty=1;rotate_left
 ·have e:aI ty n s .t=8:=by unfold aI;rw [ah (by simpa [bH] using h1)]
  refine ⟨b, ?_,λh=>by rw [e] at h;cases h⟩;rw [e];refine ay rfl rfl ?_;simp [aY,hk,h1]
 subst h1;by_cases h2:s=[]
 ·have e:aI 1 n s .t=17:=by unfold aI;simp [bH,h2]
  refine ⟨b, ?_,λh=>by rw [e] at h;cases h⟩;rw [e];refine ay rfl rfl ?_;simp [aY,hk,h2]
 have e:aI 1 n s .t=gY n s .t:=by unfold aI;simp [bH,h2]
 rw [e];have hc:=aqx s hs;refine ⟨{ b with t:=(lQ s).1 }, ?_,λ_=>rfl⟩;unfold gY;by_cases h3:(lQ s).2=0
 ·rw [ak h3]
  by_cases h4:(lQ s).1.length=0
  ·have h5:=lq h4
   rw [ak h4];refine ay rfl rfl ?_;simp [aY,hk,h2,hc,h3,h5]
  ·have h5:(lQ s).1≠[]:=λe=>h4 (by rw [e];rfl)
   rw [ah h4];refine ay rfl rfl ?_;simp [aY,hk,h2,hc,h3,h5]
 ·rw [ah h3]
  refine ay rfl rfl ?_;simp [aY,hk,h2,hc,h3]
def gQ:aB:={ kind:=0,id:=0,min:=0,max:=0,chosen:=0,flags:=0,cost:=0,priority:=0,deadline:=0,retry:=0,epoch:=0,base:=0,digest:=0,lag:=0,code:=0,want:=0,remaining:=0,allowed:=false,name:=[],region:=[],note:=[],d:=[],t:=[] }
theorem jq:IntKind.i64.wrap 0=0:=wrap64 (by decide) (by decide)
theorem jr:IntKind.i64.wrap 1=1:=wrap64 (by decide) (by decide)
def Wq (b:aB) (r:List GV) (ty n:Int) (s:List UInt8) (p:Pl):List GV:=if aI ty n s p=0 then [bJ (setB b n s p) r,.i .i64 0] else [bJ gQ [],.i .i64 (aI ty n s p)]
def Wp (b:aB) (r:List GV) (ty n:Int) (s nm:List UInt8):List GV:=match placeOf nm with
 | some p=>Wq b r ty n s p
 | none=>[bJ gQ [],.i .i64 26]
theorem OV (b:aB) (n:Int) (s:List UInt8) (p:Pl):(setB b n s p).kind=b.kind:=by
 unfold setB;split<;>first | rfl | (split<;>rfl)
theorem aoA (b:aB) (r:List GV) (tag ty n:Int) (s:List UInt8) (L:GV) (nm:List UInt8) (e0:¬ nm=lI) (e1:¬ nm=lH) (e2:¬ nm=jK) (e3:¬ nm=jM) (e4:¬ nm=jL) (e5:¬ nm=jJ) (e6:¬ nm=jO) (e7:¬ nm=kK) (e8:¬ nm=kN) (e9:¬ nm=kM) (e10:¬ nm=kC) (e11:¬ nm=kJ) (e12:¬ nm=kE) (e13:¬ nm=kP) (e14:¬ nm=kF) (e15:¬ nm=kQ) (e16:¬ nm=kH) (e17:¬ nm=ku) (e18:¬ nm=kG) (e19:¬ nm=kL) (e20:¬ nm=kD) (e21:¬ nm=kR):TT.lim 36 [.s nm,.i .u64 tag,.i .i64 ty,.i .u64 n,.s s,L,.i .i64 b.kind,.i .u64 b.id,.i .u64 b.min,.i .u64 b.max,.i .u64 b.chosen,.i .u64 b.flags,.i .u64 b.cost,.i .u64 b.priority,.i .u64 b.deadline,.i .u64 b.retry,.i .u64 b.epoch,.i .u64 b.base,.i .u64 b.digest,.i .u64 b.lag,.i .u64 b.code,.i .u64 b.want,.i .i64 b.remaining,.b b.allowed,.s b.name,.s b.region,.s b.note,.l (b.d.map ent),.l (b.t.map row),.l r]=some ([.i .i64 0,.i .i64 26]++aY b):=by
 unfold lI lH jK jM jL jJ jO kK kN kM kC kJ kE kP kF kQ kH ku kG kL kD kR at *;refine ay rfl rfl ?_;simp [aY,e0,e1,e2,e3,e4,e5,e6,e7,e8,e9,e10,e11,e12,e13,e14,e15,e16,e17,e18,e19,e20,e21]
theorem aok (b:aB) (r:List GV) (tag ty n:Int) (s:List UInt8) (L:GV) (hn:0<=n/\n < 18446744073709551616) (hs:s.length<=100000000) (nm:List UInt8):(∃p,placeOf nm=some p/\eY b r tag ty n s L nm p)\/(placeOf nm=none/\TT.lim 36 [.s nm,.i .u64 tag,.i .i64 ty,.i .u64 n,.s s,L,.i .i64 b.kind,.i .u64 b.id,.i .u64 b.min,.i .u64 b.max,.i .u64 b.chosen,.i .u64 b.flags,.i .u64 b.cost,.i .u64 b.priority,.i .u64 b.deadline,.i .u64 b.retry,.i .u64 b.epoch,.i .u64 b.base,.i .u64 b.digest,.i .u64 b.lag,.i .u64 b.code,.i .u64 b.want,.i .i64 b.remaining,.b b.allowed,.s b.name,.s b.region,.s b.note,.l (b.d.map ent),.l (b.t.map row),.l r]=some ([.i .i64 0,.i .i64 26]++aY b)):=by
 refine DF (Q:=λnm=>(∃p,placeOf nm=some p/\eY b r tag ty n s L nm p)\/(placeOf nm=none/\TT.lim 36 [.s nm,.i .u64 tag,.i .i64 ty,.i .u64 n,.s s,L,.i .i64 b.kind,.i .u64 b.id,.i .u64 b.min,.i .u64 b.max,.i .u64 b.chosen,.i .u64 b.flags,.i .u64 b.cost,.i .u64 b.priority,.i .u64 b.deadline,.i .u64 b.retry,.i .u64 b.epoch,.i .u64 b.base,.i .u64 b.digest,.i .u64 b.lag,.i .u64 b.code,.i .u64 b.want,.i .i64 b.remaining,.b b.allowed,.s b.name,.s b.region,.s b.note,.l (b.d.map ent),.l (b.t.map row),.l r]=some ([.i .i64 0,.i .i64 26]++aY b))) (.inl ⟨_,zl,aoE b r tag ty n s L hn⟩) (.inl ⟨_,yR,aol b r tag ty n s L ⟩) (.inl ⟨_,xk,aoz b r tag ty n s L hs⟩) (.inl ⟨_,xu,aoD b r tag ty n s L hs⟩) (.inl ⟨_,xq,aoB b r tag ty n s L hs⟩) (.inl ⟨_,yY,aor b r tag ty n s L hs⟩) (.inl ⟨_,zq,aoG b r tag ty n s L hs⟩) (.inl ⟨_,y9,aov b r tag ty n s L ⟩) (.inl ⟨_,zi,aoy b r tag ty n s L ⟩) (.inl ⟨_,zh,aox b r tag ty n s L ⟩) (.inl ⟨_,yT,aon b r tag ty n s L ⟩) (.inl ⟨_,y8,aou b r tag ty n s L ⟩) (.inl ⟨_,yV,aop b r tag ty n s L ⟩) (.inl ⟨_,zk,aoC b r tag ty n s L ⟩) (.inl ⟨_,yX,aoq b r tag ty n s L ⟩) (.inl ⟨_,zo,aoF b r tag ty n s L ⟩) (.inl ⟨_,y7,aot b r tag ty n s L ⟩) (.inl ⟨_,yS,aom b r tag ty n s L ⟩) (.inl ⟨_,yZ,aos b r tag ty n s L ⟩) (.inl ⟨_,zf,aow b r tag ty n s L ⟩) (.inl ⟨_,yU,aoo b r tag ty n s L ⟩) (.inl ⟨_,zu,aoH b r tag ty n s L ⟩) (λnm e0 e1 e2 e3 e4 e5 e6 e7 e8 e9 e10 e11 e12 e13 e14 e15 e16 e17 e18 e19 e20 e21=>.inr ⟨CQ nm e0 e1 e2 e3 e4 e5 e6 e7 e8 e9 e10 e11 e12 e13 e14 e15 e16 e17 e18 e19 e20 e21,aoA b r tag ty n s L nm e0 e1 e2 e3 e4 e5 e6 e7 e8 e9 e10 e11 e12 e13 e14 e15 e16 e17 e18 e19 e20 e21⟩) nm
theorem aj8 (K:List GV) (b:aB) (fl:List aS) (hd:b.d.length<=40) (ht:vw b.t) (hsz:gZ fl<=1000000) (tag ty n:Int) (s:List UInt8) (hn:0<=n/\n < 18446744073709551616) (hs:s.length<=100000000) (nm:List UInt8) :
 TT.lim 32 [bJ b (aC fl),.s nm,.g [.i .u64 tag,.i .i64 ty,.i .u64 n,.s s,.l K]]=some (Wp b (aC fl) ty n s nm):=by
 have hc:=aj1 b fl hd ht hsz;have ha:=aok b (aC fl) tag ty n s (.l K) hn hs nm;generalize aC fl=r at *;have hz:GV.g [.i .i64 0,.i .u64 0,.i .u64 0,.i .u64 0,.i .u64 0,.i .u64 0,.i .u64 0,.i .u64 0,.i .u64 0,.i .u64 0,.i .u64 0,.i .u64 0,.i .u64 0,.i .u64 0,.i .u64 0,.i .u64 0,.i .i64 0,.b false,.s [],.s [],.s [],.l [],.l [],.l []]=bJ gQ []:=rfl;unfold Wp;rcases ha with ⟨p,hp,b',h1,h2⟩ | ⟨hp,h1⟩
 ·rw [hp]
  simp only;unfold Wq;have hk:=OV b n s p;generalize aI ty n s p=e at *;by_cases he:e=0
  ·have h3:=h2 he
   rw [ak he];rw [he,h3] at h1;have hm:bJ (setB b n s p) r=GV.g ([.i .i64 b.kind]++aY (setB b n s p)++[.l r]):=by rw [<- hk];rfl
   rw [hm];generalize setB b n s p=B at *;unfold aY at h1 ⊢;refine aG rfl rfl ?_ rfl;simp [gV,hc];simp [h1]
  ·rw [ah he]
   unfold aY at h1;rw [<- hz];refine aG rfl rfl ?_ rfl;simp [gV,hc];simp [h1,he]
 ·rw [hp]
  simp only;unfold aY at h1;rw [<- hz];refine aG rfl rfl ?_ rfl;simp [gV,hc];simp [h1]
def Ov (b c:aB):Pl->Prop
 | .rem=>b.remaining=c.remaining
 | .allow=>b.allowed=c.allowed
 | .name=>b.name=c.name
 | .region=>b.region=c.region
 | .note=>b.note=c.note
 | .d=>b.d=c.d
 | .t=>b.t=c.t
 | .num k=>bW b k=bW c k
def xw (b c:aB):Pl->Prop
 | .d=>True
 | .t=>True
 | p=>iD b p=iD c p
theorem arD {x y:Int} (h:zz x=zz y):x=y:=by
 unfold zz at h;split at h<;>split at h<;>omega
def KW (b c:aB) (rb rc:List GV) (f:Nat) (n:List UInt8) (p:Prop):Prop:=∀ (NL:List GV) (L K:Int) (i:Nat),(i:Int) < L->NL[i]? = some (.s n)->IntKind.i64.wrap ((i:Int)+1)=(i:Int)+1->TT.lim f ([.l NL,.i .i64 L,.i .i64 ((i:Int)+1)]++(bJ c rc).cells++(bJ b rb).cells)=some [.i .i64 K]->TT.lim f ([.l NL,.i .i64 L,.i .i64 i]++(bJ c rc).cells++(bJ b rb).cells)=some [.i .i64 (if jB p=true then K else 0)]
theorem lJ:eX=[lH,ku,kC,kD,kE,kF,jJ,kG,kH,kJ,kK,kL,kM,kN,jK,jL,kP,jM,lI,kQ,jO,kR]:=rfl
theorem oH (b c:aB) (rb rc:List GV) {n:List UInt8} {p:Pl} (c1:¬ n=jJ) (c2:¬ n=jO) (hb:fJ b rb n p) (hc:fJ c rc n p):KW b c rb rc 175 n (iD b p=iD c p):=by
 intro NL L K i h hat hw ih;unfold fJ at hb hc;rw [qW,qW] at ih ⊢;simp only [jv,eP] at ih ⊢;unfold jJ at c1;unfold jO at c2;generalize iD b p=vb at *;generalize iD c p=vc at *;by_cases h1:vb.1=vc.1;rotate_left
 ·have e:jB (vb=vc)=false:=oq λh=>h1 (by rw [h])
  rw [e];refine ay rfl rfl ?_;simp [h,hat,c1,c2,gV,hb,hc,h1]
 by_cases h2:vb.2=vc.2
 ·have e:jB (vb=vc)=true:=wW (Prod.ext h1 h2)
  rw [e];refine ay rfl rfl ?_;simp [h,hat,c1,c2,gV,hb,hc,h1,h2,hw,ih]
 ·have e:jB (vb=vc)=false:=oq λh=>h2 (by rw [h])
  rw [e];refine ay rfl rfl ?_;simp [h,hat,c1,c2,gV,hb,hc,h1,h2]
theorem acu (b c:aB) (rb rc:List GV) {n:List UInt8} (hn:n=jJ\/n=jO):KW b c rb rc 175 n True:=by
 intro NL L K i h hat hw ih;rw [qW,qW] at ih ⊢;simp only [jv,eP] at ih ⊢;have e:jB True=true:=wW trivial;rw [e];rcases hn with rfl | rfl
 ·unfold jJ at hat
  refine ay rfl rfl ?_;simp [h,hat,hw,ih]
 ·unfold jO at hat
  refine ay rfl rfl ?_;simp [h,hat,hw,ih]
theorem amV (b c:aB) (rb rc:List GV) (hb:iV b) (hc:iV c):∀n∈eX,∃p,placeOf n=some p/\KW b c rb rc 175 n (xw b c p):=by
 intro n hn;rw [lJ] at hn;simp only [dR,Ig,or_false] at hn;rcases hn with rfl | rfl | rfl | rfl | rfl | rfl | rfl | rfl | rfl | rfl | rfl | rfl | rfl | rfl | rfl | rfl | rfl | rfl | rfl | rfl | rfl | rfl
 ·exact ⟨_,yR,oH b c rb rc (by decide) (by decide) (Vb b rb) (Vb c rc)⟩
 ·exact ⟨_,yS,oH b c rb rc (by decide) (by decide) (Vd b rb) (Vd c rc)⟩
 ·exact ⟨_,yT,oH b c rb rc (by decide) (by decide) (Ve b rb) (Ve c rc)⟩
 ·exact ⟨_,yU,oH b c rb rc (by decide) (by decide) (Vf b rb) (Vf c rc)⟩
 ·exact ⟨_,yV,oH b c rb rc (by decide) (by decide) (Vg b rb) (Vg c rc)⟩
 ·exact ⟨_,yX,oH b c rb rc (by decide) (by decide) (Vh b rb) (Vh c rc)⟩
 ·exact ⟨_,yY,acu b c rb rc (.inl rfl)⟩
 ·exact ⟨_,yZ,oH b c rb rc (by decide) (by decide) (Vj b rb) (Vj c rc)⟩
 ·exact ⟨_,y7,oH b c rb rc (by decide) (by decide) (Vk b rb) (Vk c rc)⟩
 ·exact ⟨_,y8,oH b c rb rc (by decide) (by decide) (Vl b rb) (Vl c rc)⟩
 ·exact ⟨_,y9,oH b c rb rc (by decide) (by decide) (Vm b rb) (Vm c rc)⟩
 ·exact ⟨_,zf,oH b c rb rc (by decide) (by decide) (Vo b rb) (Vo c rc)⟩
 ·exact ⟨_,zh,oH b c rb rc (by decide) (by decide) (Vp b rb) (Vp c rc)⟩
 ·exact ⟨_,zi,oH b c rb rc (by decide) (by decide) (Vq b rb) (Vq c rc)⟩
 ·exact ⟨_,xk,oH b c rb rc (by decide) (by decide) (Vr b rb) (Vr c rc)⟩
 ·exact ⟨_,xq,oH b c rb rc (by decide) (by decide) (Vs b rb) (Vs c rc)⟩
 ·exact ⟨_,zk,oH b c rb rc (by decide) (by decide) (Vt b rb) (Vt c rc)⟩
 ·exact ⟨_,xu,oH b c rb rc (by decide) (by decide) (Vu b rb) (Vu c rc)⟩
 ·exact ⟨_,zl,oH b c rb rc (by decide) (by decide) (Vw b rb hb) (Vw c rc hc)⟩
 ·exact ⟨_,zo,oH b c rb rc (by decide) (by decide) (Vx b rb) (Vx c rc)⟩
 ·exact ⟨_,zq,acu b c rb rc (.inr rfl)⟩
 ·exact ⟨_,zu,oH b c rb rc (by decide) (by decide) (Vy b rb) (Vy c rc)⟩
theorem acH (b c:aB) (rb rc:List GV) (f:Nat) (Q:Pl->Prop) (hend:∀ (NL:List GV) (L:Int) (i:Nat),¬ (i:Int) < L->TT.lim f ([.l NL,.i .i64 L,.i .i64 i]++(bJ c rc).cells++(bJ b rb).cells)=some [.i .i64 1]) (hs:∀n∈eX,∃p,placeOf n=some p/\KW b c rb rc f n (Q p)):∀m i:Nat,i+m=eX.length->
 TT.lim f ([.l (eX.map .s),.i .i64 eX.length,.i .i64 i]++(bJ c rc).cells++(bJ b rb).cells)=some [.i .i64 (if jB (∀n∈eX.drop i,∀p,placeOf n=some p->Q p)=true then 1 else 0)]
 | 0,i,hi=>by
   have e:jB (∀n∈eX.drop i,∀p,placeOf n=some p->Q p)=true:=wW (by rw [dQ (by omega)];simp);rw [e];exact hend _ _ i (by omega)
 | m+1,i,hi=>by
   have hlt:i < eX.length:=by omega
   have atd:eX.length=22:=rfl;have hw:=wrap64 (n:=(i:Int)+1) (by omega) (by omega);have ih:=acH b c rb rc f Q hend hs m (i+1) (by omega);obtain ⟨p,hp,hst⟩:=hs _ (iI hlt);have hat:(eX.map GV.s)[i]? = some (.s eX[i]):=by rw [jw,dA hlt];rfl
   have hcast:((i+1:Nat):Int)=(i:Int)+1:=by omega
   rw [hcast] at ih;have hx:=hst _ _ _ i (by omega) hat hw ih;rw [hx,eH hlt];have hq:(∀n∈eX[i]::eX.drop (i+1),∀p,placeOf n=some p->Q p)↔(Q p/\∀n∈eX.drop (i+1),∀p,placeOf n=some p->Q p):=by
    simp only [dR,forall_eq_or_imp];constructor
    ·exact λh=>⟨h.1 p hp,h.2⟩
    ·intro h
     refine ⟨λq hq=>?_,h.2⟩;rw [hp] at hq;injection hq with hq
     rw [<- hq];exact h.1
   rw [Ec hq];by_cases h1:Q p
   ·rw [wW h1,ak rfl]
    have:jB (Q p/\∀n∈eX.drop (i+1),∀p,placeOf n=some p->Q p)=jB (∀n∈eX.drop (i+1),∀p,placeOf n=some p->Q p):=Ec ⟨λh=>h.2,λh=>⟨h1,h⟩⟩;rw [this]
   ·rw [oq h1,ah (by decide),oq λh=>h1 h.1,ah (by decide)]
theorem parts_all (b c:aB) (hk:b.kind=c.kind):(∀n∈eX,∀p,placeOf n=some p->Ov b c p)↔b=c:=by
 constructor
 ·intro h
  rw [lJ] at h;have h0:∀ {n:List UInt8} {p:Pl},n∈[lH,ku,kC,kD,kE,kF,jJ,kG,kH,kJ,kK,kL,kM,kN,jK,jL,kP,jM,lI,kQ,jO,kR]->placeOf n=some p->Ov b c p:=λh1 h2=>h _ h1 _ h2;have alB:=h0 (by simp) zl;have alg:=h0 (by simp) yR;have alx:=h0 (by simp) xk;have alA:=h0 (by simp) xu;have aly:=h0 (by simp) xq;have aln:=h0 (by simp) yY;have alD:=h0 (by simp) zq;have alr:=h0 (by simp) y9;have alv:=h0 (by simp) zi;have alu:=h0 (by simp) zh;have ali:=h0 (by simp) yT;have alq:=h0 (by simp) y8;have alk:=h0 (by simp) yV;have alz:=h0 (by simp) zk;have alm:=h0 (by simp) yX;have alC:=h0 (by simp) zo;have alp:=h0 (by simp) y7;have alh:=h0 (by simp) yS;have alo:=h0 (by simp) yZ;have als:=h0 (by simp) zf;have alj:=h0 (by simp) yU;have alE:=h0 (by simp) zu;clear h h0;cases b;cases c;simp only [Ov,bW] at *;subst hk;subst alB;subst alg;subst alx;subst alA;subst aly;subst aln;subst alD;subst alr;subst alv;subst alu;subst ali;subst alq;subst alk;subst alz;subst alm;subst alC;subst alp;subst alh;subst alo;subst als;subst alj;subst alE;rfl
 ·rintro rfl n _ p _
  cases p<;>simp [Ov]
theorem amO (b c:aB) (hk:b.kind=c.kind) (hd:b.d=c.d) (ht:b.t=c.t):(∀n∈eX,∀p,placeOf n=some p->xw b c p)↔b=c:=by
 rw [<- parts_all b c hk];constructor
 ·intro h n hn p hp
  have:=h n hn p hp;cases p with
  | rem=>simp only [xw,iD,jc,and_true] at this;exact arD this
  | allow=>
    simp only [xw,iD,jc,and_true] at this;show b.allowed=c.allowed
    cases h1:b.allowed<;>cases h2:c.allowed<;>simp [h1,h2] at this ⊢
  | name=>simp only [xw,iD,jc,true_and] at this;exact this
  | region=>simp only [xw,iD,jc,true_and] at this;exact this
  | note=>simp only [xw,iD,jc,true_and] at this;exact this
  | d=>exact hd
  | t=>exact ht
  | num k=>simp only [xw,iD,jc,and_true] at this;exact this
 ·intro h n hn p hp
  have:=(parts_all b c hk).1 h;subst this;cases p<;>simp [xw]
theorem acr (b c:aB) (rb rc:List GV) (hd:b.d.length<=1000) (hl:b.d.length=c.d.length):∀m i:Nat,i+m=b.d.length->
 TT.lim 181 ([.i .i64 b.d.length,.i .i64 i]++(bJ c rc).cells++(bJ b rb).cells)=some [.i .i64 (if jB (b.d.drop i=c.d.drop i)=true then 1 else 0)]
 | 0,i,hi=>by
   have h:¬ ((i:Int) < b.d.length):=by omega
   have e:jB (b.d.drop i=c.d.drop i)=true:=wW (by rw [dQ (by omega),dQ (by omega)]);rw [e];refine ay rfl rfl ?_;simp [h]
 | m+1,i,hi=>by
   have hlt:i < b.d.length:=by omega
   have hlt':i < c.d.length:=by omega
   have h:((i:Int) < b.d.length):=by omega
   have hw:=wrap64 (n:=(i:Int)+1) (by omega) (by omega);have ih:TT.lim 181 ([.i .i64 b.d.length,.i .i64 ((i:Int)+1)]++(bJ c rc).cells++(bJ b rb).cells)=_:=acr b c rb rc hd hl m (i+1) (by omega);have ke:=QY b.d[i] c.d[i];have hda:(b.d.drop i=c.d.drop i)↔(b.d[i]=c.d[i]/\b.d.drop (i+1)=c.d.drop (i+1)):=by
    rw [eH hlt,eH hlt',EZ]
   rw [Ec hda];clear hda;rw [qW,qW] at ih ⊢;simp only [jv,eP] at ih ⊢;by_cases c1:b.d[i]=c.d[i]
   ·have e:jB (b.d[i]=c.d[i]/\b.d.drop (i+1)=c.d.drop (i+1))=jB (b.d.drop (i+1)=c.d.drop (i+1)):=Ec ⟨λh=>h.2,λh=>⟨c1,h⟩⟩
    rw [e];rw [DT c1] at ke;generalize jB (b.d.drop (i+1)=c.d.drop (i+1))=u at *;refine ay rfl rfl ?_;simp [h,hlt,hlt',ke,hw,ih]
   ·rw [oq λh=>c1 h.1]
    rw [Ac c1] at ke;refine ay rfl rfl ?_;simp [h,hlt,hlt',ke,hw]
theorem amU (b c:aB) (fb fc:List aS) (hb:iV b) (hc:iV c) (hbd:b.d.length<=40) (hbt:vw b.t) (hb8:gU fb) (hc8:gU fc) (hbl:fb.length<=1000000) (hcl:fc.length<=1000000):TT.lim 174 [bJ b (aC fb),bJ c (aC fc)]=some [.b (jB (b=c/\fb=fc))]:=by
 have h8:=acp (gZ fb+1) fb fc (by omega) hb8 hc8 hbl hcl;have hn:=aci;have ht:=aob b.t c.t (by have:=hbt.len;omega) hbt.few;have h0:=acH b c (aC fb) (aC fc) 175 (xw b c) (λNL L i h=>by
  rw [qW,qW];simp only [jv,eP];refine ay rfl rfl ?_;simp [h]) (amV b c (aC fb) (aC fc) hb hc) eX.length 0 (by omega)
 have h1:=λhl=>acr b c (aC fb) (aC fc) (by omega) hl b.d.length 0 (by omega);have hal:((eX.map GV.s).length:Int)=(eX.length:Int):=by rw [Bo]
 rw [dF] at h0;simp only [dF] at h1;rw [qW,qW] at h0;simp only [qW,jv,eP,rD] at h0 h1;have hpa:=amO b c;generalize eX.map GV.s=NL at *;generalize (eX.length:Int)=L at *;by_cases ha:(∀n∈eX,∀p,placeOf n=some p->xw b c p);rotate_left
 ·rw [oq ha] at h0
  simp only [eG,if_false] at h0;rw [oq λh=>ha (by rw [hpa (by rw [h.1]) (by rw [h.1]) (by rw [h.1])];exact h.1)];refine aG rfl rfl ?_ rfl;simp [hn,hal,h0]
 rw [wW ha] at h0;simp only [if_true] at h0;by_cases hk:b.kind=c.kind;rotate_left
 ·rw [oq λh=>hk (by rw [h.1])]
  refine aG rfl rfl ?_ rfl;simp [hn,hal,h0,hk]
 have hk':(b.kind=c.kind)=True:=eq_true hk;by_cases hl:b.d.length=c.d.length;rotate_left
 ·rw [oq λh=>hl (by rw [h.1])]
  have hl':¬ ((b.d.length:Int)=c.d.length):=by omega
  refine aG rfl rfl ?_ rfl;simp [hn,hal,h0,hk',hl,hl']
 have h1:=h1 hl;have hl':((b.d.length:Int)=c.d.length)=True:=eq_true (by omega);have hl'':(b.d.length=c.d.length)=True:=eq_true hl;by_cases htt:b.t=c.t;rotate_left
 ·rw [oq λh=>htt (by rw [h.1])]
  rw [Ac htt] at ht;refine aG rfl rfl ?_ rfl;simp [hn,hal,h0,hk',hl',hl'',ht]
 rw [DT htt] at ht;by_cases D8:fb=fc;rotate_left
 ·rw [oq λh=>D8 h.2]
  rw [oq D8] at h8;refine aG rfl rfl ?_ rfl;simp [hn,hal,h0,hk',hl',hl'',ht,h8]
 rw [wW D8] at h8;have e:jB (b=c/\fb=fc)=jB (b.d=c.d):=Ec ⟨λh=>by rw [h.1],λh=>⟨(hpa hk h htt).1 ha,D8⟩⟩;rw [e];clear hpa;by_cases hd:b.d=c.d
 ·rw [wW hd] at h1 ⊢
  simp only [if_true] at h1;refine aG rfl rfl ?_ rfl;simp [hn,hal,h0,hk',hl',hl'',ht,h8,h1]
 ·rw [oq hd] at h1 ⊢
  simp only [eG,if_false] at h1;refine aG rfl rfl ?_ rfl;simp [hn,hal,h0,hk',hl',hl'',ht,h8,h1]
theorem arF {n:Int} (hn:0<=n/\n < 18446744073709551616) : -9223372036854775808<=CZ n/\CZ n<=9223372036854775807:=by
 unfold CZ;split<;>omega
theorem acJ {b:aB} {n:Int} {s:List UInt8} {p:Pl} {ty:Int} (hb:iV b) (hd:lF b.d=true) (ht:vw b.t) (hn:0<=n/\n < 18446744073709551616) (hs:s.length<=100000000) (h:aI ty n s p=0):iV (setB b n s p)/\lF (setB b n s p).d=true/\vw (setB b n s p).t:=by
 have hE:gY n s p=0:=by
  unfold aI at h;split at h
  ·split at h<;>split at h<;>first | exact h | exact absurd h (by decide)
  ·exact absurd h (by decide)
 cases p with
 | rem=>exact ⟨{ hb with remaining:=arF hn },hd,ht⟩
 | allow=>exact ⟨{ hb with },hd,ht⟩
 | name=>exact ⟨{ hb with name:=by show s.length<=_;omega },hd,ht⟩
 | region=>exact ⟨{ hb with region:=by show s.length<=_;omega },hd,ht⟩
 | note=>exact ⟨{ hb with note:=by show s.length<=_;omega },hd,ht⟩
 | d=>
   have hp:=YK (s:=s) hE hs;exact ⟨{ hb with d:=hp.ents },hp.few,ht⟩
 | t=>
   have hp:=(aqy (s:=s) hs).1;exact ⟨{ hb with t:=hp.rows },hd,hp.good⟩
 | num k=>
   unfold setB;split<;>rename_i hk
   ·exact absurd hk (by simp)
   ·exact absurd hk (by simp)
   ·exact absurd hk (by simp)
   ·exact absurd hk (by simp)
   ·exact absurd hk (by simp)
   ·exact absurd hk (by simp)
   ·exact absurd hk (by simp)
   ·split<;>exact ⟨by constructor<;>first | exact hn | exact hb.kind | exact hb.id | exact hb.min | exact hb.max | exact hb.chosen | exact hb.flags | exact hb.cost | exact hb.priority | exact hb.deadline | exact hb.retry | exact hb.epoch | exact hb.base | exact hb.digest | exact hb.lag | exact hb.code | exact hb.want | exact hb.remaining | exact hb.name | exact hb.region | exact hb.note | exact hb.d | exact hb.t,hd,ht⟩
structure Bv (b:aB) (fl:List aS):Prop where
 body:iV b
 d:lF b.d=true
 t:vw b.t
 f8:gU fl
 len:fl.length<=1000000
theorem ER:Bv gQ []:=⟨by constructor<;>simp [gQ,uq,Rows],by simp [gQ,lF],⟨by simp [gQ],by intro r hr;simp [gQ] at hr,by simp [gQ,Rows]⟩,by simp only [gU],by simp⟩
theorem Bv.of {b:aB} {fl:List aS} (h:Bv b fl):TT.lim 167 [bJ b (aC fl)]=some [bJ b (aC fl)]:=abq b fl (F5 h.d) h.t h.f8 h.len
def nameOf:Pl->List UInt8
 | .rem=>lI
 | .allow=>lH
 | .name=>jK
 | .region=>jM
 | .note=>jL
 | .d=>jJ
 | .t=>jO
 | .num k=>match k with
   | 0=>kK
   | 1=>kN
   | 2=>kM
   | 3=>kC
   | 4=>kJ
   | 5=>kE
   | 6=>kP
   | 7=>kF
   | 8=>kQ
   | 9=>kH
   | 10=>ku
   | 11=>kG
   | 12=>kL
   | 13=>kD
   | _=>kR
def lK:Pl->Prop
 | .num k=>k < 15
 | _=>True
theorem ak1 (n:List UInt8):∀p,placeOf n=some p->n=nameOf p/\lK p/\n∈eX:=by
 refine DF (Q:=λn=>∀p,placeOf n=some p->n=nameOf p/\lK p/\n∈eX) (λp h=>by rw [zl] at h;cases h;exact ⟨rfl,by simp [lK],by rw [lJ];simp⟩) (λp h=>by rw [yR] at h;cases h;exact ⟨rfl,by simp [lK],by rw [lJ];simp⟩) (λp h=>by rw [xk] at h;cases h;exact ⟨rfl,by simp [lK],by rw [lJ];simp⟩) (λp h=>by rw [xu] at h;cases h;exact ⟨rfl,by simp [lK],by rw [lJ];simp⟩) (λp h=>by rw [xq] at h;cases h;exact ⟨rfl,by simp [lK],by rw [lJ];simp⟩) (λp h=>by rw [yY] at h;cases h;exact ⟨rfl,by simp [lK],by rw [lJ];simp⟩) (λp h=>by rw [zq] at h;cases h;exact ⟨rfl,by simp [lK],by rw [lJ];simp⟩) (λp h=>by rw [y9] at h;cases h;exact ⟨rfl,by simp [lK],by rw [lJ];simp⟩) (λp h=>by rw [zi] at h;cases h;exact ⟨rfl,by simp [lK],by rw [lJ];simp⟩) (λp h=>by rw [zh] at h;cases h;exact ⟨rfl,by simp [lK],by rw [lJ];simp⟩) (λp h=>by rw [yT] at h;cases h;exact ⟨rfl,by simp [lK],by rw [lJ];simp⟩) (λp h=>by rw [y8] at h;cases h;exact ⟨rfl,by simp [lK],by rw [lJ];simp⟩) (λp h=>by rw [yV] at h;cases h;exact ⟨rfl,by simp [lK],by rw [lJ];simp⟩) (λp h=>by rw [zk] at h;cases h;exact ⟨rfl,by simp [lK],by rw [lJ];simp⟩) (λp h=>by rw [yX] at h;cases h;exact ⟨rfl,by simp [lK],by rw [lJ];simp⟩) (λp h=>by rw [zo] at h;cases h;exact ⟨rfl,by simp [lK],by rw [lJ];simp⟩) (λp h=>by rw [y7] at h;cases h;exact ⟨rfl,by simp [lK],by rw [lJ];simp⟩) (λp h=>by rw [yS] at h;cases h;exact ⟨rfl,by simp [lK],by rw [lJ];simp⟩) (λp h=>by rw [yZ] at h;cases h;exact ⟨rfl,by simp [lK],by rw [lJ];simp⟩) (λp h=>by rw [zf] at h;cases h;exact ⟨rfl,by simp [lK],by rw [lJ];simp⟩) (λp h=>by rw [yU] at h;cases h;exact ⟨rfl,by simp [lK],by rw [lJ];simp⟩) (λp h=>by rw [zu] at h;cases h;exact ⟨rfl,by simp [lK],by rw [lJ];simp⟩) (λn e0 e1 e2 e3 e4 e5 e6 e7 e8 e9 e10 e11 e12 e13 e14 e15 e16 e17 e18 e19 e20 e21 p h=>?_) n;rw [CQ n e0 e1 e2 e3 e4 e5 e6 e7 e8 e9 e10 e11 e12 e13 e14 e15 e16 e17 e18 e19 e20 e21] at h;cases h
theorem Nc (a b:List aS):aC (a++b)=aC a++aC b:=by simp only [Ag,uy]
theorem apb (k:Int):(jP k).Pairwise (λs t=>s.tag < t.tag)/\∀s∈jP k,1<=s.tag/\s.tag<=5:=by
 unfold jP;repeat' split
 all_goals first | (unfold sp1;decide) | (unfold sp2;decide) | (unfold xB;decide) | (unfold xC;decide) | (unfold xE;decide) | (unfold xF;decide) | (unfold xG;decide) | (unfold xH;decide) | exact ⟨List.Pairwise.nil,λs hs=>by cases hs⟩
theorem aav (k v:Int):(bD k v).Pairwise (λs t=>s.tag < t.tag)/\∀s∈bD k v,1<=s.tag/\s.tag<=5:=by
 obtain ⟨h1,h2⟩:=apb k;exact ⟨h1.sublist List.filter_sublist,λs hs=>h2 s (E5.1 hs).1⟩
end V
end Go.Proofs.YthgifdbaegpbpaaGreatDoor
