/- What the trees compute: plain laws. -/
import Derived.Test.YtaggjpipnjmleaaGreatDoorKVe2
namespace Go.Proofs.YtaggjpipnjmleaaGreatDoor
open Go Go.aJ
set_option linter.unusedSimpArgs false
set_option linter.unusedVariables false
set_option maxRecDepth 100000
namespace V
noncomputable def jI (p:Prop):Bool:=@decide p (Classical.propDecidable p)
theorem vX {p:Prop} (h:p):jI p=true:=@zN p (Classical.propDecidable p) h
theorem nM {p:Prop} (h:¬ p):jI p=false:=@zM p (Classical.propDecidable p) h
theorem Ed {p q:Prop} (h:p↔q):jI p=jI q:=by rw [propext h]
def gK (t y n:Int) (s:List UInt8) (k:List aF):GV:=.g [.i .u64 t,.i .i64 y,.i .u64 n,.s s,.l (au k)]
@[simp] theorem Ub (t y n:Int) (s:List UInt8) (k:List aF):(gK t y n s k).cells=[.i .u64 t,.i .i64 y,.i .u64 n,.s s,.l (au k)]:=rfl
theorem vU {l:List aF} {i:Nat} (h:i < l.length):∃t y n s k,l[i]? = some (.mk t y n s k)/\(au l)[i]? = some (gK t y n s k)/\l.drop i=.mk t y n s k::l.drop (i+1)/\aF.mk t y n s k∈l:=by
 have hget:(au l)[i]? = some (fG l[i]):=by rw [oV,iF,bV h];rfl
 have hd:=dZ h;have hm:=fP h;have hg:=bV h;cases hf:l[i] with
 | mk t y n s k=>
   rw [hf] at hget hd hm hg;exact ⟨t,y,n,s,k,hg,by rw [hget];simp only [fG];rfl,hd,hm⟩
theorem adW:∀ (N:Nat) (a b:List aF),bQ a < N->dw a->dw b->a.length<=1000000->b.length<=1000000->TT.lim 220 [.l (au a),.l (au b)]=some [.b (jI (a=b))]
 | 0,a,b,hN,_,_,_,_=>by omega
 | N+1,a,b,hN,ha,hb,hla,hlb=>by
   have hl1:=iw a;have hl2:=iw b;by_cases hl:a.length=b.length;rotate_left
   ·have hne:jI (a=b)=false:=nM λe=>hl (by rw [e])
    have hc:¬ ((a.length:Int)=(b.length:Int)):=by omega
    rw [hne];refine aG rfl rfl ?_ rfl;simp [hl1,hl2,hc]
   have loop:∀m i,i+m=a.length->TT.lim 221 [.l (au a),.l (au b),.i .i64 a.length,.i .i64 i]=some [.i .i64 (if jI (a.drop i=b.drop i)=true then 1 else 0)]:=by
    intro m;induction m with
    | zero=>
      intro i hi;have e1:a.drop i=[]:=dN (by omega);have e2:b.drop i=[]:=dN (by omega);have h:¬ ((i:Int) < a.length):=by omega
      have ht:jI (a.drop i=b.drop i)=true:=vX (by rw [e1,e2]);rw [ht];refine aB rfl rfl ?_;simp [h]
    | succ m ih=>
      intro i hi;obtain ⟨t,y,n,s,k,g1,g2,g3,g4⟩:=vU (l:=a) (i:=i) (by omega);obtain ⟨t',y',n',s',k',g1',g2',g3',g4'⟩:=vU (l:=b) (i:=i) (by omega);have hf:=tq ha _ g4;have hf':=tq hb _ g4';simp only [l9] at hf hf';have hs:=CW g4;simp only [nX] at hs;have hk:=adW N k k' (by omega) hf.2 hf'.2 hf.1.2.2.2.2.2.2.2 hf'.1.2.2.2.2.2.2.2;have ih':=ih (i+1) (by omega);have hcast:((i+1:Nat):Int)=(i:Int)+1:=by omega
      rw [hcast] at ih';have hwr:=wrap64 (n:=(i:Int)+1) (by omega) (by omega);have h:((i:Int) < a.length):=by omega
      have hda:(a.drop i=b.drop i)↔(t=t'/\y=y'/\n=n'/\s=s'/\k=k'/\a.drop (i+1)=b.drop (i+1)):=by
       rw [g3,g3'];simp [and_assoc]
      rw [Ed hda];clear hda g1 g1' g3 g3' g4 g4' hf hf' hs;by_cases c1:t=t';rotate_left
      ·rw [nM λh=>c1 h.1]
       refine aB rfl rfl ?_;simp [h,g2,g2',c1]
      by_cases c2:y=y';rotate_left
      ·rw [nM λh=>c2 h.2.1]
       refine aB rfl rfl ?_;simp [h,g2,g2',c1,c2]
      by_cases c3:n=n';rotate_left
      ·rw [nM λh=>c3 h.2.2.1]
       refine aB rfl rfl ?_;simp [h,g2,g2',c1,c2,c3]
      by_cases c4:s=s';rotate_left
      ·rw [nM λh=>c4 h.2.2.2.1]
       refine aB rfl rfl ?_;simp [h,g2,g2',c1,c2,c3,c4]
      by_cases c5:k=k';rotate_left
      ·rw [nM λh=>c5 h.2.2.2.2.1]
       rw [nM c5] at hk;refine aB rfl rfl ?_;simp [h,g2,g2',c1,c2,c3,c4,hk]
      rw [vX c5] at hk;have hq:jI (t=t'/\y=y'/\n=n'/\s=s'/\k=k'/\a.drop (i+1)=b.drop (i+1))=jI (a.drop (i+1)=b.drop (i+1)):=Ed ⟨λh=>h.2.2.2.2.2,λh=>⟨c1,c2,c3,c4,c5,h⟩⟩;rw [hq];generalize jI (a.drop (i+1)=b.drop (i+1))=r at *;refine aB rfl rfl ?_;simp [h,g2,g2',c1,c2,c3,c4,hk,hwr,ih']
   have h0:=loop a.length 0 (by omega);rw [bY,bY] at h0;have h0':TT.lim 221 [.l (au a),.l (au b),.i .i64 (au a).length,.i .i64 0]=some [.i .i64 (if jI (a=b)=true then 1 else 0)]:=by rw [hl1];exact h0
   have hc:b.length=a.length:=by omega
   clear loop h0;refine aG rfl rfl ?_ rfl;generalize jI (a=b)=r at *;rw [hl1] at h0';cases r with
   | true=>simp at h0';simp [hl1,hl2,hc,h0']
   | false=>simp at h0';simp [hl1,hl2,hc,h0']
mutual
def toFt:aF->Ft
 | .mk t y n s k=>.mk [.int .u64 t,.int .i64 y,.int .u64 n,.string ⟨⟨s⟩⟩] (EU k)
def EU:List aF->List Ft
 | []=>[]
 | f::l=>toFt f::EU l
end
mutual
theorem arV:∀f:aF,zY (toFt f) (fG f)/\cntF (toFt f)<=nX f
 | .mk t y n s k=>by
   have h:=XI k;simp only [toFt,zY,fG,cntF,nX];exact ⟨⟨_,_,_,_,_,rfl,rfl,h.1⟩,by omega⟩
theorem XI:∀l:List aF,nN (EU l) (au l)/\lS (EU l)<=bQ l
 | []=>by simp only [EU,nN,au,lS,bQ];exact ⟨trivial,dL _⟩
 | f::l=>by
   have h1:=arV f;have h2:=XI l;simp only [EU,nN,au,lS,bQ];exact ⟨⟨_,_,rfl,h1.1,h2.1⟩,by omega⟩
end
theorem Og (l:List aF) (hs:bQ l<=1000000):TT.lim 87 [.l (au l)]=some [.l (au l)]:=by
 refine KT (Ds:=Ds) (k:=87) (f:=Gn) rfl ?_;have h:=XI l;unfold Gn;exact aj ⟨EU l,h.1,by omega⟩
theorem Ot:∀ (n:Nat) (l:List One) (deep:Int),bQ (fE n l deep).1+2 * (fE n l deep).2.length<=2 * l.length
 | 0,l,deep=>by simp [fE,bQ]
 | n+1,[],deep=>by simp [fE,bQ]
 | n+1,x::l,deep=>by
   simp only [fE];split
   ·by_cases hx:x.deep=255
    ·rw [aj hx]
     have h1:=Ot n l deep;simp only [bQ,nX,jc];omega
    ·rw [ah hx]
     have h1:=Ot n l (x.deep+1);have h2:=Ot n (fE n l (x.deep+1)).2 deep;simp only [bQ,nX,jc];omega
   ·simp [bQ]
theorem ach (l:List One):bQ (rC l)<=2 * l.length:=by
 have:=Ot (l.length+1) l 0;unfold rC;omega
theorem acA (b:aU) (fl:List aF) (t:List Row) (ht:t.length<=1000) (hd:∀r∈t,r.1.length<=40):∀ (m i:Nat),i+m=t.length->
 TT.lim 114 [.l ((t.take i).map row),.l (t.map row),.i .i64 t.length,.i .i64 i,.i .i64 b.kind,.i .u64 b.id,.i .u64 b.min,.i .u64 b.max,.i .u64 b.chosen,.i .u64 b.flags,.i .u64 b.cost,.i .u64 b.priority,.i .u64 b.deadline,.i .u64 b.retry,.i .u64 b.epoch,.i .u64 b.base,.i .u64 b.digest,.i .u64 b.lag,.i .u64 b.code,.i .u64 b.want,.i .i64 b.remaining,.b b.allowed,.s b.name,.s b.region,.s b.note,.l (b.d.map ent),.l (au fl)]=some [.i .i64 0,.l (t.map row)]
 | 0,i,hi=>by
   have h0:t.take i=t:=kU (by omega);have h:¬ ((i:Int) < t.length):=by omega
   rw [h0];refine aB rfl rfl ?_;simp [h]
 | m+1,i,hi=>by
   have hlt:i < t.length:=by omega
   have ih:=acA b fl t ht hd m (i+1) (by omega);have h:((i:Int) < t.length):=by omega
   have hcast:((i+1:Nat):Int)=(i:Int)+1:=by omega
   have hwr:=wrap64 (n:=(i:Int)+1) (by omega) (by omega);have hg:(t.map row)[i]? = some (row t[i]):=by rw [iF,bV hlt];rfl
   have hc:=ZP t[i].1 (hd _ (fP hlt));have hfold:GV.g [.l (t[i].1.map ent),.i .u64 t[i].2]=row t[i]:=rfl;have htk:(t.take (i+1)).map row=(t.take i).map row++[row t[i]]:=by rw [L6,bV hlt,pR];rfl
   rw [htk,hcast] at ih;have hel:(row t[i]).eU 2=true:=rfl;have hb1:2 * (((t.take i).map row).length+1) * 32<=281474976710656:=by simp;omega
   have hb2:((t.take i).map row).length<=281474976710655:=by simp;omega
   generalize (t.take i).map row=A at *;generalize t.map row=L at *;refine aB rfl rfl ?_;simp [h,hg,hc,hfold,hel,hb1,hb2,hwr,ih]
theorem aml (b:aU) (fl:List aF) (hd:b.d.length<=40) (ht:rX b.t) (hs:bQ fl<=1000000):TT.lim 112 [bP b (au fl)]=some [bP b (au fl)]:=by
 have ak7:∀r∈b.t,r.1.length<=40:=λr hr=>by
  have:=ht.few r hr;unfold gZ at this;rw [aI,decide_eq_true_iff] at this;exact this.2
 have h1:=acA b fl b.t (by have:=ht.len;omega) ak7 b.t.length 0 (by omega);have hl:=ht.len;rw [RF,show ((0:Nat):Int)=0 from rfl] at h1;have h2:=ZP b.d hd;have h3:=Og fl hs;have hml:((b.t.map row).length:Int)=b.t.length:=by simp
 have hz1:(32:Int) * b.t.length<=281474976710656:=by omega
 have hz2:(b.t.length:Int)<=1152921504606846976:=by omega
 have hz3:b.t.length<=8796093022208:=by omega
 simp only [vI] at h1;generalize hL:b.t.map row=L at *;refine aG rfl rfl ?_ rfl;unfold bP;rw [hL];simp [hml,h1,h2,h3,GV.eU,hz1,hz2];try omega
def C9 (n:Int):Int:=if n % 2=0 then n / 2 else -(n / 2) - 1
theorem asN (n:Int) (h0:0<=n) (h1:n < 18446744073709551616):fU .and .u64 n 1=some (.i .u64 (n % 2))/\fU .xor .i64 (IntKind.i64.wrap (n / 2)) (IntKind.i64.wrap (0 - IntKind.i64.wrap (n % 2)))=some (.i .i64 (C9 n))/\n.fdiv 2=n / 2:=by
 have wu:∀y:Int,IntKind.u64.wrap y=y % 18446744073709551616:=λy=>by simp [IntKind.wrap,IntKind.signed,IntKind.bits]
 have hu:IntKind.u64.bits=64:=rfl;have hi:IntKind.i64.bits=64:=rfl;refine ⟨?_, ?_,LU _ (by decide)⟩
 ·simp only [fU,wu,hu]
  have e:(BitVec.ofInt 64 n &&& BitVec.ofInt 64 1).toNat=(BitVec.ofInt 64 n).toNat % 2:=by
   rw [Ye];exact Nat.and_one_is_mod _
  show some (GV.i IntKind.u64 (((BitVec.ofInt 64 n &&& BitVec.ofInt 64 1).toNat:Int) % 18446744073709551616))=_
  rw [e,wM];congr 2;omega
 ·rw [wrap64 (by omega) (by omega),wrap64 (n:=n % 2) (by omega) (by omega),wrap64 (by omega) (by omega)]
  simp only [fU,hi];unfold C9;by_cases h:n % 2=0
  ·rw [aj h,h]
   have e:BitVec.ofInt 64 (0 - 0)=0#64:=rfl;show some (GV.i IntKind.i64 (IntKind.i64.wrap ((BitVec.ofInt 64 (n / 2) ^^^ BitVec.ofInt 64 (0 - 0)).toNat:Int)))=_
   rw [e,BitVec.xor_zero,wM];congr 2;rw [wrap64 (by omega) (by omega)];omega
  ·rw [ah h,show n % 2=1 by omega]
   have e:BitVec.ofInt 64 (0 - 1)=BitVec.allOnes 64:=by decide
   show some (GV.i IntKind.i64 (IntKind.i64.wrap ((BitVec.ofInt 64 (n / 2) ^^^ BitVec.ofInt 64 (0 - 1)).toNat:Int)))=_
   rw [e,BitVec.xor_allOnes,BitVec.toNat_not,wM];congr 2;have wi:∀y:Int,IntKind.i64.wrap y=if y % 18446744073709551616>=9223372036854775808 then y % 18446744073709551616 - 18446744073709551616 else y % 18446744073709551616:=λy=>by
    simp [IntKind.wrap,IntKind.signed,IntKind.bits]
   rw [wi];split<;>omega
def setB (b:aU) (n:Int) (s:List UInt8):Pl->aU
 | .rem=>{ b with remaining:=C9 n }
 | .allow=>{ b with allowed:=true }
 | .name=>{ b with name:=s }
 | .region=>{ b with region:=s }
 | .note=>{ b with note:=s }
 | .d=>{ b with d:=(jo s).1 }
 | .t=>{ b with t:=(lg s).1 }
 | .num k=>match k with
   | 0=>{ b with id:=n }
   | 1=>{ b with min:=n }
   | 2=>{ b with max:=n }
   | 3=>{ b with chosen:=n }
   | 4=>{ b with flags:=n }
   | 5=>{ b with cost:=n }
   | 6=>{ b with priority:=n }
   | 7=>{ b with deadline:=n }
   | 8=>{ b with retry:=n }
   | 9=>{ b with epoch:=n }
   | 10=>{ b with base:=n }
   | 11=>{ b with digest:=n }
   | 12=>{ b with lag:=n }
   | 13=>{ b with code:=n }
   | _=>{ b with want:=n }
def pz (n:Int) (s:List UInt8):Pl->Int
 | .allow=>if n=1 then 0 else 18
 | .name=>jK s 0 256
 | .region=>jK s 0 256
 | .note=>jK s 0 256
 | .d=>(jo s).2
 | .t=>if (lg s).2=0 then (if (lg s).1.length=0 then 17 else 0) else (lg s).2
 | _=>0
def dY (ty n:Int) (s:List UInt8) (p:Pl):Int:=if ty=bH p then (if ty=0 then (if n=0 then 17 else pz n s p) else (if s=[] then 17 else pz n s p)) else 8
theorem alH (u:Int):TT.lim 116 [.i .i64 u]=some [.i .i64 (if u=0 then 0 else if u=1 then 0 else if u=2 then 0 else if u=3 then 1 else if u=4 then 1 else if u=5 then 1 else -1)]:=by
 refine aG rfl rfl ?_ rfl;by_cases h0:u=0
 ·simp [h0]
 by_cases h1:u=1
 ·simp [h1]
 by_cases h2:u=2
 ·simp [h2]
 by_cases h3:u=3
 ·simp [h3]
 by_cases h4:u=4
 ·simp [h4]
 by_cases h5:u=5
 ·simp [h5]
 simp [h0,h1,h2,h3,h4,h5]
/-- A message's cells, but for the first and the last one. -/
def fB (b:aU):List GV:=[.i .u64 b.id,.i .u64 b.min,.i .u64 b.max,.i .u64 b.chosen,.i .u64 b.flags,.i .u64 b.cost,.i .u64 b.priority,.i .u64 b.deadline,.i .u64 b.retry,.i .u64 b.epoch,.i .u64 b.base,.i .u64 b.digest,.i .u64 b.lag,.i .u64 b.code,.i .u64 b.want,.i .i64 b.remaining,.b b.allowed,.s b.name,.s b.region,.s b.note,.l (b.d.map ent),.l (b.t.map row)]
/-- What set does. -/
def RU (b:aU) (r:List GV) (tag ty n:Int) (s:List UInt8) (L:GV) (nm:List UInt8) (p:Pl):Prop:=∃b':aU,TT.lim 115 [.s nm,.i .u64 tag,.i .i64 ty,.i .u64 n,.s s,L,.i .i64 b.kind,.i .u64 b.id,.i .u64 b.min,.i .u64 b.max,.i .u64 b.chosen,.i .u64 b.flags,.i .u64 b.cost,.i .u64 b.priority,.i .u64 b.deadline,.i .u64 b.retry,.i .u64 b.epoch,.i .u64 b.base,.i .u64 b.digest,.i .u64 b.lag,.i .u64 b.code,.i .u64 b.want,.i .i64 b.remaining,.b b.allowed,.s b.name,.s b.region,.s b.note,.l (b.d.map ent),.l (b.t.map row),.l r]=some ([.i .i64 0,.i .i64 (dY ty n s p)]++fB b')/\(dY ty n s p=0->b'=setB b n s p)
set_option maxHeartbeats 8000000 in
theorem aqZ (b:aU) (r:List GV) (tag ty n:Int) (s:List UInt8) (L:GV) (hn:0<=n/\n < 18446744073709551616) (hs:s.length<=100000000) {nm:List UInt8} {p:Pl} (hp:placeOf nm=some p):RU b r tag ty n s L nm p:=by
 unfold RU;have hk:=alH;have hI:=Ef hp;have hok:=(wB nm p hp).2.1;clear hp;by_cases h1:ty=bH p;rotate_left
 ·have e:dY ty n s p=8:=by unfold dY;rw [ah h1]
  refine ⟨b, ?_,λh=>by rw [e] at h;cases h⟩;rw [e];clear e;induction p,hok using Ak<;>(simp only [bH] at h1;refine aB rfl rfl ?_;simp [hI,fB,hk,h1])
 subst h1;by_cases h2:(bH p=0/\n=0)\/(bH p=1/\s=[])
 ·have e:dY (bH p) n s p=17:=by
   unfold dY;rw [aj rfl];rcases h2 with ⟨a,c⟩ | ⟨a,c⟩
   ·rw [aj a,aj c]
   ·rw [ah (by omega),aj c]
  refine ⟨b, ?_,λh=>by rw [e] at h;cases h⟩;rw [e];clear e;induction p,hok using Ak<;>(simp [bH] at h2;refine aB rfl rfl ?_;simp [hI,fB,hk,bH,h2])
 have e:dY (bH p) n s p=pz n s p:=by
  unfold dY;rw [aj rfl];by_cases a:bH p=0
  ·rw [aj a,ah λc=>h2 (.inl ⟨a,c⟩)]
  ·rw [ah a,ah λc=>h2 (.inr ⟨by cases p<;>simp [bH] at a ⊢,c⟩)]
 rw [e];clear e;induction p,hok using Ak
 case h0=>
  have h2:¬ n=0:=by simpa [bH] using h2
  obtain ⟨k1,k2,k3⟩:=asN n hn.1 hn.2;refine ⟨{ b with remaining:=C9 n }, ?_,λ_=>rfl⟩;show _=some ([GV.i .i64 0,GV.i .i64 0]++_)
  refine aB rfl rfl ?_;simp only [Int.zero_sub] at k2;simp [hI,fB,hk,bH,h2,mQ,IntKind.bits,k1,k2,k3]
 case h1=>
  have h2:¬ n=0:=by simpa [bH] using h2
  by_cases h3:n=1
  ·have e2:pz n s .allow=0:=by unfold pz;rw [aj h3]
   rw [e2];refine ⟨{ b with allowed:=true }, ?_,λ_=>rfl⟩;refine aB rfl rfl ?_;simp [hI,fB,hk,bH,h2,h3]
  ·have e2:pz n s .allow=18:=by unfold pz;rw [ah h3]
   rw [e2];refine ⟨b, ?_,λh=>by cases h⟩;refine aB rfl rfl ?_;simp [hI,fB,hk,bH,h2,h3]
 case h5=>
  have h2:¬ s=[]:=by simpa [bH] using h2
  have hc:=aam s hs;refine ⟨{ b with d:=(jo s).1 }, ?_,λ_=>rfl⟩;show _=some ([GV.i .i64 0,GV.i .i64 (jo s).2]++_)
  refine aB rfl rfl ?_;simp [hI,fB,hk,bH,h2,hc]
 case h6=>
  have h2:¬ s=[]:=by simpa [bH] using h2
  have hc:=arW s hs;refine ⟨{ b with t:=(lg s).1 }, ?_,λ_=>rfl⟩;unfold pz;by_cases h3:(lg s).2=0
  ·rw [aj h3]
   by_cases h4:(lg s).1.length=0
   ·have h5:=jQ h4
    rw [aj h4];refine aB rfl rfl ?_;simp [hI,fB,hk,bH,h2,hc,h3,h5]
   ·have h5:(lg s).1≠[]:=λe=>h4 (by rw [e];rfl)
    rw [ah h4];refine aB rfl rfl ?_;simp [hI,fB,hk,bH,h2,hc,h3,h5]
  ·rw [ah h3]
   refine aB rfl rfl ?_;simp [hI,fB,hk,bH,h2,hc,h3]
 all_goals first
  | (have h2:¬ s=[]:=by simpa [bH] using h2
     have hc:=FZ s 0 256 (by omega);refine ⟨setB b n s _, ?_,λ_=>rfl⟩;show _=some ([GV.i .i64 0,GV.i .i64 (jK s 0 256)]++_)
     generalize jK s 0 256=u at *;refine aB rfl rfl ?_;simp [hI,fB,setB,hk,bH,h2,hc];done)
  | (have h2:¬ n=0:=by simpa [bH] using h2
     refine ⟨setB b n s _, ?_,λ_=>rfl⟩;show _=some ([GV.i .i64 0,GV.i .i64 0]++_)
     refine aB rfl rfl ?_;simp [hI,fB,setB,hk,bH,h2])
def fJ:aU:={ kind:=0,id:=0,min:=0,max:=0,chosen:=0,flags:=0,cost:=0,priority:=0,deadline:=0,retry:=0,epoch:=0,base:=0,digest:=0,lag:=0,code:=0,want:=0,remaining:=0,allowed:=false,name:=[],region:=[],note:=[],d:=[],t:=[] }
theorem jE:IntKind.i64.wrap 0=0:=wrap64 (by decide) (by decide)
theorem jF:IntKind.i64.wrap 1=1:=wrap64 (by decide) (by decide)
def X3 (b:aU) (r:List GV) (ty n:Int) (s:List UInt8) (p:Pl):List GV:=if dY ty n s p=0 then [bP (setB b n s p) r,.i .i64 0] else [bP fJ [],.i .i64 (dY ty n s p)]
def X0 (b:aU) (r:List GV) (ty n:Int) (s nm:List UInt8):List GV:=match placeOf nm with
 | some p=>X3 b r ty n s p
 | none=>[bP fJ [],.i .i64 26]
theorem Qp (b:aU) (n:Int) (s:List UInt8) (p:Pl):(setB b n s p).kind=b.kind:=by
 unfold setB;split<;>first | rfl | (split<;>rfl)
theorem aq0 (b:aU) (r:List GV) (tag ty n:Int) (s:List UInt8) (L:GV) {nm:List UInt8} (hp:placeOf nm=none):TT.lim 115 [.s nm,.i .u64 tag,.i .i64 ty,.i .u64 n,.s s,L,.i .i64 b.kind,.i .u64 b.id,.i .u64 b.min,.i .u64 b.max,.i .u64 b.chosen,.i .u64 b.flags,.i .u64 b.cost,.i .u64 b.priority,.i .u64 b.deadline,.i .u64 b.retry,.i .u64 b.epoch,.i .u64 b.base,.i .u64 b.digest,.i .u64 b.lag,.i .u64 b.code,.i .u64 b.want,.i .i64 b.remaining,.b b.allowed,.s b.name,.s b.region,.s b.note,.l (b.d.map ent),.l (b.t.map row),.l r]=some ([.i .i64 0,.i .i64 26]++fB b):=by
 have hI:=abw hp;refine aB rfl rfl ?_;simp [fB,hI]
theorem aqY (b:aU) (r:List GV) (tag ty n:Int) (s:List UInt8) (L:GV) (hn:0<=n/\n < 18446744073709551616) (hs:s.length<=100000000) (nm:List UInt8):(∃p,placeOf nm=some p/\RU b r tag ty n s L nm p)\/(placeOf nm=none/\TT.lim 115 [.s nm,.i .u64 tag,.i .i64 ty,.i .u64 n,.s s,L,.i .i64 b.kind,.i .u64 b.id,.i .u64 b.min,.i .u64 b.max,.i .u64 b.chosen,.i .u64 b.flags,.i .u64 b.cost,.i .u64 b.priority,.i .u64 b.deadline,.i .u64 b.retry,.i .u64 b.epoch,.i .u64 b.base,.i .u64 b.digest,.i .u64 b.lag,.i .u64 b.code,.i .u64 b.want,.i .i64 b.remaining,.b b.allowed,.s b.name,.s b.region,.s b.note,.l (b.d.map ent),.l (b.t.map row),.l r]=some ([.i .i64 0,.i .i64 26]++fB b)):=by
 cases hp:placeOf nm with
 | some p=>exact .inl ⟨p,rfl,aqZ b r tag ty n s L hn hs hp⟩
 | none=>exact .inr ⟨rfl,aq0 b r tag ty n s L hp⟩
theorem amu (K:List GV) (b:aU) (fl:List aF) (hd:b.d.length<=40) (ht:rX b.t) (hsz:bQ fl<=1000000) (tag ty n:Int) (s:List UInt8) (hn:0<=n/\n < 18446744073709551616) (hs:s.length<=100000000) (nm:List UInt8) :
 TT.lim 111 [bP b (au fl),.s nm,.g [.i .u64 tag,.i .i64 ty,.i .u64 n,.s s,.l K]]=some (X0 b (au fl) ty n s nm):=by
 have hc:=aml b fl hd ht hsz;have ha:=aqY b (au fl) tag ty n s (.l K) hn hs nm;generalize au fl=r at *;have hz:GV.g [.i .i64 0,.i .u64 0,.i .u64 0,.i .u64 0,.i .u64 0,.i .u64 0,.i .u64 0,.i .u64 0,.i .u64 0,.i .u64 0,.i .u64 0,.i .u64 0,.i .u64 0,.i .u64 0,.i .u64 0,.i .u64 0,.i .i64 0,.b false,.s [],.s [],.s [],.l [],.l [],.l []]=bP fJ []:=rfl;unfold X0;rcases ha with ⟨p,hp,b',h1,h2⟩ | ⟨hp,h1⟩
 ·rw [hp]
  simp only;unfold X3;have hk:=Qp b n s p;generalize dY ty n s p=e at *;by_cases he:e=0
  ·have h3:=h2 he
   rw [aj he];rw [he,h3] at h1;have hm:bP (setB b n s p) r=GV.g ([.i .i64 b.kind]++fB (setB b n s p)++[.l r]):=by rw [<- hk];rfl
   rw [hm];generalize setB b n s p=B at *;unfold fB at h1 ⊢;refine aG rfl rfl ?_ rfl;simp [fM,hc];simp [h1]
  ·rw [ah he]
   unfold fB at h1;rw [<- hz];refine aG rfl rfl ?_ rfl;simp [fM,hc];simp [h1,he]
 ·rw [hp]
  simp only;unfold fB at h1;rw [<- hz];refine aG rfl rfl ?_ rfl;simp [fM,hc];simp [h1]
def P6 (b c:aU):Pl->Prop
 | .rem=>b.remaining=c.remaining
 | .allow=>b.allowed=c.allowed
 | .name=>b.name=c.name
 | .region=>b.region=c.region
 | .note=>b.note=c.note
 | .d=>b.d=c.d
 | .t=>b.t=c.t
 | .num k=>Ag b k=Ag c k
def xQ (b c:aU):Pl->Prop
 | .d=>True
 | .t=>True
 | p=>aS b p=aS c p
theorem asM {x y:Int} (h:zz x=zz y):x=y:=by
 unfold zz at h;split at h<;>split at h<;>omega
def MG (b c:aU) (rb rc:List GV) (f:Nat) (n:List UInt8) (p:Prop):Prop:=∀ (NL:List GV) (L K:Int) (i:Nat),(i:Int) < L->NL[i]? = some (.s n)->IntKind.i64.wrap ((i:Int)+1)=(i:Int)+1->TT.lim f ([.l NL,.i .i64 L,.i .i64 ((i:Int)+1)]++(bP c rc).cells++(bP b rb).cells)=some [.i .i64 K]->TT.lim f ([.l NL,.i .i64 L,.i .i64 i]++(bP c rc).cells++(bP b rb).cells)=some [.i .i64 (if jI p=true then K else 0)]
theorem amx:fH=[KE,G9,He,Hf,Hg,Hl,Ad,Ho,Hq,Hr,Ht,Hu,Hw,Hy,Ep,Es,Hz,Et,KF,HY,Ae,H6]:=rfl
theorem apn (b c:aU) (rb rc:List GV) {n:List UInt8} {p:Pl} (c1:¬ n=Ad) (c2:¬ n=Ae) (hb:Jh b rb n p) (hc:Jh c rc n p):MG b c rb rc 216 n (aS b p=aS c p):=by
 intro NL L K i h hat hw ih;unfold Jh at hb hc;rw [jT,jT] at ih ⊢;simp only [gu,dK] at ih ⊢;unfold Ad at c1;unfold Ae at c2;generalize aS b p=vb at *;generalize aS c p=vc at *;by_cases h1:vb.1=vc.1;rotate_left
 ·have e:jI (vb=vc)=false:=nM λh=>h1 (by rw [h])
  rw [e];refine aB rfl rfl ?_;simp [h,hat,c1,c2,fM,hb,hc,h1]
 by_cases h2:vb.2=vc.2
 ·have e:jI (vb=vc)=true:=vX (Prod.ext h1 h2)
  rw [e];refine aB rfl rfl ?_;simp [h,hat,c1,c2,fM,hb,hc,h1,h2,hw,ih]
 ·have e:jI (vb=vc)=false:=nM λh=>h2 (by rw [h])
  rw [e];refine aB rfl rfl ?_;simp [h,hat,c1,c2,fM,hb,hc,h1,h2]
theorem ad1 (b c:aU) (rb rc:List GV) {n:List UInt8} (hn:n=Ad\/n=Ae):MG b c rb rc 216 n True:=by
 intro NL L K i h hat hw ih;rw [jT,jT] at ih ⊢;simp only [gu,dK] at ih ⊢;have e:jI True=true:=vX trivial;rw [e];rcases hn with rfl | rfl
 ·unfold Ad at hat
  refine aB rfl rfl ?_;simp [h,hat,hw,ih]
 ·unfold Ae at hat
  refine aB rfl rfl ?_;simp [h,hat,hw,ih]
theorem aph (b c:aU) (rb rc:List GV) (hb:kG b) (hc:kG c):∀n∈fH,∃p,placeOf n=some p/\MG b c rb rc 216 n (xQ b c p):=by
 intro n hn;obtain ⟨p,hp⟩:=Me.1 (VB n hn);refine ⟨p,hp, ?_⟩;by_cases hd:p=.d
 ·subst hd
  exact ad1 b c rb rc (.inl (wB n _ hp).1)
 by_cases ht:p=.t
 ·subst ht
  exact ad1 b c rb rc (.inr (wB n _ hp).1)
 have h:=apn b c rb rc (λe=>hd (by subst e;exact (wU hp).symm)) (λe=>ht (by subst e;exact (wU hp).symm)) (Qo b rb hb (λe=>absurd e hd) (λe=>absurd e ht) hp) (Qo c rc hc (λe=>absurd e hd) (λe=>absurd e ht) hp);cases p with
 | d=>exact absurd rfl hd
 | t=>exact absurd rfl ht
 | _=>exact h
theorem ad9 (b c:aU) (rb rc:List GV) (f:Nat) (Q:Pl->Prop) (hend:∀ (NL:List GV) (L:Int) (i:Nat),¬ (i:Int) < L->TT.lim f ([.l NL,.i .i64 L,.i .i64 i]++(bP c rc).cells++(bP b rb).cells)=some [.i .i64 1]) (hs:∀n∈fH,∃p,placeOf n=some p/\MG b c rb rc f n (Q p)):∀m i:Nat,i+m=fH.length->
 TT.lim f ([.l (fH.map .s),.i .i64 fH.length,.i .i64 i]++(bP c rc).cells++(bP b rb).cells)=some [.i .i64 (if jI (∀n∈fH.drop i,∀p,placeOf n=some p->Q p)=true then 1 else 0)]
 | 0,i,hi=>by
   have e:jI (∀n∈fH.drop i,∀p,placeOf n=some p->Q p)=true:=vX (by rw [dN (by omega)];simp);rw [e];exact hend _ _ i (by omega)
 | m+1,i,hi=>by
   have hlt:i < fH.length:=by omega
   have auq:fH.length=22:=rfl;have hw:=wrap64 (n:=(i:Int)+1) (by omega) (by omega);have ih:=ad9 b c rb rc f Q hend hs m (i+1) (by omega);obtain ⟨p,hp,hst⟩:=hs _ (fP hlt);have hat:(fH.map GV.s)[i]? = some (.s fH[i]):=by rw [iF,bV hlt];rfl
   have hcast:((i+1:Nat):Int)=(i:Int)+1:=by omega
   rw [hcast] at ih;have hx:=hst _ _ _ i (by omega) hat hw ih;rw [hx,dZ hlt];have hq:(∀n∈fH[i]::fH.drop (i+1),∀p,placeOf n=some p->Q p)↔(Q p/\∀n∈fH.drop (i+1),∀p,placeOf n=some p->Q p):=by
    simp only [dO,forall_eq_or_imp];constructor
    ·exact λh=>⟨h.1 p hp,h.2⟩
    ·intro h
     refine ⟨λq hq=>?_,h.2⟩;rw [hp] at hq;injection hq with hq
     rw [<- hq];exact h.1
   rw [Ed hq];by_cases h1:Q p
   ·rw [vX h1,aj rfl]
    have:jI (Q p/\∀n∈fH.drop (i+1),∀p,placeOf n=some p->Q p)=jI (∀n∈fH.drop (i+1),∀p,placeOf n=some p->Q p):=Ed ⟨λh=>h.2,λh=>⟨h1,h⟩⟩;rw [this]
   ·rw [nM h1,ah (by decide),nM λh=>h1 h.1,ah (by decide)]
theorem parts_all (b c:aU) (hk:b.kind=c.kind):(∀n∈fH,∀p,placeOf n=some p->P6 b c p)↔b=c:=by
 constructor
 ·intro h
  rw [amx] at h;have h0:∀ {n:List UInt8} {p:Pl},n∈[KE,G9,He,Hf,Hg,Hl,Ad,Ho,Hq,Hr,Ht,Hu,Hw,Hy,Ep,Es,Hz,Et,KF,HY,Ae,H6]->placeOf n=some p->P6 b c p:=λh1 h2=>h _ h1 _ h2;have aot:=h0 (by simp) anS;have aob:=h0 (by simp) anC;have aop:=h0 (by simp) ac6;have aos:=h0 (by simp) ac8;have aoq:=h0 (by simp) ac7;have aoh:=h0 (by simp) anI;have aov:=h0 (by simp) anU;have aol:=h0 (by simp) anM;have aoo:=h0 (by simp) anP;have aon:=h0 (by simp) anO;have aod:=h0 (by simp) anE;have aok:=h0 (by simp) anL;have aof:=h0 (by simp) anG;have aor:=h0 (by simp) anR;have aog:=h0 (by simp) anH;have aou:=h0 (by simp) anT;have aoj:=h0 (by simp) anK;have aoc:=h0 (by simp) anD;have aoi:=h0 (by simp) anJ;have aom:=h0 (by simp) anN;have aoe:=h0 (by simp) anF;have aow:=h0 (by simp) anV;clear h h0;cases b;cases c;simp only [P6,Ag] at *;subst hk;subst aot;subst aob;subst aop;subst aos;subst aoq;subst aoh;subst aov;subst aol;subst aoo;subst aon;subst aod;subst aok;subst aof;subst aor;subst aog;subst aou;subst aoj;subst aoc;subst aoi;subst aom;subst aoe;subst aow;rfl
 ·rintro rfl n _ p _
  cases p<;>simp [P6]
theorem apb (b c:aU) (hk:b.kind=c.kind) (hd:b.d=c.d) (ht:b.t=c.t):(∀n∈fH,∀p,placeOf n=some p->xQ b c p)↔b=c:=by
 rw [<- parts_all b c hk];constructor
 ·intro h n hn p hp
  have:=h n hn p hp;cases p with
  | rem=>simp only [xQ,aS,jm,and_true] at this;exact asM this
  | allow=>
    simp only [xQ,aS,jm,and_true] at this;show b.allowed=c.allowed
    cases h1:b.allowed<;>cases h2:c.allowed<;>simp [h1,h2] at this ⊢
  | name=>simp only [xQ,aS,jm,true_and] at this;exact this
  | region=>simp only [xQ,aS,jm,true_and] at this;exact this
  | note=>simp only [xQ,aS,jm,true_and] at this;exact this
  | d=>exact hd
  | t=>exact ht
  | num k=>simp only [xQ,aS,jm,and_true] at this;exact this
 ·intro h n hn p hp
  have:=(parts_all b c hk).1 h;subst this;cases p<;>simp [xQ]
theorem adX (b c:aU) (rb rc:List GV) (hd:b.d.length<=1000) (hl:b.d.length=c.d.length):∀m i:Nat,i+m=b.d.length->
 TT.lim 222 ([.i .i64 b.d.length,.i .i64 i]++(bP c rc).cells++(bP b rb).cells)=some [.i .i64 (if jI (b.d.drop i=c.d.drop i)=true then 1 else 0)]
 | 0,i,hi=>by
   have h:¬ ((i:Int) < b.d.length):=by omega
   have e:jI (b.d.drop i=c.d.drop i)=true:=vX (by rw [dN (by omega),dN (by omega)]);rw [e];refine aB rfl rfl ?_;simp [h]
 | m+1,i,hi=>by
   have hlt:i < b.d.length:=by omega
   have hlt':i < c.d.length:=by omega
   have h:((i:Int) < b.d.length):=by omega
   have hw:=wrap64 (n:=(i:Int)+1) (by omega) (by omega);have ih:TT.lim 222 ([.i .i64 b.d.length,.i .i64 ((i:Int)+1)]++(bP c rc).cells++(bP b rb).cells)=_:=adX b c rb rc hd hl m (i+1) (by omega);have ke:=TK b.d[i] c.d[i];have hda:(b.d.drop i=c.d.drop i)↔(b.d[i]=c.d[i]/\b.d.drop (i+1)=c.d.drop (i+1)):=by
    rw [dZ hlt,dZ hlt',Dh]
   rw [Ed hda];clear hda;rw [jT,jT] at ih ⊢;simp only [gu,dK] at ih ⊢;by_cases c1:b.d[i]=c.d[i]
   ·have e:jI (b.d[i]=c.d[i]/\b.d.drop (i+1)=c.d.drop (i+1))=jI (b.d.drop (i+1)=c.d.drop (i+1)):=Ed ⟨λh=>h.2,λh=>⟨c1,h⟩⟩
    rw [e];rw [zN c1] at ke;generalize jI (b.d.drop (i+1)=c.d.drop (i+1))=u at *;refine aB rfl rfl ?_;simp [h,hlt,hlt',ke,hw,ih]
   ·rw [nM λh=>c1 h.1]
    rw [zM c1] at ke;refine aB rfl rfl ?_;simp [h,hlt,hlt',ke,hw]
theorem adY (b c:aU) (fb fc:List aF) (hb:kG b) (hc:kG c) (hbd:b.d.length<=40) (hbt:rX b.t) (hb8:dw fb) (hc8:dw fc) (hbl:fb.length<=1000000) (hcl:fc.length<=1000000):TT.lim 215 [bP b (au fb),bP c (au fc)]=some [.b (jI (b=c/\fb=fc))]:=by
 have h8:=adW (bQ fb+1) fb fc (by omega) hb8 hc8 hbl hcl;have hn:=adR;have ht:=aqP b.t c.t (by have:=hbt.len;omega) hbt.few;have h0:=ad9 b c (au fb) (au fc) 216 (xQ b c) (λNL L i h=>by
  rw [jT,jT];simp only [gu,dK];refine aB rfl rfl ?_;simp [h]) (aph b c (au fb) (au fc) hb hc) fH.length 0 (by omega)
 have h1:=λhl=>adX b c (au fb) (au fc) (by omega) hl b.d.length 0 (by omega);have hal:((fH.map GV.s).length:Int)=(fH.length:Int):=by rw [vH]
 rw [bY] at h0;simp only [bY] at h1;rw [jT,jT] at h0;simp only [jT,gu,dK,lZ] at h0 h1;have hpa:=apb b c;generalize fH.map GV.s=NL at *;generalize (fH.length:Int)=L at *;by_cases ha:(∀n∈fH,∀p,placeOf n=some p->xQ b c p);rotate_left
 ·rw [nM ha] at h0
  simp only [fF,if_false] at h0;rw [nM λh=>ha (by rw [hpa (by rw [h.1]) (by rw [h.1]) (by rw [h.1])];exact h.1)];refine aG rfl rfl ?_ rfl;simp [hn,hal,h0]
 rw [vX ha] at h0;simp only [if_true] at h0;by_cases hk:b.kind=c.kind;rotate_left
 ·rw [nM λh=>hk (by rw [h.1])]
  refine aG rfl rfl ?_ rfl;simp [hn,hal,h0,hk]
 have hk':(b.kind=c.kind)=True:=eq_true hk;by_cases hl:b.d.length=c.d.length;rotate_left
 ·rw [nM λh=>hl (by rw [h.1])]
  have hl':¬ ((b.d.length:Int)=c.d.length):=by omega
  refine aG rfl rfl ?_ rfl;simp [hn,hal,h0,hk',hl,hl']
 have h1:=h1 hl;have hl':((b.d.length:Int)=c.d.length)=True:=eq_true (by omega);have hl'':(b.d.length=c.d.length)=True:=eq_true hl;by_cases htt:b.t=c.t;rotate_left
 ·rw [nM λh=>htt (by rw [h.1])]
  rw [zM htt] at ht;refine aG rfl rfl ?_ rfl;simp [hn,hal,h0,hk',hl',hl'',ht]
 rw [zN htt] at ht;by_cases vW:fb=fc;rotate_left
 ·rw [nM λh=>vW h.2]
  rw [nM vW] at h8;refine aG rfl rfl ?_ rfl;simp [hn,hal,h0,hk',hl',hl'',ht,h8]
 rw [vX vW] at h8;have e:jI (b=c/\fb=fc)=jI (b.d=c.d):=Ed ⟨λh=>by rw [h.1],λh=>⟨(hpa hk h htt).1 ha,vW⟩⟩;rw [e];clear hpa;by_cases hd:b.d=c.d
 ·rw [vX hd] at h1 ⊢
  simp only [if_true] at h1;refine aG rfl rfl ?_ rfl;simp [hn,hal,h0,hk',hl',hl'',ht,h8,h1]
 ·rw [nM hd] at h1 ⊢
  simp only [fF,if_false] at h1;refine aG rfl rfl ?_ rfl;simp [hn,hal,h0,hk',hl',hl'',ht,h8,h1]
end V
end Go.Proofs.YtaggjpipnjmleaaGreatDoor
