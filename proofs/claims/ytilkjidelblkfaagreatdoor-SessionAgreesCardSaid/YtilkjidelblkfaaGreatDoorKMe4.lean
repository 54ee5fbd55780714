/- What the trees compute: plain laws. -/
import Derived.Test.YtilkjidelblkfaaGreatDoorKMe3
namespace Go.Proofs.YtilkjidelblkfaaGreatDoor
open Go Go.aJ
set_option linter.unusedSimpArgs false
set_option linter.unusedVariables false
set_option maxRecDepth 100000
namespace M
noncomputable def cO (p:Prop):Bool:=@decide p (Classical.propDecidable p)
theorem jW {p:Prop} (h:p):cO p=true:=@Ic p (Classical.propDecidable p) h
theorem jF {p:Prop} (h:¬ p):cO p=false:=@Ib p (Classical.propDecidable p) h
theorem IW {p q:Prop} (h:p↔q):cO p=cO q:=by rw [propext h]
def oP (t y n:Int) (s:List UInt8) (k:List aH):GV:=.g [.i .u64 t,.i .i64 y,.i .u64 n,.s s,.l (aC k)]
@[simp] theorem auB (t y n:Int) (s:List UInt8) (k:List aH):(oP t y n s k).cells=[.i .u64 t,.i .i64 y,.i .u64 n,.s s,.l (aC k)]:=rfl
theorem Dn {l:List aH} {i:Nat} (h:i < l.length):∃t y n s k,l[i]? = some (.mk t y n s k)/\(aC l)[i]? = some (oP t y n s k)/\l.drop i=.mk t y n s k::l.drop (i+1)/\aH.mk t y n s k∈l:=by
 have hget:(aC l)[i]? = some (ng l[i]):=by rw [zf,iF,bM h];rfl
 have hd:=iC h;have hm:=gU h;have hg:=bM h;cases hf:l[i] with
 | mk t y n s k=>
   rw [hf] at hget hd hm hg;exact ⟨t,y,n,s,k,hg,by rw [hget];simp only [ng];rfl,hd,hm⟩
/-- What is still to be compared behind two lists' fields. -/
def qN:List aH->List aH->Option (List (List aH×List aH))
 | .mk t y n s k::a,.mk t' y' n' s' k'::b=>if t=t'/\y=y'/\n=n'/\s=s' then (qN a b).map λr=>(if k.length=0/\k'.length=0 then [] else [(k,k')])++r else none
 | _,_=>some []
def jD (q:List aH×List aH):GV:=.g [.l (aC q.1),.l (aC q.2)]
@[simp] theorem avS (q:List aH×List aH):(jD q).cells=[.l (aC q.1),.l (aC q.2)]:=rfl
def qL:List (List aH×List aH)->Nat
 | []=>0
 | q::l=>bU q.1+1+qL l
theorem QO:∀ (a b:List (List aH×List aH)),qL (a++b)=qL a+qL b
 | [],b=>by simp [qL]
 | q::a,b=>by simp only [bJ,qL,QO a b];omega
theorem adL:∀ (a:List (List aH×List aH)),a.length<=qL a
 | []=>by simp [qL]
 | q::a=>by have:=adL a;simp only [jK,qL];omega
def okP (q:List aH×List aH):Prop:=dJ q.1/\dJ q.2/\q.1.length<=1000000/\q.2.length<=1000000
theorem aeK:∀ (a b:List aH),a.length=b.length->dJ a->dJ b->(match qN a b with
 | none=>a≠b
 | some ps=>((∀q∈ps,q.1=q.2)↔a=b)/\qL ps<=bU a/\∀q∈ps,okP q)
 | [],[],_,_,_=>by simp [qN,qL]
 | [],_::_,e,_,_=>by simp at e
 | _::_,[],e,_,_=>by simp at e
 | .mk t y n s k::a,.mk t' y' n' s' k'::b,e,ha,hb=>by
   simp only [dJ,rJ] at ha hb;have ih:=aeK a b (by simpa using e) ha.2 hb.2;unfold qN;by_cases hc:t=t'/\y=y'/\n=n'/\s=s'
   ·rw [aj hc]
    obtain ⟨rfl,rfl,rfl,rfl⟩:=hc;cases hp:qN a b with
    | none=>
      rw [hp] at ih;simp only [ZK];intro h;injection h with h1 h2
      exact ih h2
    | some ps=>
      rw [hp] at ih;obtain ⟨i1,i2,i3⟩:=ih;simp only [fK];by_cases hk:k.length=0/\k'.length=0
      ·rw [aj hk]
       have e1:=jh hk.1;have e2:=jh hk.2;subst e1;subst e2;refine ⟨by simpa using i1,by simp only [bn,bU,su];omega,by simpa using i3⟩
      ·rw [ah hk]
       refine ⟨?_,by simp only [bJ,bn,qL,bU,su];omega,λq hq=>?_⟩
       ·simp only [bJ,bn,bC,forall_eq_or_imp,i1]
        constructor
        ·rintro ⟨h1,h2⟩;rw [h1,h2]
        ·intro h
         injection h with h1 h2
         injection h1 with _ _ _ _ h5
         exact ⟨h5,h2⟩
       ·simp only [bJ,bn,bC] at hq
        rcases hq with rfl | hq
        ·exact ⟨ha.1.2,hb.1.2,ha.1.1.2.2.2.2.2.2.2,hb.1.1.2.2.2.2.2.2.2⟩
        ·exact i3 q hq
   ·rw [ah hc]
    intro h;injection h with h1 h2
    injection h1 with k1 k2 k3 k4 _
    exact hc ⟨k1,k2,k3,k4⟩
theorem Ve (a b:List aH) (hl:a.length=b.length) (hla:a.length<=1000000) (ha:dJ a) (hb:dJ b):∀ (m i:Nat) (acc:List (List aH×List aH)),i+m=a.length->acc.length+m<=4000000->
 TT.lim 169 [.l (acc.map jD),.i .i64 a.length,.i .i64 i,.l (aC a),.l (aC b)]=some (match qN (a.drop i) (b.drop i) with | none=>[.i .i64 0] | some ps=>[.i .i64 1,.l ((acc++ps).map jD)])
 | 0,i,acc,hi,hacc=>by
   have e1:a.drop i=[]:=fJ (by omega);have e2:b.drop i=[]:=fJ (by omega);have h:¬ ((i:Int) < a.length):=by omega
   rw [e1,e2];simp only [qN,pI];generalize acc.map jD=A at *;refine aB rfl rfl ?_;simp -implicitDefEqProofs [h]
 | m+1,i,acc,hi,hacc=>by
   obtain ⟨t,y,n,s,k,g1,g2,g3,g4⟩:=Dn (l:=a) (i:=i) (by omega);obtain ⟨t',y',n',s',k',g1',g2',g3',g4'⟩:=Dn (l:=b) (i:=i) (by omega);have hwr:=wrap64 (n:=(i:Int)+1) (by omega) (by omega);have h:((i:Int) < a.length):=by omega
   have hcast:((i+1:Nat):Int)=(i:Int)+1:=by omega
   have hz1:=l9 k;have hz2:=l9 k';rw [g3,g3'];unfold qN;by_cases c1:t=t';rotate_left
   ·rw [ah λh=>c1 h.1]
    refine aB rfl rfl ?_;simp -implicitDefEqProofs [h,g2,g2',c1]
   by_cases c2:y=y';rotate_left
   ·rw [ah λh=>c2 h.2.1]
    refine aB rfl rfl ?_;simp -implicitDefEqProofs [h,g2,g2',c1,c2]
   by_cases c3:n=n';rotate_left
   ·rw [ah λh=>c3 h.2.2.1]
    refine aB rfl rfl ?_;simp -implicitDefEqProofs [h,g2,g2',c1,c2,c3]
   by_cases c4:s=s';rotate_left
   ·rw [ah λh=>c4 h.2.2.2]
    refine aB rfl rfl ?_;simp -implicitDefEqProofs [h,g2,g2',c1,c2,c3,c4]
   rw [aj ⟨c1,c2,c3,c4⟩];by_cases hk:k.length=0/\k'.length=0
   ·rw [aj hk]
    have ih':=Ve a b hl hla ha hb m (i+1) acc (by omega) (by omega);rw [hcast] at ih';have z1:=jh hk.1;have z2:=jh hk.2;have hR:(match Option.map (λr=>[]++r) (qN (a.drop (i+1)) (b.drop (i+1))) with | none=>[GV.i .i64 0] | some ps=>[GV.i .i64 1,GV.l ((acc++ps).map jD)])=(match qN (a.drop (i+1)) (b.drop (i+1)) with | none=>[GV.i .i64 0] | some ps=>[GV.i .i64 1,GV.l ((acc++ps).map jD)]):=by
     cases qN (a.drop (i+1)) (b.drop (i+1))<;>simp
    rw [hR];generalize (match qN (a.drop (i+1)) (b.drop (i+1)) with | none=>[GV.i .i64 0] | some ps=>[GV.i .i64 1,GV.l ((acc++ps).map jD)])=R at *;generalize acc.map jD=A at *;refine aB rfl rfl ?_;simp -implicitDefEqProofs [h,g2,g2',c1,c2,c3,c4,z1,z2,aC,hwr,ih']
   ·rw [ah hk]
    have ih':=Ve a b hl hla ha hb m (i+1) (acc++[(k,k')]) (by omega) (by simp;omega);rw [hcast] at ih';have hR:(match Option.map (λr=>[(k,k')]++r) (qN (a.drop (i+1)) (b.drop (i+1))) with | none=>[GV.i .i64 0] | some ps=>[GV.i .i64 1,GV.l ((acc++ps).map jD)])=(match qN (a.drop (i+1)) (b.drop (i+1)) with | none=>[GV.i .i64 0] | some ps=>[GV.i .i64 1,GV.l ((acc++[(k,k')]++ps).map jD)]):=by
     cases qN (a.drop (i+1)) (b.drop (i+1))<;>simp
    rw [hR];generalize (match qN (a.drop (i+1)) (b.drop (i+1)) with | none=>[GV.i .i64 0] | some ps=>[GV.i .i64 1,GV.l ((acc++[(k,k')]++ps).map jD)])=R at *;have hmap:(acc++[(k,k')]).map jD=acc.map jD++[.g [.l (aC k),.l (aC k')]]:=by simp [jD]
    rw [hmap] at ih';have hb1:2 * ((acc.map jD).length+1) * 48<=281474976710656/\(acc.map jD).length+1<=281474976710656:=by rw [kR];omega
    generalize acc.map jD=A at *;have hb2:A.length<=281474976710655:=by omega
    by_cases z0:k.length=0;rotate_left
    ·have z1:0 < k.length:=by omega
     have z3:k≠[]:=λe=>by rw [e] at z0;exact z0 rfl
     have hel:GV.fA 2 (.g [.l (aC k),.l (aC k')])=true:=rfl;refine aB rfl rfl ?_;simp -implicitDefEqProofs [h,g2,g2',c1,c2,c3,c4,hz1,hz2,z1,z3,hwr,ih',hel,hb1,hb2]
    ·have z1:=jh z0
     have z2:0 < k'.length:=by omega
     have z3:k'≠[]:=λe=>by rw [e] at z2;exact absurd z2 (by simp)
     subst z1;have hel:GV.fA 2 (.g [.l [],.l (aC k')])=true:=rfl;simp only [aC,oP] at ih' g2 hz1;refine aB rfl rfl ?_;simp -implicitDefEqProofs [h,g2,g2',c1,c2,c3,c4,hz2,z2,z3,hwr,ih',hel,hb1,hb2]
theorem abX:∀ (N:Nat) (work:List (List aH×List aH)),qL work < N->qL work<=2000000->(∀q∈work,okP q)->TT.lim 168 [.l (work.map jD)]=some [.i .i64 (if cO (∀q∈work,q.1=q.2)=true then 1 else 0)]
 | 0,work,hN,_,_=>by omega
 | N+1,work,hN,hM,hok=>by
   rcases ags work with rfl | ⟨ws,q,rfl⟩
   ·have ht:cO (∀q∈([]:List (List aH×List aH)),q.1=q.2)=true:=jW (by simp)
    rw [ht];refine aB rfl rfl ?_;simp
   ·rw [agr] at *
    obtain ⟨a,b⟩:=q;have hq:=hok (a,b) (by simp);obtain ⟨q1,q2,q3,q4⟩:=hq;simp only at q1 q2 q3 q4;have hlen:=adL ws;rw [QO] at hN hM;simp only [qL] at hN hM;have hl1:=l9 a;have hl2:=l9 b;have hmap:(ws++[(a,b)]).map jD=ws.map jD++[jD (a,b)]:=by simp
    have hwl:(ws.map jD).length=ws.length:=kR ..;have hall:∀x∈ws.map jD,x.cells.length=2:=by
     intro x hx;obtain ⟨r,_,rfl⟩:=nO.1 hx;rfl
    have key:=Ve a b;have i0:(0:Int) < (ws.length:Int)+1:=by omega
    have i1:(ws.length:Int)+1 - 1=ws.length:=by omega
    have i2:(ws.length:Int) < (ws.length:Int)+1:=by omega
    have i3:(ws.length:Int)<=(ws.length:Int)+1:=by omega
    have hwr:=wrap64 (n:=(ws.length:Int)) (by omega) (by omega);rw [hmap];by_cases hl:a.length=b.length;rotate_left
    ·have hne:cO (∀q∈ws++[(a,b)],q.1=q.2)=false:=jF λh=>hl (rE List.length (h (a,b) (by simp)))
     have hc:¬ ((a.length:Int)=(b.length:Int)):=by omega
     rw [hne];generalize ws.map jD=A at *;have Lh:=eq_true hall;clear hall;refine aB rfl rfl ?_;simp -implicitDefEqProofs [hwl,i0,i1,i2,i3,hwr,jD,hl1,hl2,hc,Lh]
    ·have hpo:=aeK a b hl q1 q2
     have key:=key hl q3 q1 q2 a.length 0 ws (by omega) (by omega);rw [dO,dO,show ((0:Nat):Int)=0 from rfl] at key;have hc:b.length=a.length:=by omega
     cases hp:qN a b with
     | none=>
       rw [hp] at hpo key;have hne:cO (∀q∈ws++[(a,b)],q.1=q.2)=false:=jF λh=>hpo (h (a,b) (by simp));rw [hne];simp only at key;generalize ws.map jD=A at *;have hA:A.length < 281474976710656:=by omega
       have Lh:=eq_true hall;clear hall;refine aB rfl rfl ?_;simp -implicitDefEqProofs [hwl,i0,i1,i2,i3,hwr,jD,hl1,hl2,hc,key,Lh]
     | some ps=>
       rw [hp] at hpo key;obtain ⟨p1,p2,p3⟩:=hpo;have ih:=abX N (ws++ps) (by rw [QO];omega) (by rw [QO];omega) (λq hq=>by
        rcases jO.1 hq with hq | hq
        ·exact hok q (by simp [hq])
        ·exact p3 q hq)
       have hcg:cO (∀q∈ws++[(a,b)],q.1=q.2)=cO (∀q∈ws++ps,q.1=q.2):=IW (by
        simp only [jO,or_imp,forall_and,p1,mW,forall_eq])
       rw [hcg];generalize cO (∀q∈ws++ps,q.1=q.2)=R at *;simp only at key;generalize (ws++ps).map jD=B at *;generalize ws.map jD=A at *;have Lh:=eq_true hall;clear hall;refine aB rfl rfl ?_;simp -implicitDefEqProofs [hwl,i0,i1,i2,i3,hwr,jD,hl1,hl2,hc,key,Lh,ih]
theorem akN (a b:List aH) (ha:dJ a) (hb:dJ b) (hla:a.length<=1000000) (hlb:b.length<=1000000) (hs:bU a<=1000000):TT.lim 167 [.l (aC a),.l (aC b)]=some [.b (cO (a=b))]:=by
 have h:=abX (bU a+2) [(a,b)] (by simp [qL]) (by simp [qL];omega) (by intro q hq;simp at hq;subst hq;exact ⟨ha,hb,hla,hlb⟩);have hcg:cO (∀q∈[(a,b)],q.1=q.2)=cO (a=b):=IW (by simp);rw [hcg] at h;have hm:[(a,b)].map jD=[.g [.l (aC a),.l (aC b)]]:=rfl;rw [hm] at h;refine aQ rfl rfl ?_ rfl;generalize cO (a=b)=r at *;cases r with
 | true=>simp at h;simp [h]
 | false=>simp at h;simp [h]
mutual
def toFt:aH->Ft
 | .mk t y n s k=>.mk [.int .u64 t,.int .i64 y,.int .u64 n,.string ⟨⟨s⟩⟩] (Gl k)
def Gl:List aH->List Ft
 | []=>[]
 | f::l=>toFt f::Gl l
end
mutual
theorem asz:∀f:aH,AX (toFt f) (ng f)/\cntF (toFt f)<=su f
 | .mk t y n s k=>by
   have h:=YJ k;simp only [toFt,AX,ng,cntF,su];exact ⟨⟨_,_,_,_,_,rfl,rfl,h.1⟩,by omega⟩
theorem YJ:∀l:List aH,oh (Gl l) (aC l)/\lZ (Gl l)<=bU l
 | []=>by simp only [Gl,oh,aC,lZ,bU];exact ⟨trivial,dH _⟩
 | f::l=>by
   have h1:=asz f;have h2:=YJ l;simp only [Gl,oh,aC,lZ,bU];exact ⟨⟨_,_,rfl,h1.1,h2.1⟩,by omega⟩
end
theorem Py (l:List aH) (hs:bU l<=1000000):TT.lim 106 [.l (aC l)]=some [.l (aC l)]:=by
 refine FX (Ds:=Ds) (k:=106) (f:=Ij) rfl ?_;have h:=YJ l;unfold Ij;exact aj ⟨Gl l,h.1,by omega⟩
theorem adB (b:aS) (fl:List aH) (t:List Row) (ht:t.length<=1000) (hd:∀r∈t,r.1.length<=40):∀ (m i:Nat),i+m=t.length->
 TT.lim 137 [.l ((t.take i).map row),.l (t.map row),.i .i64 t.length,.i .i64 i,.i .i64 b.kind,.i .u64 b.id,.i .u64 b.min,.i .u64 b.max,.i .u64 b.chosen,.i .u64 b.flags,.i .u64 b.cost,.i .u64 b.priority,.i .u64 b.deadline,.i .u64 b.retry,.i .u64 b.epoch,.i .u64 b.base,.i .u64 b.digest,.i .u64 b.lag,.i .u64 b.code,.i .u64 b.want,.i .i64 b.remaining,.b b.allowed,.s b.name,.s b.region,.s b.note,.l (b.d.map ent),.l (aC fl)]=some [.i .i64 0,.l (t.map row)]
 | 0,i,hi=>by
   have h0:t.take i=t:=lu (by omega);have h:¬ ((i:Int) < t.length):=by omega
   rw [h0];refine aB rfl rfl ?_;simp -implicitDefEqProofs [h]
 | m+1,i,hi=>by
   have hlt:i < t.length:=by omega
   have ih:=adB b fl t ht hd m (i+1) (by omega);have h:((i:Int) < t.length):=by omega
   have hcast:((i+1:Nat):Int)=(i:Int)+1:=by omega
   have hwr:=wrap64 (n:=(i:Int)+1) (by omega) (by omega);have hg:(t.map row)[i]? = some (row t[i]):=by rw [iF,bM hlt];rfl
   have hc:=CY t[i].1 (hd _ (gU hlt));have hfold:GV.g [.l (t[i].1.map ent),.i .u64 t[i].2]=row t[i]:=rfl;have htk:(t.take (i+1)).map row=(t.take i).map row++[row t[i]]:=by rw [TK,bM hlt,mQ];rfl
   rw [htk,hcast] at ih;have hel:(row t[i]).fA 2=true:=rfl;have hb1:2 * (((t.take i).map row).length+1) * 32<=281474976710656:=by simp;omega
   have hb2:((t.take i).map row).length<=281474976710655:=by simp;omega
   generalize (t.take i).map row=A at *;generalize t.map row=L at *;refine aB rfl rfl ?_;simp -implicitDefEqProofs [h,hg,hc,hfold,hel,hb1,hb2,hwr,ih]
theorem ana (b:aS) (fl:List aH) (hd:b.d.length<=40) (ht:fF b.t) (hs:bU fl<=1000000):TT.lim 136 [gI b (aC fl)]=some [gI b (aC fl)]:=by
 have alS:∀r∈b.t,r.1.length<=40:=λr hr=>by
  have:=ht.few r hr;unfold iq at this;rw [aI,decide_eq_true_iff] at this;exact this.2
 have h1:=adB b fl b.t (by have:=ht.len;omega) alS b.t.length 0 (by omega);have hl:=ht.len;rw [TL,show ((0:Nat):Int)=0 from rfl] at h1;have h2:=CY b.d hd;have h3:=Py fl hs;have hml:((b.t.map row).length:Int)=b.t.length:=by simp
 have hz1:(32:Int) * b.t.length<=281474976710656:=by omega
 have hz2:(b.t.length:Int)<=1152921504606846976:=by omega
 have hz3:b.t.length<=8796093022208:=by omega
 simp only [lW] at h1;generalize hL:b.t.map row=L at *;refine aQ rfl rfl ?_ rfl;unfold gI;rw [hL];simp -implicitDefEqProofs [hml,h1,h2,h3,GV.fA,hz1,hz2];try omega
def Gx (n:Int):Int:=if n % 2=0 then n / 2 else -(n / 2) - 1
theorem atz (n:Int) (h0:0<=n) (h1:n < 18446744073709551616):fO .and .u64 n 1=some (.i .u64 (n % 2))/\fO .xor .i64 (IntKind.i64.wrap (n / 2)) (IntKind.i64.wrap (0 - IntKind.i64.wrap (n % 2)))=some (.i .i64 (Gx n))/\n.fdiv 2=n / 2:=by
 have wu:∀y:Int,IntKind.u64.wrap y=y % 18446744073709551616:=λy=>by simp [IntKind.wrap,IntKind.signed,IntKind.bits]
 have hu:IntKind.u64.bits=64:=rfl;have hi:IntKind.i64.bits=64:=rfl;refine ⟨?_, ?_,NH _ (by decide)⟩
 ·simp only [fO,wu,hu]
  have e:(BitVec.ofInt 64 n &&& BitVec.ofInt 64 1).toNat=(BitVec.ofInt 64 n).toNat % 2:=by
   rw [Y9];exact Nat.and_one_is_mod _
  show some (GV.i IntKind.u64 (((BitVec.ofInt 64 n &&& BitVec.ofInt 64 1).toNat:Int) % 18446744073709551616))=_
  rw [e,xC];congr 2;omega
 ·rw [wrap64 (by omega) (by omega),wrap64 (n:=n % 2) (by omega) (by omega),wrap64 (by omega) (by omega)]
  simp only [fO,hi];unfold Gx;by_cases h:n % 2=0
  ·rw [aj h,h]
   have e:BitVec.ofInt 64 (0 - 0)=0#64:=rfl;show some (GV.i IntKind.i64 (IntKind.i64.wrap ((BitVec.ofInt 64 (n / 2) ^^^ BitVec.ofInt 64 (0 - 0)).toNat:Int)))=_
   rw [e,BitVec.xor_zero,xC];congr 2;rw [wrap64 (by omega) (by omega)];omega
  ·rw [ah h,show n % 2=1 by omega]
   have e:BitVec.ofInt 64 (0 - 1)=BitVec.allOnes 64:=by decide
   show some (GV.i IntKind.i64 (IntKind.i64.wrap ((BitVec.ofInt 64 (n / 2) ^^^ BitVec.ofInt 64 (0 - 1)).toNat:Int)))=_
   rw [e,BitVec.xor_allOnes,BitVec.toNat_not,xC];congr 2;have wi:∀y:Int,IntKind.i64.wrap y=if y % 18446744073709551616>=9223372036854775808 then y % 18446744073709551616 - 18446744073709551616 else y % 18446744073709551616:=λy=>by
    simp -implicitDefEqProofs [IntKind.wrap,IntKind.signed,IntKind.bits]
   rw [wi];split<;>omega
def setB (b:aS) (n:Int) (s:List UInt8):Pl->aS
 | .rem=>{ b with remaining:=Gx n }
 | .allow=>{ b with allowed:=true }
 | .name=>{ b with name:=s }
 | .region=>{ b with region:=s }
 | .note=>{ b with note:=s }
 | .d=>{ b with d:=(qF s).1 }
 | .t=>{ b with t:=(qR s).1 }
 | .num k=>match k with
   | 0=>{ b with id:=n }
   | 1=>{ b with min:=n }
   | 2=>{ b with max:=n }
   | 3=>{ b with chosen:=n }
   | 4=>{ b with flags:=n }
   | 5=>{ b with cost:=n }
   | 6=>{ b with priority:=n }
   | 7=>{ b with deadline:=n }
   | 8=>{ b with retry:=n }
   | 9=>{ b with epoch:=n }
   | 10=>{ b with base:=n }
   | 11=>{ b with digest:=n }
   | 12=>{ b with lag:=n }
   | 13=>{ b with code:=n }
   | _=>{ b with want:=n }
def BH (n:Int) (s:List UInt8):Pl->Int
 | .allow=>if n=1 then 0 else 18
 | .name=>nM s 0 256
 | .region=>nM s 0 256
 | .note=>nM s 0 256
 | .d=>(qF s).2
 | .t=>if (qR s).2=0 then (if (qR s).1.length=0 then 17 else 0) else (qR s).2
 | _=>0
def pq (ty n:Int) (s:List UInt8) (p:Pl):Int:=if ty=eF p then (if ty=0 then (if n=0 then 17 else BH n s p) else (if s=[] then 17 else BH n s p)) else 8
theorem amA (u:Int):TT.lim 139 [.i .i64 u]=some [.i .i64 (if u=0 then 0 else if u=1 then 0 else if u=2 then 0 else if u=3 then 1 else if u=4 then 1 else if u=5 then 1 else -1)]:=by
 refine aQ rfl rfl ?_ rfl;by_cases h0:u=0
 ·simp -implicitDefEqProofs [h0]
 by_cases h1:u=1
 ·simp -implicitDefEqProofs [h1]
 by_cases h2:u=2
 ·simp -implicitDefEqProofs [h2]
 by_cases h3:u=3
 ·simp -implicitDefEqProofs [h3]
 by_cases h4:u=4
 ·simp -implicitDefEqProofs [h4]
 by_cases h5:u=5
 ·simp -implicitDefEqProofs [h5]
 simp -implicitDefEqProofs [h0,h1,h2,h3,h4,h5]
/-- A message's cells, but for the first and the last one. -/
def oU (b:aS):List GV:=[.i .u64 b.id,.i .u64 b.min,.i .u64 b.max,.i .u64 b.chosen,.i .u64 b.flags,.i .u64 b.cost,.i .u64 b.priority,.i .u64 b.deadline,.i .u64 b.retry,.i .u64 b.epoch,.i .u64 b.base,.i .u64 b.digest,.i .u64 b.lag,.i .u64 b.code,.i .u64 b.want,.i .i64 b.remaining,.b b.allowed,.s b.name,.s b.region,.s b.note,.l (b.d.map ent),.l (b.t.map row)]
/-- What set does. -/
def TS (b:aS) (r:List GV) (tag ty n:Int) (s:List UInt8) (L:GV) (nm:List UInt8) (p:Pl):Prop:=∃b':aS,TT.lim 138 [.s nm,.i .u64 tag,.i .i64 ty,.i .u64 n,.s s,L,.i .i64 b.kind,.i .u64 b.id,.i .u64 b.min,.i .u64 b.max,.i .u64 b.chosen,.i .u64 b.flags,.i .u64 b.cost,.i .u64 b.priority,.i .u64 b.deadline,.i .u64 b.retry,.i .u64 b.epoch,.i .u64 b.base,.i .u64 b.digest,.i .u64 b.lag,.i .u64 b.code,.i .u64 b.want,.i .i64 b.remaining,.b b.allowed,.s b.name,.s b.region,.s b.note,.l (b.d.map ent),.l (b.t.map row),.l r]=some ([.i .i64 0,.i .i64 (pq ty n s p)]++oU b')/\(pq ty n s p=0->b'=setB b n s p)
set_option maxHeartbeats 8000000 in
theorem arC (b:aS) (r:List GV) (tag ty n:Int) (s:List UInt8) (L:GV) (hn:0<=n/\n < 18446744073709551616) (hs:s.length<=100000000) {nm:List UInt8} {p:Pl} (hp:placeOf nm=some p):TS b r tag ty n s L nm p:=by
 unfold TS;have hk:=amA;have hI:=Qj hp;have hok:=(Ji nm p hp).2.1;clear hp;by_cases h1:ty=eF p;rotate_left
 ·have e:pq ty n s p=8:=by unfold pq;rw [ah h1]
  refine ⟨b, ?_,λh=>by rw [e] at h;cases h⟩;rw [e];clear e;induction p,hok using Jg<;>(simp only [eF] at h1;refine aB rfl rfl ?_;simp [hI,oU,hk,h1])
 subst h1;by_cases h2:(eF p=0/\n=0)\/(eF p=1/\s=[])
 ·have e:pq (eF p) n s p=17:=by
   unfold pq;rw [aj rfl];rcases h2 with ⟨a,c⟩ | ⟨a,c⟩
   ·rw [aj a,aj c]
   ·rw [ah (by omega),aj c]
  refine ⟨b, ?_,λh=>by rw [e] at h;cases h⟩;rw [e];clear e;induction p,hok using Jg<;>(simp [eF] at h2;refine aB rfl rfl ?_;simp [hI,oU,hk,eF,h2])
 have e:pq (eF p) n s p=BH n s p:=by
  unfold pq;rw [aj rfl];by_cases a:eF p=0
  ·rw [aj a,ah λc=>h2 (.inl ⟨a,c⟩)]
  ·rw [ah a,ah λc=>h2 (.inr ⟨by cases p<;>simp [eF] at a ⊢,c⟩)]
 rw [e];clear e;induction p,hok using Jg
 case h0=>
  have h2:¬ n=0:=by simpa [eF] using h2
  obtain ⟨k1,k2,k3⟩:=atz n hn.1 hn.2;refine ⟨{ b with remaining:=Gx n }, ?_,λ_=>rfl⟩;show _=some ([GV.i .i64 0,GV.i .i64 0]++_)
  refine aB rfl rfl ?_;simp only [Int.zero_sub] at k2;simp -implicitDefEqProofs [hI,oU,hk,eF,h2,nJ,IntKind.bits,k1,k2,k3]
 case h1=>
  have h2:¬ n=0:=by simpa [eF] using h2
  by_cases h3:n=1
  ·have e2:BH n s .allow=0:=by unfold BH;rw [aj h3]
   rw [e2];refine ⟨{ b with allowed:=true }, ?_,λ_=>rfl⟩;refine aB rfl rfl ?_;simp -implicitDefEqProofs [hI,oU,hk,eF,h2,h3]
  ·have e2:BH n s .allow=18:=by unfold BH;rw [ah h3]
   rw [e2];refine ⟨b, ?_,λh=>by cases h⟩;refine aB rfl rfl ?_;simp -implicitDefEqProofs [hI,oU,hk,eF,h2,h3]
 case h5=>
  have h2:¬ s=[]:=by simpa [eF] using h2
  have hc:=abh s hs;refine ⟨{ b with d:=(qF s).1 }, ?_,λ_=>rfl⟩;show _=some ([GV.i .i64 0,GV.i .i64 (qF s).2]++_)
  refine aB rfl rfl ?_;simp -implicitDefEqProofs [hI,oU,hk,eF,h2,hc]
 case h6=>
  have h2:¬ s=[]:=by simpa [eF] using h2
  have hc:=asF s hs;refine ⟨{ b with t:=(qR s).1 }, ?_,λ_=>rfl⟩;unfold BH;by_cases h3:(qR s).2=0
  ·rw [aj h3]
   by_cases h4:(qR s).1.length=0
   ·have h5:=jh h4
    rw [aj h4];refine aB rfl rfl ?_;simp -implicitDefEqProofs [hI,oU,hk,eF,h2,hc,h3,h5]
   ·have h5:(qR s).1≠[]:=λe=>h4 (by rw [e];rfl)
    rw [ah h4];refine aB rfl rfl ?_;simp -implicitDefEqProofs [hI,oU,hk,eF,h2,hc,h3,h5]
  ·rw [ah h3]
   refine aB rfl rfl ?_;simp -implicitDefEqProofs [hI,oU,hk,eF,h2,hc,h3]
 all_goals first
  | (have h2:¬ s=[]:=by simpa [eF] using h2
     have hc:=CX s 0 256 (by omega);refine ⟨setB b n s _, ?_,λ_=>rfl⟩;show _=some ([GV.i .i64 0,GV.i .i64 (nM s 0 256)]++_)
     generalize nM s 0 256=u at *;refine aB rfl rfl ?_;simp -implicitDefEqProofs [hI,oU,setB,hk,eF,h2,hc];done)
  | (have h2:¬ n=0:=by simpa [eF] using h2
     refine ⟨setB b n s _, ?_,λ_=>rfl⟩;show _=some ([GV.i .i64 0,GV.i .i64 0]++_)
     refine aB rfl rfl ?_;simp -implicitDefEqProofs [hI,oU,setB,hk,eF,h2])
def iJ:aS:={ kind:=0,id:=0,min:=0,max:=0,chosen:=0,flags:=0,cost:=0,priority:=0,deadline:=0,retry:=0,epoch:=0,base:=0,digest:=0,lag:=0,code:=0,want:=0,remaining:=0,allowed:=false,name:=[],region:=[],note:=[],d:=[],t:=[] }
def Y1 (b:aS) (r:List GV) (ty n:Int) (s:List UInt8) (p:Pl):List GV:=if pq ty n s p=0 then [gI (setB b n s p) r,.i .i64 0] else [gI iJ [],.i .i64 (pq ty n s p)]
def Y0 (b:aS) (r:List GV) (ty n:Int) (s nm:List UInt8):List GV:=match placeOf nm with
 | some p=>Y1 b r ty n s p
 | none=>[gI iJ [],.i .i64 26]
theorem afi (b:aS) (n:Int) (s:List UInt8) (p:Pl):(setB b n s p).kind=b.kind:=by
 unfold setB;split<;>first | rfl | (split<;>rfl)
theorem arD (b:aS) (r:List GV) (tag ty n:Int) (s:List UInt8) (L:GV) {nm:List UInt8} (hp:placeOf nm=none):TT.lim 138 [.s nm,.i .u64 tag,.i .i64 ty,.i .u64 n,.s s,L,.i .i64 b.kind,.i .u64 b.id,.i .u64 b.min,.i .u64 b.max,.i .u64 b.chosen,.i .u64 b.flags,.i .u64 b.cost,.i .u64 b.priority,.i .u64 b.deadline,.i .u64 b.retry,.i .u64 b.epoch,.i .u64 b.base,.i .u64 b.digest,.i .u64 b.lag,.i .u64 b.code,.i .u64 b.want,.i .i64 b.remaining,.b b.allowed,.s b.name,.s b.region,.s b.note,.l (b.d.map ent),.l (b.t.map row),.l r]=some ([.i .i64 0,.i .i64 26]++oU b):=by
 have hI:=acJ hp;refine aB rfl rfl ?_;simp -implicitDefEqProofs [oU,hI]
theorem arB (b:aS) (r:List GV) (tag ty n:Int) (s:List UInt8) (L:GV) (hn:0<=n/\n < 18446744073709551616) (hs:s.length<=100000000) (nm:List UInt8):(∃p,placeOf nm=some p/\TS b r tag ty n s L nm p)\/(placeOf nm=none/\TT.lim 138 [.s nm,.i .u64 tag,.i .i64 ty,.i .u64 n,.s s,L,.i .i64 b.kind,.i .u64 b.id,.i .u64 b.min,.i .u64 b.max,.i .u64 b.chosen,.i .u64 b.flags,.i .u64 b.cost,.i .u64 b.priority,.i .u64 b.deadline,.i .u64 b.retry,.i .u64 b.epoch,.i .u64 b.base,.i .u64 b.digest,.i .u64 b.lag,.i .u64 b.code,.i .u64 b.want,.i .i64 b.remaining,.b b.allowed,.s b.name,.s b.region,.s b.note,.l (b.d.map ent),.l (b.t.map row),.l r]=some ([.i .i64 0,.i .i64 26]++oU b)):=by
 cases hp:placeOf nm with
 | some p=>exact .inl ⟨p,rfl,arC b r tag ty n s L hn hs hp⟩
 | none=>exact .inr ⟨rfl,arD b r tag ty n s L hp⟩
theorem anR (K:List GV) (b:aS) (fl:List aH) (hd:b.d.length<=40) (ht:fF b.t) (hsz:bU fl<=1000000) (tag ty n:Int) (s:List UInt8) (hn:0<=n/\n < 18446744073709551616) (hs:s.length<=100000000) (nm:List UInt8) :
 TT.lim 135 [gI b (aC fl),.s nm,.g [.i .u64 tag,.i .i64 ty,.i .u64 n,.s s,.l K]]=some (Y0 b (aC fl) ty n s nm):=by
 have hc:=ana b fl hd ht hsz;have ha:=arB b (aC fl) tag ty n s (.l K) hn hs nm;generalize aC fl=r at *;have hz:GV.g [.i .i64 0,.i .u64 0,.i .u64 0,.i .u64 0,.i .u64 0,.i .u64 0,.i .u64 0,.i .u64 0,.i .u64 0,.i .u64 0,.i .u64 0,.i .u64 0,.i .u64 0,.i .u64 0,.i .u64 0,.i .u64 0,.i .i64 0,.b false,.s [],.s [],.s [],.l [],.l [],.l []]=gI iJ []:=rfl;unfold Y0;rcases ha with ⟨p,hp,b',h1,h2⟩ | ⟨hp,h1⟩
 ·rw [hp]
  simp only;unfold Y1;have hk:=afi b n s p;generalize pq ty n s p=e at *;by_cases he:e=0
  ·have h3:=h2 he
   rw [aj he];rw [he,h3] at h1;have hm:gI (setB b n s p) r=GV.g ([.i .i64 b.kind]++oU (setB b n s p)++[.l r]):=by rw [<- hk];rfl
   rw [hm];generalize setB b n s p=B at *;unfold oU at h1 ⊢;refine aQ rfl rfl ?_ rfl;simp -implicitDefEqProofs [jI,hc];simp -implicitDefEqProofs [h1]
  ·rw [ah he]
   unfold oU at h1;rw [<- hz];refine aQ rfl rfl ?_ rfl;simp -implicitDefEqProofs [jI,hc];simp -implicitDefEqProofs [h1,he]
 ·rw [hp]
  simp only;unfold oU at h1;rw [<- hz];refine aQ rfl rfl ?_ rfl;simp -implicitDefEqProofs [jI,hc];simp -implicitDefEqProofs [h1]
def bW (b c:aS):Pl->Prop
 | .rem=>b.remaining=c.remaining
 | .allow=>b.allowed=c.allowed
 | .name=>b.name=c.name
 | .region=>b.region=c.region
 | .note=>b.note=c.note
 | .d=>b.d=c.d
 | .t=>b.t=c.t
 | .num k=>DK b k=DK c k
def kU (b c:aS) (rb rc:List GV) (f:Nat) (n:List UInt8) (p:Prop):Prop:=∀ (NL:List GV) (L K:Int) (i:Nat),(i:Int) < L->NL[i]? = some (.s n)->IntKind.i64.wrap ((i:Int)+1)=(i:Int)+1->TT.lim f ([.l NL,.i .i64 L,.i .i64 ((i:Int)+1)]++(gI c rc).cells++(gI b rb).cells)=some [.i .i64 K]->TT.lim f ([.l NL,.i .i64 L,.i .i64 i]++(gI c rc).cells++(gI b rb).cells)=some [.i .i64 (if cO p=true then K else 0)]
theorem anw (b c:aS) (rb rc:List GV):kU b c rb rc 160 Fh (bW b c (.num 0)):=by
 intro NL L K i h hat hw ih;rw [dG,dG] at ih ⊢;simp only [bJ,bn] at ih ⊢;unfold Fh at hat;by_cases hp:b.id=c.id
 ·have e:cO (bW b c (.num 0))=true:=jW hp
  rw [e];replace hp:=eq_true hp
  refine aB rfl rfl ?_;simp -implicitDefEqProofs [h,hat,hp,hw,ih]
 ·have e:cO (bW b c (.num 0))=false:=jF hp
  rw [e];refine aB rfl rfl ?_;simp -implicitDefEqProofs [h,hat,hp,hw]
theorem anA (b c:aS) (rb rc:List GV):kU b c rb rc 160 Fq (bW b c (.num 1)):=by
 intro NL L K i h hat hw ih;rw [dG,dG] at ih ⊢;simp only [bJ,bn] at ih ⊢;unfold Fq at hat;by_cases hp:b.min=c.min
 ·have e:cO (bW b c (.num 1))=true:=jW hp
  rw [e];replace hp:=eq_true hp
  refine aB rfl rfl ?_;simp -implicitDefEqProofs [h,hat,hp,hw,ih]
 ·have e:cO (bW b c (.num 1))=false:=jF hp
  rw [e];refine aB rfl rfl ?_;simp -implicitDefEqProofs [h,hat,hp,hw]
theorem anz (b c:aS) (rb rc:List GV):kU b c rb rc 160 Fp (bW b c (.num 2)):=by
 intro NL L K i h hat hw ih;rw [dG,dG] at ih ⊢;simp only [bJ,bn] at ih ⊢;unfold Fp at hat;by_cases hp:b.max=c.max
 ·have e:cO (bW b c (.num 2))=true:=jW hp
  rw [e];replace hp:=eq_true hp
  refine aB rfl rfl ?_;simp -implicitDefEqProofs [h,hat,hp,hw,ih]
 ·have e:cO (bW b c (.num 2))=false:=jF hp
  rw [e];refine aB rfl rfl ?_;simp -implicitDefEqProofs [h,hat,hp,hw]
theorem anm (b c:aS) (rb rc:List GV):kU b c rb rc 160 E8 (bW b c (.num 3)):=by
 intro NL L K i h hat hw ih;rw [dG,dG] at ih ⊢;simp only [bJ,bn] at ih ⊢;unfold E8 at hat;by_cases hp:b.chosen=c.chosen
 ·have e:cO (bW b c (.num 3))=true:=jW hp
  rw [e];replace hp:=eq_true hp
  refine aB rfl rfl ?_;simp -implicitDefEqProofs [h,hat,hp,hw,ih]
 ·have e:cO (bW b c (.num 3))=false:=jF hp
  rw [e];refine aB rfl rfl ?_;simp -implicitDefEqProofs [h,hat,hp,hw]
theorem anv (b c:aS) (rb rc:List GV):kU b c rb rc 160 Fg (bW b c (.num 4)):=by
 intro NL L K i h hat hw ih;rw [dG,dG] at ih ⊢;simp only [bJ,bn] at ih ⊢;unfold Fg at hat;by_cases hp:b.flags=c.flags
 ·have e:cO (bW b c (.num 4))=true:=jW hp
  rw [e];replace hp:=eq_true hp
  refine aB rfl rfl ?_;simp -implicitDefEqProofs [h,hat,hp,hw,ih]
 ·have e:cO (bW b c (.num 4))=false:=jF hp
  rw [e];refine aB rfl rfl ?_;simp -implicitDefEqProofs [h,hat,hp,hw]
theorem anp (b c:aS) (rb rc:List GV):kU b c rb rc 160 E9 (bW b c (.num 5)):=by
 intro NL L K i h hat hw ih;rw [dG,dG] at ih ⊢;simp only [bJ,bn] at ih ⊢;unfold E9 at hat;by_cases hp:b.cost=c.cost
 ·have e:cO (bW b c (.num 5))=true:=jW hp
  rw [e];replace hp:=eq_true hp
  refine aB rfl rfl ?_;simp -implicitDefEqProofs [h,hat,hp,hw,ih]
 ·have e:cO (bW b c (.num 5))=false:=jF hp
  rw [e];refine aB rfl rfl ?_;simp -implicitDefEqProofs [h,hat,hp,hw]
theorem anE (b c:aS) (rb rc:List GV):kU b c rb rc 160 Fz (bW b c (.num 6)):=by
 intro NL L K i h hat hw ih;rw [dG,dG] at ih ⊢;simp only [bJ,bn] at ih ⊢;unfold Fz at hat;by_cases hp:b.priority=c.priority
 ·have e:cO (bW b c (.num 6))=true:=jW hp
  rw [e];replace hp:=eq_true hp
  refine aB rfl rfl ?_;simp -implicitDefEqProofs [h,hat,hp,hw,ih]
 ·have e:cO (bW b c (.num 6))=false:=jF hp
  rw [e];refine aB rfl rfl ?_;simp -implicitDefEqProofs [h,hat,hp,hw]
theorem anq (b c:aS) (rb rc:List GV):kU b c rb rc 160 Fa (bW b c (.num 7)):=by
 intro NL L K i h hat hw ih;rw [dG,dG] at ih ⊢;simp only [bJ,bn] at ih ⊢;unfold Fa at hat;by_cases hp:b.deadline=c.deadline
 ·have e:cO (bW b c (.num 7))=true:=jW hp
  rw [e];replace hp:=eq_true hp
  refine aB rfl rfl ?_;simp -implicitDefEqProofs [h,hat,hp,hw,ih]
 ·have e:cO (bW b c (.num 7))=false:=jF hp
  rw [e];refine aB rfl rfl ?_;simp -implicitDefEqProofs [h,hat,hp,hw]
theorem anH (b c:aS) (rb rc:List GV):kU b c rb rc 160 FH (bW b c (.num 8)):=by
 intro NL L K i h hat hw ih;rw [dG,dG] at ih ⊢;simp only [bJ,bn] at ih ⊢;unfold FH at hat;by_cases hp:b.retry=c.retry
 ·have e:cO (bW b c (.num 8))=true:=jW hp
  rw [e];replace hp:=eq_true hp
  refine aB rfl rfl ?_;simp -implicitDefEqProofs [h,hat,hp,hw,ih]
 ·have e:cO (bW b c (.num 8))=false:=jF hp
  rw [e];refine aB rfl rfl ?_;simp -implicitDefEqProofs [h,hat,hp,hw]
theorem anu (b c:aS) (rb rc:List GV):kU b c rb rc 160 yu (bW b c (.num 9)):=by
 intro NL L K i h hat hw ih;rw [dG,dG] at ih ⊢;simp only [bJ,bn] at ih ⊢;unfold yu at hat;by_cases hp:b.epoch=c.epoch
 ·have e:cO (bW b c (.num 9))=true:=jW hp
  rw [e];replace hp:=eq_true hp
  refine aB rfl rfl ?_;simp -implicitDefEqProofs [h,hat,hp,hw,ih]
 ·have e:cO (bW b c (.num 9))=false:=jF hp
  rw [e];refine aB rfl rfl ?_;simp -implicitDefEqProofs [h,hat,hp,hw]
theorem anl (b c:aS) (rb rc:List GV):kU b c rb rc 160 E5 (bW b c (.num 10)):=by
 intro NL L K i h hat hw ih;rw [dG,dG] at ih ⊢;simp only [bJ,bn] at ih ⊢;unfold E5 at hat;by_cases hp:b.base=c.base
 ·have e:cO (bW b c (.num 10))=true:=jW hp
  rw [e];replace hp:=eq_true hp
  refine aB rfl rfl ?_;simp -implicitDefEqProofs [h,hat,hp,hw,ih]
 ·have e:cO (bW b c (.num 10))=false:=jF hp
  rw [e];refine aB rfl rfl ?_;simp -implicitDefEqProofs [h,hat,hp,hw]
theorem ant (b c:aS) (rb rc:List GV):kU b c rb rc 160 Fe (bW b c (.num 11)):=by
 intro NL L K i h hat hw ih;rw [dG,dG] at ih ⊢;simp only [bJ,bn] at ih ⊢;unfold Fe at hat;by_cases hp:b.digest=c.digest
 ·have e:cO (bW b c (.num 11))=true:=jW hp
  rw [e];replace hp:=eq_true hp
  refine aB rfl rfl ?_;simp -implicitDefEqProofs [h,hat,hp,hw,ih]
 ·have e:cO (bW b c (.num 11))=false:=jF hp
  rw [e];refine aB rfl rfl ?_;simp -implicitDefEqProofs [h,hat,hp,hw]
theorem anx (b c:aS) (rb rc:List GV):kU b c rb rc 160 Fj (bW b c (.num 12)):=by
 intro NL L K i h hat hw ih;rw [dG,dG] at ih ⊢;simp only [bJ,bn] at ih ⊢;unfold Fj at hat;by_cases hp:b.lag=c.lag
 ·have e:cO (bW b c (.num 12))=true:=jW hp
  rw [e];replace hp:=eq_true hp
  refine aB rfl rfl ?_;simp -implicitDefEqProofs [h,hat,hp,hw,ih]
 ·have e:cO (bW b c (.num 12))=false:=jF hp
  rw [e];refine aB rfl rfl ?_;simp -implicitDefEqProofs [h,hat,hp,hw]
theorem ano (b c:aS) (rb rc:List GV):kU b c rb rc 160 yt (bW b c (.num 13)):=by
 intro NL L K i h hat hw ih;rw [dG,dG] at ih ⊢;simp only [bJ,bn] at ih ⊢;unfold yt at hat;by_cases hp:b.code=c.code
 ·have e:cO (bW b c (.num 13))=true:=jW hp
  rw [e];replace hp:=eq_true hp
  refine aB rfl rfl ?_;simp -implicitDefEqProofs [h,hat,hp,hw,ih]
 ·have e:cO (bW b c (.num 13))=false:=jF hp
  rw [e];refine aB rfl rfl ?_;simp -implicitDefEqProofs [h,hat,hp,hw]
theorem anK (b c:aS) (rb rc:List GV):kU b c rb rc 160 zu (bW b c (.num 14)):=by
 intro NL L K i h hat hw ih;rw [dG,dG] at ih ⊢;simp only [bJ,bn] at ih ⊢;unfold zu at hat;by_cases hp:b.want=c.want
 ·have e:cO (bW b c (.num 14))=true:=jW hp
  rw [e];replace hp:=eq_true hp
  refine aB rfl rfl ?_;simp -implicitDefEqProofs [h,hat,hp,hw,ih]
 ·have e:cO (bW b c (.num 14))=false:=jF hp
  rw [e];refine aB rfl rfl ?_;simp -implicitDefEqProofs [h,hat,hp,hw]
theorem anG (b c:aS) (rb rc:List GV):kU b c rb rc 160 FD (bW b c .rem):=by
 intro NL L K i h hat hw ih;rw [dG,dG] at ih ⊢;simp only [bJ,bn] at ih ⊢;unfold FD at hat;by_cases hp:b.remaining=c.remaining
 ·have e:cO (bW b c .rem)=true:=jW hp
  rw [e];replace hp:=eq_true hp
  refine aB rfl rfl ?_;simp -implicitDefEqProofs [h,hat,hp,hw,ih]
 ·have e:cO (bW b c .rem)=false:=jF hp
  rw [e];refine aB rfl rfl ?_;simp -implicitDefEqProofs [h,hat,hp,hw]
theorem ank (b c:aS) (rb rc:List GV):kU b c rb rc 160 EZ (bW b c .allow):=by
 intro NL L K i h hat hw ih;rw [dG,dG] at ih ⊢;simp only [bJ,bn] at ih ⊢;unfold EZ at hat;by_cases hp:b.allowed=c.allowed
 ·have e:cO (bW b c .allow)=true:=jW hp
  rw [e];replace hp:=eq_true hp
  refine aB rfl rfl ?_;simp -implicitDefEqProofs [h,hat,hp,hw,ih]
 ·have e:cO (bW b c .allow)=false:=jF hp
  rw [e];refine aB rfl rfl ?_;simp -implicitDefEqProofs [h,hat,hp,hw]
theorem anB (b c:aS) (rb rc:List GV):kU b c rb rc 160 Fv (bW b c .name):=by
 intro NL L K i h hat hw ih;rw [dG,dG] at ih ⊢;simp only [bJ,bn] at ih ⊢;unfold Fv at hat;by_cases hp:b.name=c.name
 ·have e:cO (bW b c .name)=true:=jW hp
  rw [e];replace hp:=eq_true hp
  refine aB rfl rfl ?_;simp -implicitDefEqProofs [h,hat,hp,hw,ih]
 ·have e:cO (bW b c .name)=false:=jF hp
  rw [e];refine aB rfl rfl ?_;simp -implicitDefEqProofs [h,hat,hp,hw]
theorem anF (b c:aS) (rb rc:List GV):kU b c rb rc 160 FB (bW b c .region):=by
 intro NL L K i h hat hw ih;rw [dG,dG] at ih ⊢;simp only [bJ,bn] at ih ⊢;unfold FB at hat;by_cases hp:b.region=c.region
 ·have e:cO (bW b c .region)=true:=jW hp
  rw [e];replace hp:=eq_true hp
  refine aB rfl rfl ?_;simp -implicitDefEqProofs [h,hat,hp,hw,ih]
 ·have e:cO (bW b c .region)=false:=jF hp
  rw [e];refine aB rfl rfl ?_;simp -implicitDefEqProofs [h,hat,hp,hw]
theorem anC (b c:aS) (rb rc:List GV):kU b c rb rc 160 Bg (bW b c .note):=by
 intro NL L K i h hat hw ih;rw [dG,dG] at ih ⊢;simp only [bJ,bn] at ih ⊢;unfold Bg at hat;by_cases hp:b.note=c.note
 ·have e:cO (bW b c .note)=true:=jW hp
  rw [e];replace hp:=eq_true hp
  refine aB rfl rfl ?_;simp -implicitDefEqProofs [h,hat,hp,hw,ih]
 ·have e:cO (bW b c .note)=false:=jF hp
  rw [e];refine aB rfl rfl ?_;simp -implicitDefEqProofs [h,hat,hp,hw]
theorem anr (b c:aS) (rb rc:List GV) (hbd:b.d.length<=140737488351232) (hcd:c.d.length<=140737488351232):kU b c rb rc 160 Fb (bW b c .d):=by
 intro NL L K i h hat hw ih;rw [dG,dG] at ih ⊢;simp only [bJ,bn] at ih ⊢;unfold Fb at hat;have k:=abD b.d c.d hbd hcd;by_cases hp:b.d=c.d
 ·have e:cO (bW b c .d)=true:=jW hp
  rw [e];rw [Ic hp] at k;refine aB rfl rfl ?_;simp -implicitDefEqProofs [h,hat,k,hw,ih]
 ·have e:cO (bW b c .d)=false:=jF hp
  rw [e];rw [Ib hp] at k;refine aB rfl rfl ?_;simp -implicitDefEqProofs [h,hat,k,hw]
theorem anJ (b c:aS) (rb rc:List GV) (hbt:fF b.t) (hct:fF c.t):kU b c rb rc 160 FI (bW b c .t):=by
 intro NL L K i h hat hw ih;rw [dG,dG] at ih ⊢;simp only [bJ,bn] at ih ⊢;unfold FI at hat;have k:=aru b.t c.t hbt hct;by_cases hp:b.t=c.t
 ·have e:cO (bW b c .t)=true:=jW hp
  rw [e];rw [Ic hp] at k;refine aB rfl rfl ?_;simp -implicitDefEqProofs [h,hat,k,hw,ih]
 ·have e:cO (bW b c .t)=false:=jF hp
  rw [e];rw [Ib hp] at k;refine aB rfl rfl ?_;simp -implicitDefEqProofs [h,hat,k,hw]
theorem adP:gQ=[EZ,E5,E8,yt,E9,Fa,Fb,Fe,yu,Fg,Fh,Fj,Fp,Fq,Fv,Bg,Fz,FB,FD,FH,FI,zu]:=rfl
theorem anI (b c:aS) (rb rc:List GV) (hbd:b.d.length<=140737488351232) (hcd:c.d.length<=140737488351232) (hbt:fF b.t) (hct:fF c.t):∀n∈gQ,∃p,placeOf n=some p/\kU b c rb rc 160 n (bW b c p):=by
 intro n hn;rw [adP] at hn;simp only [bC,D5,or_false] at hn;rcases hn with rfl | rfl | rfl | rfl | rfl | rfl | rfl | rfl | rfl | rfl | rfl | rfl | rfl | rfl | rfl | rfl | rfl | rfl | rfl | rfl | rfl | rfl
 ·exact ⟨_,aeg,ank b c rb rc⟩
 ·exact ⟨_,aeh,anl b c rb rc⟩
 ·exact ⟨_,aei,anm b c rb rc⟩
 ·exact ⟨_,aej,ano b c rb rc⟩
 ·exact ⟨_,aek,anp b c rb rc⟩
 ·exact ⟨_,ael,anq b c rb rc⟩
 ·exact ⟨_,aem,anr b c rb rc hbd hcd⟩
 ·exact ⟨_,aen,ant b c rb rc⟩
 ·exact ⟨_,aeo,anu b c rb rc⟩
 ·exact ⟨_,aep,anv b c rb rc⟩
 ·exact ⟨_,aer,anw b c rb rc⟩
 ·exact ⟨_,aes,anx b c rb rc⟩
 ·exact ⟨_,aeu,anz b c rb rc⟩
 ·exact ⟨_,aev,anA b c rb rc⟩
 ·exact ⟨_,aew,anB b c rb rc⟩
 ·exact ⟨_,aex,anC b c rb rc⟩
 ·exact ⟨_,aey,anE b c rb rc⟩
 ·exact ⟨_,aez,anF b c rb rc⟩
 ·exact ⟨_,aeA,anG b c rb rc⟩
 ·exact ⟨_,aeB,anH b c rb rc⟩
 ·exact ⟨_,aeC,anJ b c rb rc hbt hct⟩
 ·exact ⟨_,aeD,anK b c rb rc⟩
theorem afe (b c:aS) (rb rc:List GV) (f:Nat) (Q:Pl->Prop) (hend:∀ (NL:List GV) (L:Int) (i:Nat),¬ (i:Int) < L->TT.lim f ([.l NL,.i .i64 L,.i .i64 i]++(gI c rc).cells++(gI b rb).cells)=some [.i .i64 1]) (hs:∀n∈gQ,∃p,placeOf n=some p/\kU b c rb rc f n (Q p)):∀m i:Nat,i+m=gQ.length->
 TT.lim f ([.l (gQ.map .s),.i .i64 gQ.length,.i .i64 i]++(gI c rc).cells++(gI b rb).cells)=some [.i .i64 (if cO (∀n∈gQ.drop i,∀p,placeOf n=some p->Q p)=true then 1 else 0)]
 | 0,i,hi=>by
   have e:cO (∀n∈gQ.drop i,∀p,placeOf n=some p->Q p)=true:=jW (by rw [fJ (by omega)];simp);rw [e];exact hend _ _ i (by omega)
 | m+1,i,hi=>by
   have hlt:i < gQ.length:=by omega
   have avd:gQ.length=22:=rfl;have hw:=wrap64 (n:=(i:Int)+1) (by omega) (by omega);have ih:=afe b c rb rc f Q hend hs m (i+1) (by omega);obtain ⟨p,hp,hst⟩:=hs _ (gU hlt);have hat:(gQ.map GV.s)[i]? = some (.s gQ[i]):=by rw [iF,bM hlt];rfl
   have hcast:((i+1:Nat):Int)=(i:Int)+1:=by omega
   rw [hcast] at ih;have hx:=hst _ _ _ i (by omega) hat hw ih;rw [hx,iC hlt];have hq:(∀n∈gQ[i]::gQ.drop (i+1),∀p,placeOf n=some p->Q p)↔(Q p/\∀n∈gQ.drop (i+1),∀p,placeOf n=some p->Q p):=by
    simp only [bC,forall_eq_or_imp];constructor
    ·exact λh=>⟨h.1 p hp,h.2⟩
    ·intro h
     refine ⟨λq hq=>?_,h.2⟩;rw [hp] at hq;injection hq with hq
     rw [<- hq];exact h.1
   rw [IW hq];by_cases h1:Q p
   ·rw [jW h1,aj rfl]
    have:cO (Q p/\∀n∈gQ.drop (i+1),∀p,placeOf n=some p->Q p)=cO (∀n∈gQ.drop (i+1),∀p,placeOf n=some p->Q p):=IW ⟨λh=>h.2,λh=>⟨h1,h⟩⟩;rw [this]
   ·rw [jF h1,ah (by decide),jF λh=>h1 h.1,ah (by decide)]
theorem parts_all (b c:aS) (hk:b.kind=c.kind):(∀n∈gQ,∀p,placeOf n=some p->bW b c p)↔b=c:=by
 constructor
 ·intro h
  rw [adP] at h;have h0:∀ {n:List UInt8} {p:Pl},n∈[EZ,E5,E8,yt,E9,Fa,Fb,Fe,yu,Fg,Fh,Fj,Fp,Fq,Fv,Bg,Fz,FB,FD,FH,FI,zu]->placeOf n=some p->bW b c p:=λh1 h2=>h _ h1 _ h2;have apB:=h0 (by simp) aeA;have apg:=h0 (by simp) aeg;have apw:=h0 (by simp) aew;have apA:=h0 (by simp) aez;have apx:=h0 (by simp) aex;have apn:=h0 (by simp) aem;have apD:=h0 (by simp) aeC;have aps:=h0 (by simp) aer;have apv:=h0 (by simp) aev;have apu:=h0 (by simp) aeu;have apj:=h0 (by simp) aei;have apr:=h0 (by simp) aep;have apl:=h0 (by simp) aek;have apz:=h0 (by simp) aey;have apm:=h0 (by simp) ael;have apC:=h0 (by simp) aeB;have apq:=h0 (by simp) aeo;have aph:=h0 (by simp) aeh;have apo:=h0 (by simp) aen;have apt:=h0 (by simp) aes;have apk:=h0 (by simp) aej;have apE:=h0 (by simp) aeD;clear h h0;cases b;cases c;simp only [bW,DK] at *;subst hk;subst apB;subst apg;subst apw;subst apA;subst apx;subst apn;subst apD;subst aps;subst apv;subst apu;subst apj;subst apr;subst apl;subst apz;subst apm;subst apC;subst apq;subst aph;subst apo;subst apt;subst apk;subst apE;rfl
 ·rintro rfl n _ p _
  cases p<;>simp [bW]
theorem anD (b c:aS) (fb fc:List aH) (hbd:b.d.length<=40) (hcd:c.d.length<=40) (hbt:fF b.t) (hct:fF c.t) (hb8:dJ fb) (hc8:dJ fc) (hbl:fb.length<=1000000) (hcl:fc.length<=1000000) (hsz:bU fb<=1000000):TT.lim 159 [gI b (aC fb),gI c (aC fc)]=some [.b (cO (b=c/\fb=fc))]:=by
 have h8:=akN fb fc hb8 hc8 hbl hcl hsz;have hn:=adM;have h0:=afe b c (aC fb) (aC fc) 160 (bW b c) (λNL L i h=>by
  rw [dG,dG];simp only [bJ,bn];refine aB rfl rfl ?_;simp -implicitDefEqProofs [h]) (anI b c (aC fb) (aC fc) (by omega) (by omega) hbt hct) gQ.length 0 (by omega)
 have hal:((gQ.map GV.s).length:Int)=(gQ.length:Int):=by rw [kR]
 rw [dO] at h0;rw [dG,dG] at h0;simp only [bJ,bn,wM] at h0;by_cases hk:b.kind=c.kind;rotate_left
 ·rw [jF λh=>hk (by rw [h.1])]
  refine aQ rfl rfl ?_ rfl;simp -implicitDefEqProofs [hk]
 have hpa:=parts_all b c hk;replace hk:(b.kind=c.kind)=True:=eq_true hk
 rw [IW hpa] at h0;clear hpa;generalize gQ.map GV.s=NL at *;generalize (gQ.length:Int)=L at *;by_cases hbc:b=c
 ·rw [jW hbc] at h0
  have e:cO (b=c/\fb=fc)=cO (fb=fc):=IW ⟨λh=>h.2,λh=>⟨hbc,h⟩⟩;rw [e];generalize cO (fb=fc)=u at *;simp only [if_true] at h0;refine aQ rfl rfl ?_ rfl;simp -implicitDefEqProofs [hk,hn,hal,h0,h8]
 ·rw [jF hbc] at h0
  rw [jF λh=>hbc h.1];simp only [fV,if_false] at h0;refine aQ rfl rfl ?_ rfl;simp -implicitDefEqProofs [hk,hn,hal,h0]
theorem atA {n:Int} (hn:0<=n/\n < 18446744073709551616) : -9223372036854775808<=Gx n/\Gx n<=9223372036854775807:=by
 unfold Gx;split<;>omega
theorem afh {b:aS} {n:Int} {s:List UInt8} {p:Pl} {ty:Int} (hb:qW b) (hd:iq b.d=true) (ht:fF b.t) (hn:0<=n/\n < 18446744073709551616) (hs:s.length<=100000000) (h:pq ty n s p=0):qW (setB b n s p)/\iq (setB b n s p).d=true/\fF (setB b n s p).t:=by
 have hE:BH n s p=0:=by
  unfold pq at h;split at h
  ·split at h<;>split at h<;>first | exact h | exact absurd h (by decide)
  ·exact absurd h (by decide)
 cases p with
 | rem=>exact ⟨{ hb with remaining:=atA hn },hd,ht⟩
 | allow=>exact ⟨{ hb with },hd,ht⟩
 | name=>exact ⟨{ hb with name:=by show s.length<=_;omega },hd,ht⟩
 | region=>exact ⟨{ hb with region:=by show s.length<=_;omega },hd,ht⟩
 | note=>exact ⟨{ hb with note:=by show s.length<=_;omega },hd,ht⟩
 | d=>
   have hp:=abj (s:=s) hE hs;exact ⟨{ hb with d:=hp.ents },hp.few,ht⟩
 | t=>
   have hp:=(asG (s:=s) hs).1;exact ⟨{ hb with t:=hp.rows },hd,hp.good⟩
 | num k=>
   unfold setB;split<;>rename_i hk
   ·exact absurd hk (by simp)
   ·exact absurd hk (by simp)
   ·exact absurd hk (by simp)
   ·exact absurd hk (by simp)
   ·exact absurd hk (by simp)
   ·exact absurd hk (by simp)
   ·exact absurd hk (by simp)
   ·split<;>exact ⟨by constructor<;>first | exact hn | exact hb.kind | exact hb.id | exact hb.min | exact hb.max | exact hb.chosen | exact hb.flags | exact hb.cost | exact hb.priority | exact hb.deadline | exact hb.retry | exact hb.epoch | exact hb.base | exact hb.digest | exact hb.lag | exact hb.code | exact hb.want | exact hb.remaining | exact hb.name | exact hb.region | exact hb.note | exact hb.d | exact hb.t,hd,ht⟩
structure qB (b:aS) (fl:List aH):Prop where
 body:qW b
 d:iq b.d=true
 t:fF b.t
 f8:dJ fl
 len:fl.length<=1000000
theorem DY:qB iJ []:=⟨by constructor<;>simp [iJ,pG,Rows],by simp [iJ,iq],⟨by simp [iJ],by intro r hr;simp [iJ] at hr,by simp [iJ,Rows]⟩,by simp only [dJ],by simp⟩
theorem qB.anj {b c:aS} {fb fc:List aH} (h:qB b fb) (k:qB c fc) (hsz:bU fb<=1000000):TT.lim 159 [gI b (aC fb),gI c (aC fc)]=some [.b (cO (b=c/\fb=fc))]:=anD b c fb fc (AA h.d) (AA k.d) h.t k.t h.f8 k.f8 h.len k.len hsz
theorem anO (b:aS) (r:List GV) (hb:qW b) (hd:iq b.d=true) (hf:vG b.t) (n:List UInt8):(∃p,placeOf n=some p/\TT.lim 97 [gI b r,.s n]=some [.g [.i .u64 0,.i .i64 (eF p),.i .u64 (bZ b p).1,.s (bZ b p).2,.l []],.b true])\/
 (placeOf n=none/\TT.lim 97 [gI b r,.s n]=some [.g [.i .u64 0,.i .i64 0,.i .u64 0,.s [],.l []],.b false]):=by
 cases hp:placeOf n with
 | some p=>exact .inl ⟨p,rfl,anN b r hb (λ_=>hd) (λ_=>hf) hp⟩
 | none=>exact .inr ⟨rfl,anQ b r hp⟩
theorem anP {b:aS} {fl:List aH} (h:qB b fl) {n:List UInt8} {p:Pl} (hp:placeOf n=some p):TT.lim 97 [gI b (aC fl),.s n]=some [.g [.i .u64 0,.i .i64 (eF p),.i .u64 (bZ b p).1,.s (bZ b p).2,.l []],.b true]:=by
 rcases anO b (aC fl) h.body h.d h.t.few n with ⟨q,hq,hv⟩ | ⟨hq, -⟩
 ·rw [hp] at hq
  injection hq with hq
  rw [hq];exact hv
 ·rw [hp] at hq;cases hq
theorem aov (t:List Row) (ht:fF t):(xg t).length<=90000000:=by
 have h:=Yd t [] (λr hr=>⟨ht.few r hr,(ht.rows.2 r hr).2⟩);have h3:=ht.len;have hv:(bG t.length).length<=20:=by
  have:=lS (n:=t.length) (by omega);omega
 unfold xg;rw [fG];have:40000 * t.length<=40000 * 300:=TP _ h3;omega
end M
end Go.Proofs.YtilkjidelblkfaaGreatDoor
