/- What the trees compute: plain laws. -/
import Derived.Test.YtjglbndncdkhhaaGreatDoorKUe3
namespace Go.Proofs.YtjglbndncdkhhaaGreatDoor
open Go Go.aN
set_option linter.unusedSimpArgs false
set_option linter.unusedVariables false
set_option maxRecDepth 100000
namespace U
noncomputable def oK (p:Prop):Bool:=@decide p (Classical.propDecidable p)
theorem abJ {p:Prop} (h:p):oK p=true:=@Bl p (Classical.propDecidable p) h
theorem abI {p:Prop} (h:¬ p):oK p=false:=@DK p (Classical.propDecidable p) h
theorem abH {p q:Prop} (h:p↔q):oK p=oK q:=by rw [propext h]
def nV (t y n:Int) (s:List UInt8) (k:List aC):GV:=.g [.i .u64 t,.i .i64 y,.i .u64 n,.s s,.l (aA k)]
@[simp] theorem aq2 (t y n:Int) (s:List UInt8) (k:List aC):(nV t y n s k).cells=[.i .u64 t,.i .i64 y,.i .u64 n,.s s,.l (aA k)]:=rfl
theorem BH {l:List aC} {i:Nat} (h:i < l.length):∃t y n s k,l[i]? = some (.mk t y n s k)/\(aA l)[i]? = some (nV t y n s k)/\l.drop i=.mk t y n s k::l.drop (i+1)/\aC.mk t y n s k∈l:=by
 have hget:(aA l)[i]? = some (l7 l[i]):=by rw [yB,iq,bP h];rfl
 have hd:=jw h;have hm:=je h;have hg:=bP h;cases hf:l[i] with
 | mk t y n s k=>
   rw [hf] at hget hd hm hg;exact ⟨t,y,n,s,k,hg,by rw [hget];simp only [l7];rfl,hd,hm⟩
/-- What is still to be compared behind two lists' fields. -/
def pW:List aC->List aC->Option (List (List aC×List aC))
 | .mk t y n s k::a,.mk t' y' n' s' k'::b=>if t=t'/\y=y'/\n=n'/\s=s' then (pW a b).map λr=>(if k.length=0/\k'.length=0 then [] else [(k,k')])++r else none
 | _,_=>some []
def jv (q:List aC×List aC):GV:=.g [.l (aA q.1),.l (aA q.2)]
@[simp] theorem asy (q:List aC×List aC):(jv q).cells=[.l (aA q.1),.l (aA q.2)]:=rfl
def pU:List (List aC×List aC)->Nat
 | []=>0
 | q::l=>bH q.1+1+pU l
theorem PU:∀ (a b:List (List aC×List aC)),pU (a++b)=pU a+pU b
 | [],b=>by simp [pU]
 | q::a,b=>by simp only [dV,pU,PU a b];omega
theorem acJ:∀ (a:List (List aC×List aC)),a.length<=pU a
 | []=>by simp [pU]
 | q::a=>by have:=acJ a;simp only [iY,pU];omega
def okP (q:List aC×List aC):Prop:=bY q.1/\bY q.2/\q.1.length<=1000000/\q.2.length<=1000000
theorem adl:∀ (a b:List aC),a.length=b.length->bY a->bY b->(match pW a b with
 | none=>a≠b
 | some ps=>((∀q∈ps,q.1=q.2)↔a=b)/\pU ps<=bH a/\∀q∈ps,okP q)
 | [],[],_,_,_=>by simp [pW,pU]
 | [],_::_,e,_,_=>by simp at e
 | _::_,[],e,_,_=>by simp at e
 | .mk t y n s k::a,.mk t' y' n' s' k'::b,e,ha,hb=>by
   simp only [bY,nX] at ha hb;have ih:=adl a b (by simpa using e) ha.2 hb.2;unfold pW;by_cases hc:t=t'/\y=y'/\n=n'/\s=s'
   ·rw [aj hc]
    obtain ⟨rfl,rfl,rfl,rfl⟩:=hc;cases hp:pW a b with
    | none=>
      rw [hp] at ih;simp only [Option.map_none];intro h;injection h with h1 h2
      exact ih h2
    | some ps=>
      rw [hp] at ih;obtain ⟨i1,i2,i3⟩:=ih;simp only [gG];by_cases hk:k.length=0/\k'.length=0
      ·rw [aj hk]
       have e1:=jh hk.1;have e2:=jh hk.2;subst e1;subst e2;refine ⟨by simpa using i1,by simp only [bV,bH,oN];omega,by simpa using i3⟩
      ·rw [ah hk]
       refine ⟨?_,by simp only [dV,bV,pU,bH,oN];omega,λq hq=>?_⟩
       ·simp only [dV,bV,bU,forall_eq_or_imp,i1]
        constructor
        ·rintro ⟨h1,h2⟩;rw [h1,h2]
        ·intro h
         injection h with h1 h2
         injection h1 with _ _ _ _ h5
         exact ⟨h5,h2⟩
       ·simp only [dV,bV,bU] at hq
        rcases hq with rfl | hq
        ·exact ⟨ha.1.2,hb.1.2,ha.1.1.2.2.2.2.2.2.2,hb.1.1.2.2.2.2.2.2.2⟩
        ·exact i3 q hq
   ·rw [ah hc]
    intro h;injection h with h1 h2
    injection h1 with k1 k2 k3 k4 _
    exact hc ⟨k1,k2,k3,k4⟩
theorem Uj (a b:List aC) (hl:a.length=b.length) (hla:a.length<=1000000) (ha:bY a) (hb:bY b):∀ (m i:Nat) (acc:List (List aC×List aC)),i+m=a.length->acc.length+m<=4000000->
 TT.lim 139 [.l (acc.map jv),.i .i64 a.length,.i .i64 i,.l (aA a),.l (aA b)]=some (match pW (a.drop i) (b.drop i) with | none=>[.i .i64 0] | some ps=>[.i .i64 1,.l ((acc++ps).map jv)])
 | 0,i,acc,hi,hacc=>by
   have e1:a.drop i=[]:=gY (by omega);have e2:b.drop i=[]:=gY (by omega);have h:¬ ((i:Int) < a.length):=by omega
   rw [e1,e2];simp only [pW,kK];generalize acc.map jv=A at *;refine aG rfl rfl ?_;simp [h]
 | m+1,i,acc,hi,hacc=>by
   obtain ⟨t,y,n,s,k,g1,g2,g3,g4⟩:=BH (l:=a) (i:=i) (by omega);obtain ⟨t',y',n',s',k',g1',g2',g3',g4'⟩:=BH (l:=b) (i:=i) (by omega);have hwr:=wrap64 (n:=(i:Int)+1) (by omega) (by omega);have h:((i:Int) < a.length):=by omega
   have hcast:((i+1:Nat):Int)=(i:Int)+1:=by omega
   have hz1:=kQ k;have hz2:=kQ k';rw [g3,g3'];unfold pW;by_cases c1:t=t';rotate_left
   ·rw [ah λh=>c1 h.1]
    refine aG rfl rfl ?_;simp [h,g2,g2',c1]
   by_cases c2:y=y';rotate_left
   ·rw [ah λh=>c2 h.2.1]
    refine aG rfl rfl ?_;simp [h,g2,g2',c1,c2]
   by_cases c3:n=n';rotate_left
   ·rw [ah λh=>c3 h.2.2.1]
    refine aG rfl rfl ?_;simp [h,g2,g2',c1,c2,c3]
   by_cases c4:s=s';rotate_left
   ·rw [ah λh=>c4 h.2.2.2]
    refine aG rfl rfl ?_;simp [h,g2,g2',c1,c2,c3,c4]
   rw [aj ⟨c1,c2,c3,c4⟩];by_cases hk:k.length=0/\k'.length=0
   ·rw [aj hk]
    have ih':=Uj a b hl hla ha hb m (i+1) acc (by omega) (by omega);rw [hcast] at ih';have z1:=jh hk.1;have z2:=jh hk.2;have hR:(match Option.map (λr=>[]++r) (pW (a.drop (i+1)) (b.drop (i+1))) with | none=>[GV.i .i64 0] | some ps=>[GV.i .i64 1,GV.l ((acc++ps).map jv)])=(match pW (a.drop (i+1)) (b.drop (i+1)) with | none=>[GV.i .i64 0] | some ps=>[GV.i .i64 1,GV.l ((acc++ps).map jv)]):=by
     cases pW (a.drop (i+1)) (b.drop (i+1))<;>simp
    rw [hR];generalize (match pW (a.drop (i+1)) (b.drop (i+1)) with | none=>[GV.i .i64 0] | some ps=>[GV.i .i64 1,GV.l ((acc++ps).map jv)])=R at *;generalize acc.map jv=A at *;refine aG rfl rfl ?_;simp [h,g2,g2',c1,c2,c3,c4,z1,z2,aA,hwr,ih']
   ·rw [ah hk]
    have ih':=Uj a b hl hla ha hb m (i+1) (acc++[(k,k')]) (by omega) (by simp;omega);rw [hcast] at ih';have hR:(match Option.map (λr=>[(k,k')]++r) (pW (a.drop (i+1)) (b.drop (i+1))) with | none=>[GV.i .i64 0] | some ps=>[GV.i .i64 1,GV.l ((acc++ps).map jv)])=(match pW (a.drop (i+1)) (b.drop (i+1)) with | none=>[GV.i .i64 0] | some ps=>[GV.i .i64 1,GV.l ((acc++[(k,k')]++ps).map jv)]):=by
     cases pW (a.drop (i+1)) (b.drop (i+1))<;>simp
    rw [hR];generalize (match pW (a.drop (i+1)) (b.drop (i+1)) with | none=>[GV.i .i64 0] | some ps=>[GV.i .i64 1,GV.l ((acc++[(k,k')]++ps).map jv)])=R at *;have hmap:(acc++[(k,k')]).map jv=acc.map jv++[.g [.l (aA k),.l (aA k')]]:=by simp [jv]
    rw [hmap] at ih';have hb1:2 * ((acc.map jv).length+1) * 48<=281474976710656/\(acc.map jv).length+1<=281474976710656:=by rw [kM];omega
    generalize acc.map jv=A at *;have hb2:A.length<=281474976710655:=by omega
    by_cases z0:k.length=0;rotate_left
    ·have z1:0 < k.length:=by omega
     have z3:k≠[]:=λe=>by rw [e] at z0;exact z0 rfl
     have hel:GV.fO 2 (.g [.l (aA k),.l (aA k')])=true:=rfl;refine aG rfl rfl ?_;simp [h,g2,g2',c1,c2,c3,c4,hz1,hz2,z1,z3,hwr,ih',hel,hb1,hb2]
    ·have z1:=jh z0
     have z2:0 < k'.length:=by omega
     have z3:k'≠[]:=λe=>by rw [e] at z2;exact absurd z2 (by simp)
     subst z1;have hel:GV.fO 2 (.g [.l [],.l (aA k')])=true:=rfl;simp only [aA,nV] at ih' g2 hz1;refine aG rfl rfl ?_;simp [h,g2,g2',c1,c2,c3,c4,hz2,z2,z3,hwr,ih',hel,hb1,hb2]
theorem aa0:∀ (N:Nat) (work:List (List aC×List aC)),pU work < N->pU work<=2000000->(∀q∈work,okP q)->TT.lim 138 [.l (work.map jv)]=some [.i .i64 (if oK (∀q∈work,q.1=q.2)=true then 1 else 0)]
 | 0,work,hN,_,_=>by omega
 | N+1,work,hN,hM,hok=>by
   rcases ae7 work with rfl | ⟨ws,q,rfl⟩
   ·have ht:oK (∀q∈([]:List (List aC×List aC)),q.1=q.2)=true:=abJ (by simp)
    rw [ht];refine aG rfl rfl ?_;simp
   ·rw [ae5] at *
    obtain ⟨a,b⟩:=q;have hq:=hok (a,b) (by simp);obtain ⟨q1,q2,q3,q4⟩:=hq;simp only at q1 q2 q3 q4;have hlen:=acJ ws;rw [PU] at hN hM;simp only [pU] at hN hM;have hl1:=kQ a;have hl2:=kQ b;have hmap:(ws++[(a,b)]).map jv=ws.map jv++[jv (a,b)]:=by simp
    have hwl:(ws.map jv).length=ws.length:=kM ..;have hall:∀x∈ws.map jv,x.cells.length=2:=by
     intro x hx;obtain ⟨r,_,rfl⟩:=kX.1 hx;rfl
    have key:=Uj a b;have i0:(0:Int) < (ws.length:Int)+1:=by omega
    have i1:(ws.length:Int)+1 - 1=ws.length:=by omega
    have i2:(ws.length:Int) < (ws.length:Int)+1:=by omega
    have i3:(ws.length:Int)<=(ws.length:Int)+1:=by omega
    have hwr:=wrap64 (n:=(ws.length:Int)) (by omega) (by omega);rw [hmap];by_cases hl:a.length=b.length;rotate_left
    ·have hne:oK (∀q∈ws++[(a,b)],q.1=q.2)=false:=abI λh=>hl (rC List.length (h (a,b) (by simp)))
     have hc:¬ ((a.length:Int)=(b.length:Int)):=by omega
     rw [hne];generalize ws.map jv=A at *;have JD:=eq_true hall;clear hall;refine aG rfl rfl ?_;simp [hwl,i0,i1,i2,i3,hwr,jv,hl1,hl2,hc,JD]
    ·have hpo:=adl a b hl q1 q2
     have key:=key hl q3 q1 q2 a.length 0 ws (by omega) (by omega);rw [eH,eH,show ((0:Nat):Int)=0 from rfl] at key;have hc:b.length=a.length:=by omega
     cases hp:pW a b with
     | none=>
       rw [hp] at hpo key;have hne:oK (∀q∈ws++[(a,b)],q.1=q.2)=false:=abI λh=>hpo (h (a,b) (by simp));rw [hne];simp only at key;generalize ws.map jv=A at *;have hA:A.length < 281474976710656:=by omega
       have JD:=eq_true hall;clear hall;refine aG rfl rfl ?_;simp [hwl,i0,i1,i2,i3,hwr,jv,hl1,hl2,hc,key,JD]
     | some ps=>
       rw [hp] at hpo key;obtain ⟨p1,p2,p3⟩:=hpo;have ih:=aa0 N (ws++ps) (by rw [PU];omega) (by rw [PU];omega) (λq hq=>by
        rcases kV.1 hq with hq | hq
        ·exact hok q (by simp [hq])
        ·exact p3 q hq)
       have hcg:oK (∀q∈ws++[(a,b)],q.1=q.2)=oK (∀q∈ws++ps,q.1=q.2):=abH (by
        simp only [kV,or_imp,forall_and,p1,IB,forall_eq])
       rw [hcg];generalize oK (∀q∈ws++ps,q.1=q.2)=R at *;simp only at key;generalize (ws++ps).map jv=B at *;generalize ws.map jv=A at *;have JD:=eq_true hall;clear hall;refine aG rfl rfl ?_;simp [hwl,i0,i1,i2,i3,hwr,jv,hl1,hl2,hc,key,JD,ih]
theorem aix (a b:List aC) (ha:bY a) (hb:bY b) (hla:a.length<=1000000) (hlb:b.length<=1000000) (hs:bH a<=1000000):TT.lim 137 [.l (aA a),.l (aA b)]=some [.b (oK (a=b))]:=by
 have h:=aa0 (bH a+2) [(a,b)] (by simp [pU]) (by simp [pU];omega) (by intro q hq;simp at hq;subst hq;exact ⟨ha,hb,hla,hlb⟩);have hcg:oK (∀q∈[(a,b)],q.1=q.2)=oK (a=b):=abH (by simp);rw [hcg] at h;have hm:[(a,b)].map jv=[.g [.l (aA a),.l (aA b)]]:=rfl;rw [hm] at h;refine bD rfl rfl ?_ rfl;generalize oK (a=b)=r at *;cases r with
 | true=>simp at h;simp [h]
 | false=>simp at h;simp [h]
mutual
def toFt:aC->Ft
 | .mk t y n s k=>.mk [.int .u64 t,.int .i64 y,.int .u64 n,.string ⟨⟨s⟩⟩] (EM k)
def EM:List aC->List Ft
 | []=>[]
 | f::l=>toFt f::EM l
end
mutual
theorem apl:∀f:aC,zQ (toFt f) (l7 f)/\cntF (toFt f)<=oN f
 | .mk t y n s k=>by
   have h:=XW k;simp only [toFt,zQ,l7,cntF,oN];exact ⟨⟨_,_,_,_,_,rfl,rfl,h.1⟩,by omega⟩
theorem XW:∀l:List aC,nG (EM l) (aA l)/\lN (EM l)<=bH l
 | []=>by simp only [EM,nG,aA,lN,bH];exact ⟨trivial,dD _⟩
 | f::l=>by
   have h1:=apl f;have h2:=XW l;simp only [EM,nG,aA,lN,bH];exact ⟨⟨_,_,rfl,h1.1,h2.1⟩,by omega⟩
end
theorem Ou (l:List aC) (hs:bH l<=1000000):TT.lim 86 [.l (aA l)]=some [.l (aA l)]:=by
 refine KW (Ds:=Ds) (k:=86) (f:=Gf) rfl ?_;have h:=XW l;unfold Gf;exact aj ⟨EM l,h.1,by omega⟩
theorem OD:∀ (n:Nat) (l:List One) (deep:Int),bH (fA n l deep).1+2 * (fA n l deep).2.length<=2 * l.length
 | 0,l,deep=>by simp [fA,bH]
 | n+1,[],deep=>by simp [fA,bH]
 | n+1,x::l,deep=>by
   simp only [fA];split
   ·by_cases hx:x.deep=255
    ·rw [aj hx]
     have h1:=OD n l deep;simp only [bH,oN,iY];omega
    ·rw [ah hx]
     have h1:=OD n l (x.deep+1);have h2:=OD n (fA n l (x.deep+1)).2 deep;simp only [bH,oN,iY];omega
   ·simp [bH]
theorem acn (l:List One):bH (qI l)<=2 * l.length:=by
 have:=OD (l.length+1) l 0;unfold qI;omega
theorem acC (b:aJ) (fl:List aC) (t:List Row) (ht:t.length<=1000) (hd:∀r∈t,r.1.length<=40):∀ (m i:Nat),i+m=t.length->
 TT.lim 114 [.l ((t.take i).map row),.l (t.map row),.i .i64 t.length,.i .i64 i,.i .i64 b.kind,.i .u64 b.id,.i .u64 b.min,.i .u64 b.max,.i .u64 b.chosen,.i .u64 b.flags,.i .u64 b.cost,.i .u64 b.priority,.i .u64 b.deadline,.i .u64 b.retry,.i .u64 b.epoch,.i .u64 b.base,.i .u64 b.digest,.i .u64 b.lag,.i .u64 b.code,.i .u64 b.want,.i .i64 b.remaining,.b b.allowed,.s b.name,.s b.region,.s b.note,.l (b.d.map ent),.l (aA fl)]=some [.i .i64 0,.l (t.map row)]
 | 0,i,hi=>by
   have h0:t.take i=t:=lK (by omega);have h:¬ ((i:Int) < t.length):=by omega
   rw [h0];refine aG rfl rfl ?_;simp [h]
 | m+1,i,hi=>by
   have hlt:i < t.length:=by omega
   have ih:=acC b fl t ht hd m (i+1) (by omega);have h:((i:Int) < t.length):=by omega
   have hcast:((i+1:Nat):Int)=(i:Int)+1:=by omega
   have hwr:=wrap64 (n:=(i:Int)+1) (by omega) (by omega);have hg:(t.map row)[i]? = some (row t[i]):=by rw [iq,bP hlt];rfl
   have hc:=ZO t[i].1 (hd _ (je hlt));have hfold:GV.g [.l (t[i].1.map ent),.i .u64 t[i].2]=row t[i]:=rfl;have htk:(t.take (i+1)).map row=(t.take i).map row++[row t[i]]:=by rw [RI,bP hlt,sD];rfl
   rw [htk,hcast] at ih;have hel:(row t[i]).fO 2=true:=rfl;have hb1:2 * (((t.take i).map row).length+1) * 32<=281474976710656:=by simp;omega
   have hb2:((t.take i).map row).length<=281474976710655:=by simp;omega
   generalize (t.take i).map row=A at *;generalize t.map row=L at *;refine aG rfl rfl ?_;simp [h,hg,hc,hfold,hel,hb1,hb2,hwr,ih]
theorem acD (b:aJ) (fl:List aC) (hd:b.d.length<=40) (ht:vw b.t) (hs:bH fl<=1000000):TT.lim 112 [dU b (aA fl)]=some [dU b (aA fl)]:=by
 have ajs:∀r∈b.t,r.1.length<=40:=λr hr=>by
  have:=ht.few r hr;unfold gV at this;rw [aI,decide_eq_true_iff] at this;exact this.2
 have h1:=acC b fl b.t (by have:=ht.len;omega) ajs b.t.length 0 (by omega);have hl:=ht.len;rw [RN,show ((0:Nat):Int)=0 from rfl] at h1;have h2:=ZO b.d hd;have h3:=Ou fl hs;have hml:((b.t.map row).length:Int)=b.t.length:=by simp
 have hz1:(32:Int) * b.t.length<=281474976710656:=by omega
 have hz2:(b.t.length:Int)<=1152921504606846976:=by omega
 have hz3:b.t.length<=8796093022208:=by omega
 simp only [uD] at h1;generalize hL:b.t.map row=L at *;refine bD rfl rfl ?_ rfl;unfold dU;rw [hL];simp [hml,h1,h2,h3,GV.fO,hz1,hz2];try omega
def xI (n:Int):Int:=if n % 2=0 then n / 2 else -(n / 2) - 1
theorem aqb (n:Int) (h0:0<=n) (h1:n < 18446744073709551616):fG .and .u64 n 1=some (.i .u64 (n % 2))/\fG .xor .i64 (IntKind.i64.wrap (n / 2)) (IntKind.i64.wrap (0 - IntKind.i64.wrap (n % 2)))=some (.i .i64 (xI n))/\n.fdiv 2=n / 2:=by
 have wu:∀y:Int,IntKind.u64.wrap y=y % 18446744073709551616:=λy=>by simp [IntKind.wrap,IntKind.signed,IntKind.bits]
 have hu:IntKind.u64.bits=64:=rfl;have hi:IntKind.i64.bits=64:=rfl;refine ⟨?_, ?_,L8 _ (by decide)⟩
 ·simp only [fG,wu,hu]
  have e:(BitVec.ofInt 64 n &&& BitVec.ofInt 64 1).toNat=(BitVec.ofInt 64 n).toNat % 2:=by
   rw [Ym];exact Nat.and_one_is_mod _
  show some (GV.i IntKind.u64 (((BitVec.ofInt 64 n &&& BitVec.ofInt 64 1).toNat:Int) % 18446744073709551616))=_
  rw [e,wG];congr 2;omega
 ·rw [wrap64 (by omega) (by omega),wrap64 (n:=n % 2) (by omega) (by omega),wrap64 (by omega) (by omega)]
  simp only [fG,hi];unfold xI;by_cases h:n % 2=0
  ·rw [aj h,h]
   have e:BitVec.ofInt 64 (0 - 0)=0#64:=rfl;show some (GV.i IntKind.i64 (IntKind.i64.wrap ((BitVec.ofInt 64 (n / 2) ^^^ BitVec.ofInt 64 (0 - 0)).toNat:Int)))=_
   rw [e,BitVec.xor_zero,wG];congr 2;rw [wrap64 (by omega) (by omega)];omega
  ·rw [ah h,show n % 2=1 by omega]
   have e:BitVec.ofInt 64 (0 - 1)=BitVec.allOnes 64:=by decide
   show some (GV.i IntKind.i64 (IntKind.i64.wrap ((BitVec.ofInt 64 (n / 2) ^^^ BitVec.ofInt 64 (0 - 1)).toNat:Int)))=_
   rw [e,BitVec.xor_allOnes,BitVec.toNat_not,wG];congr 2;have wi:∀y:Int,IntKind.i64.wrap y=if y % 18446744073709551616>=9223372036854775808 then y % 18446744073709551616 - 18446744073709551616 else y % 18446744073709551616:=λy=>by
    simp [IntKind.wrap,IntKind.signed,IntKind.bits]
   rw [wi];split<;>omega
def setB (b:aJ) (n:Int) (s:List UInt8):Pl->aJ
 | .rem=>{ b with remaining:=xI n }
 | .allow=>{ b with allowed:=true }
 | .name=>{ b with name:=s }
 | .region=>{ b with region:=s }
 | .note=>{ b with note:=s }
 | .d=>{ b with d:=(lQ s).1 }
 | .t=>{ b with t:=(kD s).1 }
 | .num k=>match k with
   | 0=>{ b with id:=n }
   | 1=>{ b with min:=n }
   | 2=>{ b with max:=n }
   | 3=>{ b with chosen:=n }
   | 4=>{ b with flags:=n }
   | 5=>{ b with cost:=n }
   | 6=>{ b with priority:=n }
   | 7=>{ b with deadline:=n }
   | 8=>{ b with retry:=n }
   | 9=>{ b with epoch:=n }
   | 10=>{ b with base:=n }
   | 11=>{ b with digest:=n }
   | 12=>{ b with lag:=n }
   | 13=>{ b with code:=n }
   | _=>{ b with want:=n }
def nN (n:Int) (s:List UInt8):Pl->Int
 | .allow=>if n=1 then 0 else 18
 | .name=>ql s 0 256
 | .region=>ql s 0 256
 | .note=>ql s 0 256
 | .d=>(lQ s).2
 | .t=>if (kD s).2=0 then (if (kD s).1.length=0 then 17 else 0) else (kD s).2
 | _=>0
def iJ (ty n:Int) (s:List UInt8) (p:Pl):Int:=if ty=bF p then (if ty=0 then (if n=0 then 17 else nN n s p) else (if s=[] then 17 else nN n s p)) else 8
theorem akb (u:Int):TT.lim 116 [.i .i64 u]=some [.i .i64 (if u=0 then 0 else if u=1 then 0 else if u=2 then 0 else if u=3 then 1 else if u=4 then 1 else if u=5 then 1 else -1)]:=by
 refine bD rfl rfl ?_ rfl;by_cases h0:u=0
 ·simp [h0]
 by_cases h1:u=1
 ·simp [h1]
 by_cases h2:u=2
 ·simp [h2]
 by_cases h3:u=3
 ·simp [h3]
 by_cases h4:u=4
 ·simp [h4]
 by_cases h5:u=5
 ·simp [h5]
 simp [h0,h1,h2,h3,h4,h5]
/-- A message's cells, but for the first and the last one. -/
def dK (b:aJ):List GV:=[.i .u64 b.id,.i .u64 b.min,.i .u64 b.max,.i .u64 b.chosen,.i .u64 b.flags,.i .u64 b.cost,.i .u64 b.priority,.i .u64 b.deadline,.i .u64 b.retry,.i .u64 b.epoch,.i .u64 b.base,.i .u64 b.digest,.i .u64 b.lag,.i .u64 b.code,.i .u64 b.want,.i .i64 b.remaining,.b b.allowed,.s b.name,.s b.region,.s b.note,.l (b.d.map ent),.l (b.t.map row)]
/-- What set does. -/
def RX (b:aJ) (r:List GV) (tag ty n:Int) (s:List UInt8) (L:GV) (nm:List UInt8) (p:Pl):Prop:=∃b':aJ,TT.lim 115 [.s nm,.i .u64 tag,.i .i64 ty,.i .u64 n,.s s,L,.i .i64 b.kind,.i .u64 b.id,.i .u64 b.min,.i .u64 b.max,.i .u64 b.chosen,.i .u64 b.flags,.i .u64 b.cost,.i .u64 b.priority,.i .u64 b.deadline,.i .u64 b.retry,.i .u64 b.epoch,.i .u64 b.base,.i .u64 b.digest,.i .u64 b.lag,.i .u64 b.code,.i .u64 b.want,.i .i64 b.remaining,.b b.allowed,.s b.name,.s b.region,.s b.note,.l (b.d.map ent),.l (b.t.map row),.l r]=some ([.i .i64 0,.i .i64 (iJ ty n s p)]++dK b')/\(iJ ty n s p=0->b'=setB b n s p)
set_option maxHeartbeats 8000000 in
theorem aos (b:aJ) (r:List GV) (tag ty n:Int) (s:List UInt8) (L:GV) (hn:0<=n/\n < 18446744073709551616) (hs:s.length<=100000000) {nm:List UInt8} {p:Pl} (hp:placeOf nm=some p):RX b r tag ty n s L nm p:=by
 unfold RX;have hk:=akb;have hI:=JQ hp;have hok:=(mJ nm p hp).2.1;clear hp;by_cases h1:ty=bF p;rotate_left
 ·have e:iJ ty n s p=8:=by unfold iJ;rw [ah h1]
  refine ⟨b, ?_,λh=>by rw [e] at h;cases h⟩;rw [e];clear e;induction p,hok using Hq<;>(simp only [bF] at h1;refine aG rfl rfl ?_;simp [hI,dK,hk,h1])
 subst h1;by_cases h2:(bF p=0/\n=0)\/(bF p=1/\s=[])
 ·have e:iJ (bF p) n s p=17:=by
   unfold iJ;rw [aj rfl];rcases h2 with ⟨a,c⟩ | ⟨a,c⟩
   ·rw [aj a,aj c]
   ·rw [ah (by omega),aj c]
  refine ⟨b, ?_,λh=>by rw [e] at h;cases h⟩;rw [e];clear e;induction p,hok using Hq<;>(simp [bF] at h2;refine aG rfl rfl ?_;simp [hI,dK,hk,bF,h2])
 have e:iJ (bF p) n s p=nN n s p:=by
  unfold iJ;rw [aj rfl];by_cases a:bF p=0
  ·rw [aj a,ah λc=>h2 (.inl ⟨a,c⟩)]
  ·rw [ah a,ah λc=>h2 (.inr ⟨by cases p<;>simp [bF] at a ⊢,c⟩)]
 rw [e];clear e;induction p,hok using Hq
 case h0=>
  have h2:¬ n=0:=by simpa [bF] using h2
  obtain ⟨k1,k2,k3⟩:=aqb n hn.1 hn.2;refine ⟨{ b with remaining:=xI n }, ?_,λ_=>rfl⟩;show _=some ([GV.i .i64 0,GV.i .i64 0]++_)
  refine aG rfl rfl ?_;simp only [Int.zero_sub] at k2;simp [hI,dK,hk,bF,h2,mM,IntKind.bits,k1,k2,k3]
 case h1=>
  have h2:¬ n=0:=by simpa [bF] using h2
  by_cases h3:n=1
  ·have e2:nN n s .allow=0:=by unfold nN;rw [aj h3]
   rw [e2];refine ⟨{ b with allowed:=true }, ?_,λ_=>rfl⟩;refine aG rfl rfl ?_;simp [hI,dK,hk,bF,h2,h3]
  ·have e2:nN n s .allow=18:=by unfold nN;rw [ah h3]
   rw [e2];refine ⟨b, ?_,λh=>by cases h⟩;refine aG rfl rfl ?_;simp [hI,dK,hk,bF,h2,h3]
 case h5=>
  have h2:¬ s=[]:=by simpa [bF] using h2
  have hc:=aao s hs;refine ⟨{ b with d:=(lQ s).1 }, ?_,λ_=>rfl⟩;show _=some ([GV.i .i64 0,GV.i .i64 (lQ s).2]++_)
  refine aG rfl rfl ?_;simp [hI,dK,hk,bF,h2,hc]
 case h6=>
  have h2:¬ s=[]:=by simpa [bF] using h2
  have hc:=apm s hs;refine ⟨{ b with t:=(kD s).1 }, ?_,λ_=>rfl⟩;unfold nN;by_cases h3:(kD s).2=0
  ·rw [aj h3]
   by_cases h4:(kD s).1.length=0
   ·have h5:=jh h4
    rw [aj h4];refine aG rfl rfl ?_;simp [hI,dK,hk,bF,h2,hc,h3,h5]
   ·have h5:(kD s).1≠[]:=λe=>h4 (by rw [e];rfl)
    rw [ah h4];refine aG rfl rfl ?_;simp [hI,dK,hk,bF,h2,hc,h3,h5]
  ·rw [ah h3]
   refine aG rfl rfl ?_;simp [hI,dK,hk,bF,h2,hc,h3]
 all_goals first
  | (have h2:¬ s=[]:=by simpa [bF] using h2
     have hc:=FU s 0 256 (by omega);refine ⟨setB b n s _, ?_,λ_=>rfl⟩;show _=some ([GV.i .i64 0,GV.i .i64 (ql s 0 256)]++_)
     generalize ql s 0 256=u at *;refine aG rfl rfl ?_;simp [hI,dK,setB,hk,bF,h2,hc];done)
  | (have h2:¬ n=0:=by simpa [bF] using h2
     refine ⟨setB b n s _, ?_,λ_=>rfl⟩;show _=some ([GV.i .i64 0,GV.i .i64 0]++_)
     refine aG rfl rfl ?_;simp [hI,dK,setB,hk,bF,h2])
def bM:aJ:={ kind:=0,id:=0,min:=0,max:=0,chosen:=0,flags:=0,cost:=0,priority:=0,deadline:=0,retry:=0,epoch:=0,base:=0,digest:=0,lag:=0,code:=0,want:=0,remaining:=0,allowed:=false,name:=[],region:=[],note:=[],d:=[],t:=[] }
def Rj (b:aJ) (r:List GV) (ty n:Int) (s:List UInt8) (p:Pl):List GV:=if iJ ty n s p=0 then [dU (setB b n s p) r,.i .i64 0] else [dU bM [],.i .i64 (iJ ty n s p)]
def LP (b:aJ) (r:List GV) (ty n:Int) (s nm:List UInt8):List GV:=match placeOf nm with
 | some p=>Rj b r ty n s p
 | none=>[dU bM [],.i .i64 26]
theorem Lc (b:aJ) (n:Int) (s:List UInt8) (p:Pl):(setB b n s p).kind=b.kind:=by
 unfold setB;split<;>first | rfl | (split<;>rfl)
theorem aou (b:aJ) (r:List GV) (tag ty n:Int) (s:List UInt8) (L:GV) {nm:List UInt8} (hp:placeOf nm=none):TT.lim 115 [.s nm,.i .u64 tag,.i .i64 ty,.i .u64 n,.s s,L,.i .i64 b.kind,.i .u64 b.id,.i .u64 b.min,.i .u64 b.max,.i .u64 b.chosen,.i .u64 b.flags,.i .u64 b.cost,.i .u64 b.priority,.i .u64 b.deadline,.i .u64 b.retry,.i .u64 b.epoch,.i .u64 b.base,.i .u64 b.digest,.i .u64 b.lag,.i .u64 b.code,.i .u64 b.want,.i .i64 b.remaining,.b b.allowed,.s b.name,.s b.region,.s b.note,.l (b.d.map ent),.l (b.t.map row),.l r]=some ([.i .i64 0,.i .i64 26]++dK b):=by
 have hI:=abL hp;refine aG rfl rfl ?_;simp [dK,hI]
theorem aor (b:aJ) (r:List GV) (tag ty n:Int) (s:List UInt8) (L:GV) (hn:0<=n/\n < 18446744073709551616) (hs:s.length<=100000000) (nm:List UInt8):(∃p,placeOf nm=some p/\RX b r tag ty n s L nm p)\/(placeOf nm=none/\TT.lim 115 [.s nm,.i .u64 tag,.i .i64 ty,.i .u64 n,.s s,L,.i .i64 b.kind,.i .u64 b.id,.i .u64 b.min,.i .u64 b.max,.i .u64 b.chosen,.i .u64 b.flags,.i .u64 b.cost,.i .u64 b.priority,.i .u64 b.deadline,.i .u64 b.retry,.i .u64 b.epoch,.i .u64 b.base,.i .u64 b.digest,.i .u64 b.lag,.i .u64 b.code,.i .u64 b.want,.i .i64 b.remaining,.b b.allowed,.s b.name,.s b.region,.s b.note,.l (b.d.map ent),.l (b.t.map row),.l r]=some ([.i .i64 0,.i .i64 26]++dK b)):=by
 cases hp:placeOf nm with
 | some p=>exact .inl ⟨p,rfl,aos b r tag ty n s L hn hs hp⟩
 | none=>exact .inr ⟨rfl,aou b r tag ty n s L hp⟩
theorem acL (K:List GV) (b:aJ) (fl:List aC) (hd:b.d.length<=40) (ht:vw b.t) (hsz:bH fl<=1000000) (tag ty n:Int) (s:List UInt8) (hn:0<=n/\n < 18446744073709551616) (hs:s.length<=100000000) (nm:List UInt8) :
 TT.lim 111 [dU b (aA fl),.s nm,.g [.i .u64 tag,.i .i64 ty,.i .u64 n,.s s,.l K]]=some (LP b (aA fl) ty n s nm):=by
 have hc:=acD b fl hd ht hsz;have ha:=aor b (aA fl) tag ty n s (.l K) hn hs nm;generalize aA fl=r at *;have hz:GV.g [.i .i64 0,.i .u64 0,.i .u64 0,.i .u64 0,.i .u64 0,.i .u64 0,.i .u64 0,.i .u64 0,.i .u64 0,.i .u64 0,.i .u64 0,.i .u64 0,.i .u64 0,.i .u64 0,.i .u64 0,.i .u64 0,.i .i64 0,.b false,.s [],.s [],.s [],.l [],.l [],.l []]=dU bM []:=rfl;unfold LP;rcases ha with ⟨p,hp,b',h1,h2⟩ | ⟨hp,h1⟩
 ·rw [hp]
  simp only;unfold Rj;have hk:=Lc b n s p;generalize iJ ty n s p=e at *;by_cases he:e=0
  ·have h3:=h2 he
   rw [aj he];rw [he,h3] at h1;have hm:dU (setB b n s p) r=GV.g ([.i .i64 b.kind]++dK (setB b n s p)++[.l r]):=by rw [<- hk];rfl
   rw [hm];generalize setB b n s p=B at *;unfold dK at h1 ⊢;refine bD rfl rfl ?_ rfl;simp [jY,hc];simp [h1]
  ·rw [ah he]
   unfold dK at h1;rw [<- hz];refine bD rfl rfl ?_ rfl;simp [jY,hc];simp [h1,he]
 ·rw [hp]
  simp only;unfold dK at h1;rw [<- hz];refine bD rfl rfl ?_ rfl;simp [jY,hc];simp [h1]
theorem akR (b:aJ) (fl:List aC) (hd:b.d.length<=40) (ht:vw b.t) (hsz:bH fl<=1000000) (tag ty n:Int) (s:List UInt8) (hn:0<=n/\n < 18446744073709551616) (hs:s.length<=100000000) (nm:List UInt8) :
 TT.lim 111 [dU b (aA fl),.s nm,.g [.i .u64 tag,.i .i64 ty,.i .u64 n,.s s,.l []]]=some (LP b (aA fl) ty n s nm):=acL [] b fl hd ht hsz tag ty n s hn hs nm
def fD (b c:aJ):Pl->Prop
 | .rem=>b.remaining=c.remaining
 | .allow=>b.allowed=c.allowed
 | .name=>b.name=c.name
 | .region=>b.region=c.region
 | .note=>b.note=c.note
 | .d=>b.d=c.d
 | .t=>b.t=c.t
 | .num k=>jG b k=jG c k
theorem akT:dF=[J7,J8,J9,Ko,Kq,Kr,Kt,Ku,Kv,Kw,Ky,Kz,KA,KC,GY,GZ,KD,G5,KE,KF,KG,KH]:=rfl
theorem parts_all (b c:aJ) (hk:b.kind=c.kind):(∀n∈dF,∀p,placeOf n=some p->fD b c p)↔b=c:=by
 constructor
 ·intro h
  rw [akT] at h;have h0:∀ {n:List UInt8} {p:Pl},n∈[J7,J8,J9,Ko,Kq,Kr,Kt,Ku,Kv,Kw,Ky,Kz,KA,KC,GY,GZ,KD,G5,KE,KF,KG,KH]->placeOf n=some p->fD b c p:=λh1 h2=>h _ h1 _ h2;have amT:=h0 (by simp) ama;have amB:=h0 (by simp) alU;have amP:=h0 (by simp) ada;have amS:=h0 (by simp) ade;have amQ:=h0 (by simp) adb;have amH:=h0 (by simp) al0;have amV:=h0 (by simp) amc;have amL:=h0 (by simp) al4;have amO:=h0 (by simp) al7;have amN:=h0 (by simp) al6;have amD:=h0 (by simp) alW;have amK:=h0 (by simp) al3;have amF:=h0 (by simp) alY;have amR:=h0 (by simp) al9;have amG:=h0 (by simp) alZ;have amU:=h0 (by simp) amb;have amJ:=h0 (by simp) al2;have amC:=h0 (by simp) alV;have amI:=h0 (by simp) al1;have amM:=h0 (by simp) al5;have amE:=h0 (by simp) alX;have amW:=h0 (by simp) amd;clear h h0;cases b;cases c;simp only [fD,jG] at *;subst hk;subst amT;subst amB;subst amP;subst amS;subst amQ;subst amH;subst amV;subst amL;subst amO;subst amN;subst amD;subst amK;subst amF;subst amR;subst amG;subst amU;subst amJ;subst amC;subst amI;subst amM;subst amE;subst amW;rfl
 ·rintro rfl n _ p _
  cases p<;>simp [fD]
theorem aqc {n:Int} (hn:0<=n/\n < 18446744073709551616) : -9223372036854775808<=xI n/\xI n<=9223372036854775807:=by
 unfold xI;split<;>omega
theorem Qu {b:aJ} {n:Int} {s:List UInt8} {p:Pl} {ty:Int} (hb:qM b) (hd:gV b.d=true) (ht:vw b.t) (hn:0<=n/\n < 18446744073709551616) (hs:s.length<=100000000) (h:iJ ty n s p=0):qM (setB b n s p)/\gV (setB b n s p).d=true/\vw (setB b n s p).t:=by
 have hE:nN n s p=0:=by
  unfold iJ at h;split at h
  ·split at h<;>split at h<;>first | exact h | exact absurd h (by decide)
  ·exact absurd h (by decide)
 cases p with
 | rem=>exact ⟨{ hb with remaining:=aqc hn },hd,ht⟩
 | allow=>exact ⟨{ hb with },hd,ht⟩
 | name=>exact ⟨{ hb with name:=by show s.length<=_;omega },hd,ht⟩
 | region=>exact ⟨{ hb with region:=by show s.length<=_;omega },hd,ht⟩
 | note=>exact ⟨{ hb with note:=by show s.length<=_;omega },hd,ht⟩
 | d=>
   have hp:=TI (s:=s) hE hs;exact ⟨{ hb with d:=hp.ents },hp.few,ht⟩
 | t=>
   have hp:=(aew (s:=s) hs).1;exact ⟨{ hb with t:=hp.rows },hd,hp.good⟩
 | num k=>
   unfold setB;split<;>rename_i hk
   ·exact absurd hk (by simp)
   ·exact absurd hk (by simp)
   ·exact absurd hk (by simp)
   ·exact absurd hk (by simp)
   ·exact absurd hk (by simp)
   ·exact absurd hk (by simp)
   ·exact absurd hk (by simp)
   ·split<;>exact ⟨by constructor<;>first | exact hn | exact hb.kind | exact hb.id | exact hb.min | exact hb.max | exact hb.chosen | exact hb.flags | exact hb.cost | exact hb.priority | exact hb.deadline | exact hb.retry | exact hb.epoch | exact hb.base | exact hb.digest | exact hb.lag | exact hb.code | exact hb.want | exact hb.remaining | exact hb.name | exact hb.region | exact hb.note | exact hb.d | exact hb.t,hd,ht⟩
structure jE (b:aJ) (fl:List aC):Prop where
 body:qM b
 d:gV b.d=true
 t:vw b.t
 f8:bY fl
 len:fl.length<=1000000
theorem LU:jE bM []:=⟨by constructor<;>simp [bM,rZ,Rows],by simp [bM,gV],⟨by simp [bM],by intro r hr;simp [bM] at hr,by simp [bM,Rows]⟩,by simp only [bY],by simp⟩
theorem adA {b:aJ} {l:List One} (hb:qM b) (hl:Ones l) (h:BG b l=true):jE b (qI l)/\bH (qI l)<=1000000/\sZ l=true:=by
 unfold BG at h;simp only [aI] at h;obtain ⟨hok,hlen⟩:=akz l hl h.2.2.2.2.2;have h60:l.length<=60:=by
  have:=h.2.2.2.2.2;unfold sZ at this;rw [aI,decide_eq_true_iff] at this;exact this.2
 have hsz:=acn l;exact ⟨⟨hb,h.2.2.2.1,aiP hb.t h.2.2.2.2.1,hok,hlen⟩,by omega,h.2.2.2.2.2⟩
theorem acK (b:aJ) (r:List GV) (hb:qM b) (hd:gV b.d=true) (hf:zf b.t) (n:List UInt8):(∃p,placeOf n=some p/\TT.lim 77 [dU b r,.s n]=some [.g [.i .u64 0,.i .i64 (bF p),.i .u64 (aK b p).1,.s (aK b p).2,.l []],.b true])\/
 (placeOf n=none/\TT.lim 77 [dU b r,.s n]=some [.g [.i .u64 0,.i .i64 0,.i .u64 0,.s [],.l []],.b false]):=by
 cases hp:placeOf n with
 | some p=>exact .inl ⟨p,rfl,akP b r hb (λ_=>hd) (λ_=>hf) hp⟩
 | none=>exact .inr ⟨rfl,akQ b r hp⟩
theorem VH {b:aJ} {fl:List aC} (h:jE b fl) {n:List UInt8} {p:Pl} (hp:placeOf n=some p):TT.lim 77 [dU b (aA fl),.s n]=some [.g [.i .u64 0,.i .i64 (bF p),.i .u64 (aK b p).1,.s (aK b p).2,.l []],.b true]:=by
 rcases acK b (aA fl) h.body h.d h.t.few n with ⟨q,hq,hv⟩ | ⟨hq, -⟩
 ·rw [hp] at hq
  injection hq with hq
  rw [hq];exact hv
 ·rw [hp] at hq;cases hq
/-- A message, one part told anew. -/
def uX (b c:aJ):Pl->aJ
 | .rem=>{ c with remaining:=b.remaining }
 | .allow=>{ c with allowed:=b.allowed }
 | .name=>{ c with name:=b.name }
 | .region=>{ c with region:=b.region }
 | .note=>{ c with note:=b.note }
 | .d=>{ c with d:=b.d }
 | .t=>{ c with t:=b.t }
 | .num k=>match k with
   | 0=>{ c with id:=b.id }
   | 1=>{ c with min:=b.min }
   | 2=>{ c with max:=b.max }
   | 3=>{ c with chosen:=b.chosen }
   | 4=>{ c with flags:=b.flags }
   | 5=>{ c with cost:=b.cost }
   | 6=>{ c with priority:=b.priority }
   | 7=>{ c with deadline:=b.deadline }
   | 8=>{ c with retry:=b.retry }
   | 9=>{ c with epoch:=b.epoch }
   | 10=>{ c with base:=b.base }
   | 11=>{ c with digest:=b.digest }
   | 12=>{ c with lag:=b.lag }
   | 13=>{ c with code:=b.code }
   | _=>{ c with want:=b.want }
theorem ams (b c:aJ) (p:Pl):(uX b c p).kind=c.kind:=by
 unfold uX;split<;>first | rfl | (split<;>rfl)
theorem amu (b c:aJ) (j k:Nat) (hk:k < 15) (hj:j < 15) (hne:j≠k):jG (uX b c (.num k)) j=jG c j:=by
 rcases k with _ | _ | _ | _ | _ | _ | _ | _ | _ | _ | _ | _ | _ | _ | _ | k
 all_goals first | (exfalso;omega) | skip
 all_goals (rcases j with _ | _ | _ | _ | _ | _ | _ | _ | _ | _ | _ | _ | _ | _ | _ | j)<;>first | rfl | exact absurd rfl hne | (exfalso;omega)
theorem aqd (x:Int) (h : -9223372036854775808<=x/\x<=9223372036854775807):xI (zz x)=x:=by
 unfold xI zz;split<;>split<;>omega
theorem ap9 (x:Int) (h : -9223372036854775808<=x/\x<=9223372036854775807):0<=zz x/\zz x < 18446744073709551616:=by
 unfold zz;split<;>omega
theorem ac4 (t:List Row) (ht:vw t):(lG t).length<=90000000:=by
 have h:=Xo t [] (λr hr=>⟨ht.few r hr,(ht.rows.2 r hr).2⟩);have h3:=ht.len;have hv:(aS t.length).length<=20:=by
  have:=lI (n:=t.length) (by omega);omega
 unfold lG;rw [dH];have:40000 * t.length<=40000 * 300:=MK _ h3;omega
/-- What may be, and is something, is put as it was read. -/
theorem aot {b:aJ} {fl:List aC} (h:jE b fl) (hw:b.name.length<=600/\b.region.length<=600/\b.note.length<=600) (p:Pl) (hm:jo b p=0) (hne:¬ ((aK b p).1=0/\(aK b p).2=[])) :
 iJ (bF p) (aK b p).1 (aK b p).2 p=0/\(0<=(aK b p).1/\(aK b p).1 < 18446744073709551616)/\(aK b p).2.length<=100000000/\∀c,setB c (aK b p).1 (aK b p).2 p=uX b c p:=by
 cases p with
 | rem=>
   have hx:=h.body.remaining;have hz:=aqd b.remaining hx;have hl:=ap9 b.remaining hx;simp only [aK] at hne ⊢;have hn0:¬ zz b.remaining=0:=λe=>hne ⟨e,trivial⟩;refine ⟨by unfold iJ;simp [bF,hn0,nN],hl,by simp,λc=>?_⟩;simp only [setB,hz,uX]
 | allow=>
   simp only [aK] at hne ⊢;cases ha:b.allowed with
   | false=>rw [ha] at hne;exact absurd ⟨rfl,trivial⟩ hne
   | true=>
     refine ⟨by unfold iJ;simp [bF,nN],by simp,by simp,λc=>?_⟩;simp only [setB,uX,ha]
 | name=>
   simp only [aK] at hne ⊢;have hn0:¬ b.name=[]:=λe=>hne ⟨trivial,e⟩;simp only [jo] at hm;refine ⟨by unfold iJ;simp [bF,hn0,nN,hm],by simp,by omega,λc=>rfl⟩
 | region=>
   simp only [aK] at hne ⊢;have hn0:¬ b.region=[]:=λe=>hne ⟨trivial,e⟩;simp only [jo] at hm;refine ⟨by unfold iJ;simp [bF,hn0,nN,hm],by simp,by omega,λc=>rfl⟩
 | note=>
   simp only [aK] at hne ⊢;have hn0:¬ b.note=[]:=λe=>hne ⟨trivial,e⟩;simp only [jo] at hm;refine ⟨by unfold iJ;simp [bF,hn0,nN,hm],by simp,by omega,λc=>rfl⟩
 | d=>
   simp only [aK] at hne ⊢;have hd0:b.d≠[]:=λe=>hne ⟨trivial,by rw [aj e]⟩;simp only [jo,ah hd0] at hm;have hp:=aap b.d hm;have hk:=JV h.d;have hk0:iC b.d≠[]:=λe=>hne ⟨trivial,by rw [ah hd0];exact e⟩;rw [ah hd0];refine ⟨?_,by simp,by omega,λc=>?_⟩
   ·unfold iJ
    simp [bF,hk0,nN,hp]
   ·simp only [setB,uX,hp]
 | t=>
   simp only [aK] at hne ⊢;have ht0:b.t≠[]:=λe=>hne ⟨trivial,by rw [aj e]⟩;simp only [jo] at hm;have hk:vX b.t=(lG b.t,0):=by unfold vX;rw [ah (by simpa using hm)]
   rw [ah ht0,hk] at hne ⊢;have hp:=apn b.t ⟨(Tf _).1 hm,h.t.few,h.t.rows⟩;have hl:=ac4 b.t h.t;have hk0:lG b.t≠[]:=λe=>hne ⟨trivial,e⟩;refine ⟨?_,by simp,by simp only;omega,λc=>?_⟩
   ·have hl0:¬ b.t.length=0:=λe=>ht0 (jh e)
    unfold iJ;simp [bF,hk0,nN,hp,hl0,ht0]
   ·simp only [setB,uX,hp]
 | num k=>
   simp only [aK] at hne ⊢;have hn0:¬ jG b k=0:=λe=>hne ⟨e,trivial⟩;refine ⟨by unfold iJ;simp [bF,hn0,nN], ?_,by simp,λc=>?_⟩
   ·have q:=h.body
    unfold jG;split<;>first | exact q.id | exact q.min | exact q.max | exact q.chosen | exact q.flags | exact q.cost | exact q.priority | exact q.deadline | exact q.retry | exact q.epoch | exact q.base | exact q.digest | exact q.lag | exact q.code | exact q.want
   ·rcases k with _ | _ | _ | _ | _ | _ | _ | _ | _ | _ | _ | _ | _ | _ | k<;>rfl
theorem PO (b:aJ):∀ (l:List bJ),lD b l=0->∀s∈l,tX b s.name=0
 | [],_,s,hs=>by cases hs
 | x::l,h,s,hs=>by
   unfold lD at h;split at h
   ·rename_i h0
    rcases bU.1 hs with rfl | hs
    ·exact h0
    ·exact PO b l h s hs
   ·rename_i h0
    exact absurd h h0
theorem ak3 (b:aJ) (p:Pl) (h:fB b p=true):(aK b p).1=0/\(aK b p).2=[]:=by
 cases p with
 | rem=>simp only [fB,decide_eq_true_iff] at h;simp [aK,h,zz]
 | allow=>simp only [fB,uz] at h;simp [aK,h]
 | num k=>simp only [fB,decide_eq_true_iff] at h;simp [aK,h]
 | _=>simp only [fB,decide_eq_true_iff] at h;simp [aK,h]
theorem af6 {b:aJ} {fl:List aC} {v:Int} (h:eY b fl v=0) {n:List UInt8} {p:Pl} (hp:placeOf n=some p) (hne:¬ ((aK b p).1=0/\(aK b p).2=[])):jo b p=0:=by
 unfold eY at h;split at h; · cases h
 split at h; · cases h
 split at h; · cases h
 split at h; · cases h
 rename_i hall
 split at h
 ·rename_i hm;exact absurd h hm
 rename_i hm
 have hm:lD b (aB b.kind v)=0:=by simpa using hm
 have hall:dF.all (λn=>jA (aB b.kind v) n || lF b n)=true:=by rw [L6] at hall;exact hall
 have h1:=List.all_eq_true.1 hall n (mJ n p hp).2.2;have h2:lF b n=fB b p:=by unfold lF;rw [hp]
 rw [h2] at h1;cases hn:fB b p with
 | true=>exact absurd (ak3 b p hn) hne
 | false=>
   rw [hn,y8] at h1;unfold jA at h1;rw [List.any_eq_true] at h1;obtain ⟨s,hs,e⟩:=h1;have e:s.name=n:=by simpa using e
   have h3:=PO b _ hm s hs;unfold tX at h3;rw [e,hp] at h3;exact h3
end U
end Go.Proofs.YtjglbndncdkhhaaGreatDoor
