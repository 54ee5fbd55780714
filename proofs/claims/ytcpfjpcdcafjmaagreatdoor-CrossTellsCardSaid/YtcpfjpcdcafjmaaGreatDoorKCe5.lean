/- What the trees compute: plain laws. -/
import Derived.Test.YtcpfjpcdcafjmaaGreatDoorKCe4
namespace Go.Proofs.YtcpfjpcdcafjmaaGreatDoor
open Go Go.aN
set_option linter.unusedSimpArgs false
set_option linter.unusedVariables false
set_option maxRecDepth 100000
namespace C
noncomputable def fH (p:Prop):Bool:=@decide p (Classical.propDecidable p)
theorem tq {p:Prop} (h:p):fH p=true:=@Dh p (Classical.propDecidable p) h
theorem mG {p:Prop} (h:¬ p):fH p=false:=@Bd p (Classical.propDecidable p) h
theorem zN {p q:Prop} (h:p↔q):fH p=fH q:=by rw [propext h]
def Rk (t y n:Int) (s:List UInt8) (k:List bH):GV:=.g [.i .u64 t,.i .i64 y,.i .u64 n,.s s,.l (aQ k)]
@[simp] theorem apB (t y n:Int) (s:List UInt8) (k:List bH):(Rk t y n s k).cells=[.i .u64 t,.i .i64 y,.i .u64 n,.s s,.l (aQ k)]:=rfl
theorem MG {l:List bH} {i:Nat} (h:i < l.length):∃t y n s k,l[i]? = some (.mk t y n s k)/\(aQ l)[i]? = some (Rk t y n s k)/\l.drop i=.mk t y n s k::l.drop (i+1)/\bH.mk t y n s k∈l:=by
 have hget:(aQ l)[i]? = some (sQ l[i]):=by rw [Rn,jU,dK h];rfl
 have hd:=fZ h;have hm:=iI h;have hg:=dK h;cases hf:l[i] with
 | mk t y n s k=>
   rw [hf] at hget hd hm hg;exact ⟨t,y,n,s,k,hg,by rw [hget];simp only [sQ];rfl,hd,hm⟩
theorem U3:∀ (N:Nat) (a b:List bH),iR a < N->jB a->jB b->a.length<=1000000->b.length<=1000000->TT.lim 124 [.l (aQ a),.l (aQ b)]=some [.b (fH (a=b))]
 | 0,a,b,hN,_,_,_,_=>by omega
 | N+1,a,b,hN,ha,hb,hla,hlb=>by
   have hl1:=vH a;have hl2:=vH b;by_cases hl:a.length=b.length;rotate_left
   ·have hne:fH (a=b)=false:=mG λe=>hl (by rw [e])
    have hc:¬ ((a.length:Int)=(b.length:Int)):=by omega
    rw [hne];refine aA rfl rfl ?_ rfl;simp [hl1,hl2,hc]
   have loop:∀m i,i+m=a.length->TT.lim 125 [.l (aQ a),.l (aQ b),.i .i64 a.length,.i .i64 i]=some [.i .i64 (if fH (a.drop i=b.drop i)=true then 1 else 0)]:=by
    intro m;induction m with
    | zero=>
      intro i hi;have e1:a.drop i=[]:=eY (by omega);have e2:b.drop i=[]:=eY (by omega);have h:¬ ((i:Int) < a.length):=by omega
      have ht:fH (a.drop i=b.drop i)=true:=tq (by rw [e1,e2]);rw [ht];refine aC rfl rfl ?_;simp [h]
    | succ m ih=>
      intro i hi;obtain ⟨t,y,n,s,k,g1,g2,g3,g4⟩:=MG (l:=a) (i:=i) (by omega);obtain ⟨t',y',n',s',k',g1',g2',g3',g4'⟩:=MG (l:=b) (i:=i) (by omega);have hf:=MH ha _ g4;have hf':=MH hb _ g4';simp only [Fj] at hf hf';have hs:=VT g4;simp only [yV] at hs;have hk:=U3 N k k' (by omega) hf.2 hf'.2 hf.1.2.2.2.2.2.2.2 hf'.1.2.2.2.2.2.2.2;have ih':=ih (i+1) (by omega);have hcast:((i+1:Nat):Int)=(i:Int)+1:=by omega
      rw [hcast] at ih';have hwr:=wrap64 (n:=(i:Int)+1) (by omega) (by omega);have h:((i:Int) < a.length):=by omega
      have hda:(a.drop i=b.drop i)↔(t=t'/\y=y'/\n=n'/\s=s'/\k=k'/\a.drop (i+1)=b.drop (i+1)):=by
       rw [g3,g3'];simp [and_assoc]
      rw [zN hda];clear hda g1 g1' g3 g3' g4 g4' hf hf' hs;by_cases c1:t=t';rotate_left
      ·rw [mG λh=>c1 h.1]
       refine aC rfl rfl ?_;simp [h,g2,g2',c1]
      by_cases c2:y=y';rotate_left
      ·rw [mG λh=>c2 h.2.1]
       refine aC rfl rfl ?_;simp [h,g2,g2',c1,c2]
      by_cases c3:n=n';rotate_left
      ·rw [mG λh=>c3 h.2.2.1]
       refine aC rfl rfl ?_;simp [h,g2,g2',c1,c2,c3]
      by_cases c4:s=s';rotate_left
      ·rw [mG λh=>c4 h.2.2.2.1]
       refine aC rfl rfl ?_;simp [h,g2,g2',c1,c2,c3,c4]
      by_cases c5:k=k';rotate_left
      ·rw [mG λh=>c5 h.2.2.2.2.1]
       rw [mG c5] at hk;refine aC rfl rfl ?_;simp [h,g2,g2',c1,c2,c3,c4,hk]
      rw [tq c5] at hk;have hq:fH (t=t'/\y=y'/\n=n'/\s=s'/\k=k'/\a.drop (i+1)=b.drop (i+1))=fH (a.drop (i+1)=b.drop (i+1)):=zN ⟨λh=>h.2.2.2.2.2,λh=>⟨c1,c2,c3,c4,c5,h⟩⟩;rw [hq];generalize fH (a.drop (i+1)=b.drop (i+1))=r at *;refine aC rfl rfl ?_;simp [h,g2,g2',c1,c2,c3,c4,hk,hwr,ih']
   have h0:=loop a.length 0 (by omega);rw [dJ,dJ] at h0;have h0':TT.lim 125 [.l (aQ a),.l (aQ b),.i .i64 (aQ a).length,.i .i64 0]=some [.i .i64 (if fH (a=b)=true then 1 else 0)]:=by rw [hl1];exact h0
   have hc:b.length=a.length:=by omega
   clear loop h0;refine aA rfl rfl ?_ rfl;generalize fH (a=b)=r at *;rw [hl1] at h0';cases r with
   | true=>simp at h0';simp [hl1,hl2,hc,h0']
   | false=>simp at h0';simp [hl1,hl2,hc,h0']
/-- What is still to be compared behind two lists' fields. -/
def qj:List bH->List bH->Option (List (List bH×List bH))
 | .mk t y n s k::a,.mk t' y' n' s' k'::b=>if t=t'/\y=y'/\n=n'/\s=s' then (qj a b).map λr=>(if k.length=0/\k'.length=0 then [] else [(k,k')])++r else none
 | _,_=>some []
def jl (q:List bH×List bH):GV:=.g [.l (aQ q.1),.l (aQ q.2)]
@[simp] theorem aqU (q:List bH×List bH):(jl q).cells=[.l (aQ q.1),.l (aQ q.2)]:=rfl
def qh:List (List bH×List bH)->Nat
 | []=>0
 | q::l=>iR q.1+1+qh l
theorem NR:∀ (a b:List (List bH×List bH)),qh (a++b)=qh a+qh b
 | [],b=>by simp [qh]
 | q::a,b=>by simp only [eP,qh,NR a b];omega
theorem abd:∀ (a:List (List bH×List bH)),a.length<=qh a
 | []=>by simp [qh]
 | q::a=>by have:=abd a;simp only [lq,qh];omega
def okP (q:List bH×List bH):Prop:=jB q.1/\jB q.2/\q.1.length<=1000000/\q.2.length<=1000000
theorem abG:∀ (a b:List bH),a.length=b.length->jB a->jB b->(match qj a b with
 | none=>a≠b
 | some ps=>((∀q∈ps,q.1=q.2)↔a=b)/\qh ps<=iR a/\∀q∈ps,okP q)
 | [],[],_,_,_=>by simp [qj,qh]
 | [],_::_,e,_,_=>by simp at e
 | _::_,[],e,_,_=>by simp at e
 | .mk t y n s k::a,.mk t' y' n' s' k'::b,e,ha,hb=>by
   simp only [jB,Fj] at ha hb;have ih:=abG a b (by simpa using e) ha.2 hb.2;unfold qj;by_cases hc:t=t'/\y=y'/\n=n'/\s=s'
   ·rw [ak hc]
    obtain ⟨rfl,rfl,rfl,rfl⟩:=hc;cases hp:qj a b with
    | none=>
      rw [hp] at ih;simp only [Option.map_none];intro h;injection h with h1 h2
      exact ih h2
    | some ps=>
      rw [hp] at ih;obtain ⟨i1,i2,i3⟩:=ih;simp only [fQ];by_cases hk:k.length=0/\k'.length=0
      ·rw [ak hk]
       have e1:=jw hk.1;have e2:=jw hk.2;subst e1;subst e2;refine ⟨by simpa using i1,by simp only [dD,iR,yV];omega,by simpa using i3⟩
      ·rw [ah hk]
       refine ⟨?_,by simp only [eP,dD,qh,iR,yV];omega,λq hq=>?_⟩
       ·simp only [eP,dD,dP,forall_eq_or_imp,i1]
        constructor
        ·rintro ⟨h1,h2⟩;rw [h1,h2]
        ·intro h
         injection h with h1 h2
         injection h1 with _ _ _ _ h5
         exact ⟨h5,h2⟩
       ·simp only [eP,dD,dP] at hq
        rcases hq with rfl | hq
        ·exact ⟨ha.1.2,hb.1.2,ha.1.1.2.2.2.2.2.2.2,hb.1.1.2.2.2.2.2.2.2⟩
        ·exact i3 q hq
   ·rw [ah hc]
    intro h;injection h with h1 h2
    injection h1 with k1 k2 k3 k4 _
    exact hc ⟨k1,k2,k3,k4⟩
theorem Rt (a b:List bH) (hl:a.length=b.length) (hla:a.length<=1000000) (ha:jB a) (hb:jB b):∀ (m i:Nat) (acc:List (List bH×List bH)),i+m=a.length->acc.length+m<=4000000->
 TT.lim 120 [.l (acc.map jl),.i .i64 a.length,.i .i64 i,.l (aQ a),.l (aQ b)]=some (match qj (a.drop i) (b.drop i) with | none=>[.i .i64 0] | some ps=>[.i .i64 1,.l ((acc++ps).map jl)])
 | 0,i,acc,hi,hacc=>by
   have e1:a.drop i=[]:=eY (by omega);have e2:b.drop i=[]:=eY (by omega);have h:¬ ((i:Int) < a.length):=by omega
   rw [e1,e2];simp only [qj,qV];generalize acc.map jl=A at *;refine aC rfl rfl ?_;simp [h]
 | m+1,i,acc,hi,hacc=>by
   obtain ⟨t,y,n,s,k,g1,g2,g3,g4⟩:=MG (l:=a) (i:=i) (by omega);obtain ⟨t',y',n',s',k',g1',g2',g3',g4'⟩:=MG (l:=b) (i:=i) (by omega);have hwr:=wrap64 (n:=(i:Int)+1) (by omega) (by omega);have h:((i:Int) < a.length):=by omega
   have hcast:((i+1:Nat):Int)=(i:Int)+1:=by omega
   have hz1:=vH k;have hz2:=vH k';rw [g3,g3'];unfold qj;by_cases c1:t=t';rotate_left
   ·rw [ah λh=>c1 h.1]
    refine aC rfl rfl ?_;simp [h,g2,g2',c1]
   by_cases c2:y=y';rotate_left
   ·rw [ah λh=>c2 h.2.1]
    refine aC rfl rfl ?_;simp [h,g2,g2',c1,c2]
   by_cases c3:n=n';rotate_left
   ·rw [ah λh=>c3 h.2.2.1]
    refine aC rfl rfl ?_;simp [h,g2,g2',c1,c2,c3]
   by_cases c4:s=s';rotate_left
   ·rw [ah λh=>c4 h.2.2.2]
    refine aC rfl rfl ?_;simp [h,g2,g2',c1,c2,c3,c4]
   rw [ak ⟨c1,c2,c3,c4⟩];by_cases hk:k.length=0/\k'.length=0
   ·rw [ak hk]
    have ih':=Rt a b hl hla ha hb m (i+1) acc (by omega) (by omega);rw [hcast] at ih';have z1:=jw hk.1;have z2:=jw hk.2;have hR:(match Option.map (λr=>[]++r) (qj (a.drop (i+1)) (b.drop (i+1))) with | none=>[GV.i .i64 0] | some ps=>[GV.i .i64 1,GV.l ((acc++ps).map jl)])=(match qj (a.drop (i+1)) (b.drop (i+1)) with | none=>[GV.i .i64 0] | some ps=>[GV.i .i64 1,GV.l ((acc++ps).map jl)]):=by
     cases qj (a.drop (i+1)) (b.drop (i+1))<;>simp
    rw [hR];generalize (match qj (a.drop (i+1)) (b.drop (i+1)) with | none=>[GV.i .i64 0] | some ps=>[GV.i .i64 1,GV.l ((acc++ps).map jl)])=R at *;generalize acc.map jl=A at *;refine aC rfl rfl ?_;simp [h,g2,g2',c1,c2,c3,c4,z1,z2,aQ,hwr,ih']
   ·rw [ah hk]
    have ih':=Rt a b hl hla ha hb m (i+1) (acc++[(k,k')]) (by omega) (by simp;omega);rw [hcast] at ih';have hR:(match Option.map (λr=>[(k,k')]++r) (qj (a.drop (i+1)) (b.drop (i+1))) with | none=>[GV.i .i64 0] | some ps=>[GV.i .i64 1,GV.l ((acc++ps).map jl)])=(match qj (a.drop (i+1)) (b.drop (i+1)) with | none=>[GV.i .i64 0] | some ps=>[GV.i .i64 1,GV.l ((acc++[(k,k')]++ps).map jl)]):=by
     cases qj (a.drop (i+1)) (b.drop (i+1))<;>simp
    rw [hR];generalize (match qj (a.drop (i+1)) (b.drop (i+1)) with | none=>[GV.i .i64 0] | some ps=>[GV.i .i64 1,GV.l ((acc++[(k,k')]++ps).map jl)])=R at *;have hmap:(acc++[(k,k')]).map jl=acc.map jl++[.g [.l (aQ k),.l (aQ k')]]:=by simp [jl]
    rw [hmap] at ih';have hb1:2 * ((acc.map jl).length+1) * 48<=281474976710656/\(acc.map jl).length+1<=281474976710656:=by rw [oQ];omega
    generalize acc.map jl=A at *;have hb2:A.length<=281474976710655:=by omega
    by_cases z0:k.length=0;rotate_left
    ·have z1:0 < k.length:=by omega
     have z3:k≠[]:=λe=>by rw [e] at z0;exact z0 rfl
     have hel:GV.fV 2 (.g [.l (aQ k),.l (aQ k')])=true:=rfl;refine aC rfl rfl ?_;simp [h,g2,g2',c1,c2,c3,c4,hz1,hz2,z1,z3,hwr,ih',hel,hb1,hb2]
    ·have z1:=jw z0
     have z2:0 < k'.length:=by omega
     have z3:k'≠[]:=λe=>by rw [e] at z2;exact absurd z2 (by simp)
     subst z1;have hel:GV.fV 2 (.g [.l [],.l (aQ k')])=true:=rfl;simp only [aQ,Rk] at ih' g2 hz1;refine aC rfl rfl ?_;simp [h,g2,g2',c1,c2,c3,c4,hz2,z2,z3,hwr,ih',hel,hb1,hb2]
theorem ZC:∀ (N:Nat) (work:List (List bH×List bH)),qh work < N->qh work<=2000000->(∀q∈work,okP q)->TT.lim 119 [.l (work.map jl)]=some [.i .i64 (if fH (∀q∈work,q.1=q.2)=true then 1 else 0)]
 | 0,work,hN,_,_=>by omega
 | N+1,work,hN,hM,hok=>by
   rcases adx work with rfl | ⟨ws,q,rfl⟩
   ·have ht:fH (∀q∈([]:List (List bH×List bH)),q.1=q.2)=true:=tq (by simp)
    rw [ht];refine aC rfl rfl ?_;simp
   ·rw [adw] at *
    obtain ⟨a,b⟩:=q;have hq:=hok (a,b) (by simp);obtain ⟨q1,q2,q3,q4⟩:=hq;simp only at q1 q2 q3 q4;have hlen:=abd ws;rw [NR] at hN hM;simp only [qh] at hN hM;have hl1:=vH a;have hl2:=vH b;have hmap:(ws++[(a,b)]).map jl=ws.map jl++[jl (a,b)]:=by simp
    have hwl:(ws.map jl).length=ws.length:=oQ ..;have hall:∀x∈ws.map jl,x.cells.length=2:=by
     intro x hx;obtain ⟨r,_,rfl⟩:=qB.1 hx;rfl
    have key:=Rt a b;have i0:(0:Int) < (ws.length:Int)+1:=by omega
    have i1:(ws.length:Int)+1 - 1=ws.length:=by omega
    have i2:(ws.length:Int) < (ws.length:Int)+1:=by omega
    have i3:(ws.length:Int)<=(ws.length:Int)+1:=by omega
    have hwr:=wrap64 (n:=(ws.length:Int)) (by omega) (by omega);rw [hmap];by_cases hl:a.length=b.length;rotate_left
    ·have hne:fH (∀q∈ws++[(a,b)],q.1=q.2)=false:=mG λh=>hl (vF List.length (h (a,b) (by simp)))
     have hc:¬ ((a.length:Int)=(b.length:Int)):=by omega
     rw [hne];generalize ws.map jl=A at *;have Jb:=eq_true hall;clear hall;refine aC rfl rfl ?_;simp [hwl,i0,i1,i2,i3,hwr,jl,hl1,hl2,hc,Jb]
    ·have hpo:=abG a b hl q1 q2
     have key:=key hl q3 q1 q2 a.length 0 ws (by omega) (by omega);rw [dJ,dJ,show ((0:Nat):Int)=0 from rfl] at key;have hc:b.length=a.length:=by omega
     cases hp:qj a b with
     | none=>
       rw [hp] at hpo key;have hne:fH (∀q∈ws++[(a,b)],q.1=q.2)=false:=mG λh=>hpo (h (a,b) (by simp));rw [hne];simp only at key;generalize ws.map jl=A at *;have hA:A.length < 281474976710656:=by omega
       have Jb:=eq_true hall;clear hall;refine aC rfl rfl ?_;simp [hwl,i0,i1,i2,i3,hwr,jl,hl1,hl2,hc,key,Jb]
     | some ps=>
       rw [hp] at hpo key;obtain ⟨p1,p2,p3⟩:=hpo;have ih:=ZC N (ws++ps) (by rw [NR];omega) (by rw [NR];omega) (λq hq=>by
        rcases nI.1 hq with hq | hq
        ·exact hok q (by simp [hq])
        ·exact p3 q hq)
       have hcg:fH (∀q∈ws++[(a,b)],q.1=q.2)=fH (∀q∈ws++ps,q.1=q.2):=zN (by
        simp only [nI,or_imp,forall_and,p1,Ho,forall_eq])
       rw [hcg];generalize fH (∀q∈ws++ps,q.1=q.2)=R at *;simp only at key;generalize (ws++ps).map jl=B at *;generalize ws.map jl=A at *;have Jb:=eq_true hall;clear hall;refine aC rfl rfl ?_;simp [hwl,i0,i1,i2,i3,hwr,jl,hl1,hl2,hc,key,Jb,ih]
theorem agj (a b:List bH) (ha:jB a) (hb:jB b) (hla:a.length<=1000000) (hlb:b.length<=1000000) (hs:iR a<=1000000):TT.lim 118 [.l (aQ a),.l (aQ b)]=some [.b (fH (a=b))]:=by
 have h:=ZC (iR a+2) [(a,b)] (by simp [qh]) (by simp [qh];omega) (by intro q hq;simp at hq;subst hq;exact ⟨ha,hb,hla,hlb⟩);have hcg:fH (∀q∈[(a,b)],q.1=q.2)=fH (a=b):=zN (by simp);rw [hcg] at h;have hm:[(a,b)].map jl=[.g [.l (aQ a),.l (aQ b)]]:=rfl;rw [hm] at h;refine aA rfl rfl ?_ rfl;generalize fH (a=b)=r at *;cases r with
 | true=>simp at h;simp [h]
 | false=>simp at h;simp [h]
mutual
def toFt:bH->Ft
 | .mk t y n s k=>.mk [.int .u64 t,.int .i64 y,.int .u64 n,.string ⟨⟨s⟩⟩] (Eh k)
def Eh:List bH->List Ft
 | []=>[]
 | f::l=>toFt f::Eh l
end
mutual
theorem anq:∀f:bH,zO (toFt f) (sQ f)/\cntF (toFt f)<=yV f
 | .mk t y n s k=>by
   have h:=VX k;simp only [toFt,zO,sQ,cntF,yV];exact ⟨⟨_,_,_,_,_,rfl,rfl,h.1⟩,by omega⟩
theorem VX:∀l:List bH,nS (Eh l) (aQ l)/\mg (Eh l)<=iR l
 | []=>by simp only [Eh,nS,aQ,mg,iR];exact ⟨trivial,dF _⟩
 | f::l=>by
   have h1:=anq f;have h2:=VX l;simp only [Eh,nS,aQ,mg,iR];exact ⟨⟨_,_,rfl,h1.1,h2.1⟩,by omega⟩
end
theorem afX (l:List bH) (hs:iR l<=1000000):TT.lim 33 [.l (aQ l)]=some [.l (aQ l)]:=by
 refine Oj (Ds:=Ds) (k:=33) (f:=E9) rfl ?_;have h:=VX l;unfold E9;exact ak ⟨Eh l,h.1,by omega⟩
theorem ML:∀ (n:Nat) (l:List One) (deep:Int),iR (fA n l deep).1+2 * (fA n l deep).2.length<=2 * l.length
 | 0,l,deep=>by simp [fA,iR]
 | n+1,[],deep=>by simp [fA,iR]
 | n+1,x::l,deep=>by
   simp only [fA];split
   ·by_cases hx:x.deep=255
    ·rw [ak hx]
     have h1:=ML n l deep;simp only [iR,yV,lq];omega
    ·rw [ah hx]
     have h1:=ML n l (x.deep+1);have h2:=ML n (fA n l (x.deep+1)).2 deep;simp only [iR,yV,lq];omega
   ·simp [iR]
theorem ais (l:List One):iR (uI l)<=2 * l.length:=by
 have:=ML (l.length+1) l 0;unfold uI;omega
theorem aa6 (b:aG) (fl:List bH) (t:List Row) (ht:t.length<=1000) (hd:∀r∈t,r.1.length<=40):∀ (m i:Nat),i+m=t.length->
 TT.lim 32 [.l ((t.take i).map row),.l (t.map row),.i .i64 t.length,.i .i64 i,.i .i64 b.kind,.i .u64 b.id,.i .u64 b.min,.i .u64 b.max,.i .u64 b.chosen,.i .u64 b.flags,.i .u64 b.cost,.i .u64 b.priority,.i .u64 b.deadline,.i .u64 b.retry,.i .u64 b.epoch,.i .u64 b.base,.i .u64 b.digest,.i .u64 b.lag,.i .u64 b.code,.i .u64 b.want,.i .i64 b.remaining,.b b.allowed,.s b.name,.s b.region,.s b.note,.l (b.d.map ent),.l (aQ fl)]=some [.i .i64 0,.l (t.map row)]
 | 0,i,hi=>by
   have h0:t.take i=t:=lK (by omega);have h:¬ ((i:Int) < t.length):=by omega
   rw [h0];refine aC rfl rfl ?_;simp [h]
 | m+1,i,hi=>by
   have hlt:i < t.length:=by omega
   have ih:=aa6 b fl t ht hd m (i+1) (by omega);have h:((i:Int) < t.length):=by omega
   have hcast:((i+1:Nat):Int)=(i:Int)+1:=by omega
   have hwr:=wrap64 (n:=(i:Int)+1) (by omega) (by omega);have hg:(t.map row)[i]? = some (row t[i]):=by rw [jU,dK hlt];rfl
   have hc:=Ya t[i].1 (hd _ (iI hlt));have hfold:GV.g [.l (t[i].1.map ent),.i .u64 t[i].2]=row t[i]:=rfl;have htk:(t.take (i+1)).map row=(t.take i).map row++[row t[i]]:=by rw [Ku,dK hlt,qy];rfl
   rw [htk,hcast] at ih;have hel:(row t[i]).fV 2=true:=rfl;have hb1:2 * (((t.take i).map row).length+1) * 32<=281474976710656:=by simp;omega
   have hb2:((t.take i).map row).length<=281474976710655:=by simp;omega
   generalize (t.take i).map row=A at *;generalize t.map row=L at *;refine aC rfl rfl ?_;simp [h,hg,hc,hfold,hel,hb1,hb2,hwr,ih]
theorem aa7 (b:aG) (fl:List bH) (hd:b.d.length<=40) (ht:qU b.t) (hs:iR fl<=1000000):TT.lim 30 [aJ b (aQ fl)]=some [aJ b (aQ fl)]:=by
 have ahs:∀r∈b.t,r.1.length<=40:=λr hr=>by
  have:=ht.few r hr;unfold gy at this;rw [aH,decide_eq_true_iff] at this;exact this.2
 have h1:=aa6 b fl b.t (by have:=ht.len;omega) ahs b.t.length 0 (by omega);have hl:=ht.len;rw [Xa,show ((0:Nat):Int)=0 from rfl] at h1;have h2:=Ya b.d hd;have h3:=afX fl hs;have hml:((b.t.map row).length:Int)=b.t.length:=by simp
 have hz1:(32:Int) * b.t.length<=281474976710656:=by omega
 have hz2:(b.t.length:Int)<=1152921504606846976:=by omega
 have hz3:b.t.length<=8796093022208:=by omega
 simp only [qA] at h1;generalize hL:b.t.map row=L at *;refine aA rfl rfl ?_ rfl;unfold aJ;rw [hL];simp [hml,h1,h2,h3,GV.fV,hz1,hz2];try omega
def Ap (n:Int):Int:=if n % 2=0 then n / 2 else -(n / 2) - 1
theorem aoM (n:Int) (h0:0<=n) (h1:n < 18446744073709551616):fO .and .u64 n 1=some (.i .u64 (n % 2))/\fO .xor .i64 (IntKind.i64.wrap (n / 2)) (IntKind.i64.wrap (0 - IntKind.i64.wrap (n % 2)))=some (.i .i64 (Ap n))/\n.fdiv 2=n / 2:=by
 have wu:∀y:Int,IntKind.u64.wrap y=y % 18446744073709551616:=λy=>by simp [IntKind.wrap,IntKind.signed,IntKind.bits]
 have hu:IntKind.u64.bits=64:=rfl;have hi:IntKind.i64.bits=64:=rfl;refine ⟨?_, ?_,PN _ (by decide)⟩
 ·simp only [fO,wu,hu]
  have e:(BitVec.ofInt 64 n &&& BitVec.ofInt 64 1).toNat=(BitVec.ofInt 64 n).toNat % 2:=by
   rw [BitVec.toNat_and];exact Nat.and_one_is_mod _
  show some (GV.i IntKind.u64 (((BitVec.ofInt 64 n &&& BitVec.ofInt 64 1).toNat:Int) % 18446744073709551616))=_
  rw [e,Aq];congr 2;omega
 ·rw [wrap64 (by omega) (by omega),wrap64 (n:=n % 2) (by omega) (by omega),wrap64 (by omega) (by omega)]
  simp only [fO,hi];unfold Ap;by_cases h:n % 2=0
  ·rw [ak h,h]
   have e:BitVec.ofInt 64 (0 - 0)=0#64:=rfl;show some (GV.i IntKind.i64 (IntKind.i64.wrap ((BitVec.ofInt 64 (n / 2) ^^^ BitVec.ofInt 64 (0 - 0)).toNat:Int)))=_
   rw [e,BitVec.xor_zero,Aq];congr 2;rw [wrap64 (by omega) (by omega)];omega
  ·rw [ah h,show n % 2=1 by omega]
   have e:BitVec.ofInt 64 (0 - 1)=BitVec.allOnes 64:=by decide
   show some (GV.i IntKind.i64 (IntKind.i64.wrap ((BitVec.ofInt 64 (n / 2) ^^^ BitVec.ofInt 64 (0 - 1)).toNat:Int)))=_
   rw [e,BitVec.xor_allOnes,BitVec.toNat_not,Aq];congr 2;have wi:∀y:Int,IntKind.i64.wrap y=if y % 18446744073709551616>=9223372036854775808 then y % 18446744073709551616 - 18446744073709551616 else y % 18446744073709551616:=λy=>by
    simp [IntKind.wrap,IntKind.signed,IntKind.bits]
   rw [wi];split<;>omega
def setB (b:aG) (n:Int) (s:List UInt8):Pl->aG
 | .rem=>{ b with remaining:=Ap n }
 | .allow=>{ b with allowed:=true }
 | .name=>{ b with name:=s }
 | .region=>{ b with region:=s }
 | .note=>{ b with note:=s }
 | .d=>{ b with d:=(iO s).1 }
 | .t=>{ b with t:=(kW s).1 }
 | .num k=>match k with
   | 0=>{ b with id:=n }
   | 1=>{ b with min:=n }
   | 2=>{ b with max:=n }
   | 3=>{ b with chosen:=n }
   | 4=>{ b with flags:=n }
   | 5=>{ b with cost:=n }
   | 6=>{ b with priority:=n }
   | 7=>{ b with deadline:=n }
   | 8=>{ b with retry:=n }
   | 9=>{ b with epoch:=n }
   | 10=>{ b with base:=n }
   | 11=>{ b with digest:=n }
   | 12=>{ b with lag:=n }
   | 13=>{ b with code:=n }
   | _=>{ b with want:=n }
def dn (n:Int) (s:List UInt8):Pl->Int
 | .allow=>if n=1 then 0 else 18
 | .name=>jQ s 0 256
 | .region=>jQ s 0 256
 | .note=>jQ s 0 256
 | .d=>(iO s).2
 | .t=>if (kW s).2=0 then (if (kW s).1.length=0 then 17 else 0) else (kW s).2
 | _=>0
def aB (ty n:Int) (s:List UInt8) (p:Pl):Int:=if ty=aK p then (if ty=0 then (if n=0 then 17 else dn n s p) else (if s=[] then 17 else dn n s p)) else 8
theorem mM (u:Int):TT.lim 46 [.i .i64 u]=some [.i .i64 (if u=0 then 0 else if u=1 then 0 else if u=2 then 0 else if u=3 then 1 else if u=4 then 1 else if u=5 then 1 else -1)]:=by
 refine aA rfl rfl ?_ rfl;by_cases h0:u=0
 ·simp [h0]
 by_cases h1:u=1
 ·simp [h1]
 by_cases h2:u=2
 ·simp [h2]
 by_cases h3:u=3
 ·simp [h3]
 by_cases h4:u=4
 ·simp [h4]
 by_cases h5:u=5
 ·simp [h5]
 simp [h0,h1,h2,h3,h4,h5]
/-- A message's cells, but for the first and the last one. -/
def aU (b:aG):List GV:=[.i .u64 b.id,.i .u64 b.min,.i .u64 b.max,.i .u64 b.chosen,.i .u64 b.flags,.i .u64 b.cost,.i .u64 b.priority,.i .u64 b.deadline,.i .u64 b.retry,.i .u64 b.epoch,.i .u64 b.base,.i .u64 b.digest,.i .u64 b.lag,.i .u64 b.code,.i .u64 b.want,.i .i64 b.remaining,.b b.allowed,.s b.name,.s b.region,.s b.note,.l (b.d.map ent),.l (b.t.map row)]
/-- What set does. -/
def eX (b:aG) (r:List GV) (tag ty n:Int) (s:List UInt8) (L:GV) (nm:List UInt8) (p:Pl):Prop:=∃b':aG,TT.lim 45 [.s nm,.i .u64 tag,.i .i64 ty,.i .u64 n,.s s,L,.i .i64 b.kind,.i .u64 b.id,.i .u64 b.min,.i .u64 b.max,.i .u64 b.chosen,.i .u64 b.flags,.i .u64 b.cost,.i .u64 b.priority,.i .u64 b.deadline,.i .u64 b.retry,.i .u64 b.epoch,.i .u64 b.base,.i .u64 b.digest,.i .u64 b.lag,.i .u64 b.code,.i .u64 b.want,.i .i64 b.remaining,.b b.allowed,.s b.name,.s b.region,.s b.note,.l (b.d.map ent),.l (b.t.map row),.l r]=some ([.i .i64 0,.i .i64 (aB ty n s p)]++aU b')/\(aB ty n s p=0->b'=setB b n s p)
theorem amv (b:aG) (r:List GV) (tag ty n:Int) (s:List UInt8) (L:GV):eX b r tag ty n s L kH (.num 0):=by
 unfold eX;have hk:=mM;unfold kH;by_cases h1:ty=0;rotate_left
 ·have e:aB ty n s (.num 0)=8:=by unfold aB;rw [ah (by simpa [aK] using h1)]
  refine ⟨b, ?_,λh=>by rw [e] at h;cases h⟩;rw [e];refine aC rfl rfl ?_;simp [aU,hk,h1]
 subst h1;by_cases h2:n=0
 ·have e:aB 0 n s (.num 0)=17:=by unfold aB;simp [aK,h2]
  refine ⟨b, ?_,λh=>by rw [e] at h;cases h⟩;rw [e];refine aC rfl rfl ?_;simp [aU,hk,h2]
 have e:aB 0 n s (.num 0)=dn n s (.num 0):=by unfold aB;simp [aK,h2]
 rw [e];refine ⟨{ b with id:=n }, ?_,λ_=>rfl⟩;show _=some ([GV.i .i64 0,GV.i .i64 0]++_)
 refine aC rfl rfl ?_;simp [aU,hk,h2]
theorem amy (b:aG) (r:List GV) (tag ty n:Int) (s:List UInt8) (L:GV):eX b r tag ty n s L kL (.num 1):=by
 unfold eX;have hk:=mM;unfold kL;by_cases h1:ty=0;rotate_left
 ·have e:aB ty n s (.num 1)=8:=by unfold aB;rw [ah (by simpa [aK] using h1)]
  refine ⟨b, ?_,λh=>by rw [e] at h;cases h⟩;rw [e];refine aC rfl rfl ?_;simp [aU,hk,h1]
 subst h1;by_cases h2:n=0
 ·have e:aB 0 n s (.num 1)=17:=by unfold aB;simp [aK,h2]
  refine ⟨b, ?_,λh=>by rw [e] at h;cases h⟩;rw [e];refine aC rfl rfl ?_;simp [aU,hk,h2]
 have e:aB 0 n s (.num 1)=dn n s (.num 1):=by unfold aB;simp [aK,h2]
 rw [e];refine ⟨{ b with min:=n }, ?_,λ_=>rfl⟩;show _=some ([GV.i .i64 0,GV.i .i64 0]++_)
 refine aC rfl rfl ?_;simp [aU,hk,h2]
theorem amx (b:aG) (r:List GV) (tag ty n:Int) (s:List UInt8) (L:GV):eX b r tag ty n s L kK (.num 2):=by
 unfold eX;have hk:=mM;unfold kK;by_cases h1:ty=0;rotate_left
 ·have e:aB ty n s (.num 2)=8:=by unfold aB;rw [ah (by simpa [aK] using h1)]
  refine ⟨b, ?_,λh=>by rw [e] at h;cases h⟩;rw [e];refine aC rfl rfl ?_;simp [aU,hk,h1]
 subst h1;by_cases h2:n=0
 ·have e:aB 0 n s (.num 2)=17:=by unfold aB;simp [aK,h2]
  refine ⟨b, ?_,λh=>by rw [e] at h;cases h⟩;rw [e];refine aC rfl rfl ?_;simp [aU,hk,h2]
 have e:aB 0 n s (.num 2)=dn n s (.num 2):=by unfold aB;simp [aK,h2]
 rw [e];refine ⟨{ b with max:=n }, ?_,λ_=>rfl⟩;show _=some ([GV.i .i64 0,GV.i .i64 0]++_)
 refine aC rfl rfl ?_;simp [aU,hk,h2]
theorem aml (b:aG) (r:List GV) (tag ty n:Int) (s:List UInt8) (L:GV):eX b r tag ty n s L jZ (.num 3):=by
 unfold eX;have hk:=mM;unfold jZ;by_cases h1:ty=0;rotate_left
 ·have e:aB ty n s (.num 3)=8:=by unfold aB;rw [ah (by simpa [aK] using h1)]
  refine ⟨b, ?_,λh=>by rw [e] at h;cases h⟩;rw [e];refine aC rfl rfl ?_;simp [aU,hk,h1]
 subst h1;by_cases h2:n=0
 ·have e:aB 0 n s (.num 3)=17:=by unfold aB;simp [aK,h2]
  refine ⟨b, ?_,λh=>by rw [e] at h;cases h⟩;rw [e];refine aC rfl rfl ?_;simp [aU,hk,h2]
 have e:aB 0 n s (.num 3)=dn n s (.num 3):=by unfold aB;simp [aK,h2]
 rw [e];refine ⟨{ b with chosen:=n }, ?_,λ_=>rfl⟩;show _=some ([GV.i .i64 0,GV.i .i64 0]++_)
 refine aC rfl rfl ?_;simp [aU,hk,h2]
theorem amu (b:aG) (r:List GV) (tag ty n:Int) (s:List UInt8) (L:GV):eX b r tag ty n s L kG (.num 4):=by
 unfold eX;have hk:=mM;unfold kG;by_cases h1:ty=0;rotate_left
 ·have e:aB ty n s (.num 4)=8:=by unfold aB;rw [ah (by simpa [aK] using h1)]
  refine ⟨b, ?_,λh=>by rw [e] at h;cases h⟩;rw [e];refine aC rfl rfl ?_;simp [aU,hk,h1]
 subst h1;by_cases h2:n=0
 ·have e:aB 0 n s (.num 4)=17:=by unfold aB;simp [aK,h2]
  refine ⟨b, ?_,λh=>by rw [e] at h;cases h⟩;rw [e];refine aC rfl rfl ?_;simp [aU,hk,h2]
 have e:aB 0 n s (.num 4)=dn n s (.num 4):=by unfold aB;simp [aK,h2]
 rw [e];refine ⟨{ b with flags:=n }, ?_,λ_=>rfl⟩;show _=some ([GV.i .i64 0,GV.i .i64 0]++_)
 refine aC rfl rfl ?_;simp [aU,hk,h2]
theorem amn (b:aG) (r:List GV) (tag ty n:Int) (s:List UInt8) (L:GV):eX b r tag ty n s L kC (.num 5):=by
 unfold eX;have hk:=mM;unfold kC;by_cases h1:ty=0;rotate_left
 ·have e:aB ty n s (.num 5)=8:=by unfold aB;rw [ah (by simpa [aK] using h1)]
  refine ⟨b, ?_,λh=>by rw [e] at h;cases h⟩;rw [e];refine aC rfl rfl ?_;simp [aU,hk,h1]
 subst h1;by_cases h2:n=0
 ·have e:aB 0 n s (.num 5)=17:=by unfold aB;simp [aK,h2]
  refine ⟨b, ?_,λh=>by rw [e] at h;cases h⟩;rw [e];refine aC rfl rfl ?_;simp [aU,hk,h2]
 have e:aB 0 n s (.num 5)=dn n s (.num 5):=by unfold aB;simp [aK,h2]
 rw [e];refine ⟨{ b with cost:=n }, ?_,λ_=>rfl⟩;show _=some ([GV.i .i64 0,GV.i .i64 0]++_)
 refine aC rfl rfl ?_;simp [aU,hk,h2]
theorem amC (b:aG) (r:List GV) (tag ty n:Int) (s:List UInt8) (L:GV):eX b r tag ty n s L kP (.num 6):=by
 unfold eX;have hk:=mM;unfold kP;by_cases h1:ty=0;rotate_left
 ·have e:aB ty n s (.num 6)=8:=by unfold aB;rw [ah (by simpa [aK] using h1)]
  refine ⟨b, ?_,λh=>by rw [e] at h;cases h⟩;rw [e];refine aC rfl rfl ?_;simp [aU,hk,h1]
 subst h1;by_cases h2:n=0
 ·have e:aB 0 n s (.num 6)=17:=by unfold aB;simp [aK,h2]
  refine ⟨b, ?_,λh=>by rw [e] at h;cases h⟩;rw [e];refine aC rfl rfl ?_;simp [aU,hk,h2]
 have e:aB 0 n s (.num 6)=dn n s (.num 6):=by unfold aB;simp [aK,h2]
 rw [e];refine ⟨{ b with priority:=n }, ?_,λ_=>rfl⟩;show _=some ([GV.i .i64 0,GV.i .i64 0]++_)
 refine aC rfl rfl ?_;simp [aU,hk,h2]
theorem amo (b:aG) (r:List GV) (tag ty n:Int) (s:List UInt8) (L:GV):eX b r tag ty n s L kD (.num 7):=by
 unfold eX;have hk:=mM;unfold kD;by_cases h1:ty=0;rotate_left
 ·have e:aB ty n s (.num 7)=8:=by unfold aB;rw [ah (by simpa [aK] using h1)]
  refine ⟨b, ?_,λh=>by rw [e] at h;cases h⟩;rw [e];refine aC rfl rfl ?_;simp [aU,hk,h1]
 subst h1;by_cases h2:n=0
 ·have e:aB 0 n s (.num 7)=17:=by unfold aB;simp [aK,h2]
  refine ⟨b, ?_,λh=>by rw [e] at h;cases h⟩;rw [e];refine aC rfl rfl ?_;simp [aU,hk,h2]
 have e:aB 0 n s (.num 7)=dn n s (.num 7):=by unfold aB;simp [aK,h2]
 rw [e];refine ⟨{ b with deadline:=n }, ?_,λ_=>rfl⟩;show _=some ([GV.i .i64 0,GV.i .i64 0]++_)
 refine aC rfl rfl ?_;simp [aU,hk,h2]
theorem amF (b:aG) (r:List GV) (tag ty n:Int) (s:List UInt8) (L:GV):eX b r tag ty n s L kR (.num 8):=by
 unfold eX;have hk:=mM;unfold kR;by_cases h1:ty=0;rotate_left
 ·have e:aB ty n s (.num 8)=8:=by unfold aB;rw [ah (by simpa [aK] using h1)]
  refine ⟨b, ?_,λh=>by rw [e] at h;cases h⟩;rw [e];refine aC rfl rfl ?_;simp [aU,hk,h1]
 subst h1;by_cases h2:n=0
 ·have e:aB 0 n s (.num 8)=17:=by unfold aB;simp [aK,h2]
  refine ⟨b, ?_,λh=>by rw [e] at h;cases h⟩;rw [e];refine aC rfl rfl ?_;simp [aU,hk,h2]
 have e:aB 0 n s (.num 8)=dn n s (.num 8):=by unfold aB;simp [aK,h2]
 rw [e];refine ⟨{ b with retry:=n }, ?_,λ_=>rfl⟩;show _=some ([GV.i .i64 0,GV.i .i64 0]++_)
 refine aC rfl rfl ?_;simp [aU,hk,h2]
theorem ams (b:aG) (r:List GV) (tag ty n:Int) (s:List UInt8) (L:GV):eX b r tag ty n s L kF (.num 9):=by
 unfold eX;have hk:=mM;unfold kF;by_cases h1:ty=0;rotate_left
 ·have e:aB ty n s (.num 9)=8:=by unfold aB;rw [ah (by simpa [aK] using h1)]
  refine ⟨b, ?_,λh=>by rw [e] at h;cases h⟩;rw [e];refine aC rfl rfl ?_;simp [aU,hk,h1]
 subst h1;by_cases h2:n=0
 ·have e:aB 0 n s (.num 9)=17:=by unfold aB;simp [aK,h2]
  refine ⟨b, ?_,λh=>by rw [e] at h;cases h⟩;rw [e];refine aC rfl rfl ?_;simp [aU,hk,h2]
 have e:aB 0 n s (.num 9)=dn n s (.num 9):=by unfold aB;simp [aK,h2]
 rw [e];refine ⟨{ b with epoch:=n }, ?_,λ_=>rfl⟩;show _=some ([GV.i .i64 0,GV.i .i64 0]++_)
 refine aC rfl rfl ?_;simp [aU,hk,h2]
theorem amk (b:aG) (r:List GV) (tag ty n:Int) (s:List UInt8) (L:GV):eX b r tag ty n s L jY (.num 10):=by
 unfold eX;have hk:=mM;unfold jY;by_cases h1:ty=0;rotate_left
 ·have e:aB ty n s (.num 10)=8:=by unfold aB;rw [ah (by simpa [aK] using h1)]
  refine ⟨b, ?_,λh=>by rw [e] at h;cases h⟩;rw [e];refine aC rfl rfl ?_;simp [aU,hk,h1]
 subst h1;by_cases h2:n=0
 ·have e:aB 0 n s (.num 10)=17:=by unfold aB;simp [aK,h2]
  refine ⟨b, ?_,λh=>by rw [e] at h;cases h⟩;rw [e];refine aC rfl rfl ?_;simp [aU,hk,h2]
 have e:aB 0 n s (.num 10)=dn n s (.num 10):=by unfold aB;simp [aK,h2]
 rw [e];refine ⟨{ b with base:=n }, ?_,λ_=>rfl⟩;show _=some ([GV.i .i64 0,GV.i .i64 0]++_)
 refine aC rfl rfl ?_;simp [aU,hk,h2]
theorem amr (b:aG) (r:List GV) (tag ty n:Int) (s:List UInt8) (L:GV):eX b r tag ty n s L kE (.num 11):=by
 unfold eX;have hk:=mM;unfold kE;by_cases h1:ty=0;rotate_left
 ·have e:aB ty n s (.num 11)=8:=by unfold aB;rw [ah (by simpa [aK] using h1)]
  refine ⟨b, ?_,λh=>by rw [e] at h;cases h⟩;rw [e];refine aC rfl rfl ?_;simp [aU,hk,h1]
 subst h1;by_cases h2:n=0
 ·have e:aB 0 n s (.num 11)=17:=by unfold aB;simp [aK,h2]
  refine ⟨b, ?_,λh=>by rw [e] at h;cases h⟩;rw [e];refine aC rfl rfl ?_;simp [aU,hk,h2]
 have e:aB 0 n s (.num 11)=dn n s (.num 11):=by unfold aB;simp [aK,h2]
 rw [e];refine ⟨{ b with digest:=n }, ?_,λ_=>rfl⟩;show _=some ([GV.i .i64 0,GV.i .i64 0]++_)
 refine aC rfl rfl ?_;simp [aU,hk,h2]
theorem amw (b:aG) (r:List GV) (tag ty n:Int) (s:List UInt8) (L:GV):eX b r tag ty n s L kJ (.num 12):=by
 unfold eX;have hk:=mM;unfold kJ;by_cases h1:ty=0;rotate_left
 ·have e:aB ty n s (.num 12)=8:=by unfold aB;rw [ah (by simpa [aK] using h1)]
  refine ⟨b, ?_,λh=>by rw [e] at h;cases h⟩;rw [e];refine aC rfl rfl ?_;simp [aU,hk,h1]
 subst h1;by_cases h2:n=0
 ·have e:aB 0 n s (.num 12)=17:=by unfold aB;simp [aK,h2]
  refine ⟨b, ?_,λh=>by rw [e] at h;cases h⟩;rw [e];refine aC rfl rfl ?_;simp [aU,hk,h2]
 have e:aB 0 n s (.num 12)=dn n s (.num 12):=by unfold aB;simp [aK,h2]
 rw [e];refine ⟨{ b with lag:=n }, ?_,λ_=>rfl⟩;show _=some ([GV.i .i64 0,GV.i .i64 0]++_)
 refine aC rfl rfl ?_;simp [aU,hk,h2]
theorem amm (b:aG) (r:List GV) (tag ty n:Int) (s:List UInt8) (L:GV):eX b r tag ty n s L ku (.num 13):=by
 unfold eX;have hk:=mM;unfold ku;by_cases h1:ty=0;rotate_left
 ·have e:aB ty n s (.num 13)=8:=by unfold aB;rw [ah (by simpa [aK] using h1)]
  refine ⟨b, ?_,λh=>by rw [e] at h;cases h⟩;rw [e];refine aC rfl rfl ?_;simp [aU,hk,h1]
 subst h1;by_cases h2:n=0
 ·have e:aB 0 n s (.num 13)=17:=by unfold aB;simp [aK,h2]
  refine ⟨b, ?_,λh=>by rw [e] at h;cases h⟩;rw [e];refine aC rfl rfl ?_;simp [aU,hk,h2]
 have e:aB 0 n s (.num 13)=dn n s (.num 13):=by unfold aB;simp [aK,h2]
 rw [e];refine ⟨{ b with code:=n }, ?_,λ_=>rfl⟩;show _=some ([GV.i .i64 0,GV.i .i64 0]++_)
 refine aC rfl rfl ?_;simp [aU,hk,h2]
theorem amH (b:aG) (r:List GV) (tag ty n:Int) (s:List UInt8) (L:GV):eX b r tag ty n s L kS (.num 14):=by
 unfold eX;have hk:=mM;unfold kS;by_cases h1:ty=0;rotate_left
 ·have e:aB ty n s (.num 14)=8:=by unfold aB;rw [ah (by simpa [aK] using h1)]
  refine ⟨b, ?_,λh=>by rw [e] at h;cases h⟩;rw [e];refine aC rfl rfl ?_;simp [aU,hk,h1]
 subst h1;by_cases h2:n=0
 ·have e:aB 0 n s (.num 14)=17:=by unfold aB;simp [aK,h2]
  refine ⟨b, ?_,λh=>by rw [e] at h;cases h⟩;rw [e];refine aC rfl rfl ?_;simp [aU,hk,h2]
 have e:aB 0 n s (.num 14)=dn n s (.num 14):=by unfold aB;simp [aK,h2]
 rw [e];refine ⟨{ b with want:=n }, ?_,λ_=>rfl⟩;show _=some ([GV.i .i64 0,GV.i .i64 0]++_)
 refine aC rfl rfl ?_;simp [aU,hk,h2]
theorem amE (b:aG) (r:List GV) (tag ty n:Int) (s:List UInt8) (L:GV) (hn:0<=n/\n < 18446744073709551616):eX b r tag ty n s L lH .rem:=by
 unfold eX;have hk:=mM;unfold lH;by_cases h1:ty=0;rotate_left
 ·have e:aB ty n s .rem=8:=by unfold aB;rw [ah (by simpa [aK] using h1)]
  refine ⟨b, ?_,λh=>by rw [e] at h;cases h⟩;rw [e];refine aC rfl rfl ?_;simp [aU,hk,h1]
 subst h1;by_cases h2:n=0
 ·have e:aB 0 n s .rem=17:=by unfold aB;simp [aK,h2]
  refine ⟨b, ?_,λh=>by rw [e] at h;cases h⟩;rw [e];refine aC rfl rfl ?_;simp [aU,hk,h2]
 have e:aB 0 n s .rem=dn n s .rem:=by unfold aB;simp [aK,h2]
 rw [e];obtain ⟨k1,k2,k3⟩:=aoM n hn.1 hn.2;refine ⟨{ b with remaining:=Ap n }, ?_,λ_=>rfl⟩;show _=some ([GV.i .i64 0,GV.i .i64 0]++_)
 refine aC rfl rfl ?_;simp only [Int.zero_sub] at k2;simp [aU,hk,h2,pI,IntKind.bits,k1,k2,k3]
theorem amj (b:aG) (r:List GV) (tag ty n:Int) (s:List UInt8) (L:GV):eX b r tag ty n s L lG .allow:=by
 unfold eX;have hk:=mM;unfold lG;by_cases h1:ty=0;rotate_left
 ·have e:aB ty n s .allow=8:=by unfold aB;rw [ah (by simpa [aK] using h1)]
  refine ⟨b, ?_,λh=>by rw [e] at h;cases h⟩;rw [e];refine aC rfl rfl ?_;simp [aU,hk,h1]
 subst h1;by_cases h2:n=0
 ·have e:aB 0 n s .allow=17:=by unfold aB;simp [aK,h2]
  refine ⟨b, ?_,λh=>by rw [e] at h;cases h⟩;rw [e];refine aC rfl rfl ?_;simp [aU,hk,h2]
 have e:aB 0 n s .allow=dn n s .allow:=by unfold aB;simp [aK,h2]
 rw [e];by_cases h3:n=1
 ·have e2:dn n s .allow=0:=by unfold dn;rw [ak h3]
  rw [e2];refine ⟨{ b with allowed:=true }, ?_,λ_=>rfl⟩;refine aC rfl rfl ?_;simp [aU,hk,h2,h3]
 ·have e2:dn n s .allow=18:=by unfold dn;rw [ah h3]
  rw [e2];refine ⟨b, ?_,λh=>by cases h⟩;refine aC rfl rfl ?_;simp [aU,hk,h2,h3]
theorem amz (b:aG) (r:List GV) (tag ty n:Int) (s:List UInt8) (L:GV) (hs:s.length<=100000000):eX b r tag ty n s L kM .name:=by
 unfold eX;have hk:=mM;unfold kM;by_cases h1:ty=1;rotate_left
 ·have e:aB ty n s .name=8:=by unfold aB;rw [ah (by simpa [aK] using h1)]
  refine ⟨b, ?_,λh=>by rw [e] at h;cases h⟩;rw [e];refine aC rfl rfl ?_;simp [aU,hk,h1]
 subst h1;by_cases h2:s=[]
 ·have e:aB 1 n s .name=17:=by unfold aB;simp [aK,h2]
  refine ⟨b, ?_,λh=>by rw [e] at h;cases h⟩;rw [e];refine aC rfl rfl ?_;simp [aU,hk,h2]
 have e:aB 1 n s .name=dn n s .name:=by unfold aB;simp [aK,h2]
 rw [e];have hc:=IE s 0 256 (by omega);refine ⟨{ b with name:=s }, ?_,λ_=>rfl⟩;show _=some ([GV.i .i64 0,GV.i .i64 (jQ s 0 256)]++_)
 generalize jQ s 0 256=u at *;refine aC rfl rfl ?_;simp [aU,hk,h2,hc]
theorem amD (b:aG) (r:List GV) (tag ty n:Int) (s:List UInt8) (L:GV) (hs:s.length<=100000000):eX b r tag ty n s L kQ .region:=by
 unfold eX;have hk:=mM;unfold kQ;by_cases h1:ty=1;rotate_left
 ·have e:aB ty n s .region=8:=by unfold aB;rw [ah (by simpa [aK] using h1)]
  refine ⟨b, ?_,λh=>by rw [e] at h;cases h⟩;rw [e];refine aC rfl rfl ?_;simp [aU,hk,h1]
 subst h1;by_cases h2:s=[]
 ·have e:aB 1 n s .region=17:=by unfold aB;simp [aK,h2]
  refine ⟨b, ?_,λh=>by rw [e] at h;cases h⟩;rw [e];refine aC rfl rfl ?_;simp [aU,hk,h2]
 have e:aB 1 n s .region=dn n s .region:=by unfold aB;simp [aK,h2]
 rw [e];have hc:=IE s 0 256 (by omega);refine ⟨{ b with region:=s }, ?_,λ_=>rfl⟩;show _=some ([GV.i .i64 0,GV.i .i64 (jQ s 0 256)]++_)
 generalize jQ s 0 256=u at *;refine aC rfl rfl ?_;simp [aU,hk,h2,hc]
theorem amB (b:aG) (r:List GV) (tag ty n:Int) (s:List UInt8) (L:GV) (hs:s.length<=100000000):eX b r tag ty n s L kN .note:=by
 unfold eX;have hk:=mM;unfold kN;by_cases h1:ty=1;rotate_left
 ·have e:aB ty n s .note=8:=by unfold aB;rw [ah (by simpa [aK] using h1)]
  refine ⟨b, ?_,λh=>by rw [e] at h;cases h⟩;rw [e];refine aC rfl rfl ?_;simp [aU,hk,h1]
 subst h1;by_cases h2:s=[]
 ·have e:aB 1 n s .note=17:=by unfold aB;simp [aK,h2]
  refine ⟨b, ?_,λh=>by rw [e] at h;cases h⟩;rw [e];refine aC rfl rfl ?_;simp [aU,hk,h2]
 have e:aB 1 n s .note=dn n s .note:=by unfold aB;simp [aK,h2]
 rw [e];have hc:=IE s 0 256 (by omega);refine ⟨{ b with note:=s }, ?_,λ_=>rfl⟩;show _=some ([GV.i .i64 0,GV.i .i64 (jQ s 0 256)]++_)
 generalize jQ s 0 256=u at *;refine aC rfl rfl ?_;simp [aU,hk,h2,hc]
theorem amq (b:aG) (r:List GV) (tag ty n:Int) (s:List UInt8) (L:GV) (hs:s.length<=100000000):eX b r tag ty n s L jG .d:=by
 unfold eX;have hk:=mM;unfold jG;by_cases h1:ty=1;rotate_left
 ·have e:aB ty n s .d=8:=by unfold aB;rw [ah (by simpa [aK] using h1)]
  refine ⟨b, ?_,λh=>by rw [e] at h;cases h⟩;rw [e];refine aC rfl rfl ?_;simp [aU,hk,h1]
 subst h1;by_cases h2:s=[]
 ·have e:aB 1 n s .d=17:=by unfold aB;simp [aK,h2]
  refine ⟨b, ?_,λh=>by rw [e] at h;cases h⟩;rw [e];refine aC rfl rfl ?_;simp [aU,hk,h2]
 have e:aB 1 n s .d=dn n s .d:=by unfold aB;simp [aK,h2]
 rw [e];have hc:=Yx s hs;refine ⟨{ b with d:=(iO s).1 }, ?_,λ_=>rfl⟩;show _=some ([GV.i .i64 0,GV.i .i64 (iO s).2]++_)
 refine aC rfl rfl ?_;simp [aU,hk,h2,hc]
theorem amG (b:aG) (r:List GV) (tag ty n:Int) (s:List UInt8) (L:GV) (hs:s.length<=100000000):eX b r tag ty n s L jH .t:=by
 unfold eX;have hk:=mM;unfold jH;by_cases h1:ty=1;rotate_left
 ·have e:aB ty n s .t=8:=by unfold aB;rw [ah (by simpa [aK] using h1)]
  refine ⟨b, ?_,λh=>by rw [e] at h;cases h⟩;rw [e];refine aC rfl rfl ?_;simp [aU,hk,h1]
 subst h1;by_cases h2:s=[]
 ·have e:aB 1 n s .t=17:=by unfold aB;simp [aK,h2]
  refine ⟨b, ?_,λh=>by rw [e] at h;cases h⟩;rw [e];refine aC rfl rfl ?_;simp [aU,hk,h2]
 have e:aB 1 n s .t=dn n s .t:=by unfold aB;simp [aK,h2]
 rw [e];have hc:=anr s hs;refine ⟨{ b with t:=(kW s).1 }, ?_,λ_=>rfl⟩;unfold dn;by_cases h3:(kW s).2=0
 ·rw [ak h3]
  by_cases h4:(kW s).1.length=0
  ·have h5:=jw h4
   rw [ak h4];refine aC rfl rfl ?_;simp [aU,hk,h2,hc,h3,h5]
  ·have h5:(kW s).1≠[]:=λe=>h4 (by rw [e];rfl)
   rw [ah h4];refine aC rfl rfl ?_;simp [aU,hk,h2,hc,h3,h5]
 ·rw [ah h3]
  refine aC rfl rfl ?_;simp [aU,hk,h2,hc,h3]
def gB:aG:={ kind:=0,id:=0,min:=0,max:=0,chosen:=0,flags:=0,cost:=0,priority:=0,deadline:=0,retry:=0,epoch:=0,base:=0,digest:=0,lag:=0,code:=0,want:=0,remaining:=0,allowed:=false,name:=[],region:=[],note:=[],d:=[],t:=[] }
theorem bU:IntKind.i64.wrap 0=0:=wrap64 (by decide) (by decide)
theorem bV:IntKind.i64.wrap 1=1:=wrap64 (by decide) (by decide)
def jR (b:aG) (r:List GV) (ty n:Int) (s:List UInt8) (p:Pl):List GV:=if aB ty n s p=0 then [aJ (setB b n s p) r,.i .i64 0] else [aJ gB [],.i .i64 (aB ty n s p)]
def jv (b:aG) (r:List GV) (ty n:Int) (s nm:List UInt8):List GV:=match placeOf nm with
 | some p=>jR b r ty n s p
 | none=>[aJ gB [],.i .i64 26]
theorem Gq (b:aG) (n:Int) (s:List UInt8) (p:Pl):(setB b n s p).kind=b.kind:=by
 unfold setB;split<;>first | rfl | (split<;>rfl)
theorem amA (b:aG) (r:List GV) (tag ty n:Int) (s:List UInt8) (L:GV) (nm:List UInt8) (e0:¬ nm=lH) (e1:¬ nm=lG) (e2:¬ nm=kM) (e3:¬ nm=kQ) (e4:¬ nm=kN) (e5:¬ nm=jG) (e6:¬ nm=jH) (e7:¬ nm=kH) (e8:¬ nm=kL) (e9:¬ nm=kK) (e10:¬ nm=jZ) (e11:¬ nm=kG) (e12:¬ nm=kC) (e13:¬ nm=kP) (e14:¬ nm=kD) (e15:¬ nm=kR) (e16:¬ nm=kF) (e17:¬ nm=jY) (e18:¬ nm=kE) (e19:¬ nm=kJ) (e20:¬ nm=ku) (e21:¬ nm=kS):TT.lim 45 [.s nm,.i .u64 tag,.i .i64 ty,.i .u64 n,.s s,L,.i .i64 b.kind,.i .u64 b.id,.i .u64 b.min,.i .u64 b.max,.i .u64 b.chosen,.i .u64 b.flags,.i .u64 b.cost,.i .u64 b.priority,.i .u64 b.deadline,.i .u64 b.retry,.i .u64 b.epoch,.i .u64 b.base,.i .u64 b.digest,.i .u64 b.lag,.i .u64 b.code,.i .u64 b.want,.i .i64 b.remaining,.b b.allowed,.s b.name,.s b.region,.s b.note,.l (b.d.map ent),.l (b.t.map row),.l r]=some ([.i .i64 0,.i .i64 26]++aU b):=by
 unfold lH lG kM kQ kN jG jH kH kL kK jZ kG kC kP kD kR kF jY kE kJ ku kS at *;refine aC rfl rfl ?_;simp [aU,e0,e1,e2,e3,e4,e5,e6,e7,e8,e9,e10,e11,e12,e13,e14,e15,e16,e17,e18,e19,e20,e21]
theorem ami (b:aG) (r:List GV) (tag ty n:Int) (s:List UInt8) (L:GV) (hn:0<=n/\n < 18446744073709551616) (hs:s.length<=100000000) (nm:List UInt8):(∃p,placeOf nm=some p/\eX b r tag ty n s L nm p)\/(placeOf nm=none/\TT.lim 45 [.s nm,.i .u64 tag,.i .i64 ty,.i .u64 n,.s s,L,.i .i64 b.kind,.i .u64 b.id,.i .u64 b.min,.i .u64 b.max,.i .u64 b.chosen,.i .u64 b.flags,.i .u64 b.cost,.i .u64 b.priority,.i .u64 b.deadline,.i .u64 b.retry,.i .u64 b.epoch,.i .u64 b.base,.i .u64 b.digest,.i .u64 b.lag,.i .u64 b.code,.i .u64 b.want,.i .i64 b.remaining,.b b.allowed,.s b.name,.s b.region,.s b.note,.l (b.d.map ent),.l (b.t.map row),.l r]=some ([.i .i64 0,.i .i64 26]++aU b)):=by
 refine Il (Q:=λnm=>(∃p,placeOf nm=some p/\eX b r tag ty n s L nm p)\/(placeOf nm=none/\TT.lim 45 [.s nm,.i .u64 tag,.i .i64 ty,.i .u64 n,.s s,L,.i .i64 b.kind,.i .u64 b.id,.i .u64 b.min,.i .u64 b.max,.i .u64 b.chosen,.i .u64 b.flags,.i .u64 b.cost,.i .u64 b.priority,.i .u64 b.deadline,.i .u64 b.retry,.i .u64 b.epoch,.i .u64 b.base,.i .u64 b.digest,.i .u64 b.lag,.i .u64 b.code,.i .u64 b.want,.i .i64 b.remaining,.b b.allowed,.s b.name,.s b.region,.s b.note,.l (b.d.map ent),.l (b.t.map row),.l r]=some ([.i .i64 0,.i .i64 26]++aU b))) (.inl ⟨_,xH,amE b r tag ty n s L hn⟩) (.inl ⟨_,wS,amj b r tag ty n s L ⟩) (.inl ⟨_,xC,amz b r tag ty n s L hs⟩) (.inl ⟨_,xG,amD b r tag ty n s L hs⟩) (.inl ⟨_,xE,amB b r tag ty n s L hs⟩) (.inl ⟨_,wZ,amq b r tag ty n s L hs⟩) (.inl ⟨_,xJ,amG b r tag ty n s L hs⟩) (.inl ⟨_,xu,amv b r tag ty n s L ⟩) (.inl ⟨_,xB,amy b r tag ty n s L ⟩) (.inl ⟨_,xA,amx b r tag ty n s L ⟩) (.inl ⟨_,wV,aml b r tag ty n s L ⟩) (.inl ⟨_,xq,amu b r tag ty n s L ⟩) (.inl ⟨_,wX,amn b r tag ty n s L ⟩) (.inl ⟨_,xF,amC b r tag ty n s L ⟩) (.inl ⟨_,wY,amo b r tag ty n s L ⟩) (.inl ⟨_,xI,amF b r tag ty n s L ⟩) (.inl ⟨_,xk,ams b r tag ty n s L ⟩) (.inl ⟨_,wU,amk b r tag ty n s L ⟩) (.inl ⟨_,xg,amr b r tag ty n s L ⟩) (.inl ⟨_,xw,amw b r tag ty n s L ⟩) (.inl ⟨_,wW,amm b r tag ty n s L ⟩) (.inl ⟨_,xK,amH b r tag ty n s L ⟩) (λnm e0 e1 e2 e3 e4 e5 e6 e7 e8 e9 e10 e11 e12 e13 e14 e15 e16 e17 e18 e19 e20 e21=>.inr ⟨Gi nm e0 e1 e2 e3 e4 e5 e6 e7 e8 e9 e10 e11 e12 e13 e14 e15 e16 e17 e18 e19 e20 e21,amA b r tag ty n s L nm e0 e1 e2 e3 e4 e5 e6 e7 e8 e9 e10 e11 e12 e13 e14 e15 e16 e17 e18 e19 e20 e21⟩) nm
theorem aiC (K:List GV) (b:aG) (fl:List bH) (hd:b.d.length<=40) (ht:qU b.t) (hsz:iR fl<=1000000) (tag ty n:Int) (s:List UInt8) (hn:0<=n/\n < 18446744073709551616) (hs:s.length<=100000000) (nm:List UInt8) :
 TT.lim 44 [aJ b (aQ fl),.s nm,.g [.i .u64 tag,.i .i64 ty,.i .u64 n,.s s,.l K]]=some (jv b (aQ fl) ty n s nm):=by
 have hc:=aa7 b fl hd ht hsz;have ha:=ami b (aQ fl) tag ty n s (.l K) hn hs nm;generalize aQ fl=r at *;have hz:GV.g [.i .i64 0,.i .u64 0,.i .u64 0,.i .u64 0,.i .u64 0,.i .u64 0,.i .u64 0,.i .u64 0,.i .u64 0,.i .u64 0,.i .u64 0,.i .u64 0,.i .u64 0,.i .u64 0,.i .u64 0,.i .u64 0,.i .i64 0,.b false,.s [],.s [],.s [],.l [],.l [],.l []]=aJ gB []:=rfl;unfold jv;rcases ha with ⟨p,hp,b',h1,h2⟩ | ⟨hp,h1⟩
 ·rw [hp]
  simp only;unfold jR;have hk:=Gq b n s p;generalize aB ty n s p=e at *;by_cases he:e=0
  ·have h3:=h2 he
   rw [ak he];rw [he,h3] at h1;have hm:aJ (setB b n s p) r=GV.g ([.i .i64 b.kind]++aU (setB b n s p)++[.l r]):=by rw [<- hk];rfl
   rw [hm];generalize setB b n s p=B at *;unfold aU at h1 ⊢;refine aA rfl rfl ?_ rfl;simp [jC,hc];simp [h1]
  ·rw [ah he]
   unfold aU at h1;rw [<- hz];refine aA rfl rfl ?_ rfl;simp [jC,hc];simp [h1,he]
 ·rw [hp]
  simp only;unfold aU at h1;rw [<- hz];refine aA rfl rfl ?_ rfl;simp [jC,hc];simp [h1]
theorem aiD (b:aG) (fl:List bH) (hd:b.d.length<=40) (ht:qU b.t) (hsz:iR fl<=1000000) (tag ty n:Int) (s:List UInt8) (hn:0<=n/\n < 18446744073709551616) (hs:s.length<=100000000) (nm:List UInt8) :
 TT.lim 44 [aJ b (aQ fl),.s nm,.g [.i .u64 tag,.i .i64 ty,.i .u64 n,.s s,.l []]]=some (jv b (aQ fl) ty n s nm):=aiC [] b fl hd ht hsz tag ty n s hn hs nm
def fD (b:aG) (r:List GV) (ty n:Int) (s nm:List UInt8) (p:Pl):Prop:=TT.lim 103 [aJ b r,.s nm,.i .i64 ty,.i .u64 n,.s s]=some (jR b r ty n s p)
theorem alE (b:aG) (r:List GV) (ty n:Int) (s:List UInt8):fD b r ty n s kH (.num 0):=by
 unfold fD jR;have hu:=fC xu;have hz:GV.g [.i .i64 0,.i .u64 0,.i .u64 0,.i .u64 0,.i .u64 0,.i .u64 0,.i .u64 0,.i .u64 0,.i .u64 0,.i .u64 0,.i .u64 0,.i .u64 0,.i .u64 0,.i .u64 0,.i .u64 0,.i .u64 0,.i .i64 0,.b false,.s [],.s [],.s [],.l [],.l [],.l []]=aJ gB []:=rfl;simp only [dM] at hu;unfold kH at *;by_cases h1:ty=0;rotate_left
 ·have e:aB ty n s (.num 0)=8:=by unfold aB;rw [ah (by simpa [aK] using h1)]
  rw [e,ah (by decide),<- hz];refine aA rfl rfl ?_ rfl;simp [bU,bV,hu,h1]
 subst h1;by_cases h2:n=0
 ·have e:aB 0 n s (.num 0)=17:=by unfold aB;simp [aK,h2]
  rw [e,ah (by decide),<- hz];refine aA rfl rfl ?_ rfl;simp [bU,bV,hu,h2]
 have e:aB 0 n s (.num 0)=dn n s (.num 0):=by unfold aB;simp [aK,h2]
 rw [e];show _=some [aJ { b with id:=n } r,GV.i .i64 0]
 unfold aJ;refine aA rfl rfl ?_ rfl;simp [bU,bV,hu,h2]
theorem alH (b:aG) (r:List GV) (ty n:Int) (s:List UInt8):fD b r ty n s kL (.num 1):=by
 unfold fD jR;have hu:=fC xB;have hz:GV.g [.i .i64 0,.i .u64 0,.i .u64 0,.i .u64 0,.i .u64 0,.i .u64 0,.i .u64 0,.i .u64 0,.i .u64 0,.i .u64 0,.i .u64 0,.i .u64 0,.i .u64 0,.i .u64 0,.i .u64 0,.i .u64 0,.i .i64 0,.b false,.s [],.s [],.s [],.l [],.l [],.l []]=aJ gB []:=rfl;simp only [dM] at hu;unfold kL at *;by_cases h1:ty=0;rotate_left
 ·have e:aB ty n s (.num 1)=8:=by unfold aB;rw [ah (by simpa [aK] using h1)]
  rw [e,ah (by decide),<- hz];refine aA rfl rfl ?_ rfl;simp [bU,bV,hu,h1]
 subst h1;by_cases h2:n=0
 ·have e:aB 0 n s (.num 1)=17:=by unfold aB;simp [aK,h2]
  rw [e,ah (by decide),<- hz];refine aA rfl rfl ?_ rfl;simp [bU,bV,hu,h2]
 have e:aB 0 n s (.num 1)=dn n s (.num 1):=by unfold aB;simp [aK,h2]
 rw [e];show _=some [aJ { b with min:=n } r,GV.i .i64 0]
 unfold aJ;refine aA rfl rfl ?_ rfl;simp [bU,bV,hu,h2]
theorem alG (b:aG) (r:List GV) (ty n:Int) (s:List UInt8):fD b r ty n s kK (.num 2):=by
 unfold fD jR;have hu:=fC xA;have hz:GV.g [.i .i64 0,.i .u64 0,.i .u64 0,.i .u64 0,.i .u64 0,.i .u64 0,.i .u64 0,.i .u64 0,.i .u64 0,.i .u64 0,.i .u64 0,.i .u64 0,.i .u64 0,.i .u64 0,.i .u64 0,.i .u64 0,.i .i64 0,.b false,.s [],.s [],.s [],.l [],.l [],.l []]=aJ gB []:=rfl;simp only [dM] at hu;unfold kK at *;by_cases h1:ty=0;rotate_left
 ·have e:aB ty n s (.num 2)=8:=by unfold aB;rw [ah (by simpa [aK] using h1)]
  rw [e,ah (by decide),<- hz];refine aA rfl rfl ?_ rfl;simp [bU,bV,hu,h1]
 subst h1;by_cases h2:n=0
 ·have e:aB 0 n s (.num 2)=17:=by unfold aB;simp [aK,h2]
  rw [e,ah (by decide),<- hz];refine aA rfl rfl ?_ rfl;simp [bU,bV,hu,h2]
 have e:aB 0 n s (.num 2)=dn n s (.num 2):=by unfold aB;simp [aK,h2]
 rw [e];show _=some [aJ { b with max:=n } r,GV.i .i64 0]
 unfold aJ;refine aA rfl rfl ?_ rfl;simp [bU,bV,hu,h2]
theorem alv (b:aG) (r:List GV) (ty n:Int) (s:List UInt8):fD b r ty n s jZ (.num 3):=by
 unfold fD jR;have hu:=fC wV;have hz:GV.g [.i .i64 0,.i .u64 0,.i .u64 0,.i .u64 0,.i .u64 0,.i .u64 0,.i .u64 0,.i .u64 0,.i .u64 0,.i .u64 0,.i .u64 0,.i .u64 0,.i .u64 0,.i .u64 0,.i .u64 0,.i .u64 0,.i .i64 0,.b false,.s [],.s [],.s [],.l [],.l [],.l []]=aJ gB []:=rfl;simp only [dM] at hu;unfold jZ at *;by_cases h1:ty=0;rotate_left
 ·have e:aB ty n s (.num 3)=8:=by unfold aB;rw [ah (by simpa [aK] using h1)]
  rw [e,ah (by decide),<- hz];refine aA rfl rfl ?_ rfl;simp [bU,bV,hu,h1]
 subst h1;by_cases h2:n=0
 ·have e:aB 0 n s (.num 3)=17:=by unfold aB;simp [aK,h2]
  rw [e,ah (by decide),<- hz];refine aA rfl rfl ?_ rfl;simp [bU,bV,hu,h2]
 have e:aB 0 n s (.num 3)=dn n s (.num 3):=by unfold aB;simp [aK,h2]
 rw [e];show _=some [aJ { b with chosen:=n } r,GV.i .i64 0]
 unfold aJ;refine aA rfl rfl ?_ rfl;simp [bU,bV,hu,h2]
theorem alD (b:aG) (r:List GV) (ty n:Int) (s:List UInt8):fD b r ty n s kG (.num 4):=by
 unfold fD jR;have hu:=fC xq;have hz:GV.g [.i .i64 0,.i .u64 0,.i .u64 0,.i .u64 0,.i .u64 0,.i .u64 0,.i .u64 0,.i .u64 0,.i .u64 0,.i .u64 0,.i .u64 0,.i .u64 0,.i .u64 0,.i .u64 0,.i .u64 0,.i .u64 0,.i .i64 0,.b false,.s [],.s [],.s [],.l [],.l [],.l []]=aJ gB []:=rfl;simp only [dM] at hu;unfold kG at *;by_cases h1:ty=0;rotate_left
 ·have e:aB ty n s (.num 4)=8:=by unfold aB;rw [ah (by simpa [aK] using h1)]
  rw [e,ah (by decide),<- hz];refine aA rfl rfl ?_ rfl;simp [bU,bV,hu,h1]
 subst h1;by_cases h2:n=0
 ·have e:aB 0 n s (.num 4)=17:=by unfold aB;simp [aK,h2]
  rw [e,ah (by decide),<- hz];refine aA rfl rfl ?_ rfl;simp [bU,bV,hu,h2]
 have e:aB 0 n s (.num 4)=dn n s (.num 4):=by unfold aB;simp [aK,h2]
 rw [e];show _=some [aJ { b with flags:=n } r,GV.i .i64 0]
 unfold aJ;refine aA rfl rfl ?_ rfl;simp [bU,bV,hu,h2]
theorem aly (b:aG) (r:List GV) (ty n:Int) (s:List UInt8):fD b r ty n s kC (.num 5):=by
 unfold fD jR;have hu:=fC wX;have hz:GV.g [.i .i64 0,.i .u64 0,.i .u64 0,.i .u64 0,.i .u64 0,.i .u64 0,.i .u64 0,.i .u64 0,.i .u64 0,.i .u64 0,.i .u64 0,.i .u64 0,.i .u64 0,.i .u64 0,.i .u64 0,.i .u64 0,.i .i64 0,.b false,.s [],.s [],.s [],.l [],.l [],.l []]=aJ gB []:=rfl;simp only [dM] at hu;unfold kC at *;by_cases h1:ty=0;rotate_left
 ·have e:aB ty n s (.num 5)=8:=by unfold aB;rw [ah (by simpa [aK] using h1)]
  rw [e,ah (by decide),<- hz];refine aA rfl rfl ?_ rfl;simp [bU,bV,hu,h1]
 subst h1;by_cases h2:n=0
 ·have e:aB 0 n s (.num 5)=17:=by unfold aB;simp [aK,h2]
  rw [e,ah (by decide),<- hz];refine aA rfl rfl ?_ rfl;simp [bU,bV,hu,h2]
 have e:aB 0 n s (.num 5)=dn n s (.num 5):=by unfold aB;simp [aK,h2]
 rw [e];show _=some [aJ { b with cost:=n } r,GV.i .i64 0]
 unfold aJ;refine aA rfl rfl ?_ rfl;simp [bU,bV,hu,h2]
theorem alK (b:aG) (r:List GV) (ty n:Int) (s:List UInt8):fD b r ty n s kP (.num 6):=by
 unfold fD jR;have hu:=fC xF;have hz:GV.g [.i .i64 0,.i .u64 0,.i .u64 0,.i .u64 0,.i .u64 0,.i .u64 0,.i .u64 0,.i .u64 0,.i .u64 0,.i .u64 0,.i .u64 0,.i .u64 0,.i .u64 0,.i .u64 0,.i .u64 0,.i .u64 0,.i .i64 0,.b false,.s [],.s [],.s [],.l [],.l [],.l []]=aJ gB []:=rfl;simp only [dM] at hu;unfold kP at *;by_cases h1:ty=0;rotate_left
 ·have e:aB ty n s (.num 6)=8:=by unfold aB;rw [ah (by simpa [aK] using h1)]
  rw [e,ah (by decide),<- hz];refine aA rfl rfl ?_ rfl;simp [bU,bV,hu,h1]
 subst h1;by_cases h2:n=0
 ·have e:aB 0 n s (.num 6)=17:=by unfold aB;simp [aK,h2]
  rw [e,ah (by decide),<- hz];refine aA rfl rfl ?_ rfl;simp [bU,bV,hu,h2]
 have e:aB 0 n s (.num 6)=dn n s (.num 6):=by unfold aB;simp [aK,h2]
 rw [e];show _=some [aJ { b with priority:=n } r,GV.i .i64 0]
 unfold aJ;refine aA rfl rfl ?_ rfl;simp [bU,bV,hu,h2]
theorem alz (b:aG) (r:List GV) (ty n:Int) (s:List UInt8):fD b r ty n s kD (.num 7):=by
 unfold fD jR;have hu:=fC wY;have hz:GV.g [.i .i64 0,.i .u64 0,.i .u64 0,.i .u64 0,.i .u64 0,.i .u64 0,.i .u64 0,.i .u64 0,.i .u64 0,.i .u64 0,.i .u64 0,.i .u64 0,.i .u64 0,.i .u64 0,.i .u64 0,.i .u64 0,.i .i64 0,.b false,.s [],.s [],.s [],.l [],.l [],.l []]=aJ gB []:=rfl;simp only [dM] at hu;unfold kD at *;by_cases h1:ty=0;rotate_left
 ·have e:aB ty n s (.num 7)=8:=by unfold aB;rw [ah (by simpa [aK] using h1)]
  rw [e,ah (by decide),<- hz];refine aA rfl rfl ?_ rfl;simp [bU,bV,hu,h1]
 subst h1;by_cases h2:n=0
 ·have e:aB 0 n s (.num 7)=17:=by unfold aB;simp [aK,h2]
  rw [e,ah (by decide),<- hz];refine aA rfl rfl ?_ rfl;simp [bU,bV,hu,h2]
 have e:aB 0 n s (.num 7)=dn n s (.num 7):=by unfold aB;simp [aK,h2]
 rw [e];show _=some [aJ { b with deadline:=n } r,GV.i .i64 0]
 unfold aJ;refine aA rfl rfl ?_ rfl;simp [bU,bV,hu,h2]
theorem alN (b:aG) (r:List GV) (ty n:Int) (s:List UInt8):fD b r ty n s kR (.num 8):=by
 unfold fD jR;have hu:=fC xI;have hz:GV.g [.i .i64 0,.i .u64 0,.i .u64 0,.i .u64 0,.i .u64 0,.i .u64 0,.i .u64 0,.i .u64 0,.i .u64 0,.i .u64 0,.i .u64 0,.i .u64 0,.i .u64 0,.i .u64 0,.i .u64 0,.i .u64 0,.i .i64 0,.b false,.s [],.s [],.s [],.l [],.l [],.l []]=aJ gB []:=rfl;simp only [dM] at hu;unfold kR at *;by_cases h1:ty=0;rotate_left
 ·have e:aB ty n s (.num 8)=8:=by unfold aB;rw [ah (by simpa [aK] using h1)]
  rw [e,ah (by decide),<- hz];refine aA rfl rfl ?_ rfl;simp [bU,bV,hu,h1]
 subst h1;by_cases h2:n=0
 ·have e:aB 0 n s (.num 8)=17:=by unfold aB;simp [aK,h2]
  rw [e,ah (by decide),<- hz];refine aA rfl rfl ?_ rfl;simp [bU,bV,hu,h2]
 have e:aB 0 n s (.num 8)=dn n s (.num 8):=by unfold aB;simp [aK,h2]
 rw [e];show _=some [aJ { b with retry:=n } r,GV.i .i64 0]
 unfold aJ;refine aA rfl rfl ?_ rfl;simp [bU,bV,hu,h2]
theorem alC (b:aG) (r:List GV) (ty n:Int) (s:List UInt8):fD b r ty n s kF (.num 9):=by
 unfold fD jR;have hu:=fC xk;have hz:GV.g [.i .i64 0,.i .u64 0,.i .u64 0,.i .u64 0,.i .u64 0,.i .u64 0,.i .u64 0,.i .u64 0,.i .u64 0,.i .u64 0,.i .u64 0,.i .u64 0,.i .u64 0,.i .u64 0,.i .u64 0,.i .u64 0,.i .i64 0,.b false,.s [],.s [],.s [],.l [],.l [],.l []]=aJ gB []:=rfl;simp only [dM] at hu;unfold kF at *;by_cases h1:ty=0;rotate_left
 ·have e:aB ty n s (.num 9)=8:=by unfold aB;rw [ah (by simpa [aK] using h1)]
  rw [e,ah (by decide),<- hz];refine aA rfl rfl ?_ rfl;simp [bU,bV,hu,h1]
 subst h1;by_cases h2:n=0
 ·have e:aB 0 n s (.num 9)=17:=by unfold aB;simp [aK,h2]
  rw [e,ah (by decide),<- hz];refine aA rfl rfl ?_ rfl;simp [bU,bV,hu,h2]
 have e:aB 0 n s (.num 9)=dn n s (.num 9):=by unfold aB;simp [aK,h2]
 rw [e];show _=some [aJ { b with epoch:=n } r,GV.i .i64 0]
 unfold aJ;refine aA rfl rfl ?_ rfl;simp [bU,bV,hu,h2]
theorem alu (b:aG) (r:List GV) (ty n:Int) (s:List UInt8):fD b r ty n s jY (.num 10):=by
 unfold fD jR;have hu:=fC wU;have hz:GV.g [.i .i64 0,.i .u64 0,.i .u64 0,.i .u64 0,.i .u64 0,.i .u64 0,.i .u64 0,.i .u64 0,.i .u64 0,.i .u64 0,.i .u64 0,.i .u64 0,.i .u64 0,.i .u64 0,.i .u64 0,.i .u64 0,.i .i64 0,.b false,.s [],.s [],.s [],.l [],.l [],.l []]=aJ gB []:=rfl;simp only [dM] at hu;unfold jY at *;by_cases h1:ty=0;rotate_left
 ·have e:aB ty n s (.num 10)=8:=by unfold aB;rw [ah (by simpa [aK] using h1)]
  rw [e,ah (by decide),<- hz];refine aA rfl rfl ?_ rfl;simp [bU,bV,hu,h1]
 subst h1;by_cases h2:n=0
 ·have e:aB 0 n s (.num 10)=17:=by unfold aB;simp [aK,h2]
  rw [e,ah (by decide),<- hz];refine aA rfl rfl ?_ rfl;simp [bU,bV,hu,h2]
 have e:aB 0 n s (.num 10)=dn n s (.num 10):=by unfold aB;simp [aK,h2]
 rw [e];show _=some [aJ { b with base:=n } r,GV.i .i64 0]
 unfold aJ;refine aA rfl rfl ?_ rfl;simp [bU,bV,hu,h2]
theorem alB (b:aG) (r:List GV) (ty n:Int) (s:List UInt8):fD b r ty n s kE (.num 11):=by
 unfold fD jR;have hu:=fC xg;have hz:GV.g [.i .i64 0,.i .u64 0,.i .u64 0,.i .u64 0,.i .u64 0,.i .u64 0,.i .u64 0,.i .u64 0,.i .u64 0,.i .u64 0,.i .u64 0,.i .u64 0,.i .u64 0,.i .u64 0,.i .u64 0,.i .u64 0,.i .i64 0,.b false,.s [],.s [],.s [],.l [],.l [],.l []]=aJ gB []:=rfl;simp only [dM] at hu;unfold kE at *;by_cases h1:ty=0;rotate_left
 ·have e:aB ty n s (.num 11)=8:=by unfold aB;rw [ah (by simpa [aK] using h1)]
  rw [e,ah (by decide),<- hz];refine aA rfl rfl ?_ rfl;simp [bU,bV,hu,h1]
 subst h1;by_cases h2:n=0
 ·have e:aB 0 n s (.num 11)=17:=by unfold aB;simp [aK,h2]
  rw [e,ah (by decide),<- hz];refine aA rfl rfl ?_ rfl;simp [bU,bV,hu,h2]
 have e:aB 0 n s (.num 11)=dn n s (.num 11):=by unfold aB;simp [aK,h2]
 rw [e];show _=some [aJ { b with digest:=n } r,GV.i .i64 0]
 unfold aJ;refine aA rfl rfl ?_ rfl;simp [bU,bV,hu,h2]
theorem alF (b:aG) (r:List GV) (ty n:Int) (s:List UInt8):fD b r ty n s kJ (.num 12):=by
 unfold fD jR;have hu:=fC xw;have hz:GV.g [.i .i64 0,.i .u64 0,.i .u64 0,.i .u64 0,.i .u64 0,.i .u64 0,.i .u64 0,.i .u64 0,.i .u64 0,.i .u64 0,.i .u64 0,.i .u64 0,.i .u64 0,.i .u64 0,.i .u64 0,.i .u64 0,.i .i64 0,.b false,.s [],.s [],.s [],.l [],.l [],.l []]=aJ gB []:=rfl;simp only [dM] at hu;unfold kJ at *;by_cases h1:ty=0;rotate_left
 ·have e:aB ty n s (.num 12)=8:=by unfold aB;rw [ah (by simpa [aK] using h1)]
  rw [e,ah (by decide),<- hz];refine aA rfl rfl ?_ rfl;simp [bU,bV,hu,h1]
 subst h1;by_cases h2:n=0
 ·have e:aB 0 n s (.num 12)=17:=by unfold aB;simp [aK,h2]
  rw [e,ah (by decide),<- hz];refine aA rfl rfl ?_ rfl;simp [bU,bV,hu,h2]
 have e:aB 0 n s (.num 12)=dn n s (.num 12):=by unfold aB;simp [aK,h2]
 rw [e];show _=some [aJ { b with lag:=n } r,GV.i .i64 0]
 unfold aJ;refine aA rfl rfl ?_ rfl;simp [bU,bV,hu,h2]
theorem alx (b:aG) (r:List GV) (ty n:Int) (s:List UInt8):fD b r ty n s ku (.num 13):=by
 unfold fD jR;have hu:=fC wW;have hz:GV.g [.i .i64 0,.i .u64 0,.i .u64 0,.i .u64 0,.i .u64 0,.i .u64 0,.i .u64 0,.i .u64 0,.i .u64 0,.i .u64 0,.i .u64 0,.i .u64 0,.i .u64 0,.i .u64 0,.i .u64 0,.i .u64 0,.i .i64 0,.b false,.s [],.s [],.s [],.l [],.l [],.l []]=aJ gB []:=rfl;simp only [dM] at hu;unfold ku at *;by_cases h1:ty=0;rotate_left
 ·have e:aB ty n s (.num 13)=8:=by unfold aB;rw [ah (by simpa [aK] using h1)]
  rw [e,ah (by decide),<- hz];refine aA rfl rfl ?_ rfl;simp [bU,bV,hu,h1]
 subst h1;by_cases h2:n=0
 ·have e:aB 0 n s (.num 13)=17:=by unfold aB;simp [aK,h2]
  rw [e,ah (by decide),<- hz];refine aA rfl rfl ?_ rfl;simp [bU,bV,hu,h2]
 have e:aB 0 n s (.num 13)=dn n s (.num 13):=by unfold aB;simp [aK,h2]
 rw [e];show _=some [aJ { b with code:=n } r,GV.i .i64 0]
 unfold aJ;refine aA rfl rfl ?_ rfl;simp [bU,bV,hu,h2]
theorem alP (b:aG) (r:List GV) (ty n:Int) (s:List UInt8):fD b r ty n s kS (.num 14):=by
 unfold fD jR;have hu:=fC xK;have hz:GV.g [.i .i64 0,.i .u64 0,.i .u64 0,.i .u64 0,.i .u64 0,.i .u64 0,.i .u64 0,.i .u64 0,.i .u64 0,.i .u64 0,.i .u64 0,.i .u64 0,.i .u64 0,.i .u64 0,.i .u64 0,.i .u64 0,.i .i64 0,.b false,.s [],.s [],.s [],.l [],.l [],.l []]=aJ gB []:=rfl;simp only [dM] at hu;unfold kS at *;by_cases h1:ty=0;rotate_left
 ·have e:aB ty n s (.num 14)=8:=by unfold aB;rw [ah (by simpa [aK] using h1)]
  rw [e,ah (by decide),<- hz];refine aA rfl rfl ?_ rfl;simp [bU,bV,hu,h1]
 subst h1;by_cases h2:n=0
 ·have e:aB 0 n s (.num 14)=17:=by unfold aB;simp [aK,h2]
  rw [e,ah (by decide),<- hz];refine aA rfl rfl ?_ rfl;simp [bU,bV,hu,h2]
 have e:aB 0 n s (.num 14)=dn n s (.num 14):=by unfold aB;simp [aK,h2]
 rw [e];show _=some [aJ { b with want:=n } r,GV.i .i64 0]
 unfold aJ;refine aA rfl rfl ?_ rfl;simp [bU,bV,hu,h2]
theorem alM (b:aG) (r:List GV) (ty n:Int) (s:List UInt8) (hn:0<=n/\n < 18446744073709551616):fD b r ty n s lH .rem:=by
 unfold fD jR;have hu:=fC xH;have hz:GV.g [.i .i64 0,.i .u64 0,.i .u64 0,.i .u64 0,.i .u64 0,.i .u64 0,.i .u64 0,.i .u64 0,.i .u64 0,.i .u64 0,.i .u64 0,.i .u64 0,.i .u64 0,.i .u64 0,.i .u64 0,.i .u64 0,.i .i64 0,.b false,.s [],.s [],.s [],.l [],.l [],.l []]=aJ gB []:=rfl;simp only [dM] at hu;unfold lH at *;by_cases h1:ty=0;rotate_left
 ·have e:aB ty n s .rem=8:=by unfold aB;rw [ah (by simpa [aK] using h1)]
  rw [e,ah (by decide),<- hz];refine aA rfl rfl ?_ rfl;simp [bU,bV,hu,h1]
 subst h1;by_cases h2:n=0
 ·have e:aB 0 n s .rem=17:=by unfold aB;simp [aK,h2]
  rw [e,ah (by decide),<- hz];refine aA rfl rfl ?_ rfl;simp [bU,bV,hu,h2]
 have e:aB 0 n s .rem=dn n s .rem:=by unfold aB;simp [aK,h2]
 rw [e];show _=some [aJ { b with remaining:=Ap n } r,GV.i .i64 0]
 have w1:=wrap64 (n:=n / 2) (by omega) (by omega);have t1:n.tdiv 2=n / 2:=adu hn.1;have t2:n.tmod 2=n % 2:=WI hn.1;have wu:=eH (n:=n / 2) (by omega) (by omega);unfold aJ Ap;by_cases h3:n % 2=0
 ·rw [ak h3]
  refine aA rfl rfl ?_ rfl;simp [bU,bV,hu,h2,t1,t2,h3,w1,wu]
 ·have w2:=wrap64 (n:=0 - n / 2) (by omega) (by omega)
  have w3:=wrap64 (n:=0 - n / 2 - 1) (by omega) (by omega);simp only [Int.zero_sub] at w2 w3;rw [ah h3];refine aA rfl rfl ?_ rfl;simp [bU,bV,hu,h2,t1,t2,h3,w1,w2,w3,wu]
theorem als (b:aG) (r:List GV) (ty n:Int) (s:List UInt8):fD b r ty n s lG .allow:=by
 unfold fD jR;have hu:=fC wS;have hz:GV.g [.i .i64 0,.i .u64 0,.i .u64 0,.i .u64 0,.i .u64 0,.i .u64 0,.i .u64 0,.i .u64 0,.i .u64 0,.i .u64 0,.i .u64 0,.i .u64 0,.i .u64 0,.i .u64 0,.i .u64 0,.i .u64 0,.i .i64 0,.b false,.s [],.s [],.s [],.l [],.l [],.l []]=aJ gB []:=rfl;simp only [dM] at hu;unfold lG at *;by_cases h1:ty=0;rotate_left
 ·have e:aB ty n s .allow=8:=by unfold aB;rw [ah (by simpa [aK] using h1)]
  rw [e,ah (by decide),<- hz];refine aA rfl rfl ?_ rfl;simp [bU,bV,hu,h1]
 subst h1;by_cases h2:n=0
 ·have e:aB 0 n s .allow=17:=by unfold aB;simp [aK,h2]
  rw [e,ah (by decide),<- hz];refine aA rfl rfl ?_ rfl;simp [bU,bV,hu,h2]
 have e:aB 0 n s .allow=dn n s .allow:=by unfold aB;simp [aK,h2]
 rw [e];by_cases h3:n=1
 ·have e2:dn n s .allow=0:=by unfold dn;simp [h3]
  rw [ak e2];show _=some [aJ { b with allowed:=true } r,GV.i .i64 0]
  unfold aJ;refine aA rfl rfl ?_ rfl;simp [bU,bV,hu,h2,h3]
 ·have e2:dn n s .allow=18:=by unfold dn;simp [h3]
  rw [e2,ah (by decide),<- hz];refine aA rfl rfl ?_ rfl;simp [bU,bV,hu,h2,h3]
theorem alI (b:aG) (r:List GV) (ty n:Int) (s:List UInt8) (hs:s.length<=100000000):fD b r ty n s kM .name:=by
 unfold fD jR;have hu:=fC xC;have hz:GV.g [.i .i64 0,.i .u64 0,.i .u64 0,.i .u64 0,.i .u64 0,.i .u64 0,.i .u64 0,.i .u64 0,.i .u64 0,.i .u64 0,.i .u64 0,.i .u64 0,.i .u64 0,.i .u64 0,.i .u64 0,.i .u64 0,.i .i64 0,.b false,.s [],.s [],.s [],.l [],.l [],.l []]=aJ gB []:=rfl;simp only [dM] at hu;unfold kM at *;by_cases h1:ty=1;rotate_left
 ·have e:aB ty n s .name=8:=by unfold aB;rw [ah (by simpa [aK] using h1)]
  rw [e,ah (by decide),<- hz];refine aA rfl rfl ?_ rfl;simp [bU,bV,hu,h1]
 subst h1;by_cases h2:s=[]
 ·have e:aB 1 n s .name=17:=by unfold aB;simp [aK,h2]
  rw [e,ah (by decide),<- hz];refine aA rfl rfl ?_ rfl;simp [bU,bV,hu,h2]
 have e:aB 1 n s .name=dn n s .name:=by unfold aB;simp [aK,h2]
 rw [e];have hc:=IG s 0 256 (by omega);unfold dn;by_cases h3:jQ s 0 256=0
 ·rw [ak h3]
  rw [h3] at hc;show _=some [aJ { b with name:=s } r,GV.i .i64 0]
  unfold aJ;refine aA rfl rfl ?_ rfl;simp [bU,bV,hu,h2,hc]
 ·rw [ah h3,<- hz]
  generalize jQ s 0 256=u at *;refine aA rfl rfl ?_ rfl;simp [bU,bV,hu,h2,hc,h3]
theorem alL (b:aG) (r:List GV) (ty n:Int) (s:List UInt8) (hs:s.length<=100000000):fD b r ty n s kQ .region:=by
 unfold fD jR;have hu:=fC xG;have hz:GV.g [.i .i64 0,.i .u64 0,.i .u64 0,.i .u64 0,.i .u64 0,.i .u64 0,.i .u64 0,.i .u64 0,.i .u64 0,.i .u64 0,.i .u64 0,.i .u64 0,.i .u64 0,.i .u64 0,.i .u64 0,.i .u64 0,.i .i64 0,.b false,.s [],.s [],.s [],.l [],.l [],.l []]=aJ gB []:=rfl;simp only [dM] at hu;unfold kQ at *;by_cases h1:ty=1;rotate_left
 ·have e:aB ty n s .region=8:=by unfold aB;rw [ah (by simpa [aK] using h1)]
  rw [e,ah (by decide),<- hz];refine aA rfl rfl ?_ rfl;simp [bU,bV,hu,h1]
 subst h1;by_cases h2:s=[]
 ·have e:aB 1 n s .region=17:=by unfold aB;simp [aK,h2]
  rw [e,ah (by decide),<- hz];refine aA rfl rfl ?_ rfl;simp [bU,bV,hu,h2]
 have e:aB 1 n s .region=dn n s .region:=by unfold aB;simp [aK,h2]
 rw [e];have hc:=IG s 0 256 (by omega);unfold dn;by_cases h3:jQ s 0 256=0
 ·rw [ak h3]
  rw [h3] at hc;show _=some [aJ { b with region:=s } r,GV.i .i64 0]
  unfold aJ;refine aA rfl rfl ?_ rfl;simp [bU,bV,hu,h2,hc]
 ·rw [ah h3,<- hz]
  generalize jQ s 0 256=u at *;refine aA rfl rfl ?_ rfl;simp [bU,bV,hu,h2,hc,h3]
theorem alJ (b:aG) (r:List GV) (ty n:Int) (s:List UInt8) (hs:s.length<=100000000):fD b r ty n s kN .note:=by
 unfold fD jR;have hu:=fC xE;have hz:GV.g [.i .i64 0,.i .u64 0,.i .u64 0,.i .u64 0,.i .u64 0,.i .u64 0,.i .u64 0,.i .u64 0,.i .u64 0,.i .u64 0,.i .u64 0,.i .u64 0,.i .u64 0,.i .u64 0,.i .u64 0,.i .u64 0,.i .i64 0,.b false,.s [],.s [],.s [],.l [],.l [],.l []]=aJ gB []:=rfl;simp only [dM] at hu;unfold kN at *;by_cases h1:ty=1;rotate_left
 ·have e:aB ty n s .note=8:=by unfold aB;rw [ah (by simpa [aK] using h1)]
  rw [e,ah (by decide),<- hz];refine aA rfl rfl ?_ rfl;simp [bU,bV,hu,h1]
 subst h1;by_cases h2:s=[]
 ·have e:aB 1 n s .note=17:=by unfold aB;simp [aK,h2]
  rw [e,ah (by decide),<- hz];refine aA rfl rfl ?_ rfl;simp [bU,bV,hu,h2]
 have e:aB 1 n s .note=dn n s .note:=by unfold aB;simp [aK,h2]
 rw [e];have hc:=IG s 0 256 (by omega);unfold dn;by_cases h3:jQ s 0 256=0
 ·rw [ak h3]
  rw [h3] at hc;show _=some [aJ { b with note:=s } r,GV.i .i64 0]
  unfold aJ;refine aA rfl rfl ?_ rfl;simp [bU,bV,hu,h2,hc]
 ·rw [ah h3,<- hz]
  generalize jQ s 0 256=u at *;refine aA rfl rfl ?_ rfl;simp [bU,bV,hu,h2,hc,h3]
theorem alA (b:aG) (r:List GV) (ty n:Int) (s:List UInt8) (hs:s.length<=100000000):fD b r ty n s jG .d:=by
 unfold fD jR;have hu:=fC wZ;have hz:GV.g [.i .i64 0,.i .u64 0,.i .u64 0,.i .u64 0,.i .u64 0,.i .u64 0,.i .u64 0,.i .u64 0,.i .u64 0,.i .u64 0,.i .u64 0,.i .u64 0,.i .u64 0,.i .u64 0,.i .u64 0,.i .u64 0,.i .i64 0,.b false,.s [],.s [],.s [],.l [],.l [],.l []]=aJ gB []:=rfl;simp only [dM] at hu;unfold jG at *;by_cases h1:ty=1;rotate_left
 ·have e:aB ty n s .d=8:=by unfold aB;rw [ah (by simpa [aK] using h1)]
  rw [e,ah (by decide),<- hz];refine aA rfl rfl ?_ rfl;simp [bU,bV,hu,h1]
 subst h1;by_cases h2:s=[]
 ·have e:aB 1 n s .d=17:=by unfold aB;simp [aK,h2]
  rw [e,ah (by decide),<- hz];refine aA rfl rfl ?_ rfl;simp [bU,bV,hu,h2]
 have e:aB 1 n s .d=dn n s .d:=by unfold aB;simp [aK,h2]
 rw [e];have hc:=abT s hs;unfold dn;by_cases h3:(iO s).2=0
 ·rw [ak h3]
  rw [h3] at hc;show _=some [aJ { b with d:=(iO s).1 } r,GV.i .i64 0]
  unfold aJ;refine aA rfl rfl ?_ rfl;simp [bU,bV,hu,h2,hc]
 ·rw [ah h3,<- hz]
  generalize iO s=u at *;refine aA rfl rfl ?_ rfl;simp [bU,bV,hu,h2,hc,h3]
theorem alO (b:aG) (r:List GV) (ty n:Int) (s:List UInt8) (hs:s.length<=100000000):fD b r ty n s jH .t:=by
 unfold fD jR;have hu:=fC xJ;have hz:GV.g [.i .i64 0,.i .u64 0,.i .u64 0,.i .u64 0,.i .u64 0,.i .u64 0,.i .u64 0,.i .u64 0,.i .u64 0,.i .u64 0,.i .u64 0,.i .u64 0,.i .u64 0,.i .u64 0,.i .u64 0,.i .u64 0,.i .i64 0,.b false,.s [],.s [],.s [],.l [],.l [],.l []]=aJ gB []:=rfl;simp only [dM] at hu;unfold jH at *;by_cases h1:ty=1;rotate_left
 ·have e:aB ty n s .t=8:=by unfold aB;rw [ah (by simpa [aK] using h1)]
  rw [e,ah (by decide),<- hz];refine aA rfl rfl ?_ rfl;simp [bU,bV,hu,h1]
 subst h1;by_cases h2:s=[]
 ·have e:aB 1 n s .t=17:=by unfold aB;simp [aK,h2]
  rw [e,ah (by decide),<- hz];refine aA rfl rfl ?_ rfl;simp [bU,bV,hu,h2]
 have e:aB 1 n s .t=dn n s .t:=by unfold aB;simp [aK,h2]
 rw [e];have hc:=akZ s hs;by_cases h3:(kW s).2=0
 ·rw [h3] at hc
  by_cases h4:(kW s).1.length=0
  ·have h5:=jw h4
   have e2:dn n s .t=17:=by unfold dn;simp [h3,h4]
   rw [e2,ah (by decide),<- hz];refine aA rfl rfl ?_ rfl;simp [bU,bV,hu,h2,hc,h5]
  ·have h5:(kW s).1≠[]:=λe=>h4 (by rw [e];rfl)
   have e2:dn n s .t=0:=by unfold dn;simp [h3,h4]
   rw [ak e2];show _=some [aJ { b with t:=(kW s).1 } r,GV.i .i64 0]
   unfold aJ;refine aA rfl rfl ?_ rfl;simp [bU,bV,hu,h2,hc,h5]
 ·have e2:dn n s .t=(kW s).2:=by unfold dn;simp [h3]
  rw [e2,ah h3,<- hz];generalize kW s=u at *;refine aA rfl rfl ?_ rfl;simp [bU,bV,hu,h2,hc,h3]
theorem alr (b:aG) (r:List GV) (ty n:Int) (s:List UInt8) (hn:0<=n/\n < 18446744073709551616) (hs:s.length<=100000000) (nm:List UInt8):TT.lim 103 [aJ b r,.s nm,.i .i64 ty,.i .u64 n,.s s]=some (jv b r ty n s nm):=by
 refine Il (Q:=λnm=>TT.lim 103 [aJ b r,.s nm,.i .i64 ty,.i .u64 n,.s s]=some (jv b r ty n s nm)) (by unfold jv;rw [xH];exact alM b r ty n s hn) (by unfold jv;rw [wS];exact als b r ty n s ) (by unfold jv;rw [xC];exact alI b r ty n s hs) (by unfold jv;rw [xG];exact alL b r ty n s hs) (by unfold jv;rw [xE];exact alJ b r ty n s hs) (by unfold jv;rw [wZ];exact alA b r ty n s hs) (by unfold jv;rw [xJ];exact alO b r ty n s hs) (by unfold jv;rw [xu];exact alE b r ty n s ) (by unfold jv;rw [xB];exact alH b r ty n s ) (by unfold jv;rw [xA];exact alG b r ty n s ) (by unfold jv;rw [wV];exact alv b r ty n s ) (by unfold jv;rw [xq];exact alD b r ty n s ) (by unfold jv;rw [wX];exact aly b r ty n s ) (by unfold jv;rw [xF];exact alK b r ty n s ) (by unfold jv;rw [wY];exact alz b r ty n s ) (by unfold jv;rw [xI];exact alN b r ty n s ) (by unfold jv;rw [xk];exact alC b r ty n s ) (by unfold jv;rw [wU];exact alu b r ty n s ) (by unfold jv;rw [xg];exact alB b r ty n s ) (by unfold jv;rw [xw];exact alF b r ty n s ) (by unfold jv;rw [wW];exact alx b r ty n s ) (by unfold jv;rw [xK];exact alP b r ty n s ) (λnm e0 e1 e2 e3 e4 e5 e6 e7 e8 e9 e10 e11 e12 e13 e14 e15 e16 e17 e18 e19 e20 e21=>?_) nm;have hp:=Gi nm e0 e1 e2 e3 e4 e5 e6 e7 e8 e9 e10 e11 e12 e13 e14 e15 e16 e17 e18 e19 e20 e21;have hu:=V6 nm;unfold iT at hu;rw [hp] at hu;unfold jv;rw [hp];have hz:GV.g [.i .i64 0,.i .u64 0,.i .u64 0,.i .u64 0,.i .u64 0,.i .u64 0,.i .u64 0,.i .u64 0,.i .u64 0,.i .u64 0,.i .u64 0,.i .u64 0,.i .u64 0,.i .u64 0,.i .u64 0,.i .u64 0,.i .i64 0,.b false,.s [],.s [],.s [],.l [],.l [],.l []]=aJ gB []:=rfl;simp only at hu ⊢;rw [<- hz];refine aA rfl rfl ?_ rfl;simp [bU,bV,hu]
def Oc (b c:aG):Pl->Prop
 | .rem=>b.remaining=c.remaining
 | .allow=>b.allowed=c.allowed
 | .name=>b.name=c.name
 | .region=>b.region=c.region
 | .note=>b.note=c.note
 | .d=>b.d=c.d
 | .t=>b.t=c.t
 | .num k=>iw b k=iw c k
def xM (b c:aG):Pl->Prop
 | .d=>True
 | .t=>True
 | p=>aV b p=aV c p
theorem aoL {x y:Int} (h:zz x=zz y):x=y:=by
 unfold zz at h;split at h<;>split at h<;>omega
def KD (b c:aG) (rb rc:List GV) (f:Nat) (n:List UInt8) (p:Prop):Prop:=∀ (NL:List GV) (L K:Int) (i:Nat),(i:Int) < L->NL[i]? = some (.s n)->IntKind.i64.wrap ((i:Int)+1)=(i:Int)+1->TT.lim f ([.l NL,.i .i64 L,.i .i64 ((i:Int)+1)]++(aJ c rc).cells++(aJ b rb).cells)=some [.i .i64 K]->TT.lim f ([.l NL,.i .i64 L,.i .i64 i]++(aJ c rc).cells++(aJ b rb).cells)=some [.i .i64 (if fH p=true then K else 0)]
theorem lI:bD=[lG,jY,jZ,ku,kC,kD,jG,kE,kF,kG,kH,kJ,kK,kL,kM,kN,kP,kQ,lH,kR,jH,kS]:=rfl
theorem nX (b c:aG) (rb rc:List GV) {n:List UInt8} {p:Pl} (c1:¬ n=jG) (c2:¬ n=jH) (hb:eG b rb n p) (hc:eG c rc n p):KD b c rb rc 129 n (aV b p=aV c p):=by
 intro NL L K i h hat hw ih;unfold eG at hb hc;rw [wP,wP] at ih ⊢;simp only [eP,dD] at ih ⊢;unfold jG at c1;unfold jH at c2;generalize aV b p=vb at *;generalize aV c p=vc at *;by_cases h1:vb.1=vc.1;rotate_left
 ·have e:fH (vb=vc)=false:=mG λh=>h1 (by rw [h])
  rw [e];refine aC rfl rfl ?_;simp [h,hat,c1,c2,jC,hb,hc,h1]
 by_cases h2:vb.2=vc.2
 ·have e:fH (vb=vc)=true:=tq (HY h1 h2)
  rw [e];refine aC rfl rfl ?_;simp [h,hat,c1,c2,jC,hb,hc,h1,h2,hw,ih]
 ·have e:fH (vb=vc)=false:=mG λh=>h2 (by rw [h])
  rw [e];refine aC rfl rfl ?_;simp [h,hat,c1,c2,jC,hb,hc,h1,h2]
theorem ace (b c:aG) (rb rc:List GV) {n:List UInt8} (hn:n=jG\/n=jH):KD b c rb rc 129 n True:=by
 intro NL L K i h hat hw ih;rw [wP,wP] at ih ⊢;simp only [eP,dD] at ih ⊢;have e:fH True=true:=tq trivial;rw [e];rcases hn with rfl | rfl
 ·unfold jG at hat
  refine aC rfl rfl ?_;simp [h,hat,hw,ih]
 ·unfold jH at hat
  refine aC rfl rfl ?_;simp [h,hat,hw,ih]
theorem akX (b c:aG) (rb rc:List GV) (hb:nG b) (hc:nG c):∀n∈bD,∃p,placeOf n=some p/\KD b c rb rc 129 n (xM b c p):=by
 intro n hn;rw [lI] at hn;simp only [dP,Hl,or_false] at hn;rcases hn with rfl | rfl | rfl | rfl | rfl | rfl | rfl | rfl | rfl | rfl | rfl | rfl | rfl | rfl | rfl | rfl | rfl | rfl | rfl | rfl | rfl | rfl
 ·exact ⟨_,wS,nX b c rb rc (by decide) (by decide) (U9 b rb) (U9 c rc)⟩
 ·exact ⟨_,wU,nX b c rb rc (by decide) (by decide) (Va b rb) (Va c rc)⟩
 ·exact ⟨_,wV,nX b c rb rc (by decide) (by decide) (Vb b rb) (Vb c rc)⟩
 ·exact ⟨_,wW,nX b c rb rc (by decide) (by decide) (Vd b rb) (Vd c rc)⟩
 ·exact ⟨_,wX,nX b c rb rc (by decide) (by decide) (Ve b rb) (Ve c rc)⟩
 ·exact ⟨_,wY,nX b c rb rc (by decide) (by decide) (Vf b rb) (Vf c rc)⟩
 ·exact ⟨_,wZ,ace b c rb rc (.inl rfl)⟩
 ·exact ⟨_,xg,nX b c rb rc (by decide) (by decide) (Vg b rb) (Vg c rc)⟩
 ·exact ⟨_,xk,nX b c rb rc (by decide) (by decide) (Vh b rb) (Vh c rc)⟩
 ·exact ⟨_,xq,nX b c rb rc (by decide) (by decide) (Vj b rb) (Vj c rc)⟩
 ·exact ⟨_,xu,nX b c rb rc (by decide) (by decide) (Vk b rb) (Vk c rc)⟩
 ·exact ⟨_,xw,nX b c rb rc (by decide) (by decide) (Vl b rb) (Vl c rc)⟩
 ·exact ⟨_,xA,nX b c rb rc (by decide) (by decide) (Vm b rb) (Vm c rc)⟩
 ·exact ⟨_,xB,nX b c rb rc (by decide) (by decide) (Vo b rb) (Vo c rc)⟩
 ·exact ⟨_,xC,nX b c rb rc (by decide) (by decide) (Vp b rb) (Vp c rc)⟩
 ·exact ⟨_,xE,nX b c rb rc (by decide) (by decide) (Vq b rb) (Vq c rc)⟩
 ·exact ⟨_,xF,nX b c rb rc (by decide) (by decide) (Vr b rb) (Vr c rc)⟩
 ·exact ⟨_,xG,nX b c rb rc (by decide) (by decide) (Vs b rb) (Vs c rc)⟩
 ·exact ⟨_,xH,nX b c rb rc (by decide) (by decide) (Vt b rb hb) (Vt c rc hc)⟩
 ·exact ⟨_,xI,nX b c rb rc (by decide) (by decide) (Vu b rb) (Vu c rc)⟩
 ·exact ⟨_,xJ,ace b c rb rc (.inr rfl)⟩
 ·exact ⟨_,xK,nX b c rb rc (by decide) (by decide) (Vw b rb) (Vw c rc)⟩
theorem acs (b c:aG) (rb rc:List GV) (f:Nat) (Q:Pl->Prop) (hend:∀ (NL:List GV) (L:Int) (i:Nat),¬ (i:Int) < L->TT.lim f ([.l NL,.i .i64 L,.i .i64 i]++(aJ c rc).cells++(aJ b rb).cells)=some [.i .i64 1]) (hs:∀n∈bD,∃p,placeOf n=some p/\KD b c rb rc f n (Q p)):∀m i:Nat,i+m=bD.length->
 TT.lim f ([.l (bD.map .s),.i .i64 bD.length,.i .i64 i]++(aJ c rc).cells++(aJ b rb).cells)=some [.i .i64 (if fH (∀n∈bD.drop i,∀p,placeOf n=some p->Q p)=true then 1 else 0)]
 | 0,i,hi=>by
   have e:fH (∀n∈bD.drop i,∀p,placeOf n=some p->Q p)=true:=tq (by rw [eY (by omega)];simp);rw [e];exact hend _ _ i (by omega)
 | m+1,i,hi=>by
   have hlt:i < bD.length:=by omega
   have aqd:bD.length=22:=rfl;have hw:=wrap64 (n:=(i:Int)+1) (by omega) (by omega);have ih:=acs b c rb rc f Q hend hs m (i+1) (by omega);obtain ⟨p,hp,hst⟩:=hs _ (iI hlt);have hat:(bD.map GV.s)[i]? = some (.s bD[i]):=by rw [jU,dK hlt];rfl
   have hcast:((i+1:Nat):Int)=(i:Int)+1:=by omega
   rw [hcast] at ih;have hx:=hst _ _ _ i (by omega) hat hw ih;rw [hx,fZ hlt];have hq:(∀n∈bD[i]::bD.drop (i+1),∀p,placeOf n=some p->Q p)↔(Q p/\∀n∈bD.drop (i+1),∀p,placeOf n=some p->Q p):=by
    simp only [dP,forall_eq_or_imp];constructor
    ·exact λh=>⟨h.1 p hp,h.2⟩
    ·intro h
     refine ⟨λq hq=>?_,h.2⟩;rw [hp] at hq;injection hq with hq
     rw [<- hq];exact h.1
   rw [zN hq];by_cases h1:Q p
   ·rw [tq h1,ak rfl]
    have:fH (Q p/\∀n∈bD.drop (i+1),∀p,placeOf n=some p->Q p)=fH (∀n∈bD.drop (i+1),∀p,placeOf n=some p->Q p):=zN ⟨λh=>h.2,λh=>⟨h1,h⟩⟩;rw [this]
   ·rw [mG h1,ah (by decide),mG λh=>h1 h.1,ah (by decide)]
theorem parts_all (b c:aG) (hk:b.kind=c.kind):(∀n∈bD,∀p,placeOf n=some p->Oc b c p)↔b=c:=by
 constructor
 ·intro h
  rw [lI] at h;have h0:∀ {n:List UInt8} {p:Pl},n∈[lG,jY,jZ,ku,kC,kD,jG,kE,kF,kG,kH,kJ,kK,kL,kM,kN,kP,kQ,lH,kR,jH,kS]->placeOf n=some p->Oc b c p:=λh1 h2=>h _ h1 _ h2;have aj8:=h0 (by simp) xH;have ajO:=h0 (by simp) wS;have aj2:=h0 (by simp) xC;have aj7:=h0 (by simp) xG;have aj3:=h0 (by simp) xE;have ajU:=h0 (by simp) wZ;have akb:=h0 (by simp) xJ;have ajY:=h0 (by simp) xu;have aj1:=h0 (by simp) xB;have aj0:=h0 (by simp) xA;have ajQ:=h0 (by simp) wV;have ajX:=h0 (by simp) xq;have ajS:=h0 (by simp) wX;have aj6:=h0 (by simp) xF;have ajT:=h0 (by simp) wY;have aj9:=h0 (by simp) xI;have ajW:=h0 (by simp) xk;have ajP:=h0 (by simp) wU;have ajV:=h0 (by simp) xg;have ajZ:=h0 (by simp) xw;have ajR:=h0 (by simp) wW;have akc:=h0 (by simp) xK;clear h h0;cases b;cases c;simp only [Oc,iw] at *;subst hk;subst aj8;subst ajO;subst aj2;subst aj7;subst aj3;subst ajU;subst akb;subst ajY;subst aj1;subst aj0;subst ajQ;subst ajX;subst ajS;subst aj6;subst ajT;subst aj9;subst ajW;subst ajP;subst ajV;subst ajZ;subst ajR;subst akc;rfl
 ·rintro rfl n _ p _
  cases p<;>simp [Oc]
theorem akP (b c:aG) (hk:b.kind=c.kind) (hd:b.d=c.d) (ht:b.t=c.t):(∀n∈bD,∀p,placeOf n=some p->xM b c p)↔b=c:=by
 rw [<- parts_all b c hk];constructor
 ·intro h n hn p hp
  have:=h n hn p hp;cases p with
  | rem=>simp only [xM,aV,iY,and_true] at this;exact aoL this
  | allow=>
    simp only [xM,aV,iY,and_true] at this;show b.allowed=c.allowed
    cases h1:b.allowed<;>cases h2:c.allowed<;>simp [h1,h2] at this ⊢
  | name=>simp only [xM,aV,iY,true_and] at this;exact this
  | region=>simp only [xM,aV,iY,true_and] at this;exact this
  | note=>simp only [xM,aV,iY,true_and] at this;exact this
  | d=>exact hd
  | t=>exact ht
  | num k=>simp only [xM,aV,iY,and_true] at this;exact this
 ·intro h n hn p hp
  have:=(parts_all b c hk).1 h;subst this;cases p<;>simp [xM]
theorem ab9 (b c:aG) (rb rc:List GV) (hd:b.d.length<=1000) (hl:b.d.length=c.d.length):∀m i:Nat,i+m=b.d.length->
 TT.lim 133 ([.i .i64 b.d.length,.i .i64 i]++(aJ c rc).cells++(aJ b rb).cells)=some [.i .i64 (if fH (b.d.drop i=c.d.drop i)=true then 1 else 0)]
 | 0,i,hi=>by
   have h:¬ ((i:Int) < b.d.length):=by omega
   have e:fH (b.d.drop i=c.d.drop i)=true:=tq (by rw [eY (by omega),eY (by omega)]);rw [e];refine aC rfl rfl ?_;simp [h]
 | m+1,i,hi=>by
   have hlt:i < b.d.length:=by omega
   have hlt':i < c.d.length:=by omega
   have h:((i:Int) < b.d.length):=by omega
   have hw:=wrap64 (n:=(i:Int)+1) (by omega) (by omega);have ih:TT.lim 133 ([.i .i64 b.d.length,.i .i64 ((i:Int)+1)]++(aJ c rc).cells++(aJ b rb).cells)=_:=ab9 b c rb rc hd hl m (i+1) (by omega);have ke:=QW b.d[i] c.d[i];have hda:(b.d.drop i=c.d.drop i)↔(b.d[i]=c.d[i]/\b.d.drop (i+1)=c.d.drop (i+1)):=by
    rw [fZ hlt,fZ hlt',BU]
   rw [zN hda];clear hda;rw [wP,wP] at ih ⊢;simp only [eP,dD] at ih ⊢;by_cases c1:b.d[i]=c.d[i]
   ·have e:fH (b.d[i]=c.d[i]/\b.d.drop (i+1)=c.d.drop (i+1))=fH (b.d.drop (i+1)=c.d.drop (i+1)):=zN ⟨λh=>h.2,λh=>⟨c1,h⟩⟩
    rw [e];rw [Dh c1] at ke;generalize fH (b.d.drop (i+1)=c.d.drop (i+1))=u at *;refine aC rfl rfl ?_;simp [h,hlt,hlt',ke,hw,ih]
   ·rw [mG λh=>c1 h.1]
    rw [Bd c1] at ke;refine aC rfl rfl ?_;simp [h,hlt,hlt',ke,hw]
theorem acd (b c:aG) (fb fc:List bH) (hb:nG b) (hc:nG c) (hbd:b.d.length<=40) (hbt:qU b.t) (hb8:jB fb) (hc8:jB fc) (hbl:fb.length<=1000000) (hcl:fc.length<=1000000):TT.lim 128 [aJ b (aQ fb),aJ c (aQ fc)]=some [.b (fH (b=c/\fb=fc))]:=by
 have h8:=U3 (iR fb+1) fb fc (by omega) hb8 hc8 hbl hcl;have hn:=ab3;have ht:=al9 b.t c.t (by have:=hbt.len;omega) hbt.few;have h0:=acs b c (aQ fb) (aQ fc) 129 (xM b c) (λNL L i h=>by
  rw [wP,wP];simp only [eP,dD];refine aC rfl rfl ?_;simp [h]) (akX b c (aQ fb) (aQ fc) hb hc) bD.length 0 (by omega)
 have h1:=λhl=>ab9 b c (aQ fb) (aQ fc) (by omega) hl b.d.length 0 (by omega);have hal:((bD.map GV.s).length:Int)=(bD.length:Int):=by rw [oQ]
 rw [dJ] at h0;simp only [dJ] at h1;rw [wP,wP] at h0;simp only [wP,eP,dD,xW] at h0 h1;have hpa:=akP b c;generalize bD.map GV.s=NL at *;generalize (bD.length:Int)=L at *;by_cases ha:(∀n∈bD,∀p,placeOf n=some p->xM b c p);rotate_left
 ·rw [mG ha] at h0
  simp only [iC,if_false] at h0;rw [mG λh=>ha (by rw [hpa (by rw [h.1]) (by rw [h.1]) (by rw [h.1])];exact h.1)];refine aA rfl rfl ?_ rfl;simp [hn,hal,h0]
 rw [tq ha] at h0;simp only [if_true] at h0;by_cases hk:b.kind=c.kind;rotate_left
 ·rw [mG λh=>hk (by rw [h.1])]
  refine aA rfl rfl ?_ rfl;simp [hn,hal,h0,hk]
 have hk':(b.kind=c.kind)=True:=eq_true hk;by_cases hl:b.d.length=c.d.length;rotate_left
 ·rw [mG λh=>hl (by rw [h.1])]
  have hl':¬ ((b.d.length:Int)=c.d.length):=by omega
  refine aA rfl rfl ?_ rfl;simp [hn,hal,h0,hk',hl,hl']
 have h1:=h1 hl;have hl':((b.d.length:Int)=c.d.length)=True:=eq_true (by omega);have hl'':(b.d.length=c.d.length)=True:=eq_true hl;by_cases htt:b.t=c.t;rotate_left
 ·rw [mG λh=>htt (by rw [h.1])]
  rw [Bd htt] at ht;refine aA rfl rfl ?_ rfl;simp [hn,hal,h0,hk',hl',hl'',ht]
 rw [Dh htt] at ht;by_cases vK:fb=fc;rotate_left
 ·rw [mG λh=>vK h.2]
  rw [mG vK] at h8;refine aA rfl rfl ?_ rfl;simp [hn,hal,h0,hk',hl',hl'',ht,h8]
 rw [tq vK] at h8;have e:fH (b=c/\fb=fc)=fH (b.d=c.d):=zN ⟨λh=>by rw [h.1],λh=>⟨(hpa hk h htt).1 ha,vK⟩⟩;rw [e];clear hpa;by_cases hd:b.d=c.d
 ·rw [tq hd] at h1 ⊢
  simp only [if_true] at h1;refine aA rfl rfl ?_ rfl;simp [hn,hal,h0,hk',hl',hl'',ht,h8,h1]
 ·rw [mG hd] at h1 ⊢
  simp only [iC,if_false] at h1;refine aA rfl rfl ?_ rfl;simp [hn,hal,h0,hk',hl',hl'',ht,h8,h1]
theorem aoN {n:Int} (hn:0<=n/\n < 18446744073709551616) : -9223372036854775808<=Ap n/\Ap n<=9223372036854775807:=by
 unfold Ap;split<;>omega
theorem Vz {b:aG} {n:Int} {s:List UInt8} {p:Pl} {ty:Int} (hb:nG b) (hd:gy b.d=true) (ht:qU b.t) (hn:0<=n/\n < 18446744073709551616) (hs:s.length<=100000000) (h:aB ty n s p=0):nG (setB b n s p)/\gy (setB b n s p).d=true/\qU (setB b n s p).t:=by
 have hE:dn n s p=0:=by
  unfold aB at h;split at h
  ·split at h<;>split at h<;>first | exact h | exact absurd h (by decide)
  ·exact absurd h (by decide)
 cases p with
 | rem=>exact ⟨{ hb with remaining:=aoN hn },hd,ht⟩
 | allow=>exact ⟨{ hb with },hd,ht⟩
 | name=>exact ⟨{ hb with name:=by show s.length<=_;omega },hd,ht⟩
 | region=>exact ⟨{ hb with region:=by show s.length<=_;omega },hd,ht⟩
 | note=>exact ⟨{ hb with note:=by show s.length<=_;omega },hd,ht⟩
 | d=>
   have hp:=Yy (s:=s) hE hs;exact ⟨{ hb with d:=hp.ents },hp.few,ht⟩
 | t=>
   have hp:=(ant (s:=s) hs).1;exact ⟨{ hb with t:=hp.rows },hd,hp.good⟩
 | num k=>
   unfold setB;split<;>rename_i hk
   ·exact absurd hk (by simp)
   ·exact absurd hk (by simp)
   ·exact absurd hk (by simp)
   ·exact absurd hk (by simp)
   ·exact absurd hk (by simp)
   ·exact absurd hk (by simp)
   ·exact absurd hk (by simp)
   ·split<;>exact ⟨by constructor<;>first | exact hn | exact hb.kind | exact hb.id | exact hb.min | exact hb.max | exact hb.chosen | exact hb.flags | exact hb.cost | exact hb.priority | exact hb.deadline | exact hb.retry | exact hb.epoch | exact hb.base | exact hb.digest | exact hb.lag | exact hb.code | exact hb.want | exact hb.remaining | exact hb.name | exact hb.region | exact hb.note | exact hb.d | exact hb.t,hd,ht⟩
structure lY (b:aG) (fl:List bH):Prop where
 body:nG b
 d:gy b.d=true
 t:qU b.t
 f8:jB fl
 len:fl.length<=1000000
theorem uS:lY gB []:=⟨by constructor<;>simp [gB,oq,Rows],by simp [gB,gy],⟨by simp [gB],by intro r hr;simp [gB] at hr,by simp [gB,Rows]⟩,by simp only [jB],by simp⟩
theorem lY.of {b:aG} {fl:List bH} (h:lY b fl):TT.lim 60 [aJ b (aQ fl)]=some [aJ b (aQ fl)]:=Jt b fl (wE h.d) h.t h.f8 h.len
theorem abP {b:aG} {l:List One} (hb:nG b) (hl:Ones l) (h:Dk b l=true):lY b (uI l)/\iR (uI l)<=1000000/\wF l=true:=by
 unfold Dk at h;simp only [aH] at h;obtain ⟨hok,hlen⟩:=aiq l hl h.2.2.2.2.2;have h60:l.length<=60:=by
  have:=h.2.2.2.2.2;unfold wF at this;rw [aH,decide_eq_true_iff] at this;exact this.2
 have hsz:=ais l;exact ⟨⟨hb,h.2.2.2.1,agx hb.t h.2.2.2.2.1,hok,hlen⟩,by omega,h.2.2.2.2.2⟩
def nameOf:Pl->List UInt8
 | .rem=>lH
 | .allow=>lG
 | .name=>kM
 | .region=>kQ
 | .note=>kN
 | .d=>jG
 | .t=>jH
 | .num k=>match k with
   | 0=>kH
   | 1=>kL
   | 2=>kK
   | 3=>jZ
   | 4=>kG
   | 5=>kC
   | 6=>kP
   | 7=>kD
   | 8=>kR
   | 9=>kF
   | 10=>jY
   | 11=>kE
   | 12=>kJ
   | 13=>ku
   | _=>kS
def jr:Pl->Prop
 | .num k=>k < 15
 | _=>True
theorem Gj (n:List UInt8):∀p,placeOf n=some p->n=nameOf p/\jr p/\n∈bD:=by
 refine Il (Q:=λn=>∀p,placeOf n=some p->n=nameOf p/\jr p/\n∈bD) (λp h=>by rw [xH] at h;cases h;exact ⟨rfl,by simp [jr],by rw [lI];simp⟩) (λp h=>by rw [wS] at h;cases h;exact ⟨rfl,by simp [jr],by rw [lI];simp⟩) (λp h=>by rw [xC] at h;cases h;exact ⟨rfl,by simp [jr],by rw [lI];simp⟩) (λp h=>by rw [xG] at h;cases h;exact ⟨rfl,by simp [jr],by rw [lI];simp⟩) (λp h=>by rw [xE] at h;cases h;exact ⟨rfl,by simp [jr],by rw [lI];simp⟩) (λp h=>by rw [wZ] at h;cases h;exact ⟨rfl,by simp [jr],by rw [lI];simp⟩) (λp h=>by rw [xJ] at h;cases h;exact ⟨rfl,by simp [jr],by rw [lI];simp⟩) (λp h=>by rw [xu] at h;cases h;exact ⟨rfl,by simp [jr],by rw [lI];simp⟩) (λp h=>by rw [xB] at h;cases h;exact ⟨rfl,by simp [jr],by rw [lI];simp⟩) (λp h=>by rw [xA] at h;cases h;exact ⟨rfl,by simp [jr],by rw [lI];simp⟩) (λp h=>by rw [wV] at h;cases h;exact ⟨rfl,by simp [jr],by rw [lI];simp⟩) (λp h=>by rw [xq] at h;cases h;exact ⟨rfl,by simp [jr],by rw [lI];simp⟩) (λp h=>by rw [wX] at h;cases h;exact ⟨rfl,by simp [jr],by rw [lI];simp⟩) (λp h=>by rw [xF] at h;cases h;exact ⟨rfl,by simp [jr],by rw [lI];simp⟩) (λp h=>by rw [wY] at h;cases h;exact ⟨rfl,by simp [jr],by rw [lI];simp⟩) (λp h=>by rw [xI] at h;cases h;exact ⟨rfl,by simp [jr],by rw [lI];simp⟩) (λp h=>by rw [xk] at h;cases h;exact ⟨rfl,by simp [jr],by rw [lI];simp⟩) (λp h=>by rw [wU] at h;cases h;exact ⟨rfl,by simp [jr],by rw [lI];simp⟩) (λp h=>by rw [xg] at h;cases h;exact ⟨rfl,by simp [jr],by rw [lI];simp⟩) (λp h=>by rw [xw] at h;cases h;exact ⟨rfl,by simp [jr],by rw [lI];simp⟩) (λp h=>by rw [wW] at h;cases h;exact ⟨rfl,by simp [jr],by rw [lI];simp⟩) (λp h=>by rw [xK] at h;cases h;exact ⟨rfl,by simp [jr],by rw [lI];simp⟩) (λn e0 e1 e2 e3 e4 e5 e6 e7 e8 e9 e10 e11 e12 e13 e14 e15 e16 e17 e18 e19 e20 e21 p h=>?_) n;rw [Gi n e0 e1 e2 e3 e4 e5 e6 e7 e8 e9 e10 e11 e12 e13 e14 e15 e16 e17 e18 e19 e20 e21] at h;cases h
theorem ajx {a b:List UInt8} {p:Pl} (ha:placeOf a=some p) (hb:placeOf b=some p):a=b:=by rw [(Gj a p ha).1,(Gj b p hb).1]
theorem aja (t:List Row) (ht:qU t):(tC t).length<=90000000:=by
 have h:=U0 t [] (λr hr=>⟨ht.few r hr,(ht.rows.2 r hr).2⟩);have h3:=ht.len;have hv:(cO t.length).length<=20:=by
  have:=mP (n:=t.length) (by omega);omega
 unfold tC;rw [iJ];have:40000 * t.length<=40000 * 300:=Kz _ h3;omega
def Short (b:aG):Prop:=b.name.length<=600/\b.region.length<=600/\b.note.length<=600
theorem V7 {b:aG} {fl:List bH} (h:lY b fl) (hw:Short b) (p:Pl):(0<=(aV b p).1/\(aV b p).1 < 18446744073709551616)/\(aV b p).2.length<=100000000:=by
 have q:=h.body;obtain ⟨w1,w2,w3⟩:=hw;cases p with
 | rem=>
   have hr:=q.remaining;exact ⟨by simp only [aV];unfold zz;split<;>omega,by simp [aV]⟩
 | allow=>refine ⟨?_,by simp [aV]⟩;simp only [aV];split<;>omega
 | name=>exact ⟨by simp [aV],by simp only [aV];omega⟩
 | region=>exact ⟨by simp [aV],by simp only [aV];omega⟩
 | note=>exact ⟨by simp [aV],by simp only [aV];omega⟩
 | d=>
   refine ⟨by simp [aV], ?_⟩;simp only [aV];have:=DC h.d;split
   ·simp
   ·omega
 | t=>
   refine ⟨by simp [aV], ?_⟩;simp only [aV];have:=aja b.t h.t;split
   ·simp
   ·unfold zY
    split
    ·simp
    ·simp only;omega
 | num k=>
   refine ⟨?_,by simp [aV]⟩;simp only [aV];unfold iw;split<;>first | exact q.id | exact q.min | exact q.max | exact q.chosen | exact q.flags | exact q.cost | exact q.priority | exact q.deadline | exact q.retry | exact q.epoch | exact q.base | exact q.digest | exact q.lag | exact q.code | exact q.want
def bH.num:bH->Int
 | .mk _ _ n _ _=>n
end C
end Go.Proofs.YtcpfjpcdcafjmaaGreatDoor
