/- What the trees compute: plain laws. -/
import Derived.Test.YtpkihgnabejkkaaGreatDoorKBe3
namespace Go.Proofs.YtpkihgnabejkkaaGreatDoor
open Go Go.aJ
set_option linter.unusedSimpArgs false
set_option linter.unusedVariables false
set_option maxRecDepth 100000
namespace B
noncomputable def bf (p:Prop):Bool:=@decide p (Classical.propDecidable p)
theorem fP {p:Prop} (h:p):bf p=true:=@decide_eq_true p (Classical.propDecidable p) h
theorem dP {p:Prop} (h:¬ p):bf p=false:=@decide_eq_false p (Classical.propDecidable p) h
theorem qX {p q:Prop} (h:p↔q):bf p=bf q:=by rw [propext h]
def LG (t y n:Int) (s:List UInt8) (k:List bH):GV:=.g [.i .u64 t,.i .i64 y,.i .u64 n,.s s,.l (aV k)]
@[simp] theorem an6 (t y n:Int) (s:List UInt8) (k:List bH):(LG t y n s k).cells=[.i .u64 t,.i .i64 y,.i .u64 n,.s s,.l (aV k)]:=rfl
theorem Gj {l:List bH} {i:Nat} (h:i < l.length):∃t y n s k,l[i]? = some (.mk t y n s k)∧(aV l)[i]? = some (LG t y n s k)∧l.drop i=.mk t y n s k::l.drop (i+1)∧bH.mk t y n s k∈l:=by
 have hget:(aV l)[i]? = some (oM l[i]):=by rw [LJ,List.getElem?_map,List.getElem?_eq_getElem h];rfl
 have hd:=List.drop_eq_getElem_cons h
 have hm:=List.getElem_mem h
 have hg:=List.getElem?_eq_getElem h
 cases hf:l[i] with
 | mk t y n s k=>
  rw [hf] at hget hd hm hg
  exact ⟨t,y,n,s,k,hg,by rw [hget];simp only [oM];rfl,hd,hm⟩
/-- What is still to be compared behind two lists' fields. -/
def mP:List bH→List bH→Option (List (List bH×List bH))
 | .mk t y n s k::a,.mk t' y' n' s' k'::b=>if t=t'∧y=y'∧n=n'∧s=s' then (mP a b).map fun r=>(if k.length=0∧k'.length=0 then [] else [(k,k')])++r else none
 | _,_=>some []
def iy (q:List bH×List bH):GV:=.g [.l (aV q.1),.l (aV q.2)]
@[simp] theorem apo (q:List bH×List bH):(iy q).cells=[.l (aV q.1),.l (aV q.2)]:=rfl
def mM:List (List bH×List bH)→Nat
 | []=>0
 | q::l=>iD q.1+1+mM l
theorem Hl:∀ (a b:List (List bH×List bH)),mM (a++b)=mM a+mM b
 | [],b=>by simp [mM]
 | q::a,b=>by simp only [List.cons_append,mM,Hl a b];omega
theorem aah:∀ (a:List (List bH×List bH)),a.length≤mM a
 | []=>by simp [mM]
 | q::a=>by have:=aah a;simp only [List.length_cons,mM];omega
def okP (q:List bH×List bH):Prop:=ig q.1∧ig q.2∧q.1.length≤1000000∧q.2.length≤1000000
theorem aaB:∀ (a b:List bH),a.length=b.length→ig a→ig b→(match mP a b with
 | none=>a≠b
 | some ps=>((∀q∈ps,q.1=q.2)↔a=b)∧mM ps≤iD a∧∀q∈ps,okP q)
 | [],[],_,_,_=>by simp [mP,mM]
 | [],_::_,e,_,_=>by simp at e
 | _::_,[],e,_,_=>by simp at e
 | .mk t y n s k::a,.mk t' y' n' s' k'::b,e,ha,hb=>by
  simp only [ig,AL] at ha hb
  have ih:=aaB a b (by simpa using e) ha.2 hb.2
  unfold mP
  by_cases hc:t=t'∧y=y'∧n=n'∧s=s'
  ·rw [if_pos hc]
   obtain ⟨rfl,rfl,rfl,rfl⟩:=hc
   cases hp:mP a b with
   | none=>
    rw [hp] at ih
    simp only [Option.map_none]
    intro h
    injection h with h1 h2
    exact ih h2
   | some ps=>
    rw [hp] at ih
    obtain ⟨i1,i2,i3⟩:=ih
    simp only [Option.map_some]
    by_cases hk:k.length=0∧k'.length=0
    ·rw [if_pos hk]
     have e1:=List.eq_nil_of_length_eq_zero hk.1
     have e2:=List.eq_nil_of_length_eq_zero hk.2
     subst e1;subst e2
     refine ⟨by simpa using i1,by simp only [List.nil_append,iD,tK];omega,by simpa using i3⟩
    ·rw [if_neg hk]
     refine ⟨?_,by simp only [List.cons_append,List.nil_append,mM,iD,tK];omega,fun q hq=>?_⟩
     ·simp only [List.cons_append,List.nil_append,List.mem_cons,forall_eq_or_imp,i1]
      constructor
      ·rintro ⟨h1,h2⟩;rw [h1,h2]
      ·intro h
       injection h with h1 h2
       injection h1 with _ _ _ _ h5
       exact ⟨h5,h2⟩
     ·simp only [List.cons_append,List.nil_append,List.mem_cons] at hq
      rcases hq with rfl | hq
      ·exact ⟨ha.1.2,hb.1.2,ha.1.1.2.2.2.2.2.2.2,hb.1.1.2.2.2.2.2.2.2⟩
      ·exact i3 q hq
  ·rw [if_neg hc]
   intro h
   injection h with h1 h2
   injection h1 with k1 k2 k3 k4 _
   exact hc ⟨k1,k2,k3,k4⟩
theorem LQ (a b:List bH) (hl:a.length=b.length) (hla:a.length≤1000000) (ha:ig a) (hb:ig b):∀ (m i:Nat) (acc:List (List bH×List bH)),i+m=a.length→acc.length+m≤4000000→
 TT.lim 109 [.l (acc.map iy),.i .i64 a.length,.i .i64 i,.l (aV a),.l (aV b)]=some (match mP (a.drop i) (b.drop i) with | none=>[.i .i64 0] | some ps=>[.i .i64 1,.l ((acc++ps).map iy)])
 | 0,i,acc,hi,hacc=>by
  have e1:a.drop i=[]:=List.drop_eq_nil_of_le (by omega)
  have e2:b.drop i=[]:=List.drop_eq_nil_of_le (by omega)
  have h:¬ ((i:Int) < a.length):=by omega
  rw [e1,e2]
  simp only [mP,List.append_nil]
  generalize acc.map iy=A at *
  refine ay rfl rfl ?_
  simp -implicitDefEqProofs [h]
 | m+1,i,acc,hi,hacc=>by
  obtain ⟨t,y,n,s,k,g1,g2,g3,g4⟩:=Gj (l:=a) (i:=i) (by omega)
  obtain ⟨t',y',n',s',k',g1',g2',g3',g4'⟩:=Gj (l:=b) (i:=i) (by omega)
  have hwr:=wrap64 (n:=(i:Int)+1) (by omega) (by omega)
  have h:((i:Int) < a.length):=by omega
  have hcast:((i+1:Nat):Int)=(i:Int)+1:=by omega
  have hz1:=qp k
  have hz2:=qp k'
  rw [g3,g3']
  unfold mP
  by_cases c1:t=t'
  rotate_left
  ·rw [if_neg fun h=>c1 h.1]
   refine ay rfl rfl ?_
   simp -implicitDefEqProofs [h,g2,g2',c1]
  by_cases c2:y=y'
  rotate_left
  ·rw [if_neg fun h=>c2 h.2.1]
   refine ay rfl rfl ?_
   simp -implicitDefEqProofs [h,g2,g2',c1,c2]
  by_cases c3:n=n'
  rotate_left
  ·rw [if_neg fun h=>c3 h.2.2.1]
   refine ay rfl rfl ?_
   simp -implicitDefEqProofs [h,g2,g2',c1,c2,c3]
  by_cases c4:s=s'
  rotate_left
  ·rw [if_neg fun h=>c4 h.2.2.2]
   refine ay rfl rfl ?_
   simp -implicitDefEqProofs [h,g2,g2',c1,c2,c3,c4]
  rw [if_pos ⟨c1,c2,c3,c4⟩]
  by_cases hk:k.length=0∧k'.length=0
  ·rw [if_pos hk]
   have ih':=LQ a b hl hla ha hb m (i+1) acc (by omega) (by omega)
   rw [hcast] at ih'
   have z1:=List.eq_nil_of_length_eq_zero hk.1
   have z2:=List.eq_nil_of_length_eq_zero hk.2
   have hR:(match Option.map (fun r=>[]++r) (mP (a.drop (i+1)) (b.drop (i+1))) with | none=>[GV.i .i64 0] | some ps=>[GV.i .i64 1,GV.l ((acc++ps).map iy)])=(match mP (a.drop (i+1)) (b.drop (i+1)) with | none=>[GV.i .i64 0] | some ps=>[GV.i .i64 1,GV.l ((acc++ps).map iy)]):=by
    cases mP (a.drop (i+1)) (b.drop (i+1))<;>simp
   rw [hR]
   generalize (match mP (a.drop (i+1)) (b.drop (i+1)) with | none=>[GV.i .i64 0] | some ps=>[GV.i .i64 1,GV.l ((acc++ps).map iy)])=R at *
   generalize acc.map iy=A at *
   refine ay rfl rfl ?_
   simp -implicitDefEqProofs [h,g2,g2',c1,c2,c3,c4,z1,z2,aV,hwr,ih']
  ·rw [if_neg hk]
   have ih':=LQ a b hl hla ha hb m (i+1) (acc++[(k,k')]) (by omega) (by simp;omega)
   rw [hcast] at ih'
   have hR:(match Option.map (fun r=>[(k,k')]++r) (mP (a.drop (i+1)) (b.drop (i+1))) with | none=>[GV.i .i64 0] | some ps=>[GV.i .i64 1,GV.l ((acc++ps).map iy)])=(match mP (a.drop (i+1)) (b.drop (i+1)) with | none=>[GV.i .i64 0] | some ps=>[GV.i .i64 1,GV.l ((acc++[(k,k')]++ps).map iy)]):=by
    cases mP (a.drop (i+1)) (b.drop (i+1))<;>simp
   rw [hR]
   generalize (match mP (a.drop (i+1)) (b.drop (i+1)) with | none=>[GV.i .i64 0] | some ps=>[GV.i .i64 1,GV.l ((acc++[(k,k')]++ps).map iy)])=R at *
   have hmap:(acc++[(k,k')]).map iy=acc.map iy++[.g [.l (aV k),.l (aV k')]]:=by simp [iy]
   rw [hmap] at ih'
   have hb1:2 * ((acc.map iy).length+1) * 48≤281474976710656∧(acc.map iy).length+1≤281474976710656:=by rw [List.length_map];omega
   generalize acc.map iy=A at *
   have hb2:A.length≤281474976710655:=by omega
   by_cases z0:k.length=0
   rotate_left
   ·have z1:0 < k.length:=by omega
    have z3:k≠[]:=fun e=>by rw [e] at z0;exact z0 rfl
    have hel:GV.fA 2 (.g [.l (aV k),.l (aV k')])=true:=rfl
    refine ay rfl rfl ?_
    simp -implicitDefEqProofs [h,g2,g2',c1,c2,c3,c4,hz1,hz2,z1,z3,hwr,ih',hel,hb1,hb2]
   ·have z1:=List.eq_nil_of_length_eq_zero z0
    have z2:0 < k'.length:=by omega
    have z3:k'≠[]:=fun e=>by rw [e] at z2;exact absurd z2 (by simp)
    subst z1
    have hel:GV.fA 2 (.g [.l [],.l (aV k')])=true:=rfl
    simp only [aV,LG] at ih' g2 hz1
    refine ay rfl rfl ?_
    simp -implicitDefEqProofs [h,g2,g2',c1,c2,c3,c4,hz2,z2,z3,hwr,ih',hel,hb1,hb2]
theorem YO:∀ (N:Nat) (work:List (List bH×List bH)),mM work < N→mM work≤2000000→(∀q∈work,okP q)→TT.lim 108 [.l (work.map iy)]=some [.i .i64 (if bf (∀q∈work,q.1=q.2)=true then 1 else 0)]
 | 0,work,hN,_,_=>by omega
 | N+1,work,hN,hM,hok=>by
  rcases List.eq_nil_or_concat work with rfl | ⟨ws,q,rfl⟩
  ·have ht:bf (∀q∈([]:List (List bH×List bH)),q.1=q.2)=true:=fP (by simp)
   rw [ht]
   refine ay rfl rfl ?_
   simp
  ·rw [List.concat_eq_append] at *
   obtain ⟨a,b⟩:=q
   have hq:=hok (a,b) (by simp)
   obtain ⟨q1,q2,q3,q4⟩:=hq
   simp only at q1 q2 q3 q4
   have hlen:=aah ws
   rw [Hl] at hN hM
   simp only [mM] at hN hM
   have hl1:=qp a
   have hl2:=qp b
   have hmap:(ws++[(a,b)]).map iy=ws.map iy++[iy (a,b)]:=by simp
   have hwl:(ws.map iy).length=ws.length:=List.length_map ..
   have hall:∀x∈ws.map iy,x.cells.length=2:=by
    intro x hx;obtain ⟨r,_,rfl⟩:=List.mem_map.1 hx;rfl
   have key:=LQ a b
   have i0:(0:Int) < (ws.length:Int)+1:=by omega
   have i1:(ws.length:Int)+1 - 1=ws.length:=by omega
   have i2:(ws.length:Int) < (ws.length:Int)+1:=by omega
   have i3:(ws.length:Int)≤(ws.length:Int)+1:=by omega
   have hwr:=wrap64 (n:=(ws.length:Int)) (by omega) (by omega)
   rw [hmap]
   by_cases hl:a.length=b.length
   rotate_left
   ·have hne:bf (∀q∈ws++[(a,b)],q.1=q.2)=false:=dP fun h=>hl (congrArg List.length (h (a,b) (by simp)))
    have hc:¬ ((a.length:Int)=(b.length:Int)):=by omega
    rw [hne]
    generalize ws.map iy=A at *
    have DN:=eq_true hall
    clear hall
    refine ay rfl rfl ?_
    simp -implicitDefEqProofs [hwl,i0,i1,i2,i3,hwr,iy,hl1,hl2,hc,DN]
   ·have hpo:=aaB a b hl q1 q2
    have key:=key hl q3 q1 q2 a.length 0 ws (by omega) (by omega)
    rw [List.drop_zero,List.drop_zero,show ((0:Nat):Int)=0 from rfl] at key
    have hc:b.length=a.length:=by omega
    cases hp:mP a b with
    | none=>
     rw [hp] at hpo key
     have hne:bf (∀q∈ws++[(a,b)],q.1=q.2)=false:=dP fun h=>hpo (h (a,b) (by simp))
     rw [hne]
     simp only at key
     generalize ws.map iy=A at *
     have hA:A.length < 281474976710656:=by omega
     have DN:=eq_true hall
     clear hall
     refine ay rfl rfl ?_
     simp -implicitDefEqProofs [hwl,i0,i1,i2,i3,hwr,iy,hl1,hl2,hc,key,DN]
    | some ps=>
     rw [hp] at hpo key
     obtain ⟨p1,p2,p3⟩:=hpo
     have ih:=YO N (ws++ps) (by rw [Hl];omega) (by rw [Hl];omega) (fun q hq=>by
      rcases List.mem_append.1 hq with hq | hq
      ·exact hok q (by simp [hq])
      ·exact p3 q hq)
     have hcg:bf (∀q∈ws++[(a,b)],q.1=q.2)=bf (∀q∈ws++ps,q.1=q.2):=qX (by
      simp only [List.mem_append,or_imp,forall_and,p1,List.mem_singleton,forall_eq])
     rw [hcg]
     generalize bf (∀q∈ws++ps,q.1=q.2)=R at *
     simp only at key
     generalize (ws++ps).map iy=B at *
     generalize ws.map iy=A at *
     have DN:=eq_true hall
     clear hall
     refine ay rfl rfl ?_
     simp -implicitDefEqProofs [hwl,i0,i1,i2,i3,hwr,iy,hl1,hl2,hc,key,DN,ih]
theorem afm (a b:List bH) (ha:ig a) (hb:ig b) (hla:a.length≤1000000) (hlb:b.length≤1000000) (hs:iD a≤1000000):TT.lim 107 [.l (aV a),.l (aV b)]=some [.b (bf (a=b))]:=by
 have h:=YO (iD a+2) [(a,b)] (by simp [mM]) (by simp [mM];omega) (by intro q hq;simp at hq;subst hq;exact ⟨ha,hb,hla,hlb⟩)
 have hcg:bf (∀q∈[(a,b)],q.1=q.2)=bf (a=b):=qX (by simp)
 rw [hcg] at h
 have hm:[(a,b)].map iy=[.g [.l (aV a),.l (aV b)]]:=rfl
 rw [hm] at h
 refine aA rfl rfl ?_ rfl
 generalize bf (a=b)=r at *
 cases r with
 | true=>simp at h;simp [h]
 | false=>simp at h;simp [h]
mutual
def toFt:bH→Ft
 | .mk t y n s k=>.mk [.int .u64 t,.int .i64 y,.int .u64 n,.string ⟨⟨s⟩⟩] (zH k)
def zH:List bH→List Ft
 | []=>[]
 | f::l=>toFt f::zH l
end
mutual
theorem amd:∀f:bH,uO (toFt f) (oM f)∧cntF (toFt f)≤tK f
 | .mk t y n s k=>by
  have h:=PE k
  simp only [toFt,uO,oM,cntF,tK]
  exact ⟨⟨_,_,_,_,_,rfl,rfl,h.1⟩,by omega⟩
theorem PE:∀l:List bH,kW (zH l) (aV l)∧jV (zH l)≤iD l
 | []=>by simp only [zH,kW,aV,jV,iD];exact ⟨trivial,Nat.le_refl _⟩
 | f::l=>by
  have h1:=amd f
  have h2:=PE l
  simp only [zH,kW,aV,jV,iD]
  exact ⟨⟨_,_,rfl,h1.1,h2.1⟩,by omega⟩
end
theorem ae4 (l:List bH) (hs:iD l≤1000000):TT.lim 83 [.l (aV l)]=some [.l (aV l)]:=by
 refine Ib (Ds:=Ds) (k:=83) (f:=Au) rfl ?_
 have h:=PE l
 unfold Au
 exact if_pos ⟨zH l,h.1,by omega⟩
theorem Gn:∀ (n:Nat) (l:List One) (deep:Int),iD (dS n l deep).1+2 * (dS n l deep).2.length≤2 * l.length
 | 0,l,deep=>by simp [dS,iD]
 | n+1,[],deep=>by simp [dS,iD]
 | n+1,x::l,deep=>by
  simp only [dS]
  split
  ·by_cases hx:x.deep=255
   ·rw [if_pos hx]
    have h1:=Gn n l deep
    simp only [iD,tK,List.length_cons]
    omega
   ·rw [if_neg hx]
    have h1:=Gn n l (x.deep+1)
    have h2:=Gn n (dS n l (x.deep+1)).2 deep
    simp only [iD,tK,List.length_cons]
    omega
  ·simp -implicitDefEqProofs [iD]
theorem ahd (l:List One):iD (lX l)≤2 * l.length:=by
 have:=Gn (l.length+1) l 0
 unfold lX
 omega
theorem Z9 (b:aF) (fl:List bH) (t:List Row) (ht:t.length≤1000) (hd:∀r∈t,r.1.length≤40):∀ (m i:Nat),i+m=t.length→
 TT.lim 82 [.l ((t.take i).map row),.l (t.map row),.i .i64 t.length,.i .i64 i,.i .i64 b.kind,.i .u64 b.id,.i .u64 b.min,.i .u64 b.max,.i .u64 b.chosen,.i .u64 b.flags,.i .u64 b.cost,.i .u64 b.priority,.i .u64 b.deadline,.i .u64 b.retry,.i .u64 b.epoch,.i .u64 b.base,.i .u64 b.digest,.i .u64 b.lag,.i .u64 b.code,.i .u64 b.want,.i .i64 b.remaining,.b b.allowed,.s b.name,.s b.region,.s b.note,.l (b.d.map ent),.l (aV fl)]=some [.i .i64 0,.l (t.map row)]
 | 0,i,hi=>by
  have h0:t.take i=t:=List.take_of_length_le (by omega)
  have h:¬ ((i:Int) < t.length):=by omega
  rw [h0]
  refine ay rfl rfl ?_
  simp -implicitDefEqProofs [h]
 | m+1,i,hi=>by
  have hlt:i < t.length:=by omega
  have ih:=Z9 b fl t ht hd m (i+1) (by omega)
  have h:((i:Int) < t.length):=by omega
  have hcast:((i+1:Nat):Int)=(i:Int)+1:=by omega
  have hwr:=wrap64 (n:=(i:Int)+1) (by omega) (by omega)
  have hg:(t.map row)[i]? = some (row t[i]):=by rw [List.getElem?_map,List.getElem?_eq_getElem hlt];rfl
  have hc:=Uk t[i].1 (hd _ (List.getElem_mem hlt))
  have hfold:GV.g [.l (t[i].1.map ent),.i .u64 t[i].2]=row t[i]:=rfl
  have htk:(t.take (i+1)).map row=(t.take i).map row++[row t[i]]:=by rw [List.take_add_one,List.getElem?_eq_getElem hlt,List.map_append];rfl
  rw [htk,hcast] at ih
  have hel:(row t[i]).fA 2=true:=rfl
  have hb1:2 * (((t.take i).map row).length+1) * 32≤281474976710656:=by simp;omega
  have hb2:((t.take i).map row).length≤281474976710655:=by simp;omega
  generalize (t.take i).map row=A at *
  generalize t.map row=L at *
  refine ay rfl rfl ?_
  simp -implicitDefEqProofs [h,hg,hc,hfold,hel,hb1,hb2,hwr,ih]
theorem aac (b:aF) (fl:List bH) (hd:b.d.length≤40) (ht:ku b.t) (hs:iD fl≤1000000):TT.lim 80 [aK b (aV fl)]=some [aK b (aV fl)]:=by
 have agq:∀r∈b.t,r.1.length≤40:=fun r hr=>by
  have:=ht.few r hr
  unfold kE at this;rw [Bool.and_eq_true,decide_eq_true_iff] at this;exact this.2
 have h1:=Z9 b fl b.t (by have:=ht.len;omega) agq b.t.length 0 (by omega)
 have hl:=ht.len
 rw [List.take_zero,show ((0:Nat):Int)=0 from rfl] at h1
 have h2:=Uk b.d hd
 have h3:=ae4 fl hs
 have hml:((b.t.map row).length:Int)=b.t.length:=by simp
 have hz1:(32:Int) * b.t.length≤281474976710656:=by omega
 have hz2:(b.t.length:Int)≤1152921504606846976:=by omega
 have hz3:b.t.length≤8796093022208:=by omega
 simp only [List.map_nil] at h1
 generalize hL:b.t.map row=L at *
 refine aA rfl rfl ?_ rfl
 unfold aK
 rw [hL]
 simp -implicitDefEqProofs [hml,h1,h2,h3,GV.fA,hz1,hz2]
 try omega
def vM (n:Int):Int:=if n % 2=0 then n / 2 else -(n / 2) - 1
theorem anf (n:Int) (h0:0≤n) (h1:n < 18446744073709551616):fF .and .u64 n 1=some (.i .u64 (n % 2))∧fF .xor .i64 (IntKind.i64.wrap (n / 2)) (IntKind.i64.wrap (0 - IntKind.i64.wrap (n % 2)))=some (.i .i64 (vM n))∧n.fdiv 2=n / 2:=by
 have wu:∀y:Int,IntKind.u64.wrap y=y % 18446744073709551616:=fun y=>by simp [IntKind.wrap,IntKind.signed,IntKind.bits]
 have hu:IntKind.u64.bits=64:=rfl
 have hi:IntKind.i64.bits=64:=rfl
 refine ⟨?_, ?_,Int.fdiv_eq_ediv_of_nonneg _ (by decide)⟩
 ·simp only [fF,wu,hu]
  have e:(BitVec.ofInt 64 n &&& BitVec.ofInt 64 1).toNat=(BitVec.ofInt 64 n).toNat % 2:=by
   rw [BitVec.toNat_and]
   exact Nat.and_one_is_mod _
  show some (GV.i IntKind.u64 (((BitVec.ofInt 64 n &&& BitVec.ofInt 64 1).toNat:Int) % 18446744073709551616))=_
  rw [e,BitVec.toNat_ofInt]
  congr 2
  omega
 ·rw [wrap64 (by omega) (by omega),wrap64 (n:=n % 2) (by omega) (by omega),wrap64 (by omega) (by omega)]
  simp only [fF,hi]
  unfold vM
  by_cases h:n % 2=0
  ·rw [if_pos h,h]
   have e:BitVec.ofInt 64 (0 - 0)=0#64:=rfl
   show some (GV.i IntKind.i64 (IntKind.i64.wrap ((BitVec.ofInt 64 (n / 2) ^^^ BitVec.ofInt 64 (0 - 0)).toNat:Int)))=_
   rw [e,BitVec.xor_zero,BitVec.toNat_ofInt]
   congr 2
   rw [wrap64 (by omega) (by omega)]
   omega
  ·rw [if_neg h,show n % 2=1 by omega]
   have e:BitVec.ofInt 64 (0 - 1)=BitVec.allOnes 64:=by decide
   show some (GV.i IntKind.i64 (IntKind.i64.wrap ((BitVec.ofInt 64 (n / 2) ^^^ BitVec.ofInt 64 (0 - 1)).toNat:Int)))=_
   rw [e,BitVec.xor_allOnes,BitVec.toNat_not,BitVec.toNat_ofInt]
   congr 2
   have wi:∀y:Int,IntKind.i64.wrap y=if y % 18446744073709551616≥9223372036854775808 then y % 18446744073709551616 - 18446744073709551616 else y % 18446744073709551616:=fun y=>by
    simp -implicitDefEqProofs [IntKind.wrap,IntKind.signed,IntKind.bits]
   rw [wi]
   split<;>omega
def setB (b:aF) (n:Int) (s:List UInt8):Pl→aF
 | .rem=>{ b with remaining:=vM n }
 | .allow=>{ b with allowed:=true }
 | .name=>{ b with name:=s }
 | .region=>{ b with region:=s }
 | .note=>{ b with note:=s }
 | .d=>{ b with d:=(gV s).1 }
 | .t=>{ b with t:=(jf s).1 }
 | .num k=>match k with
  | 0=>{ b with id:=n }
  | 1=>{ b with min:=n }
  | 2=>{ b with max:=n }
  | 3=>{ b with chosen:=n }
  | 4=>{ b with flags:=n }
  | 5=>{ b with cost:=n }
  | 6=>{ b with priority:=n }
  | 7=>{ b with deadline:=n }
  | 8=>{ b with retry:=n }
  | 9=>{ b with epoch:=n }
  | 10=>{ b with base:=n }
  | 11=>{ b with digest:=n }
  | 12=>{ b with lag:=n }
  | 13=>{ b with code:=n }
  | _=>{ b with want:=n }
def cZ (n:Int) (s:List UInt8):Pl→Int
 | .allow=>if n=1 then 0 else 18
 | .name=>iY s 0 256
 | .region=>iY s 0 256
 | .note=>iY s 0 256
 | .d=>(gV s).2
 | .t=>if (jf s).2=0 then (if (jf s).1.length=0 then 17 else 0) else (jf s).2
 | _=>0
def au (ty n:Int) (s:List UInt8) (p:Pl):Int:=if ty=aO p then (if ty=0 then (if n=0 then 17 else cZ n s p) else (if s=[] then 17 else cZ n s p)) else 8
theorem jY (u:Int):TT.lim 85 [.i .i64 u]=some [.i .i64 (if u=0 then 0 else if u=1 then 0 else if u=2 then 0 else if u=3 then 1 else if u=4 then 1 else if u=5 then 1 else -1)]:=by
 refine aA rfl rfl ?_ rfl
 by_cases h0:u=0
 ·simp -implicitDefEqProofs [h0]
 by_cases h1:u=1
 ·simp -implicitDefEqProofs [h1]
 by_cases h2:u=2
 ·simp -implicitDefEqProofs [h2]
 by_cases h3:u=3
 ·simp -implicitDefEqProofs [h3]
 by_cases h4:u=4
 ·simp -implicitDefEqProofs [h4]
 by_cases h5:u=5
 ·simp -implicitDefEqProofs [h5]
 simp -implicitDefEqProofs [h0,h1,h2,h3,h4,h5]
/-- A message's cells, but for the first and the last one. -/
def bF (b:aF):List GV:=[.i .u64 b.id,.i .u64 b.min,.i .u64 b.max,.i .u64 b.chosen,.i .u64 b.flags,.i .u64 b.cost,.i .u64 b.priority,.i .u64 b.deadline,.i .u64 b.retry,.i .u64 b.epoch,.i .u64 b.base,.i .u64 b.digest,.i .u64 b.lag,.i .u64 b.code,.i .u64 b.want,.i .i64 b.remaining,.b b.allowed,.s b.name,.s b.region,.s b.note,.l (b.d.map ent),.l (b.t.map row)]
/-- What set does. -/
def dQ (b:aF) (r:List GV) (tag ty n:Int) (s:List UInt8) (L:GV) (nm:List UInt8) (p:Pl):Prop:=∃b':aF,TT.lim 84 [.s nm,.i .u64 tag,.i .i64 ty,.i .u64 n,.s s,L,.i .i64 b.kind,.i .u64 b.id,.i .u64 b.min,.i .u64 b.max,.i .u64 b.chosen,.i .u64 b.flags,.i .u64 b.cost,.i .u64 b.priority,.i .u64 b.deadline,.i .u64 b.retry,.i .u64 b.epoch,.i .u64 b.base,.i .u64 b.digest,.i .u64 b.lag,.i .u64 b.code,.i .u64 b.want,.i .i64 b.remaining,.b b.allowed,.s b.name,.s b.region,.s b.note,.l (b.d.map ent),.l (b.t.map row),.l r]=some ([.i .i64 0,.i .i64 (au ty n s p)]++bF b')∧(au ty n s p=0→b'=setB b n s p)
theorem ak8 (b:aF) (r:List GV) (tag ty n:Int) (s:List UInt8) (L:GV):dQ b r tag ty n s L jH (.num 0):=by
 unfold dQ
 have hk:=jY
 unfold jH
 by_cases h1:ty=0
 rotate_left
 ·have e:au ty n s (.num 0)=8:=by unfold au;rw [if_neg (by simpa [aO] using h1)]
  refine ⟨b, ?_,fun h=>by rw [e] at h;cases h⟩
  rw [e]
  refine ay rfl rfl ?_
  simp -implicitDefEqProofs [bF,hk,h1]
 subst h1
 by_cases h2:n=0
 ·have e:au 0 n s (.num 0)=17:=by unfold au;simp [aO,h2]
  refine ⟨b, ?_,fun h=>by rw [e] at h;cases h⟩
  rw [e]
  refine ay rfl rfl ?_
  simp -implicitDefEqProofs [bF,hk,h2]
 have e:au 0 n s (.num 0)=cZ n s (.num 0):=by unfold au;simp [aO,h2]
 rw [e]
 refine ⟨{ b with id:=n }, ?_,fun _=>rfl⟩
 show _=some ([GV.i .i64 0,GV.i .i64 0]++_)
 refine ay rfl rfl ?_
 simp -implicitDefEqProofs [bF,hk,h2]
theorem alb (b:aF) (r:List GV) (tag ty n:Int) (s:List UInt8) (L:GV):dQ b r tag ty n s L jK (.num 1):=by
 unfold dQ
 have hk:=jY
 unfold jK
 by_cases h1:ty=0
 rotate_left
 ·have e:au ty n s (.num 1)=8:=by unfold au;rw [if_neg (by simpa [aO] using h1)]
  refine ⟨b, ?_,fun h=>by rw [e] at h;cases h⟩
  rw [e]
  refine ay rfl rfl ?_
  simp -implicitDefEqProofs [bF,hk,h1]
 subst h1
 by_cases h2:n=0
 ·have e:au 0 n s (.num 1)=17:=by unfold au;simp [aO,h2]
  refine ⟨b, ?_,fun h=>by rw [e] at h;cases h⟩
  rw [e]
  refine ay rfl rfl ?_
  simp -implicitDefEqProofs [bF,hk,h2]
 have e:au 0 n s (.num 1)=cZ n s (.num 1):=by unfold au;simp [aO,h2]
 rw [e]
 refine ⟨{ b with min:=n }, ?_,fun _=>rfl⟩
 show _=some ([GV.i .i64 0,GV.i .i64 0]++_)
 refine ay rfl rfl ?_
 simp -implicitDefEqProofs [bF,hk,h2]
theorem ala (b:aF) (r:List GV) (tag ty n:Int) (s:List UInt8) (L:GV):dQ b r tag ty n s L jJ (.num 2):=by
 unfold dQ
 have hk:=jY
 unfold jJ
 by_cases h1:ty=0
 rotate_left
 ·have e:au ty n s (.num 2)=8:=by unfold au;rw [if_neg (by simpa [aO] using h1)]
  refine ⟨b, ?_,fun h=>by rw [e] at h;cases h⟩
  rw [e]
  refine ay rfl rfl ?_
  simp -implicitDefEqProofs [bF,hk,h1]
 subst h1
 by_cases h2:n=0
 ·have e:au 0 n s (.num 2)=17:=by unfold au;simp [aO,h2]
  refine ⟨b, ?_,fun h=>by rw [e] at h;cases h⟩
  rw [e]
  refine ay rfl rfl ?_
  simp -implicitDefEqProofs [bF,hk,h2]
 have e:au 0 n s (.num 2)=cZ n s (.num 2):=by unfold au;simp [aO,h2]
 rw [e]
 refine ⟨{ b with max:=n }, ?_,fun _=>rfl⟩
 show _=some ([GV.i .i64 0,GV.i .i64 0]++_)
 refine ay rfl rfl ?_
 simp -implicitDefEqProofs [bF,hk,h2]
theorem ak0 (b:aF) (r:List GV) (tag ty n:Int) (s:List UInt8) (L:GV):dQ b r tag ty n s L jy (.num 3):=by
 unfold dQ
 have hk:=jY
 unfold jy
 by_cases h1:ty=0
 rotate_left
 ·have e:au ty n s (.num 3)=8:=by unfold au;rw [if_neg (by simpa [aO] using h1)]
  refine ⟨b, ?_,fun h=>by rw [e] at h;cases h⟩
  rw [e]
  refine ay rfl rfl ?_
  simp -implicitDefEqProofs [bF,hk,h1]
 subst h1
 by_cases h2:n=0
 ·have e:au 0 n s (.num 3)=17:=by unfold au;simp [aO,h2]
  refine ⟨b, ?_,fun h=>by rw [e] at h;cases h⟩
  rw [e]
  refine ay rfl rfl ?_
  simp -implicitDefEqProofs [bF,hk,h2]
 have e:au 0 n s (.num 3)=cZ n s (.num 3):=by unfold au;simp [aO,h2]
 rw [e]
 refine ⟨{ b with chosen:=n }, ?_,fun _=>rfl⟩
 show _=some ([GV.i .i64 0,GV.i .i64 0]++_)
 refine ay rfl rfl ?_
 simp -implicitDefEqProofs [bF,hk,h2]
theorem ak7 (b:aF) (r:List GV) (tag ty n:Int) (s:List UInt8) (L:GV):dQ b r tag ty n s L jG (.num 4):=by
 unfold dQ
 have hk:=jY
 unfold jG
 by_cases h1:ty=0
 rotate_left
 ·have e:au ty n s (.num 4)=8:=by unfold au;rw [if_neg (by simpa [aO] using h1)]
  refine ⟨b, ?_,fun h=>by rw [e] at h;cases h⟩
  rw [e]
  refine ay rfl rfl ?_
  simp -implicitDefEqProofs [bF,hk,h1]
 subst h1
 by_cases h2:n=0
 ·have e:au 0 n s (.num 4)=17:=by unfold au;simp [aO,h2]
  refine ⟨b, ?_,fun h=>by rw [e] at h;cases h⟩
  rw [e]
  refine ay rfl rfl ?_
  simp -implicitDefEqProofs [bF,hk,h2]
 have e:au 0 n s (.num 4)=cZ n s (.num 4):=by unfold au;simp [aO,h2]
 rw [e]
 refine ⟨{ b with flags:=n }, ?_,fun _=>rfl⟩
 show _=some ([GV.i .i64 0,GV.i .i64 0]++_)
 refine ay rfl rfl ?_
 simp -implicitDefEqProofs [bF,hk,h2]
theorem ak2 (b:aF) (r:List GV) (tag ty n:Int) (s:List UInt8) (L:GV):dQ b r tag ty n s L jB (.num 5):=by
 unfold dQ
 have hk:=jY
 unfold jB
 by_cases h1:ty=0
 rotate_left
 ·have e:au ty n s (.num 5)=8:=by unfold au;rw [if_neg (by simpa [aO] using h1)]
  refine ⟨b, ?_,fun h=>by rw [e] at h;cases h⟩
  rw [e]
  refine ay rfl rfl ?_
  simp -implicitDefEqProofs [bF,hk,h1]
 subst h1
 by_cases h2:n=0
 ·have e:au 0 n s (.num 5)=17:=by unfold au;simp [aO,h2]
  refine ⟨b, ?_,fun h=>by rw [e] at h;cases h⟩
  rw [e]
  refine ay rfl rfl ?_
  simp -implicitDefEqProofs [bF,hk,h2]
 have e:au 0 n s (.num 5)=cZ n s (.num 5):=by unfold au;simp [aO,h2]
 rw [e]
 refine ⟨{ b with cost:=n }, ?_,fun _=>rfl⟩
 show _=some ([GV.i .i64 0,GV.i .i64 0]++_)
 refine ay rfl rfl ?_
 simp -implicitDefEqProofs [bF,hk,h2]
theorem alf (b:aF) (r:List GV) (tag ty n:Int) (s:List UInt8) (L:GV):dQ b r tag ty n s L jO (.num 6):=by
 unfold dQ
 have hk:=jY
 unfold jO
 by_cases h1:ty=0
 rotate_left
 ·have e:au ty n s (.num 6)=8:=by unfold au;rw [if_neg (by simpa [aO] using h1)]
  refine ⟨b, ?_,fun h=>by rw [e] at h;cases h⟩
  rw [e]
  refine ay rfl rfl ?_
  simp -implicitDefEqProofs [bF,hk,h1]
 subst h1
 by_cases h2:n=0
 ·have e:au 0 n s (.num 6)=17:=by unfold au;simp [aO,h2]
  refine ⟨b, ?_,fun h=>by rw [e] at h;cases h⟩
  rw [e]
  refine ay rfl rfl ?_
  simp -implicitDefEqProofs [bF,hk,h2]
 have e:au 0 n s (.num 6)=cZ n s (.num 6):=by unfold au;simp [aO,h2]
 rw [e]
 refine ⟨{ b with priority:=n }, ?_,fun _=>rfl⟩
 show _=some ([GV.i .i64 0,GV.i .i64 0]++_)
 refine ay rfl rfl ?_
 simp -implicitDefEqProofs [bF,hk,h2]
theorem ak3 (b:aF) (r:List GV) (tag ty n:Int) (s:List UInt8) (L:GV):dQ b r tag ty n s L jC (.num 7):=by
 unfold dQ
 have hk:=jY
 unfold jC
 by_cases h1:ty=0
 rotate_left
 ·have e:au ty n s (.num 7)=8:=by unfold au;rw [if_neg (by simpa [aO] using h1)]
  refine ⟨b, ?_,fun h=>by rw [e] at h;cases h⟩
  rw [e]
  refine ay rfl rfl ?_
  simp -implicitDefEqProofs [bF,hk,h1]
 subst h1
 by_cases h2:n=0
 ·have e:au 0 n s (.num 7)=17:=by unfold au;simp [aO,h2]
  refine ⟨b, ?_,fun h=>by rw [e] at h;cases h⟩
  rw [e]
  refine ay rfl rfl ?_
  simp -implicitDefEqProofs [bF,hk,h2]
 have e:au 0 n s (.num 7)=cZ n s (.num 7):=by unfold au;simp [aO,h2]
 rw [e]
 refine ⟨{ b with deadline:=n }, ?_,fun _=>rfl⟩
 show _=some ([GV.i .i64 0,GV.i .i64 0]++_)
 refine ay rfl rfl ?_
 simp -implicitDefEqProofs [bF,hk,h2]
theorem ali (b:aF) (r:List GV) (tag ty n:Int) (s:List UInt8) (L:GV):dQ b r tag ty n s L jQ (.num 8):=by
 unfold dQ
 have hk:=jY
 unfold jQ
 by_cases h1:ty=0
 rotate_left
 ·have e:au ty n s (.num 8)=8:=by unfold au;rw [if_neg (by simpa [aO] using h1)]
  refine ⟨b, ?_,fun h=>by rw [e] at h;cases h⟩
  rw [e]
  refine ay rfl rfl ?_
  simp -implicitDefEqProofs [bF,hk,h1]
 subst h1
 by_cases h2:n=0
 ·have e:au 0 n s (.num 8)=17:=by unfold au;simp [aO,h2]
  refine ⟨b, ?_,fun h=>by rw [e] at h;cases h⟩
  rw [e]
  refine ay rfl rfl ?_
  simp -implicitDefEqProofs [bF,hk,h2]
 have e:au 0 n s (.num 8)=cZ n s (.num 8):=by unfold au;simp [aO,h2]
 rw [e]
 refine ⟨{ b with retry:=n }, ?_,fun _=>rfl⟩
 show _=some ([GV.i .i64 0,GV.i .i64 0]++_)
 refine ay rfl rfl ?_
 simp -implicitDefEqProofs [bF,hk,h2]
theorem ak6 (b:aF) (r:List GV) (tag ty n:Int) (s:List UInt8) (L:GV):dQ b r tag ty n s L jF (.num 9):=by
 unfold dQ
 have hk:=jY
 unfold jF
 by_cases h1:ty=0
 rotate_left
 ·have e:au ty n s (.num 9)=8:=by unfold au;rw [if_neg (by simpa [aO] using h1)]
  refine ⟨b, ?_,fun h=>by rw [e] at h;cases h⟩
  rw [e]
  refine ay rfl rfl ?_
  simp -implicitDefEqProofs [bF,hk,h1]
 subst h1
 by_cases h2:n=0
 ·have e:au 0 n s (.num 9)=17:=by unfold au;simp [aO,h2]
  refine ⟨b, ?_,fun h=>by rw [e] at h;cases h⟩
  rw [e]
  refine ay rfl rfl ?_
  simp -implicitDefEqProofs [bF,hk,h2]
 have e:au 0 n s (.num 9)=cZ n s (.num 9):=by unfold au;simp [aO,h2]
 rw [e]
 refine ⟨{ b with epoch:=n }, ?_,fun _=>rfl⟩
 show _=some ([GV.i .i64 0,GV.i .i64 0]++_)
 refine ay rfl rfl ?_
 simp -implicitDefEqProofs [bF,hk,h2]
theorem akZ (b:aF) (r:List GV) (tag ty n:Int) (s:List UInt8) (L:GV):dQ b r tag ty n s L jw (.num 10):=by
 unfold dQ
 have hk:=jY
 unfold jw
 by_cases h1:ty=0
 rotate_left
 ·have e:au ty n s (.num 10)=8:=by unfold au;rw [if_neg (by simpa [aO] using h1)]
  refine ⟨b, ?_,fun h=>by rw [e] at h;cases h⟩
  rw [e]
  refine ay rfl rfl ?_
  simp -implicitDefEqProofs [bF,hk,h1]
 subst h1
 by_cases h2:n=0
 ·have e:au 0 n s (.num 10)=17:=by unfold au;simp [aO,h2]
  refine ⟨b, ?_,fun h=>by rw [e] at h;cases h⟩
  rw [e]
  refine ay rfl rfl ?_
  simp -implicitDefEqProofs [bF,hk,h2]
 have e:au 0 n s (.num 10)=cZ n s (.num 10):=by unfold au;simp [aO,h2]
 rw [e]
 refine ⟨{ b with base:=n }, ?_,fun _=>rfl⟩
 show _=some ([GV.i .i64 0,GV.i .i64 0]++_)
 refine ay rfl rfl ?_
 simp -implicitDefEqProofs [bF,hk,h2]
theorem ak5 (b:aF) (r:List GV) (tag ty n:Int) (s:List UInt8) (L:GV):dQ b r tag ty n s L jE (.num 11):=by
 unfold dQ
 have hk:=jY
 unfold jE
 by_cases h1:ty=0
 rotate_left
 ·have e:au ty n s (.num 11)=8:=by unfold au;rw [if_neg (by simpa [aO] using h1)]
  refine ⟨b, ?_,fun h=>by rw [e] at h;cases h⟩
  rw [e]
  refine ay rfl rfl ?_
  simp -implicitDefEqProofs [bF,hk,h1]
 subst h1
 by_cases h2:n=0
 ·have e:au 0 n s (.num 11)=17:=by unfold au;simp [aO,h2]
  refine ⟨b, ?_,fun h=>by rw [e] at h;cases h⟩
  rw [e]
  refine ay rfl rfl ?_
  simp -implicitDefEqProofs [bF,hk,h2]
 have e:au 0 n s (.num 11)=cZ n s (.num 11):=by unfold au;simp [aO,h2]
 rw [e]
 refine ⟨{ b with digest:=n }, ?_,fun _=>rfl⟩
 show _=some ([GV.i .i64 0,GV.i .i64 0]++_)
 refine ay rfl rfl ?_
 simp -implicitDefEqProofs [bF,hk,h2]
theorem ak9 (b:aF) (r:List GV) (tag ty n:Int) (s:List UInt8) (L:GV):dQ b r tag ty n s L jI (.num 12):=by
 unfold dQ
 have hk:=jY
 unfold jI
 by_cases h1:ty=0
 rotate_left
 ·have e:au ty n s (.num 12)=8:=by unfold au;rw [if_neg (by simpa [aO] using h1)]
  refine ⟨b, ?_,fun h=>by rw [e] at h;cases h⟩
  rw [e]
  refine ay rfl rfl ?_
  simp -implicitDefEqProofs [bF,hk,h1]
 subst h1
 by_cases h2:n=0
 ·have e:au 0 n s (.num 12)=17:=by unfold au;simp [aO,h2]
  refine ⟨b, ?_,fun h=>by rw [e] at h;cases h⟩
  rw [e]
  refine ay rfl rfl ?_
  simp -implicitDefEqProofs [bF,hk,h2]
 have e:au 0 n s (.num 12)=cZ n s (.num 12):=by unfold au;simp [aO,h2]
 rw [e]
 refine ⟨{ b with lag:=n }, ?_,fun _=>rfl⟩
 show _=some ([GV.i .i64 0,GV.i .i64 0]++_)
 refine ay rfl rfl ?_
 simp -implicitDefEqProofs [bF,hk,h2]
theorem ak1 (b:aF) (r:List GV) (tag ty n:Int) (s:List UInt8) (L:GV):dQ b r tag ty n s L jA (.num 13):=by
 unfold dQ
 have hk:=jY
 unfold jA
 by_cases h1:ty=0
 rotate_left
 ·have e:au ty n s (.num 13)=8:=by unfold au;rw [if_neg (by simpa [aO] using h1)]
  refine ⟨b, ?_,fun h=>by rw [e] at h;cases h⟩
  rw [e]
  refine ay rfl rfl ?_
  simp -implicitDefEqProofs [bF,hk,h1]
 subst h1
 by_cases h2:n=0
 ·have e:au 0 n s (.num 13)=17:=by unfold au;simp [aO,h2]
  refine ⟨b, ?_,fun h=>by rw [e] at h;cases h⟩
  rw [e]
  refine ay rfl rfl ?_
  simp -implicitDefEqProofs [bF,hk,h2]
 have e:au 0 n s (.num 13)=cZ n s (.num 13):=by unfold au;simp [aO,h2]
 rw [e]
 refine ⟨{ b with code:=n }, ?_,fun _=>rfl⟩
 show _=some ([GV.i .i64 0,GV.i .i64 0]++_)
 refine ay rfl rfl ?_
 simp -implicitDefEqProofs [bF,hk,h2]
theorem alk (b:aF) (r:List GV) (tag ty n:Int) (s:List UInt8) (L:GV):dQ b r tag ty n s L jS (.num 14):=by
 unfold dQ
 have hk:=jY
 unfold jS
 by_cases h1:ty=0
 rotate_left
 ·have e:au ty n s (.num 14)=8:=by unfold au;rw [if_neg (by simpa [aO] using h1)]
  refine ⟨b, ?_,fun h=>by rw [e] at h;cases h⟩
  rw [e]
  refine ay rfl rfl ?_
  simp -implicitDefEqProofs [bF,hk,h1]
 subst h1
 by_cases h2:n=0
 ·have e:au 0 n s (.num 14)=17:=by unfold au;simp [aO,h2]
  refine ⟨b, ?_,fun h=>by rw [e] at h;cases h⟩
  rw [e]
  refine ay rfl rfl ?_
  simp -implicitDefEqProofs [bF,hk,h2]
 have e:au 0 n s (.num 14)=cZ n s (.num 14):=by unfold au;simp [aO,h2]
 rw [e]
 refine ⟨{ b with want:=n }, ?_,fun _=>rfl⟩
 show _=some ([GV.i .i64 0,GV.i .i64 0]++_)
 refine ay rfl rfl ?_
 simp -implicitDefEqProofs [bF,hk,h2]
theorem alh (b:aF) (r:List GV) (tag ty n:Int) (s:List UInt8) (L:GV) (hn:0≤n∧n < 18446744073709551616):dQ b r tag ty n s L kL .rem:=by
 unfold dQ
 have hk:=jY
 unfold kL
 by_cases h1:ty=0
 rotate_left
 ·have e:au ty n s .rem=8:=by unfold au;rw [if_neg (by simpa [aO] using h1)]
  refine ⟨b, ?_,fun h=>by rw [e] at h;cases h⟩
  rw [e]
  refine ay rfl rfl ?_
  simp -implicitDefEqProofs [bF,hk,h1]
 subst h1
 by_cases h2:n=0
 ·have e:au 0 n s .rem=17:=by unfold au;simp [aO,h2]
  refine ⟨b, ?_,fun h=>by rw [e] at h;cases h⟩
  rw [e]
  refine ay rfl rfl ?_
  simp -implicitDefEqProofs [bF,hk,h2]
 have e:au 0 n s .rem=cZ n s .rem:=by unfold au;simp [aO,h2]
 rw [e]
 obtain ⟨k1,k2,k3⟩:=anf n hn.1 hn.2
 refine ⟨{ b with remaining:=vM n }, ?_,fun _=>rfl⟩
 show _=some ([GV.i .i64 0,GV.i .i64 0]++_)
 refine ay rfl rfl ?_
 simp only [Int.zero_sub] at k2
 simp -implicitDefEqProofs [bF,hk,h2,mW,IntKind.bits,k1,k2,k3]
theorem akY (b:aF) (r:List GV) (tag ty n:Int) (s:List UInt8) (L:GV):dQ b r tag ty n s L kK .allow:=by
 unfold dQ
 have hk:=jY
 unfold kK
 by_cases h1:ty=0
 rotate_left
 ·have e:au ty n s .allow=8:=by unfold au;rw [if_neg (by simpa [aO] using h1)]
  refine ⟨b, ?_,fun h=>by rw [e] at h;cases h⟩
  rw [e]
  refine ay rfl rfl ?_
  simp -implicitDefEqProofs [bF,hk,h1]
 subst h1
 by_cases h2:n=0
 ·have e:au 0 n s .allow=17:=by unfold au;simp [aO,h2]
  refine ⟨b, ?_,fun h=>by rw [e] at h;cases h⟩
  rw [e]
  refine ay rfl rfl ?_
  simp -implicitDefEqProofs [bF,hk,h2]
 have e:au 0 n s .allow=cZ n s .allow:=by unfold au;simp [aO,h2]
 rw [e]
 by_cases h3:n=1
 ·have e2:cZ n s .allow=0:=by unfold cZ;rw [if_pos h3]
  rw [e2]
  refine ⟨{ b with allowed:=true }, ?_,fun _=>rfl⟩
  refine ay rfl rfl ?_
  simp -implicitDefEqProofs [bF,hk,h2,h3]
 ·have e2:cZ n s .allow=18:=by unfold cZ;rw [if_neg h3]
  rw [e2]
  refine ⟨b, ?_,fun h=>by cases h⟩
  refine ay rfl rfl ?_
  simp -implicitDefEqProofs [bF,hk,h2,h3]
theorem alc (b:aF) (r:List GV) (tag ty n:Int) (s:List UInt8) (L:GV) (hs:s.length≤100000000):dQ b r tag ty n s L jL .name:=by
 unfold dQ
 have hk:=jY
 unfold jL
 by_cases h1:ty=1
 rotate_left
 ·have e:au ty n s .name=8:=by unfold au;rw [if_neg (by simpa [aO] using h1)]
  refine ⟨b, ?_,fun h=>by rw [e] at h;cases h⟩
  rw [e]
  refine ay rfl rfl ?_
  simp -implicitDefEqProofs [bF,hk,h1]
 subst h1
 by_cases h2:s=[]
 ·have e:au 1 n s .name=17:=by unfold au;simp [aO,h2]
  refine ⟨b, ?_,fun h=>by rw [e] at h;cases h⟩
  rw [e]
  refine ay rfl rfl ?_
  simp -implicitDefEqProofs [bF,hk,h2]
 have e:au 1 n s .name=cZ n s .name:=by unfold au;simp [aO,h2]
 rw [e]
 have hc:=Dl s 0 256 (by omega)
 refine ⟨{ b with name:=s }, ?_,fun _=>rfl⟩
 show _=some ([GV.i .i64 0,GV.i .i64 (iY s 0 256)]++_)
 generalize iY s 0 256=u at *
 refine ay rfl rfl ?_
 simp -implicitDefEqProofs [bF,hk,h2,hc]
theorem alg (b:aF) (r:List GV) (tag ty n:Int) (s:List UInt8) (L:GV) (hs:s.length≤100000000):dQ b r tag ty n s L jP .region:=by
 unfold dQ
 have hk:=jY
 unfold jP
 by_cases h1:ty=1
 rotate_left
 ·have e:au ty n s .region=8:=by unfold au;rw [if_neg (by simpa [aO] using h1)]
  refine ⟨b, ?_,fun h=>by rw [e] at h;cases h⟩
  rw [e]
  refine ay rfl rfl ?_
  simp -implicitDefEqProofs [bF,hk,h1]
 subst h1
 by_cases h2:s=[]
 ·have e:au 1 n s .region=17:=by unfold au;simp [aO,h2]
  refine ⟨b, ?_,fun h=>by rw [e] at h;cases h⟩
  rw [e]
  refine ay rfl rfl ?_
  simp -implicitDefEqProofs [bF,hk,h2]
 have e:au 1 n s .region=cZ n s .region:=by unfold au;simp [aO,h2]
 rw [e]
 have hc:=Dl s 0 256 (by omega)
 refine ⟨{ b with region:=s }, ?_,fun _=>rfl⟩
 show _=some ([GV.i .i64 0,GV.i .i64 (iY s 0 256)]++_)
 generalize iY s 0 256=u at *
 refine ay rfl rfl ?_
 simp -implicitDefEqProofs [bF,hk,h2,hc]
theorem ale (b:aF) (r:List GV) (tag ty n:Int) (s:List UInt8) (L:GV) (hs:s.length≤100000000):dQ b r tag ty n s L jM .note:=by
 unfold dQ
 have hk:=jY
 unfold jM
 by_cases h1:ty=1
 rotate_left
 ·have e:au ty n s .note=8:=by unfold au;rw [if_neg (by simpa [aO] using h1)]
  refine ⟨b, ?_,fun h=>by rw [e] at h;cases h⟩
  rw [e]
  refine ay rfl rfl ?_
  simp -implicitDefEqProofs [bF,hk,h1]
 subst h1
 by_cases h2:s=[]
 ·have e:au 1 n s .note=17:=by unfold au;simp [aO,h2]
  refine ⟨b, ?_,fun h=>by rw [e] at h;cases h⟩
  rw [e]
  refine ay rfl rfl ?_
  simp -implicitDefEqProofs [bF,hk,h2]
 have e:au 1 n s .note=cZ n s .note:=by unfold au;simp [aO,h2]
 rw [e]
 have hc:=Dl s 0 256 (by omega)
 refine ⟨{ b with note:=s }, ?_,fun _=>rfl⟩
 show _=some ([GV.i .i64 0,GV.i .i64 (iY s 0 256)]++_)
 generalize iY s 0 256=u at *
 refine ay rfl rfl ?_
 simp -implicitDefEqProofs [bF,hk,h2,hc]
theorem ak4 (b:aF) (r:List GV) (tag ty n:Int) (s:List UInt8) (L:GV) (hs:s.length≤100000000):dQ b r tag ty n s L jD .d:=by
 unfold dQ
 have hk:=jY
 unfold jD
 by_cases h1:ty=1
 rotate_left
 ·have e:au ty n s .d=8:=by unfold au;rw [if_neg (by simpa [aO] using h1)]
  refine ⟨b, ?_,fun h=>by rw [e] at h;cases h⟩
  rw [e]
  refine ay rfl rfl ?_
  simp -implicitDefEqProofs [bF,hk,h1]
 subst h1
 by_cases h2:s=[]
 ·have e:au 1 n s .d=17:=by unfold au;simp [aO,h2]
  refine ⟨b, ?_,fun h=>by rw [e] at h;cases h⟩
  rw [e]
  refine ay rfl rfl ?_
  simp -implicitDefEqProofs [bF,hk,h2]
 have e:au 1 n s .d=cZ n s .d:=by unfold au;simp [aO,h2]
 rw [e]
 have hc:=XL s hs
 refine ⟨{ b with d:=(gV s).1 }, ?_,fun _=>rfl⟩
 show _=some ([GV.i .i64 0,GV.i .i64 (gV s).2]++_)
 refine ay rfl rfl ?_
 simp -implicitDefEqProofs [bF,hk,h2,hc]
theorem alj (b:aF) (r:List GV) (tag ty n:Int) (s:List UInt8) (L:GV) (hs:s.length≤100000000):dQ b r tag ty n s L jR .t:=by
 unfold dQ
 have hk:=jY
 unfold jR
 by_cases h1:ty=1
 rotate_left
 ·have e:au ty n s .t=8:=by unfold au;rw [if_neg (by simpa [aO] using h1)]
  refine ⟨b, ?_,fun h=>by rw [e] at h;cases h⟩
  rw [e]
  refine ay rfl rfl ?_
  simp -implicitDefEqProofs [bF,hk,h1]
 subst h1
 by_cases h2:s=[]
 ·have e:au 1 n s .t=17:=by unfold au;simp [aO,h2]
  refine ⟨b, ?_,fun h=>by rw [e] at h;cases h⟩
  rw [e]
  refine ay rfl rfl ?_
  simp -implicitDefEqProofs [bF,hk,h2]
 have e:au 1 n s .t=cZ n s .t:=by unfold au;simp [aO,h2]
 rw [e]
 have hc:=ame s hs
 refine ⟨{ b with t:=(jf s).1 }, ?_,fun _=>rfl⟩
 unfold cZ
 by_cases h3:(jf s).2=0
 ·rw [if_pos h3]
  by_cases h4:(jf s).1.length=0
  ·have h5:=List.eq_nil_of_length_eq_zero h4
   rw [if_pos h4]
   refine ay rfl rfl ?_
   simp -implicitDefEqProofs [bF,hk,h2,hc,h3,h5]
  ·have h5:(jf s).1≠[]:=fun e=>h4 (by rw [e];rfl)
   rw [if_neg h4]
   refine ay rfl rfl ?_
   simp -implicitDefEqProofs [bF,hk,h2,hc,h3,h5]
 ·rw [if_neg h3]
  refine ay rfl rfl ?_
  simp -implicitDefEqProofs [bF,hk,h2,hc,h3]
def gQ:aF:={ kind:=0,id:=0,min:=0,max:=0,chosen:=0,flags:=0,cost:=0,priority:=0,deadline:=0,retry:=0,epoch:=0,base:=0,digest:=0,lag:=0,code:=0,want:=0,remaining:=0,allowed:=false,name:=[],region:=[],note:=[],d:=[],t:=[] }
def jg (b:aF) (r:List GV) (ty n:Int) (s:List UInt8) (p:Pl):List GV:=if au ty n s p=0 then [aK (setB b n s p) r,.i .i64 0] else [aK gQ [],.i .i64 (au ty n s p)]
def iK (b:aF) (r:List GV) (ty n:Int) (s nm:List UInt8):List GV:=match placeOf nm with
 | some p=>jg b r ty n s p
 | none=>[aK gQ [],.i .i64 26]
theorem akT (b:aF) (n:Int) (s:List UInt8) (p:Pl):(setB b n s p).kind=b.kind:=by
 unfold setB
 split<;>first | rfl | (split<;>rfl)
theorem ald (b:aF) (r:List GV) (tag ty n:Int) (s:List UInt8) (L:GV) (nm:List UInt8) (e0:¬ nm=kL) (e1:¬ nm=kK) (e2:¬ nm=jL) (e3:¬ nm=jP) (e4:¬ nm=jM) (e5:¬ nm=jD) (e6:¬ nm=jR) (e7:¬ nm=jH) (e8:¬ nm=jK) (e9:¬ nm=jJ) (e10:¬ nm=jy) (e11:¬ nm=jG) (e12:¬ nm=jB) (e13:¬ nm=jO) (e14:¬ nm=jC) (e15:¬ nm=jQ) (e16:¬ nm=jF) (e17:¬ nm=jw) (e18:¬ nm=jE) (e19:¬ nm=jI) (e20:¬ nm=jA) (e21:¬ nm=jS):TT.lim 84 [.s nm,.i .u64 tag,.i .i64 ty,.i .u64 n,.s s,L,.i .i64 b.kind,.i .u64 b.id,.i .u64 b.min,.i .u64 b.max,.i .u64 b.chosen,.i .u64 b.flags,.i .u64 b.cost,.i .u64 b.priority,.i .u64 b.deadline,.i .u64 b.retry,.i .u64 b.epoch,.i .u64 b.base,.i .u64 b.digest,.i .u64 b.lag,.i .u64 b.code,.i .u64 b.want,.i .i64 b.remaining,.b b.allowed,.s b.name,.s b.region,.s b.note,.l (b.d.map ent),.l (b.t.map row),.l r]=some ([.i .i64 0,.i .i64 26]++bF b):=by
 unfold kL kK jL jP jM jD jR jH jK jJ jy jG jB jO jC jQ jF jw jE jI jA jS at *
 refine ay rfl rfl ?_
 simp -implicitDefEqProofs [bF,e0,e1,e2,e3,e4,e5,e6,e7,e8,e9,e10,e11,e12,e13,e14,e15,e16,e17,e18,e19,e20,e21]
theorem akX (b:aF) (r:List GV) (tag ty n:Int) (s:List UInt8) (L:GV) (hn:0≤n∧n < 18446744073709551616) (hs:s.length≤100000000) (nm:List UInt8):(∃p,placeOf nm=some p∧dQ b r tag ty n s L nm p)∨(placeOf nm=none∧TT.lim 84 [.s nm,.i .u64 tag,.i .i64 ty,.i .u64 n,.s s,L,.i .i64 b.kind,.i .u64 b.id,.i .u64 b.min,.i .u64 b.max,.i .u64 b.chosen,.i .u64 b.flags,.i .u64 b.cost,.i .u64 b.priority,.i .u64 b.deadline,.i .u64 b.retry,.i .u64 b.epoch,.i .u64 b.base,.i .u64 b.digest,.i .u64 b.lag,.i .u64 b.code,.i .u64 b.want,.i .i64 b.remaining,.b b.allowed,.s b.name,.s b.region,.s b.note,.l (b.d.map ent),.l (b.t.map row),.l r]=some ([.i .i64 0,.i .i64 26]++bF b)):=by
 refine KI (Q:=fun nm=>(∃p,placeOf nm=some p∧dQ b r tag ty n s L nm p)∨(placeOf nm=none∧TT.lim 84 [.s nm,.i .u64 tag,.i .i64 ty,.i .u64 n,.s s,L,.i .i64 b.kind,.i .u64 b.id,.i .u64 b.min,.i .u64 b.max,.i .u64 b.chosen,.i .u64 b.flags,.i .u64 b.cost,.i .u64 b.priority,.i .u64 b.deadline,.i .u64 b.retry,.i .u64 b.epoch,.i .u64 b.base,.i .u64 b.digest,.i .u64 b.lag,.i .u64 b.code,.i .u64 b.want,.i .i64 b.remaining,.b b.allowed,.s b.name,.s b.region,.s b.note,.l (b.d.map ent),.l (b.t.map row),.l r]=some ([.i .i64 0,.i .i64 26]++bF b))) (.inl ⟨_,xI,alh b r tag ty n s L hn⟩) (.inl ⟨_,wV,akY b r tag ty n s L ⟩) (.inl ⟨_,xE,alc b r tag ty n s L hs⟩) (.inl ⟨_,xH,alg b r tag ty n s L hs⟩) (.inl ⟨_,xF,ale b r tag ty n s L hs⟩) (.inl ⟨_,zo,ak4 b r tag ty n s L hs⟩) (.inl ⟨_,zq,alj b r tag ty n s L hs⟩) (.inl ⟨_,xw,ak8 b r tag ty n s L ⟩) (.inl ⟨_,xC,alb b r tag ty n s L ⟩) (.inl ⟨_,xB,ala b r tag ty n s L ⟩) (.inl ⟨_,wX,ak0 b r tag ty n s L ⟩) (.inl ⟨_,xu,ak7 b r tag ty n s L ⟩) (.inl ⟨_,wZ,ak2 b r tag ty n s L ⟩) (.inl ⟨_,xG,alf b r tag ty n s L ⟩) (.inl ⟨_,xg,ak3 b r tag ty n s L ⟩) (.inl ⟨_,xJ,ali b r tag ty n s L ⟩) (.inl ⟨_,xq,ak6 b r tag ty n s L ⟩) (.inl ⟨_,wW,akZ b r tag ty n s L ⟩) (.inl ⟨_,xk,ak5 b r tag ty n s L ⟩) (.inl ⟨_,xA,ak9 b r tag ty n s L ⟩) (.inl ⟨_,wY,ak1 b r tag ty n s L ⟩) (.inl ⟨_,xK,alk b r tag ty n s L ⟩) (fun nm e0 e1 e2 e3 e4 e5 e6 e7 e8 e9 e10 e11 e12 e13 e14 e15 e16 e17 e18 e19 e20 e21=>.inr ⟨H7 nm e0 e1 e2 e3 e4 e5 e6 e7 e8 e9 e10 e11 e12 e13 e14 e15 e16 e17 e18 e19 e20 e21,ald b r tag ty n s L nm e0 e1 e2 e3 e4 e5 e6 e7 e8 e9 e10 e11 e12 e13 e14 e15 e16 e17 e18 e19 e20 e21⟩) nm
theorem ahL (b:aF) (fl:List bH) (hd:b.d.length≤40) (ht:ku b.t) (hsz:iD fl≤1000000) (tag ty n:Int) (s:List UInt8) (hn:0≤n∧n < 18446744073709551616) (hs:s.length≤100000000) (nm:List UInt8) :
 TT.lim 79 [aK b (aV fl),.s nm,.g [.i .u64 tag,.i .i64 ty,.i .u64 n,.s s,.l []]]=some (iK b (aV fl) ty n s nm):=by
 have hc:=aac b fl hd ht hsz
 have ha:=akX b (aV fl) tag ty n s (.l []) hn hs nm
 generalize aV fl=r at *
 have hz:GV.g [.i .i64 0,.i .u64 0,.i .u64 0,.i .u64 0,.i .u64 0,.i .u64 0,.i .u64 0,.i .u64 0,.i .u64 0,.i .u64 0,.i .u64 0,.i .u64 0,.i .u64 0,.i .u64 0,.i .u64 0,.i .u64 0,.i .i64 0,.b false,.s [],.s [],.s [],.l [],.l [],.l []]=aK gQ []:=rfl
 unfold iK
 rcases ha with ⟨p,hp,b',h1,h2⟩ | ⟨hp,h1⟩
 ·rw [hp]
  simp only
  unfold jg
  have hk:=akT b n s p
  generalize au ty n s p=e at *
  by_cases he:e=0
  ·have h3:=h2 he
   rw [if_pos he]
   rw [he,h3] at h1
   have hm:aK (setB b n s p) r=GV.g ([.i .i64 b.kind]++bF (setB b n s p)++[.l r]):=by rw [← hk];rfl
   rw [hm]
   generalize setB b n s p=B at *
   unfold bF at h1 ⊢
   refine aA rfl rfl ?_ rfl
   simp -implicitDefEqProofs [iG,hc]
   simp -implicitDefEqProofs [h1]
  ·rw [if_neg he]
   unfold bF at h1
   rw [← hz]
   refine aA rfl rfl ?_ rfl
   simp -implicitDefEqProofs [iG,hc]
   simp -implicitDefEqProofs [h1,he]
 ·rw [hp]
  simp only
  unfold bF at h1
  rw [← hz]
  refine aA rfl rfl ?_ rfl
  simp -implicitDefEqProofs [iG,hc]
  simp -implicitDefEqProofs [h1]
end B
end Go.Proofs.YtpkihgnabejkkaaGreatDoor
