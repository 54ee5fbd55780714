/- What the trees compute: plain laws. -/
import Derived.Test.YtcpfjpcdcafjmaaGreatDoorKKe5
namespace Go.Proofs.YtcpfjpcdcafjmaaGreatDoor
open Go Go.aO
set_option linter.unusedSimpArgs false
set_option linter.unusedVariables false
set_option maxRecDepth 100000
namespace K
def qU (b:aB):Pl->aB
 | .rem=>{ b with remaining:=0 }
 | .allow=>{ b with allowed:=false }
 | .name=>{ b with name:=[] }
 | .region=>{ b with region:=[] }
 | .note=>{ b with note:=[] }
 | .d=>{ b with d:=[] }
 | .t=>{ b with t:=[] }
 | .num k=>setB b 0 [] (.num k)
theorem Z7 (b:aB) (p:Pl):(qU b p).kind=b.kind:=by
 cases p with
 | num k=>exact L9 b 0 [] (.num k)
 | _=>rfl
/-- What is put, or why not. -/
def fC (o:aB):aB->List (List UInt8)->aB×Int
 | b,[]=>(b,0)
 | b,n::r=>match placeOf n with
   | none=>(bP,26)
   | some p=>if aK o p=(0,[]) then fC o (qU b p) r else if aN (aV p) (aK o p).1 (aK o p).2 p=0 then fC o (setB b (aK o p).1 (aK o p).2 p) r else (bP,aN (aV p) (aK o p).1 (aK o p).2 p)
theorem Z8 {b:aB} {fl:List aF} (h:jE b fl) (p:Pl) (hk:iw p):jE (qU b p) fl:=by
 obtain ⟨hb,hd,ht,hf,hl⟩:=h;cases hb;cases p with
 | num k=>
   simp only [iw] at hk;rcases (show k=0\/k=1\/k=2\/k=3\/k=4\/k=5\/k=6\/k=7\/k=8\/k=9\/k=10\/k=11\/k=12\/k=13\/k=14 by omega) with rfl | rfl | rfl | rfl | rfl | rfl | rfl | rfl | rfl | rfl | rfl | rfl | rfl | rfl | rfl
   all_goals
    simp only [qU,setB];exact ⟨by constructor<;>first | assumption | simp,hd,ht,hf,hl⟩
 | d=>exact ⟨by constructor<;>first | assumption | simp [qU,uz],by simp [qU,iq],ht,hf,hl⟩
 | t=>exact ⟨by constructor<;>first | assumption | simp [qU,Rows],hd,MZ.t,hf,hl⟩
 | _=>exact ⟨by constructor<;>first | assumption | simp [qU],hd,ht,hf,hl⟩
theorem nM {n m:List UInt8} {p q:Pl} (hp:placeOf n=some p) (hq:placeOf m=some q):(n=m)=(p=q):=
 propext ⟨λe=>by subst e;rw [hp] at hq;cases hq;rfl,λe=>by subst e;exact Xh hp hq⟩
theorem akG {n:List UInt8} {p:Pl} (hp:placeOf n=some p):((n=[114,101,109,97,105,110,105,110,103])=(p=.rem))/\((n=[97,108,108,111,119,101,100])=(p=.allow))/\((n=[110,97,109,101])=(p=.name))/\((n=[114,101,103,105,111,110])=(p=.region))/\((n=[110,111,116,101])=(p=.note))/\((n=[100,101,115,99,114])=(p=.d))/\((n=[116,97,98,108,101])=(p=.t))/\((n=[105,100])=(p=.num 0))/\((n=[109,105,110])=(p=.num 1))/\((n=[109,97,120])=(p=.num 2))/\((n=[99,104,111,115,101,110])=(p=.num 3))/\((n=[102,108,97,103,115])=(p=.num 4))/\((n=[99,111,115,116])=(p=.num 5))/\((n=[112,114,105,111,114,105,116,121])=(p=.num 6))/\((n=[100,101,97,100,108,105,110,101])=(p=.num 7))/\((n=[114,101,116,114,121])=(p=.num 8))/\((n=[101,112,111,99,104])=(p=.num 9))/\((n=[98,97,115,101])=(p=.num 10))/\((n=[100,105,103,101,115,116])=(p=.num 11))/\((n=[108,97,103])=(p=.num 12))/\((n=[99,111,100,101])=(p=.num 13))/\((n=[119,97,110,116])=(p=.num 14)):=
 ⟨nM hp DZ,nM hp Dz,nM hp Bj,nM hp Bo,nM hp Bl,nM hp DL,nM hp D6,nM hp DU,nM hp DX,nM hp DW,nM hp DF,nM hp DT,nM hp DJ,nM hp DY,nM hp DK,nM hp D5,nM hp DR,nM hp DC,nM hp DN,nM hp DV,nM hp DI,nM hp D7⟩
set_option maxHeartbeats 4000000 in
theorem anF {n:List UInt8} {p:Pl} (hp:placeOf n=some p) (hk:iw p) (b:aB) (NS MP r OUT:List GV) (L ty:Int) (i:Nat) (h:(i:Int) < L) (hw:IntKind.i64.wrap ((i:Int)+1)=(i:Int)+1) (hget:NS[i]? = some (.s n)) (gv:fQ (.s n) MP=some (.g [.i .i64 ty,.i .u64 0,.s []]))
 (ih:TT.lim 149 ([.l NS,.i .i64 L,.i .i64 ((i:Int)+1),.l MP,.i .i64 b.kind]++bg (qU b p)++[.l r])=some OUT):TT.lim 149 ([.l NS,.i .i64 L,.i .i64 (i:Int),.l MP,.i .i64 b.kind]++bg b++[.l r])=some OUT:=by
 have hI:=akG hp;clear hp;cases p with
 | num k=>
   simp only [iw] at hk;rcases (show k=0\/k=1\/k=2\/k=3\/k=4\/k=5\/k=6\/k=7\/k=8\/k=9\/k=10\/k=11\/k=12\/k=13\/k=14 by omega) with rfl | rfl | rfl | rfl | rfl | rfl | rfl | rfl | rfl | rfl | rfl | rfl | rfl | rfl | rfl
   all_goals
    simp only [qU,setB,bg,cu,bK] at ih ⊢;refine ay rfl rfl ?_;simp -implicitDefEqProofs (maxSteps:=10000000) [↓jF,h,hw,hget,gv,OO,hI,ih]
 | _=>
   simp only [qU,bg,cu,bK,wU] at ih ⊢;refine ay rfl rfl ?_;simp -implicitDefEqProofs (maxSteps:=10000000) [↓jF,h,hw,hget,gv,OO,hI,ih]
set_option maxHeartbeats 4000000 in
theorem aan {o:aB} {fo fl:List aF} (ho:jE o fo) (hso:Short o) (hsz:bI fl<=1000000) (ns:List (List UInt8)) (hl:ns.length<=1000):∀ (m i:Nat) (b:aB),i+m=ns.length->jE b fl->
 TT.lim 149 ([.l (ns.map .s),.i .i64 ns.length,.i .i64 i,.l (uw o [] dR),.i .i64 b.kind]++bg b++[.l (aC fl)])=some (if (fC o b (ns.drop i)).2=0 then .i .i64 1::.i .i64 (fC o b (ns.drop i)).1.kind::(bg (fC o b (ns.drop i)).1++[.l (aC fl)]) else [.i .i64 0,.i .i64 (fC o b (ns.drop i)).2])
 | 0,i,b,hi,hb=>by
   have h:¬ ((i:Int) < ns.length):=by omega
   have e:ns.drop i=[]:=gG (by omega);rw [e];simp only [fC,if_true,bg,cu,bK];refine ay rfl rfl ?_;simp [h]
 | m+1,i,b,hi,hb=>by
   have hlt:i < ns.length:=by omega
   have h:((i:Int) < ns.length):=by omega
   have hw:=wrap64 (n:=(i:Int)+1) (by omega) (by omega);have hcast:((i+1:Nat):Int)=(i:Int)+1:=by omega
   have hd2:=iQ hlt;have hget:(ns.map GV.s)[i]? = some (.s ns[i]):=by rw [iL,bT hlt];rfl
   rw [hd2];have gv:=asL o ns[i];have ih:=λb hb=>aan ho hso hsz ns hl m (i+1) b (by omega) hb;simp only [hcast] at ih;cases hp:placeOf ns[i] with
   | none=>
     rw [aj hp] at gv;simp only [fC,hp];rw [ah (by decide)];generalize uw o [] dR=MP at *;generalize ns.map GV.s=NS at *;generalize (ns.length:Int)=L at *;generalize ns[i]=n at *;simp only [bg,cu,bK];clear ih;refine ay rfl rfl ?_;simp -implicitDefEqProofs (maxSteps:=10000000) [↓jF,h,hw,hget,gv]
   | some p=>
     rw [ah (by rw [hp];simp)] at gv;unfold uQ Jl uq at gv;rw [hp] at gv;simp only [fC,hp] at gv ⊢;obtain ⟨e,hk, -⟩:=vC ns[i] p hp;obtain ⟨v1,v2⟩:=MR ho hso p;have hwt:=ami b fl (KC hb.d) hb.t hsz 0 (aV p) (aK o p).1 (aK o p).2 v1 v2 ns[i];unfold MW at hwt;rw [hp] at hwt;simp only at hwt;unfold RS at hwt;by_cases hz:aK o p=(0,[])
     ·rw [aj hz]
      have ih:=ih (qU b p) (Z8 hb p hk);rw [Z7] at ih;rw [hz] at gv;exact anF hp hk b _ _ _ _ _ _ i h hw hget gv ih
     ·rw [ah hz]
      have hz2:((aK o p).1=0/\(aK o p).2=[])=False:=eq_false λe=>hz (Prod.ext e.1 e.2);by_cases hc:aN (aV p) (aK o p).1 (aK o p).2 p=0
      ·rw [aj hc] at hwt ⊢
       obtain ⟨q1,q2,q3⟩:=QO hb.body hb.d hb.t v1 v2 hc;have ih:=ih (setB b (aK o p).1 (aK o p).2 p) ⟨q1,q2,q3,hb.f8,hb.len⟩;rw [L9] at ih;have hk2:=L9 b (aK o p).1 (aK o p).2 p;generalize fC o (setB b (aK o p).1 (aK o p).2 p) (ns.drop (i+1))=R at *;generalize setB b (aK o p).1 (aK o p).2 p=B at *;generalize uw o [] dR=MP at *;generalize ns.map GV.s=NS at *;generalize (ns.length:Int)=L at *;clear hz hd2 hp v1 v2 q1 q2 q3 hc e;generalize (aK o p).1=x at *;generalize (aK o p).2=y at *;generalize ns[i]=n at *;generalize aV p=ty at *;generalize aC fl=r at *;generalize (if R.2=0 then GV.i .i64 1::.i .i64 R.1.kind::(bg R.1++[.l r]) else [.i .i64 0,.i .i64 R.2])=OUT at *;unfold bU at hwt;rw [hk2] at hwt;simp only [bg,cu,bK] at ih ⊢;refine ay rfl rfl ?_;simp -implicitDefEqProofs (maxSteps:=10000000) [↓jF,h,hw,hget,gv,OO,hz2,hwt,ih]
      ·rw [ah hc] at hwt ⊢
       simp only;rw [ah hc];clear ih;generalize aN (aV p) (aK o p).1 (aK o p).2 p=er at *;generalize uw o [] dR=MP at *;generalize ns.map GV.s=NS at *;generalize (ns.length:Int)=L at *;clear hz hd2 hp v1 v2 e;generalize (aK o p).1=x at *;generalize (aK o p).2=y at *;generalize ns[i]=n at *;generalize aV p=ty at *;generalize aC fl=r at *;unfold bU at hwt;simp only [bg,cu,bK];refine ay rfl rfl ?_;simp -implicitDefEqProofs (maxSteps:=10000000) [↓jF,h,hw,hget,gv,OO,hz2,hwt,hc]
theorem ad3 {o b:aB} {fo fl:List aF} (ho:jE o fo) (hso:Short o) (hb:jE b fl) (hsz:bI fl<=1000000) (ns:List (List UInt8)) (hl:ns.length<=1000) :
 TT.lim 146 [bU b (aC fl),bU o (aC fo),.l (ns.map .s)]=some (if (fC o b ns).2=0 then [bU (fC o b ns).1 (aC fl),.i .i64 0] else [bU bP [],.i .i64 (fC o b ns).2]):=by
 have v1:=asJ o (aC fo) ho.body ho.d ho.t.few;have kc:=ada b fl (KC hb.d) hb.t hsz;have h0:=aan ho hso hsz ns hl ns.length 0 b (by omega) hb;rw [dY] at h0;simp only [vP] at h0;have hnl:((ns.map GV.s).length:Int)=(ns.length:Int):=by rw [nV]
 have hz:GV.g [.i .i64 0,.i .u64 0,.i .u64 0,.i .u64 0,.i .u64 0,.i .u64 0,.i .u64 0,.i .u64 0,.i .u64 0,.i .u64 0,.i .u64 0,.i .u64 0,.i .u64 0,.i .u64 0,.i .u64 0,.i .u64 0,.i .i64 0,.b false,.s [],.s [],.s [],.l [],.l [],.l []]=bU bP []:=rfl;generalize uw o [] dR=MP at *;generalize fC o b ns=R at *;generalize ns.map GV.s=NS at *;generalize (ns.length:Int)=L at *;generalize aC fo=r2 at *;generalize aC fl=r at *;clear ho hso hb hsz hl;by_cases e:R.2=0
 ·rw [aj e] at h0 ⊢
  unfold bU at kc ⊢;simp only [bg,cu,bK] at v1 h0;refine aW rfl rfl ?_ rfl;simp -implicitDefEqProofs (maxSteps:=10000000) [↓jF,v1,kc,hnl,h0]
 ·rw [ah e] at h0 ⊢
  rw [<- hz];unfold bU at kc ⊢;simp only [bg,cu,bK] at v1 h0;refine aW rfl rfl ?_ rfl;simp -implicitDefEqProofs (maxSteps:=10000000) [↓jF,v1,kc,hnl,h0]
theorem QF {o:aB} {fo fl:List aF} (ho:jE o fo) (hso:Short o):∀ (ns:List (List UInt8)) (b:aB),jE b fl->(fC o b ns).2=0->jE (fC o b ns).1 fl
 | [],b,hb,_=>hb
 | n::r,b,hb,h=>by
   unfold fC at h ⊢;cases hp:placeOf n with
   | none=>rw [hp] at h;exact absurd h (by simp)
   | some p=>
     rw [hp] at h;simp only at h ⊢;by_cases hz:aK o p=(0,[])
     ·rw [aj hz] at h ⊢
      exact QF ho hso r _ (Z8 hb p (vC n p hp).2.1) h
     ·rw [ah hz] at h ⊢
      by_cases hc:aN (aV p) (aK o p).1 (aK o p).2 p=0
      ·rw [aj hc] at h ⊢
       obtain ⟨v1,v2⟩:=MR ho hso p;obtain ⟨q1,q2,q3⟩:=QO hb.body hb.d hb.t v1 v2 hc;exact QF ho hso r _ ⟨q1,q2,q3,hb.f8,hb.len⟩ h
      ·rw [ah hc] at h
       exact absurd h hc
theorem WJ {b c:aB} {q:Pl} (h:aZ b c q):aZ c b q:=by cases q<;>exact Eq.symm h
theorem amU {b c:aB} {q:Pl} (h:aZ b c q):dw b q=dw c q:=by
 cases q<;>simp only [aZ] at h<;>simp only [dw,h]
theorem aes (b c:aB) (n:Int) (s:List UInt8) (p:Pl):aZ (setB b n s p) (setB c n s p) p:=by
 cases p with
 | num k=>rcases k with _ | _ | _ | _ | _ | _ | _ | _ | _ | _ | _ | _ | _ | _ | k<;>rfl
 | _=>rfl
theorem apP (b:aB) (n:Int) (s:List UInt8) (j k:Nat) (hk:k < 15) (hj:j < 15) (hne:j≠k):fE (setB b n s (.num k)) j=fE b j:=by
 rcases k with _ | _ | _ | _ | _ | _ | _ | _ | _ | _ | _ | _ | _ | _ | _ | k
 all_goals first | (exfalso;omega) | skip
 all_goals (rcases j with _ | _ | _ | _ | _ | _ | _ | _ | _ | _ | _ | _ | _ | _ | _ | j)<;>first | rfl | exact absurd rfl hne | (exfalso;omega)
theorem aeu (b d:aB) (n:Int) (s:List UInt8) (p q:Pl) (hp:iw p) (hq:iw q) (hne:q≠p):aZ (setB b n s p) d q↔aZ b d q:=by
 cases p with
 | num k=>
   cases q with
   | num j=>
     show fE (setB b n s (.num k)) j=fE d j↔fE b j=fE d j
     rw [apP b n s j k hp hq (λe=>hne (by rw [e]))]
   | _=>unfold setB;split<;>rename_i hk<;>cases hk<;>(split<;>exact zZ)
 | _=>
   cases q with
   | num j=>exact zZ
   | _=>first | exact zZ | exact absurd rfl hne
theorem agG (b c:aB) (p:Pl):aZ (qU b p) (qU c p) p:=by
 cases p with
 | num k=>exact aes b c 0 [] (.num k)
 | _=>rfl
theorem agH (b d:aB) (p q:Pl) (hp:iw p) (hq:iw q) (hne:q≠p):aZ (qU b p) d q↔aZ b d q:=by
 cases p with
 | num k=>exact aeu b d 0 [] (.num k) q hp hq hne
 | _=>
   cases q with
   | num j=>exact zZ
   | _=>first | exact zZ | exact absurd rfl hne
theorem apU {o b:aB} (ho:Short o) (hb:Short b) (p:Pl):Short (setB b (aK o p).1 (aK o p).2 p):=by
 cases p with
 | num k=>rcases k with _ | _ | _ | _ | _ | _ | _ | _ | _ | _ | _ | _ | _ | _ | k<;>exact hb
 | name=>exact ⟨ho.1,hb.2⟩
 | region=>exact ⟨hb.1,ho.2.1,hb.2.2⟩
 | note=>exact ⟨hb.1,hb.2.1,ho.2.2⟩
 | _=>exact hb
theorem agI {b:aB} (hb:Short b) (p:Pl):Short (qU b p):=by
 have z:([]:List UInt8).length<=600:=by decide
 cases p with
 | num k=>rcases k with _ | _ | _ | _ | _ | _ | _ | _ | _ | _ | _ | _ | _ | _ | k<;>exact hb
 | name=>exact ⟨z,hb.2⟩
 | region=>exact ⟨hb.1,z,hb.2.2⟩
 | note=>exact ⟨hb.1,hb.2.1,z⟩
 | _=>exact hb
/-- One name is put: the same for all messages. -/
theorem anG (o:aB) (ho:Short o) (n:List UInt8) (r:List (List UInt8)):(∃ (p:Pl) (X:aB->aB),placeOf n=some p/\(∀b c,aZ (X b) (X c) p)/\(∀b d q,iw q->q≠p->(aZ (X b) d q↔aZ b d q))/\(∀b,(X b).kind=b.kind)/\(∀b,Short b->Short (X b))/\∀b,fC o b (n::r)=fC o (X b) r)\/∃e:Int,e≠0/\∀b,fC o b (n::r)=(bP,e):=by
 cases hp:placeOf n with
 | none=>exact .inr ⟨26,by decide,λb=>by unfold fC;rw [hp]⟩
 | some p=>
   have hk:=(vC n p hp).2.1;by_cases hz:aK o p=(0,[])
   ·exact .inl ⟨p,λb=>qU b p,rfl,λb c=>agG b c p,λb d q hq hne=>agH b d p q hk hq hne,λb=>Z7 b p,λb hb=>agI hb p,λb=>by
     rw [fC,hp];simp only;rw [aj hz]⟩
   ·by_cases hc:aN (aV p) (aK o p).1 (aK o p).2 p=0
    ·exact .inl ⟨p,λb=>setB b (aK o p).1 (aK o p).2 p,rfl,λb c=>aes b c _ _ p,λb d q hq hne=>aeu b d _ _ p q hk hq hne,λb=>L9 b _ _ p,λb hb=>apU ho hb p,λb=>by
      rw [fC,hp];simp only;rw [ah hz,aj hc]⟩
    ·exact .inr ⟨_,hc,λb=>by rw [fC,hp];simp only;rw [ah hz,ah hc]⟩
theorem Jc {o:aB} (ho:Short o):∀ (ns:List (List UInt8)) (b c:aB),(fC o b ns).2=(fC o c ns).2/\((fC o b ns).2=0->(fC o b ns).1.kind=b.kind/\(Short b->Short (fC o b ns).1)/\
 (∀q,iw q->(aZ b c q\/∃n∈ns,placeOf n=some q)->aZ (fC o b ns).1 (fC o c ns).1 q)/\(∀d q,iw q->(∀n∈ns,placeOf n≠some q)->(aZ (fC o b ns).1 d q↔aZ b d q)))
 | [],b,c=>by
   refine ⟨rfl,λ_=>⟨rfl,λh=>h,λq _ h=>?_,λd q _ _=>zZ⟩⟩;rcases h with h | ⟨n,hn, -⟩
   ·exact h
   ·cases hn
 | n::r,b,c=>by
   rcases anG o ho n r with ⟨p,X,hp,x1,x2,x3,x4,x5⟩ | ⟨e,e0,x⟩
   ·rw [x5 b,x5 c]
    obtain ⟨i1,i2⟩:=Jc ho r (X b) (X c);refine ⟨i1,λh=>?_⟩;obtain ⟨j1,j2,j3,j4⟩:=i2 h;refine ⟨by rw [j1,x3],λh=>j2 (x4 _ h),λq hq hh=>?_,λd q hq hn=>?_⟩
    ·refine j3 q hq ?_
     by_cases e:q=p
     ·rw [e];exact .inl (x1 b c)
     ·rcases hh with hh | ⟨m,hm,em⟩
      ·exact .inl ((x2 b _ q hq e).2 (WJ ((x2 c _ q hq e).2 (WJ hh))))
      ·rcases cO.1 hm with rfl | hm
       ·rw [hp] at em;injection em with em;exact absurd em.symm e
       ·exact .inr ⟨m,hm,em⟩
    ·have e:q≠p:=λe=>hn n (by simp) (by rw [hp,e])
     exact (j4 d q hq λm hm=>hn m (by simp [hm])).trans (x2 b d q hq e)
   ·rw [x b,x c]
    exact ⟨rfl,λh=>absurd h e0⟩
theorem ZX {b:aB} {fl:List aF} {v:Int} (h:fB b fl v=0):(∀n∈dR,∀q,placeOf n=some q->jG (aG b.kind v) n=false->dw b q=true)/\(∀s∈aG b.kind v,∀q,placeOf s.name=some q->qF b q=0)/\tC b=0/\F5 (aG b.kind v) fl=0:=by
 unfold fB at h;by_cases h1:v < 1
 ·rw [aj h1] at h;exact absurd h (by decide)
 rw [ah h1] at h;by_cases h2:3 < v
 ·rw [aj h2] at h;exact absurd h (by decide)
 rw [ah h2] at h;by_cases h3:aG b.kind v=[]
 ·rw [aj h3] at h;exact absurd h (by decide)
 rw [ah h3] at h;by_cases h4:dR.all (λn=>jG (aG b.kind v) n || mg b n)=false
 ·rw [aj h4] at h;exact absurd h (by decide)
 rw [ah h4] at h;by_cases h5:mZ b (aG b.kind v)≠0
 ·rw [aj h5] at h;exact absurd h h5
 rw [ah h5] at h;by_cases h6:tC b≠0
 ·rw [aj h6] at h;exact absurd h h6
 rw [ah h6] at h;refine ⟨λn hn q hq hx=>?_,λs hs q hq=>?_,by simpa using h6,h⟩
 ·rw [Nj] at h4
  have:=List.all_eq_true.1 h4 n hn;rw [hx,vO] at this;unfold mg at this;rw [hq] at this;exact this
 ·have:=Qm b _ (by simpa using h5) s hs
  unfold sH at this;rw [hq] at this;exact this
theorem KR {l:List bM} {n:List UInt8}:jG l n=true↔∃s∈l,s.name=n:=by
 unfold jG;rw [List.any_eq_true];exact ⟨λ⟨s,h,e⟩=>⟨s,h,Bf e⟩,λ⟨s,h,e⟩=>⟨s,h,yh e⟩⟩
theorem akP {k u:Int} {s t:bM} (hs:s∈aG k u) (ht:t∈aG k u) (e:s.name=t.name):s.from_=t.from_:=by
 have key:∀s∈mF k,∀t∈mF k,s.name=t.name->s.from_=t.from_:=by
  unfold mF;repeat' split
  all_goals first | (unfold sp1;decide) | (unfold sp2;decide) | (unfold rE;decide) | (unfold zI;decide) | (unfold rF;decide) | (unfold rG;decide) | (unfold zJ;decide) | (unfold zK;decide) | (intro s hs;cases hs)
 exact key s (pO.1 hs).1 t (pO.1 ht).1 e
theorem adD {b:aB} {fl:List aF} {u w:Int} (hc:fB b fl u=0) (h:w<=u):(fK (aG b.kind w) (gB b fl u)).Perm (gQ b ((aG b.kind u).filter λs=>!decide (s.from_<=w))++fl)/\(fK (aG b.kind w) (gB b fl u)).Pairwise (λx y=>x.tag < y.tag):=by
 obtain ⟨mp,ms⟩:=Ba (Cm hc);have hp:=mp.filter (λf=>!hasTag (aG b.kind w) f.tag);rw [Sv] at hp;have e1:fl.filter (λf=>!hasTag (aG b.kind w) f.tag)=fl:=List.filter_eq_self.2 λf hf=>by rw [aeh hc h f hf];rfl
 have e2:=Vt b (λt=>!hasTag (aG b.kind w) t) (λs=>!decide (s.from_<=w)) (aG b.kind u) (λs hs=>by
  rw [Fv b.kind h,abT (AY b.kind u).1 _ hs])
 rw [e1,e2] at hp;exact ⟨hp,ms.sublist Np⟩
/-- What an elder version's message with some values put tells: the message with these values put. -/
theorem anD {o b:aB} {fl:List aF} {u w:Int} (ho:Short o) (hc:fB b fl u=0) (h1:1<=w) (h:w<=u) (hf:jm b.kind<=w) {ns:List (List UInt8)} (hns:∀n∈ns,jG (aG b.kind w) n=true)
 (he:(fC o (fM b { bP with kind:=b.kind } (aG b.kind w)) ns).2=0) (hB:fB (fC o (fM b { bP with kind:=b.kind } (aG b.kind w)) ns).1 (fK (aG b.kind w) (gB b fl u)) w=0) :
 (fC o b ns).2=0/\(fC o b ns).1.kind=b.kind/\fB (fC o b ns).1 fl u=0/\bytesV (fC o (fM b { bP with kind:=b.kind } (aG b.kind w)) ns).1 (fK (aG b.kind w) (gB b fl u)) w=bytesV (fC o b ns).1 fl u:=by
 have hka:(fM b { bP with kind:=b.kind } (aG b.kind w)).kind=b.kind:=zF b _ _;obtain ⟨hp1,hp2⟩:=FZ hc h;obtain ⟨p1,p2⟩:=Jc ho ns (fM b { bP with kind:=b.kind } (aG b.kind w)) b;obtain ⟨p3, -,p4, -⟩:=p2 he;have hW:(fC o b ns).2=0:=by rw [<- p1];exact he
 obtain ⟨p5, -, -,p6⟩:=(Jc ho ns b b).2 hW;have K1:∀s∈aG b.kind w,∀q,placeOf s.name=some q->aZ (fC o (fM b { bP with kind:=b.kind } (aG b.kind w)) ns).1 (fC o b ns).1 q:=λs hs q e=>p4 q (vC _ q e).2.1 (.inl (hp1 s hs q e).1);have K2:∀n q,placeOf n=some q->jG (aG b.kind w) n=false->aZ (fC o b ns).1 b q:=λn q e hn=>(p6 b q (vC _ q e).2.1 λm hm em=>by
  have:=hns m hm;rw [Xh em e,hn] at this;cases this).2 (adK b q)
 rw [hka] at p3;generalize fM b { bP with kind:=b.kind } (aG b.kind w)=A at *;generalize hBB:(fC o A ns).1=B at *;generalize hWW:(fC o b ns).1=W at *;obtain ⟨-,b2,b3, -⟩:=ZX hB;obtain ⟨c1,c2, -,c4⟩:=ZX hc;obtain ⟨u1,u3,Eh, -, -⟩:=Aq hc;rw [p3] at b2;have hbd:tC W=0:=by
  have K1':∀s∈aG B.kind w,∀q,placeOf s.name=some q->aZ W B q:=by
   rw [p3];exact λs hs q e=>WJ (K1 s hs q e)
  rw [ZA (by rw [p5,p3]) h1 (by rw [p3];exact hf) K1',b3]
 have hall:dR.all (λn=>jG (aG b.kind u) n || mg W n)=true:=List.all_eq_true.2 λn hn=>by
  cases hx:jG (aG b.kind u) n with
  | true=>rfl
  | false=>
    have hx':jG (aG b.kind w) n=false:=by
     cases hy:jG (aG b.kind w) n with
     | false=>rfl
     | true=>
       obtain ⟨s,hs,e⟩:=KR.1 hy;rw [Fv b.kind h] at hs;rw [KR.2 ⟨s,(pO.1 hs).1,e⟩] at hx;cases hx
    unfold mg;cases hq:placeOf n with
    | none=>exact absurd hq (LC n hn)
    | some q=>
      simp only [vO];rw [amU (K2 n q hq hx')];exact c1 n hn q hq hx
 have hml:mZ W (aG b.kind u)=0:=VX _ _ λs hs=>by
  unfold sH;cases hq:placeOf s.name with
  | none=>rfl
  | some q=>
    simp only;cases hx:jG (aG b.kind w) s.name with
    | true=>
      obtain ⟨s',hs',e⟩:=KR.1 hx;have hq':placeOf s'.name=some q:=by rw [e];exact hq
      rw [<- WI (K1 s' hs' q hq')];exact b2 s' hs' q hq'
    | false=>
      rw [WI (K2 _ q hq hx)];exact c2 s hs q hq
 have hcW:fB W fl u=0:=by
  unfold fB;rw [p5,ah (by omega),ah (by omega),ah Eh,hall,ah (by decide),ah (λx=>x hml),ah (λx=>x hbd)];exact c4
 refine ⟨hW,p5,hcW, ?_⟩;have kv:gQ B (aG b.kind w)=gQ W (aG b.kind w):=Vw K1;obtain ⟨o1,o2⟩:=adD hc h;obtain ⟨o3,o4⟩:=adD hcW h;rw [p5] at o3 o4;have kv2:gQ W ((aG b.kind u).filter λs=>!decide (s.from_<=w))=gQ b ((aG b.kind u).filter λs=>!decide (s.from_<=w)):=Vw λs hs q e=>by
  obtain ⟨m1,m2⟩:=pO.1 hs;refine K2 _ q e ?_;cases hx:jG (aG b.kind w) s.name with
  | false=>rfl
  | true=>
    obtain ⟨s',hs',e'⟩:=KR.1 hx;rw [Fv b.kind h] at hs';obtain ⟨n1,n2⟩:=pO.1 hs';rw [akP n1 m1 e'] at n2;rw [n2] at m2;cases m2
 rw [kv2] at o3;have e3:fK (aG b.kind w) (gB b fl u)=fK (aG b.kind w) (gB W fl u):=Ji _ _ (o1.trans o3.symm) (o2.imp λh=>by omega) o4;have e4:=adh hcW h;rw [p5,<- e3,<- kv] at e4;unfold bytesV;rw [p3,p5];have e5:gB B (fK (aG b.kind w) (gB b fl u)) w=qG (gQ B (aG B.kind w)) (fK (aG b.kind w) (gB b fl u)):=rfl;rw [e5,p3,e4]
end K
end Go.Proofs.YtcpfjpcdcafjmaaGreatDoor
