/- What the trees compute: plain laws. -/
import Derived.Test.YthgifdbaegpbpaaGreatDoorKKe5
namespace Go.Proofs.YthgifdbaegpbpaaGreatDoor
open Go Go.aN
set_option linter.unusedSimpArgs false
set_option linter.unusedVariables false
set_option maxRecDepth 100000
namespace K
theorem ah4 {L:List aF} (h:Ri L) (hl:(bJ L).length<=65536):vO (bJ L)=(L,0):=by
 unfold vO;rw [ah (by omega)];exact WJ ((bJ L).length+1) L 0 0 h.ok (NK (bH L+1) L (by omega) h.ok 0 0 h.chk (by omega)) h.w h.chk (by omega) (by omega)
theorem agI {k w:Int} (hk:1<=k/\k<=8) (h1:1<=w) (h3:w<=3) (hf:jm k<=w) {L:List aF} (h:Ri L) (hl:(aS k.toNat++bJ L).length<=65536) :
 wQ (aS k.toNat++bJ L) w=(if (pz (aH k w) { bM with kind:=k } (jH (aH k w) L)).2≠0 then (bM,[],(pz (aH k w) { bM with kind:=k } (jH (aH k w) L)).2) else
  if gB (pz (aH k w) { bM with kind:=k } (jH (aH k w) L)).1 (gW (aH k w) L) w≠0 then (bM,[],gB (pz (aH k w) { bM with kind:=k } (jH (aH k w) L)).1 (gW (aH k w) L) w) else ((pz (aH k w) { bM with kind:=k } (jH (aH k w) L)).1,gW (aH k w) L,0)):=by
 have hlf:(bJ L).length<=65536:=by rw [dQ] at hl;omega
 have hv:=IW k.toNat (bJ L) (by omega);have hkk:((k.toNat:Nat):Int)=k:=by omega
 have hf0:jm k≠0:=by
  unfold jm;obtain ⟨a,b⟩:=hk;rcases (show k=1\/k=2\/k=3\/k=4\/k=5\/k=6\/k=7\/k=8 by omega) with rfl | rfl | rfl | rfl | rfl | rfl | rfl | rfl<;>decide
 have hg:=ah4 h hlf;unfold wQ;rw [ah (by omega),ah (by omega),ah (by omega),hv];simp only [ne_eq,not_true_eq_false,if_false,hkk,qH];rw [ah (by omega),ah hf0,ah (by omega),hg];simp only [not_true_eq_false,if_false]
/-- The parts for a message that some names tell, put into another one. -/
def fP (b c:aB):List bV->aB
 | []=>c
 | s::l=>match placeOf s.name with
  | some p=>if (aU b p).1=0/\(aU b p).2=[] then fP b c l else fP b (vU b c p) l
  | none=>fP b c l
theorem Oo (s:bV):∀l:List bV,l.Pairwise (λa b=>a.tag < b.tag)->s∈l->l.find? (λx=>decide (x.tag=s.tag))=some s
 | [],_,h=>by cases h
 | a::l,hl,h=>by
  rw [sG] at hl;rw [List.find?_cons];rcases bZ.1 h with e | h
  ·subst e;simp
  ·have:=hl.1 s h
   rw [D8 (show ¬ a.tag=s.tag by omega)];simp only;exact Oo s l hl.2 h
theorem S9 {b:aB} {fl:List aF} {u:Int} (hm:wJ b fl) (hc:gB b fl u=0) {l:List bV} (hl:l.Pairwise (λa b=>a.tag < b.tag)):∀ (ls:List bV) (c:aB),(∀s∈ls,s∈l)->pz l c (iM b ls)=(fP b c ls,0)
 | [],c,_=>rfl
 | s::ls,c,hs=>by
  have ih:=λc=>S9 hm hc hl ls c (λx hx=>hs x (by simp [hx]));rw [yV];unfold fP tu;cases hp:placeOf s.name with
  | none=>
   simp only [cu];exact ih c
  | some p=>
   simp only;by_cases hz:(aU b p).1=0/\(aU b p).2=[]
   ·rw [aj hz,aj hz]
    simp only [cu];exact ih c
   ·rw [ah hz,ah hz]
    simp only [dW,cu];have hmay:=afB hc hp hz;obtain ⟨g1, -, -,g4⟩:=aor hm.msg hm.short p hmay hz;have hfind:=Oo s l hl (hs s (by simp));unfold pz;have e1:aF.tag (.mk s.tag (aZ p) (aU b p).1 (aU b p).2 [])=s.tag:=rfl;have e2:aF.typ (.mk s.tag (aZ p) (aU b p).1 (aU b p).2 [])=aZ p:=rfl;have e3:aF.num (.mk s.tag (aZ p) (aU b p).1 (aU b p).2 [])=(aU b p).1:=rfl;have e4:aF.txt (.mk s.tag (aZ p) (aU b p).1 (aU b p).2 [])=(aU b p).2:=rfl;rw [e1,hfind,e2,e3,e4];simp only [hp];rw [aj g1,g4];exact ih _
theorem O7 (k:Int) {w u:Int} (h:w<=u):aH k w=(aH k u).filter (λs=>decide (s.from_<=w)):=by
 unfold aH;rw [List.filter_filter];congr 1;funext s;by_cases h1:s.from_<=w
 ·have:s.from_<=u:=by omega
  simp [h1,this]
 ·simp [h1]
theorem aiD {l:List bV} (hl:l.Pairwise (λa b=>a.tag < b.tag)) (q:bV->Bool) {s:bV} (hs:s∈l):hasTag (l.filter q) s.tag=q s:=by
 cases hq:q s with
 | true=>
  unfold hasTag;exact List.any_eq_true.2 ⟨s,vk.2 ⟨hs,hq⟩,by simp⟩
 | false=>
  cases ht:hasTag (l.filter q) s.tag with
  | false=>rfl
  | true=>
   unfold hasTag at ht;obtain ⟨x,hx,e⟩:=List.any_eq_true.1 ht;have e:s.tag=x.tag:=Ak e;obtain ⟨hx1,hx2⟩:=vk.1 hx;have f1:=Oo s l hl hs;have f2:=Oo x l hl hx1;rw [<- e,f1] at f2;injection f2 with f2
   rw [<- f2,hq] at hx2;cases hx2
theorem abx (b:aB) (l':List bV) (q:bV->Bool):∀ls:List bV,(∀s∈ls,hasTag l' s.tag=q s)->(iM b ls).filter (λf=>hasTag l' f.tag)=iM b (ls.filter q)
 | [],_=>rfl
 | s::ls,h=>by
  have ih:=abx b l' q ls (λx hx=>h x (by simp [hx]));have hs:=h s (by simp);rw [yV,Yc,ih,Jd];cases hk:tu b s with
  | none=>
   have hk0:∀z,iM b (s::z)=iM b z:=λz=>by rw [yV,hk];rfl
   cases hq:q s with
   | true=>simp [hk0]
   | false=>simp
  | some f=>
   obtain ⟨p, -,rfl, -⟩:=KD hk;have ht:hasTag l' (aF.mk s.tag (aZ p) (aU b p).1 (aU b p).2 []).tag=q s:=hs;cases hq:q s with
   | true=>
    rw [hq] at ht;simp only [Jd,ht,if_true,List.filter_nil];rw [yV,hk]
   | false=>
    rw [hq] at ht;simp [Jd,ht]
theorem anl {b:aB} {fl:List aF} {u w:Int} (hc:gB b fl u=0) (h:w<=u):∀f∈fl,hasTag (aH b.kind w) f.tag=false:=λf hf=>by
 have h1:=(zU hc).2.2.2.2 f hf;cases ht:hasTag (aH b.kind w) f.tag with
 | false=>rfl
 | true=>
  rw [O7 b.kind h] at ht;unfold hasTag at ht h1;obtain ⟨x,hx,e⟩:=List.any_eq_true.1 ht;have:(aH b.kind u).any (λs=>decide (f.tag=s.tag))=true:=List.any_eq_true.2 ⟨x,(vk.1 hx).1,e⟩;rw [this] at h1;exact h1
theorem aez {b:aB} {fl:List aF} {u w:Int} (hc:gB b fl u=0) (h:w<=u):jH (aH b.kind w) (ig b fl u)=iM b (aH b.kind w):=by
 obtain ⟨mp,ms⟩:=CQ (DF hc);have hp:=mp.filter (λf=>hasTag (aH b.kind w) f.tag);rw [Yc] at hp;have e1:fl.filter (λf=>hasTag (aH b.kind w) f.tag)=[]:=aeJ.2 λf hf=>by rw [anl hc h f hf];decide
 have e2:=abx b (aH b.kind w) (λs=>decide (s.from_<=w)) (aH b.kind u) (λs hs=>by
  rw [O7 b.kind h];exact aiD (CG b.kind u).1 _ hs)
 rw [<- O7 b.kind h] at e2;rw [e1,e2,nK] at hp;refine Lm _ _ hp ?_ (O8 b _ (CG b.kind w).1);exact (ms.sublist Rt).imp λh=>by omega
/-- The known fields, and all others, are the whole list again. -/
theorem akK {b:aB} {fl:List aF} {u w:Int} (hc:gB b fl u=0) (h:w<=u):qW (iM b (aH b.kind w)) (gW (aH b.kind w) (ig b fl u))=ig b fl u:=by
 obtain ⟨mp,ms⟩:=CQ (DF hc);have hw:=aez hc h;have hp:(iM b (aH b.kind w)++gW (aH b.kind w) (ig b fl u)).Perm (ig b fl u):=by
  rw [<- hw];exact List.filter_append_perm _ _
 have nd:((ig b fl u).map aF.tag).Nodup:=by
  unfold List.Nodup;rw [List.pairwise_map];exact ms.imp λh e=>by omega
 have hn:=((hp.map aF.tag).nodup_iff).2 nd;obtain ⟨m1,m2⟩:=CQ hn;exact Lm _ _ (m1.trans hp) (m2.imp λh=>by omega) ms
theorem ac2 (b c:aB) (p:Pl):bG (vU b c p) b p:=by
 cases p with
 | num k=>rcases k with _ | _ | _ | _ | _ | _ | _ | _ | _ | _ | _ | _ | _ | _ | k<;>rfl
 | _=>rfl
theorem WE (b c d:aB) (p q:Pl) (hp:jF p) (hq:jF q) (hne:q≠p):bG (vU b c p) d q↔bG c d q:=by
 cases p with
 | num k=>
  cases q with
  | num j=>
   show gI (vU b c (.num k)) j=gI d j↔gI c j=gI d j
   rw [amz b c j k hp hq (λe=>hne (by rw [e]))]
  | _=>unfold vU;split<;>rename_i hk<;>cases hk<;>(split<;>exact Iff.rfl)
 | _=>
  cases q with
  | num j=>exact Iff.rfl
  | _=>first | exact Iff.rfl | exact absurd rfl hne
theorem val_zero {b:aB} (q:Pl) (hm:qV b q=0) (h:(aU b q).1=0/\(aU b q).2=[]):dH b q=true:=by
 have kn:∀d:List dn,iD d≠[]:=λd e=>by
  have:=sU List.length e;unfold iD at this;have h2:=zx d.length;unfold gq at h2;simp only [dQ,vg] at this;omega
 cases q with
 | rem=>
  simp only [aU] at h;simp only [dH,decide_eq_true_iff];have:=h.1;unfold zz at this;split at this<;>omega
 | allow=>
  simp only [aU] at h;simp only [dH];cases ha:b.allowed with
  | false=>rfl
  | true=>rw [ha] at h;simp at h
 | name=>simp only [aU] at h;simp only [dH,decide_eq_true_iff];exact h.2
 | region=>simp only [aU] at h;simp only [dH,decide_eq_true_iff];exact h.2
 | note=>simp only [aU] at h;simp only [dH,decide_eq_true_iff];exact h.2
 | d=>
  simp only [aU] at h;simp only [dH,decide_eq_true_iff];by_cases c:b.d=[]
  ·exact c
  ·rw [ah c] at h;exact absurd h.2 (kn _)
 | t=>
  simp only [aU] at h;simp only [qV] at hm;simp only [dH,decide_eq_true_iff];by_cases c:b.t=[]
  ·exact c
  ·rw [ah c] at h
   have hk:zh b.t=(nD b.t,0):=by unfold zh;rw [ah (λx=>x hm)]
   rw [hk] at h;have:=sU List.length h.2;unfold nD at this;have h2:=zx b.t.length;unfold gq at h2;simp only [dQ,vg] at this;omega
 | num k=>simp only [aU] at h;simp only [dH,decide_eq_true_iff];exact h.1
/-- A part that some name tells is put, where it is something, or was nothing. -/
theorem Qd {b:aB} {q:Pl} (hq:jF q) (hmay:qV b q=0):∀ (ls:List bV) (c:aB),(∃s∈ls,placeOf s.name=some q)->(dH b q=true->bG c b q)->bG (fP b c ls) b q
 | [],c,h,_=>by obtain ⟨s,hs, -⟩:=h;cases hs
 | s::ls,c,h,hc=>by
  have keep:∀ (ls:List bV) (c:aB),bG c b q->bG (fP b c ls) b q:=λls=>by
   induction ls with
   | nil=>exact λc h=>h
   | cons s ls ih=>
    intro c h;unfold fP;cases hp:placeOf s.name with
    | none=>exact ih c h
    | some p=>
     simp only;split
     ·exact ih c h
     ·refine ih _ ?_
      by_cases e:q=p
      ·rw [e];exact ac2 b c p
      ·exact (WE b c b p q (CX s.name p hp).2.1 hq e).2 h
  unfold fP;cases hp:placeOf s.name with
  | none=>
   refine Qd hq hmay ls c ?_ hc;obtain ⟨x,hx,e⟩:=h;rcases bZ.1 hx with rfl | hx
   ·rw [hp] at e;cases e
   ·exact ⟨x,hx,e⟩
  | some p=>
   simp only;by_cases e:q=p
   ·subst e
    split
    ·rename_i hz
     exact keep ls c (hc (val_zero q hmay hz))
    ·exact keep ls _ (ac2 b c q)
   ·have h':∃s∈ls,placeOf s.name=some q:=by
     obtain ⟨x,hx,ex⟩:=h;rcases bZ.1 hx with rfl | hx
     ·rw [hp] at ex;injection ex with ex;exact absurd ex.symm e
     ·exact ⟨x,hx,ex⟩
    split
    ·exact Qd hq hmay ls c h' hc
    ·exact Qd hq hmay ls _ h' λhn=>(WE b c b p q (CX s.name p hp).2.1 hq e).2 (hc hn)
/-- A part that no name tells stays. -/
theorem ac0 {b d:aB} {q:Pl} (hq:jF q):∀ (ls:List bV) (c:aB),(∀s∈ls,placeOf s.name≠some q)->(bG (fP b c ls) d q↔bG c d q)
 | [],c,_=>Iff.rfl
 | s::ls,c,h=>by
  have ih:=λc=>ac0 (b:=b) (d:=d) hq ls c (λx hx=>h x (by simp [hx]));unfold fP;cases hp:placeOf s.name with
  | none=>exact ih c
  | some p=>
   have e:q≠p:=λe=>h s (by simp) (by rw [hp,e]);simp only;split
   ·exact ih c
   ·exact (ih _).trans (WE b c d p q (CX s.name p hp).2.1 hq e)
theorem CY (b:aB):∀ (ls:List bV) (c:aB),(fP b c ls).kind=c.kind
 | [],c=>rfl
 | s::ls,c=>by
  unfold fP;cases placeOf s.name with
  | none=>exact CY b ls c
  | some p=>
   simp only;split
   ·exact CY b ls c
   ·rw [CY b ls,amy]
theorem ab8 (b:aB):∀ (l:List bV),(∀s∈l,uN b s.name=0)->nV b l=0
 | [],_=>rfl
 | x::l,h=>by
  unfold nV;rw [aj (h x (by simp))];exact ab8 b l λs hs=>h s (by simp [hs])
theorem alQ {b c:aB} {q:Pl} (h:bG b c q):qV b q=qV c q:=by
 cases q<;>simp only [bG] at h<;>simp only [qV,h]
theorem Vx {b:aB} {k:Int} {q:Pl} (h:dH b q=true):bG { bM with kind:=k } b q:=by
 cases q with
 | num j=>
  simp only [dH,decide_eq_true_iff] at h;show gI { bM with kind:=k } j=gI b j
  rw [h];unfold gI bM;split<;>rfl
 | allow=>simp only [dH,vZ] at h;show false=b.allowed;rw [h]
 | rem=>simp only [dH,decide_eq_true_iff] at h;show (0:Int)=b.remaining;rw [h]
 | name=>simp only [dH,decide_eq_true_iff] at h;show ([]:List UInt8)=b.name;rw [h]
 | region=>simp only [dH,decide_eq_true_iff] at h;show ([]:List UInt8)=b.region;rw [h]
 | note=>simp only [dH,decide_eq_true_iff] at h;show ([]:List UInt8)=b.note;rw [h]
 | d=>simp only [dH,decide_eq_true_iff] at h;show ([]:List dn)=b.d;rw [h]
 | t=>simp only [dH,decide_eq_true_iff] at h;show ([]:List Row)=b.t;rw [h]
theorem arS {b:aB} {k:Int} {q:Pl} (h:bG b { bM with kind:=k } q):dH b q=true:=by
 cases q with
 | num j=>
  have h:gI b j=gI { bM with kind:=k } j:=h;simp only [dH,decide_eq_true_iff];rw [h];unfold gI bM;split<;>rfl
 | allow=>have h:b.allowed=false:=h;simp [dH,h]
 | rem=>have h:b.remaining=0:=h;simp [dH,h]
 | name=>have h:b.name=[]:=h;simp [dH,h]
 | region=>have h:b.region=[]:=h;simp [dH,h]
 | note=>have h:b.note=[]:=h;simp [dH,h]
 | d=>have h:b.d=[]:=h;simp [dH,h]
 | t=>have h:b.t=[]:=h;simp [dH,h]
theorem alR (b:aB) (q:Pl):bG b b q:=by cases q<;>simp [bG]
/-- What is read at a version, part by part: a known one is as it was, all others are nothing. -/
theorem La {b:aB} {fl:List aF} {u w:Int} (hc:gB b fl u=0) (h:w<=u):(∀s∈aH b.kind w,∀q,placeOf s.name=some q->bG (fP b { bM with kind:=b.kind } (aH b.kind w)) b q/\qV b q=0)/\
 (∀n q,placeOf n=some q->qP (aH b.kind w) n=false->dH (fP b { bM with kind:=b.kind } (aH b.kind w)) q=true):=by
 have hmay:∀s∈aH b.kind w,uN b s.name=0:=λs hs=>by
  have hc':=hc;unfold gB at hc';split at hc'; · cases hc'
  split at hc'; · cases hc'
  split at hc'; · cases hc'
  split at hc'; · cases hc'
  split at hc'
  ·rename_i hm;exact absurd hc' hm
  rename_i hm
  have hm:nV b (aH b.kind u)=0:=by simpa using hm
  rw [O7 b.kind h] at hs;exact Vm b _ hm s (vk.1 hs).1
 refine ⟨λs hs q hq=>?_,λn q hq hn=>?_⟩
 ·have hm:qV b q=0:=by
   have:=hmay s hs;unfold uN at this;rw [hq] at this;exact this
  exact ⟨Qd (CX s.name q hq).2.1 hm _ _ ⟨s,hs,hq⟩ λhn=>Vx hn,hm⟩
 ·refine arS (k:=b.kind) ((ac0 (CX n q hq).2.1 (aH b.kind w) _ λs hs e=>?_).2 (alR _ q))
  have:n=s.name:=ami hq e;unfold qP at hn;have h3:(aH b.kind w).any (λs=>decide (s.name=n))=true:=List.any_eq_true.2 ⟨s,hs,by simp [this]⟩;rw [h3] at hn;cases hn
theorem ajD {k w:Int} (h1:1<=w) (hf:jm k<=w):(k=1->(∃s∈aH k w,placeOf s.name=some (.num 1))/\∃s∈aH k w,placeOf s.name=some (.num 2))/\(k=2->∃s∈aH k w,placeOf s.name=some (.num 3))/\(k=3->∃s∈aH k w,placeOf s.name=some .d)/\(k=5->∃s∈aH k w,placeOf s.name=some (.num 9))/\(k=6->(∃s∈aH k w,placeOf s.name=some (.num 10))/\∃s∈aH k w,placeOf s.name=some (.num 9)):=by
 have mem:∀s:bV,s∈nZ k->s.from_<=w->s∈aH k w:=λs hs hw=>vk.2 ⟨hs,by simpa using hw⟩;refine ⟨?_, ?_, ?_, ?_, ?_⟩
 ·rintro rfl
  exact ⟨⟨⟨1,0,1,[109,105,110]⟩,mem _ (by simp [nZ,sp1,sp2,rY,rZ,su]) h1,rfl⟩,⟨⟨2,0,1,[109,97,120]⟩,mem _ (by simp [nZ,sp1,sp2,rY,rZ,su]) h1,rfl⟩⟩
 ·rintro rfl
  exact ⟨⟨1,0,1,[99,104,111,115,101,110]⟩,mem _ (by simp [nZ,sp1,sp2,rY,rZ,su]) h1,rfl⟩
 ·rintro rfl
  exact ⟨⟨2,4,1,[100,101,115,99,114]⟩,mem _ (by simp [nZ,sp1,sp2,rY,rZ,su]) h1,rfl⟩
 ·rintro rfl
  exact ⟨⟨1,0,1,[101,112,111,99,104]⟩,mem _ (by simp [nZ,sp1,sp2,rY,rZ,su]) h1,rfl⟩
 ·rintro rfl
  have h2:(2:Int)<=w:=hf;exact ⟨⟨⟨1,0,2,[98,97,115,101]⟩,mem _ (by simp [nZ,sp1,sp2,rY,rZ,su]) h2,rfl⟩,⟨⟨2,0,2,[101,112,111,99,104]⟩,mem _ (by simp [nZ,sp1,sp2,rY,rZ,su]) h2,rfl⟩⟩
theorem ane {b:aB} {fl:List aF} {u w:Int} (hc:gB b fl u=0) (h1:1<=w) (h:w<=u) (hf:jm b.kind<=w):yJ (fP b { bM with kind:=b.kind } (aH b.kind w))=yJ b:=by
 have hk:(fP b { bM with kind:=b.kind } (aH b.kind w)).kind=b.kind:=CY b _ _;have hp:=(La hc h).1;obtain ⟨f1,f2,f3,f5,f6⟩:=ajD (k:=b.kind) h1 hf;have get:∀q,(∃s∈aH b.kind w,placeOf s.name=some q)->bG (fP b { bM with kind:=b.kind } (aH b.kind w)) b q:=λq hq=>by
  obtain ⟨s,hs,e⟩:=hq;exact (hp s hs q e).1
 generalize fP b { bM with kind:=b.kind } (aH b.kind w)=B at *;unfold yJ;rw [hk];by_cases c1:b.kind=1
 ·have a1:B.min=b.min:=get _ (f1 c1).1
  have a2:B.max=b.max:=get _ (f1 c1).2;rw [aj c1,aj c1,a1,a2]
 rw [ah c1,ah c1];by_cases c2:b.kind=2
 ·have a1:B.chosen=b.chosen:=get _ (f2 c2)
  rw [aj c2,aj c2,a1]
 rw [ah c2,ah c2];by_cases c3:b.kind=3
 ·have a1:B.d=b.d:=get _ (f3 c3)
  rw [aj c3,aj c3,a1]
 rw [ah c3,ah c3];by_cases c5:b.kind=5
 ·have a1:B.epoch=b.epoch:=get _ (f5 c5)
  rw [aj c5,aj c5,a1]
 rw [ah c5,ah c5];by_cases c6:b.kind=6
 ·have a1:B.base=b.base:=get _ (f6 c6).1
  have a2:B.epoch=b.epoch:=get _ (f6 c6).2;rw [aj c6,aj c6,a1,a2]
 rw [ah c6,ah c6]
/-- What is read at an elder version may be. -/
theorem adb {b:aB} {fl:List aF} {u w:Int} (hc:gB b fl u=0) (h1:1<=w) (h:w<=u) (hf:jm b.kind<=w):gB (fP b { bM with kind:=b.kind } (aH b.kind w)) (gW (aH b.kind w) (ig b fl u)) w=0:=by
 have hk:(fP b { bM with kind:=b.kind } (aH b.kind w)).kind=b.kind:=CY b _ _;obtain ⟨hp1,hp2⟩:=La hc h;have hb:=ane hc h1 h hf;obtain ⟨u1,u3,Di,hfl,hno⟩:=zU hc;obtain ⟨mp,ms⟩:=CQ (DF hc);have hbd:yJ b=0:=by
  have hc':=hc;unfold gB at hc';rw [ah (by omega),ah (by omega),ah Di] at hc';by_cases h4:gG.all (λn=>qP (aH b.kind u) n || oL b n)=false
  ·rw [aj h4] at hc';exact absurd hc' (by decide)
  rw [ah h4] at hc';by_cases h5:nV b (aH b.kind u)≠0
  ·rw [aj h5] at hc';exact absurd hc' h5
  rw [ah h5] at hc';by_cases h6:yJ b=0
  ·exact h6
  ·rw [aj h6] at hc';exact absurd hc' h6
 rw [hbd] at hb;have hne:aH b.kind w≠[]:=by
  have h0:=mt (O9 b.kind u u1 u3).2 Di;exact mt (O9 b.kind w h1 (by omega)).1 (by omega)
 have hml:nV (fP b { bM with kind:=b.kind } (aH b.kind w)) (aH b.kind w)=0:=ab8 _ _ λs hs=>by
  unfold uN;cases hq:placeOf s.name with
  | none=>rfl
  | some q=>
   obtain ⟨a1,a2⟩:=hp1 s hs q hq;simp only;rw [alQ a1,a2]
 have hall:gG.all (λn=>qP (aH b.kind w) n || oL (fP b { bM with kind:=b.kind } (aH b.kind w)) n)=true:=List.all_eq_true.2 λn hn=>by
  cases hx:qP (aH b.kind w) n with
  | true=>rfl
  | false=>
   unfold oL;cases hq:placeOf n with
   | none=>exact absurd hq (acw n hn)
   | some q=>simp only [xw];exact hp2 n q hq hx
 have hrest:Iz (aH b.kind w) (gW (aH b.kind w) (ig b fl u))=0:=by
  have hco:iJ 0 0 (gW (aH b.kind w) (ig b fl u))=0:=NJ _ 0 0 (λf hf=>by
   have hf:=(vk.1 hf).1;rcases lX.1 (mp.mem_iff.1 hf) with hf | hf
   ·exact (D5 _ 0 0 (U1 b b.kind u)).1 f hf
   ·exact (D5 _ 0 0 hfl).1 f hf) (ms.sublist Rt)
  unfold Iz;rw [ah (λx=>x hco),ah];intro e;obtain ⟨f,hf,ht⟩:=List.any_eq_true.1 e;have:=(vk.1 hf).2;rw [ht] at this;cases this
 generalize fP b { bM with kind:=b.kind } (aH b.kind w)=B at *;unfold gB;rw [hk,ah (by omega),ah (by omega),ah hne,hall,ah (by decide),ah (λx=>x hml),ah (λx=>x hb)];exact hrest
theorem WO {b:aB} {fl:List aF} {u w:Int} (hm:wJ b fl) (hc:gB b fl u=0) (h1:1<=w) (h:w<=u) (hf:jm b.kind<=w) (hl:(bytesV b fl u).length<=65536):wQ (bytesV b fl u) w=(fP b { bM with kind:=b.kind } (aH b.kind w),gW (aH b.kind w) (ig b fl u),0):=by
 obtain ⟨u1,u3,Di, -, -⟩:=zU hc;have hr:=adb hc h1 h hf;unfold bytesV at hl ⊢;rw [agI (UU Di) h1 (by omega) hf (RY hm hc) hl,aez hc h,S9 hm hc (CG b.kind w).1 (aH b.kind w) _ (λs hs=>hs)];simp only [ne_eq,not_true_eq_false,if_false];rw [ah (λx=>x hr)]
theorem alS {b c:aB} {q:Pl} (h:bG b c q):aU b q=aU c q:=by
 cases q<;>simp only [bG] at h<;>simp only [aU,h]
theorem anf {b:aB} {fl:List aF} {u w:Int} (hc:gB b fl u=0) (h:w<=u):ig (fP b { bM with kind:=b.kind } (aH b.kind w)) (gW (aH b.kind w) (ig b fl u)) w=ig b fl u:=by
 have hk:(fP b { bM with kind:=b.kind } (aH b.kind w)).kind=b.kind:=CY b _ _;have hp:=(La hc h).1;have hkv:∀ls:List bV,(∀s∈ls,s∈aH b.kind w)->iM (fP b { bM with kind:=b.kind } (aH b.kind w)) ls=iM b ls:=λls=>by
  induction ls with
  | nil=>exact λ_=>rfl
  | cons s ls ih=>
   intro hs;rw [yV,yV,ih (λx hx=>hs x (by simp [hx]))];have:tu (fP b { bM with kind:=b.kind } (aH b.kind w)) s=tu b s:=by
    unfold tu;cases hq:placeOf s.name with
    | none=>rfl
    | some q=>simp only;rw [alS (hp s (hs s (by simp)) q hq).1]
   rw [this]
 have e:ig (fP b { bM with kind:=b.kind } (aH b.kind w)) (gW (aH b.kind w) (ig b fl u)) w=qW (iM (fP b { bM with kind:=b.kind } (aH b.kind w)) (aH (fP b { bM with kind:=b.kind } (aH b.kind w)).kind w)) (gW (aH b.kind w) (ig b fl u)):=rfl;rw [e,hk,hkv _ (λs hs=>hs),akK hc h]
theorem ade {b:aB} {fl:List aF} {u w:Int} (hc:gB b fl u=0) (h1:1<=w) (h:w<=u) (hf:jm b.kind<=w):mY (fP b { bM with kind:=b.kind } (aH b.kind w)) (gW (aH b.kind w) (ig b fl u)) w=mY b fl u:=by
 have hk:(fP b { bM with kind:=b.kind } (aH b.kind w)).kind=b.kind:=CY b _ _;have hb:bytesV (fP b { bM with kind:=b.kind } (aH b.kind w)) (gW (aH b.kind w) (ig b fl u)) w=bytesV b fl u:=by
  unfold bytesV;rw [hk,anf hc h]
 unfold mY;rw [adb hc h1 h hf,hc,hb]
/-- Read at its own version a message is as it was. -/
theorem ang {b:aB} {fl:List aF} {u:Int} (hc:gB b fl u=0):fP b { bM with kind:=b.kind } (aH b.kind u)=b/\gW (aH b.kind u) (ig b fl u)=fl:=by
 have hk:(fP b { bM with kind:=b.kind } (aH b.kind u)).kind=b.kind:=CY b _ _;obtain ⟨hp1,hp2⟩:=La hc (Ja u);obtain ⟨u1,u3,Di,hfl,hno⟩:=zU hc;obtain ⟨mp,ms⟩:=CQ (DF hc);constructor
 ·refine (parts_all _ b hk).1 λn hn q hq=>?_
  cases hx:qP (aH b.kind u) n with
  | true=>
   unfold qP at hx;obtain ⟨s,hs,e⟩:=List.any_eq_true.1 hx;have e:s.name=n:=Ak e;exact (hp1 s hs q (by rw [e];exact hq)).1
  | false=>
   have hB:=hp2 n q hq hx;have hbn:dH b q=true:=by
    have hc':=hc;unfold gB at hc';rw [ah (by omega),ah (by omega),ah Di] at hc';by_cases h4:gG.all (λn=>qP (aH b.kind u) n || oL b n)=false
    ·rw [aj h4] at hc';exact absurd hc' (by decide)
    rw [Rl] at h4;have:=List.all_eq_true.1 h4 n hn;rw [hx,xw] at this;unfold oL at this;rw [hq] at this;exact this
   have z1:=Vx (k:=0) hB;have z2:=Vx (k:=0) hbn;generalize fP b { bM with kind:=b.kind } (aH b.kind u)=B at *;cases q<;>simp only [bG] at z1 z2 ⊢<;>rw [<- z1,<- z2]
 ·have hpf:=mp.filter (λf=>!hasTag (aH b.kind u) f.tag)
  rw [Yc] at hpf;have e1:fl.filter (λf=>!hasTag (aH b.kind u) f.tag)=fl:=List.filter_eq_self.2 λf hf=>by rw [hno f hf];rfl
  have e2:(iM b (aH b.kind u)).filter (λf=>!hasTag (aH b.kind u) f.tag)=[]:=aeJ.2 λf hf=>by
   obtain ⟨s,hs,p, -,rfl, -⟩:=KE hf;have:hasTag (aH b.kind u) s.tag=true:=by unfold hasTag;exact List.any_eq_true.2 ⟨s,hs,by simp⟩
   show ¬ (!hasTag (aH b.kind u) s.tag)=true
   rw [this];decide
  rw [e1,e2,cu] at hpf;exact Lm _ _ hpf ((ms.sublist Rt).imp λh=>by omega) (D5 fl 0 0 hfl).2
theorem aer (p:aF->Bool):∀l:List aF,wL (l.filter p)<=wL l
 | []=>by simp [wL]
 | f::l=>by
  have ih:=aer p l;rw [Jd];split
  ·simp only [wL];omega
  ·simp only [wL];omega
theorem adf {b:aB} {fl:List aF} {u w:Int} (hm:wJ b fl) (hs:bH fl<=1000) (hw:wL fl<=1000000) (hc:gB b fl u=0) (h:w<=u):wJ (fP b { bM with kind:=b.kind } (aH b.kind w)) (gW (aH b.kind w) (ig b fl u)):=by
 obtain ⟨hp1,hp2⟩:=La hc h;obtain ⟨mp,ms⟩:=CQ (DF hc);have ao:=RY hm hc;have hd:=S9 hm hc (CG b.kind w).1 (aH b.kind w) { bM with kind:=b.kind } (λs hs=>hs);have hmo:=Tc (aH b.kind w) (iM b (aH b.kind w)) { bM with kind:=b.kind } (UY hm.msg hm.short _ _) (XQ b.kind hm.msg.body.kind);rw [hd] at hmo;have hsz:bH (ig b fl u)<=2000:=by
  have e:bH (ig b fl u)=bH (iM b (aH b.kind u)++fl):=adT mp;rw [e,Xu];have:=UZ b (aH b.kind u);have:=yX b.kind u;omega
 have UD:wL (ig b fl u)<=1000000000:=by
  have e:wL (ig b fl u)=wL (iM b (aH b.kind u)++fl):=aes mp;rw [e,XJ];have h1:=U0 hm.msg hm.short (aH b.kind u);have h2:=yX b.kind u;have:100000040 * (aH b.kind u).length<=100000040 * 8:=MC _ h2;omega
 have sh:∀n q,placeOf n=some q->bG (fP b { bM with kind:=b.kind } (aH b.kind w)) b q\/dH (fP b { bM with kind:=b.kind } (aH b.kind w)) q=true:=λn q hq=>by
  cases hx:qP (aH b.kind w) n with
  | true=>
   unfold qP at hx;obtain ⟨s,hs,e⟩:=List.any_eq_true.1 hx;have e:s.name=n:=Ak e;exact .inl (hp1 s hs q (by rw [e];exact hq)).1
  | false=>exact .inr (hp2 n q hq hx)
 have s1:=sh kH .name CU;have s2:=sh kK .region CW;have s3:=sh kJ .note CV;obtain ⟨w1,w2,w3⟩:=hm.short;generalize fP b { bM with kind:=b.kind } (aH b.kind w)=B at *;refine ⟨⟨hmo.body,hmo.d,hmo.t,J3 _ ao.ok,iR (Rw _ _) ao.len⟩,⟨?_, ?_, ?_⟩, ?_, ?_⟩
 ·rcases s1 with s | s
  ·have s:B.name=b.name:=s
   rw [s];exact w1
  ·simp only [dH,decide_eq_true_iff] at s;rw [s];simp
 ·rcases s2 with s | s
  ·have s:B.region=b.region:=s
   rw [s];exact w2
  ·simp only [dH,decide_eq_true_iff] at s;rw [s];simp
 ·rcases s3 with s | s
  ·have s:B.note=b.note:=s
   rw [s];exact w3
  ·simp only [dH,decide_eq_true_iff] at s;rw [s];simp
 ·have:=QK (λf=>!hasTag (aH b.kind w) f.tag) (ig b fl u)
  unfold gW;omega
 ·have:=aer (λf=>!hasTag (aH b.kind w) f.tag) (ig b fl u)
  unfold gW;omega
/-- Written at a version, and read at another one. -/
def qN (b:aB) (fl:List aF) (x y:Int):aB×List aF×Int:=if (mY b fl x).2=0 then wQ (mY b fl x).1 y else (bM,[],(mY b fl x).2)
theorem YD {b:aB} {fl:List aF} (hm:wJ b fl) (x y:Int):TT.lim 21 [eY b (aC fl),.i .i64 x,.i .i64 y]=some [eY (qN b fl x y).1 (aC (qN b fl x y).2.1),.i .i64 (qN b fl x y).2.2]:=by
 have k1:=alU hm x;have hle:(mY b fl x).1.length<=65536:=by
  unfold mY;split
  ·split
   ·simp
   ·simp only;omega
  ·simp
 have k2:=decode_ok (mY b fl x).1 y (by omega);have fn:aC []=[]:=by simp only [aC]
 have hz:GV.g [.i .i64 0,.i .u64 0,.i .u64 0,.i .u64 0,.i .u64 0,.i .u64 0,.i .u64 0,.i .u64 0,.i .u64 0,.i .u64 0,.i .u64 0,.i .u64 0,.i .u64 0,.i .u64 0,.i .u64 0,.i .u64 0,.i .i64 0,.b false,.s [],.s [],.s [],.l [],.l [],.l []]=eY bM []:=rfl;unfold qN;generalize mY b fl x=E at *;generalize aC fl=r at *;by_cases c:E.2=0
 ·rw [aj c]
  rw [c] at k1;generalize wQ E.1 y=D at *;generalize aC D.2.1=r2 at *;refine aY rfl rfl ?_ rfl;simp -implicitDefEqProofs (maxSteps:=10000000) [↓wS,kG,k1,k2]
 ·rw [ah c]
  simp only;rw [fn,<- hz];refine aY rfl rfl ?_ rfl;simp -implicitDefEqProofs (maxSteps:=10000000) [↓wS,kG,k1,c]
theorem Px {b:aB} {fl:List aF} (hm:wJ b fl) (x y:Int) (h:y<=x):TT.lim 20 [eY b (aC fl),.i .i64 x,.i .i64 y]=some [eY (qN b fl x y).1 (aC (qN b fl x y).2.1),.i .i64 (qN b fl x y).2.2]:=by
 have k:=YD hm x y;have h':¬ x < y:=by omega
 generalize qN b fl x y=A at *;generalize aC fl=r at *;generalize aC A.2.1=r2 at *;refine aY rfl rfl ?_ rfl;simp -implicitDefEqProofs (maxSteps:=10000000) [↓wS,kG,h',k]
theorem abH {b:aB} {fl:List aF} (hm:wJ b fl) (x y:Int) (h:x<=y):TT.lim 127 [eY b (aC fl),.i .i64 x,.i .i64 y]=some [eY (qN b fl x y).1 (aC (qN b fl x y).2.1),.i .i64 (qN b fl x y).2.2]:=by
 have k:=YD hm x y;have h':¬ y < x:=by omega
 generalize qN b fl x y=A at *;generalize aC fl=r at *;generalize aC A.2.1=r2 at *;refine aY rfl rfl ?_ rfl;simp -implicitDefEqProofs (maxSteps:=10000000) [↓wS,kG,h',k]
theorem agJ {b:aB} {fl:List aF} {u w:Int} (hc:gB b fl u=0) (h1:1<=w) (h:w<=u) (hf:w < jm b.kind) (hl:(bytesV b fl u).length<=65536):wQ (bytesV b fl u) w=(bM,[],15):=by
 obtain ⟨u1,u3,Di, -, -⟩:=zU hc;have hk:=UU Di;unfold bytesV at hl ⊢;have hlf:(bJ (ig b fl u)).length<=65536:=by rw [dQ] at hl;omega
 have hv:=IW b.kind.toNat (bJ (ig b fl u)) (by omega);have hkk:((b.kind.toNat:Nat):Int)=b.kind:=by omega
 unfold wQ;rw [ah (by omega),ah (by omega),ah (by omega),hv];simp only [ne_eq,not_true_eq_false,if_false,hkk,qH];rw [ah (by omega)];by_cases c:jm b.kind=0
 ·rw [aj c]
 ·rw [ah c,aj hf]
theorem ahN (k:Int):jm k<=2:=by
 unfold jm;repeat' split
 all_goals decide
theorem agT {b:aB} {fl:List aF} {u:Int} (h:(mY b fl u).2=0):gB b fl u=0/\(bytesV b fl u).length<=65536/\mY b fl u=(bytesV b fl u,0):=by
 unfold mY at h ⊢;by_cases c:gB b fl u=0
 ·rw [aj c] at h ⊢
  by_cases c2:65536 < (bytesV b fl u).length
  ·rw [aj c2] at h;exact absurd h (by simp)
  ·rw [ah c2]
   exact ⟨c,by omega,rfl⟩
 ·rw [ah c] at h
  exact absurd h c
theorem Nj {b:aB} {fl:List aF} {x:Int} (h:(mY b fl x).2=0) (y:Int):qN b fl x y=wQ (mY b fl x).1 y:=by
 unfold qN;rw [aj h]
theorem aeY {b:aB} {fl:List aF} {x:Int} (h:(mY b fl x).2≠0) (y:Int):qN b fl x y=(bM,[],(mY b fl x).2):=by
 unfold qN;rw [ah h]
theorem arD:wJ bM []:=⟨LV,by simp [Short,bM],by simp [bH],by simp [wL]⟩
theorem crossSteps (gs:List GV) (h:hasArgs [(true,ac9)] gs):TT.lim 1 gs=some [.b true]:=by
 obtain ⟨c1,gs,rfl,h1,h⟩:=aiA h;obtain rfl:=aiB h;obtain ⟨b,l,hb,hl,e⟩:=am2 h1;rw [e];have hf:=ahx b l hb hl;clear h1 h e;cases hfw:G5 b l with
 | false=>
  rw [hfw] at hf;refine aY rfl rfl ?_ rfl;simp [kG,hf]
 | true=>
 rw [hfw] at hf;obtain ⟨mo,msz,f8⟩:=am3 hb hl hfw;have h60:l.length<=60:=by
  unfold uD at f8;rw [aI,decide_eq_true_iff] at f8;exact f8.2
 have hsz:=ab2 l;have hw8:=akb l f8;have hsh:Short b:=by
  unfold G5 at hfw;simp only [aI,decide_eq_true_iff] at hfw;exact ⟨hfw.1,hfw.2.1,hfw.2.2.1⟩
 have wo:wJ b (tC l):=⟨mo,hsh,by omega,by omega⟩
 have hm:=aj7 b l hl f8;generalize tC l=fl at *;have k1:=Px wo 3 2 (by decide);have k2:=Px wo 3 1 (by decide);clear hb hl hfw;by_cases ce:(mY b fl 3).2=0;rotate_left
 ·have k3:=Px arD 2 1 (by decide)
  rw [aeY ce] at k1 k2;generalize qN bM [] 2 1=A at *;generalize (mY b fl 3).2=E at *;generalize aC A.2.1=r3 at *;generalize aC fl=r1 at *;refine aY rfl rfl ?_ rfl;simp -implicitDefEqProofs (maxSteps:=10000000) [↓wS,kG,hf,hm,k1,k2,k3,ce]
 obtain ⟨hc,hlen,hen⟩:=agT ce;rw [Nj ce,hen] at k1 k2;have f2:=ahN b.kind;have d3:=WO wo hc (w:=3) (by decide) (by decide) (by omega) hlen;have d2:=WO wo hc (w:=2) (by decide) (by decide) f2 hlen;have e2:=ade hc (w:=2) (by decide) (by decide) f2;have Q8:=adf (w:=2) wo (by omega) (by omega) hc (by decide);have s3:=ang hc;rw [s3.1,s3.2] at d3;generalize fP b { bM with kind:=b.kind } (aH b.kind 2)=B2 at *;generalize gW (aH b.kind 2) (ig b fl 3)=L2 at *;have k3:=Px Q8 2 1 (by decide);rw [Nj (by rw [e2];exact ce),e2,hen] at k3;by_cases f1:jm b.kind<=1;rotate_left
 ·have d1:=agJ hc (w:=1) (by decide) (by decide) (by omega) hlen
  simp only [d1,d2] at k1 k2 k3;generalize aC fl=r1 at *;generalize aC L2=r2 at *;generalize aC []=r0 at *;refine aY rfl rfl ?_ rfl;simp -implicitDefEqProofs (maxSteps:=10000000) [↓wS,kG,hf,hm,k1,k2,k3]
 have d1:=WO wo hc (w:=1) (by decide) (by decide) f1 hlen;have e1:=ade hc (w:=1) (by decide) (by decide) f1;have XO:=adf (w:=1) wo (by omega) (by omega) hc (by decide);generalize fP b { bM with kind:=b.kind } (aH b.kind 1)=B1 at *;generalize gW (aH b.kind 1) (ig b fl 3)=L1 at *;have k4:=abH XO 1 2 (by decide);have k5:=abH Q8 2 3 (by decide);rw [Nj (by rw [e1];exact ce),e1,hen] at k4;rw [Nj (by rw [e2];exact ce),e2,hen] at k5;simp only [d1,d2,d3] at k1 k2 k3 k4 k5;have m1:=XO.msg.Vp (iR XO.sz (by decide));have m2:=Q8.msg.Vp (iR Q8.sz (by decide));have m3:=wo.msg.Vp (iR wo.sz (by decide));generalize aC fl=r1 at *;generalize aC L2=r2 at *;generalize aC L1=r3 at *;refine aY rfl rfl ?_ rfl;simp -implicitDefEqProofs (maxSteps:=10000000) [↓wS,kG,hf,hm,k1,k2,k3,k4,k5,m1,m2,m3]
end K
end Go.Proofs.YthgifdbaegpbpaaGreatDoor
