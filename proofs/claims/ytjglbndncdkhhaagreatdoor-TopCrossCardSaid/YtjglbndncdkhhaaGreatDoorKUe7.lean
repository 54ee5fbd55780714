/- What the trees compute: plain laws. -/
import Derived.Test.YtjglbndncdkhhaaGreatDoorKUe6
namespace Go.Proofs.YtjglbndncdkhhaaGreatDoor
open Go Go.aN
set_option linter.unusedSimpArgs false
set_option linter.unusedVariables false
set_option maxRecDepth 100000
namespace U
theorem Ii (n:Nat) (x:List UInt8) (hn:n < 18446744073709551616):au (aS n++x)=(n,(aS n).length,0):=ES n x hn
theorem apN (n:Nat):1<=(aS n).length:=yV n
theorem Xj:∀ (N:Nat) (L:List aC) (w ahead:Nat),bY L->oP L->wL L<=1000000000000->iM w (ahead:Int) L=0->w<=8->(bK L).length < N->dA N w ahead (bK L)=(L,0)
 | 0,L,w,ahead,_,_,_,_,_,h=>by omega
 | N+1,[],w,ahead,_,_,_,_,_,_=>by
   unfold dA;rw [aj (by simp only [bK])]
 | N+1,.mk t y n s k::L,w,ahead,hok,hty,hw,hc,h8,hl=>by
   have hwl:=hw;simp only [wL,wF] at hw;have hkl:=Gn (bH k+1) k (by omega) (by simp only [bY,nX] at hok;exact hok.1.2) (by simp only [oP,Cm] at hty;exact hty.1.2.2) (by omega);obtain ⟨t1,t2,y1,y2,y3,tk⟩:=Uf (Lu hty (.mk t y n s k) (by simp));simp only [bY,nX] at hok;have O0:=Lu hty (.mk t y n s k) (by simp);simp only [Cm] at O0;have ajv:oP L:=by simp only [oP] at hty;exact hty.2
   -- the checks
   unfold iM at hc;by_cases h1:(aC.mk t y n s k).tag=0
   ·rw [aj h1] at hc;exact absurd hc (by decide)
   rw [ah h1] at hc;by_cases h2:4294967296 < (aC.mk t y n s k).tag
   ·rw [aj h2] at hc;exact absurd hc (by decide)
   rw [ah h2] at hc;by_cases h3:(aC.mk t y n s k).tag<=(ahead:Int)
   ·rw [aj h3] at hc;exact absurd hc (by decide)
   rw [ah h3] at hc;by_cases h4:vP w (.mk t y n s k)=0;rotate_left
   ·rw [aj h4] at hc;exact absurd hc h4
   rw [ah (λe=>e h4)] at hc;have h3:¬ t<=(ahead:Int):=h3;have hc:iM w t L=0:=hc;clear h1 h2;have hT:((t.toNat:Nat):Int)=t:=by omega
   have hN:(4 * t+y).toNat=4 * t.toNat+y.toNat:=by omega
   have hv1:∀x,au (aS (4 * t+y).toNat++x)=((4 * t+y).toNat,(aS (4 * t+y).toNat).length,0):=λx=>Ii _ x (by omega);have hd4:(4 * t+y).toNat / 4=t.toNat:=by omega
   have hm4:(4 * t+y).toNat % 4=y.toNat:=by omega
   have ih:=Xj N L w t.toNat hok.2 ajv (by omega) (by rw [hT];exact hc) h8;simp only [bK,Jy] at hl ⊢;simp only [dH] at hl;have p1:=apN (4 * t+y).toNat;have hne:¬ (aS (4 * t+y).toNat++(if y=0 then aS n.toNat else if y=1 then aS s.length++s else aS (bK k).length++bK k)++bK L=[]):=by
    intro e;have:=rC List.length e;simp only [dH,qQ] at this;omega
   unfold dA;rw [ah hne]
   -- one field
   have one:iD (λt=>dA N (w+1) 0 t) w ahead (aS (4 * t+y).toNat++(if y=0 then aS n.toNat else if y=1 then aS s.length++s else aS (bK k).length++bK k)++bK L)=(.mk t y n s k,(aS (4 * t+y).toNat).length+(if y=0 then aS n.toNat else if y=1 then aS s.length++s else aS (bK k).length++bK k).length,0):=by
    unfold iD;rw [List.append_assoc,hv1];simp only [ne_eq,not_true_eq_false,if_false,hd4,hm4,oZ];rw [ah (by omega),ah (by omega),ah (by omega),ah (by omega)];rcases y3 with hy | hy | hy
    ·subst hy
     have e:=O0.2.1;obtain ⟨e1,e2⟩:s=[]/\k=[]:=by
      rcases e with e | e | e
      ·exact e.2
      ·exact absurd e.1 (by decide)
      ·exact absurd e.1 (by decide)
     subst e1;subst e2;simp only [if_true];rw [Ii _ _ (by omega)];simp only [not_true_eq_false,if_false,Int.toNat_zero,if_true];rw [hT,show ((n.toNat:Nat):Int)=n by omega]
    ·subst hy
     have e:=O0.2.1;obtain ⟨e1,e2⟩:n=0/\k=[]:=by
      rcases e with e | e | e
      ·exact absurd e.1 (by decide)
      ·exact e.2
      ·exact absurd e.1 (by decide)
     subst e1;subst e2;simp only [show ((1:Int)=0)=False from by simp,show ((1:Int)=1)=True from by simp,if_false,if_true];rw [List.append_assoc,Ii _ _ (by omega)];simp only [not_true_eq_false,if_false];rw [ah (show ¬ Int.toNat 1=0 by decide),ah (by simp only [dH];omega),aj (show Int.toNat 1=1 by decide)];rw [<- nS,oZ,oZ,RJ];rw [hT];simp only [dH,iR]
    ·subst hy
     have e:=O0.2.1;obtain ⟨e1,e2⟩:n=0/\s=[]:=by
      rcases e with e | e | e
      ·exact absurd e.1 (by decide)
      ·exact absurd e.1 (by decide)
      ·exact e.2
     subst e1;subst e2;have h5:¬ 8<=w/\iM (w+1) 0 k=0:=by
      unfold vP at h4;rw [ah (by decide),ah (by decide),aj rfl,aj ⟨rfl,rfl⟩] at h4;by_cases c:8<=w
      ·rw [aj c] at h4;exact absurd h4 (by decide)
      ·rw [ah c] at h4;exact ⟨c,h4⟩
     have ik:=Xj N k (w+1) 0 hok.1.2 tk (by omega) h5.2 (by omega) (by
      simp only [ah (show ¬ (2:Int)=0 by decide),ah (show ¬ (2:Int)=1 by decide),dH] at hl;omega)
     simp only [show ((2:Int)=0)=False from by simp,show ((2:Int)=1)=False from by simp,if_false];rw [List.append_assoc,Ii _ _ (by omega)];simp only [not_true_eq_false,if_false];rw [ah (show ¬ Int.toNat 2=0 by decide),ah (by simp only [dH];omega),ah (show ¬ Int.toNat 2=1 by decide),ah h5.1];rw [<- nS,oZ,oZ,RJ];rw [ik];simp only [not_true_eq_false,if_false];rw [hT];simp only [dH,iR]
   rw [one];simp only [ne_eq,not_true_eq_false,if_false];rw [List.append_assoc,hv1];simp only [hd4];have hdrop:∀A B C:List UInt8,(A++(B++C)).drop (A.length+B.length)=C:=λA B C=>by rw [<- nS,oZ,oZ]
   rw [hdrop,ih (by omega)];simp
theorem aiN {L:List aC} (h:Ro L) (hl:(bK L).length<=65536):tq (bK L)=(L,0):=by
 unfold tq;rw [ah (by omega)];exact Xj ((bK L).length+1) L 0 0 h.ok (NQ (bH L+1) L (by omega) h.ok 0 0 h.chk (by omega)) h.w h.chk (by omega) (by omega)
theorem ahq {k w:Int} (hk:1<=k/\k<=8) (h1:1<=w) (h3:w<=3) (hf:iV k<=w) {L:List aC} (h:Ro L) (hl:(aS k.toNat++bK L).length<=65536) :
 zF (aS k.toNat++bK L) w=(if (nU (aB k w) { bM with kind:=k } (jI (aB k w) L)).2≠0 then (bM,[],(nU (aB k w) { bM with kind:=k } (jI (aB k w) L)).2) else
  if eY (nU (aB k w) { bM with kind:=k } (jI (aB k w) L)).1 (fH (aB k w) L) w≠0 then (bM,[],eY (nU (aB k w) { bM with kind:=k } (jI (aB k w) L)).1 (fH (aB k w) L) w) else ((nU (aB k w) { bM with kind:=k } (jI (aB k w) L)).1,fH (aB k w) L,0)):=by
 have hlf:(bK L).length<=65536:=by rw [dH] at hl;omega
 have hv:=Ii k.toNat (bK L) (by omega);have hkk:((k.toNat:Nat):Int)=k:=by omega
 have hf0:iV k≠0:=by
  unfold iV;obtain ⟨a,b⟩:=hk;rcases (show k=1\/k=2\/k=3\/k=4\/k=5\/k=6\/k=7\/k=8 by omega) with rfl | rfl | rfl | rfl | rfl | rfl | rfl | rfl<;>decide
 have hg:=aiN h hlf;unfold zF;rw [ah (by omega),ah (by omega),ah (by omega),hv];simp only [ne_eq,not_true_eq_false,if_false,hkk,oZ];rw [ah (by omega),ah hf0,ah (by omega),hg];simp only [not_true_eq_false,if_false]
/-- The parts for a message that some names tell, put into another one. -/
def fJ (b c:aJ):List bJ->aJ
 | []=>c
 | s::l=>match placeOf s.name with
   | some p=>if (aK b p).1=0/\(aK b p).2=[] then fJ b c l else fJ b (uX b c p) l
   | none=>fJ b c l
theorem Oy (s:bJ):∀l:List bJ,l.Pairwise (λa b=>a.tag < b.tag)->s∈l->l.find? (λx=>decide (x.tag=s.tag))=some s
 | [],_,h=>by cases h
 | a::l,hl,h=>by
   rw [qR] at hl;rw [List.find?_cons];rcases bU.1 h with e | h
   ·subst e;simp
   ·have:=hl.1 s h
    rw [DK (show ¬ a.tag=s.tag by omega)];simp only;exact Oy s l hl.2 h
theorem TB {b:aJ} {fl:List aC} {u:Int} (hm:wO b fl) (hc:eY b fl u=0) {l:List bJ} (hl:l.Pairwise (λa b=>a.tag < b.tag)):∀ (ls:List bJ) (c:aJ),(∀s∈ls,s∈l)->nU l c (gu b ls)=(fJ b c ls,0)
 | [],c,_=>rfl
 | s::ls,c,hs=>by
   have ih:=λc=>TB hm hc hl ls c (λx hx=>hs x (by simp [hx]));rw [yD];unfold fJ rH;cases hp:placeOf s.name with
   | none=>
     simp only [bV];exact ih c
   | some p=>
     simp only;by_cases hz:(aK b p).1=0/\(aK b p).2=[]
     ·rw [aj hz,aj hz]
      simp only [bV];exact ih c
     ·rw [ah hz,ah hz]
      simp only [dV,bV];have hmay:=af6 hc hp hz;obtain ⟨g1, -, -,g4⟩:=aot hm.msg hm.short p hmay hz;have hfind:=Oy s l hl (hs s (by simp));unfold nU;have e1:aC.tag (.mk s.tag (bF p) (aK b p).1 (aK b p).2 [])=s.tag:=rfl;have e2:aC.typ (.mk s.tag (bF p) (aK b p).1 (aK b p).2 [])=bF p:=rfl;have e3:aC.num (.mk s.tag (bF p) (aK b p).1 (aK b p).2 [])=(aK b p).1:=rfl;have e4:aC.txt (.mk s.tag (bF p) (aK b p).1 (aK b p).2 [])=(aK b p).2:=rfl;rw [e1,hfind,e2,e3,e4];simp only [hp];rw [aj g1,g4];exact ih _
theorem D9 (k:Int) {w u:Int} (h:w<=u):aB k w=(aB k u).filter (λs=>decide (s.from_<=w)):=by
 unfold aB;rw [List.filter_filter];congr 1;funext s;by_cases h1:s.from_<=w
 ·have:s.from_<=u:=by omega
  simp [h1,this]
 ·simp [h1]
theorem abh {l:List bJ} (hl:l.Pairwise (λa b=>a.tag < b.tag)) (q:bJ->Bool) {s:bJ} (hs:s∈l):hasTag (l.filter q) s.tag=q s:=by
 cases hq:q s with
 | true=>
   unfold hasTag;exact List.any_eq_true.2 ⟨s,lY.2 ⟨hs,hq⟩,by simp⟩
 | false=>
   cases ht:hasTag (l.filter q) s.tag with
   | false=>rfl
   | true=>
     unfold hasTag at ht;obtain ⟨x,hx,e⟩:=List.any_eq_true.1 ht;have e:s.tag=x.tag:=yG e;obtain ⟨hx1,hx2⟩:=lY.1 hx;have f1:=Oy s l hl hs;have f2:=Oy x l hl hx1;rw [<- e,f1] at f2;injection f2 with f2
     rw [<- f2,hq] at hx2;cases hx2
theorem Va (b:aJ) (P:Int->Bool) (q:bJ->Bool):∀ls:List bJ,(∀s∈ls,P s.tag=q s)->(gu b ls).filter (λf=>P f.tag)=gu b (ls.filter q)
 | [],_=>rfl
 | s::ls,h=>by
   have ih:=Va b P q ls (λx hx=>h x (by simp [hx]));have hs:=h s (by simp);rw [yD,Ry,ih,CU];cases hk:rH b s with
   | none=>
     have hk0:∀z,gu b (s::z)=gu b z:=λz=>by rw [yD,hk];rfl
     cases hq:q s with
     | true=>simp [hk0]
     | false=>simp
   | some f=>
     obtain ⟨p, -,rfl, -⟩:=JW hk;have ht:P (aC.mk s.tag (bF p) (aK b p).1 (aK b p).2 []).tag=q s:=hs;cases hq:q s with
     | true=>
       rw [hq] at ht;simp only [CU,ht,if_true,Rz];rw [yD,hk]
     | false=>
       rw [hq] at ht;simp [CU,ht]
theorem adK {b:aJ} {fl:List aC} {u w:Int} (hc:eY b fl u=0) (h:w<=u):∀f∈fl,hasTag (aB b.kind w) f.tag=false:=λf hf=>by
 have h1:=(yh hc).2.2.2.2 f hf;cases ht:hasTag (aB b.kind w) f.tag with
 | false=>rfl
 | true=>
   rw [D9 b.kind h] at ht;unfold hasTag at ht h1;obtain ⟨x,hx,e⟩:=List.any_eq_true.1 ht;have:(aB b.kind u).any (λs=>decide (f.tag=s.tag))=true:=List.any_eq_true.2 ⟨x,(lY.1 hx).1,e⟩;rw [this] at h1;exact h1
theorem ae0 {b:aJ} {fl:List aC} {u w:Int} (hc:eY b fl u=0) (h:w<=u):jI (aB b.kind w) (fE b fl u)=gu b (aB b.kind w):=by
 obtain ⟨mp,ms⟩:=zY (A8 hc);have hp:=mp.filter (λf=>hasTag (aB b.kind w) f.tag);rw [Ry] at hp;have e1:fl.filter (λf=>hasTag (aB b.kind w) f.tag)=[]:=afa.2 λf hf=>by rw [adK hc h f hf];decide
 have e2:=Va b (hasTag (aB b.kind w)) (λs=>decide (s.from_<=w)) (aB b.kind u) (λs hs=>by
  rw [D9 b.kind h];exact abh (zV b.kind u).1 _ hs)
 rw [<- D9 b.kind h] at e2;rw [e1,e2,kK] at hp;refine H9 _ _ hp ?_ (Ph b _ (zV b.kind w).1);exact (ms.sublist Me).imp λh=>by omega
/-- The known fields, and all others, are the whole list again. -/
theorem acI {b:aJ} {fl:List aC} {u w:Int} (hc:eY b fl u=0) (h:w<=u):oL (gu b (aB b.kind w)) (fH (aB b.kind w) (fE b fl u))=fE b fl u:=by
 obtain ⟨mp,ms⟩:=zY (A8 hc);have hw:=ae0 hc h;have hp:(gu b (aB b.kind w)++fH (aB b.kind w) (fE b fl u)).Perm (fE b fl u):=by
  rw [<- hw];exact List.filter_append_perm _ _
 have nd:((fE b fl u).map aC.tag).Nodup:=by
  unfold List.Nodup;rw [List.pairwise_map];exact ms.imp λh e=>by omega
 have hn:=((hp.map aC.tag).nodup_iff).2 nd;obtain ⟨m1,m2⟩:=zY hn;exact H9 _ _ (m1.trans hp) (m2.imp λh=>by omega) ms
theorem adq (b c:aJ) (p:Pl):fD (uX b c p) b p:=by
 cases p with
 | num k=>rcases k with _ | _ | _ | _ | _ | _ | _ | _ | _ | _ | _ | _ | _ | _ | k<;>rfl
 | _=>rfl
theorem Xd (b c d:aJ) (p q:Pl) (hp:nJ p) (hq:nJ q) (hne:q≠p):fD (uX b c p) d q↔fD c d q:=by
 cases p with
 | num k=>
   cases q with
   | num j=>
     show jG (uX b c (.num k)) j=jG d j↔jG c j=jG d j
     rw [amu b c j k hp hq (λe=>hne (by rw [e]))]
   | _=>unfold uX;split<;>rename_i hk<;>cases hk<;>(split<;>exact zh)
 | _=>
   cases q with
   | num j=>exact zh
   | _=>first | exact zh | exact absurd rfl hne
theorem val_zero {b:aJ} (q:Pl) (hm:jo b q=0) (h:(aK b q).1=0/\(aK b q).2=[]):fB b q=true:=by
 have kn:∀d:List dw,iC d≠[]:=λd e=>by
  have:=rC List.length e;unfold iC at this;have h2:=yV d.length;unfold gy at h2;simp only [dH,qQ] at this;omega
 cases q with
 | rem=>
   simp only [aK] at h;simp only [fB,decide_eq_true_iff];have:=h.1;unfold zz at this;split at this<;>omega
 | allow=>
   simp only [aK] at h;simp only [fB];cases ha:b.allowed with
   | false=>rfl
   | true=>rw [ha] at h;simp at h
 | name=>simp only [aK] at h;simp only [fB,decide_eq_true_iff];exact h.2
 | region=>simp only [aK] at h;simp only [fB,decide_eq_true_iff];exact h.2
 | note=>simp only [aK] at h;simp only [fB,decide_eq_true_iff];exact h.2
 | d=>
   simp only [aK] at h;simp only [fB,decide_eq_true_iff];by_cases c:b.d=[]
   ·exact c
   ·rw [ah c] at h;exact absurd h.2 (kn _)
 | t=>
   simp only [aK] at h;simp only [jo] at hm;simp only [fB,decide_eq_true_iff];by_cases c:b.t=[]
   ·exact c
   ·rw [ah c] at h
    have hk:vX b.t=(lG b.t,0):=by unfold vX;rw [ah (λx=>x hm)]
    rw [hk] at h;have:=rC List.length h.2;unfold lG at this;have h2:=yV b.t.length;unfold gy at h2;simp only [dH,qQ] at this;omega
 | num k=>simp only [aK] at h;simp only [fB,decide_eq_true_iff];exact h.1
/-- A part that some name tells is put, where it is something, or was nothing. -/
theorem Qj {b:aJ} {q:Pl} (hq:nJ q) (hmay:jo b q=0):∀ (ls:List bJ) (c:aJ),(∃s∈ls,placeOf s.name=some q)->(fB b q=true->fD c b q)->fD (fJ b c ls) b q
 | [],c,h,_=>by obtain ⟨s,hs, -⟩:=h;cases hs
 | s::ls,c,h,hc=>by
   have keep:∀ (ls:List bJ) (c:aJ),fD c b q->fD (fJ b c ls) b q:=λls=>by
    induction ls with
    | nil=>exact λc h=>h
    | cons s ls ih=>
      intro c h;unfold fJ;cases hp:placeOf s.name with
      | none=>exact ih c h
      | some p=>
        simp only;split
        ·exact ih c h
        ·refine ih _ ?_
         by_cases e:q=p
         ·rw [e];exact adq b c p
         ·exact (Xd b c b p q (mJ s.name p hp).2.1 hq e).2 h
   unfold fJ;cases hp:placeOf s.name with
   | none=>
     refine Qj hq hmay ls c ?_ hc;obtain ⟨x,hx,e⟩:=h;rcases bU.1 hx with rfl | hx
     ·rw [hp] at e;cases e
     ·exact ⟨x,hx,e⟩
   | some p=>
     simp only;by_cases e:q=p
     ·subst e
      split
      ·rename_i hz
       exact keep ls c (hc (val_zero q hmay hz))
      ·exact keep ls _ (adq b c q)
     ·have h':∃s∈ls,placeOf s.name=some q:=by
       obtain ⟨x,hx,ex⟩:=h;rcases bU.1 hx with rfl | hx
       ·rw [hp] at ex;injection ex with ex;exact absurd ex.symm e
       ·exact ⟨x,hx,ex⟩
      split
      ·exact Qj hq hmay ls c h' hc
      ·exact Qj hq hmay ls _ h' λhn=>(Xd b c b p q (mJ s.name p hp).2.1 hq e).2 (hc hn)
/-- A part that no name tells stays. -/
theorem ado {b d:aJ} {q:Pl} (hq:nJ q):∀ (ls:List bJ) (c:aJ),(∀s∈ls,placeOf s.name≠some q)->(fD (fJ b c ls) d q↔fD c d q)
 | [],c,_=>zh
 | s::ls,c,h=>by
   have ih:=λc=>ado (b:=b) (d:=d) hq ls c (λx hx=>h x (by simp [hx]));unfold fJ;cases hp:placeOf s.name with
   | none=>exact ih c
   | some p=>
     have e:q≠p:=λe=>h s (by simp) (by rw [hp,e]);simp only;split
     ·exact ih c
     ·exact (ih _).trans (Xd b c d p q (mJ s.name p hp).2.1 hq e)
theorem yL (b:aJ):∀ (ls:List bJ) (c:aJ),(fJ b c ls).kind=c.kind
 | [],c=>rfl
 | s::ls,c=>by
   unfold fJ;cases placeOf s.name with
   | none=>exact yL b ls c
   | some p=>
     simp only;split
     ·exact yL b ls c
     ·rw [yL b ls,ams]
theorem VE (b:aJ):∀ (l:List bJ),(∀s∈l,tX b s.name=0)->lD b l=0
 | [],_=>rfl
 | x::l,h=>by
   unfold lD;rw [aj (h x (by simp))];exact VE b l λs hs=>h s (by simp [hs])
theorem Wn {b c:aJ} {q:Pl} (h:fD b c q):jo b q=jo c q:=by
 cases q<;>simp only [fD] at h<;>simp only [jo,h]
theorem VQ {b:aJ} {k:Int} {q:Pl} (h:fB b q=true):fD { bM with kind:=k } b q:=by
 cases q with
 | num j=>
   simp only [fB,decide_eq_true_iff] at h;show jG { bM with kind:=k } j=jG b j
   rw [h];unfold jG bM;split<;>rfl
 | allow=>simp only [fB,uz] at h;show false=b.allowed;rw [h]
 | rem=>simp only [fB,decide_eq_true_iff] at h;show (0:Int)=b.remaining;rw [h]
 | name=>simp only [fB,decide_eq_true_iff] at h;show ([]:List UInt8)=b.name;rw [h]
 | region=>simp only [fB,decide_eq_true_iff] at h;show ([]:List UInt8)=b.region;rw [h]
 | note=>simp only [fB,decide_eq_true_iff] at h;show ([]:List UInt8)=b.note;rw [h]
 | d=>simp only [fB,decide_eq_true_iff] at h;show ([]:List dw)=b.d;rw [h]
 | t=>simp only [fB,decide_eq_true_iff] at h;show ([]:List Row)=b.t;rw [h]
theorem ap7 {b:aJ} {k:Int} {q:Pl} (h:fD b { bM with kind:=k } q):fB b q=true:=by
 cases q with
 | num j=>
   have h:jG b j=jG { bM with kind:=k } j:=h;simp only [fB,decide_eq_true_iff];rw [h];unfold jG bM;split<;>rfl
 | allow=>have h:b.allowed=false:=h;simp [fB,h]
 | rem=>have h:b.remaining=0:=h;simp [fB,h]
 | name=>have h:b.name=[]:=h;simp [fB,h]
 | region=>have h:b.region=[]:=h;simp [fB,h]
 | note=>have h:b.note=[]:=h;simp [fB,h]
 | d=>have h:b.d=[]:=h;simp [fB,h]
 | t=>have h:b.t=[]:=h;simp [fB,h]
theorem Qa (b:aJ) (q:Pl):fD b b q:=by cases q<;>simp [fD]
/-- What is read at a version, part by part: a known one is as it was, all others are nothing. -/
theorem Hz {b:aJ} {fl:List aC} {u w:Int} (hc:eY b fl u=0) (h:w<=u):(∀s∈aB b.kind w,∀q,placeOf s.name=some q->fD (fJ b { bM with kind:=b.kind } (aB b.kind w)) b q/\jo b q=0)/\
 (∀n q,placeOf n=some q->jA (aB b.kind w) n=false->fB (fJ b { bM with kind:=b.kind } (aB b.kind w)) q=true):=by
 have hmay:∀s∈aB b.kind w,tX b s.name=0:=λs hs=>by
  have hc':=hc;unfold eY at hc';split at hc'; · cases hc'
  split at hc'; · cases hc'
  split at hc'; · cases hc'
  split at hc'; · cases hc'
  split at hc'
  ·rename_i hm;exact absurd hc' hm
  rename_i hm
  have hm:lD b (aB b.kind u)=0:=by simpa using hm
  rw [D9 b.kind h] at hs;exact PO b _ hm s (lY.1 hs).1
 refine ⟨λs hs q hq=>?_,λn q hq hn=>?_⟩
 ·have hm:jo b q=0:=by
   have:=hmay s hs;unfold tX at this;rw [hq] at this;exact this
  exact ⟨Qj (mJ s.name q hq).2.1 hm _ _ ⟨s,hs,hq⟩ λhn=>VQ hn,hm⟩
 ·refine ap7 (k:=b.kind) ((ado (mJ n q hq).2.1 (aB b.kind w) _ λs hs e=>?_).2 (Qa _ q))
  have:n=s.name:=Qc hq e;unfold jA at hn;have h3:(aB b.kind w).any (λs=>decide (s.name=n))=true:=List.any_eq_true.2 ⟨s,hs,by simp [this]⟩;rw [h3] at hn;cases hn
theorem aj2 {k w:Int} (h1:1<=w) (hf:iV k<=w):(k=1->(∃s∈aB k w,placeOf s.name=some (.num 1))/\∃s∈aB k w,placeOf s.name=some (.num 2))/\(k=2->∃s∈aB k w,placeOf s.name=some (.num 3))/\(k=3->∃s∈aB k w,placeOf s.name=some .d)/\(k=5->∃s∈aB k w,placeOf s.name=some (.num 9))/\(k=6->(∃s∈aB k w,placeOf s.name=some (.num 10))/\∃s∈aB k w,placeOf s.name=some (.num 9)):=by
 have mem:∀s:bJ,s∈kU k->s.from_<=w->s∈aB k w:=λs hs hw=>lY.2 ⟨hs,by simpa using hw⟩;refine ⟨?_, ?_, ?_, ?_, ?_⟩
 ·rintro rfl
  exact ⟨⟨⟨1,0,1,[109,105,110]⟩,mem _ (by simp [kU,sp1,sp2,pY,qg,qh]) h1,rfl⟩,⟨⟨2,0,1,[109,97,120]⟩,mem _ (by simp [kU,sp1,sp2,pY,qg,qh]) h1,rfl⟩⟩
 ·rintro rfl
  exact ⟨⟨1,0,1,[99,104,111,115,101,110]⟩,mem _ (by simp [kU,sp1,sp2,pY,qg,qh]) h1,rfl⟩
 ·rintro rfl
  exact ⟨⟨2,4,1,[100,101,115,99,114]⟩,mem _ (by simp [kU,sp1,sp2,pY,qg,qh]) h1,rfl⟩
 ·rintro rfl
  exact ⟨⟨1,0,1,[101,112,111,99,104]⟩,mem _ (by simp [kU,sp1,sp2,pY,qg,qh]) h1,rfl⟩
 ·rintro rfl
  have h2:(2:Int)<=w:=hf;exact ⟨⟨⟨1,0,2,[98,97,115,101]⟩,mem _ (by simp [kU,sp1,sp2,pY,qg,qh]) h2,rfl⟩,⟨⟨2,0,2,[101,112,111,99,104]⟩,mem _ (by simp [kU,sp1,sp2,pY,qg,qh]) h2,rfl⟩⟩
theorem Zm {b:aJ} {B:aJ} {w:Int} (hk:B.kind=b.kind) (h1:1<=w) (hf:iV b.kind<=w) (hp:∀s∈aB b.kind w,∀q,placeOf s.name=some q->fD B b q):qZ B=qZ b:=by
 obtain ⟨f1,f2,f3,f5,f6⟩:=aj2 (k:=b.kind) h1 hf;have get:∀q,(∃s∈aB b.kind w,placeOf s.name=some q)->fD B b q:=λq hq=>by
  obtain ⟨s,hs,e⟩:=hq;exact hp s hs q e
 unfold qZ;rw [hk];by_cases c1:b.kind=1
 ·have a1:B.min=b.min:=get _ (f1 c1).1
  have a2:B.max=b.max:=get _ (f1 c1).2;rw [aj c1,aj c1,a1,a2]
 rw [ah c1,ah c1];by_cases c2:b.kind=2
 ·have a1:B.chosen=b.chosen:=get _ (f2 c2)
  rw [aj c2,aj c2,a1]
 rw [ah c2,ah c2];by_cases c3:b.kind=3
 ·have a1:B.d=b.d:=get _ (f3 c3)
  rw [aj c3,aj c3,a1]
 rw [ah c3,ah c3];by_cases c5:b.kind=5
 ·have a1:B.epoch=b.epoch:=get _ (f5 c5)
  rw [aj c5,aj c5,a1]
 rw [ah c5,ah c5];by_cases c6:b.kind=6
 ·have a1:B.base=b.base:=get _ (f6 c6).1
  have a2:B.epoch=b.epoch:=get _ (f6 c6).2;rw [aj c6,aj c6,a1,a2]
 rw [ah c6,ah c6]
theorem am9 {b:aJ} {fl:List aC} {u w:Int} (hc:eY b fl u=0) (h1:1<=w) (h:w<=u) (hf:iV b.kind<=w):qZ (fJ b { bM with kind:=b.kind } (aB b.kind w))=qZ b:=
 Zm (yL b _ _) h1 hf λs hs q e=>((Hz hc h).1 s hs q e).1
/-- What is read at an elder version may be. -/
theorem adC {b:aJ} {fl:List aC} {u w:Int} (hc:eY b fl u=0) (h1:1<=w) (h:w<=u) (hf:iV b.kind<=w):eY (fJ b { bM with kind:=b.kind } (aB b.kind w)) (fH (aB b.kind w) (fE b fl u)) w=0:=by
 have hk:(fJ b { bM with kind:=b.kind } (aB b.kind w)).kind=b.kind:=yL b _ _;obtain ⟨hp1,hp2⟩:=Hz hc h;have hb:=am9 hc h1 h hf;obtain ⟨u1,u3,yT,hfl,hno⟩:=yh hc;obtain ⟨mp,ms⟩:=zY (A8 hc);have hbd:qZ b=0:=by
  have hc':=hc;unfold eY at hc';rw [ah (by omega),ah (by omega),ah yT] at hc';by_cases h4:dF.all (λn=>jA (aB b.kind u) n || lF b n)=false
  ·rw [aj h4] at hc';exact absurd hc' (by decide)
  rw [ah h4] at hc';by_cases h5:lD b (aB b.kind u)≠0
  ·rw [aj h5] at hc';exact absurd hc' h5
  rw [ah h5] at hc';by_cases h6:qZ b=0
  ·exact h6
  ·rw [aj h6] at hc';exact absurd hc' h6
 rw [hbd] at hb;have hne:aB b.kind w≠[]:=by
  have h0:=mt (Pj b.kind u u1 u3).2 yT;exact mt (Pj b.kind w h1 (by omega)).1 (by omega)
 have hml:lD (fJ b { bM with kind:=b.kind } (aB b.kind w)) (aB b.kind w)=0:=VE _ _ λs hs=>by
  unfold tX;cases hq:placeOf s.name with
  | none=>rfl
  | some q=>
    obtain ⟨a1,a2⟩:=hp1 s hs q hq;simp only;rw [Wn a1,a2]
 have hall:dF.all (λn=>jA (aB b.kind w) n || lF (fJ b { bM with kind:=b.kind } (aB b.kind w)) n)=true:=List.all_eq_true.2 λn hn=>by
  cases hx:jA (aB b.kind w) n with
  | true=>rfl
  | false=>
    unfold lF;cases hq:placeOf n with
    | none=>exact absurd hq (Ef n hn)
    | some q=>simp only [uy];exact hp2 n q hq hx
 have hrest:EC (aB b.kind w) (fH (aB b.kind w) (fE b fl u))=0:=by
  have hco:iM 0 0 (fH (aB b.kind w) (fE b fl u))=0:=NP _ 0 0 (λf hf=>by
   have hf:=(lY.1 hf).1;rcases kV.1 (mp.mem_iff.1 hf) with hf | hf
   ·exact (DF _ 0 0 (Vg b b.kind u)).1 f hf
   ·exact (DF _ 0 0 hfl).1 f hf) (ms.sublist Me)
  unfold EC;rw [ah (λx=>x hco),ah];intro e;obtain ⟨f,hf,ht⟩:=List.any_eq_true.1 e;have:=(lY.1 hf).2;rw [ht] at this;cases this
 generalize fJ b { bM with kind:=b.kind } (aB b.kind w)=B at *;unfold eY;rw [hk,ah (by omega),ah (by omega),ah hne,hall,ah (by decide),ah (λx=>x hml),ah (λx=>x hb)];exact hrest
theorem adD {b:aJ} {fl:List aC} {u w:Int} (hm:wO b fl) (hc:eY b fl u=0) (h1:1<=w) (h:w<=u) (hf:iV b.kind<=w) (hl:(bytesV b fl u).length<=65536):zF (bytesV b fl u) w=(fJ b { bM with kind:=b.kind } (aB b.kind w),fH (aB b.kind w) (fE b fl u),0):=by
 obtain ⟨u1,u3,yT, -, -⟩:=yh hc;have hr:=adC hc h1 h hf;unfold bytesV at hl ⊢;rw [ahq (U8 yT) h1 (by omega) hf (Sz hm hc) hl,ae0 hc h,TB hm hc (zV b.kind w).1 (aB b.kind w) _ (λs hs=>hs)];simp only [ne_eq,not_true_eq_false,if_false];rw [ah (λx=>x hr)]
theorem Wq {b c:aJ} {q:Pl} (h:fD b c q):aK b q=aK c q:=by
 cases q<;>simp only [fD] at h<;>simp only [aK,h]
theorem Vd {B b:aJ} {l:List bJ} (hp:∀s∈l,∀q,placeOf s.name=some q->fD B b q):gu B l=gu b l:=by
 suffices h:∀ls:List bJ,(∀s∈ls,s∈l)->gu B ls=gu b ls from h l λ_ h=>h
 intro ls;induction ls with
 | nil=>exact λ_=>rfl
 | cons s ls ih=>
   intro hs;rw [yD,yD,ih (λx hx=>hs x (by simp [hx]))];have:rH B s=rH b s:=by
    unfold rH;cases hq:placeOf s.name with
    | none=>rfl
    | some q=>simp only;rw [Wq (hp s (hs s (by simp)) q hq)]
   rw [this]
theorem anb {b:aJ} {fl:List aC} {u w:Int} (hc:eY b fl u=0) (h:w<=u):fE (fJ b { bM with kind:=b.kind } (aB b.kind w)) (fH (aB b.kind w) (fE b fl u)) w=fE b fl u:=by
 have hk:(fJ b { bM with kind:=b.kind } (aB b.kind w)).kind=b.kind:=yL b _ _;have hkv:=Vd (λs hs q e=>((Hz hc h).1 s hs q e).1);have e:fE (fJ b { bM with kind:=b.kind } (aB b.kind w)) (fH (aB b.kind w) (fE b fl u)) w=oL (gu (fJ b { bM with kind:=b.kind } (aB b.kind w)) (aB (fJ b { bM with kind:=b.kind } (aB b.kind w)).kind w)) (fH (aB b.kind w) (fE b fl u)):=rfl;rw [e,hk,hkv,acI hc h]
theorem ana {b:aJ} {fl:List aC} {u w:Int} (hc:eY b fl u=0) (h1:1<=w) (h:w<=u) (hf:iV b.kind<=w):sW (fJ b { bM with kind:=b.kind } (aB b.kind w)) (fH (aB b.kind w) (fE b fl u)) w=sW b fl u:=by
 have hk:(fJ b { bM with kind:=b.kind } (aB b.kind w)).kind=b.kind:=yL b _ _;have hb:bytesV (fJ b { bM with kind:=b.kind } (aB b.kind w)) (fH (aB b.kind w) (fE b fl u)) w=bytesV b fl u:=by
  unfold bytesV;rw [hk,anb hc h]
 unfold sW;rw [adC hc h1 h hf,hc,hb]
/-- Read at its own version a message is as it was. -/
theorem ane {b:aJ} {fl:List aC} {u:Int} (hc:eY b fl u=0):fJ b { bM with kind:=b.kind } (aB b.kind u)=b/\fH (aB b.kind u) (fE b fl u)=fl:=by
 have hk:(fJ b { bM with kind:=b.kind } (aB b.kind u)).kind=b.kind:=yL b _ _;obtain ⟨hp1,hp2⟩:=Hz hc (E9 u);obtain ⟨u1,u3,yT,hfl,hno⟩:=yh hc;obtain ⟨mp,ms⟩:=zY (A8 hc);constructor
 ·refine (parts_all _ b hk).1 λn hn q hq=>?_
  cases hx:jA (aB b.kind u) n with
  | true=>
    unfold jA at hx;obtain ⟨s,hs,e⟩:=List.any_eq_true.1 hx;have e:s.name=n:=yG e;exact (hp1 s hs q (by rw [e];exact hq)).1
  | false=>
    have hB:=hp2 n q hq hx;have hbn:fB b q=true:=by
     have hc':=hc;unfold eY at hc';rw [ah (by omega),ah (by omega),ah yT] at hc';by_cases h4:dF.all (λn=>jA (aB b.kind u) n || lF b n)=false
     ·rw [aj h4] at hc';exact absurd hc' (by decide)
     rw [L6] at h4;have:=List.all_eq_true.1 h4 n hn;rw [hx,uy] at this;unfold lF at this;rw [hq] at this;exact this
    have z1:=VQ (k:=0) hB;have z2:=VQ (k:=0) hbn;generalize fJ b { bM with kind:=b.kind } (aB b.kind u)=B at *;cases q<;>simp only [fD] at z1 z2 ⊢<;>rw [<- z1,<- z2]
 ·have hpf:=mp.filter (λf=>!hasTag (aB b.kind u) f.tag)
  rw [Ry] at hpf;have e1:fl.filter (λf=>!hasTag (aB b.kind u) f.tag)=fl:=List.filter_eq_self.2 λf hf=>by rw [hno f hf];rfl
  have e2:(gu b (aB b.kind u)).filter (λf=>!hasTag (aB b.kind u) f.tag)=[]:=afa.2 λf hf=>by
   obtain ⟨s,hs,p, -,rfl, -⟩:=JY hf;have:hasTag (aB b.kind u) s.tag=true:=by unfold hasTag;exact List.any_eq_true.2 ⟨s,hs,by simp⟩
   show ¬ (!hasTag (aB b.kind u) s.tag)=true
   rw [this];decide
  rw [e1,e2,bV] at hpf;exact H9 _ _ hpf ((ms.sublist Me).imp λh=>by omega) (DF fl 0 0 hfl).2
theorem aeT (p:aC->Bool):∀l:List aC,wL (l.filter p)<=wL l
 | []=>by simp [wL]
 | f::l=>by
   have ih:=aeT p l;rw [CU];split
   ·simp only [wL];omega
   ·simp only [wL];omega
theorem anf {b:aJ} {fl:List aC} {u w:Int} (hm:wO b fl) (hs:bH fl<=1000) (hw:wL fl<=1000000) (hc:eY b fl u=0) (h:w<=u):wO (fJ b { bM with kind:=b.kind } (aB b.kind w)) (fH (aB b.kind w) (fE b fl u)):=by
 obtain ⟨hp1,hp2⟩:=Hz hc h;obtain ⟨mp,ms⟩:=zY (A8 hc);have ao:=Sz hm hc;have hd:=TB hm hc (zV b.kind w).1 (aB b.kind w) { bM with kind:=b.kind } (λs hs=>hs);have hmo:=TD (aB b.kind w) (gu b (aB b.kind w)) { bM with kind:=b.kind } (Vb hm.msg hm.short _ _) (Yh b.kind hm.msg.body.kind);rw [hd] at hmo;have hsz:bH (fE b fl u)<=2000:=by
  have e:bH (fE b fl u)=bH (gu b (aB b.kind u)++fl):=aeg mp;rw [e,XR];have:=Ve b (aB b.kind u);have:=vT b.kind u;omega
 have UU:wL (fE b fl u)<=1000000000:=by
  have e:wL (fE b fl u)=wL (gu b (aB b.kind u)++fl):=aeU mp;rw [e,Ye];have h1:=Vf hm.msg hm.short (aB b.kind u);have h2:=vT b.kind u;have:100000040 * (aB b.kind u).length<=100000040 * 8:=MK _ h2;omega
 have sh:∀n q,placeOf n=some q->fD (fJ b { bM with kind:=b.kind } (aB b.kind w)) b q\/fB (fJ b { bM with kind:=b.kind } (aB b.kind w)) q=true:=λn q hq=>by
  cases hx:jA (aB b.kind w) n with
  | true=>
    unfold jA at hx;obtain ⟨s,hs,e⟩:=List.any_eq_true.1 hx;have e:s.name=n:=yG e;exact .inl (hp1 s hs q (by rw [e];exact hq)).1
  | false=>exact .inr (hp2 n q hq hx)
 have s1:=sh GY .name ada;have s2:=sh G5 .region ade;have s3:=sh GZ .note adb;obtain ⟨w1,w2,w3⟩:=hm.short;generalize fJ b { bM with kind:=b.kind } (aB b.kind w)=B at *;refine ⟨⟨hmo.body,hmo.d,hmo.t,Jw _ ao.ok,iF (Iz _ _) ao.len⟩,⟨?_, ?_, ?_⟩, ?_, ?_⟩
 ·rcases s1 with s | s
  ·have s:B.name=b.name:=s
   rw [s];exact w1
  ·simp only [fB,decide_eq_true_iff] at s;rw [s];simp
 ·rcases s2 with s | s
  ·have s:B.region=b.region:=s
   rw [s];exact w2
  ·simp only [fB,decide_eq_true_iff] at s;rw [s];simp
 ·rcases s3 with s | s
  ·have s:B.note=b.note:=s
   rw [s];exact w3
  ·simp only [fB,decide_eq_true_iff] at s;rw [s];simp
 ·have:=QT (λf=>!hasTag (aB b.kind w) f.tag) (fE b fl u)
  unfold fH;omega
 ·have:=aeT (λf=>!hasTag (aB b.kind w) f.tag) (fE b fl u)
  unfold fH;omega
theorem ahr {b:aJ} {fl:List aC} {u w:Int} (hc:eY b fl u=0) (h1:1<=w) (h:w<=u) (hf:w < iV b.kind) (hl:(bytesV b fl u).length<=65536):zF (bytesV b fl u) w=(bM,[],15):=by
 obtain ⟨u1,u3,yT, -, -⟩:=yh hc;have hk:=U8 yT;unfold bytesV at hl ⊢;have hlf:(bK (fE b fl u)).length<=65536:=by rw [dH] at hl;omega
 have hv:=Ii b.kind.toNat (bK (fE b fl u)) (by omega);have hkk:((b.kind.toNat:Nat):Int)=b.kind:=by omega
 unfold zF;rw [ah (by omega),ah (by omega),ah (by omega),hv];simp only [ne_eq,not_true_eq_false,if_false,hkk,oZ];rw [ah (by omega)];by_cases c:iV b.kind=0
 ·rw [aj c]
 ·rw [ah c,aj hf]
theorem aau {b:aJ} {fl:List aC} {u:Int} (h:(sW b fl u).2=0):eY b fl u=0/\(bytesV b fl u).length<=65536/\sW b fl u=(bytesV b fl u,0):=by
 unfold sW at h ⊢;by_cases c:eY b fl u=0
 ·rw [aj c] at h ⊢
  by_cases c2:65536 < (bytesV b fl u).length
  ·rw [aj c2] at h;exact absurd h (by simp)
  ·rw [ah c2]
   exact ⟨c,by omega,rfl⟩
 ·rw [ah c] at h
  exact absurd h c
end U
end Go.Proofs.YtjglbndncdkhhaaGreatDoor
