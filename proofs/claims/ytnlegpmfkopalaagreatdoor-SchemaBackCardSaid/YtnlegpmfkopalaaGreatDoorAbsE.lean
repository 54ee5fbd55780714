/- Values that are named by nodes: append, make, conversions, strings.Builder's string. -/
import Derived.Test.YtnlegpmfkopalaaGreatDoorAbsD
import Derived.Test.YtnlegpmfkopalaaGreatDoorAbsC
namespace Go.aN
set_option linter.unusedSimpArgs false
noncomputable section
variable [aF]
set_option linter.unusedSectionVars false
set_option linter.unusedVariables false
variable {P:Program} {η:Env} {σ σ':au} {w:World}
theorem St.O7 {η':Env} {w':World} (h:St P η σ w η' σ' w') (id:Nat):St P η σ w η' (σ'.kill id) w':=
 h.sub (λk o hk=>by rw [au.wz] at hk;split at hk;cases hk;exact hk) (dN _) rfl
theorem St.vF {η':Env} {τ:au} {w':World} {m e size:Nat} {f:Bool} {xs:List GV} {c:List AV} {y:Value} (h:St P η σ w η' (τ.new (.cells c e true true)) w') (hv:aF.val m=some (.l xs)) (hs:∀x∈xs,x.cells.length=size/\x.cells.all GV.scalar=true) (hn:sizeT P e=some size)
 (hc:∀vs,ay η' c vs->ay η' (bH xs) vs) (hy:VR η' (.sl τ.next 0 xs.length none) y) (hf:f=true->xs≠[]):St P η σ w η' (τ.new (.vec m e f)) w'/\VR η' (.sv τ.next m) y:=by
 simp only [VR] at hy;obtain ⟨q,hq,hle,rfl⟩:=hy;have hg:(τ.new (.cells c e true true)).get τ.next=some (.cells c e true true):=by rw [au.oG,aj rfl]
 have hor:=h.rel.at hg hq;have hes:q.es=size:=by
  obtain ⟨_,_,_,_,r⟩:=hor;have:=(r.room rfl).2.2;rw [hn] at this;cases this;rfl
 have hpos:f=true->q.es<=q.sz:=λe=>by
  have hne:=hf e;have:0 < xs.length:=Me.2 hne;simp only [uN,Dp] at hle;have h1:1<=q.sz / q.es:=by omega
  exact iV (by simpa using qL q.es h1) (Nat.div_mul_le_self q.sz q.es)
 have hnew:OR P η' q w' (.vec m e f):=OR.vF hpos hv (λx hx=>by rw [hes];exact (hs x hx).1) (λx hx=>(hs x hx).2) hor hc;refine ⟨h.right ?_ rfl rfl ?_,by simp only [VR];exact ⟨xs,hv,.inl ⟨q,hq,by simpa using hle,by simp⟩⟩⟩
 ·refine (h.rel.swap (o':=.vec m e f) hg rfl (.inl ⟨q,hq,hnew⟩)).sub (λk o hk=>?_) (dN _)
  rw [au.oG] at hk;rw [au.get_put,au.oG];split at hk
  ·next e1=>rw [aj e1];exact hk
  ·next e1=>rw [ah e1,ah e1];exact hk
 ·intro k o hk ho
  rw [au.oG] at hk ⊢;split at hk
  ·next e1=>rw [aj e1];exact ⟨_,rfl,rfl⟩
  ·next e1=>rw [ah e1];exact ⟨o,hk,ho⟩
theorem zG {xs:List GV} {size:Nat} (h:xs.all (GV.fJ size)=true):∀x∈xs,x.cells.length=size/\x.cells.all GV.scalar=true:=by
 intro z hz;have:=List.all_eq_true.1 h z hz;unfold GV.fJ at this;rw [aI] at this;exact ⟨Nat.eq_of_beq_eq_true this.1,this.2⟩
theorem afY {xs:List GV} {size:Nat} (h:∀x∈xs,x.cells.length=size/\x.cells.all GV.scalar=true):(bH xs).all AV.lM=true:=by
 unfold bH;refine Uj ?_;rw [List.all_eq_true];intro g hg;obtain ⟨z,hz,hgz⟩:=Yp.1 hg;exact List.all_eq_true.1 (h z hz).2 g hgz
theorem Zk (xs ys:List GV):bH (xs++ys)=bH xs++bH ys:=by unfold bH;rw [Yk,D9]
theorem DT {xs:List GV} {size:Nat} (h:∀x∈xs,x.cells.length=size):(bH xs).length=xs.length * size:=by rw [bH,kJ,J8 h]
def Xn (P:Program) (σ:au) (e size:Nat) (t1:TypeId) (x:AV):Option Nat:=
 match P.underlying t1 with
 | some .string=>if size=1 then match ig x with
    | some n=>eH (.bytes n)
    | none=>none
   else none
 | some (.slice _)=>listOf P σ e x
 | _=>none
theorem QA (h:SR P η σ w) {e size:Nat} {t1:TypeId} {x:AV} {b:Nat} {u:Value} {xs:List GV} (hs:Xn P σ e size t1 x=some b) (hx:VR η x u) (hn:sizeT P e=some size) (hv:aF.val b=some (.l xs)) (hok:xs.all (GV.fJ size)=true) :
 ∃ys,Src P size t1 u xs.length ys w/\ay η (bH xs) ys:=by
 unfold Xn at hs;split at hs
 ·next ht=>
  split at hs
  ·next h1=>
   subst h1;split at hs
   ·next n hn'=>
    obtain ⟨g,g1,g2,g3⟩:=kK hn' hx;obtain ⟨g',k1,k2⟩:=fK hs;rw [hv] at k1;cases k1;simp only [Nd.den,g1] at k2;split at k2
    ·next s e1=>
     cases e1;cases k2;have hT:BO P t1=true:=by unfold BO;rw [ht]
     have:=src_ok h hT (size:=1) (n:=s.length) (l:=tN s) (a:=.s s) (x:=u) (by simp [wG]) ((jU (.s s) u).1 g3) (by unfold tN;simp [AV.lM]);rw [Zc];have hl:(bK s).length=s.length:=by simp [bK]
     rw [hl];exact this
    ·cases k2
   ·cases hs
  ·cases hs
 ·next ht=>exact akR h hs hx ht hn hv hok
 ·cases hs
theorem akQ {e size id len:Nat} {cap:Option Nat} {a et:Nat} {c:List AV} {rE opn:Bool} (hg:σ.get id=some (.cells c et rE opn)) (hl:listOf P σ e (.sl id 0 len cap)=some a) (hn:sizeT P e=some size) (hlen:c.length=len * size) :
 ∃ns,(∀ {η:Env} {vs:List Value},ay η c vs->∃gs,valsOf aF.val ns=some gs/\gs.length=len/\ay η (bH gs) vs/\∀x∈gs,x.cells.length=size/\x.cells.all GV.scalar=true)/\∀gs,valsOf aF.val ns=some gs->aF.val a=some (.l gs):=by
 simp only [listOf,hg,hn] at hl;split at hl
 ·next c' D5 rw' KX size' agg hg' hsz hag=>
  cases hg';cases hsz;split at hl
  ·next hc=>
   rw [aI,lS,aI] at hc;have hagg:agg=false->size=1:=by
    intro e;subst e;rcases hc.2 with h1 | h1
    ·simp at h1
    ·exact bG h1
   have htk:takeN c 0 (len * size)=some c:=by
    unfold takeN;rw [eP,jJ (by omega),aj hlen]
   rw [htk] at hl;simp only at hl;split at hl
   ·next ns hns=>
    refine ⟨ns,λ{η vs} hv=>?_,λgs hgs=>?_⟩
    ·obtain ⟨gs,k1,k2,k3,_,k5⟩:=Bq (η:=η) hagg len hns hv hlen
     exact ⟨gs,k1,k2,k3,k5⟩
    ·obtain ⟨g,g1,g2⟩:=fK hl
     simp only [Nd.den,hgs,gI,aT] at g2;rw [g2];exact g1
   ·cases hl
  ·cases hl
 ·cases hl
set_option maxHeartbeats 1000000 in
theorem apY (h:SR P η σ w) {ts:Array TypeId} {ty:TypeId} {s x v:AV} {u u':Value} (hs:Xu P ts s x σ=some (v,σ')) (hu:VR η s u) (hx:VR η x u') :
 ∃y w' η',(Builtin.append_ ts ty #[u,u']).run P w=.ok y w'/\St P η σ w η' σ' w'/\VR η' v y:=by
 unfold Xu at hs;split at hs
 ·next t t1 hts=>
  have:=Ns hts;subst this;split at hs
  ·next e size bytes z hi=>
   obtain ⟨_,_,_,he,_,hn⟩:=yA hi;split at hs
   ·cases hs
   ·next h0=>
    split at hs
    ·cases hs
    ·next b hb=>
     have hb':Xn P σ e size t1 x=some b:=hb;have app:∀ {a m:Nat} {xs:List GV},eH (.app size bytes a b)=some m->aF.val a=some (.l xs)->∃ys,aF.val b=some (.l ys)/\aF.val m=some (.l (xs++ys))/\ys.all (GV.fJ size)=true/\2 * (xs.length+ys.length) * bytes<=2 ^ 48/\xs.length+ys.length<=2 ^ 48:=by
      intro a m xs hm ha;obtain ⟨g,g1,g2⟩:=fK hm;simp only [Nd.den,ha] at g2;split at g2
      ·next xs' ys e1 e2=>
       cases e1;split at g2
       ·next hc=>cases g2;exact ⟨ys,e2,g1,hc.1,hc.2.1,hc.2.2⟩
       ·cases g2
      ·cases g2
     have Nr:∀ {ys:List GV} {S:AV} {n:Nat},ys.all (GV.fJ size)=true->sliceLen S=n->2 * (n+ys.length) * bytes<=2 ^ 48->n+ys.length<=2 ^ 48->¬ (size=0\/(bH ys).all AV.lM=false\/¬ (2 * (sliceLen S+ys.length) * bytes<=2 ^ 48/\sliceLen S+ys.length<=2 ^ 48)):=by
      intro ys S n h1 h2 h3 h4;rw [afY (zG h1),h2];simp [h0];omega
     have ml0:∀ {a:Nat},eH (.ml [])=some a->aF.val a=some (.l []):=by
      intro a ha;obtain ⟨g,g1,g2⟩:=fK ha;simp only [Nd.den,valsOf,gI,aT] at g2;subst g2;exact g1
     have acD:∀ {a m:Nat} {τ:au},aF.val a=some (.l [])->eH (.app size bytes a b)=some m->u=.slice none 0 0->τ.lock=σ.lock->τ.next=σ.next->(∀k o,τ.get k=some o->σ.get k=some o)->
      ∀f:Bool,∃y w' η',(Builtin.append_ #[t,t1] ty #[u,u']).run P w=.ok y w'/\St P η σ w η' (τ.new (.vec m e f)) w'/\VR η' (.sv σ.next m) y:=by
      intro a m τ ha hm hu0 hl hnx hsub f;obtain ⟨ys,y1,y2,y3,y4,y5⟩:=app hm ha;obtain ⟨zs,z1,z2⟩:=QA h hb' hx hn y1 y3;have hlen:=DT (λx hx=>(zG y3 x hx).1);simp only [dA,qI,jr] at y2 y4 y5;have hc:=Nr (S:=.dO) (n:=0) y3 rfl (by simpa using y4) (by simpa using y5);by_cases hz:ys.length=0
      ·have hys:ys=[]:=jd hz
       subst hys;have hto:nG e size bytes .dO 0 (bH []) σ=some (.dO,σ):=by unfold nG;rw [ah (by simpa using hc)];rfl
       obtain ⟨y,w',η',r1,r2,r3⟩:=zx (ty:=ty) h hi z1 z2 hlen hto (u:=u) (by simp only [VR];exact hu0);refine ⟨y,w',η'.ghost σ.next,r1,r2.trans ?_, ?_⟩
       ·exact St.ghost r2.rel y2 hl hnx hsub
       ·simp only [VR] at r3 ⊢
        exact ⟨[],y2,.inr ⟨by simp [Env.ghost],rfl,r3⟩⟩
      ·have hto:nG e size bytes .dO ys.length (bH ys) σ=some (.sl σ.next 0 ys.length none,σ.new (.cells (bH ys) e true true)):=by
        unfold nG;rw [ah hc];simp only;rw [ah hz]
       obtain ⟨y,w',η',r1,r2,r3⟩:=zx (ty:=ty) h hi z1 z2 hlen hto (u:=u) (by simp only [VR];exact hu0);obtain ⟨q1,q2⟩:=St.vF (f:=f) r2 y2 (zG y3) hn (λ_ h=>h) r3 (λ_ e=>hz (by rw [e];rfl));refine ⟨y,w',η',r1,q1.sub (λk o hk=>?_) (by show σ.next+1<=τ.next+1;omega) hl,q2⟩;rw [au.oG] at hk ⊢;rw [hnx] at hk;split at hk
       ·next e1=>rw [aj e1];exact hk
       ·next e1=>rw [ah e1];exact hsub k o hk
     split at hs
     ·split at hs
      ·next a ha=>
       obtain ⟨m,hm,e1⟩:=aW.1 hs;cases e1;simp only [VR] at hu;exact acD (τ:=σ) (ml0 ha) hm hu rfl rfl (λ_ _ h=>h) true
      ·cases hs
     ·next id n=>
      split at hs
      ·next a et f hg=>
       split at hs
       ·next hcnd=>
        rw [aI,aI] at hcnd;obtain ⟨⟨het,hsl⟩,hlk⟩:=hcnd;have Ec:=bG het;subst Ec;have zO:=pX hlk;obtain ⟨m,hm,e1⟩:=aW.1 hs;cases e1;simp only [VR] at hu;obtain ⟨xn,n1,hu⟩:=hu;rcases h.live id _ hg with ⟨q,hq,hor⟩ | ⟨hgh,m0,et0,f0,e0,hv0⟩
        ·obtain ⟨xs,x1,x2,x3,x4,x5,x6,x7,hS⟩:=Ja h hg hq
         have hlen0:=wC 100 hsl x1 n1;rw [hn] at x5;cases x5;rcases hu with ⟨q',hq',hle,rfl⟩ | ⟨hgh,_,_⟩
         ·rw [hq] at hq';cases hq'
          obtain ⟨ys,y1,y2,y3,y4,y5⟩:=app hm x1;have hcl:=DT x2;have hall:∀x∈xs++ys,x.cells.length=q.es/\x.cells.all GV.scalar=true:=by
           intro x hx;rcases lF.1 hx with hx | hx
           ·exact ⟨x2 x hx,x7 x hx⟩
           ·exact zG y3 x hx
          obtain ⟨zs,z1,z2⟩:=QA h hb' hx hn y1 y3;have hlen:=DT (λx hx=>(zG y3 x hx).1);have hc:=Nr (S:=.sl id 0 xs.length none) (n:=xs.length) y3 rfl y4 y5;rw [<- hlen0] at hle ⊢;have hus:VR η (.sl id 0 xs.length none) (.slice (some ⟨q.bl,q.ba,none⟩) xs.length (q.sz / q.es)):=by simp only [VR];exact ⟨q,hq,by simpa using hle,by simp⟩
          by_cases hz:ys.length=0
          ·have hys:ys=[]:=jd hz
           subst hys;rw [mD] at y2;have hto:nG et q.es bytes (.sl id 0 xs.length none) 0 (bH []) (jO σ id xs et)=some (.sl id 0 xs.length none,jO σ id xs et):=by unfold nG;rw [ah (by simpa using hc)];rfl
           obtain ⟨y,w',η',r1,r2,r3⟩:=zx (ty:=ty) hS hi z1 z2 hlen hto hus;have r2':=LJ hg r2;have hgu:(jO σ id xs et).get id=some (.cells (bH xs) et true true):=Aq;have hq2:=r2.ext.pl _ _ hq;have hor2:=r2.rel.at hgu hq2;have hv2:OR P (η'.put σ.next q) q w' (.vec m et f):=by
            have hle2:=Env.E5 r2.rel q;refine OR.vF (λe=>by subst e;exact hor.Rh) y2 x2 x7 (hor2.mono hle2) (λ_ h=>h)
           have Kr:=St.again (q':=q) r2.rel hgu rfl (show (jO σ id xs et).lock<=id from zO) hq2 rfl rfl (λ_ _=>rfl) rfl rfl rfl hv2;refine ⟨y,w',η'.put σ.next q,r1,(r2'.trans Kr).sub (λk o hk=>?_) (dN _) rfl, ?_⟩
           ·rw [au.oG,au.wz] at hk ⊢
            split at hk
            ·next e1=>rw [aj (show k=((jO σ id xs et).kill id).next from e1)];exact hk
            ·next e1=>
             rw [ah (show ¬ k=((jO σ id xs et).kill id).next from e1)];split at hk
             ·cases hk
             ·next e2=>rw [ah e2];unfold jO;rw [au.get_put,ah e2];exact hk
           ·simp only [VR] at r3 ⊢
            obtain ⟨q3,hq3,hle3,rfl⟩:=r3;rw [hq2] at hq3;cases hq3;exact ⟨xs,y2,.inl ⟨q,by simp [Env.put],by simpa using hle3,by simp⟩⟩
          ·have htk:takeN (bH xs) 0 (xs.length * q.es)=some (bH xs):=by
            unfold takeN;rw [eP,jJ (by omega),aj hcl]
           have hto:nG et q.es bytes (.sl id 0 xs.length none) ys.length (bH ys) (jO σ id xs et)=some (.sl σ.next 0 (xs.length+ys.length) none,((jO σ id xs et).kill id).new (.cells (bH xs++bH ys) et true true)):=by
            unfold nG;rw [ah hc];simp only;rw [ah hz,aj (show (jO σ id xs et).lock<=id from zO),Aq];simp only [if_true,htk,gI];rfl
           obtain ⟨y,w',η',r1,r2,r3⟩:=zx (ty:=ty) hS hi z1 z2 hlen hto hus;obtain ⟨q1,q2⟩:=St.vF (size:=q.es) (LJ hg r2) y2 hall hn (λvs hvs=>by rw [Zk];exact hvs) (by rw [dS];exact r3) (f:=f) (λ_ e=>hz (by have:=qR List.length e;simp at this;rw [this.2];rfl));refine ⟨y,w',η',r1,q1.sub (λk o hk=>?_) (dN _) rfl,q2⟩;rw [au.oG,au.wz] at hk ⊢;split at hk
           ·next e1=>rw [aj (show k=((jO σ id xs et).kill id).next from e1)];exact hk
           ·next e1=>
            rw [ah (show ¬ k=((jO σ id xs et).kill id).next from e1)];split at hk
            ·cases hk
            ·next e2=>rw [ah e2];unfold jO;rw [au.get_put,ah e2];exact hk
         ·rw [(h.je id hgh).1] at hq;cases hq
        ·cases e0
         have hlen0:=wC 100 hsl hv0 n1;rcases hu with ⟨q',hq',_⟩ | ⟨_,_,hu⟩
         ·rw [(h.je id hgh).1] at hq';cases hq'
         ·exact acD (τ:=σ.kill id) hv0 hm hu rfl rfl (λk o hk=>by rw [au.wz] at hk;split at hk;cases hk;exact hk) f
       ·cases hs
      ·cases hs
     ·next id=>
      split at hs
      ·next et hg=>
       split at hs
       ·next hcnd=>
        rw [aI] at hcnd;obtain ⟨het,hlk⟩:=hcnd;have Ec:=bG het;subst Ec;have zO:=pX hlk;split at hs
        ·next a ha=>
         obtain ⟨m,hm,e1⟩:=aW.1 hs;cases e1;obtain ⟨ys,y1,y2,y3,y4,y5⟩:=app hm (ml0 ha);simp only [dA,qI,jr] at y2 y4 y5;obtain ⟨zs,z1,z2⟩:=QA h hb' hx hn y1 y3;have hlen:=DT (λx hx=>(zG y3 x hx).1);have hc:=Nr (S:=.sl id 0 0 (some 0)) (n:=0) y3 rfl (by simpa using y4) (by simpa using y5);have hu0:=hu;simp only [VR] at hu0;obtain ⟨q,hq,_,rfl⟩:=hu0;obtain ⟨cs,elem,fr,hb0,rr⟩:=h.at hg hq;have hsh:=rr.shut rfl;obtain ⟨w1,w2,w3⟩:=rr.whole he;have hba:=w3 rfl;by_cases hz:ys.length=0
         ·have hys:ys=[]:=jd hz
          subst hys;have hto:nG et size bytes (.sl id 0 0 (some 0)) 0 (bH []) σ=some (.sl id 0 0 (some 0),σ):=by unfold nG;rw [ah (by simpa using hc)];rfl
          obtain ⟨y,w',η',r1,r2,r3⟩:=zx (ty:=ty) h hi z1 z2 hlen hto hu;have hq2:=r2.ext.pl _ _ hq;obtain ⟨cs2,GU,Hq,hb2,WZ⟩:=r2.rel.at hg hq2;obtain ⟨v1,v2,v3⟩:=WZ.whole he;have hsz0:=WZ.shut rfl;simp only [qI] at hsz0;have hv2:OR P (η'.put σ.next ⟨q.bl,q.ba,0,size⟩) ⟨q.bl,q.ba,0,size⟩ w' (.vec m et false):=by
           refine ⟨[],cs2,GU,Hq,[],y2,hb2,by simp [aO],by simp,by simp [Bh,dJ],by simp, { fits:=by have:=WZ.fits;simp;omega,le:=by simp,shut:=by simp,cell:=by simp,free:=by simp,whole:=λ_=>⟨v1,by simp;omega,by simp⟩,room:=λ_=>⟨he,by simp;omega,hn⟩ },by simp,by simp⟩
          have Kr:=St.again (q':=⟨q.bl,q.ba,0,size⟩) r2.rel hg rfl zO hq2 rfl rfl (λ_ _=>rfl) rfl rfl rfl hv2;refine ⟨y,w',_,r1,r2.trans Kr, ?_⟩;simp only [VR] at r3 ⊢;obtain ⟨q3,hq3,_,rfl⟩:=r3;rw [hq2] at hq3;cases hq3;exact ⟨[],y2,.inl ⟨⟨q.bl,q.ba,0,size⟩,by simp [Env.put],by simp,by simp⟩⟩
         ·have hto:nG et size bytes (.sl id 0 0 (some 0)) ys.length (bH ys) σ=some (.sl σ.next 0 (0+ys.length) none,σ.new (.cells ([]++bH ys) et true true)):=by
           unfold nG;rw [ah hc];simp only;rw [ah (by omega),hg];simp [takeN]
          obtain ⟨y,w',η',r1,r2,r3⟩:=zx (ty:=ty) h hi z1 z2 hlen hto hu;rw [dA] at r2;rw [jr] at r3;obtain ⟨q1,q2⟩:=St.vF (f:=false) r2 y2 (zG y3) hn (λ_ h=>h) r3 (by simp);refine ⟨y,w',η',r1,q1.sub (λk o hk=>?_) (dN _) rfl,q2⟩;rw [au.oG,au.wz] at hk;rw [au.oG];split at hk
          ·next e1=>rw [aj (show k=σ.next from e1)];exact hk
          ·next e1=>
           rw [ah (show ¬ k=σ.next from e1)];split at hk
           ·cases hk
           ·exact hk
        ·cases hs
       ·cases hs
      ·cases hs
     ·next id len=>
      split at hs
      ·next c et hg=>
       split at hs
       ·next hcnd=>
        rw [aI,aI] at hcnd;obtain ⟨⟨het,hlk⟩,hcl⟩:=hcnd;have Ec:=bG het;subst Ec;have zO:=pX hlk;have hcl':=bG hcl;split at hs
        ·next a ha=>
         obtain ⟨m,hm,e1⟩:=aW.1 hs;cases e1;obtain ⟨ns,l1,l2⟩:=akQ hg ha hn hcl';have hu0:=hu;simp only [VR] at hu0;obtain ⟨q,hq,hle,rfl⟩:=hu0;obtain ⟨ws,elem,fr,hb0,rr⟩:=h.at hg hq;have hes:q.es=size:=by
          have:=(rr.room rfl).2.2;rw [hn] at this;cases this;rfl
         have htk:takeN c 0 (len * size)=some c:=by
          unfold takeN;rw [eP,jJ (by omega),aj hcl']
         obtain ⟨xs,k1,k2,k3,k4⟩:=l1 (rr.wH htk);have hva:=l2 xs k1;have conv:∀ {η':Env} (vs:List Value),ay η' c vs->ay η' (bH xs) vs:=by
          intro η' vs hv;obtain ⟨gs,j1,_,j3,_⟩:=l1 hv;rw [k1] at j1;cases j1;exact j3
         obtain ⟨ys,y1,y2,y3,y4,y5⟩:=app hm hva;have hall:∀x∈xs++ys,x.cells.length=size/\x.cells.all GV.scalar=true:=by
          intro x hx;rcases lF.1 hx with hx | hx
          ·exact k4 x hx
          ·exact zG y3 x hx
         obtain ⟨zs,z1,z2⟩:=QA h hb' hx hn y1 y3;have hlen:=DT (λx hx=>(zG y3 x hx).1);have hc:=Nr (S:=.sl id 0 len none) (n:=xs.length) y3 k2.symm y4 y5;by_cases hz:ys.length=0
         ·have hys:ys=[]:=jd hz
          subst hys;rw [mD] at y2;have hto:nG et size bytes (.sl id 0 len none) 0 (bH []) σ=some (.sl id 0 len none,σ):=by unfold nG;rw [ah (by simpa using hc)];rfl
          obtain ⟨y,w',η',r1,r2,r3⟩:=zx (ty:=ty) h hi z1 z2 hlen hto hu;have hq2:=r2.ext.pl _ _ hq;have hor2:=r2.rel.at hg hq2;have hv2:OR P (η'.put σ.next q) q w' (.vec m et false):=by
           have hle2:=Env.E5 r2.rel q;refine OR.vF (by simp) y2 (λx hx=>by rw [hes];exact (k4 x hx).1) (λx hx=>(k4 x hx).2) (hor2.mono hle2) (λvs hvs=>conv vs hvs)
          have Kr:=St.again (q':=q) r2.rel hg rfl zO hq2 rfl rfl (λ_ _=>rfl) rfl rfl rfl hv2;refine ⟨y,w',η'.put σ.next q,r1,r2.trans Kr, ?_⟩;simp only [VR] at r3 ⊢;obtain ⟨q3,hq3,hle3,rfl⟩:=r3;rw [hq2] at hq3;cases hq3;exact ⟨xs,y2,.inl ⟨q,by simp [Env.put],by rw [k2];simpa using hle3,by simp [k2]⟩⟩
         ·have hto:nG et size bytes (.sl id 0 len none) ys.length (bH ys) σ=some (.sl σ.next 0 (len+ys.length) none,(σ.kill id).new (.cells (c++bH ys) et true true)):=by
           unfold nG;rw [ah hc];simp only;rw [ah hz,aj zO,hg];simp only [if_true,htk,gI]
          obtain ⟨y,w',η',r1,r2,r3⟩:=zx (ty:=ty) h hi z1 z2 hlen hto hu;obtain ⟨q1,q2⟩:=St.vF (size:=size) r2 y2 hall hn (λvs hvs=>by
           obtain ⟨us,ts,rfl,v1,v2⟩:=ay.split hvs;rw [Zk];exact ay.append (conv us v1) v2) (by rw [dS,k2];exact r3) (f:=false) (by simp)
          exact ⟨y,w',η',r1,q1,q2⟩
        ·cases hs
       ·cases hs
      ·cases hs
     ·cases hs
  ·cases hs
 ·cases hs
end
end Go.aN
namespace Go.aN
set_option linter.unusedSimpArgs false
noncomputable section
variable [aF]
set_option linter.unusedSectionVars false
set_option linter.unusedVariables false
variable {P:Program} {η:Env} {σ σ':au} {w:World}
theorem adG {x:GV} {z:List AV} (hx:∀us,ay η z us->ay η (dF x.cells) us):∀ (n:Nat) (vs:List Value),ay η (iL n z) vs->ay η (bH (List.replicate n x)) vs
 | 0,vs,h=>by simpa [iL,bH,dF] using h
 | n+1,vs,h=>by
   have e:iL (n+1) z=z++iL n z:=by simp [iL,Jq]
   rw [e] at h;obtain ⟨us,ws,rfl,h1,h2⟩:=ay.split h;have e2:bH (List.replicate (n+1) x)=dF x.cells++bH (List.replicate n x):=by unfold bH;rw [Jq,jl,D9]
   rw [e2];exact (hx us h1).append (adG hx n ws h2)
theorem anY (z:List AV) (n m:Nat) (h:n<=m):(iL m z).take (n * z.length)=iL n z:=by
 induction n generalizing m with
 | zero=>simp [iL]
 | succ n ih=>
   cases m with
   | zero=>omega
   | succ m=>
     have e:∀k,iL (k+1) z=z++iL k z:=λk=>by simp [iL,Jq]
     rw [e,e,<- ih m (by omega),Yw,jJ (by rw [oN];omega)];congr 2;rw [oN];omega
theorem ap8 (h:SR P η σ w) {t:TypeId} {l c v:AV} {x y:Value} (hs:QM P t l c σ=some (v,σ')) (hx:VR η l x) (hy:VR η c y) :
 ∃z w' η',(Instr.makeSlice t x y).run P w=.ok z w'/\St P η σ w η' σ' w'/\VR η' v z:=by
 unfold QM at hs;split at hs
 ·next e0 hu0=>
  split at hs
  ·next e size bytes z agg hi hagg=>
   obtain ⟨hut,_,_,he,hzl,hn⟩:=yA hi;rw [hu0] at hut;cases hut;split at hs
   ·cases hs
   ·next h0=>
    split at hs
    ·next zn ln cn hzn hln hcn=>
     obtain ⟨m,hm,e1⟩:=aW.1 hs;cases e1;obtain ⟨gl,l1,l2,l3⟩:=kK hln hx;obtain ⟨gc,c1,c2,c3⟩:=kK hcn hy;obtain ⟨g,g1,g2⟩:=fK hm;simp only [Nd.den,l1,c1] at g2;split at g2
     ·next xz kn n kn' m' e1 e2 e3=>
      cases e2;cases e3;split at g2
      ·next hc=>
       cases g2;obtain ⟨b1,b2,b3,b4,b5⟩:=hc;simp only [GR] at l3 c3;subst l3;subst c3;obtain ⟨xs,hrun,hsz,hvs⟩:=ala (P:=P) (w:=w) (η:=η) (kd:=kn) (kd':=kn') hi h0 b1 b2 b3 b4;have hzero:∀us,ay η z us->ay η (dF xz.cells) us:=by
        intro us hus;cases agg with
        | true=>
          simp only [if_true] at hzn;obtain ⟨l',gs,e4,_,e5,_,e6⟩:=Gn hzn (by simp only [VR];exact ⟨us,rfl,hus⟩:VR η (.agg z) (.agg ⟨us⟩));rw [e1] at e5;cases e5;simp only [GR] at e6;obtain ⟨us',e7,e8⟩:=e6;cases e7;exact (l9 _ _).1 e8
        | false=>
          simp only [gU,if_false] at hzn;cases hz':z with
          | nil=>rw [hz'] at hzn;simp at hzn
          | cons a zr=>
            rw [hz'] at hzn hus hzl;simp only [Ym,zi] at hzn;simp only [ay] at hus;obtain ⟨u,ur,rfl,hu1,hu2⟩:=hus;obtain ⟨gz,k1,k2,k3⟩:=kK hzn hu1;rw [e1] at k1;cases k1;rw [GV.Fj k2];have:size=1:=by
             unfold GV.fJ at b5;rw [aI,GV.Fj k2] at b5;exact (bG b5.1).symm
            rw [this] at hzl;have mQ:zr=[]:=by apply jd;simpa using hzl
            subst mQ;simp only [ay] at hu2;subst hu2;simp only [dF];exact ay.cons ((jU _ _).1 k3) (by simp [ay])
       have hall:∀x∈List.replicate n.toNat xz,x.cells.length=size/\x.cells.all GV.scalar=true:=by
        intro x hx;rw [(Yr.1 hx).2];unfold GV.fJ at b5;rw [aI] at b5;exact ⟨Nat.eq_of_beq_eq_true b5.1,b5.2⟩
       have hlm:n.toNat<=m'.toNat:=by omega
       have hpre:ay η (iL n.toNat z) (xs.toList.take (iL n.toNat z).length):=by
        rw [Qk,hzl];have:=hvs.take (n.toNat * size);rw [<- hzl,anY z _ _ hlm,hzl] at this;exact this
       have hal:=zD h (c:=iL n.toNat z) (xs:=xs) (elem:=_) (es:=size) (opn:=true) hpre (by rw [Qk,hzl,hsz];exact qL _ hlm) (by simp) (λ_=>⟨he,Nat.pos_of_ne_zero h0,hn⟩);have hcap:(m'.toNat * size) / size=m'.toNat:=YB _ (Nat.pos_of_ne_zero h0);obtain ⟨q1,q2⟩:=St.vF (f:=false) (size:=size) (y:=.slice (some ⟨w.heap.size,0,none⟩) n.toNat m'.toNat) hal g1 hall hn (λvs hvs=>by
        have hz2:∀us,ay (η.put σ.next ⟨w.heap.size,0,xs.size,size⟩) z us->ay (η.put σ.next ⟨w.heap.size,0,xs.size,size⟩) (dF xz.cells) us:=by
         intro us hus;cases agg with
         | true=>
           simp only [if_true] at hzn;obtain ⟨l',gs,e4,_,e5,_,e6⟩:=Gn hzn (by simp only [VR];exact ⟨us,rfl,hus⟩:VR (η.put σ.next ⟨w.heap.size,0,xs.size,size⟩) (.agg z) (.agg ⟨us⟩));rw [e1] at e5;cases e5;simp only [GR] at e6;obtain ⟨us',e7,e8⟩:=e6;cases e7;exact (l9 _ _).1 e8
         | false=>
           simp only [gU,if_false] at hzn;cases hz':z with
           | nil=>rw [hz'] at hzn;simp at hzn
           | cons a zr=>
             rw [hz'] at hzn hus hzl;simp only [Ym,zi] at hzn;simp only [ay] at hus;obtain ⟨u,ur,rfl,hu1,hu2⟩:=hus;obtain ⟨gz,k1,k2,k3⟩:=kK hzn hu1;rw [e1] at k1;cases k1;rw [GV.Fj k2];have:size=1:=by
              unfold GV.fJ at b5;rw [aI,GV.Fj k2] at b5;exact (bG b5.1).symm
             rw [this] at hzl;have mQ:zr=[]:=by apply jd;simpa using hzl
             subst mQ;simp only [ay] at hu2;subst hu2;simp only [dF];exact ay.cons ((jU _ _).1 k3) (by simp [ay])
        exact adG hz2 _ _ hvs) (by
         simp only [VR];exact ⟨⟨w.heap.size,0,xs.size,size⟩,by simp [Env.put],by simp [hsz,hcap,hlm],by simp [hsz,hcap]⟩) (by simp)
       exact ⟨_,_,_,hrun,q1,q2⟩
      ·cases g2
     ·cases g2
    ·cases hs
  ·cases hs
 ·cases hs
theorem JK:∀ {xs:List GV} {b:List UInt8},lH xs=some b->bytesOf (dF xs)=some b
 | [],b,h=>by simpa [lH,dF,bytesOf] using h
 | x::xs,b,h=>by
   unfold lH at h;split at h
   ·rename_i heq;cases heq
   ·next n rest heq=>
    cases heq;simp only [dF,jL,bytesOf];split at h
    ·next hc=>
     rw [aj hc];obtain ⟨b',hb',rfl⟩:=aW.1 h;rw [JK hb'];rfl
    ·cases h
   ·cases h
theorem ND:∀ {xs:List GV} {b:List UInt8},lH xs=some b->xs.flatMap GV.cells=xs
 | [],b,h=>rfl
 | x::xs,b,h=>by
   unfold lH at h;split at h
   ·rename_i heq;cases heq
   ·next n rest heq=>
    cases heq;split at h
    ·obtain ⟨b',hb',_⟩:=aW.1 h
     rw [jl,ND hb'];rfl
    ·cases h
   ·cases h
theorem ap1 (h:SR P η σ w) {src dst:TypeId} {a v:AV} {x:Value} (hs:QG P src dst a σ=some (v,σ')) (hx:VR η a x) :
 ∃y w' η',(convert src dst x).run P w=.ok y w'/\St P η σ w η' σ' w'/\VR η' v y:=by
 unfold QG at hs;split at hs
 ·next d k n h1 h2=>
  obtain ⟨v',hm,e1⟩:=aW.1 hs;cases e1;simp only [VR] at hx;obtain ⟨g,a1,a2,a3⟩:=hx;obtain ⟨_,g',_,b2,b3⟩:=kP (η:=η) hm;simp only [Nd.den,a1] at b2;split at b2
  ·next kk z e1=>
   cases e1;cases b2;simp only [GR] at a3;subst a3;obtain ⟨y,w',η',r1,r2,r3⟩:=JV h (src:=src) (dst:=dst) (a:=.i kk z) (v:=.i k (k.wrap z)) (σ':=σ) (by simp only [vV,h1,h2]) (by simp only [VR]:VR η (.i kk z) (.int kk z));exact ⟨y,w',η',r1,r2,by obtain ⟨_,g2,_,c2,c3⟩:=kP (η:=η') hm;simp only [Nd.den,a1,aT] at c2;subst c2;exact c3 y rfl ((jU _ _).2 r3)⟩
  ·cases b2
 ·next n h1 h2=>
  obtain ⟨v',hm,e1⟩:=aW.1 hs;cases e1;simp only [VR] at hx;obtain ⟨g,a1,a2,a3⟩:=hx;obtain ⟨_,g',_,b2,b3⟩:=kP (η:=η) hm;simp only [Nd.den,a1] at b2;split at b2
  ·next z e1=>
   cases e1;cases b2;simp only [GR] at a3;subst a3;obtain ⟨y,w',η',r1,r2,r3⟩:=JV h (src:=src) (dst:=dst) (a:=.s z) (v:=.s z) (σ':=σ) (by simp only [vV,h1,h2]) (by simp only [VR]:VR η (.s z) (.string ⟨⟨z⟩⟩));exact ⟨y,w',η',r1,r2,by obtain ⟨_,g2,_,c2,c3⟩:=kP (η:=η') hm;simp only [Nd.den,a1,aT] at c2;subst c2;exact c3 y rfl ((jU _ _).2 r3)⟩
  ·cases b2
 ·next e n h1 h2=>
  split at hs
  ·next h3=>
   split at hs
   ·next hc=>
    split at hs
    ·next m hm=>
     cases hs;simp only [VR] at hx;obtain ⟨g,a1,a2,a3⟩:=hx;obtain ⟨g',b1,b2⟩:=fK hm;simp only [Nd.den,a1] at b2;split at b2
     ·next z e1=>
      cases e1;cases b2;simp only [GR] at a3;subst a3;obtain ⟨y,w',η',r1,r2,r3⟩:=JV h (src:=src) (dst:=dst) (a:=.s z) (v:=.sl σ.next 0 z.length none) (σ':=σ.new (.cells (tN z) e true true)) (by simp only [vV,h1,h2,h3,aj hc]) (by simp only [VR]:VR η (.s z) (.string ⟨⟨z⟩⟩));obtain ⟨q1,q2⟩:=St.vF (f:=false) (size:=1) r2 b1 (by
       intro x hx;obtain ⟨c,_,rfl⟩:=mF.1 hx;exact ⟨rfl,rfl⟩) hc.2 (λvs hvs=>by rw [Zc];exact hvs) (by simpa [bK] using r3) (by simp)
      exact ⟨y,w',η',r1,q1,q2⟩
     ·cases b2
    ·cases hs
   ·cases hs
  ·cases hs
 ·next e h1 h2=>
  split at hs
  ·next h3=>
   split at hs
   ·next m hl=>
    obtain ⟨v',hm,e1⟩:=aW.1 hs;cases e1;obtain ⟨_,g',_,b2,b3⟩:=kP (η:=η) hm;simp only [Nd.den] at b2;split at b2
    ·next xs hv=>
     split at b2
     ·next h48=>
      obtain ⟨b,hb,rfl⟩:=aW.1 b2;have fin:∀ {τ:au} {A:AV},SR P η τ w->VR η A x->vV P src dst A τ=some (.s b,τ)->(∀ {η':Env} {w':World},St P η τ w η' τ w'->St P η σ w η' σ w')->∃y w' η',(convert src dst x).run P w=.ok y w'/\St P η σ w η' σ w'/\VR η' v y:=by
       intro τ A hS hA hA2 hst;obtain ⟨y,w',η',r1,r2,r3⟩:=JV hS hA2 hA;refine ⟨y,w',η',r1,hst r2, ?_⟩;obtain ⟨_,g2,_,c2,c3⟩:=kP (η:=η') hm;simp only [Nd.den,hv,aj h48,hb,gI,aT] at c2;subst c2;exact c3 y rfl ((jU _ _).2 r3)
      have hnil:lH xs=some b->xs=[]->b=[]:=by rintro h1 rfl;simpa [lH] using h1.symm
      unfold listOf at hl;split at hl
      ·next n=>
       cases hl;simp only [VR] at hx;obtain ⟨g,a1,a2,a3⟩:=hx;rw [hv] at a1;cases a1;exact fin h ((jU (.l xs) x).1 a3) (by simp only [jL,vV,h1,h2,h3,JK hb,gI]) (λh=>h)
      ·obtain ⟨g,g1,g2⟩:=fK hl
       rw [hv] at g1;cases g1;simp only [Nd.den,valsOf,gI,aT,GV.l.injEq] at g2;have:=hnil hb g2.symm;subst this;exact fin h hx (by simp only [vV,h1,h2,h3]) (λh=>h)
      ·next id n=>
       split at hl
       ·next m' et _ hg=>
        split at hl
        ·next hc=>
         cases hl;rw [aI] at hc;simp only [VR] at hx;obtain ⟨ys,k1,hx⟩:=hx;have hlen:=wC 100 hc.2 hv k1;rcases hx with ⟨q,hq,hle,rfl⟩ | ⟨_,rfl,rfl⟩
         ·obtain ⟨xs',j1,j2,j3,j4,j5,j6,j7,hS⟩:=Ja h hg hq
          rw [hv] at j1;cases j1;have hcg:bH xs=dF xs:=by unfold bH;rw [ND hb]
          have htk:takeN (bH xs) 0 xs.length=some (dF xs):=by
           rw [hcg];unfold takeN;rw [eP,jJ (by rw [kJ];omega),aj (kJ xs)]
          rw [hlen] at htk;refine fin (A:=.sl id 0 ys.length none) hS (by simp only [VR];exact ⟨q,hq,by simpa using hle,by simp⟩) ?_ (λhst=>aqA (λe=>by subst e;exact (h.at hg hq).Rh) hg hq hv j2 j7 (LJ hg hst));simp only [vV,h1,h2,h3,Aq,htk,JK hb,gI]
         ·have hxs:xs=[]:=jd (by simpa using hlen)
          have:=hnil hb hxs;subst this;exact fin h (A:=.dO) (by simp only [VR]) (by simp only [vV,h1,h2,h3]) (λh=>h)
        ·cases hl
       ·cases hl
      ·next id off len cap=>
       split at hl
       ·next c et rE opn size agg hg hsz hag=>
        split at hl
        ·next hc=>
         rw [aI,lS,aI] at hc;split at hl
         ·next cs hcs=>
          split at hl
          ·next ns hns=>
           have hagg:agg=false->size=1:=by
            intro e;subst e;rcases hc.2 with h1 | h1
            ·simp at h1
            ·exact bG h1
           obtain ⟨g,g1,g2⟩:=fK hl;rw [hv] at g1;cases g1;simp only [VR] at hx;obtain ⟨q,hq,hle,rfl⟩:=hx;obtain ⟨q',hq',ws,elem,fr,hblk,rr⟩:=h.obj _ _ hg rfl;rw [hq] at hq';cases hq';have hlc:=(pF hcs).2.1;obtain ⟨gs,k1,k2,k3,_,k5⟩:=Bq (η:=η) hagg len hns (rr.wH hcs) hlc;simp only [Nd.den,k1,gI,aT,GV.l.injEq] at g2;rw [g2] at k2 k3 k5;have hl1:len * size=len:=by
            cases len with
            | zero=>simp
            | succ n=>
              have hx0:xs[0]? = some (xs[0]'(by omega)):=cO (by omega);have h5:=(k5 _ (qK hx0)).1;have h6:(xs[0]'(by omega)).cells.length=1:=by
               cases xs with
               | nil=>simp at k2
               | cons y ys=>
                 cases y with
                 | i k n=>rfl
                 | b=>simp [lH] at hb
                 | s=>simp [lH] at hb
                 | l=>simp [lH] at hb
                 | g=>simp [lH] at hb
              rw [h6] at h5;rw [<- h5];simp
           have hcg:bH xs=dF xs:=by unfold bH;rw [ND hb]
           rw [hcg] at k3;have hxs:=JL (JK hb) k3;rw [hl1] at hcs hxs;refine ⟨.string ⟨⟨b⟩⟩,w,η, ?_,St.refl h, ?_⟩
           ·simp only [convert,aS,aV h1,aV h2,aQ,aV h3,Conv.bytesToString]
            rw [Ah hblk (rr.take hcs),hxs];simp only [aQ];rw [Xd _ (λ_ _ _=>rfl)];rfl
           ·obtain ⟨_,g2,_,c2,c3⟩:=kP (η:=η) hm
            simp only [Nd.den,hv,aj h48,hb,gI,aT] at c2;subst c2;exact c3 _ rfl (by simp only [GR])
          ·cases hl
         ·cases hl
        ·cases hl
       ·cases hl
      ·cases hl
     ·cases b2
    ·cases b2
   ·cases hs
  ·cases hs
 ·cases hs
end
end Go.aN
namespace Go.aN
set_option linter.unusedSimpArgs false
noncomputable section
variable [aF]
set_option linter.unusedSectionVars false
set_option linter.unusedVariables false
variable {P:Program} {η:Env} {σ σ':au} {w:World}
def CG (ro:Nat->Option Obj) (w:World) (b:Nat):Nat->Option Obj:=λk=>if k=b then w.heap[b]? else ro k
theorem Ql {ro:Nat->Option Obj} {w:World} (h:∀b o,ro b=some o->w.heap[b]? = some o) (b:Nat):∀k o,ro k=some o->CG ro w b k=some o:=by
 intro k o hk;unfold CG;split
 ·next e=>subst e;exact h _ _ hk
 ·exact hk
theorem St.freeze (h:SR P η σ w) {id:Nat} {o:aZ} {q:Place} (hg:σ.get id=some o) (ho:o.own=true) (hl:σ.lock<=id) (hq:η id=some q):St P η σ w ⟨η.pl,CG η.ro w q.bl,η.gh⟩ (σ.kill id) w:=by
 have hle:(η:Env).le ⟨η.pl,CG η.ro w q.bl,η.gh⟩:=⟨λ_ _ h=>h,Ql h.iy q.bl,λ_ h=>h⟩
 have sub:∀k u,(σ.kill id).get k=some u->k≠id/\σ.get k=some u:=by
  intro k u hk;rw [au.wz] at hk;split at hk
  ·cases hk
  ·next e=>exact ⟨e,hk⟩
 refine ⟨hle,⟨h.kZ,h.dom,λk u hk=>?_,h.je,λk u k' u' p p' a1 a2 a3 a4 a5 a6=>?_,λb u hb=>?_,λk u p a1 a2 a3=>?_,λp hp=>(h.tabs p hp).mono hle⟩,dN _,λ_ _ _=>rfl,λk u p a1 a2 a3 a4=>?_,rfl,rfl,rfl,rfl,dN _,λ_ h=>.inl h,λb hb=>?_⟩
 ·exact (h.live k u (sub k u hk).2).mono hle
 ·exact h.sep k u k' u' p p' (sub k u a1).2 a2 (sub k' u' a3).2 a4 a5 a6
 ·have hb':(if b=q.bl then w.heap[q.bl]? else η.ro b)=some u:=hb
  split at hb'
  ·next e=>rw [e];exact hb'
  ·exact h.iy b u hb'
 ·obtain ⟨e1,e2⟩:=sub k u a1
  show (if p.bl=q.bl then w.heap[q.bl]? else η.ro p.bl)=none
  have hne:=h.sep k u id o p q e2 a2 hg e1 a3 hq;rw [ah hne];exact h.kE k u p e2 a2 a3
 ·exact .inr ⟨k,u,p,(sub k u a1).2,a2,a3,a4,rfl⟩
 ·have hb':(if b=q.bl then w.heap[q.bl]? else η.ro b)≠none:=hb
  split at hb'
  ·next e=>exact .inr (.inr ⟨id,o,q,hg,ho,hl,hq,e.symm⟩)
  ·exact .inl hb'
theorem GR.Vz {η:Env} {w:World} {q:Place} {c:List AV} {et:TypeId} {rE opn:Bool} {ro':Nat->Option Obj} (h:OR P η q w (.cells c et rE opn)) (hro:∀b o,η.ro b=some o->ro' b=some o) (hq:ro' q.bl=w.heap[q.bl]?) {off n size cap:Nat} {cs:List AV} {gs:List GV} (ht:takeN c off (n * size)=some cs) (hn:gs.length=n) (hcap:n<=cap) (h0:0 < size)
 (hs:∀x∈gs,x.cells.length=size/\x.cells.all GV.scalar=true) (hc:∀ (η':Env) vs,(∀b o,η.ro b=some o->η'.ro b=some o)->ay η cs vs->ay η' (bH gs) vs):GR ro' (.l gs) (.slice (some ⟨q.bl,q.ba+off,none⟩) n cap):=by
 obtain ⟨ws,elem,fr,hb,r⟩:=h;have h1:=r.wH ht;have hfit:=r.take ht;obtain ⟨e1,e2,e3⟩:=pF ht;have h2:=hc ⟨η.pl,ro',η.gh⟩ _ hro h1;obtain ⟨ys,y1,y2,y3⟩:=ungroup gs _ h2 (λx hx=>(hs x hx).2);simp only [GR];right;refine ⟨q.bl,q.ba+off,cap,ys,size,by rw [hn],by rw [hn];exact hcap,y1,λy hy=>?_,λhne=>⟨ws,elem,fr,by rw [hq,hb], ?_, ?_⟩⟩
 ·obtain ⟨k,hk⟩:=Jo hy
  have hkl:k < gs.length:=by rw [y1.length];exact (dY.1 hk).1
  rw [y3 k _ y (cO hkl) hk];exact (hs _ (jo hkl)).1
 ·rw [y2]
  have hnp:0 < gs.length:=Me.2 hne;have hp:0 < n * size:=Js (by omega) h0;rw [jP,dW,FN];omega
 ·rw [y2]
  intro k x hk;rw [kM] at hk;split at hk
  ·rw [pU,sN] at hk;exact hk
  ·cases hk
theorem VR.aaK (h:SR P η σ w) {id n m et:Nat} {f:Bool} {x:Value} {ro':Nat->Option Obj} (hg:σ.get id=some (.vec m et f)) (hs:sG 100 m n=true) (hx:VR η (.sv id n) x) (hro:∀b o,η.ro b=some o->ro' b=some o) (hq:∀q,η id=some q->ro' q.bl=w.heap[q.bl]?) :
 ∃ys,aF.val m=some (.l ys)/\GR ro' (.l ys) x:=by
 simp only [VR] at hx;obtain ⟨ys,k1,hx⟩:=hx;rcases hx with ⟨q,hq1,hle,rfl⟩ | ⟨hgh,rfl,rfl⟩
 ·obtain ⟨xs,x1,x2,x3,x4,x5,x6,x7,x8⟩:=(h.at hg hq1).Io
  have hlen:=wC 100 hs x1 k1;refine ⟨xs,x1, ?_⟩;have hcl:=DT x2;have:=GR.Vz (ro':=ro') (off:=0) (n:=ys.length) (size:=q.es) (cap:=q.sz / q.es) (cs:=bH xs) (gs:=xs) x8 hro (hq q hq1) (by
   unfold takeN;rw [eP,<- hlen,jJ (by omega),aj hcl]) hlen hle x4 (λx hx=>⟨x2 x hx,x7 x hx⟩) (λη' vs hro hvs=>by
    unfold bH at hvs ⊢;exact (l9 _ _).1 (aO.mono hro _ _ ((l9 _ _).2 hvs)))
  simpa using this
 ·rcases h.live id _ hg with ⟨q,hq1,_⟩ | ⟨_,n2,TF,f2,e2,hv0⟩
  ·rw [(h.je id hgh).1] at hq1;cases hq1
  ·cases e2
   exact ⟨[],hv0,by simp [GR]⟩
theorem YD {η':Env} (hle:η.le η') {o:Option AV} {v:Option Value} (h:jV η o v):jV η' o v:=by
 cases o<;>cases v<;>first | exact h | exact VR.mono hle _ _ h
theorem St.am8 (h:SR P η σ w) {id m et k:Nat} {f:Bool} (hg:σ.get id=some (.vec m et f)) (hgh:η.gh id=true) (hv:aF.val k=some (.l [])):St P η σ w η (σ.put id (.vec k et f)) w:=by
 have get:∀i u,(σ.put id (.vec k et f)).get i=some u->(i=id/\u=.vec k et f)\/(i≠id/\σ.get i=some u):=by
  intro i u hi;rw [au.get_put] at hi;split at hi
  ·next e=>cases hi;exact .inl ⟨e,rfl⟩
  ·next e=>exact .inr ⟨e,hi⟩
 have hno:∀q,η id≠some q:=λq hq=>by rw [(h.je id hgh).1] at hq;cases hq
 refine ⟨Env.le.refl _,⟨h.kZ,h.dom,λi u hi=>?_,h.je,λi u i' u' q q' a1 a2 a3 a4 a5 a6=>?_,h.iy,λi u q a1 a2 a3=>?_,h.tabs⟩,dN _,λ_ _ _=>rfl,λi u q a1 a2 a3 a4=>?_,rfl,rfl,rfl,rfl,dN _,λ_ h=>.inl h,λ_ h=>.inl h⟩
 ·rcases get i u hi with ⟨rfl,rfl⟩ | ⟨_,h1⟩
  ·exact .inr ⟨hgh,k,et,f,rfl,hv⟩
  ·exact h.live i u h1
 ·rcases get i u a1 with ⟨rfl,_⟩ | ⟨_,h1⟩
  ·exact absurd a5 (hno q)
  ·rcases get i' u' a3 with ⟨rfl,_⟩ | ⟨_,h2⟩
   ·exact absurd a6 (hno q')
   ·exact h.sep i u i' u' q q' h1 a2 h2 a4 a5 a6
 ·rcases get i u a1 with ⟨rfl,_⟩ | ⟨_,h1⟩
  ·exact absurd a3 (hno q)
  ·exact h.kE i u q h1 a2 a3
 ·rcases get i u a1 with ⟨rfl,_⟩ | ⟨_,h1⟩
  ·exact absurd a4 (hno q)
  ·exact .inr ⟨i,u,q,h1,a2,a3,a4,rfl⟩
theorem ap9 (h:SR P η σ w) {t:TypeId} {a v:AV} {x:Value} {lo hi:Option AV} {lo' hi':Option Value} (hs:QO P t σ a lo hi=some (v,σ')) (hx:VR η a x) (hlo:jV η lo lo') (hhi:jV η hi hi') :
 ∃y w' η',(Instr.sliceAt t x lo' hi' none).run P w=.ok y w'/\St P η σ w η' σ' w'/\VR η' v y:=by
 unfold QO at hs;split at hs;rotate_left
 ·cases hs
 next e id n hu=>
 split at hs;rotate_left
 ·cases hs
 next m et f size hg hsz=>
 split at hs;rotate_left
 ·cases hs
 next hc=>
 simp only [aI] at hc;obtain ⟨⟨c1,c2⟩,c3⟩:=hc;have e1:=bG c1;subst e1;have hlk:=pX c3;cases lo with
 | some l0=>
   simp only at hs;obtain ⟨r,hr,e2⟩:=aW.1 hs;cases e2;have key:∀η1:Env,SR P η1 (σ.kill id) w->St P η σ w η1 (σ.kill id) w->VR η1 (.nd m) x->∃y w' η',(Instr.sliceAt t x lo' hi' none).run P w=.ok y w'/\St P η σ w η' (σ.kill id) w'/\VR η' v y:=by
    intro η1 h1 hst hv;obtain ⟨y,k1,k2⟩:=aei h1 hr hv (YD hst.ext hlo) (YD hst.ext hhi);exact ⟨y,w,η1,k1,hst,k2⟩
   have hx0:=hx;simp only [VR] at hx0;obtain ⟨ys,k1,hx0⟩:=hx0;rcases hx0 with ⟨q,hq1,hle,_⟩ | ⟨hgh,_,_⟩
   ·have hst:=St.freeze h hg rfl hlk hq1
    obtain ⟨zs,z1,z2⟩:=VR.aaK (ro':=CG η.ro w q.bl) h hg c2 hx (Ql h.iy q.bl) (λq' hq'=>by rw [hq1] at hq';cases hq';unfold CG;rw [aj rfl]);exact key _ hst.rel hst (by simp only [VR];exact ⟨_,z1,rfl,z2⟩)
   ·obtain ⟨zs,z1,z2⟩:=VR.aaK (ro':=η.ro) h hg c2 hx (λ_ _ h=>h) (λq' hq'=>by rw [(h.je id hgh).1] at hq';cases hq')
    have hst:=(St.refl h).O7 id;exact key η hst.rel hst (by simp only [VR];exact ⟨_,z1,rfl,z2⟩)
 | none=>
   simp only at hs;split at hs;rotate_left
   ·cases hs
   next z hh h1 h2=>
   obtain ⟨k,hk,e2⟩:=aW.1 hs;cases e2;obtain ⟨g,g1,g2⟩:=fK hk;simp only [Nd.den] at g2;split at g2;rotate_left
   ·cases g2
   next xs kl li kh hi2 e3 e4 e5=>
   split at g2;rotate_left
   ·cases g2
   next hc=>
   cases g2;obtain ⟨b1,b2,b3,b4⟩:=hc;have hz:li=0:=by
    obtain ⟨gz,z1,z2⟩:=fK h1;simp only [Nd.den,aT] at z2;subst z2;rw [e4] at z1;cases z1;rfl
   subst hz;have hlt:JH (none:Option AV)=some z:=h1;obtain ⟨lo2,hi3,d1,d2,d3⟩:=Xy (len:=xs.length) hlt h2 hlo hhi e4 e5 (λhd=>by simp only [Nd.den,e3,aT,GV.i.injEq] at hd;exact hd.2.symm) b1 b2 b3;have hlo2:(0:Int).toNat=0:=rfl;simp only [VR] at hx;obtain ⟨ys,y1,hx⟩:=hx;have hlen:=wC 100 c2 e3 y1;have hks:(xs.take hi2.toNat).drop (0:Int).toNat=xs.take hi2.toNat:=by simp
   rw [hks] at g1;have Kz:hi2.toNat<=xs.length:=by omega
   rcases hx with ⟨q,hq1,hle,rfl⟩ | ⟨hgh,rfl,rfl⟩
   ·have hor:=h.at hg hq1
    obtain ⟨xs',cs,elem,fr,zs,o1,o2,o3,o4,o5,o6,o7,o8,o9⟩:=hor;rw [e3] at o1;cases o1
    have hB:=Bg (P:=P) (w:=w) (sl:=true) (cap:=q.sz / q.es) d3 (λk hk=>by have:k<=xs.length:=by simpa using hk
                                                                          omega) (by omega) d1 d2
    have hes:0 < q.es/\sizeT P e=some q.es:=⟨(o7.room rfl).2.1,(o7.room rfl).2.2⟩
    have hne:size=q.es:=by have:=hes.2;rw [hsz] at this;cases this;rfl
    have hnew:OR P η q w (.vec k e f):=by
     have hz1:=o3.length;refine ⟨xs.take hi2.toNat,cs,elem,fr,zs.take hi2.toNat,g1,o2, ?_,λy hy=>o4 y (FZ hy), ?_, ?_,o7,λx hx=>o8 x (FZ hx),o9⟩
     ·have:∀ (xs:List GV) (zs:List Value) (n:Nat),aO η.ro xs zs->aO η.ro (xs.take n) (zs.take n):=by
       intro xs;induction xs with
       | nil=>intro zs n hg;simp only [aO] at hg;subst hg;simp [aO]
       | cons a l ih=>
         intro zs n hg;simp only [aO] at hg;obtain ⟨x,us,rfl,a1,a2⟩:=hg;cases n with
         | zero=>simp [aO]
         | succ n=>simp only [wP,aO];exact ⟨x,us.take n,rfl,a1,ih us n a2⟩
      exact this _ _ _ o3
     ·intro j x hj
      refine o5 j x ?_;have hpre:(dJ (zs.take hi2.toNat)) <+: dJ zs:=by
       unfold dJ;rw [show zs=zs.take hi2.toNat++zs.drop hi2.toNat from (xR _ _).symm];rw [Yk];simp only [xR];exact List.prefix_append _ _
      obtain ⟨r,hr⟩:=hpre;rw [<- hr,kT (dY.1 hj).1];exact hj
     ·rw [jP]
      refine iV (qL _ (Nat.min_le_right _ _)) o6
    have hst:=St.write h hg rfl hlk hq1 (w':=w) (o':=.vec k e f) rfl (λ_ _=>rfl) rfl rfl rfl hnew;refine ⟨.slice (some ⟨q.bl,q.ba,none⟩) hi2.toNat (q.sz / q.es),w,η, ?_,hst, ?_⟩
    ·rw [hlen] at hB
     simp only [Instr.sliceAt,Instr.slice,aV hu,aS,aQ,hB.1,iC hsz,bC];by_cases e0:q.sz / q.es=0
     ·simp [e0]
     ·have e1:¬ q.sz / q.es=(0:Int).toNat:=e0
      rw [ah e1];simp [oz]
    ·simp only [VR]
     refine ⟨xs.take hi2.toNat,g1,.inl ⟨q,hq1, ?_, ?_⟩⟩
     ·rw [jP];omega
     ·rw [jP,F8 Kz]
   ·have hxs:xs=[]:=jd (by simpa using hlen)
    subst hxs;have hh0:hi2.toNat=0:=by simpa using Kz
    have hl:yg P t σ .dO lo2 hi3=some .dO:=by
     simp only [yg,hu,hsz];simp only [qI] at d3;rw [d3];rfl
    obtain ⟨y,u1,u2⟩:=Qv h hl (show VR η .dO (.slice none 0 0) by simp only [VR]) d1 d2;simp only [VR] at u2;subst u2;have hvk:aF.val k=some (.l []):=by rw [g1];simp
    refine ⟨_,w,η,u1,St.am8 h hg hgh hvk, ?_⟩;simp only [VR];exact ⟨[],hvk,.inr ⟨hgh,by trivial,by trivial⟩⟩
end
end Go.aN
namespace Go.aN
set_option linter.unusedSimpArgs false
noncomputable section
variable [aF]
set_option linter.unusedSectionVars false
set_option linter.unusedVariables false
variable {P:Program} {η:Env} {σ σ':au} {w:World}
def qY (kk:Option IntKind):TypeDesc:=match kk with
 | some k=>.int k
 | none=>.string
theorem O6 {kt:TypeId} {k:AV} {n:Nat} {kk:Option IntKind} {y:Value} (h:KE P kt k=some (n,kk)) (hy:VR η k y) :
 P.underlying kt=some (qY kk)/\∃g,aF.val n=some g/\xE kk g/\GR η.ro g y:=by
 unfold KE at h;split at h
 ·next zU m hu hn=>
  split at h
  ·next z hz=>
   obtain ⟨j,hj,e⟩:=aW.1 h;cases e;obtain ⟨g,h1,_,h3⟩:=kK hn hy;obtain ⟨z',h4,h5⟩:=fK hz;simp only [Nd.den,aT] at h5;subst h5;obtain ⟨r,_,h7⟩:=fK hj;simp only [Nd.den,h1,h4] at h7;refine ⟨hu,g,h1, ?_,h3⟩;cases g<;>simp only [gu,bU,reduceCtorEq] at h7
   split at h7
   ·next e=>subst e;exact ⟨_,rfl⟩
   ·cases h7
  ·cases h
 ·next m hu hn=>
  split at h
  ·next z hz=>
   obtain ⟨j,hj,e⟩:=aW.1 h;cases e;obtain ⟨g,h1,_,h3⟩:=kK hn hy;obtain ⟨z',h4,h5⟩:=fK hz;simp only [Nd.den,aT] at h5;subst h5;obtain ⟨r,_,h7⟩:=fK hj;simp only [Nd.den,h1,h4] at h7;refine ⟨hu,g,h1, ?_,h3⟩;cases g<;>simp only [gu,uH,reduceCtorEq] at h7
   exact ⟨_,rfl⟩
  ·cases h
 ·cases h
theorem adN {k:IntKind} {a b:Int}:Instr.sameNow (.int k) (.int k a) (.int k b)=some (a==b):=by simp [Instr.sameNow]
theorem adP {a b:List UInt8}:Instr.sameNow .string (.string ⟨⟨a⟩⟩) (.string ⟨⟨b⟩⟩)=some (a==b):=by simp [Instr.sameNow,Dy]
theorem abm {kk:Option IntKind} {n:Nat} {e:AV} {g:GV} {x y:Value} {b:Bool} (h:UY n e=some b) (hg:aF.val n=some g) (hk:xE kk g) (hy:GR η.ro g y) (hx:VR η e x) :
 Instr.sameNow (qY kk) y x=some b:=by
 unfold UY at h;split at h
 ·next m hm=>
  obtain ⟨g',h1,_,h3⟩:=kK hm hx;have key:∃r,(Nd.bin .eql n m).den aF.I aF.val=some r/\r=.b b:=by
   split at h
   ·next b' hb=>
    cases h;obtain ⟨j,r,q1,q2,q3⟩:=kP (η:=η) hb;refine ⟨r,q2, ?_⟩;simp only [Nd.den,hg,h1] at q2;have:∃c,r=.b c:=by
     cases g<;>cases g'<;>simp only [gu,reduceCtorEq] at q2
     ·split at q2
      ·simp only [bU,aT] at q2;exact ⟨_,q2.symm⟩
      ·cases q2
     ·simp only [uH,aT] at q2;exact ⟨_,q2.symm⟩
    obtain ⟨c,rfl⟩:=this;have:=q3 (.bool c) rfl (by simp only [GR]);simp only [VR] at this;cases this;rfl
   ·next j hb=>
    split at h
    ·next b' hd=>
     cases h;obtain ⟨j',r,q1,q2,q3⟩:=kP (η:=η) hb;refine ⟨r,q2, ?_⟩;simp only [Nd.den,hg,h1] at q2;have:∃c,r=.b c:=by
      cases g<;>cases g'<;>simp only [gu,reduceCtorEq] at q2
      ·split at q2
       ·simp only [bU,aT] at q2;exact ⟨_,q2.symm⟩
       ·cases q2
      ·simp only [uH,aT] at q2;exact ⟨_,q2.symm⟩
     obtain ⟨c,rfl⟩:=this;have h8:=q3 (.bool c) rfl (by simp only [GR]);obtain ⟨v,hv,q4⟩:=DX hd;cases hv;have:=q4 η _ h8;simp only [VR] at this;cases this;rfl
    ·cases h
   ·cases h
  obtain ⟨r,q2,rfl⟩:=key;simp only [Nd.den,hg,h1] at q2;cases kk with
  | some k=>
    obtain ⟨a,rfl⟩:=hk;simp only [GR] at hy;subst hy;cases g'<;>simp only [gu,reduceCtorEq] at q2
    split at q2
    ·next e=>
     subst e;simp only [bU,aT,GV.b.injEq] at q2;simp only [GR] at h3;subst h3;show Instr.sameNow (.int _) _ _=_
     rw [adN,q2]
    ·cases q2
  | none=>
    obtain ⟨a,rfl⟩:=hk;simp only [GR] at hy;subst hy;cases g'<;>simp only [gu,uH,reduceCtorEq] at q2
    simp only [aT,GV.b.injEq] at q2;simp only [GR] at h3;subst h3;show Instr.sameNow .string _ _=_
    rw [adP,q2]
 ·cases h
theorem J7 {kk:Option IntKind} {n:Nat} {g:GV} {y:Value} (hg:aF.val n=some g) (hk:xE kk g) (hy:GR η.ro g y):∀ {es:List (AV×AV)} {ms:List MapEntry} {i:Nat} {r:Option (Nat×AV)},
 G8 n es i=some r->vP η es ms->∃r',Instr.findNow (qY kk) y ms i=some r'/\(match r,r' with | none,none=>True | some (_,v),some (_,z)=>VR η v z | _,_=>False)
 | [],ms,i,r,h,hm=>by
   simp only [G8,aT] at h;subst h;have:ms=[]:=by have:=hm.1;cases ms<;>simp_all
   subst this;exact ⟨none,rfl,trivial⟩
 | e::es,ms,i,r,h,hm=>by
   obtain ⟨m,rest,rfl,h1,h2,h3⟩:=hm.tail;unfold G8 at h;split at h
   ·next hs=>
    cases h;have hs:=abm hs hg hk hy h1;exact ⟨some (i,m.val),by simp [Instr.findNow,hs],h2⟩
   ·next hs=>
    have hs:=abm hs hg hk hy h1;obtain ⟨r',hr,hrel⟩:=J7 hg hk hy h h3;exact ⟨r',by simp [Instr.findNow,hs,hr],hrel⟩
   ·cases h
theorem adO {kk:Option IntKind} {g a:GV} {y x:Value} {ro:Nat->Option Obj} (hk:xE kk g) (ha:xE kk a) (hy:GR ro g y) (hx:GR ro a x):Instr.sameNow (qY kk) y x=some (mY g a):=by
 cases kk with
 | some k=>
   obtain ⟨m,rfl⟩:=hk;obtain ⟨n,rfl⟩:=ha;simp only [GR] at hy hx;subst hy;subst hx;show Instr.sameNow (.int _) _ _=_
   rw [adN];simp [mY]
 | none=>
   obtain ⟨m,rfl⟩:=hk;obtain ⟨n,rfl⟩:=ha;simp only [GR] at hy hx;subst hy;subst hx;show Instr.sameNow .string _ _=_
   rw [adP];rfl
theorem Oq {ro:Nat->Option Obj} {kk:Option IntKind} {sz:Option Nat} {g:GV} {y:Value} (hk:xE kk g) (hy:GR ro g y):∀ {xs:List GV} {ms:List MapEntry} {i:Nat},pW ro kk sz xs ms->
 (gW g xs=none/\Instr.findNow (qY kk) y ms i=some none)\/∃u j z,gW g xs=some u/\Instr.findNow (qY kk) y ms i=some (some (j,z))/\i<=j/\(∃m,ms[j - i]? = some m/\Instr.sameNow (qY kk) y m.key=some true)/\Jb sz u/\GR ro u z
 | [],ms,i,h=>by
   simp only [pW] at h;subst h;exact .inl ⟨rfl,rfl⟩
 | x::xs,ms,i,h=>by
   obtain ⟨a,b,m,rest,rfl,rfl,h1,h2,h3,h4,h5⟩:=h;have hs:=adO hk h1 hy h3;cases hb:mY g a with
   | true=>
     rw [hb] at hs;exact .inr ⟨b,i,m.val,by simp [gW,hb],by simp [Instr.findNow,hs],dN _,⟨m,by simp,hs⟩,h2,h4⟩
   | false=>
     rw [hb] at hs;rcases Oq (i:=i+1) hk hy h5 with ⟨q1,q2⟩ | ⟨u,j,z,q1,q2,q3,⟨m',q4,q5⟩,q6⟩
     ·exact .inl ⟨by simp [gW,hb,q1],by simp [Instr.findNow,hs,q2]⟩
     ·refine .inr ⟨u,j,z,by simp [gW,hb,q1],by simp [Instr.findNow,hs,q2],by omega,⟨m', ?_,q5⟩,q6⟩
      have:j - i=(j - (i+1))+1:=by omega
      rw [this];simpa using q4
theorem adt {ro:Nat->Option Obj} {kk:Option IntKind} {sz:Option Nat} {g u:GV} {e:MapEntry} (hk:xE kk g) (hu:Jb sz u) (h1:GR ro g e.key) (h2:GR ro u e.val):∀ {xs:List GV} {ms:List MapEntry},pW ro kk sz xs ms->gW g xs=none->
 pW ro kk sz (kD g u xs) (ms++[e])
 | [],ms,h,_=>by
   simp only [pW] at h;subst h;exact ⟨g,u,e,[],rfl,rfl,hk,hu,h1,h2,rfl⟩
 | x::xs,ms,h,hn=>by
   obtain ⟨a,b,m,rest,rfl,rfl,q1,q2,q3,q4,q5⟩:=h;simp only [gW] at hn;split at hn
   ·cases hn
   ·next hb=>
    simp only [kD,ah hb];exact ⟨a,b,m,rest++[e],rfl,rfl,q1,q2,q3,q4,adt hk hu h1 h2 q5 hn⟩
theorem adu {ro:Nat->Option Obj} {kk:Option IntKind} {sz:Option Nat} {g u:GV} {y z':Value} (hk:xE kk g) (hu:Jb sz u) (h1:GR ro g y) (h2:GR ro u z'):∀ {xs:List GV} {ms:List MapEntry} {i j:Nat} {z:Value},pW ro kk sz xs ms->Instr.findNow (qY kk) y ms i=some (some (j,z))->
 pW ro kk sz (kD g u xs) (ms.modify (j - i) λe=>{ e with key:=y,val:=z' })
 | [],ms,i,j,z,h,hf=>by
   simp only [pW] at h;subst h;simp [Instr.findNow] at hf
 | x::xs,ms,i,j,z,h,hf=>by
   obtain ⟨a,b,m,rest,rfl,rfl,q1,q2,q3,q4,q5⟩:=h;have hs:=adO hk q1 h1 q3;cases hb:mY g a with
   | true=>
     rw [hb] at hs;simp only [Instr.findNow,hs,aT,kH] at hf;obtain ⟨rfl,rfl⟩:=hf;simp only [kD,hb,if_true,xW];exact ⟨g,u, { m with key:=y,val:=z' },rest,rfl,by simp,hk,hu,h1,h2,q5⟩
   | false=>
     rw [hb] at hs;simp only [Instr.findNow,hs] at hf;have hj:i+1<=j:=by
      rcases Oq (i:=i+1) hk h1 q5 with ⟨_,r2⟩ | ⟨_,j',_,_,r2,r3,_⟩
      ·rw [hf] at r2;cases r2
      ·rw [hf] at r2;cases r2;exact r3
     have ih:=adu hk hu h1 h2 q5 hf;have e:j - i=(j - (i+1))+1:=by omega
     rw [e];simp only [kD,hb,gU,if_false,List.modify_succ_cons];exact ⟨a,b,m,_,rfl,rfl,q1,q2,q3,q4,ih⟩
theorem NK {kt:TypeId} {kk:Option IntKind} {g:GV} {y:Value} (hu:P.underlying kt=some (qY kk)) (hk:xE kk g) (hy:GR η.ro g y) (b:Bool):(Instr.checkKey b 10000 kt y).run P w=.ok () w:=by
 have H:∀n:Nat,(Instr.checkKey b (n+1) kt y).run P w=.ok () w:=λn=>by
  cases kk with
  | some k=>
    obtain ⟨m,rfl⟩:=hk;simp only [GR] at hy;subst hy;simp only [Instr.checkKey,aS,aV hu,aQ,qY,bC]
  | none=>
    obtain ⟨m,rfl⟩:=hk;simp only [GR] at hy;subst hy;simp only [Instr.checkKey,aS,aV hu,aQ,qY,bC]
 exact H 9999
theorem aeJ {et:TypeId} {v:AV} {n:Nat} {sz:Option Nat} {x:Value} (h:LP P et v=some (n,sz)) (hx:VR η v x):∃g,aF.val n=some g/\Jb sz g/\GR η.ro g x/\(match mX P et with
 | some true=>∃k,sizeT P et=some k/\sz=some k
 | some false=>sz=none
 | none=>False):=by
 unfold LP at h;split at h
 ·next ha=>
  split at h
  ·next n' k hn hk=>
   split at h
   ·next he=>
    cases h;obtain ⟨l,gs,rfl,h1,h2,h3,h4⟩:=Gn hn hx;rw [ha];refine ⟨_,h2,⟨gs,rfl, ?_,h3⟩,h4,k,hk,rfl⟩;rw [h1];exact bG he
   ·cases h
  ·cases h
 ·next ha=>
  obtain ⟨n',hn,e⟩:=aW.1 h;cases e;obtain ⟨g,h1,h2,h3⟩:=kK hn hx;rw [ha];exact ⟨g,h1,h2,h3,rfl⟩
 ·cases h
theorem O8 {a b:Option IntKind} (h:Ib a b=true):a=b:=by
 cases a<;>cases b<;>simp only [Ib] at h
 ·rfl
 ·cases h
 ·cases h
 ·rw [O4 h]
theorem Xz {a b:Option Nat} (h:LD a b=true):a=b:=by
 cases a<;>cases b<;>simp only [LD] at h
 ·rfl
 ·cases h
 ·cases h
 ·rw [bG h]
theorem XU {et:TypeId} {z:AV} (h:LV P et=some z):∃x,(zeroValue et).run P w=.ok x w/\VR η z x:=by
 unfold LV at h;split at h
 ·next i hi=>
  split at h
  ·next x hx=>
   obtain ⟨h3,h4⟩:=Rq (w:=w) (η:=η) hi hx h;exact ⟨x,h3,h4⟩
  ·cases h
 ·cases h
theorem ajl:∀ (cs:List GV) (n:Nat),cs.length=n->takeN (dF cs) 0 n=some (dF cs):=by
 intro cs n hn;have hl:(dF cs).length=n:=by rw [kJ,hn]
 simp only [takeN,eP];rw [jJ (by omega),aj hl]
theorem TS (s:ByteArray):∀ (l:List MapEntry) (i:Nat),(∀m∈l,∃t,m.key=.string t)->
 (∃j m,Instr.findNow .string (.string s) l i=some (some (j,m.val))/\m∈l/\m.key=.string s)\/(Instr.findNow .string (.string s) l i=some none/\∀m∈l,m.key≠.string s)
 | [],i,_=>.inr ⟨rfl,λm hm=>by simp at hm⟩
 | m::l,i,h=>by
   obtain ⟨t,ht⟩:=h m (by simp);have hs:Instr.sameNow .string (.string s) m.key=some (s==t):=by rw [ht];rfl
   have hbb:(s==t)=decide (s=t):=by
    obtain ⟨⟨a⟩⟩:=s;obtain ⟨⟨b⟩⟩:=t;rw [Dy];by_cases c:a=b
    ·subst c;simp
    ·rw [Bo (by simpa using c)];simpa using c
   by_cases c:s=t
   ·subst c
    rw [hbb,DY rfl] at hs;exact .inl ⟨i,m,by simp [Instr.findNow,hs],by simp,ht⟩
   ·rw [hbb,Bo c] at hs
    rcases TS s l (i+1) (λm hm=>h m (by simp [hm])) with ⟨j,m',h1,h2,h3⟩ | ⟨h1,h2⟩
    ·exact .inl ⟨j,m',by simp [Instr.findNow,hs,h1],by simp [h2],h3⟩
    ·refine .inr ⟨by simp [Instr.findNow,hs,h1],λm' hm'=>?_⟩
     simp only [dh] at hm';rcases hm' with rfl | hm'
     ·rw [ht];simpa using λe=>c e.symm
     ·exact h2 m' hm'
theorem aaB (s:ByteArray) {l l':List MapEntry} (hp:l.Perm l') (hk:∀m∈l',∃t,m.key=.string t) (hn:(l'.map (·.key)).Nodup) {r:Option (Nat×Value)} (h:Instr.findNow .string (.string s) l' 0=some r) :
 ∃r',Instr.findNow .string (.string s) l 0=some r'/\(match r,r' with | none,none=>True | some (_,v),some (_,z)=>v=z | _,_=>False):=by
 have hk2:∀m∈l,∃t,m.key=.string t:=λm hm=>hk m (hp.mem_iff.1 hm);have inj:∀m∈l',∀m'∈l',m.key=m'.key->m=m':=by
  clear hp hk h hk2;induction l' with
  | nil=>intro m hm;simp at hm
  | cons a l ih=>
    simp only [jq,Yu,mF,not_exists,not_and] at hn;intro m hm m' hm' e;simp only [dh] at hm hm';rcases hm with rfl | hm<;>rcases hm' with rfl | hm'
    ·rfl
    ·exact absurd e.symm (hn.1 m' hm')
    ·exact absurd e (hn.1 m hm)
    ·exact ih hn.2 m hm m' hm' e
 rcases TS s l' 0 hk with ⟨j,m,h1,h2,h3⟩ | ⟨h1,h2⟩<;>rcases TS s l 0 hk2 with ⟨j',m',h4,h5,h6⟩ | ⟨h4,h5⟩
 ·rw [h1] at h;cases h
  refine ⟨_,h4, ?_⟩;have:=inj m h2 m' (hp.mem_iff.1 h5) (by rw [h3,h6]);subst this;rfl
 ·exact absurd h3 (h5 m (hp.mem_iff.2 h2))
 ·exact absurd h6 (h2 m' (hp.mem_iff.1 h5))
 ·rw [h1] at h;cases h
  exact ⟨_,h4,trivial⟩
theorem ap7 (h:SR P η σ w) {t:TypeId} {m k v:AV} {x y:Value} {ok:Bool} (hs:QL P t m k ok σ=some v) (hx:VR η m x) (hy:VR η k y) :
 ∃z,(Instr.lookup t x y ok).run P w=.ok z w/\VR η v z:=by
 unfold QL at hs;split at hs;rotate_left
 ·cases hs
 next kt et id hu=>
 simp only [VR] at hx;obtain ⟨q,hq,rfl⟩:=hx;split at hs
 ·next n kk es hn hg=>
  obtain ⟨lW,g,g1,g2,g3⟩:=O6 hn hy;obtain ⟨q',hq',ms,clock,hb,hsz,hp⟩:=h.obj _ _ hg rfl;rw [hq] at hq';cases hq';have hmr:vP η es ms.toList:=⟨by simpa using hsz,λk e hk=>by obtain ⟨m,hm,h1,h2⟩:=hp k e hk;exact ⟨m,by simpa using hm,h1,h2⟩⟩
  rw [Px hu y ok hb];have hck:∀b,(Instr.checkKey b 10000 kt y).run P w=.ok () w:=λb=>NK lW g2 g3 b;split at hs
  ·next j u hf=>
   cases hs;obtain ⟨r',h1,h2⟩:=J7 g1 g2 g3 hf hmr;cases r' with
   | none=>exact h2.elim
   | some p=>
     obtain ⟨j',z⟩:=p;have hfk:(Instr.findKey kt y ms.toList).run P w=.ok (some (j',z)) w:=by simp only [Instr.findKey,aS,aV lW,aQ,h1,bC]
     refine ⟨if ok then .tuple #[z,.bool true] else z, ?_, ?_⟩
     ·simp only [qj,aS,aQ,hck,hfk,bC]
     ·cases ok
      ·simpa using h2
      ·simp only [VR];exact ⟨[z,.bool true],rfl,ay.cons h2 (ay.cons (by simp [VR]) (by simp [ay]))⟩
  ·next hf=>
   obtain ⟨r',h1,h2⟩:=J7 g1 g2 g3 hf hmr;cases r' with
   | some p=>exact h2.elim
   | none=>
     have hfk:(Instr.findKey kt y ms.toList).run P w=.ok none w:=by simp only [Instr.findKey,aS,aV lW,aQ,h1,bC]
     obtain ⟨a,ha,rfl⟩:=aW.1 hs;obtain ⟨z,h3,h4⟩:=XU (w:=w) (η:=η) ha;refine ⟨if ok then .tuple #[z,.bool false] else z, ?_, ?_⟩
     ·simp only [qj,aS,aQ,hck,hfk,h3,bC]
     ·cases ok
      ·simpa using h4
      ·simp only [VR];exact ⟨[z,.bool false],rfl,ay.cons h4 (ay.cons (by simp [VR]) (by simp [ay]))⟩
  ·cases hs
 ·next n kk es hn hg=>
  obtain ⟨lW,g,g1,g2,g3⟩:=O6 hn hy;obtain ⟨q',hq',hnd,ms,clock,ms',hb,hpm,hsz,hp⟩:=h.obj _ _ hg rfl;rw [hq] at hq';cases hq';split at hs;rotate_left
  ·cases hs
  next hkk=>
  have:=O8 hkk;subst this;have hmr:vP η (es.map λe=>(AV.s e.1,e.2)) ms':=⟨by simpa using hsz,λk e hk=>by
   rw [jm] at hk;obtain ⟨e0,h4,rfl⟩:=aW.1 hk;obtain ⟨m,hm,h1,h2⟩:=hp k e0 h4;exact ⟨m,hm,by simp only [VR];exact h1,h2⟩⟩
  have hkeys:ms'.map (·.key)=es.map λe=>Value.string ⟨⟨e.1⟩⟩:=by
   apply FY;intro k;rw [jm,jm];cases he:es[k]? with
   | none=>
     have:ms'[k]? = none:=by rw [List.getElem?_eq_none_iff] at he ⊢;omega
     rw [this];rfl
   | some e=>
     obtain ⟨m,hm,h1,_⟩:=hp k e he;rw [hm];simp [h1]
  have hks:∀m∈ms',∃t,m.key=.string t:=λm hm=>by
   have:m.key∈ms'.map (·.key):=List.mem_map_of_mem hm;rw [hkeys] at this;obtain ⟨e,_,h1⟩:=mF.1 this;exact ⟨_,h1.symm⟩
  have aa5:(ms'.map (·.key)).Nodup:=by
   rw [hkeys];have:(es.map λe=>Value.string ⟨⟨e.1⟩⟩)=(es.map (·.1)).map λs=>Value.string ⟨⟨s⟩⟩:=by simp
   rw [this];refine List.Pairwise.map _ (λa b hab hc=>hab ?_) hnd;simpa using hc
  obtain ⟨s,hs1,hs2⟩:∃s,y=.string s/\True:=by
   obtain ⟨s0,rfl⟩:=g2;simp only [GR] at g3;exact ⟨_,g3,trivial⟩
  subst hs1;rw [Px hu _ ok hb];have hck:∀b,(Instr.checkKey b 10000 kt (.string s)).run P w=.ok () w:=λb=>NK lW g2 g3 b;split at hs
  ·next j u hf=>
   cases hs;obtain ⟨r',h1,h2⟩:=J7 g1 g2 g3 hf hmr;cases r' with
   | none=>exact h2.elim
   | some p=>
     obtain ⟨j',z⟩:=p;obtain ⟨r2,h3,h4⟩:=aaB s hpm hks aa5 h1;cases r2 with
     | none=>exact h4.elim
     | some p2=>
     obtain ⟨j2,z2⟩:=p2;have h4:z=z2:=h4;subst h4;have hfk:(Instr.findKey kt (.string s) ms.toList).run P w=.ok (some (j2,z)) w:=by simp only [Instr.findKey,aS,aV lW,aQ,qY,h3,bC]
     refine ⟨if ok then .tuple #[z,.bool true] else z, ?_, ?_⟩
     ·simp only [qj,aS,aQ,hck,hfk,bC]
     ·cases ok
      ·simpa using h2
      ·simp only [VR];exact ⟨[z,.bool true],rfl,ay.cons h2 (ay.cons (by simp [VR]) (by simp [ay]))⟩
  ·next hf=>
   obtain ⟨r',h1,h2⟩:=J7 g1 g2 g3 hf hmr;cases r' with
   | some p=>exact h2.elim
   | none=>
     obtain ⟨r2,h3,h4⟩:=aaB s hpm hks aa5 h1;cases r2 with
     | some p2=>exact h4.elim
     | none=>
     have hfk:(Instr.findKey kt (.string s) ms.toList).run P w=.ok none w:=by simp only [Instr.findKey,aS,aV lW,aQ,qY,h3,bC]
     obtain ⟨a,ha,rfl⟩:=aW.1 hs;obtain ⟨z,h5,h6⟩:=XU (w:=w) (η:=η) ha;refine ⟨if ok then .tuple #[z,.bool false] else z, ?_, ?_⟩
     ·simp only [qj,aS,aQ,hck,hfk,h5,bC]
     ·cases ok
      ·simpa using h6
      ·simp only [VR];exact ⟨[z,.bool false],rfl,ay.cons h6 (ay.cons (by simp [VR]) (by simp [ay]))⟩
  ·cases hs
 ·next n kk j zU sz hn hg=>
  obtain ⟨lW,g,g1,g2,g3⟩:=O6 hn hy;obtain ⟨q',hq',xs,ms,clock,hv,hb,hp⟩:=h.obj _ _ hg rfl;rw [hq] at hq';cases hq';rw [Px hu y ok hb];have hck:∀b,(Instr.checkKey b 10000 kt y).run P w=.ok () w:=λb=>NK lW g2 g3 b;split at hs;rotate_left
  ·cases hs
  next hkk=>
  have:=O8 hkk;subst this;split at hs;rotate_left
  ·cases hs
  next zn sz' hz=>
  split at hs;rotate_left
  ·cases hs
  next hsz=>
  have:=Xz hsz;subst this;obtain ⟨za,hza,hzn⟩:=sZ.1 hz;obtain ⟨zv,z1,z2⟩:=XU (w:=w) (η:=η) hza;obtain ⟨zg,z3,z4,z5,z6⟩:=aeJ hzn z2;split at hs;rotate_left
  ·cases hs
  next u hu'=>
  obtain ⟨jn,hj,hpart⟩:=sZ.1 hu';obtain ⟨rg,r1,r2⟩:=fK hj;simp only [Nd.den,z3,hv,g1,aT] at r2;have fin:∀ (z:Value) (b:Bool),Jb sz rg->GR η.ro rg z->(gW g xs).isSome=b->qj kt et y ok ms=qj kt et y ok ms->(qj kt et y ok ms).run P w=.ok (if ok then .tuple #[z,.bool b] else z) w->∃z,(qj kt et y ok ms).run P w=.ok z w/\VR η v z:=by
   intro z b hok hgr hb' _ hrun;have hvu:VR η u z:=by
    obtain ⟨r,q1,q2⟩:=Xx (η:=η) r1 hpart;cases hag:mX P et with
    | none=>rw [hag] at z6;exact z6.elim
    | some ag=>
      rw [hag] at z6 q1;cases ag with
      | true=>
        obtain ⟨kn,k1,k2⟩:=z6;subst k2;obtain ⟨cs,rfl,c1,c2⟩:=hok;simp only [k1,GV.cells,ajl cs kn c1,gI,aT] at q1;subst q1;apply q2;simp only [GR] at hgr;obtain ⟨vs,rfl,hgs⟩:=hgr;simp only [VR];exact ⟨vs,rfl,(l9 _ _).1 hgs⟩
      | false=>
        simp only at z6;subst z6;have hsc:rg.scalar=true:=hok;have hc:rg.cells=[rg]:=by cases rg<;>first | rfl | (simp [GV.scalar] at hsc)
        simp only [hc,Kq,iG,gI,aT] at q1;subst q1;exact q2 _ ((jU _ _).1 hgr)
   cases ok with
   | false=>
     simp only [gU,if_false,aT] at hs hrun;subst hs;exact ⟨z,hrun,hvu⟩
   | true=>
     simp only [if_true] at hs hrun;split at hs
     ·next bb hbb=>
      cases hs;obtain ⟨_,gb,_,b2,b3⟩:=kP (η:=η) hbb;simp only [Nd.den,hv,g1,aT] at b2;subst b2;refine ⟨_,hrun, ?_⟩;simp only [VR];exact ⟨[z,.bool b],rfl,ay.cons hvu (ay.cons (b3 _ rfl (by simp only [GR];rw [hb'])) (by simp [ay]))⟩
     ·cases hs
  rcases Oq (i:=0) g2 g3 hp with ⟨q1,q2⟩ | ⟨u',j',z,q1,q2,_,_,q5,q6⟩
  ·have hfk:(Instr.findKey kt y ms.toList).run P w=.ok none w:=by simp only [Instr.findKey,aS,aV lW,aQ,q2,bC]
   rw [q1,uN] at r2;subst r2;refine fin zv false z4 z5 (by rw [q1];rfl) rfl ?_;simp only [qj,aS,aQ,hck,hfk,z1,bC]
  ·have hfk:(Instr.findKey kt y ms.toList).run P w=.ok (some (j',z)) w:=by simp only [Instr.findKey,aS,aV lW,aQ,q2,bC]
   rw [q1,oO] at r2;subst r2;refine fin z true q5 q6 (by rw [q1];rfl) rfl ?_;simp only [qj,aS,aQ,hck,hfk,bC]
 ·cases hs
theorem aoW {kk:Option IntKind} {g a:GV} {y x:Value} (hk:xE kk g) (hy:GR η.ro g y) (hs:Instr.sameNow (qY kk) y x=some true) (n:Nat):Instr.sameBits (n+1) x y=true:=by
 cases kk with
 | some k=>
   obtain ⟨m,rfl⟩:=hk;simp only [GR] at hy;subst hy;cases x<;>simp only [Instr.sameNow,qY,reduceCtorEq] at hs
   split at hs
   ·next e=>subst e;simp at hs;subst hs;simp [Instr.sameBits]
   ·cases hs
 | none=>
   obtain ⟨m,rfl⟩:=hk;simp only [GR] at hy;subst hy;cases x<;>simp only [Instr.sameNow,qY,reduceCtorEq] at hs
   next s=>
   obtain ⟨⟨l⟩⟩:=s;rw [Dy] at hs;simp only [Instr.sameBits,Dy];simp_all
theorem aeh (h:SR P η σ w) {t:TypeId} {m k v:AV} {x y z:Value} (hs:QN P t m k v σ=some σ') (hx:VR η m x) (hy:VR η k y) (hz:VR η v z) :
 ∃w',(Instr.mapUpdate t x y z).run P w=.ok () w'/\St P η σ w η σ' w':=by
 unfold QN at hs;split at hs;rotate_left
 ·cases hs
 next kt et id hu=>
 simp only [VR] at hx;obtain ⟨q,hq,rfl⟩:=hx;split at hs;rotate_left
 ·cases hs
 next hl=>
 have hl:=pX hl
 have main:∀ (o:aZ) (n:Nat) (kk:Option IntKind) (u:Nat) (sz:Option Nat) (j j':Nat) (xs:List GV) (ms:Array MapEntry) (clock:Nat),σ.get id=some o->o.own=true->KE P kt k=some (n,kk)->LP P et v=some (u,sz)->
  aF.val j=some (.l xs)->w.heap[q.bl]? = some (.map ms clock)->pW η.ro kk sz xs ms.toList->eH (.yH j n u)=some j'->∃w',(Instr.mapUpdate t (.map (some q.bl)) y z).run P w=.ok () w'/\St P η σ w η (σ.put id (.smap j' kk sz)) w':=by
  intro o n kk u sz j j' xs ms clock hg ho hn hvn hj hb hp hf;obtain ⟨lW,g,g1,g2,g3⟩:=O6 hn hy;obtain ⟨ug,u1,u2,u3,_⟩:=aeJ hvn hz;obtain ⟨rg,r1,r2⟩:=fK hf;simp only [Nd.den,hj,g1,u1,aT] at r2;subst r2;have hck:=NK (w:=w) lW g2 g3 false;have hgo:(getObj q.bl).run P w=.ok (.map ms clock) w:=by simp [getObj,Sem.run,hb]
  rcases Oq (i:=0) g2 g3 hp with ⟨q1,q2⟩ | ⟨u',i,zz,q1,q2,_,⟨m',q3,q4⟩,q5,q6⟩
  ·have hfk:(Instr.findKey kt y ms.toList).run P w=.ok none w:=by simp only [Instr.findKey,aS,aV lW,aQ,q2,bC]
   refine ⟨lg w q.bl (.map (ms.push { key:=y,val:=z,born:=clock }) (clock+1)), ?_,St.write h hg ho hl hq Aj (λk hk=>Ai hk) rfl rfl rfl ?_⟩
   ·simp only [Instr.mapUpdate,aS,aV hu,aQ,hgo,hck,hfk]
    exact IV hb (by simp)
   ·refine ⟨_,_,clock+1,r1,yO hb, ?_⟩
    rw [Array.toList_push];exact adt g2 u2 g3 u3 hp q1
  ·have hfk:(Instr.findKey kt y ms.toList).run P w=.ok (some (i,zz)) w:=by simp only [Instr.findKey,aS,aV lW,aQ,q2,bC]
   rw [Dp,sN] at q3;have UG:(Instr.keyThatStays (((ms[i]?).map (·.key)).getD y) y).run P w=.ok y w:=by
    rw [q3];simp only [gI,oO,Instr.keyThatStays];rw [aj (aoW (a:=g) g2 g3 q4 9999)];rfl
   refine ⟨lg w q.bl (.map (ms.modify i λe=>{ e with key:=y,val:=z }) clock), ?_,St.write h hg ho hl hq Aj (λk hk=>Ai hk) rfl rfl rfl ?_⟩
   ·simp only [Instr.mapUpdate,aS,aV hu,aQ,hgo,hck,hfk,UG]
    exact IV hb (by simp)
   ·refine ⟨_,_,clock,r1,yO hb, ?_⟩
    rw [Array.toList_modify];have:=adu (i:=0) g2 u2 g3 u3 hp q2;rwa [Dp] at this
 split at hs
 ·next n kk u sz hn hvn hg=>
  split at hs
  ·next j hj=>
   obtain ⟨j',hf,rfl⟩:=aW.1 hs;obtain ⟨q',hq',ms,clock,hb,hsz,hp⟩:=h.obj _ _ hg rfl;rw [hq] at hq';cases hq';obtain ⟨gl,l1,l2⟩:=fK hj;simp only [Nd.den,valsOf,gI,aT] at l2;subst l2;refine main _ n kk u sz j j' [] ms clock hg rfl hn hvn l1 hb ?_ hf;simp only [pW];have:ms.size=0:=by simpa using hsz
   simpa using XY this
  ·cases hs
 ·next n kk u sz j zU sz' hn hvn hg=>
  split at hs
  ·next hc=>
   rw [aI] at hc;have e1:=O8 hc.1;have e2:=Xz hc.2;subst e1;subst e2;obtain ⟨j',hf,rfl⟩:=aW.1 hs;obtain ⟨q',hq',xs,ms,clock,hv,hb,hp⟩:=h.obj _ _ hg rfl;rw [hq] at hq';cases hq';exact main _ n kk u sz j j' xs ms clock hg rfl hn hvn hv hb hp hf
  ·cases hs
 ·cases hs
theorem alb {v:AV} {x:Value} (h:mapArg v=true) (hx:VR η v x):∃k n,x=.int k n:=by
 unfold mapArg at h;split at h
 ·next n=>
  split at h
  ·next a hn=>
   obtain ⟨g,h1,h2⟩:=aF.oI _ _ hn (by simp);simp only [VR] at hx;obtain ⟨g',h3,_,h4⟩:=hx;rw [h1] at h3;cases h3;simp only [Nd.den] at h2;split at h2
   ·cases h2
    simp only [GR] at h4;exact ⟨_,_,h4⟩
   ·cases h2
  ·cases h
 ·next hne=>
  obtain ⟨n,hn⟩:=afh.1 h;obtain ⟨k,hk⟩:=wU hn hx;exact ⟨k,n,hk⟩
theorem abH {e:TypeId} {size len m:Nat} {cs:List AV} {vs:List Value} (h:Pn P e size len cs=some m) (hv:ay η cs vs):0 < size/\0 < len/\cs.length=len * size/\∃gs,aF.val m=some (.l gs)/\gs.length=len/\ay η (bH gs) vs/\∀x∈gs,x.cells.length=size/\x.cells.all GV.scalar=true:=by
 unfold Pn at h;split at h;rotate_left
 ·cases h
 split at h;rotate_left
 ·cases h
 next agg ha=>
 split at h;rotate_left
 ·cases h
 next hc=>
 simp only [aI,lS,iU] at hc;obtain ⟨⟨h1,h2⟩,h3⟩:=hc;have h3:=bG h3;have hpos:0 < size:=by
  rcases h1 with ⟨_,h1⟩ | h1
  ·exact h1
  ·have:=bG h1;omega
 have h11:agg=false->size=1:=by
  intro e;rcases h1 with ⟨h1,_⟩ | h1
  ·rw [e] at h1;cases h1
  ·exact bG h1
 split at h
 ·next ns hns=>
  obtain ⟨gs,k1,k2,k3,_,k5⟩:=Bq h11 len hns hv h3;obtain ⟨g,g1,g2⟩:=fK h;simp only [Nd.den,k1,gI,aT] at g2;subst g2;exact ⟨hpos,h2,h3,gs,g1,k2,k3,k5⟩
 ·cases h
theorem akV {R:Prop} {t e:TypeId} {size bytes len:Nat} {z:List AV} {ps:List (Nat×AV)} {qs:Array (Nat×Value)} {cs:List AV}
 (fin:∀ (v:AV) (τ:au),Pq P σ e size len cs=(some v,τ)->(∃y w' η',(Instr.buildSlice t len qs).run P w=.ok y w'/\St P η σ w η' τ w'/\VR η' v y)->R)
 (h:SR P η σ w) (hi:tV P t=some (e,size,bytes,z)) (hlen:¬ len * size > 2 ^ 24) (hf:xX (λi=>some (i * size,size)) (if len * size=0 then [] else iL len z) ps=some cs) (hp:zk η ps qs.toList):R:=by
 unfold Pq at fin;split at fin;rotate_left
 ·exact fin _ _ rfl (afL h hi hlen hf hp)
 next m hm=>
 refine fin _ _ rfl ?_;obtain ⟨hu,_,hz,he,hzl,hn⟩:=yA hi;obtain ⟨zv,mQ,hzv⟩:=CO hz;have hpos:0 < size/\0 < len:=by
  unfold Pn at hm;split at hm;rotate_left
  ·cases hm
  split at hm;rotate_left
  ·cases hm
  next agg ha=>
  split at hm;rotate_left
  ·cases hm
  next hc=>
  simp only [aI,lS,iU] at hc;refine ⟨?_,hc.1.2⟩;rcases hc.1.1 with ⟨_,h1⟩ | h1
  ·exact h1
  ·have:=bG h1;omega
 have h0:¬ len * size=0:=by
  have:=Js hpos.2 hpos.1;omega
 simp only [h0,if_false] at hf;obtain ⟨xs,Ky,hxs⟩:=G7 hf hp (LW (hzv η) hzl);have hl:=hxs.length;have hal:=zD h (c:=cs) (xs:=xs) (elem:=e) (es:=size) (opn:=true) (by rw [hl,xU];exact hxs) (by simpa using F7 hl) (by simp) (λ_=>⟨he,hpos.1,hn⟩);obtain ⟨_,_,hcl,gs,g1,g2,_,g4⟩:=abH hm hxs;have hsz:xs.size=len * size:=by rw [<- hcl,hl];simp
 have hdiv:xs.size / size=len:=by rw [hsz];exact YB _ hpos.1
 obtain ⟨q1,q2⟩:=St.vF (f:=false) (size:=size) (y:=.slice (some ⟨w.heap.size,0,none⟩) len len) hal g1 g4 hn (λvs hvs=>by
  obtain ⟨_,_,_,gs',k1,_,k3,_⟩:=abH hm hvs;rw [g1] at k1;cases k1;exact k3) (by
  simp only [VR];refine ⟨⟨w.heap.size,0,xs.size,size⟩,by simp [Env.put], ?_, ?_⟩
  ·simp only [uN,Dp]
   rw [hdiv,g2];simp
  ·simp only [uN,Dp,hdiv,g2,lG]) (by simp)
 refine ⟨_,_,_, ?_,q1,q2⟩;simp only [Instr.buildSlice,aS,aV hu,aQ,iC hn,rJ,ah hlen,h0,if_false,mQ,bC,Ky,newRow,newObj,Sem.run]
end
end Go.aN
namespace Go.aN
set_option linter.unusedSimpArgs false
noncomputable section
variable [aF]
set_option linter.unusedSectionVars false
set_option linter.unusedVariables false
variable {P:Program} {η:Env} {σ σ':au} {w:World}
structure TR (P:Program) (η:Env) (a:aU) (A:Act):Prop where
 gn:a.gn=P.globals.size
 size:A.tmps.size=a.n
 none:A.defers=[]
 slot:∀t v,a.t.get t=some v->∃x,A.tmps[t]? = some x/\VR η v x
theorem TR.mono {η η':Env} {a:aU} {A:Act} (h:TR P η a A) (hle:η.le η'):TR P η' a A:=
 ⟨h.gn,h.size,h.none,λt v hv=>by obtain ⟨x,hx,hr⟩:=h.slot t v hv;exact ⟨x,hx,VR.mono hle _ _ hr⟩⟩
theorem TR.put {a a':aU} {A:Act} {dst:Option Tmp} {r:Option AV} {x:Value} (h:TR P η a A) (hp:a.put dst r=some a') (hr:∀v,r=some v->VR η v x):TR P η a' (A.put dst x):=by
 unfold aU.put at hp;split at hp
 ·cases hp;exact h
 ·next d=>
  split at hp
  ·next hd=>
   cases hp;refine ⟨h.gn,by simp [Act.put,h.size],h.none,λt v hv=>?_⟩;rw [Tr.tZ] at hv;show ∃y,(A.tmps.setIfInBounds d x)[t]? = some y/\_
   rw [y7];split at hv
   ·next e=>
    subst e;rw [aj rfl,aj (by rw [h.size];exact hd)];exact ⟨x,rfl,hr v hv⟩
   ·next e=>rw [ah (λe'=>e e'.symm)];exact h.slot t v hv
  ·cases hp
theorem J5 {a:aU} {A:Act} (h:SR P η σ w) (ht:TR P η a A) (x:Operand) (v:AV) (hv:a.eval x=some v):VR η v (A.eval x):=by
 cases x with
 | tmp t=>
   obtain ⟨y,hy,hr⟩:=ht.slot t v hv;simp only [Act.eval];rw [vI,hy];exact hr
 | const c=>exact zY _ _ _ hv
 | global g=>
   simp only [aU.eval] at hv;split at hv
   ·next hg=>
    cases hv;rw [ht.gn] at hg;obtain ⟨sz,es,h1⟩:=h.kZ g (Nat.le_of_lt hg);simp only [VR,Act.eval];exact ⟨_,h1,by simp⟩
   ·cases hv
 | func f=>
   simp only [aU.eval,aT] at hv;subst hv;simp only [VR,Act.eval];exact ⟨[],[],rfl,by simp [ay],by simp [ay]⟩
def Ju (P:Program) (η:Env) (σ:au) (w:World) (r:Option AV) (σ':au) (s:Sem Next):Prop:=
 ∃nx w' η',s.run P w=.ok nx w'/\St P η σ w η' σ' w'/\(match r with | some v=>∃x,nx=.value x/\VR η' v x | none=>nx=.skip)
theorem dU {r:AV} {s:Sem Value} (h:∃y w' η',s.run P w=.ok y w'/\St P η σ w η' σ' w'/\VR η' r y):Ju P η σ w (some r) σ' (do pure (.value (<- s))):=by
 obtain ⟨y,w',η',h1,h2,h3⟩:=h;exact ⟨.value y,w',η',by simp only [aS,h1,aQ,bC],h2,y,rfl,h3⟩
theorem Ip {s:Sem Unit} (h:∃w' η',s.run P w=.ok () w'/\St P η σ w η' σ' w'):Ju P η σ w none σ' (do s;pure .skip):=by
 obtain ⟨w',η',h1,h2⟩:=h;exact ⟨.skip,w',η',by simp only [aS,h1,aQ,bC],h2,rfl⟩
theorem gY {r:AV} {s:Sem Value} (h:SR P η σ w) (hs:∃y,s.run P w=.ok y w/\VR η r y):∃y w' η',s.run P w=.ok y w'/\St P η σ w η' σ w'/\VR η' r y:=by
 obtain ⟨y,h1,h2⟩:=hs;exact ⟨y,w,η,h1,St.refl h,h2⟩
theorem iY {v:Option AV} {r:Option AV} (h:dL σ v=some (r,σ')):∃u,v=some u/\r=some u/\σ'=σ:=by
 simp only [dL,aW,kH] at h;obtain ⟨u,h1,h2,h3⟩:=h;exact ⟨u,h1,h2.symm,h3.symm⟩
theorem Af {v:Option (AV×au)} {r:Option AV} (h:qA v=some (r,σ')):∃u,v=some (u,σ')/\r=some u:=by
 simp only [qA,aW,Gf,kH] at h;obtain ⟨u,s,h1,h2,h3⟩:=h;subst h3;exact ⟨u,h1,h2.symm⟩
theorem WW {v:Option au} {r:Option AV} (h:Fb v=some (r,σ')):v=some σ'/\r=none:=by
 simp only [Fb,aW,kH] at h;obtain ⟨s,h1,h2,h3⟩:=h;subst h3;exact ⟨h1,h2.symm⟩
theorem afA {c:Value} {t:Bool} (h:VR η (.b t) c):(asBool c).run P w=.ok t w:=by
 simp only [VR] at h;subst h;rfl
theorem agc (h:SR P η σ w) {ts:Array TypeId} {ty t:TypeId} {x v:AV} {u:Value} (ht:ts[0]? = some t) (hs:Sj P t x σ=some (v,σ')) (hu:VR η x u) :
 ∃y w' η',(Builtin.clear_ ts ty #[u]).run P w=.ok y w'/\St P η σ w η' σ' w'/\VR η' v y:=by
 have hun:∀η':Env,VR η' (.dQ []) (.tuple #[]):=λη'=>by simp only [VR];exact ⟨[],rfl,by simp [ay]⟩
 unfold Sj at hs;split at hs
 ·next e hut=>
  cases hs;simp only [VR] at hu;subst hu;exact ⟨_,w,η,by simp only [Builtin.clear_,ht,AL,iG,aS,aV hut,aQ,bC],St.refl h,hun _⟩
 ·next e hut=>
  cases hs;simp only [VR] at hu;rcases hu with ⟨_,pa,rfl⟩ | ⟨bl,off,c,xs,sz,rfl,_⟩
  ·exact ⟨_,w,η,by cases pa<;>simp only [Builtin.clear_,ht,AL,iG,aS,aV hut,aQ,bC],St.refl h,hun _⟩
  ·exact ⟨_,w,η,by simp only [Builtin.clear_,ht,AL,iG,aS,aV hut,aQ,bC,qI],St.refl h,hun _⟩
 ·next e id off n cap hut=>
  simp only [VR] at hu;obtain ⟨q,hq,_,rfl⟩:=hu;split at hs
  ·next h0=>
   cases hs;subst h0;exact ⟨_,w,η,by simp only [Builtin.clear_,ht,AL,iG,aS,aV hut,aQ,bC],St.refl h,hun _⟩
  ·next h0=>
   split at hs
   ·next z c et opn hz hg=>
    split at hs
    ·next hc=>
     simp only [aW] at hs;obtain ⟨c',hr,e1⟩:=hs;cases e1;obtain ⟨zv,mQ,hzv⟩:=CO hz;have hzs:=LW (n:=n) (size:=z.length) (hzv η) rfl;have hlen:=(hzv η).length;have hone:(iL n z).all AV.lM=true:=by
      rw [List.all_eq_true];intro a ha;unfold iL at ha;simp only [List.mem_flatten,Yr] at ha;obtain ⟨l,⟨_,rfl⟩,ha⟩:=ha;exact List.all_eq_true.1 hc.2 a ha
     obtain ⟨w',hrun,hst⟩:=Rn h hg hc.1 hq hr hzs hone;refine ⟨_,w',η, ?_,hst,hun _⟩;have hzc:(Builtin.zeroCells zv.cells n)=(Array.range (n * z.length)).map (zv.cells[· % zv.cells.size]!):=by
      unfold Builtin.zeroCells;rw [hlen];simp
     obtain ⟨m,rfl⟩:∃m,n=m+1:=⟨n - 1,by omega⟩
     simp only [Builtin.clear_,ht,AL,iG,aS,aV hut,aQ,mQ];rw [hzc,hrun];rfl
    ·cases hs
   ·cases hs
 ·next k e hut=>
  cases hs;simp only [VR] at hu;subst hu;exact ⟨_,w,η,by simp only [Builtin.clear_,ht,AL,iG,aS,aV hut,aQ,bC],St.refl h,hun _⟩
 ·next k e id hut=>
  split at hs
  ·next es hg=>
   split at hs
   ·next hl=>
    cases hs;simp only [VR] at hu;obtain ⟨q,hq,rfl⟩:=hu;obtain ⟨q',hq',ms,clock,hb,hsz,_⟩:=h.obj _ _ hg rfl;rw [hq] at hq';cases hq';refine ⟨.tuple #[],lg w q.bl (.map #[] clock),η, ?_,St.write h hg rfl hl hq Aj (λk hk=>Ai hk) rfl rfl rfl ⟨#[],clock,yO hb,rfl,by simp⟩,hun _⟩;simp only [Builtin.clear_,ht,AL,iG,aS,aV hut,aQ,getObj,Sem.run,hb,IV hb (λ_ _ _=>by simp),bC]
   ·cases hs
  ·cases hs
 ·cases hs
theorem afN (h:SR P η σ w) {b:Builtin} {ts:Array TypeId} {ty:TypeId} {cs:Array Bool} {args:List AV} {vs:List Value} {r:Option AV} (hs:Dt P b ts args σ=some (r,σ')) (hv:ay η args vs) :
 Ju P η σ w r σ' (builtin b ts ty cs ⟨vs⟩):=by
 unfold Dt at hs;split at hs
 ·next x=>
  simp only [ay] at hv;obtain ⟨u,_,rfl,hu,rfl⟩:=hv;split at hs
  ·next t ht=>
   obtain ⟨v,h1,rfl,rfl⟩:=iY hs;exact dU (gY h (abE h ht h1 hu))
  ·cases hs
 ·next s x=>
  simp only [ay] at hv;obtain ⟨u,_,rfl,hu,u',_,rfl,hu',rfl⟩:=hv;obtain ⟨v,h1,rfl⟩:=Af hs;exact dU (afy h h1 hu hu')
 ·next s x=>
  simp only [ay] at hv;obtain ⟨u,_,rfl,hu,u',_,rfl,hu',rfl⟩:=hv;obtain ⟨v,h1,rfl⟩:=Af hs;exact dU (agv h h1 hu hu')
 ·next x=>
  simp only [ay] at hv;obtain ⟨u,_,rfl,hu,rfl⟩:=hv;split at hs
  ·next t ht=>
   obtain ⟨v,h1,rfl⟩:=Af hs;exact dU (agc h ht h1 hu)
  ·cases hs
 ·next x=>
  simp only [ay] at hv;obtain ⟨u,_,rfl,hu,rfl⟩:=hv;split at hs
  ·next t ht=>
   split at hs
   ·next e hun=>
    obtain ⟨v,h1,rfl,rfl⟩:=iY hs;cases h1;simp only [VR] at hu;subst hu;exact dU (gY h ⟨.int .i64 0,by simp [Builtin.cap_,ht,aV hun,goInt],by simp [VR]⟩)
   ·next e id off n c hun=>
    obtain ⟨v,h1,rfl,rfl⟩:=iY hs;cases h1;simp only [VR] at hu;obtain ⟨q,hq,_,rfl⟩:=hu;exact dU (gY h ⟨.int .i64 c,by simp [Builtin.cap_,ht,aV hun,goInt],by simp [VR]⟩)
   ·cases hs
  ·cases hs
 ·simp only [ay] at hv
  obtain ⟨u,_,rfl,hu,rfl⟩:=hv;obtain ⟨v,h1,rfl,rfl⟩:=iY hs;cases h1;simp only [VR] at hu;subst hu;exact dU (gY h ⟨_,ad1,by simp only [VR]⟩)
 ·next id off n cap=>
  split at hs
  ·cases hs
  ·next hc=>
   simp only [ay] at hv;obtain ⟨u,_,rfl,hu,rfl⟩:=hv;obtain ⟨v,h1,rfl,rfl⟩:=iY hs;cases h1;simp only [VR] at hu;obtain ⟨q,hq,hle,rfl⟩:=hu;refine dU (gY h ⟨_,ad2 ?_,by simp only [VR];exact ⟨q,hq,rfl⟩⟩);intro e;rw [e] at hle;have hn:n=0:=by omega
   subst hn;cases cap with
   | none=>exact hc ⟨rfl,.inl rfl⟩
   | some c=>simp only [oO] at e;subst e;exact hc ⟨rfl,.inr rfl⟩
 ·next x n=>
  simp only [ay] at hv;obtain ⟨u,_,rfl,hu,u',_,rfl,hu',rfl⟩:=hv;simp only [VR] at hu';subst hu';split at hs
  ·next t it hts=>
   have:=Ns hts;subst this;split at hs
   ·next h0=>
    subst h0;split at hs
    ·obtain ⟨v,h1,rfl,rfl⟩:=iY hs
     cases h1;simp only [VR] at hu;subst hu;exact dU (gY h ⟨_,XG,by simp only [VR]⟩)
    ·obtain ⟨v,h1,rfl,rfl⟩:=iY hs
     cases h1;simp only [VR] at hu;obtain ⟨q,hq,rfl⟩:=hu;exact dU (gY h ⟨_,XG,by simp only [VR]⟩)
    ·cases hs
   ·split at hs
    ·next id off=>
     split at hs
     ·next e c et opn hut hg=>
      split at hs
      ·next hc=>
       obtain ⟨rfl,c1,c2,c3,c4,c5⟩:=hc;split at hs
       ·next r' hr=>
        split at hs
        ·next b hb=>
         cases hs;simp only [VR] at hu;obtain ⟨q,hq,rfl⟩:=hu;obtain ⟨y,w',h1,h2,h3⟩:=aeH (it:=it) (ty:=ty) h hut hg c1 c2 c3 c4 c5 hr hb hq;exact dU ⟨y,w',η,h1,h2,h3⟩
        ·cases hs
       ·cases hs
      ·cases hs
     ·cases hs
    ·cases hs
  ·cases hs
 ·next x y=>
  simp only [ay] at hv;obtain ⟨u,_,rfl,hu,u',_,rfl,hu',rfl⟩:=hv;split at hs
  ·next a a' h1 h2=>
   obtain ⟨v,h3,rfl,rfl⟩:=iY hs;simp only [sZ] at h3;obtain ⟨z,hz,uj⟩:=h3;rw [yN h1 hu,yN h2 hu'];exact dU (gY h ⟨z,yL hz w,zY _ _ _ uj⟩)
  ·cases hs
 ·next x y=>
  simp only [ay] at hv;obtain ⟨u,_,rfl,hu,u',_,rfl,hu',rfl⟩:=hv;split at hs
  ·next a a' h1 h2=>
   obtain ⟨v,h3,rfl,rfl⟩:=iY hs;simp only [sZ] at h3;obtain ⟨z,hz,uj⟩:=h3;rw [yN h1 hu,yN h2 hu'];exact dU (gY h ⟨z,yL hz w,zY _ _ _ uj⟩)
  ·cases hs
 ·next x y z=>
  simp only [ay] at hv;obtain ⟨u,_,rfl,hu,u',_,rfl,hu',u'',_,rfl,aj1,rfl⟩:=hv;split at hs
  ·next a a' a'' h1 h2 h4=>
   obtain ⟨v,h3,rfl,rfl⟩:=iY hs;simp only [sZ] at h3;obtain ⟨z,hz,uj⟩:=h3;rw [yN h1 hu,yN h2 hu',yN h4 aj1];exact dU (gY h ⟨z,yL hz w,zY _ _ _ uj⟩)
  ·cases hs
 ·cases hs
end
end Go.aN
namespace Go.aN
set_option linter.unusedSimpArgs false
noncomputable section
variable [aF]
set_option linter.unusedSectionVars false
set_option linter.unusedVariables false
variable {P:Program} {η:Env} {σ σ':au} {w:World}
theorem aqz {pt it ty:TypeId} (p:Option Addr):(Builtin.unsafeString_ #[pt,it] ty #[.pointer p,.int .i64 0]).run P w=.ok (.string ⟨⟨[]⟩⟩) w:=XG
theorem ap0 (h:SR P η σ w) {b:Builtin} {ts:Array TypeId} {ty:TypeId} {cs:Array Bool} {args:List AV} {vs:List Value} {r:Option AV} (hs:Fq P b ts args σ=some (r,σ')) (hv:ay η args vs) :
 Ju P η σ w r σ' (builtin b ts ty cs ⟨vs⟩):=by
 unfold Fq at hs;have mm:∀ (big:Bool) {x y:AV} {m n:Nat} {v:AV} {u u':Value},ig x=some m->ig y=some n->jG (.mm big m n)=some v->VR η x u->VR η y u'->∃k a b',u=.int k a/\u'=.int k b'/\VR η v (.int k (if big then (if a < b' then b' else a) else (if b' < a then b' else a))):=by
  intro big x y m n v u u' hm hn hmk hu hu';obtain ⟨g1,a1,a2,a3⟩:=kK hm hu;obtain ⟨g2,b1,b2,b3⟩:=kK hn hu';obtain ⟨_,g,_,c2,c3⟩:=kP (η:=η) hmk;simp only [Nd.den,a1,b1] at c2;split at c2
  ·next k i k' j e1 e2=>
   cases e1;cases e2;split at c2
   ·next hk=>
    subst hk;cases c2;simp only [GR] at a3 b3;exact ⟨k,i,j,a3,b3,c3 _ rfl (by simp only [GR])⟩
   ·cases c2
  ·cases c2
 split at hs
 ·next x=>
  simp only [ay] at hv;obtain ⟨u,_,rfl,hu,rfl⟩:=hv;split at hs
  ·next t ht=>
   obtain ⟨v,h1,e⟩:=aW.1 hs;cases e;exact dU (gY h (ap5 ht h1 hu))
  ·cases hs
 ·next s x=>
  simp only [ay] at hv;obtain ⟨u,_,rfl,hu,u',_,rfl,hu',rfl⟩:=hv;obtain ⟨v,h1,e⟩:=aW.1 hs;cases e;exact dU (apY h h1 hu hu')
 ·next x y=>
  simp only [ay] at hv;obtain ⟨u,_,rfl,hu,u',_,rfl,hu',rfl⟩:=hv;split at hs
  ·next m n hm hn=>
   obtain ⟨v,h1,e⟩:=aW.1 hs;cases e;obtain ⟨k,a,b',rfl,rfl,h2⟩:=mm false hm hn h1 hu hu';refine dU (gY h ⟨_, ?_,h2⟩);simp [Builtin.min_,Builtin.min2]
  ·cases hs
 ·next x y=>
  simp only [ay] at hv;obtain ⟨u,_,rfl,hu,u',_,rfl,hu',rfl⟩:=hv;split at hs
  ·next m n hm hn=>
   obtain ⟨v,h1,e⟩:=aW.1 hs;cases e;obtain ⟨k,a,b',rfl,rfl,h2⟩:=mm true hm hn h1 hu hu';refine dU (gY h ⟨_, ?_,h2⟩);simp [Builtin.max_,Builtin.max2]
  ·cases hs
 ·next id n=>
  split at hs
  ·next m et hg=>
   split at hs
   ·next hsl=>
    cases hs;simp only [ay] at hv;obtain ⟨u,_,rfl,hu,rfl⟩:=hv;simp only [VR] at hu;obtain ⟨xs,k1,hu⟩:=hu;rcases hu with ⟨q,hq,hle,rfl⟩ | ⟨hgh,rfl,rfl⟩
    ·have hor:=h.at hg hq
     have hpos:=hor.Rh;obtain ⟨_,_,_,_,hes,_⟩:=hor.Io;have hcap:q.sz / q.es≠0:=by
      have:=Nat.div_pos hpos hes;omega
     exact dU (gY h ⟨_,ad2 hcap,by simp only [VR];exact ⟨xs,_,k1,rfl,λ_=>⟨q,hq,rfl⟩⟩⟩)
    ·exact dU (gY h ⟨_,ad1,by simp only [VR];exact ⟨[],_,k1,rfl,λhn=>absurd rfl hn⟩⟩)
   ·cases hs
  ·cases hs
 ·next id n k=>
  split at hs
  ·next t it hts=>
   have:=Ns hts;subst this;split at hs
   ·next e m et f hut hg=>
    split at hs
    ·next hc=>
     obtain ⟨rfl,c1,c2,c3⟩:=hc;split at hs
     ·next n' hk=>
      split at hs
      ·next hsl=>
       rw [aI] at hsl;obtain ⟨v,hm,e⟩:=aW.1 hs;cases e;simp only [ay] at hv;obtain ⟨u,_,rfl,hu,u',_,rfl,hu',rfl⟩:=hv;simp only [VR] at hu hu';obtain ⟨ys,p,k1,rfl,hp⟩:=hu;obtain ⟨gk,j1,_,j3⟩:=hu';obtain ⟨gk',j4,j5⟩:=aF.oI k _ hk (by simp);rw [j1] at j4;cases j4;obtain ⟨nn,gs,b1,b2,b3⟩:=kP (η:=η) hm;simp only [Nd.den] at b2;split at b2
       ·next xs hv=>
        split at b2
        ·next h48=>
         obtain ⟨b,hb,rfl⟩:=aW.1 b2;simp only [Nd.den] at j5;split at j5
         ·next zs hz=>
          cases j5;have hl1:=wC 100 hsl.1 hv k1;have hl2:=wC 100 hsl.2 hv hz;simp only [GR] at j3;subst j3;have fin:∀ {η':Env} (y:Value),VR η' (.s b) y->VR η' v y:=by
           intro η' y hy;obtain ⟨_,g2,_,d2,d3⟩:=kP (η:=η') hm;simp only [Nd.den,hv,aj h48,hb,gI,aT] at d2;subst d2;exact d3 y rfl ((jU _ _).2 hy)
          by_cases hx0:xs=[]
          ·subst hx0
           have hz0:zs.length=0:=hl2.symm;have hb0:b=[]:=by simpa [lH] using hb.symm
           subst hb0;rw [hz0];refine dU ⟨.string ⟨⟨[]⟩⟩,w,η,aqz p,(St.refl h).O7 id,fin _ (by simp only [VR])⟩
          ·have hy0:ys≠[]:=by intro e;rw [e] at hl1;exact hx0 (jd hl1)
           obtain ⟨q,hq,rfl⟩:=hp hy0;obtain ⟨xs',i1,i2,i3,i4,i5,i6,i7,hS⟩:=Ja h hg hq;rw [hv] at i1;cases i1;have hcg:bH xs=dF xs:=by unfold bH;rw [ND hb]
           have hpos:0 < xs.length:=Me.2 hx0;have htk:takeN (bH xs) 0 ((xs.length:Nat):Int).toNat=some (dF xs):=by
            rw [hcg];unfold takeN;rw [eP,jJ (by rw [kJ];simp),aj (by rw [kJ];simp)]
           have hfit:xs.length < 2 ^ 62:=by omega
           obtain ⟨y,w',r1,r2,r3⟩:=aeH (it:=it) (ty:=ty) (off:=0) (n:=xs.length) hS hut Aq c1 c2 (by omega) (by omega) c3 htk (JK hb) hq;rw [<- hl2];refine dU ⟨y,w',η,by simpa using r1, ?_,fin _ r3⟩;refine ((LJ hg r2).O7 id).sub (λk o hk=>?_) (dN _) rfl;rw [au.wz] at hk ⊢;split at hk
           ·cases hk
           ·next e1=>
            rw [ah e1];unfold jO;rw [au.get_put,ah e1,au.get_put,ah e1];exact hk
         ·cases j5
        ·cases b2
       ·cases b2
      ·cases hs
     ·cases hs
    ·cases hs
   ·cases hs
  ·cases hs
 ·cases hs
end
end Go.aN
namespace Go.aN
set_option linter.unusedSimpArgs false
noncomputable section
variable [aF]
set_option linter.unusedSectionVars false
set_option linter.unusedVariables false
variable {P:Program} {η:Env} {σ σ':au} {w:World}
def jT (P:Program) (f:FuncId) (args:Array Value) (w:World) (R:Value->World->Prop):Prop:=
 (∃v w',(callFunc f args).run P w=.ok (.value v) w'/\R v w')\/
 ((callFunc f args).run P w=.ok (.enter f args) w/\Calls P f args w λe w'=>∃v,e=.returned v/\R v w')
def oL (P:Program) (call:Caller):Prop:=∀f args σ r σ',call f args σ=some (r,σ')->∀η w vs,SR P η σ w->ay η args vs->
 jT P f ⟨vs⟩ w λv w'=>∃η',St P η σ w η' σ' w'/\VR η' r v
def BN:Op->Bool
 | .call { callee:=.value _,.. }=>true
 | .call { callee:=.invoke _ _,.. }=>true
 | _=>false
theorem ak7 {f:FuncId} {first caps:List AV} {us vs:List Value} (h1:ay η first us) (h2:ay η caps vs):∃y,(Instr.makeFunc (.func f) ⟨us⟩ ⟨vs⟩).run P w=.ok y w/\VR η (.fn f first caps) y:=
 ⟨_,rfl,by simp only [VR];exact ⟨us,vs,rfl,h1,h2⟩⟩
theorem Iq {ev:Operand->Option AV} {ρ:Operand->Value} (hρ:∀x a,ev x=some a->VR η a (ρ x)) {o:Option Operand} {r:Option AV} (h:ER ev o=some r):jV η r (o.map ρ):=by
 cases o with
 | none=>simp [ER] at h;subst h;trivial
 | some x=>
   simp only [ER,aW] at h;obtain ⟨a,ha,rfl⟩:=h;exact hρ _ _ ha
theorem Eo {α β:Type} (a:Array α) (f:α->β):a.map f=⟨a.toList.map f⟩:=by
 apply Jg;simp
set_option maxHeartbeats 1000000 in
theorem acG (h:SR P η σ w) {call:Caller} {o:Oper} {ev:Operand->Option AV} {ρ:Operand->Value} (hρ:∀x a,ev x=some a->VR η a (ρ x)) (hc:BN o.op=false) {r:Option AV}
 (hs:oP P call o ev σ=some (r,σ')):Ju P η σ w r σ' (execOp ρ o):=by
 unfold oP at hs;unfold execOp;split at hs
 ·next x he=>rw [he];obtain ⟨v,h1,rfl,rfl⟩:=iY hs;exact ⟨_,w,η,rfl,St.refl h,_,rfl,hρ _ _ h1⟩
 ·next x he=>rw [he];obtain ⟨v,h1,rfl,rfl⟩:=iY hs;exact ⟨_,w,η,rfl,St.refl h,_,rfl,hρ _ _ h1⟩
 ·next c a b he=>
  rw [he];split at hs
  ·next t hcv=>
   obtain ⟨vd,hvd,hcv⟩:=DX hcv;obtain ⟨v,h1,rfl,rfl⟩:=iY hs;refine ⟨.value (if t then ρ a else ρ b),w,η, ?_,St.refl h,_,rfl, ?_⟩
   ·simp only [aS,afA (hcv _ _ (hρ _ _ hvd)),aQ,bC]
   ·cases t
    ·exact hρ _ _ h1
    ·exact hρ _ _ h1
  ·cases hs
 ·next t he=>
  rw [he];simp only [aW] at hs;obtain ⟨z,hz,e⟩:=hs;cases e;exact dU (afu h hz)
 ·next t x he=>
  rw [he];simp only [aW] at hs;obtain ⟨z,hz,e⟩:=hs;cases e;exact dU (Y9 h (hρ _ _ hz))
 ·next t parts he=>
  rw [he];split at hs
  ·next ps hps=>
   obtain ⟨v,h1,rfl,rfl⟩:=iY hs;exact dU (gY h (afM h1 (by rw [Eo];exact TI hρ hps)))
  ·cases hs
 ·next t len parts he=>
  rw [he];split at hs
  ·next e size bytes z ps hi hps=>
   split at hs
   ·cases hs
   ·next hlen=>
    split at hs
    ·next cs hf=>
     have e1:=Dq hs;refine akV (t:=t) (qs:=parts.map λ(i,x)=>(i,ρ x)) (λv τ e2 hr=>?_) h hi hlen hf (by rw [Eo];exact TI hρ hps);rw [e2] at e1;cases e1;exact dU hr
    ·cases hs
  ·cases hs
 ·next t a he=>
  rw [he];split at hs
  ·next av hav=>
   obtain ⟨v,h1,rfl,rfl⟩:=iY hs;rcases rZ h1 with h1 | h1
   ·exact dU (gY h (BU h h1 (hρ _ _ hav)))
   ·exact dU (gY h (ap6 h h1 (hρ _ _ hav)))
  ·cases hs
 ·next t a x he=>
  rw [he];split at hs
  ·next av xv hav hxv=>
   obtain ⟨h1,rfl⟩:=WW hs;rcases rZ h1 with h1 | h1
   ·obtain ⟨w',h2,h3⟩:=QD h h1 (hρ _ _ hav) (hρ _ _ hxv)
    exact Ip ⟨w',η,h2,h3⟩
   ·obtain ⟨w',h2,h3⟩:=aqa h h1 (hρ _ _ hav) (hρ _ _ hxv)
    exact Ip ⟨w',η,h2,h3⟩
  ·cases hs
 ·next x he=>
  rw [he];split at hs
  ·next id off hxv=>
   obtain ⟨v,h1,rfl,rfl⟩:=iY hs;cases h1;have hv:=hρ _ _ hxv;simp only [VR] at hv;obtain ⟨q,hq,hv⟩:=hv;exact ⟨.value (ρ x),w,η,by simp only [hv];rfl,St.refl h,_,rfl,hρ _ _ hxv⟩
  ·next b off hxv=>
   obtain ⟨v,h1,rfl,rfl⟩:=iY hs;cases h1;have hv:=hρ _ _ hxv;simp only [VR] at hv;obtain ⟨bl,base,cs,elem,fr,y,_,_,hv,_⟩:=hv;exact ⟨.value (ρ x),w,η,by simp only [hv];rfl,St.refl h,_,rfl,hρ _ _ hxv⟩
  ·next m off hxv=>
   obtain ⟨v,h1,rfl,rfl⟩:=iY hs;cases h1;have hv:=hρ _ _ hxv;simp only [VR] at hv;obtain ⟨g,bl,base,cs,elem,fr,y,_,_,_,hv,_⟩:=hv;exact ⟨.value (ρ x),w,η,by simp only [hv];rfl,St.refl h,_,rfl,hρ _ _ hxv⟩
  ·next id m off hxv=>
   obtain ⟨v,h1,rfl,rfl⟩:=iY hs;cases h1;have hv:=hρ _ _ hxv;simp only [VR] at hv;obtain ⟨q,kk,i,_,_,hv⟩:=hv;exact ⟨.value (ρ x),w,η,by simp only [hv];rfl,St.refl h,_,rfl,hρ _ _ hxv⟩
  ·next f fs cs hxv=>
   obtain ⟨v,h1,rfl,rfl⟩:=iY hs;cases h1;have hv:=hρ _ _ hxv;simp only [VR] at hv;obtain ⟨us,vs,hv,_⟩:=hv;exact ⟨.value (ρ x),w,η,by simp only [hv];rfl,St.refl h,_,rfl,hρ _ _ hxv⟩
  ·cases hs
 ·next op t x y _ he=>
  rw [he];split at hs
  ·next a b ha hb=>
   obtain ⟨v,h1,rfl,rfl⟩:=iY hs;rcases rZ h1 with h1 | h1
   ·exact dU (gY h (afH h h1 (hρ _ _ ha) (hρ _ _ hb)))
   ·exact dU (gY h (apZ h1 (hρ _ _ ha) (hρ _ _ hb)))
  ·cases hs
 ·next op t x he=>
  rw [he];split at hs
  ·next a ha=>
   split at hs
   ·next u hu=>
    obtain ⟨v,h1,rfl,rfl⟩:=iY hs;simp only [sZ] at h1;obtain ⟨z,hz,uj⟩:=h1;have hrun:(Op.unary op (ρ x)).run P w=.ok z w:=by rw [yN hu (hρ _ _ ha)];exact yL hz w
    exact dU (gY h ⟨z,hrun,zY _ _ _ uj⟩)
   ·obtain ⟨v,h1,rfl,rfl⟩:=iY hs
    exact dU (gY h (aqb h1 (hρ _ _ ha)))
  ·cases hs
 ·next src dst x he=>
  rw [he];split at hs
  ·next a ha=>
   obtain ⟨v,h1,rfl⟩:=Af hs;rcases rZ h1 with h1 | h1
   ·exact dU (JV h h1 (hρ _ _ ha))
   ·exact dU (ap1 h h1 (hρ _ _ ha))
  ·cases hs
 ·next t x he=>
  rw [he];split at hs
  ·next a ha hi=>
   obtain ⟨v,h1,rfl,rfl⟩:=iY hs;cases h1;exact dU (gY h (ak8 hi (hρ _ _ ha)))
  ·cases hs
 ·next f first caps he=>
  rw [he];split at hs
  ·next fs cs hfs hcs=>
   obtain ⟨v,h1,rfl,rfl⟩:=iY hs;cases h1;simp only [Eo];exact dU (gY h (ak7 (GZ hρ hfs) (GZ hρ hcs)))
  ·cases hs
 ·next t r' he=>
  rw [he];split at hs
  ·cases hs
   exact dU (ab1 h (.inl rfl))
  ·next x=>
   split at hs
   ·next a kt et ha hu=>
    split at hs
    ·next hm=>
     cases hs;obtain ⟨k,n,hk⟩:=alb hm (hρ _ _ ha);exact dU (ab1 h (.inr ⟨k,n,kt,et,by simp [hk],hu⟩))
    ·cases hs
   ·cases hs
 ·next t l c he=>
  rw [he];split at hs
  ·next a b ha hb=>
   obtain ⟨v,h1,rfl⟩:=Af hs;rcases rZ h1 with h1 | h1
   ·exact dU (ak9 h h1 (hρ _ _ ha) (hρ _ _ hb))
   ·exact dU (ap8 h h1 (hρ _ _ ha) (hρ _ _ hb))
  ·cases hs
 ·next t x lo hi he=>
  rw [he];split at hs
  ·next a lo' hi' ha hlo hhi=>
   rcases rZ hs with hs | hs
   ·obtain ⟨v,h1,rfl,rfl⟩:=iY hs
    rcases rZ h1 with h1 | h1
    ·exact dU (gY h (Qv h h1 (hρ _ _ ha) (Iq hρ hlo) (Iq hρ hhi)))
    ·exact dU (gY h (aei h h1 (hρ _ _ ha) (Iq hρ hlo) (Iq hρ hhi)))
   ·obtain ⟨v,h1,rfl⟩:=Af hs
    exact dU (ap9 h h1 (hρ _ _ ha) (Iq hρ hlo) (Iq hρ hhi))
  ·cases hs
 ·next t x f he=>
  rw [he];split at hs
  ·next a ha=>
   obtain ⟨v,h1,rfl,rfl⟩:=iY hs;rcases rZ h1 with h1 | h1
   ·exact dU (gY h (aiI h1 (hρ _ _ ha)))
   ·exact dU (gY h (ap2 h1 (hρ _ _ ha)))
  ·cases hs
 ·next t x f he=>
  rw [he];split at hs
  ·next a ha=>
   obtain ⟨v,h1,rfl,rfl⟩:=iY hs;exact dU (gY h (aiJ h1 (hρ _ _ ha)))
  ·cases hs
 ·next t x ix he=>
  rw [he];split at hs
  ·next a k ha hk=>
   obtain ⟨v,h1,rfl,rfl⟩:=iY hs;rcases rZ h1 with h1 | h1
   ·exact dU (gY h (OZ h1 (hρ _ _ ha) (hρ _ _ hk)))
   ·exact dU (gY h (ap3 h h1 (hρ _ _ ha) (hρ _ _ hk)))
  ·cases hs
 ·next t x ix he=>
  rw [he];split at hs
  ·next a k ha hk=>
   obtain ⟨v,h1,rfl,rfl⟩:=iY hs;rcases rZ h1 with h1 | h1
   ·exact dU (gY h (UN h1 (hρ _ _ ha) (hρ _ _ hk)))
   ·exact dU (gY h (ap4 h1 (hρ _ _ ha) (hρ _ _ hk)))
  ·cases hs
 ·next t m k ok he=>
  rw [he];split at hs
  ·next a b ha hb=>
   obtain ⟨v,h1,rfl,rfl⟩:=iY hs;rcases rZ h1 with h1 | h1
   ·exact dU (gY h (akX h h1 (hρ _ _ ha) (hρ _ _ hb)))
   ·exact dU (gY h (ap7 h h1 (hρ _ _ ha) (hρ _ _ hb)))
  ·cases hs
 ·next t m k x he=>
  rw [he];split at hs
  ·next a b c ha hb hc'=>
   obtain ⟨h1,rfl⟩:=WW hs;rcases rZ h1 with h1 | h1
   ·obtain ⟨w',h2,h3⟩:=ab3 h h1 (hρ _ _ ha) (hρ _ _ hb) (hρ _ _ hc')
    exact Ip ⟨w',η,h2,h3⟩
   ·obtain ⟨w',h2,h3⟩:=aeh h h1 (hρ _ _ ha) (hρ _ _ hb) (hρ _ _ hc')
    exact Ip ⟨w',η,h2,h3⟩
  ·cases hs
 ·next t m k x he=>
  rw [he];split at hs
  ·next a b c ha hb hc'=>
   obtain ⟨h1,rfl⟩:=WW hs;rcases rZ h1 with h1 | h1
   ·obtain ⟨w',h2,h3⟩:=ab3 h h1 (hρ _ _ ha) (hρ _ _ hb) (hρ _ _ hc')
    exact Ip ⟨w',η,h2,h3⟩
   ·obtain ⟨w',h2,h3⟩:=aeh h h1 (hρ _ _ ha) (hρ _ _ hb) (hρ _ _ hc')
    exact Ip ⟨w',η,h2,h3⟩
  ·cases hs
 ·next t x he=>
  rw [he];split at hs
  ·next s hu hx=>
   cases hs;have hv:=hρ _ _ hx;simp only [VR] at hv;simp only [hv];exact dU (anH h hu)
  ·next k e hu hx=>
   cases hs;have hv:=hρ _ _ hx;simp only [VR] at hv;simp only [hv];exact dU (anF h hu)
  ·next k e id hu hx=>
   split at hs
   ·next es hg=>
    cases hs;exact dU (anG h hu hg (hρ _ _ hx))
   ·cases hs
  ·cases hs
 ·next it he=>
  rw [he];split at hs
  ·next a ha=>
   obtain ⟨v,h1,rfl⟩:=Af hs;obtain ⟨y,w',h2,h3,h4⟩:=al0 (ty:=o.type) h h1 (hρ _ _ ha);exact dU ⟨y,w',η,h2,h3,h4⟩
  ·cases hs
 ·next it he=>
  rw [he];have hov:VR η (.dQ [.b false]) (.tuple #[.bool false]):=by simp only [VR];exact ⟨[_],rfl,ay.cons (by simp only [VR]) (by simp [ay])⟩
  split at hs
  ·next id ha=>
   split at hs
   ·next hg=>
    cases hs;exact dU (gY h ⟨_,alY (ty:=o.type) h hg (hρ _ _ ha),hov⟩)
   ·next m hg=>
    split at hs
    ·next hm=>
     cases hs;exact dU (gY h ⟨_,alZ (ty:=o.type) h hg hm (hρ _ _ ha),hov⟩)
    ·cases hs
   ·cases hs
  ·cases hs
 ·next x xt t ok he=>
  rw [he];split at hs
  ·next a ha=>
   obtain ⟨v,h1,rfl,rfl⟩:=iY hs;exact dU (gY h (aqt h1 (hρ _ _ ha)))
  ·cases hs
 ·next x k he=>
  rw [he];split at hs
  ·next l ha=>
   obtain ⟨v,h1,rfl,rfl⟩:=iY hs;exact dU (gY h (ah4 h1 (hρ _ _ ha)))
  ·cases hs
 ·next c he=>
  rw [he];split at hs
  ·next args hargs=>
   split at hs
   ·next b hb=>
    have hv:=GZ hρ hargs;have hs:Dt P b c.argTypes args σ=some (r,σ')\/Fq P b c.argTypes args σ=some (r,σ'):=by
     cases hsf:Xv b args with
     | true=>rw [hsf,cond_true] at hs;exact (rZ hs).symm
     | false=>rw [hsf,cond_false] at hs;exact rZ hs
    rcases hs with hs | hs
    ·have hres:=afN (cs:=c.args.map fun | .const _=>true | _=>false) (ty:=o.type) h hs hv
     simp only [resolve,hb,Eo,pure_bind,invoke];rw [Eo] at hres;exact hres
    ·have hres:=ap0 (cs:=c.args.map fun | .const _=>true | _=>false) (ty:=o.type) h hs hv
     simp only [resolve,hb,Eo,pure_bind,invoke];rw [Eo] at hres;exact hres
   ·next f hf=>
    rw [he] at hc;exfalso;obtain ⟨callee,args,at'⟩:=c;simp only at hf;subst hf;simp [BN] at hc
   ·next f name hf=>
    rw [he] at hc;exfalso;obtain ⟨callee,args,at'⟩:=c;simp only at hf;subst hf;simp [BN] at hc
  ·cases hs
 ·cases hs
end
end Go.aN
namespace Go.aN
set_option linter.unusedSimpArgs false
noncomputable section
variable [aF]
set_option linter.unusedSectionVars false
set_option linter.unusedVariables false
variable {P:Program} {η:Env} {σ σ':au} {w:World}
theorem ZJ (r:Value) (l:List Value):(#[r]++(⟨l⟩:Array Value))=⟨r::l⟩:=by apply Jg;simp
theorem akl (name:String) (r:Value) (l:List Value):invoke (.fn (.method name) #[]) (#[r]++(⟨l⟩:Array Value))=callMethod r name ⟨l⟩:=by
 rw [ZJ];have e1:(⟨r::l⟩:Array Value)[0]? = some r:=by simp
 have e2:(⟨r::l⟩:Array Value).extract 1 (⟨r::l⟩:Array Value).size=⟨l⟩:=by apply Jg;simp
 have:invoke (.fn (.method name) #[]) (⟨r::l⟩:Array Value)=(do
  let some recv:=(⟨r::l⟩:Array Value)[0]? | stuck "call: a method without a receiver"
  callMethod recv name ((⟨r::l⟩:Array Value).extract 1 (⟨r::l⟩:Array Value).size)):=rfl
 rw [this,e1,e2]
theorem alj (h:SR P η σ w) {name:String} {a rv:AV} {f:FuncId} {x:Value} (hs:MX P name σ a=some (f,rv)) (hx:VR η a x) (args:Array Value) :
 ∃y,(callMethod x name args).run P w=(callFunc f (#[y]++args)).run P w/\VR η rv y:=by
 unfold MX at hs;split at hs
 ·next t v=>
  simp only [VR] at hx;obtain ⟨xv,rfl,hv⟩:=hx;split at hs
  ·next i d hi hd=>
   split at hs
   ·next m hm=>
    split at hs
    ·next f' ptr hp hf=>
     have Uy:∀y,(receiverAt t (.val xv) ptr (some ((name.splitOn ".").getLastD name))).run P w=.ok y w->
      (callMethod (.iface t xv) name args).run P w=(callFunc f' (#[y]++args)).run P w:=by
      intro y hr;have hpe:m.path.isEmpty=true:=by simpa using hp
      have:∀n:Nat,(method (n+1) t xv name).run P w=.ok (f',y) w:=by
       intro n;simp only [method,aS,CJ hi,aQ,hm,hp,follow,bC,hf,hpe,if_true,hr]
      simp only [callMethod,aS,program,Sem.run,aQ];rw [show P.types.size+Made.depth=(P.types.size+Made.depth - 1)+1 by simp [Made.depth],this];rfl
     split at hs
     ·next e=>
      cases hs;exact ⟨xv,Uy _ (by simp only [receiverAt,aS,aV hd,aQ,Go.Place.get,bC]),hv⟩
     ·next e=>
      split at hs
      ·next id off=>
       simp only [aW,kH] at hs;obtain ⟨z,hz,rfl,rfl⟩:=hs;obtain ⟨y,hy,rW⟩:=BU h hz hv;simp only [VR] at hv;obtain ⟨q,hq,rfl⟩:=hv;refine ⟨y,Uy _ ?_,rW⟩;have hy':(loadVar e ⟨q.bl,q.ba+off,none⟩).run P w=.ok y w:=by simpa [Instr.loadAt,Instr.sureAddr] using hy
       have hwrap:∀nm:String,(Builtin.ssaWrapNilChk_ #[t] t #[.pointer (some ⟨q.bl,q.ba+off,none⟩),strVal "", strVal nm]).run P w=.ok (.pointer (some ⟨q.bl,q.ba+off,none⟩)) w:=λ_=>rfl;have has:(asAddr (.pointer (some ⟨q.bl,q.ba+off,none⟩))).run P w=.ok ⟨q.bl,q.ba+off,none⟩ w:=rfl;simp only [receiverAt,aS,aV hd,aQ,Go.Place.get,bC,hwrap,has,hy']
      ·cases hs
     ·cases hs
     ·next h1 h2 h3=>
      cases hs;refine ⟨xv,Uy _ ?_,hv⟩;simp only [receiverAt,aS,aV hd,aQ];cases d<;>simp only [Go.Place.get,bC]
      all_goals simp_all
    ·cases hs
   ·cases hs
  ·cases hs
 ·cases hs
theorem Zh (h:SR P η σ w) {call:Caller} (hcall:oL P call) {o:Oper} {a:aU} {A:Act} (ht:TR P η a A) (hc:BN o.op=true) {r:Option AV} {K:Act->World->Prop} {Q:Exit->Act->World->Prop}
 (hs:oP P call o a.eval σ=some (r,σ')) (hK:∀v x η' w',r=some v->St P η σ w η' σ' w'->VR η' v x->K (A.put o.dst x) w'):o.wp P A w K Q:=by
 have hρ:∀x v,a.eval x=some v->VR η v (A.eval x):=λx v hv=>J5 h ht x v hv;unfold oP at hs;cases hop:o.op with
 | call c=>
   rw [hop] at hc hs;simp only at hs;split at hs
   ·next args hargs=>
    obtain ⟨callee,DN,at'⟩:=c;cases callee with
    | builtin b=>simp [BN] at hc
    | invoke rc name=>
      simp only at hs;split at hs
      ·next f rv hf=>
       simp only [sZ] at hf;obtain ⟨iv,hiv,hf⟩:=hf;obtain ⟨u,h1,rfl⟩:=Af hs;have hav:=GZ hρ hargs;obtain ⟨y,hm,hy⟩:=alj h hf (hρ _ _ hiv) (⟨DN.toList.map A.eval⟩);have hcn:=hcall _ _ _ _ _ h1 η w (y::DN.toList.map A.eval) h (ay.cons hy hav);have Uw:(execOp A.eval o).run P w=(callFunc f ⟨y::DN.toList.map A.eval⟩).run P w:=by
        unfold execOp;rw [hop];have e0:DN.map A.eval=⟨DN.toList.map A.eval⟩:=by apply Jg;simp
        simp only [resolve,pure_bind,e0];rw [akl,hm,ZJ]
       unfold Oper.wp;rw [Uw];rcases hcn with ⟨v,w',hrun,η',hst,hv⟩ | ⟨hrun,Us⟩
       ·rw [hrun]
        exact hK u v η' w' rfl hst hv
       ·rw [hrun]
        refine Calls.mono Us ?_;rintro e w' ⟨v,rfl,η',hst,hv⟩
        exact hK u v η' w' rfl hst hv
      ·cases hs
    | value f=>
      simp only at hs;split at hs
      ·next fn fi caps hf=>
       obtain ⟨u,h1,rfl⟩:=Af hs;have hfv:=hρ _ _ hf;simp only [VR] at hfv;obtain ⟨us,vs,hfe,hfi,ajw⟩:=hfv;have hav:=GZ hρ hargs;have hcn:=hcall _ _ _ _ _ h1 η w (us++DN.toList.map A.eval++vs) h ((hfi.append hav).append ajw);have Uw:(execOp A.eval o).run P w=(callFunc fn ⟨us++DN.toList.map A.eval++vs⟩).run P w:=by
        unfold execOp;rw [hop];simp only [resolve,hfe,Deferred.ofValue,pure_bind,invoke];congr 2;apply Jg;simp
       unfold Oper.wp;rw [Uw];rcases hcn with ⟨v,w',hrun,η',hst,hv⟩ | ⟨hrun,Us⟩
       ·rw [hrun]
        exact hK u v η' w' rfl hst hv
       ·rw [hrun]
        refine Calls.mono Us ?_;rintro e w' ⟨v,rfl,η',hst,hv⟩
        exact hK u v η' w' rfl hst hv
      ·cases hs
   ·cases hs
 | _=>rw [hop] at hc;simp [BN] at hc
theorem arb {ops:Array Oper} {j:Nat} {o:Oper} {d:Nat} {a:aU} {A:Act} {x:Bool} (ht:TR P η a A) (ho:ops[j]? = some o) (hd:o.dst=some d) (hx:dB (a.t.get d)=some (.b x)):yielded ops A.tmps j=some x:=by
 obtain ⟨vd,hx,himp⟩:=DX hx;obtain ⟨y,hy,hv⟩:=ht.slot d _ hx;have hv:=himp _ _ hv;simp only [VR] at hv;subst hv;simp only [yielded,ho,zi,hd,hy]
theorem Az {o:Oper} {ops:Array Oper} {a:aU} {A:Act} {b:Bool} (ht:TR P η a A) (hw:Aw o ops a=some b):Region.wanted o (yielded ops A.tmps)=b:=by
 unfold Aw at hw;unfold Region.wanted;split at hw
 ·next hg=>rw [hg];cases hw;rfl
 ·next j want hg=>
  rw [hg];split at hw
  ·next q hq=>
   split at hw
   ·next d hd=>
    split at hw
    ·next x hx=>
     cases hw;simp only [arb ht hq hd hx];cases x<;>cases want<;>rfl
    ·next l hx=>
     cases hw;obtain ⟨vd,hx,himp⟩:=DX hx;obtain ⟨y,hy,hv⟩:=ht.slot d _ hx;have hv:=himp _ _ hv;simp only [VR] at hv;obtain ⟨vs,rfl,_⟩:=hv;simp only [yielded,hq,zi,hd,hy];cases want<;>rfl
    ·cases hw
   ·cases hw
  ·cases hw
theorem step_ok (h:SR P η σ w) {call:Caller} (hcall:oL P call) {ops:Array Oper} {i:Nat} {a a':aU} {A:Act} (ht:TR P η a A) {K:Act->World->Prop} {Q:Exit->Act->World->Prop}
 (hs:Sr P call ops i a σ=some (a',σ')) (hK:∀η' A' w',St P η σ w η' σ' w'->TR P η' a' A'->K A' w'):wpOp P ops Q i K A w:=by
 unfold Sr at hs;unfold wpOp;split at hs
 ·cases hs
 ·next o ho=>
  rw [ho];simp only;split at hs
  ·cases hs
  ·next hw=>
   rw [Az ht hw];simp only [gU,if_false];simp only [aW,kH] at hs;obtain ⟨a1,hp,rfl,rfl⟩:=hs;exact hK η _ w (St.refl h) (ht.put hp (by rintro u hu;cases hu;exact ⟨[],rfl,rfl⟩))
  ·next hw=>
   rw [Az ht hw];simp only [if_true];split at hs
   ·cases hs
   ·next r σ1 hop=>
    rw [rV] at hop;simp only [aW,kH] at hs;obtain ⟨a1,hp,rfl,rfl⟩:=hs;left;cases hc:BN o.op with
    | true=>
      refine Zh h hcall ht hc hop λv x η' w' hr hst hv=>?_;exact hK η' _ w' hst ((ht.mono hst.ext).put hp (λu hu=>by rw [hr] at hu;cases hu;exact hv))
    | false=>
      obtain ⟨nx,w',η',hrun,hst,hres⟩:=acG h (λx v hv=>J5 h ht x v hv) hc hop;unfold Oper.wp;rw [hrun];cases r with
      | none=>subst hres;exact hK η' _ w' hst ((ht.mono hst.ext).put hp (by simp))
      | some v=>
        obtain ⟨x,rfl,hv⟩:=hres;exact hK η' _ w' hst ((ht.mono hst.ext).put hp (λu hu=>by cases hu;exact hv))
theorem acI {call:Caller} (hcall:oL P call) {ops:Array Oper} {Q:Exit->Act->World->Prop}:∀ (l:List Nat) {η:Env} {σ:au} {w:World} {a a':aU} {A:Act},SR P η σ w->TR P η a A->
 Gm P call ops l a σ=some (a',σ')->(∀η' A' w',St P η σ w η' σ' w'->TR P η' a' A'->Q .normal A' w')->wpOps P ops Q l A w
 | [],η,σ,w,a,a',A,h,ht,hs,hK=>by
   simp only [Gm,aT,kH] at hs;obtain ⟨rfl,rfl⟩:=hs;exact hK η A w (St.refl h) ht
 | i::l,η,σ,w,a,a',A,h,ht,hs,hK=>by
   rw [wpOps_cons];unfold Gm at hs;split at hs
   ·next a1 σ1 h1=>
    refine step_ok h hcall ht h1 λη1 A1 w1 hst ht1=>?_;exact acI hcall l hst.rel ht1 hs λη' A' w' hst' ht'=>hK η' A' w' (hst.trans hst') ht'
   ·cases hs
def dV.toExit:dV->Exit
 | .normal=>.normal
 | .exit id=>.exit id
 | .ret=>.ret
def Jj (P:Program) (dr:Caller->xM):Prop:=∀call,oL P call->∀ops a σ a' σ',dr call ops a σ=some (a',σ')->∀η w A id Q,SR P η σ w->TR P η a A->
 (∀η' A' w',St P η σ w η' σ' w'->TR P η' a' A'->Q .normal A' w')->(Code.region id ops true).wp P Q A w
def MJ (P:Program) (pr:uO):Prop:=∀f g,pr f=some g->∀args σ r σ',g args σ=some (r,σ')->∀η w vs,SR P η σ w->ay η args vs->
 jT P f ⟨vs⟩ w λv w'=>∃η',St P η σ w η' σ' w'/\VR η' r v
def sV (P:Program):Prop:=∀ (f:Nat) fn c,P.funcs[f]? = some fn->fn.body=some c->(fn.name == "runtime.NumGoroutine")=false
def Jz (P:Program) (run:Code->aU->au->Option (dV×aU×au)):Prop:=∀c a σ e a' σ',run c a σ=some (e,a',σ')->∀η w A Q,SR P η σ w->TR P η a A->
 (∀η' A' w',St P η σ w η' σ' w'->TR P η' a' A'->Q e.toExit A' w')->c.wp P Q A w
theorem Lh (h:SR P η σ w) {a:aU} {A:Act} (ht:TR P η a A) (F:ResultVar->Sem Value) (hF1:∀t,F (.tmp t)=pure (A.tmps.getD t undef)) (hF2:∀a t,F (.cell a t)=(do loadVar t (<- asAddr (A.tmps.getD a undef)))) :
 ∀ (rs:List ResultVar) (l:List AV),yc P σ a rs=some l->∃vs,(rs.mapM F).run P w=.ok vs w/\ay η l vs
 | [],l,hl=>by simp only [yc,aT] at hl;subst hl;exact ⟨[],rfl,by simp [ay]⟩
 | .tmp t::rs,l,hl=>by
   unfold yc at hl;split at hl
   ·next v r hv hr=>
    cases hl;obtain ⟨vs,h1,h2⟩:=Lh h ht F hF1 hF2 rs r hr;obtain ⟨x,hx,jQ⟩:=ht.slot t v hv;refine ⟨x::vs, ?_,ay.cons jQ h2⟩;simp only [Yn,hF1,aS,bC,aQ,h1];rw [vI,hx];rfl
   ·cases hl
 | .cell t ty::rs,l,hl=>by
   unfold yc at hl;split at hl
   ·next v r hv hr=>
    cases hl;obtain ⟨vs,h1,h2⟩:=Lh h ht F hF1 hF2 rs r hr;simp only [sZ] at hv;obtain ⟨p,hp,hv⟩:=hv;obtain ⟨x,hx,jQ⟩:=ht.slot t p hp;obtain ⟨y,hy,rW⟩:=BU h hv jQ;refine ⟨y::vs, ?_,ay.cons rW h2⟩;have hxa:∃ad,x=.pointer (some ad):=by
     cases p<;>simp [tC] at hv
     ·simp only [VR] at jQ
      obtain ⟨q,_,rfl⟩:=jQ;exact ⟨_,rfl⟩
     ·simp only [VR] at jQ
      obtain ⟨bl,base,cs,elem,fr,x,_,_,rfl,_⟩:=jQ;exact ⟨_,rfl⟩
    obtain ⟨ad,rfl⟩:=hxa;have hg:A.tmps.getD t undef=.pointer (some ad):=by rw [vI,hx];rfl
    have hy':(loadVar ty ad).run P w=.ok y w:=by simpa [Instr.loadAt,Instr.sureAddr] using hy
    have ajn:(asAddr (A.tmps.getD t undef)).run P w=.ok ad w:=by rw [hg];rfl
    simp only [Yn,hF2,aS,bC,aQ,h1,ajn,hy']
   ·cases hl
theorem aqs {l:List AV} {vs:List Value} (h:ay η l vs):VR η (FB l) (if h:(⟨vs⟩:Array Value).size=1 then (⟨vs⟩:Array Value)[0] else .tuple ⟨vs⟩):=by
 have hl:=h.length;unfold FB;split
 ·next v=>
  simp only [ay] at h;obtain ⟨x,_,rfl,hx,rfl⟩:=h;simpa using hx
 ·next hne=>
  have:(⟨vs⟩:Array Value).size≠1:=by
   intro e;have:l.length=1:=by rw [hl];exact e
   obtain ⟨v,rfl⟩:=RG.1 this;exact hne v rfl
  rw [dif_neg this];simp only [VR];exact ⟨vs,rfl,h⟩
theorem YX:∀ (args:List AV) (k:Nat) (t:Tr AV) (j:Nat),(wV args k t).get j=if k<=j/\j < k+args.length then args[j - k]? else t.get j
 | [],k,t,j=>by simp [wV];omega
 | v::args,k,t,j=>by
   rw [wV,YX args (k+1)];simp only [iT];by_cases h1:k+1<=j/\j < k+1+args.length
   ·rw [aj h1,aj (by omega)]
    have:j - k=(j - (k+1))+1:=by omega
    rw [this];simp
   ·rw [ah h1,Tr.tZ]
    by_cases h2:j=k
    ·subst h2;rw [aj rfl,aj (by omega)];simp
    ·rw [ah h2,ah (by omega)]
theorem Tv {args:List AV} {vs:List Value} {n:Nat} (h:ay η args vs) :
 TR P η { t:=wV args 0 .nil,n:=max args.length n,gn:=P.globals.size } { tmps:=(⟨vs⟩:Array Value)++Array.replicate (n - (⟨vs⟩:Array Value).size) undef,defers:=[] }:=by
 have hl:=h.length;refine ⟨rfl, ?_,rfl,λt v hv=>?_⟩
 ·simp;omega
 ·rw [YX] at hv
  split at hv
  ·next hr=>
   obtain ⟨x,hx,jQ⟩:=h.at hv;refine ⟨x, ?_,jQ⟩;simp only [Dp] at hx;have hlt:=(dY.1 hx).1;rw [Ru (by simpa using hlt)];simpa using hx
  ·simp at hv
theorem Zg {pr:uO} {run:Code->aU->au->Option (dV×aU×au)} (hp:MJ P pr) (hn:sV P) (hr:Jz P run):oL P (DL P pr run):=by
 intro f args σ r σ' hs η w vs h hv;unfold DL at hs;split at hs
 ·next g hg=>exact hp f g hg args σ r σ' hs η w vs h hv
 ·split at hs
  ·cases hs
  ·next fn hfn=>
   split at hs
   ·cases hs
   ·next c hc=>
    have key:∀ (e:dV) a',(e=.normal\/e=.ret)->run c { t:=wV args 0 .nil,n:=max args.length fn.ntmps,gn:=P.globals.size } σ=some (e,a',σ')->∀l,yc P σ' a' fn.results.toList=some l->r=FB l->
     jT P f ⟨vs⟩ w λv w'=>∃η',St P η σ w η' σ' w'/\VR η' r v:=by
     intro e a' he hrun l hl hrl;right;refine ⟨?_, ?_⟩
     ·have hname:=hn f fn c hfn hc
      simp only [callFunc,aS,program,Sem.run,aQ,hfn];simp only [hname,gU,if_false,hc,F9,bC]
     ·refine calls_of_wp hfn hc ?_
      refine hr c _ _ _ _ _ hrun η w _ _ h (Tv hv) ?_;intro η' A' w' hst ht;have hres:∃us,(results fn A'.tmps).run P w'=.ok (if h:(⟨us⟩:Array Value).size=1 then (⟨us⟩:Array Value)[0] else .tuple ⟨us⟩) w'/\ay η' l us:=by
       unfold results;rw [Rw];simp only [aS,RY];obtain ⟨us,h1,h2⟩:=Lh hst.rel ht (fun | .tmp t=>pure (A'.tmps.getD t undef) | .cell a t=>do loadVar t (<- asAddr (A'.tmps.getD a undef))) (λ_=>rfl) (λ_ _=>rfl) _ _ hl;refine ⟨us, ?_,h2⟩;exact qR (λr:Result (List Value)=>(r.andThen λa w'=>Result.ok a.toArray w').andThen λa w'=>Sem.run P (pure (if h:a.size=1 then a[0] else Value.tuple a)) w') h1
      obtain ⟨us,hres,h2⟩:=hres
      have hpost:A'.defers=[]/\∃v,(results fn A'.tmps).run P w'=.ok v w'/\∃v',Ending.returned v=.returned v'/\∃η',St P η σ w η' σ' w'/\VR η' r v':=
       ⟨ht.none,_,hres,_,rfl,η',hst,by rw [hrl];exact aqs h2⟩
      rcases he with rfl | rfl
      ·exact hpost
      ·exact hpost
    split at hs
    ·next a' σ1 hrun=>
     simp only [aW,kH] at hs;obtain ⟨l,hl,h1,h2⟩:=hs;subst h2;exact key _ a' (.inl rfl) hrun l hl h1.symm
    ·next a' σ1 hrun=>
     simp only [aW,kH] at hs;obtain ⟨l,hl,h1,h2⟩:=hs;subst h2;exact key _ a' (.inr rfl) hrun l hl h1.symm
    ·cases hs
theorem ZE {dr:Caller->xM} {pr:uO} (hd:Jj P dr) (hp:MJ P pr) (hn:sV P):∀n:Nat,Jz P (AY P dr pr n)/\
 (∀b a σ e a' σ',AY P dr pr n (.loop b) a σ=some (e,a',σ')->∀η w A Q,SR P η σ w->TR P η a A->(∀η' A' w',St P η σ w η' σ' w'->TR P η' a' A'->Q e.toExit A' w')->Code.rounds P b Q n A w):=by
 intro n;induction n with
 | zero=>exact ⟨λc a σ e a' σ' hs=>by simp [YN] at hs,λb a σ e a' σ' hs=>by simp [YN] at hs⟩
 | succ n ih=>
   obtain ⟨ih1,ih2⟩:=ih;have hcall:=Zg hp hn ih1;have abS:∀b a σ e a' σ',AY P dr pr (n+1) (.loop b) a σ=some (e,a',σ')->∀η w A Q,SR P η σ w->TR P η a A->(∀η' A' w',St P η σ w η' σ' w'->TR P η' a' A'->Q e.toExit A' w')->Code.rounds P b Q (n+1) A w:=by
    intro b a σ e a' σ' hs η w A Q h ht hK;rw [rounds_succ];simp only [tq,qQ] at hs;split at hs
    ·next a1 σ1 h1=>
     refine ih1 _ _ _ _ _ _ h1 η w A _ h ht ?_;intro η1 A1 w1 hst ht1;exact ih2 _ _ _ _ _ _ hs η1 w1 A1 Q hst.rel ht1 λη' A' w' hst' ht'=>hK η' A' w' (hst.trans hst') ht'
    ·next hne=>
     refine ih1 _ _ _ _ _ _ hs η w A _ h ht ?_;intro η1 A1 w1 hst ht1;cases e with
     | normal=>exact absurd hs (by intro e';exact hne _ _ e')
     | exit id=>exact hK η1 A1 w1 hst ht1
     | ret=>exact hK η1 A1 w1 hst ht1
   refine ⟨?_,abS⟩;intro c a σ e a' σ' hs η w A Q h ht hK;cases c with
   | loop b=>exact wp_loop_rounds (n+1) (abS b a σ e a' σ' hs η w A Q h ht hK)
   | skip=>simp only [tq,qQ,aT,kH] at hs;obtain ⟨rfl,rfl,rfl⟩:=hs;exact wp_skip (hK η A w (St.refl h) ht)
   | region id ops draw=>
     cases draw with
     | false=>
       simp only [tq,qQ,aW,kH] at hs;obtain ⟨⟨a1,σ1⟩,h1,rfl,rfl,rfl⟩:=hs;exact wp_region (acI hcall _ h ht h1 hK)
     | true=>
       simp only [tq,qQ,aW,kH] at hs;obtain ⟨⟨a1,σ1⟩,h1,rfl,rfl,rfl⟩:=hs;exact hd _ hcall ops a σ _ _ h1 η w A id Q h ht hK
   | seq x y=>
     simp only [tq,qQ] at hs;refine wp_seq ?_;split at hs
     ·next a1 σ1 h1=>
      refine ih1 _ _ _ _ _ _ h1 η w A _ h ht ?_;intro η1 A1 w1 hst ht1;exact ih1 _ _ _ _ _ _ hs η1 w1 A1 Q hst.rel ht1 λη' A' w' hst' ht'=>hK η' A' w' (hst.trans hst') ht'
     ·next hne=>
      refine ih1 _ _ _ _ _ _ hs η w A _ h ht ?_;intro η1 A1 w1 hst ht1;cases e with
      | normal=>exact absurd hs (by intro e';exact hne _ _ e')
      | exit id=>exact hK η1 A1 w1 hst ht1
      | ret=>exact hK η1 A1 w1 hst ht1
   | cond x y z=>
     simp only [tq,qQ] at hs;split at hs
     ·next t hx=>
      obtain ⟨vd,hx,himp⟩:=DX hx;have hv:=himp _ _ (J5 h ht x _ hx);simp only [VR] at hv;refine wp_cond hv ?_;exact ih1 _ _ _ _ _ _ hs η w A Q h ht hK
     ·cases hs
   | block id b=>
     simp only [tq,qQ] at hs;refine wp_block ?_;split at hs
     ·next id' a1 σ1 h1=>
      refine ih1 _ _ _ _ _ _ h1 η w A _ h ht ?_;intro η1 A1 w1 hst ht1;simp only [dV.toExit,Exit.inBlock];split at hs
      ·next e1=>
       cases hs;rw [aj e1];exact hK η1 A1 w1 hst ht1
      ·next e1=>
       cases hs;rw [ah e1];exact hK η1 A1 w1 hst ht1
     ·next hne=>
      refine ih1 _ _ _ _ _ _ hs η w A _ h ht ?_;intro η1 A1 w1 hst ht1;cases e with
      | normal=>exact hK η1 A1 w1 hst ht1
      | exit id'=>exact absurd hs (by intro e';exact hne _ _ _ e')
      | ret=>exact hK η1 A1 w1 hst ht1
   | exit id=>simp only [tq,qQ,aT,kH] at hs;obtain ⟨rfl,rfl,rfl⟩:=hs;exact wp_exit (hK η A w (St.refl h) ht)
   | ret=>simp only [tq,qQ,aT,kH] at hs;obtain ⟨rfl,rfl,rfl⟩:=hs;exact wp_ret (hK η A w (St.refl h) ht)
   | rangeFunc _ _ _ _=>simp [tq,qQ] at hs
   | scope _=>simp [tq,qQ] at hs
   | label _=>simp [tq,qQ] at hs
   | goto _=>simp [tq,qQ] at hs
   | refuse _=>simp [tq,qQ] at hs
theorem afn {dr:Caller->xM} {pr:uO} (hd:Jj P dr) (hp:MJ P pr) (hn:sV P) (n:Nat):oL P (YM P dr pr n):=
 Zg hp hn (ZE hd hp hn n).1
end
end Go.aN
