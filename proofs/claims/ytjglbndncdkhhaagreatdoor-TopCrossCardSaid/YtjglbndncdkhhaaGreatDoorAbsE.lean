/- Values that are named by nodes: append, make, conversions, strings.Builder's string. -/
import Derived.Test.YtjglbndncdkhhaaGreatDoorAbsD
import Derived.Test.YtjglbndncdkhhaaGreatDoorAbsC
namespace Go.aN
set_option linter.unusedSimpArgs false
noncomputable section
variable [aF]
set_option linter.unusedSectionVars false
set_option linter.unusedVariables false
variable {P:Program} {η:Env} {σ σ':ak} {w:World}
theorem St.Pe {η':Env} {w':World} (h:St P η σ w η' σ' w') (id:Nat):St P η σ w η' (σ'.kill id) w':=
 h.sub (λk o hk=>by rw [ak.vS] at hk;split at hk;cases hk;exact hk) (dD _) rfl
theorem St.uZ {η':Env} {τ:ak} {w':World} {m e size:Nat} {f:Bool} {xs:List GV} {c:List AV} {y:Value} (h:St P η σ w η' (τ.new (.cells c e true true)) w') (hv:aF.val m=some (.l xs)) (hs:∀x∈xs,x.cells.length=size/\x.cells.all GV.scalar=true) (hn:sizeT P e=some size)
 (hc:∀vs,ay η' c vs->ay η' (bC xs) vs) (hy:VR η' (.sl τ.next 0 xs.length none) y) (hf:f=true->xs≠[]):St P η σ w η' (τ.new (.vec m e f)) w'/\VR η' (.sv τ.next m) y:=by
 simp only [VR] at hy;obtain ⟨q,hq,hle,rfl⟩:=hy;have hg:(τ.new (.cells c e true true)).get τ.next=some (.cells c e true true):=by rw [ak.nY,aj rfl]
 have hor:=h.rel.at hg hq;have hes:q.es=size:=by
  obtain ⟨_,_,_,_,r⟩:=hor;have:=(r.room rfl).2.2;rw [hn] at this;cases this;rfl
 have hpos:f=true->q.es<=q.sz:=λe=>by
  have hne:=hf e;have:0 < xs.length:=MF.2 hne;simp only [uI,CZ] at hle;have h1:1<=q.sz / q.es:=by omega
  exact iF (by simpa using qV q.es h1) (Nat.div_mul_le_self q.sz q.es)
 have hnew:OR P η' q w' (.vec m e f):=OR.uZ hpos hv (λx hx=>by rw [hes];exact (hs x hx).1) (λx hx=>(hs x hx).2) hor hc;refine ⟨h.right ?_ rfl rfl ?_,by simp only [VR];exact ⟨xs,hv,.inl ⟨q,hq,by simpa using hle,by simp⟩⟩⟩
 ·refine (h.rel.swap (o':=.vec m e f) hg rfl (.inl ⟨q,hq,hnew⟩)).sub (λk o hk=>?_) (dD _)
  rw [ak.nY] at hk;rw [ak.get_put,ak.nY];split at hk
  ·next e1=>rw [aj e1];exact hk
  ·next e1=>rw [ah e1,ah e1];exact hk
 ·intro k o hk ho
  rw [ak.nY] at hk ⊢;split at hk
  ·next e1=>rw [aj e1];exact ⟨_,rfl,rfl⟩
  ·next e1=>rw [ah e1];exact ⟨o,hk,ho⟩
theorem zG {xs:List GV} {size:Nat} (h:xs.all (GV.fO size)=true):∀x∈xs,x.cells.length=size/\x.cells.all GV.scalar=true:=by
 intro z hz;have:=List.all_eq_true.1 h z hz;unfold GV.fO at this;rw [aI] at this;exact ⟨Nat.eq_of_beq_eq_true this.1,this.2⟩
theorem afV {xs:List GV} {size:Nat} (h:∀x∈xs,x.cells.length=size/\x.cells.all GV.scalar=true):(bC xs).all AV.lu=true:=by
 unfold bC;refine Ut ?_;rw [List.all_eq_true];intro g hg;obtain ⟨z,hz,hgz⟩:=YF.1 hg;exact List.all_eq_true.1 (h z hz).2 g hgz
theorem ZA (xs ys:List GV):bC (xs++ys)=bC xs++bC ys:=by unfold bC;rw [YB,DV]
theorem Dy {xs:List GV} {size:Nat} (h:∀x∈xs,x.cells.length=size):(bC xs).length=xs.length * size:=by rw [bC,jX,Jv h]
def XF (P:Program) (σ:ak) (e size:Nat) (t1:TypeId) (x:AV):Option Nat:=
 match P.underlying t1 with
 | some .string=>if size=1 then match gZ x with
    | some n=>dW (.bytes n)
    | none=>none
   else none
 | some (.slice _)=>listOf P σ e x
 | _=>none
theorem QC (h:SR P η σ w) {e size:Nat} {t1:TypeId} {x:AV} {b:Nat} {u:Value} {xs:List GV} (hs:XF P σ e size t1 x=some b) (hx:VR η x u) (hn:sizeT P e=some size) (hv:aF.val b=some (.l xs)) (hok:xs.all (GV.fO size)=true) :
 ∃ys,Src P size t1 u xs.length ys w/\ay η (bC xs) ys:=by
 unfold XF at hs;split at hs
 ·next ht=>
  split at hs
  ·next h1=>
   subst h1;split at hs
   ·next n hn'=>
    obtain ⟨g,g1,g2,g3⟩:=ku hn' hx;obtain ⟨g',k1,k2⟩:=fF hs;rw [hv] at k1;cases k1;simp only [Nd.den,g1] at k2;split at k2
    ·next s e1=>
     cases e1;cases k2;have hT:BM P t1=true:=by unfold BM;rw [ht]
     have:=src_ok h hT (size:=1) (n:=s.length) (l:=sQ s) (a:=.s s) (x:=u) (by simp [wz]) ((jU (.s s) u).1 g3) (by unfold sQ;simp [AV.lu]);rw [Zp];have hl:(dZ s).length=s.length:=by simp [dZ]
     rw [hl];exact this
    ·cases k2
   ·cases hs
  ·cases hs
 ·next ht=>exact akn h hs hx ht hn hv hok
 ·cases hs
theorem akm {e size id len:Nat} {cap:Option Nat} {a et:Nat} {c:List AV} {qL opn:Bool} (hg:σ.get id=some (.cells c et qL opn)) (hl:listOf P σ e (.sl id 0 len cap)=some a) (hn:sizeT P e=some size) (hlen:c.length=len * size) :
 ∃ns,(∀ {η:Env} {vs:List Value},ay η c vs->∃gs,valsOf aF.val ns=some gs/\gs.length=len/\ay η (bC gs) vs/\∀x∈gs,x.cells.length=size/\x.cells.all GV.scalar=true)/\∀gs,valsOf aF.val ns=some gs->aF.val a=some (.l gs):=by
 simp only [listOf,hg,hn] at hl;split at hl
 ·next c' DR rw' KP size' agg hg' hsz hag=>
  cases hg';cases hsz;split at hl
  ·next hc=>
   rw [aI,lJ,aI] at hc;have hagg:agg=false->size=1:=by
    intro e;subst e;rcases hc.2 with h1 | h1
    ·simp at h1
    ·exact bn h1
   have htk:takeN c 0 (len * size)=some c:=by
    unfold takeN;rw [eH,lK (by omega),aj hlen]
   rw [htk] at hl;simp only at hl;split at hl
   ·next ns hns=>
    refine ⟨ns,λ{η vs} hv=>?_,λgs hgs=>?_⟩
    ·obtain ⟨gs,k1,k2,k3,_,k5⟩:=Bo (η:=η) hagg len hns hv hlen
     exact ⟨gs,k1,k2,k3,k5⟩
    ·obtain ⟨g,g1,g2⟩:=fF hl
     simp only [Nd.den,hgs,gG,aT] at g2;rw [g2];exact g1
   ·cases hl
  ·cases hl
 ·cases hl
set_option maxHeartbeats 1000000 in
theorem aoW (h:SR P η σ w) {ts:Array TypeId} {ty:TypeId} {s x v:AV} {u u':Value} (hs:XK P ts s x σ=some (v,σ')) (hu:VR η s u) (hx:VR η x u') :
 ∃y w' η',(Builtin.append_ ts ty #[u,u']).run P w=.ok y w'/\St P η σ w η' σ' w'/\VR η' v y:=by
 unfold XK at hs;split at hs
 ·next t t1 hts=>
  have:=Nw hts;subst this;split at hs
  ·next e size bytes z hi=>
   obtain ⟨_,_,_,he,_,hn⟩:=yw hi;split at hs
   ·cases hs
   ·next h0=>
    split at hs
    ·cases hs
    ·next b hb=>
     have hb':XF P σ e size t1 x=some b:=hb;have app:∀ {a m:Nat} {xs:List GV},dW (.app size bytes a b)=some m->aF.val a=some (.l xs)->∃ys,aF.val b=some (.l ys)/\aF.val m=some (.l (xs++ys))/\ys.all (GV.fO size)=true/\2 * (xs.length+ys.length) * bytes<=2 ^ 48/\xs.length+ys.length<=2 ^ 48:=by
      intro a m xs hm ha;obtain ⟨g,g1,g2⟩:=fF hm;simp only [Nd.den,ha] at g2;split at g2
      ·next xs' ys e1 e2=>
       cases e1;split at g2
       ·next hc=>cases g2;exact ⟨ys,e2,g1,hc.1,hc.2.1,hc.2.2⟩
       ·cases g2
      ·cases g2
     have Nv:∀ {ys:List GV} {S:AV} {n:Nat},ys.all (GV.fO size)=true->sliceLen S=n->2 * (n+ys.length) * bytes<=2 ^ 48->n+ys.length<=2 ^ 48->¬ (size=0\/(bC ys).all AV.lu=false\/¬ (2 * (sliceLen S+ys.length) * bytes<=2 ^ 48/\sliceLen S+ys.length<=2 ^ 48)):=by
      intro ys S n h1 h2 h3 h4;rw [afV (zG h1),h2];simp [h0];omega
     have ml0:∀ {a:Nat},dW (.ml [])=some a->aF.val a=some (.l []):=by
      intro a ha;obtain ⟨g,g1,g2⟩:=fF ha;simp only [Nd.den,valsOf,gG,aT] at g2;subst g2;exact g1
     have acU:∀ {a m:Nat} {τ:ak},aF.val a=some (.l [])->dW (.app size bytes a b)=some m->u=.slice none 0 0->τ.lock=σ.lock->τ.next=σ.next->(∀k o,τ.get k=some o->σ.get k=some o)->
      ∀f:Bool,∃y w' η',(Builtin.append_ #[t,t1] ty #[u,u']).run P w=.ok y w'/\St P η σ w η' (τ.new (.vec m e f)) w'/\VR η' (.sv σ.next m) y:=by
      intro a m τ ha hm hu0 hl hnx hsub f;obtain ⟨ys,y1,y2,y3,y4,y5⟩:=app hm ha;obtain ⟨zs,z1,z2⟩:=QC h hb' hx hn y1 y3;have hlen:=Dy (λx hx=>(zG y3 x hx).1);simp only [bV,qQ,jk] at y2 y4 y5;have hc:=Nv (S:=.dL) (n:=0) y3 rfl (by simpa using y4) (by simpa using y5);by_cases hz:ys.length=0
      ·have hys:ys=[]:=jh hz
       subst hys;have hto:mW e size bytes .dL 0 (bC []) σ=some (.dL,σ):=by unfold mW;rw [ah (by simpa using hc)];rfl
       obtain ⟨y,w',η',r1,r2,r3⟩:=zx (ty:=ty) h hi z1 z2 hlen hto (u:=u) (by simp only [VR];exact hu0);refine ⟨y,w',η'.ghost σ.next,r1,r2.trans ?_, ?_⟩
       ·exact St.ghost r2.rel y2 hl hnx hsub
       ·simp only [VR] at r3 ⊢
        exact ⟨[],y2,.inr ⟨by simp [Env.ghost],rfl,r3⟩⟩
      ·have hto:mW e size bytes .dL ys.length (bC ys) σ=some (.sl σ.next 0 ys.length none,σ.new (.cells (bC ys) e true true)):=by
        unfold mW;rw [ah hc];simp only;rw [ah hz]
       obtain ⟨y,w',η',r1,r2,r3⟩:=zx (ty:=ty) h hi z1 z2 hlen hto (u:=u) (by simp only [VR];exact hu0);obtain ⟨q1,q2⟩:=St.uZ (f:=f) r2 y2 (zG y3) hn (λ_ h=>h) r3 (λ_ e=>hz (by rw [e];rfl));refine ⟨y,w',η',r1,q1.sub (λk o hk=>?_) (by show σ.next+1<=τ.next+1;omega) hl,q2⟩;rw [ak.nY] at hk ⊢;rw [hnx] at hk;split at hk
       ·next e1=>rw [aj e1];exact hk
       ·next e1=>rw [ah e1];exact hsub k o hk
     split at hs
     ·split at hs
      ·next a ha=>
       obtain ⟨m,hm,e1⟩:=aW.1 hs;cases e1;simp only [VR] at hu;exact acU (τ:=σ) (ml0 ha) hm hu rfl rfl (λ_ _ h=>h) true
      ·cases hs
     ·next id n=>
      split at hs
      ·next a et f hg=>
       split at hs
       ·next hcnd=>
        rw [aI,aI] at hcnd;obtain ⟨⟨het,hsl⟩,hlk⟩:=hcnd;have DY:=bn het;subst DY;have zO:=pI hlk;obtain ⟨m,hm,e1⟩:=aW.1 hs;cases e1;simp only [VR] at hu;obtain ⟨xn,n1,hu⟩:=hu;rcases h.live id _ hg with ⟨q,hq,hor⟩ | ⟨hgh,m0,et0,f0,e0,hv0⟩
        ·obtain ⟨xs,x1,x2,x3,x4,x5,x6,x7,hS⟩:=Ie h hg hq
         have hlen0:=vY 100 hsl x1 n1;rw [hn] at x5;cases x5;rcases hu with ⟨q',hq',hle,rfl⟩ | ⟨hgh,_,_⟩
         ·rw [hq] at hq';cases hq'
          obtain ⟨ys,y1,y2,y3,y4,y5⟩:=app hm x1;have hcl:=Dy x2;have hall:∀x∈xs++ys,x.cells.length=q.es/\x.cells.all GV.scalar=true:=by
           intro x hx;rcases kV.1 hx with hx | hx
           ·exact ⟨x2 x hx,x7 x hx⟩
           ·exact zG y3 x hx
          obtain ⟨zs,z1,z2⟩:=QC h hb' hx hn y1 y3;have hlen:=Dy (λx hx=>(zG y3 x hx).1);have hc:=Nv (S:=.sl id 0 xs.length none) (n:=xs.length) y3 rfl y4 y5;rw [<- hlen0] at hle ⊢;have hus:VR η (.sl id 0 xs.length none) (.slice (some ⟨q.bl,q.ba,none⟩) xs.length (q.sz / q.es)):=by simp only [VR];exact ⟨q,hq,by simpa using hle,by simp⟩
          by_cases hz:ys.length=0
          ·have hys:ys=[]:=jh hz
           subst hys;rw [kK] at y2;have hto:mW et q.es bytes (.sl id 0 xs.length none) 0 (bC []) (jC σ id xs et)=some (.sl id 0 xs.length none,jC σ id xs et):=by unfold mW;rw [ah (by simpa using hc)];rfl
           obtain ⟨y,w',η',r1,r2,r3⟩:=zx (ty:=ty) hS hi z1 z2 hlen hto hus;have r2':=LD hg r2;have hgu:(jC σ id xs et).get id=some (.cells (bC xs) et true true):=Ar;have hq2:=r2.ext.pl _ _ hq;have hor2:=r2.rel.at hgu hq2;have hv2:OR P (η'.put σ.next q) q w' (.vec m et f):=by
            have hle2:=Env.Eu r2.rel q;refine OR.uZ (λe=>by subst e;exact hor.Q9) y2 x2 x7 (hor2.mono hle2) (λ_ h=>h)
           have JC:=St.again (q':=q) r2.rel hgu rfl (show (jC σ id xs et).lock<=id from zO) hq2 rfl rfl (λ_ _=>rfl) rfl rfl rfl hv2;refine ⟨y,w',η'.put σ.next q,r1,(r2'.trans JC).sub (λk o hk=>?_) (dD _) rfl, ?_⟩
           ·rw [ak.nY,ak.vS] at hk ⊢
            split at hk
            ·next e1=>rw [aj (show k=((jC σ id xs et).kill id).next from e1)];exact hk
            ·next e1=>
             rw [ah (show ¬ k=((jC σ id xs et).kill id).next from e1)];split at hk
             ·cases hk
             ·next e2=>rw [ah e2];unfold jC;rw [ak.get_put,ah e2];exact hk
           ·simp only [VR] at r3 ⊢
            obtain ⟨q3,hq3,hle3,rfl⟩:=r3;rw [hq2] at hq3;cases hq3;exact ⟨xs,y2,.inl ⟨q,by simp [Env.put],by simpa using hle3,by simp⟩⟩
          ·have htk:takeN (bC xs) 0 (xs.length * q.es)=some (bC xs):=by
            unfold takeN;rw [eH,lK (by omega),aj hcl]
           have hto:mW et q.es bytes (.sl id 0 xs.length none) ys.length (bC ys) (jC σ id xs et)=some (.sl σ.next 0 (xs.length+ys.length) none,((jC σ id xs et).kill id).new (.cells (bC xs++bC ys) et true true)):=by
            unfold mW;rw [ah hc];simp only;rw [ah hz,aj (show (jC σ id xs et).lock<=id from zO),Ar];simp only [if_true,htk,gG];rfl
           obtain ⟨y,w',η',r1,r2,r3⟩:=zx (ty:=ty) hS hi z1 z2 hlen hto hus;obtain ⟨q1,q2⟩:=St.uZ (size:=q.es) (LD hg r2) y2 hall hn (λvs hvs=>by rw [ZA];exact hvs) (by rw [dH];exact r3) (f:=f) (λ_ e=>hz (by have:=rC List.length e;simp at this;rw [this.2];rfl));refine ⟨y,w',η',r1,q1.sub (λk o hk=>?_) (dD _) rfl,q2⟩;rw [ak.nY,ak.vS] at hk ⊢;split at hk
           ·next e1=>rw [aj (show k=((jC σ id xs et).kill id).next from e1)];exact hk
           ·next e1=>
            rw [ah (show ¬ k=((jC σ id xs et).kill id).next from e1)];split at hk
            ·cases hk
            ·next e2=>rw [ah e2];unfold jC;rw [ak.get_put,ah e2];exact hk
         ·rw [(h.jf id hgh).1] at hq;cases hq
        ·cases e0
         have hlen0:=vY 100 hsl hv0 n1;rcases hu with ⟨q',hq',_⟩ | ⟨_,_,hu⟩
         ·rw [(h.jf id hgh).1] at hq';cases hq'
         ·exact acU (τ:=σ.kill id) hv0 hm hu rfl rfl (λk o hk=>by rw [ak.vS] at hk;split at hk;cases hk;exact hk) f
       ·cases hs
      ·cases hs
     ·next id=>
      split at hs
      ·next et hg=>
       split at hs
       ·next hcnd=>
        rw [aI] at hcnd;obtain ⟨het,hlk⟩:=hcnd;have DY:=bn het;subst DY;have zO:=pI hlk;split at hs
        ·next a ha=>
         obtain ⟨m,hm,e1⟩:=aW.1 hs;cases e1;obtain ⟨ys,y1,y2,y3,y4,y5⟩:=app hm (ml0 ha);simp only [bV,qQ,jk] at y2 y4 y5;obtain ⟨zs,z1,z2⟩:=QC h hb' hx hn y1 y3;have hlen:=Dy (λx hx=>(zG y3 x hx).1);have hc:=Nv (S:=.sl id 0 0 (some 0)) (n:=0) y3 rfl (by simpa using y4) (by simpa using y5);have hu0:=hu;simp only [VR] at hu0;obtain ⟨q,hq,_,rfl⟩:=hu0;obtain ⟨cs,elem,fr,hb0,rr⟩:=h.at hg hq;have hsh:=rr.shut rfl;obtain ⟨w1,w2,w3⟩:=rr.whole he;have hba:=w3 rfl;by_cases hz:ys.length=0
         ·have hys:ys=[]:=jh hz
          subst hys;have hto:mW et size bytes (.sl id 0 0 (some 0)) 0 (bC []) σ=some (.sl id 0 0 (some 0),σ):=by unfold mW;rw [ah (by simpa using hc)];rfl
          obtain ⟨y,w',η',r1,r2,r3⟩:=zx (ty:=ty) h hi z1 z2 hlen hto hu;have hq2:=r2.ext.pl _ _ hq;obtain ⟨cs2,F5,Gp,hb2,Xp⟩:=r2.rel.at hg hq2;obtain ⟨v1,v2,v3⟩:=Xp.whole he;have hsz0:=Xp.shut rfl;simp only [qQ] at hsz0;have hv2:OR P (η'.put σ.next ⟨q.bl,q.ba,0,size⟩) ⟨q.bl,q.ba,0,size⟩ w' (.vec m et false):=by
           refine ⟨[],cs2,F5,Gp,[],y2,hb2,by simp [aO],by simp,by simp [Bg,cO],by simp, { fits:=by have:=Xp.fits;simp;omega,le:=by simp,shut:=by simp,cell:=by simp,free:=by simp,whole:=λ_=>⟨v1,by simp;omega,by simp⟩,room:=λ_=>⟨he,by simp;omega,hn⟩ },by simp,by simp⟩
          have JC:=St.again (q':=⟨q.bl,q.ba,0,size⟩) r2.rel hg rfl zO hq2 rfl rfl (λ_ _=>rfl) rfl rfl rfl hv2;refine ⟨y,w',_,r1,r2.trans JC, ?_⟩;simp only [VR] at r3 ⊢;obtain ⟨q3,hq3,_,rfl⟩:=r3;rw [hq2] at hq3;cases hq3;exact ⟨[],y2,.inl ⟨⟨q.bl,q.ba,0,size⟩,by simp [Env.put],by simp,by simp⟩⟩
         ·have hto:mW et size bytes (.sl id 0 0 (some 0)) ys.length (bC ys) σ=some (.sl σ.next 0 (0+ys.length) none,σ.new (.cells ([]++bC ys) et true true)):=by
           unfold mW;rw [ah hc];simp only;rw [ah (by omega),hg];simp [takeN]
          obtain ⟨y,w',η',r1,r2,r3⟩:=zx (ty:=ty) h hi z1 z2 hlen hto hu;rw [bV] at r2;rw [jk] at r3;obtain ⟨q1,q2⟩:=St.uZ (f:=false) r2 y2 (zG y3) hn (λ_ h=>h) r3 (by simp);refine ⟨y,w',η',r1,q1.sub (λk o hk=>?_) (dD _) rfl,q2⟩;rw [ak.nY,ak.vS] at hk;rw [ak.nY];split at hk
          ·next e1=>rw [aj (show k=σ.next from e1)];exact hk
          ·next e1=>
           rw [ah (show ¬ k=σ.next from e1)];split at hk
           ·cases hk
           ·exact hk
        ·cases hs
       ·cases hs
      ·cases hs
     ·next id len=>
      split at hs
      ·next c et hg=>
       split at hs
       ·next hcnd=>
        rw [aI,aI] at hcnd;obtain ⟨⟨het,hlk⟩,hcl⟩:=hcnd;have DY:=bn het;subst DY;have zO:=pI hlk;have hcl':=bn hcl;split at hs
        ·next a ha=>
         obtain ⟨m,hm,e1⟩:=aW.1 hs;cases e1;obtain ⟨ns,l1,l2⟩:=akm hg ha hn hcl';have hu0:=hu;simp only [VR] at hu0;obtain ⟨q,hq,hle,rfl⟩:=hu0;obtain ⟨ws,elem,fr,hb0,rr⟩:=h.at hg hq;have hes:q.es=size:=by
          have:=(rr.room rfl).2.2;rw [hn] at this;cases this;rfl
         have htk:takeN c 0 (len * size)=some c:=by
          unfold takeN;rw [eH,lK (by omega),aj hcl']
         obtain ⟨xs,k1,k2,k3,k4⟩:=l1 (rr.wC htk);have hva:=l2 xs k1;have conv:∀ {η':Env} (vs:List Value),ay η' c vs->ay η' (bC xs) vs:=by
          intro η' vs hv;obtain ⟨gs,j1,_,j3,_⟩:=l1 hv;rw [k1] at j1;cases j1;exact j3
         obtain ⟨ys,y1,y2,y3,y4,y5⟩:=app hm hva;have hall:∀x∈xs++ys,x.cells.length=size/\x.cells.all GV.scalar=true:=by
          intro x hx;rcases kV.1 hx with hx | hx
          ·exact k4 x hx
          ·exact zG y3 x hx
         obtain ⟨zs,z1,z2⟩:=QC h hb' hx hn y1 y3;have hlen:=Dy (λx hx=>(zG y3 x hx).1);have hc:=Nv (S:=.sl id 0 len none) (n:=xs.length) y3 k2.symm y4 y5;by_cases hz:ys.length=0
         ·have hys:ys=[]:=jh hz
          subst hys;rw [kK] at y2;have hto:mW et size bytes (.sl id 0 len none) 0 (bC []) σ=some (.sl id 0 len none,σ):=by unfold mW;rw [ah (by simpa using hc)];rfl
          obtain ⟨y,w',η',r1,r2,r3⟩:=zx (ty:=ty) h hi z1 z2 hlen hto hu;have hq2:=r2.ext.pl _ _ hq;have hor2:=r2.rel.at hg hq2;have hv2:OR P (η'.put σ.next q) q w' (.vec m et false):=by
           have hle2:=Env.Eu r2.rel q;refine OR.uZ (by simp) y2 (λx hx=>by rw [hes];exact (k4 x hx).1) (λx hx=>(k4 x hx).2) (hor2.mono hle2) (λvs hvs=>conv vs hvs)
          have JC:=St.again (q':=q) r2.rel hg rfl zO hq2 rfl rfl (λ_ _=>rfl) rfl rfl rfl hv2;refine ⟨y,w',η'.put σ.next q,r1,r2.trans JC, ?_⟩;simp only [VR] at r3 ⊢;obtain ⟨q3,hq3,hle3,rfl⟩:=r3;rw [hq2] at hq3;cases hq3;exact ⟨xs,y2,.inl ⟨q,by simp [Env.put],by rw [k2];simpa using hle3,by simp [k2]⟩⟩
         ·have hto:mW et size bytes (.sl id 0 len none) ys.length (bC ys) σ=some (.sl σ.next 0 (len+ys.length) none,(σ.kill id).new (.cells (c++bC ys) et true true)):=by
           unfold mW;rw [ah hc];simp only;rw [ah hz,aj zO,hg];simp only [if_true,htk,gG]
          obtain ⟨y,w',η',r1,r2,r3⟩:=zx (ty:=ty) h hi z1 z2 hlen hto hu;obtain ⟨q1,q2⟩:=St.uZ (size:=size) r2 y2 hall hn (λvs hvs=>by
           obtain ⟨us,ts,rfl,v1,v2⟩:=ay.split hvs;rw [ZA];exact ay.append (conv us v1) v2) (by rw [dH,k2];exact r3) (f:=false) (by simp)
          exact ⟨y,w',η',r1,q1,q2⟩
        ·cases hs
       ·cases hs
      ·cases hs
     ·cases hs
  ·cases hs
 ·cases hs
end
end Go.aN
namespace Go.aN
set_option linter.unusedSimpArgs false
noncomputable section
variable [aF]
set_option linter.unusedSectionVars false
set_option linter.unusedVariables false
variable {P:Program} {η:Env} {σ σ':ak} {w:World}
theorem adH {x:GV} {z:List AV} (hx:∀us,ay η z us->ay η (cu x.cells) us):∀ (n:Nat) (vs:List Value),ay η (iP n z) vs->ay η (bC (List.replicate n x)) vs
 | 0,vs,h=>by simpa [iP,bC,cu] using h
 | n+1,vs,h=>by
   have e:iP (n+1) z=z++iP n z:=by simp [iP,IC]
   rw [e] at h;obtain ⟨us,ws,rfl,h1,h2⟩:=ay.split h;have e2:bC (List.replicate (n+1) x)=cu x.cells++bC (List.replicate n x):=by unfold bC;rw [IC,ji,DV]
   rw [e2];exact (hx us h1).append (adH hx n ws h2)
theorem ani (z:List AV) (n m:Nat) (h:n<=m):(iP m z).take (n * z.length)=iP n z:=by
 induction n generalizing m with
 | zero=>simp [iP]
 | succ n ih=>
   cases m with
   | zero=>omega
   | succ m=>
     have e:∀k,iP (k+1) z=z++iP k z:=λk=>by simp [iP,IC]
     rw [e,e,<- ih m (by omega),List.take_append,lK (by rw [pG];omega)];congr 2;rw [pG];omega
theorem ao6 (h:SR P η σ w) {t:TypeId} {l c v:AV} {x y:Value} (hs:QM P t l c σ=some (v,σ')) (hx:VR η l x) (hy:VR η c y) :
 ∃z w' η',(Instr.makeSlice t x y).run P w=.ok z w'/\St P η σ w η' σ' w'/\VR η' v z:=by
 unfold QM at hs;split at hs
 ·next e0 hu0=>
  split at hs
  ·next e size bytes z agg hi hagg=>
   obtain ⟨hut,_,_,he,hzl,hn⟩:=yw hi;rw [hu0] at hut;cases hut;split at hs
   ·cases hs
   ·next h0=>
    split at hs
    ·next zn ln cn hzn hln hcn=>
     obtain ⟨m,hm,e1⟩:=aW.1 hs;cases e1;obtain ⟨gl,l1,l2,l3⟩:=ku hln hx;obtain ⟨gc,c1,c2,c3⟩:=ku hcn hy;obtain ⟨g,g1,g2⟩:=fF hm;simp only [Nd.den,l1,c1] at g2;split at g2
     ·next xz kn n kn' m' e1 e2 e3=>
      cases e2;cases e3;split at g2
      ·next hc=>
       cases g2;obtain ⟨b1,b2,b3,b4,b5⟩:=hc;simp only [GR] at l3 c3;subst l3;subst c3;obtain ⟨xs,hrun,hsz,hvs⟩:=akF (P:=P) (w:=w) (η:=η) (kd:=kn) (kd':=kn') hi h0 b1 b2 b3 b4;have hzero:∀us,ay η z us->ay η (cu xz.cells) us:=by
        intro us hus;cases agg with
        | true=>
          simp only [if_true] at hzn;obtain ⟨l',gs,e4,_,e5,_,e6⟩:=FI hzn (by simp only [VR];exact ⟨us,rfl,hus⟩:VR η (.agg z) (.agg ⟨us⟩));rw [e1] at e5;cases e5;simp only [GR] at e6;obtain ⟨us',e7,e8⟩:=e6;cases e7;exact (lV _ _).1 e8
        | false=>
          simp only [gU,if_false] at hzn;cases hz':z with
          | nil=>rw [hz'] at hzn;simp at hzn
          | cons a zr=>
            rw [hz'] at hzn hus hzl;simp only [YD,zk] at hzn;simp only [ay] at hus;obtain ⟨u,ur,rfl,hu1,hu2⟩:=hus;obtain ⟨gz,k1,k2,k3⟩:=ku hzn hu1;rw [e1] at k1;cases k1;rw [GV.EI k2];have:size=1:=by
             unfold GV.fO at b5;rw [aI,GV.EI k2] at b5;exact (bn b5.1).symm
            rw [this] at hzl;have l9:zr=[]:=by apply jh;simpa using hzl
            subst l9;simp only [ay] at hu2;subst hu2;simp only [cu];exact ay.cons ((jU _ _).1 k3) (by simp [ay])
       have hall:∀x∈List.replicate n.toNat xz,x.cells.length=size/\x.cells.all GV.scalar=true:=by
        intro x hx;rw [(YH.1 hx).2];unfold GV.fO at b5;rw [aI] at b5;exact ⟨Nat.eq_of_beq_eq_true b5.1,b5.2⟩
       have hlm:n.toNat<=m'.toNat:=by omega
       have hpre:ay η (iP n.toNat z) (xs.toList.take (iP n.toNat z).length):=by
        rw [Qm,hzl];have:=hvs.take (n.toNat * size);rw [<- hzl,ani z _ _ hlm,hzl] at this;exact this
       have hal:=zD h (c:=iP n.toNat z) (xs:=xs) (elem:=_) (es:=size) (opn:=true) hpre (by rw [Qm,hzl,hsz];exact qV _ hlm) (by simp) (λ_=>⟨he,Nat.pos_of_ne_zero h0,hn⟩);have hcap:(m'.toNat * size) / size=m'.toNat:=YO _ (Nat.pos_of_ne_zero h0);obtain ⟨q1,q2⟩:=St.uZ (f:=false) (size:=size) (y:=.slice (some ⟨w.heap.size,0,none⟩) n.toNat m'.toNat) hal g1 hall hn (λvs hvs=>by
        have hz2:∀us,ay (η.put σ.next ⟨w.heap.size,0,xs.size,size⟩) z us->ay (η.put σ.next ⟨w.heap.size,0,xs.size,size⟩) (cu xz.cells) us:=by
         intro us hus;cases agg with
         | true=>
           simp only [if_true] at hzn;obtain ⟨l',gs,e4,_,e5,_,e6⟩:=FI hzn (by simp only [VR];exact ⟨us,rfl,hus⟩:VR (η.put σ.next ⟨w.heap.size,0,xs.size,size⟩) (.agg z) (.agg ⟨us⟩));rw [e1] at e5;cases e5;simp only [GR] at e6;obtain ⟨us',e7,e8⟩:=e6;cases e7;exact (lV _ _).1 e8
         | false=>
           simp only [gU,if_false] at hzn;cases hz':z with
           | nil=>rw [hz'] at hzn;simp at hzn
           | cons a zr=>
             rw [hz'] at hzn hus hzl;simp only [YD,zk] at hzn;simp only [ay] at hus;obtain ⟨u,ur,rfl,hu1,hu2⟩:=hus;obtain ⟨gz,k1,k2,k3⟩:=ku hzn hu1;rw [e1] at k1;cases k1;rw [GV.EI k2];have:size=1:=by
              unfold GV.fO at b5;rw [aI,GV.EI k2] at b5;exact (bn b5.1).symm
             rw [this] at hzl;have l9:zr=[]:=by apply jh;simpa using hzl
             subst l9;simp only [ay] at hu2;subst hu2;simp only [cu];exact ay.cons ((jU _ _).1 k3) (by simp [ay])
        exact adH hz2 _ _ hvs) (by
         simp only [VR];exact ⟨⟨w.heap.size,0,xs.size,size⟩,by simp [Env.put],by simp [hsz,hcap,hlm],by simp [hsz,hcap]⟩) (by simp)
       exact ⟨_,_,_,hrun,q1,q2⟩
      ·cases g2
     ·cases g2
    ·cases hs
  ·cases hs
 ·cases hs
theorem Jc:∀ {xs:List GV} {b:List UInt8},mY xs=some b->bytesOf (cu xs)=some b
 | [],b,h=>by simpa [mY,cu,bytesOf] using h
 | x::xs,b,h=>by
   unfold mY at h;split at h
   ·rename_i heq;cases heq
   ·next n rest heq=>
    cases heq;simp only [cu,jM,bytesOf];split at h
    ·next hc=>
     rw [aj hc];obtain ⟨b',hb',rfl⟩:=aW.1 h;rw [Jc hb'];rfl
    ·cases h
   ·cases h
theorem NH:∀ {xs:List GV} {b:List UInt8},mY xs=some b->xs.flatMap GV.cells=xs
 | [],b,h=>rfl
 | x::xs,b,h=>by
   unfold mY at h;split at h
   ·rename_i heq;cases heq
   ·next n rest heq=>
    cases heq;split at h
    ·obtain ⟨b',hb',_⟩:=aW.1 h
     rw [ji,NH hb'];rfl
    ·cases h
   ·cases h
theorem aoZ (h:SR P η σ w) {src dst:TypeId} {a v:AV} {x:Value} (hs:QG P src dst a σ=some (v,σ')) (hx:VR η a x) :
 ∃y w' η',(convert src dst x).run P w=.ok y w'/\St P η σ w η' σ' w'/\VR η' v y:=by
 unfold QG at hs;split at hs
 ·next d k n h1 h2=>
  obtain ⟨v',hm,e1⟩:=aW.1 hs;cases e1;simp only [VR] at hx;obtain ⟨g,a1,a2,a3⟩:=hx;obtain ⟨_,g',_,b2,b3⟩:=kH (η:=η) hm;simp only [Nd.den,a1] at b2;split at b2
  ·next kk z e1=>
   cases e1;cases b2;simp only [GR] at a3;subst a3;obtain ⟨y,w',η',r1,r2,r3⟩:=Jk h (src:=src) (dst:=dst) (a:=.i kk z) (v:=.i k (k.wrap z)) (σ':=σ) (by simp only [vK,h1,h2]) (by simp only [VR]:VR η (.i kk z) (.int kk z));exact ⟨y,w',η',r1,r2,by obtain ⟨_,g2,_,c2,c3⟩:=kH (η:=η') hm;simp only [Nd.den,a1,aT] at c2;subst c2;exact c3 y rfl ((jU _ _).2 r3)⟩
  ·cases b2
 ·next n h1 h2=>
  obtain ⟨v',hm,e1⟩:=aW.1 hs;cases e1;simp only [VR] at hx;obtain ⟨g,a1,a2,a3⟩:=hx;obtain ⟨_,g',_,b2,b3⟩:=kH (η:=η) hm;simp only [Nd.den,a1] at b2;split at b2
  ·next z e1=>
   cases e1;cases b2;simp only [GR] at a3;subst a3;obtain ⟨y,w',η',r1,r2,r3⟩:=Jk h (src:=src) (dst:=dst) (a:=.s z) (v:=.s z) (σ':=σ) (by simp only [vK,h1,h2]) (by simp only [VR]:VR η (.s z) (.string ⟨⟨z⟩⟩));exact ⟨y,w',η',r1,r2,by obtain ⟨_,g2,_,c2,c3⟩:=kH (η:=η') hm;simp only [Nd.den,a1,aT] at c2;subst c2;exact c3 y rfl ((jU _ _).2 r3)⟩
  ·cases b2
 ·next e n h1 h2=>
  split at hs
  ·next h3=>
   split at hs
   ·next hc=>
    split at hs
    ·next m hm=>
     cases hs;simp only [VR] at hx;obtain ⟨g,a1,a2,a3⟩:=hx;obtain ⟨g',b1,b2⟩:=fF hm;simp only [Nd.den,a1] at b2;split at b2
     ·next z e1=>
      cases e1;cases b2;simp only [GR] at a3;subst a3;obtain ⟨y,w',η',r1,r2,r3⟩:=Jk h (src:=src) (dst:=dst) (a:=.s z) (v:=.sl σ.next 0 z.length none) (σ':=σ.new (.cells (sQ z) e true true)) (by simp only [vK,h1,h2,h3,aj hc]) (by simp only [VR]:VR η (.s z) (.string ⟨⟨z⟩⟩));obtain ⟨q1,q2⟩:=St.uZ (f:=false) (size:=1) r2 b1 (by
       intro x hx;obtain ⟨c,_,rfl⟩:=kX.1 hx;exact ⟨rfl,rfl⟩) hc.2 (λvs hvs=>by rw [Zp];exact hvs) (by simpa [dZ] using r3) (by simp)
      exact ⟨y,w',η',r1,q1,q2⟩
     ·cases b2
    ·cases hs
   ·cases hs
  ·cases hs
 ·next e h1 h2=>
  split at hs
  ·next h3=>
   split at hs
   ·next m hl=>
    obtain ⟨v',hm,e1⟩:=aW.1 hs;cases e1;obtain ⟨_,g',_,b2,b3⟩:=kH (η:=η) hm;simp only [Nd.den] at b2;split at b2
    ·next xs hv=>
     split at b2
     ·next h48=>
      obtain ⟨b,hb,rfl⟩:=aW.1 b2;have fin:∀ {τ:ak} {A:AV},SR P η τ w->VR η A x->vK P src dst A τ=some (.s b,τ)->(∀ {η':Env} {w':World},St P η τ w η' τ w'->St P η σ w η' σ w')->∃y w' η',(convert src dst x).run P w=.ok y w'/\St P η σ w η' σ w'/\VR η' v y:=by
       intro τ A hS hA hA2 hst;obtain ⟨y,w',η',r1,r2,r3⟩:=Jk hS hA2 hA;refine ⟨y,w',η',r1,hst r2, ?_⟩;obtain ⟨_,g2,_,c2,c3⟩:=kH (η:=η') hm;simp only [Nd.den,hv,aj h48,hb,gG,aT] at c2;subst c2;exact c3 y rfl ((jU _ _).2 r3)
      have hnil:mY xs=some b->xs=[]->b=[]:=by rintro h1 rfl;simpa [mY] using h1.symm
      unfold listOf at hl;split at hl
      ·next n=>
       cases hl;simp only [VR] at hx;obtain ⟨g,a1,a2,a3⟩:=hx;rw [hv] at a1;cases a1;exact fin h ((jU (.l xs) x).1 a3) (by simp only [jM,vK,h1,h2,h3,Jc hb,gG]) (λh=>h)
      ·obtain ⟨g,g1,g2⟩:=fF hl
       rw [hv] at g1;cases g1;simp only [Nd.den,valsOf,gG,aT,GV.l.injEq] at g2;have:=hnil hb g2.symm;subst this;exact fin h hx (by simp only [vK,h1,h2,h3]) (λh=>h)
      ·next id n=>
       split at hl
       ·next m' et _ hg=>
        split at hl
        ·next hc=>
         cases hl;rw [aI] at hc;simp only [VR] at hx;obtain ⟨ys,k1,hx⟩:=hx;have hlen:=vY 100 hc.2 hv k1;rcases hx with ⟨q,hq,hle,rfl⟩ | ⟨_,rfl,rfl⟩
         ·obtain ⟨xs',j1,j2,j3,j4,j5,j6,j7,hS⟩:=Ie h hg hq
          rw [hv] at j1;cases j1;have hcg:bC xs=cu xs:=by unfold bC;rw [NH hb]
          have htk:takeN (bC xs) 0 xs.length=some (cu xs):=by
           rw [hcg];unfold takeN;rw [eH,lK (by rw [jX];omega),aj (jX xs)]
          rw [hlen] at htk;refine fin (A:=.sl id 0 ys.length none) hS (by simp only [VR];exact ⟨q,hq,by simpa using hle,by simp⟩) ?_ (λhst=>apz (λe=>by subst e;exact (h.at hg hq).Q9) hg hq hv j2 j7 (LD hg hst));simp only [vK,h1,h2,h3,Ar,htk,Jc hb,gG]
         ·have hxs:xs=[]:=jh (by simpa using hlen)
          have:=hnil hb hxs;subst this;exact fin h (A:=.dL) (by simp only [VR]) (by simp only [vK,h1,h2,h3]) (λh=>h)
        ·cases hl
       ·cases hl
      ·next id off len cap=>
       split at hl
       ·next c et qL opn size agg hg hsz hag=>
        split at hl
        ·next hc=>
         rw [aI,lJ,aI] at hc;split at hl
         ·next cs hcs=>
          split at hl
          ·next ns hns=>
           have hagg:agg=false->size=1:=by
            intro e;subst e;rcases hc.2 with h1 | h1
            ·simp at h1
            ·exact bn h1
           obtain ⟨g,g1,g2⟩:=fF hl;rw [hv] at g1;cases g1;simp only [VR] at hx;obtain ⟨q,hq,hle,rfl⟩:=hx;obtain ⟨q',hq',ws,elem,fr,hblk,rr⟩:=h.obj _ _ hg rfl;rw [hq] at hq';cases hq';have hlc:=(oO hcs).2.1;obtain ⟨gs,k1,k2,k3,_,k5⟩:=Bo (η:=η) hagg len hns (rr.wC hcs) hlc;simp only [Nd.den,k1,gG,aT,GV.l.injEq] at g2;rw [g2] at k2 k3 k5;have hl1:len * size=len:=by
            cases len with
            | zero=>simp
            | succ n=>
              have hx0:xs[0]? = some (xs[0]'(by omega)):=bP (by omega);have h5:=(k5 _ (qw hx0)).1;have h6:(xs[0]'(by omega)).cells.length=1:=by
               cases xs with
               | nil=>simp at k2
               | cons y ys=>
                 cases y with
                 | i k n=>rfl
                 | b=>simp [mY] at hb
                 | s=>simp [mY] at hb
                 | l=>simp [mY] at hb
                 | g=>simp [mY] at hb
              rw [h6] at h5;rw [<- h5];simp
           have hcg:bC xs=cu xs:=by unfold bC;rw [NH hb]
           rw [hcg] at k3;have hxs:=Jd (Jc hb) k3;rw [hl1] at hcs hxs;refine ⟨.string ⟨⟨b⟩⟩,w,η, ?_,St.refl h, ?_⟩
           ·simp only [convert,aQ,aV h1,aV h2,aP,aV h3,Conv.bytesToString]
            rw [Ai hblk (rr.take hcs),hxs];simp only [aP];rw [Xv _ (λ_ _ _=>rfl)];rfl
           ·obtain ⟨_,g2,_,c2,c3⟩:=kH (η:=η) hm
            simp only [Nd.den,hv,aj h48,hb,gG,aT] at c2;subst c2;exact c3 _ rfl (by simp only [GR])
          ·cases hl
         ·cases hl
        ·cases hl
       ·cases hl
      ·cases hl
     ·cases b2
    ·cases b2
   ·cases hs
  ·cases hs
 ·cases hs
end
end Go.aN
namespace Go.aN
set_option linter.unusedSimpArgs false
noncomputable section
variable [aF]
set_option linter.unusedSectionVars false
set_option linter.unusedVariables false
variable {P:Program} {η:Env} {σ σ':ak} {w:World}
def BZ (ro:Nat->Option Obj) (w:World) (b:Nat):Nat->Option Obj:=λk=>if k=b then w.heap[b]? else ro k
theorem Qn {ro:Nat->Option Obj} {w:World} (h:∀b o,ro b=some o->w.heap[b]? = some o) (b:Nat):∀k o,ro k=some o->BZ ro w b k=some o:=by
 intro k o hk;unfold BZ;split
 ·next e=>subst e;exact h _ _ hk
 ·exact hk
theorem St.freeze (h:SR P η σ w) {id:Nat} {o:aY} {q:Place} (hg:σ.get id=some o) (ho:o.own=true) (hl:σ.lock<=id) (hq:η id=some q):St P η σ w ⟨η.pl,BZ η.ro w q.bl,η.gh⟩ (σ.kill id) w:=by
 have hle:(η:Env).le ⟨η.pl,BZ η.ro w q.bl,η.gh⟩:=⟨λ_ _ h=>h,Qn h.iI q.bl,λ_ h=>h⟩
 have sub:∀k u,(σ.kill id).get k=some u->k≠id/\σ.get k=some u:=by
  intro k u hk;rw [ak.vS] at hk;split at hk
  ·cases hk
  ·next e=>exact ⟨e,hk⟩
 refine ⟨hle,⟨h.kR,h.dom,λk u hk=>?_,h.jf,λk u k' u' p p' a1 a2 a3 a4 a5 a6=>?_,λb u hb=>?_,λk u p a1 a2 a3=>?_,λp hp=>(h.tabs p hp).mono hle⟩,dD _,λ_ _ _=>rfl,λk u p a1 a2 a3 a4=>?_,rfl,rfl,rfl,rfl,dD _,λ_ h=>.inl h,λb hb=>?_⟩
 ·exact (h.live k u (sub k u hk).2).mono hle
 ·exact h.sep k u k' u' p p' (sub k u a1).2 a2 (sub k' u' a3).2 a4 a5 a6
 ·have hb':(if b=q.bl then w.heap[q.bl]? else η.ro b)=some u:=hb
  split at hb'
  ·next e=>rw [e];exact hb'
  ·exact h.iI b u hb'
 ·obtain ⟨e1,e2⟩:=sub k u a1
  show (if p.bl=q.bl then w.heap[q.bl]? else η.ro p.bl)=none
  have hne:=h.sep k u id o p q e2 a2 hg e1 a3 hq;rw [ah hne];exact h.jQ k u p e2 a2 a3
 ·exact .inr ⟨k,u,p,(sub k u a1).2,a2,a3,a4,rfl⟩
 ·have hb':(if b=q.bl then w.heap[q.bl]? else η.ro b)≠none:=hb
  split at hb'
  ·next e=>exact .inr (.inr ⟨id,o,q,hg,ho,hl,hq,e.symm⟩)
  ·exact .inl hb'
theorem GR.VT {η:Env} {w:World} {q:Place} {c:List AV} {et:TypeId} {qL opn:Bool} {ro':Nat->Option Obj} (h:OR P η q w (.cells c et qL opn)) (hro:∀b o,η.ro b=some o->ro' b=some o) (hq:ro' q.bl=w.heap[q.bl]?) {off n size cap:Nat} {cs:List AV} {gs:List GV} (ht:takeN c off (n * size)=some cs) (hn:gs.length=n) (hcap:n<=cap) (h0:0 < size)
 (hs:∀x∈gs,x.cells.length=size/\x.cells.all GV.scalar=true) (hc:∀ (η':Env) vs,(∀b o,η.ro b=some o->η'.ro b=some o)->ay η cs vs->ay η' (bC gs) vs):GR ro' (.l gs) (.slice (some ⟨q.bl,q.ba+off,none⟩) n cap):=by
 obtain ⟨ws,elem,fr,hb,r⟩:=h;have h1:=r.wC ht;have hfit:=r.take ht;obtain ⟨e1,e2,e3⟩:=oO ht;have h2:=hc ⟨η.pl,ro',η.gh⟩ _ hro h1;obtain ⟨ys,y1,y2,y3⟩:=ungroup gs _ h2 (λx hx=>(hs x hx).2);simp only [GR];right;refine ⟨q.bl,q.ba+off,cap,ys,size,by rw [hn],by rw [hn];exact hcap,y1,λy hy=>?_,λhne=>⟨ws,elem,fr,by rw [hq,hb], ?_, ?_⟩⟩
 ·obtain ⟨k,hk⟩:=Iy hy
  have hkl:k < gs.length:=by rw [y1.length];exact (dR.1 hk).1
  rw [y3 k _ y (bP hkl) hk];exact (hs _ (je hkl)).1
 ·rw [y2]
  have hnp:0 < gs.length:=MF.2 hne;have hp:0 < n * size:=IK (by omega) h0;rw [lX,dX,EY];omega
 ·rw [y2]
  intro k x hk;rw [kF] at hk;split at hk
  ·rw [pz,rY] at hk;exact hk
  ·cases hk
theorem VR.aaZ (h:SR P η σ w) {id n m et:Nat} {f:Bool} {x:Value} {ro':Nat->Option Obj} (hg:σ.get id=some (.vec m et f)) (hs:rU 100 m n=true) (hx:VR η (.sv id n) x) (hro:∀b o,η.ro b=some o->ro' b=some o) (hq:∀q,η id=some q->ro' q.bl=w.heap[q.bl]?) :
 ∃ys,aF.val m=some (.l ys)/\GR ro' (.l ys) x:=by
 simp only [VR] at hx;obtain ⟨ys,k1,hx⟩:=hx;rcases hx with ⟨q,hq1,hle,rfl⟩ | ⟨hgh,rfl,rfl⟩
 ·obtain ⟨xs,x1,x2,x3,x4,x5,x6,x7,x8⟩:=(h.at hg hq1).G8
  have hlen:=vY 100 hs x1 k1;refine ⟨xs,x1, ?_⟩;have hcl:=Dy x2;have:=GR.VT (ro':=ro') (off:=0) (n:=ys.length) (size:=q.es) (cap:=q.sz / q.es) (cs:=bC xs) (gs:=xs) x8 hro (hq q hq1) (by
   unfold takeN;rw [eH,<- hlen,lK (by omega),aj hcl]) hlen hle x4 (λx hx=>⟨x2 x hx,x7 x hx⟩) (λη' vs hro hvs=>by
    unfold bC at hvs ⊢;exact (lV _ _).1 (aO.mono hro _ _ ((lV _ _).2 hvs)))
  simpa using this
 ·rcases h.live id _ hg with ⟨q,hq1,_⟩ | ⟨_,n2,TQ,f2,e2,hv0⟩
  ·rw [(h.jf id hgh).1] at hq1;cases hq1
  ·cases e2
   exact ⟨[],hv0,by simp [GR]⟩
theorem YQ {η':Env} (hle:η.le η') {o:Option AV} {v:Option Value} (h:jJ η o v):jJ η' o v:=by
 cases o<;>cases v<;>first | exact h | exact VR.mono hle _ _ h
theorem St.amr (h:SR P η σ w) {id m et k:Nat} {f:Bool} (hg:σ.get id=some (.vec m et f)) (hgh:η.gh id=true) (hv:aF.val k=some (.l [])):St P η σ w η (σ.put id (.vec k et f)) w:=by
 have get:∀i u,(σ.put id (.vec k et f)).get i=some u->(i=id/\u=.vec k et f)\/(i≠id/\σ.get i=some u):=by
  intro i u hi;rw [ak.get_put] at hi;split at hi
  ·next e=>cases hi;exact .inl ⟨e,rfl⟩
  ·next e=>exact .inr ⟨e,hi⟩
 have hno:∀q,η id≠some q:=λq hq=>by rw [(h.jf id hgh).1] at hq;cases hq
 refine ⟨Env.le.refl _,⟨h.kR,h.dom,λi u hi=>?_,h.jf,λi u i' u' q q' a1 a2 a3 a4 a5 a6=>?_,h.iI,λi u q a1 a2 a3=>?_,h.tabs⟩,dD _,λ_ _ _=>rfl,λi u q a1 a2 a3 a4=>?_,rfl,rfl,rfl,rfl,dD _,λ_ h=>.inl h,λ_ h=>.inl h⟩
 ·rcases get i u hi with ⟨rfl,rfl⟩ | ⟨_,h1⟩
  ·exact .inr ⟨hgh,k,et,f,rfl,hv⟩
  ·exact h.live i u h1
 ·rcases get i u a1 with ⟨rfl,_⟩ | ⟨_,h1⟩
  ·exact absurd a5 (hno q)
  ·rcases get i' u' a3 with ⟨rfl,_⟩ | ⟨_,h2⟩
   ·exact absurd a6 (hno q')
   ·exact h.sep i u i' u' q q' h1 a2 h2 a4 a5 a6
 ·rcases get i u a1 with ⟨rfl,_⟩ | ⟨_,h1⟩
  ·exact absurd a3 (hno q)
  ·exact h.jQ i u q h1 a2 a3
 ·rcases get i u a1 with ⟨rfl,_⟩ | ⟨_,h1⟩
  ·exact absurd a4 (hno q)
  ·exact .inr ⟨i,u,q,h1,a2,a3,a4,rfl⟩
theorem ao7 (h:SR P η σ w) {t:TypeId} {a v:AV} {x:Value} {lo hi:Option AV} {lo' hi':Option Value} (hs:QO P t σ a lo hi=some (v,σ')) (hx:VR η a x) (hlo:jJ η lo lo') (hhi:jJ η hi hi') :
 ∃y w' η',(Instr.sliceAt t x lo' hi' none).run P w=.ok y w'/\St P η σ w η' σ' w'/\VR η' v y:=by
 unfold QO at hs;split at hs;rotate_left
 ·cases hs
 next e id n hu=>
 split at hs;rotate_left
 ·cases hs
 next m et f size hg hsz=>
 split at hs;rotate_left
 ·cases hs
 next hc=>
 simp only [aI] at hc;obtain ⟨⟨c1,c2⟩,c3⟩:=hc;have e1:=bn c1;subst e1;have hlk:=pI c3;cases lo with
 | some l0=>
   simp only at hs;obtain ⟨r,hr,e2⟩:=aW.1 hs;cases e2;have key:∀η1:Env,SR P η1 (σ.kill id) w->St P η σ w η1 (σ.kill id) w->VR η1 (.nd m) x->∃y w' η',(Instr.sliceAt t x lo' hi' none).run P w=.ok y w'/\St P η σ w η' (σ.kill id) w'/\VR η' v y:=by
    intro η1 h1 hst hv;obtain ⟨y,k1,k2⟩:=aef h1 hr hv (YQ hst.ext hlo) (YQ hst.ext hhi);exact ⟨y,w,η1,k1,hst,k2⟩
   have hx0:=hx;simp only [VR] at hx0;obtain ⟨ys,k1,hx0⟩:=hx0;rcases hx0 with ⟨q,hq1,hle,_⟩ | ⟨hgh,_,_⟩
   ·have hst:=St.freeze h hg rfl hlk hq1
    obtain ⟨zs,z1,z2⟩:=VR.aaZ (ro':=BZ η.ro w q.bl) h hg c2 hx (Qn h.iI q.bl) (λq' hq'=>by rw [hq1] at hq';cases hq';unfold BZ;rw [aj rfl]);exact key _ hst.rel hst (by simp only [VR];exact ⟨_,z1,rfl,z2⟩)
   ·obtain ⟨zs,z1,z2⟩:=VR.aaZ (ro':=η.ro) h hg c2 hx (λ_ _ h=>h) (λq' hq'=>by rw [(h.jf id hgh).1] at hq';cases hq')
    have hst:=(St.refl h).Pe id;exact key η hst.rel hst (by simp only [VR];exact ⟨_,z1,rfl,z2⟩)
 | none=>
   simp only at hs;split at hs;rotate_left
   ·cases hs
   next z hh h1 h2=>
   obtain ⟨k,hk,e2⟩:=aW.1 hs;cases e2;obtain ⟨g,g1,g2⟩:=fF hk;simp only [Nd.den] at g2;split at g2;rotate_left
   ·cases g2
   next xs kl li kh hi2 e3 e4 e5=>
   split at g2;rotate_left
   ·cases g2
   next hc=>
   cases g2;obtain ⟨b1,b2,b3,b4⟩:=hc;have hz:li=0:=by
    obtain ⟨gz,z1,z2⟩:=fF h1;simp only [Nd.den,aT] at z2;subst z2;rw [e4] at z1;cases z1;rfl
   subst hz;have hlt:Ja (none:Option AV)=some z:=h1;obtain ⟨lo2,hi3,d1,d2,d3⟩:=XP (len:=xs.length) hlt h2 hlo hhi e4 e5 (λhd=>by simp only [Nd.den,e3,aT,GV.i.injEq] at hd;exact hd.2.symm) b1 b2 b3;have hlo2:(0:Int).toNat=0:=rfl;simp only [VR] at hx;obtain ⟨ys,y1,hx⟩:=hx;have hlen:=vY 100 c2 e3 y1;have hks:(xs.take hi2.toNat).drop (0:Int).toNat=xs.take hi2.toNat:=by simp
   rw [hks] at g1;have JJ:hi2.toNat<=xs.length:=by omega
   rcases hx with ⟨q,hq1,hle,rfl⟩ | ⟨hgh,rfl,rfl⟩
   ·have hor:=h.at hg hq1
    obtain ⟨xs',cs,elem,fr,zs,o1,o2,o3,o4,o5,o6,o7,o8,o9⟩:=hor;rw [e3] at o1;cases o1
    have hB:=Bf (P:=P) (w:=w) (sl:=true) (cap:=q.sz / q.es) d3 (λk hk=>by have:k<=xs.length:=by simpa using hk
                                                                          omega) (by omega) d1 d2
    have hes:0 < q.es/\sizeT P e=some q.es:=⟨(o7.room rfl).2.1,(o7.room rfl).2.2⟩
    have hne:size=q.es:=by have:=hes.2;rw [hsz] at this;cases this;rfl
    have hnew:OR P η q w (.vec k e f):=by
     have hz1:=o3.length;refine ⟨xs.take hi2.toNat,cs,elem,fr,zs.take hi2.toNat,g1,o2, ?_,λy hy=>o4 y (Fg hy), ?_, ?_,o7,λx hx=>o8 x (Fg hx),o9⟩
     ·have:∀ (xs:List GV) (zs:List Value) (n:Nat),aO η.ro xs zs->aO η.ro (xs.take n) (zs.take n):=by
       intro xs;induction xs with
       | nil=>intro zs n hg;simp only [aO] at hg;subst hg;simp [aO]
       | cons a l ih=>
         intro zs n hg;simp only [aO] at hg;obtain ⟨x,us,rfl,a1,a2⟩:=hg;cases n with
         | zero=>simp [aO]
         | succ n=>simp only [wK,aO];exact ⟨x,us.take n,rfl,a1,ih us n a2⟩
      exact this _ _ _ o3
     ·intro j x hj
      refine o5 j x ?_;have hpre:(cO (zs.take hi2.toNat)) <+: cO zs:=by
       unfold cO;rw [show zs=zs.take hi2.toNat++zs.drop hi2.toNat from (CV _ _).symm];rw [YB];simp only [CV];exact List.prefix_append _ _
      obtain ⟨r,hr⟩:=hpre;rw [<- hr,kL (dR.1 hj).1];exact hj
     ·rw [lX]
      refine iF (qV _ (Nat.min_le_right _ _)) o6
    have hst:=St.write h hg rfl hlk hq1 (w':=w) (o':=.vec k e f) rfl (λ_ _=>rfl) rfl rfl rfl hnew;refine ⟨.slice (some ⟨q.bl,q.ba,none⟩) hi2.toNat (q.sz / q.es),w,η, ?_,hst, ?_⟩
    ·rw [hlen] at hB
     simp only [Instr.sliceAt,Instr.slice,aV hu,aQ,aP,hB.1,iE hsz,aZ];by_cases e0:q.sz / q.es=0
     ·simp [e0]
     ·have e1:¬ q.sz / q.es=(0:Int).toNat:=e0
      rw [ah e1];simp [nT]
    ·simp only [VR]
     refine ⟨xs.take hi2.toNat,g1,.inl ⟨q,hq1, ?_, ?_⟩⟩
     ·rw [lX];omega
     ·rw [lX,IJ JJ]
   ·have hxs:xs=[]:=jh (by simpa using hlen)
    subst hxs;have hh0:hi2.toNat=0:=by simpa using JJ
    have hl:xY P t σ .dL lo2 hi3=some .dL:=by
     simp only [xY,hu,hsz];simp only [qQ] at d3;rw [d3];rfl
    obtain ⟨y,u1,u2⟩:=Qx h hl (show VR η .dL (.slice none 0 0) by simp only [VR]) d1 d2;simp only [VR] at u2;subst u2;have hvk:aF.val k=some (.l []):=by rw [g1];simp
    refine ⟨_,w,η,u1,St.amr h hg hgh hvk, ?_⟩;simp only [VR];exact ⟨[],hvk,.inr ⟨hgh,by trivial,by trivial⟩⟩
end
end Go.aN
namespace Go.aN
set_option linter.unusedSimpArgs false
noncomputable section
variable [aF]
set_option linter.unusedSectionVars false
set_option linter.unusedVariables false
variable {P:Program} {η:Env} {σ σ':ak} {w:World}
def qH (kk:Option IntKind):TypeDesc:=match kk with
 | some k=>.int k
 | none=>.string
theorem O8 {kt:TypeId} {k:AV} {n:Nat} {kk:Option IntKind} {y:Value} (h:JR P kt k=some (n,kk)) (hy:VR η k y) :
 P.underlying kt=some (qH kk)/\∃g,aF.val n=some g/\xw kk g/\GR η.ro g y:=by
 unfold JR at h;split at h
 ·next zU m hu hn=>
  split at h
  ·next z hz=>
   obtain ⟨j,hj,e⟩:=aW.1 h;cases e;obtain ⟨g,h1,_,h3⟩:=ku hn hy;obtain ⟨z',h4,h5⟩:=fF hz;simp only [Nd.den,aT] at h5;subst h5;obtain ⟨r,_,h7⟩:=fF hj;simp only [Nd.den,h1,h4] at h7;refine ⟨hu,g,h1, ?_,h3⟩;cases g<;>simp only [gq,fG,reduceCtorEq] at h7
   split at h7
   ·next e=>subst e;exact ⟨_,rfl⟩
   ·cases h7
  ·cases h
 ·next m hu hn=>
  split at h
  ·next z hz=>
   obtain ⟨j,hj,e⟩:=aW.1 h;cases e;obtain ⟨g,h1,_,h3⟩:=ku hn hy;obtain ⟨z',h4,h5⟩:=fF hz;simp only [Nd.den,aT] at h5;subst h5;obtain ⟨r,_,h7⟩:=fF hj;simp only [Nd.den,h1,h4] at h7;refine ⟨hu,g,h1, ?_,h3⟩;cases g<;>simp only [gq,uq,reduceCtorEq] at h7
   exact ⟨_,rfl⟩
  ·cases h
 ·cases h
theorem adP {k:IntKind} {a b:Int}:Instr.sameNow (.int k) (.int k a) (.int k b)=some (a==b):=by simp [Instr.sameNow]
theorem adR {a b:List UInt8}:Instr.sameNow .string (.string ⟨⟨a⟩⟩) (.string ⟨⟨b⟩⟩)=some (a==b):=by simp [Instr.sameNow,Dk]
theorem abM {kk:Option IntKind} {n:Nat} {e:AV} {g:GV} {x y:Value} {b:Bool} (h:U6 n e=some b) (hg:aF.val n=some g) (hk:xw kk g) (hy:GR η.ro g y) (hx:VR η e x) :
 Instr.sameNow (qH kk) y x=some b:=by
 unfold U6 at h;split at h
 ·next m hm=>
  obtain ⟨g',h1,_,h3⟩:=ku hm hx;have key:∃r,(Nd.bin .eql n m).den aF.I aF.val=some r/\r=.b b:=by
   split at h
   ·next b' hb=>
    cases h;obtain ⟨j,r,q1,q2,q3⟩:=kH (η:=η) hb;refine ⟨r,q2, ?_⟩;simp only [Nd.den,hg,h1] at q2;have:∃c,r=.b c:=by
     cases g<;>cases g'<;>simp only [gq,reduceCtorEq] at q2
     ·split at q2
      ·simp only [fG,aT] at q2;exact ⟨_,q2.symm⟩
      ·cases q2
     ·simp only [uq,aT] at q2;exact ⟨_,q2.symm⟩
    obtain ⟨c,rfl⟩:=this;have:=q3 (.bool c) rfl (by simp only [GR]);simp only [VR] at this;cases this;rfl
   ·next j hb=>
    split at h
    ·next b' hd=>
     cases h;obtain ⟨j',r,q1,q2,q3⟩:=kH (η:=η) hb;refine ⟨r,q2, ?_⟩;simp only [Nd.den,hg,h1] at q2;have:∃c,r=.b c:=by
      cases g<;>cases g'<;>simp only [gq,reduceCtorEq] at q2
      ·split at q2
       ·simp only [fG,aT] at q2;exact ⟨_,q2.symm⟩
       ·cases q2
      ·simp only [uq,aT] at q2;exact ⟨_,q2.symm⟩
     obtain ⟨c,rfl⟩:=this;have h8:=q3 (.bool c) rfl (by simp only [GR]);obtain ⟨v,hv,q4⟩:=DJ hd;cases hv;have:=q4 η _ h8;simp only [VR] at this;cases this;rfl
    ·cases h
   ·cases h
  obtain ⟨r,q2,rfl⟩:=key;simp only [Nd.den,hg,h1] at q2;cases kk with
  | some k=>
    obtain ⟨a,rfl⟩:=hk;simp only [GR] at hy;subst hy;cases g'<;>simp only [gq,reduceCtorEq] at q2
    split at q2
    ·next e=>
     subst e;simp only [fG,aT,GV.b.injEq] at q2;simp only [GR] at h3;subst h3;show Instr.sameNow (.int _) _ _=_
     rw [adP,q2]
    ·cases q2
  | none=>
    obtain ⟨a,rfl⟩:=hk;simp only [GR] at hy;subst hy;cases g'<;>simp only [gq,uq,reduceCtorEq] at q2
    simp only [aT,GV.b.injEq] at q2;simp only [GR] at h3;subst h3;show Instr.sameNow .string _ _=_
    rw [adR,q2]
 ·cases h
theorem Ju {kk:Option IntKind} {n:Nat} {g:GV} {y:Value} (hg:aF.val n=some g) (hk:xw kk g) (hy:GR η.ro g y):∀ {es:List (AV×AV)} {ms:List MapEntry} {i:Nat} {r:Option (Nat×AV)},
 Gh n es i=some r->vG η es ms->∃r',Instr.findNow (qH kk) y ms i=some r'/\(match r,r' with | none,none=>True | some (_,v),some (_,z)=>VR η v z | _,_=>False)
 | [],ms,i,r,h,hm=>by
   simp only [Gh,aT] at h;subst h;have:ms=[]:=by have:=hm.1;cases ms<;>simp_all
   subst this;exact ⟨none,rfl,trivial⟩
 | e::es,ms,i,r,h,hm=>by
   obtain ⟨m,rest,rfl,h1,h2,h3⟩:=hm.tail;unfold Gh at h;split at h
   ·next hs=>
    cases h;have hs:=abM hs hg hk hy h1;exact ⟨some (i,m.val),by simp [Instr.findNow,hs],h2⟩
   ·next hs=>
    have hs:=abM hs hg hk hy h1;obtain ⟨r',hr,hrel⟩:=Ju hg hk hy h h3;exact ⟨r',by simp [Instr.findNow,hs,hr],hrel⟩
   ·cases h
theorem adQ {kk:Option IntKind} {g a:GV} {y x:Value} {ro:Nat->Option Obj} (hk:xw kk g) (ha:xw kk a) (hy:GR ro g y) (hx:GR ro a x):Instr.sameNow (qH kk) y x=some (iW g a):=by
 cases kk with
 | some k=>
   obtain ⟨m,rfl⟩:=hk;obtain ⟨n,rfl⟩:=ha;simp only [GR] at hy hx;subst hy;subst hx;show Instr.sameNow (.int _) _ _=_
   rw [adP];simp [iW]
 | none=>
   obtain ⟨m,rfl⟩:=hk;obtain ⟨n,rfl⟩:=ha;simp only [GR] at hy hx;subst hy;subst hx;show Instr.sameNow .string _ _=_
   rw [adR];rfl
theorem Ox {ro:Nat->Option Obj} {kk:Option IntKind} {sz:Option Nat} {g:GV} {y:Value} (hk:xw kk g) (hy:GR ro g y):∀ {xs:List GV} {ms:List MapEntry} {i:Nat},pF ro kk sz xs ms->
 (eU g xs=none/\Instr.findNow (qH kk) y ms i=some none)\/∃u j z,eU g xs=some u/\Instr.findNow (qH kk) y ms i=some (some (j,z))/\i<=j/\(∃m,ms[j - i]? = some m/\Instr.sameNow (qH kk) y m.key=some true)/\Ig sz u/\GR ro u z
 | [],ms,i,h=>by
   simp only [pF] at h;subst h;exact .inl ⟨rfl,rfl⟩
 | x::xs,ms,i,h=>by
   obtain ⟨a,b,m,rest,rfl,rfl,h1,h2,h3,h4,h5⟩:=h;have hs:=adQ hk h1 hy h3;cases hb:iW g a with
   | true=>
     rw [hb] at hs;exact .inr ⟨b,i,m.val,by simp [eU,hb],by simp [Instr.findNow,hs],dD _,⟨m,by simp,hs⟩,h2,h4⟩
   | false=>
     rw [hb] at hs;rcases Ox (i:=i+1) hk hy h5 with ⟨q1,q2⟩ | ⟨u,j,z,q1,q2,q3,⟨m',q4,q5⟩,q6⟩
     ·exact .inl ⟨by simp [eU,hb,q1],by simp [Instr.findNow,hs,q2]⟩
     ·refine .inr ⟨u,j,z,by simp [eU,hb,q1],by simp [Instr.findNow,hs,q2],by omega,⟨m', ?_,q5⟩,q6⟩
      have:j - i=(j - (i+1))+1:=by omega
      rw [this];simpa using q4
theorem adr {ro:Nat->Option Obj} {kk:Option IntKind} {sz:Option Nat} {g u:GV} {e:MapEntry} (hk:xw kk g) (hu:Ig sz u) (h1:GR ro g e.key) (h2:GR ro u e.val):∀ {xs:List GV} {ms:List MapEntry},pF ro kk sz xs ms->eU g xs=none->
 pF ro kk sz (iH g u xs) (ms++[e])
 | [],ms,h,_=>by
   simp only [pF] at h;subst h;exact ⟨g,u,e,[],rfl,rfl,hk,hu,h1,h2,rfl⟩
 | x::xs,ms,h,hn=>by
   obtain ⟨a,b,m,rest,rfl,rfl,q1,q2,q3,q4,q5⟩:=h;simp only [eU] at hn;split at hn
   ·cases hn
   ·next hb=>
    simp only [iH,ah hb];exact ⟨a,b,m,rest++[e],rfl,rfl,q1,q2,q3,q4,adr hk hu h1 h2 q5 hn⟩
theorem ads {ro:Nat->Option Obj} {kk:Option IntKind} {sz:Option Nat} {g u:GV} {y z':Value} (hk:xw kk g) (hu:Ig sz u) (h1:GR ro g y) (h2:GR ro u z'):∀ {xs:List GV} {ms:List MapEntry} {i j:Nat} {z:Value},pF ro kk sz xs ms->Instr.findNow (qH kk) y ms i=some (some (j,z))->
 pF ro kk sz (iH g u xs) (ms.modify (j - i) λe=>{ e with key:=y,val:=z' })
 | [],ms,i,j,z,h,hf=>by
   simp only [pF] at h;subst h;simp [Instr.findNow] at hf
 | x::xs,ms,i,j,z,h,hf=>by
   obtain ⟨a,b,m,rest,rfl,rfl,q1,q2,q3,q4,q5⟩:=h;have hs:=adQ hk q1 h1 q3;cases hb:iW g a with
   | true=>
     rw [hb] at hs;simp only [Instr.findNow,hs,aT,jV] at hf;obtain ⟨rfl,rfl⟩:=hf;simp only [iH,hb,if_true,xQ];exact ⟨g,u, { m with key:=y,val:=z' },rest,rfl,by simp,hk,hu,h1,h2,q5⟩
   | false=>
     rw [hb] at hs;simp only [Instr.findNow,hs] at hf;have hj:i+1<=j:=by
      rcases Ox (i:=i+1) hk h1 q5 with ⟨_,r2⟩ | ⟨_,j',_,_,r2,r3,_⟩
      ·rw [hf] at r2;cases r2
      ·rw [hf] at r2;cases r2;exact r3
     have ih:=ads hk hu h1 h2 q5 hf;have e:j - i=(j - (i+1))+1:=by omega
     rw [e];simp only [iH,hb,gU,if_false,List.modify_succ_cons];exact ⟨a,b,m,_,rfl,rfl,q1,q2,q3,q4,ih⟩
theorem NM {kt:TypeId} {kk:Option IntKind} {g:GV} {y:Value} (hu:P.underlying kt=some (qH kk)) (hk:xw kk g) (hy:GR η.ro g y) (b:Bool):(Instr.checkKey b 10000 kt y).run P w=.ok () w:=by
 have H:∀n:Nat,(Instr.checkKey b (n+1) kt y).run P w=.ok () w:=λn=>by
  cases kk with
  | some k=>
    obtain ⟨m,rfl⟩:=hk;simp only [GR] at hy;subst hy;simp only [Instr.checkKey,aQ,aV hu,aP,qH,aZ]
  | none=>
    obtain ⟨m,rfl⟩:=hk;simp only [GR] at hy;subst hy;simp only [Instr.checkKey,aQ,aV hu,aP,qH,aZ]
 exact H 9999
theorem aeI {et:TypeId} {v:AV} {n:Nat} {sz:Option Nat} {x:Value} (h:LJ P et v=some (n,sz)) (hx:VR η v x):∃g,aF.val n=some g/\Ig sz g/\GR η.ro g x/\(match mD P et with
 | some true=>∃k,sizeT P et=some k/\sz=some k
 | some false=>sz=none
 | none=>False):=by
 unfold LJ at h;split at h
 ·next ha=>
  split at h
  ·next n' k hn hk=>
   split at h
   ·next he=>
    cases h;obtain ⟨l,gs,rfl,h1,h2,h3,h4⟩:=FI hn hx;rw [ha];refine ⟨_,h2,⟨gs,rfl, ?_,h3⟩,h4,k,hk,rfl⟩;rw [h1];exact bn he
   ·cases h
  ·cases h
 ·next ha=>
  obtain ⟨n',hn,e⟩:=aW.1 h;cases e;obtain ⟨g,h1,h2,h3⟩:=ku hn hx;rw [ha];exact ⟨g,h1,h2,h3,rfl⟩
 ·cases h
theorem Pg {a b:Option IntKind} (h:GK a b=true):a=b:=by
 cases a<;>cases b<;>simp only [GK] at h
 ·rfl
 ·cases h
 ·cases h
 ·rw [O6 h]
theorem XQ {a b:Option Nat} (h:Lr a b=true):a=b:=by
 cases a<;>cases b<;>simp only [Lr] at h
 ·rfl
 ·cases h
 ·cases h
 ·rw [bn h]
theorem Yg {et:TypeId} {z:AV} (h:LQ P et=some z):∃x,(zeroValue et).run P w=.ok x w/\VR η z x:=by
 unfold LQ at h;split at h
 ·next i hi=>
  split at h
  ·next x hx=>
   obtain ⟨h3,h4⟩:=Rn (w:=w) (η:=η) hi hx h;exact ⟨x,h3,h4⟩
  ·cases h
 ·cases h
theorem aiR:∀ (cs:List GV) (n:Nat),cs.length=n->takeN (cu cs) 0 n=some (cu cs):=by
 intro cs n hn;have hl:(cu cs).length=n:=by rw [jX,hn]
 simp only [takeN,eH];rw [lK (by omega),aj hl]
theorem Ud (s:ByteArray):∀ (l:List MapEntry) (i:Nat),(∀m∈l,∃t,m.key=.string t)->
 (∃j m,Instr.findNow .string (.string s) l i=some (some (j,m.val))/\m∈l/\m.key=.string s)\/(Instr.findNow .string (.string s) l i=some none/\∀m∈l,m.key≠.string s)
 | [],i,_=>.inr ⟨rfl,λm hm=>by simp at hm⟩
 | m::l,i,h=>by
   obtain ⟨t,ht⟩:=h m (by simp);have hs:Instr.sameNow .string (.string s) m.key=some (s==t):=by rw [ht];rfl
   have hbb:(s==t)=decide (s=t):=by
    obtain ⟨⟨a⟩⟩:=s;obtain ⟨⟨b⟩⟩:=t;rw [Dk];by_cases c:a=b
    ·subst c;simp
    ·rw [DK (by simpa using c)];simpa using c
   by_cases c:s=t
   ·subst c
    rw [hbb,Bl rfl] at hs;exact .inl ⟨i,m,by simp [Instr.findNow,hs],by simp,ht⟩
   ·rw [hbb,DK c] at hs
    rcases Ud s l (i+1) (λm hm=>h m (by simp [hm])) with ⟨j,m',h1,h2,h3⟩ | ⟨h1,h2⟩
    ·exact .inl ⟨j,m',by simp [Instr.findNow,hs,h1],by simp [h2],h3⟩
    ·refine .inr ⟨by simp [Instr.findNow,hs,h1],λm' hm'=>?_⟩
     simp only [bU] at hm';rcases hm' with rfl | hm'
     ·rw [ht];simpa using λe=>c e.symm
     ·exact h2 m' hm'
theorem aaQ (s:ByteArray) {l l':List MapEntry} (hp:l.Perm l') (hk:∀m∈l',∃t,m.key=.string t) (hn:(l'.map (·.key)).Nodup) {r:Option (Nat×Value)} (h:Instr.findNow .string (.string s) l' 0=some r) :
 ∃r',Instr.findNow .string (.string s) l 0=some r'/\(match r,r' with | none,none=>True | some (_,v),some (_,z)=>v=z | _,_=>False):=by
 have hk2:∀m∈l,∃t,m.key=.string t:=λm hm=>hk m (hp.mem_iff.1 hm);have inj:∀m∈l',∀m'∈l',m.key=m'.key->m=m':=by
  clear hp hk h hk2;induction l' with
  | nil=>intro m hm;simp at hm
  | cons a l ih=>
    simp only [iQ,YJ,kX,not_exists,not_and] at hn;intro m hm m' hm' e;simp only [bU] at hm hm';rcases hm with rfl | hm<;>rcases hm' with rfl | hm'
    ·rfl
    ·exact absurd e.symm (hn.1 m' hm')
    ·exact absurd e (hn.1 m hm)
    ·exact ih hn.2 m hm m' hm' e
 rcases Ud s l' 0 hk with ⟨j,m,h1,h2,h3⟩ | ⟨h1,h2⟩<;>rcases Ud s l 0 hk2 with ⟨j',m',h4,h5,h6⟩ | ⟨h4,h5⟩
 ·rw [h1] at h;cases h
  refine ⟨_,h4, ?_⟩;have:=inj m h2 m' (hp.mem_iff.1 h5) (by rw [h3,h6]);subst this;rfl
 ·exact absurd h3 (h5 m (hp.mem_iff.2 h2))
 ·exact absurd h6 (h2 m' (hp.mem_iff.1 h5))
 ·rw [h1] at h;cases h
  exact ⟨_,h4,trivial⟩
theorem ao5 (h:SR P η σ w) {t:TypeId} {m k v:AV} {x y:Value} {ok:Bool} (hs:QL P t m k ok σ=some v) (hx:VR η m x) (hy:VR η k y) :
 ∃z,(Instr.lookup t x y ok).run P w=.ok z w/\VR η v z:=by
 unfold QL at hs;split at hs;rotate_left
 ·cases hs
 next kt et id hu=>
 simp only [VR] at hx;obtain ⟨q,hq,rfl⟩:=hx;split at hs
 ·next n kk es hn hg=>
  obtain ⟨lT,g,g1,g2,g3⟩:=O8 hn hy;obtain ⟨q',hq',ms,clock,hb,hsz,hp⟩:=h.obj _ _ hg rfl;rw [hq] at hq';cases hq';have hmr:vG η es ms.toList:=⟨by simpa using hsz,λk e hk=>by obtain ⟨m,hm,h1,h2⟩:=hp k e hk;exact ⟨m,by simpa using hm,h1,h2⟩⟩
  rw [Pz hu y ok hb];have hck:∀b,(Instr.checkKey b 10000 kt y).run P w=.ok () w:=λb=>NM lT g2 g3 b;split at hs
  ·next j u hf=>
   cases hs;obtain ⟨r',h1,h2⟩:=Ju g1 g2 g3 hf hmr;cases r' with
   | none=>exact h2.elim
   | some p=>
     obtain ⟨j',z⟩:=p;have hfk:(Instr.findKey kt y ms.toList).run P w=.ok (some (j',z)) w:=by simp only [Instr.findKey,aQ,aV lT,aP,h1,aZ]
     refine ⟨if ok then .tuple #[z,.bool true] else z, ?_, ?_⟩
     ·simp only [pO,aQ,aP,hck,hfk,aZ]
     ·cases ok
      ·simpa using h2
      ·simp only [VR];exact ⟨[z,.bool true],rfl,ay.cons h2 (ay.cons (by simp [VR]) (by simp [ay]))⟩
  ·next hf=>
   obtain ⟨r',h1,h2⟩:=Ju g1 g2 g3 hf hmr;cases r' with
   | some p=>exact h2.elim
   | none=>
     have hfk:(Instr.findKey kt y ms.toList).run P w=.ok none w:=by simp only [Instr.findKey,aQ,aV lT,aP,h1,aZ]
     obtain ⟨a,ha,rfl⟩:=aW.1 hs;obtain ⟨z,h3,h4⟩:=Yg (w:=w) (η:=η) ha;refine ⟨if ok then .tuple #[z,.bool false] else z, ?_, ?_⟩
     ·simp only [pO,aQ,aP,hck,hfk,h3,aZ]
     ·cases ok
      ·simpa using h4
      ·simp only [VR];exact ⟨[z,.bool false],rfl,ay.cons h4 (ay.cons (by simp [VR]) (by simp [ay]))⟩
  ·cases hs
 ·next n kk es hn hg=>
  obtain ⟨lT,g,g1,g2,g3⟩:=O8 hn hy;obtain ⟨q',hq',hnd,ms,clock,ms',hb,hpm,hsz,hp⟩:=h.obj _ _ hg rfl;rw [hq] at hq';cases hq';split at hs;rotate_left
  ·cases hs
  next hkk=>
  have:=Pg hkk;subst this;have hmr:vG η (es.map λe=>(AV.s e.1,e.2)) ms':=⟨by simpa using hsz,λk e hk=>by
   rw [iq] at hk;obtain ⟨e0,h4,rfl⟩:=aW.1 hk;obtain ⟨m,hm,h1,h2⟩:=hp k e0 h4;exact ⟨m,hm,by simp only [VR];exact h1,h2⟩⟩
  have hkeys:ms'.map (·.key)=es.map λe=>Value.string ⟨⟨e.1⟩⟩:=by
   apply Fb;intro k;rw [iq,iq];cases he:es[k]? with
   | none=>
     have:ms'[k]? = none:=by rw [List.getElem?_eq_none_iff] at he ⊢;omega
     rw [this];rfl
   | some e=>
     obtain ⟨m,hm,h1,_⟩:=hp k e he;rw [hm];simp [h1]
  have hks:∀m∈ms',∃t,m.key=.string t:=λm hm=>by
   have:m.key∈ms'.map (·.key):=List.mem_map_of_mem hm;rw [hkeys] at this;obtain ⟨e,_,h1⟩:=kX.1 this;exact ⟨_,h1.symm⟩
  have abt:(ms'.map (·.key)).Nodup:=by
   rw [hkeys];have:(es.map λe=>Value.string ⟨⟨e.1⟩⟩)=(es.map (·.1)).map λs=>Value.string ⟨⟨s⟩⟩:=by simp
   rw [this];refine List.Pairwise.map _ (λa b hab hc=>hab ?_) hnd;simpa using hc
  obtain ⟨s,hs1,hs2⟩:∃s,y=.string s/\True:=by
   obtain ⟨s0,rfl⟩:=g2;simp only [GR] at g3;exact ⟨_,g3,trivial⟩
  subst hs1;rw [Pz hu _ ok hb];have hck:∀b,(Instr.checkKey b 10000 kt (.string s)).run P w=.ok () w:=λb=>NM lT g2 g3 b;split at hs
  ·next j u hf=>
   cases hs;obtain ⟨r',h1,h2⟩:=Ju g1 g2 g3 hf hmr;cases r' with
   | none=>exact h2.elim
   | some p=>
     obtain ⟨j',z⟩:=p;obtain ⟨r2,h3,h4⟩:=aaQ s hpm hks abt h1;cases r2 with
     | none=>exact h4.elim
     | some p2=>
     obtain ⟨j2,z2⟩:=p2;have h4:z=z2:=h4;subst h4;have hfk:(Instr.findKey kt (.string s) ms.toList).run P w=.ok (some (j2,z)) w:=by simp only [Instr.findKey,aQ,aV lT,aP,qH,h3,aZ]
     refine ⟨if ok then .tuple #[z,.bool true] else z, ?_, ?_⟩
     ·simp only [pO,aQ,aP,hck,hfk,aZ]
     ·cases ok
      ·simpa using h2
      ·simp only [VR];exact ⟨[z,.bool true],rfl,ay.cons h2 (ay.cons (by simp [VR]) (by simp [ay]))⟩
  ·next hf=>
   obtain ⟨r',h1,h2⟩:=Ju g1 g2 g3 hf hmr;cases r' with
   | some p=>exact h2.elim
   | none=>
     obtain ⟨r2,h3,h4⟩:=aaQ s hpm hks abt h1;cases r2 with
     | some p2=>exact h4.elim
     | none=>
     have hfk:(Instr.findKey kt (.string s) ms.toList).run P w=.ok none w:=by simp only [Instr.findKey,aQ,aV lT,aP,qH,h3,aZ]
     obtain ⟨a,ha,rfl⟩:=aW.1 hs;obtain ⟨z,h5,h6⟩:=Yg (w:=w) (η:=η) ha;refine ⟨if ok then .tuple #[z,.bool false] else z, ?_, ?_⟩
     ·simp only [pO,aQ,aP,hck,hfk,h5,aZ]
     ·cases ok
      ·simpa using h6
      ·simp only [VR];exact ⟨[z,.bool false],rfl,ay.cons h6 (ay.cons (by simp [VR]) (by simp [ay]))⟩
  ·cases hs
 ·next n kk j zU sz hn hg=>
  obtain ⟨lT,g,g1,g2,g3⟩:=O8 hn hy;obtain ⟨q',hq',xs,ms,clock,hv,hb,hp⟩:=h.obj _ _ hg rfl;rw [hq] at hq';cases hq';rw [Pz hu y ok hb];have hck:∀b,(Instr.checkKey b 10000 kt y).run P w=.ok () w:=λb=>NM lT g2 g3 b;split at hs;rotate_left
  ·cases hs
  next hkk=>
  have:=Pg hkk;subst this;split at hs;rotate_left
  ·cases hs
  next zn sz' hz=>
  split at hs;rotate_left
  ·cases hs
  next hsz=>
  have:=XQ hsz;subst this;obtain ⟨za,hza,hzn⟩:=uH.1 hz;obtain ⟨zv,z1,z2⟩:=Yg (w:=w) (η:=η) hza;obtain ⟨zg,z3,z4,z5,z6⟩:=aeI hzn z2;split at hs;rotate_left
  ·cases hs
  next u hu'=>
  obtain ⟨jn,hj,hpart⟩:=uH.1 hu';obtain ⟨rg,r1,r2⟩:=fF hj;simp only [Nd.den,z3,hv,g1,aT] at r2;have fin:∀ (z:Value) (b:Bool),Ig sz rg->GR η.ro rg z->(eU g xs).isSome=b->pO kt et y ok ms=pO kt et y ok ms->(pO kt et y ok ms).run P w=.ok (if ok then .tuple #[z,.bool b] else z) w->∃z,(pO kt et y ok ms).run P w=.ok z w/\VR η v z:=by
   intro z b hok hgr hb' _ hrun;have hvu:VR η u z:=by
    obtain ⟨r,q1,q2⟩:=XO (η:=η) r1 hpart;cases hag:mD P et with
    | none=>rw [hag] at z6;exact z6.elim
    | some ag=>
      rw [hag] at z6 q1;cases ag with
      | true=>
        obtain ⟨kn,k1,k2⟩:=z6;subst k2;obtain ⟨cs,rfl,c1,c2⟩:=hok;simp only [k1,GV.cells,aiR cs kn c1,gG,aT] at q1;subst q1;apply q2;simp only [GR] at hgr;obtain ⟨vs,rfl,hgs⟩:=hgr;simp only [VR];exact ⟨vs,rfl,(lV _ _).1 hgs⟩
      | false=>
        simp only at z6;subst z6;have hsc:rg.scalar=true:=hok;have hc:rg.cells=[rg]:=by cases rg<;>first | rfl | (simp [GV.scalar] at hsc)
        simp only [hc,JB,iL,gG,aT] at q1;subst q1;exact q2 _ ((jU _ _).1 hgr)
   cases ok with
   | false=>
     simp only [gU,if_false,aT] at hs hrun;subst hs;exact ⟨z,hrun,hvu⟩
   | true=>
     simp only [if_true] at hs hrun;split at hs
     ·next bb hbb=>
      cases hs;obtain ⟨_,gb,_,b2,b3⟩:=kH (η:=η) hbb;simp only [Nd.den,hv,g1,aT] at b2;subst b2;refine ⟨_,hrun, ?_⟩;simp only [VR];exact ⟨[z,.bool b],rfl,ay.cons hvu (ay.cons (b3 _ rfl (by simp only [GR];rw [hb'])) (by simp [ay]))⟩
     ·cases hs
  rcases Ox (i:=0) g2 g3 hp with ⟨q1,q2⟩ | ⟨u',j',z,q1,q2,_,_,q5,q6⟩
  ·have hfk:(Instr.findKey kt y ms.toList).run P w=.ok none w:=by simp only [Instr.findKey,aQ,aV lT,aP,q2,aZ]
   rw [q1,uI] at r2;subst r2;refine fin zv false z4 z5 (by rw [q1];rfl) rfl ?_;simp only [pO,aQ,aP,hck,hfk,z1,aZ]
  ·have hfk:(Instr.findKey kt y ms.toList).run P w=.ok (some (j',z)) w:=by simp only [Instr.findKey,aQ,aV lT,aP,q2,aZ]
   rw [q1,ou] at r2;subst r2;refine fin z true q5 q6 (by rw [q1];rfl) rfl ?_;simp only [pO,aQ,aP,hck,hfk,aZ]
 ·cases hs
theorem aoj {kk:Option IntKind} {g a:GV} {y x:Value} (hk:xw kk g) (hy:GR η.ro g y) (hs:Instr.sameNow (qH kk) y x=some true) (n:Nat):Instr.sameBits (n+1) x y=true:=by
 cases kk with
 | some k=>
   obtain ⟨m,rfl⟩:=hk;simp only [GR] at hy;subst hy;cases x<;>simp only [Instr.sameNow,qH,reduceCtorEq] at hs
   split at hs
   ·next e=>subst e;simp at hs;subst hs;simp [Instr.sameBits]
   ·cases hs
 | none=>
   obtain ⟨m,rfl⟩:=hk;simp only [GR] at hy;subst hy;cases x<;>simp only [Instr.sameNow,qH,reduceCtorEq] at hs
   next s=>
   obtain ⟨⟨l⟩⟩:=s;rw [Dk] at hs;simp only [Instr.sameBits,Dk];simp_all
theorem aee (h:SR P η σ w) {t:TypeId} {m k v:AV} {x y z:Value} (hs:QN P t m k v σ=some σ') (hx:VR η m x) (hy:VR η k y) (hz:VR η v z) :
 ∃w',(Instr.mapUpdate t x y z).run P w=.ok () w'/\St P η σ w η σ' w':=by
 unfold QN at hs;split at hs;rotate_left
 ·cases hs
 next kt et id hu=>
 simp only [VR] at hx;obtain ⟨q,hq,rfl⟩:=hx;split at hs;rotate_left
 ·cases hs
 next hl=>
 have hl:=pI hl
 have main:∀ (o:aY) (n:Nat) (kk:Option IntKind) (u:Nat) (sz:Option Nat) (j j':Nat) (xs:List GV) (ms:Array MapEntry) (clock:Nat),σ.get id=some o->o.own=true->JR P kt k=some (n,kk)->LJ P et v=some (u,sz)->
  aF.val j=some (.l xs)->w.heap[q.bl]? = some (.map ms clock)->pF η.ro kk sz xs ms.toList->dW (.yF j n u)=some j'->∃w',(Instr.mapUpdate t (.map (some q.bl)) y z).run P w=.ok () w'/\St P η σ w η (σ.put id (.smap j' kk sz)) w':=by
  intro o n kk u sz j j' xs ms clock hg ho hn hvn hj hb hp hf;obtain ⟨lT,g,g1,g2,g3⟩:=O8 hn hy;obtain ⟨ug,u1,u2,u3,_⟩:=aeI hvn hz;obtain ⟨rg,r1,r2⟩:=fF hf;simp only [Nd.den,hj,g1,u1,aT] at r2;subst r2;have hck:=NM (w:=w) lT g2 g3 false;have hgo:(getObj q.bl).run P w=.ok (.map ms clock) w:=by simp [getObj,Sem.run,hb]
  rcases Ox (i:=0) g2 g3 hp with ⟨q1,q2⟩ | ⟨u',i,zz,q1,q2,_,⟨m',q3,q4⟩,q5,q6⟩
  ·have hfk:(Instr.findKey kt y ms.toList).run P w=.ok none w:=by simp only [Instr.findKey,aQ,aV lT,aP,q2,aZ]
   refine ⟨kT w q.bl (.map (ms.push { key:=y,val:=z,born:=clock }) (clock+1)), ?_,St.write h hg ho hl hq Ak (λk hk=>Aj hk) rfl rfl rfl ?_⟩
   ·simp only [Instr.mapUpdate,aQ,aV hu,aP,hgo,hck,hfk]
    exact H7 hb (by simp)
   ·refine ⟨_,_,clock+1,r1,yN hb, ?_⟩
    rw [Array.toList_push];exact adr g2 u2 g3 u3 hp q1
  ·have hfk:(Instr.findKey kt y ms.toList).run P w=.ok (some (i,zz)) w:=by simp only [Instr.findKey,aQ,aV lT,aP,q2,aZ]
   rw [CZ,rY] at q3;have UO:(Instr.keyThatStays (((ms[i]?).map (·.key)).getD y) y).run P w=.ok y w:=by
    rw [q3];simp only [gG,ou,Instr.keyThatStays];rw [aj (aoj (a:=g) g2 g3 q4 9999)];rfl
   refine ⟨kT w q.bl (.map (ms.modify i λe=>{ e with key:=y,val:=z }) clock), ?_,St.write h hg ho hl hq Ak (λk hk=>Aj hk) rfl rfl rfl ?_⟩
   ·simp only [Instr.mapUpdate,aQ,aV hu,aP,hgo,hck,hfk,UO]
    exact H7 hb (by simp)
   ·refine ⟨_,_,clock,r1,yN hb, ?_⟩
    rw [Array.toList_modify];have:=ads (i:=0) g2 u2 g3 u3 hp q2;rwa [CZ] at this
 split at hs
 ·next n kk u sz hn hvn hg=>
  split at hs
  ·next j hj=>
   obtain ⟨j',hf,rfl⟩:=aW.1 hs;obtain ⟨q',hq',ms,clock,hb,hsz,hp⟩:=h.obj _ _ hg rfl;rw [hq] at hq';cases hq';obtain ⟨gl,l1,l2⟩:=fF hj;simp only [Nd.den,valsOf,gG,aT] at l2;subst l2;refine main _ n kk u sz j j' [] ms clock hg rfl hn hvn l1 hb ?_ hf;simp only [pF];have:ms.size=0:=by simpa using hsz
   simpa using Yj this
  ·cases hs
 ·next n kk u sz j zU sz' hn hvn hg=>
  split at hs
  ·next hc=>
   rw [aI] at hc;have e1:=Pg hc.1;have e2:=XQ hc.2;subst e1;subst e2;obtain ⟨j',hf,rfl⟩:=aW.1 hs;obtain ⟨q',hq',xs,ms,clock,hv,hb,hp⟩:=h.obj _ _ hg rfl;rw [hq] at hq';cases hq';exact main _ n kk u sz j j' xs ms clock hg rfl hn hvn hv hb hp hf
  ·cases hs
 ·cases hs
theorem akG {v:AV} {x:Value} (h:mapArg v=true) (hx:VR η v x):∃k n,x=.int k n:=by
 unfold mapArg at h;split at h
 ·next n=>
  split at h
  ·next a hn=>
   obtain ⟨g,h1,h2⟩:=aF.nZ _ _ hn (by simp);simp only [VR] at hx;obtain ⟨g',h3,_,h4⟩:=hx;rw [h1] at h3;cases h3;simp only [Nd.den] at h2;split at h2
   ·cases h2
    simp only [GR] at h4;exact ⟨_,_,h4⟩
   ·cases h2
  ·cases h
 ·next hne=>
  obtain ⟨n,hn⟩:=afh.1 h;obtain ⟨k,hk⟩:=wP hn hx;exact ⟨k,n,hk⟩
theorem abZ {e:TypeId} {size len m:Nat} {cs:List AV} {vs:List Value} (h:Pq P e size len cs=some m) (hv:ay η cs vs):0 < size/\0 < len/\cs.length=len * size/\∃gs,aF.val m=some (.l gs)/\gs.length=len/\ay η (bC gs) vs/\∀x∈gs,x.cells.length=size/\x.cells.all GV.scalar=true:=by
 unfold Pq at h;split at h;rotate_left
 ·cases h
 split at h;rotate_left
 ·cases h
 next agg ha=>
 split at h;rotate_left
 ·cases h
 next hc=>
 simp only [aI,lJ,iZ] at hc;obtain ⟨⟨h1,h2⟩,h3⟩:=hc;have h3:=bn h3;have hpos:0 < size:=by
  rcases h1 with ⟨_,h1⟩ | h1
  ·exact h1
  ·have:=bn h1;omega
 have h11:agg=false->size=1:=by
  intro e;rcases h1 with ⟨h1,_⟩ | h1
  ·rw [e] at h1;cases h1
  ·exact bn h1
 split at h
 ·next ns hns=>
  obtain ⟨gs,k1,k2,k3,_,k5⟩:=Bo h11 len hns hv h3;obtain ⟨g,g1,g2⟩:=fF h;simp only [Nd.den,k1,gG,aT] at g2;subst g2;exact ⟨hpos,h2,h3,gs,g1,k2,k3,k5⟩
 ·cases h
theorem akr {R:Prop} {t e:TypeId} {size bytes len:Nat} {z:List AV} {ps:List (Nat×AV)} {qs:Array (Nat×Value)} {cs:List AV}
 (fin:∀ (v:AV) (τ:ak),Px P σ e size len cs=(some v,τ)->(∃y w' η',(Instr.buildSlice t len qs).run P w=.ok y w'/\St P η σ w η' τ w'/\VR η' v y)->R)
 (h:SR P η σ w) (hi:sV P t=some (e,size,bytes,z)) (hlen:¬ len * size > 2 ^ 24) (hf:xU (λi=>some (i * size,size)) (if len * size=0 then [] else iP len z) ps=some cs) (hp:zl η ps qs.toList):R:=by
 unfold Px at fin;split at fin;rotate_left
 ·exact fin _ _ rfl (afI h hi hlen hf hp)
 next m hm=>
 refine fin _ _ rfl ?_;obtain ⟨hu,_,hz,he,hzl,hn⟩:=yw hi;obtain ⟨zv,l9,hzv⟩:=Cc hz;have hpos:0 < size/\0 < len:=by
  unfold Pq at hm;split at hm;rotate_left
  ·cases hm
  split at hm;rotate_left
  ·cases hm
  next agg ha=>
  split at hm;rotate_left
  ·cases hm
  next hc=>
  simp only [aI,lJ,iZ] at hc;refine ⟨?_,hc.1.2⟩;rcases hc.1.1 with ⟨_,h1⟩ | h1
  ·exact h1
  ·have:=bn h1;omega
 have h0:¬ len * size=0:=by
  have:=IK hpos.2 hpos.1;omega
 simp only [h0,if_false] at hf;obtain ⟨xs,JI,hxs⟩:=Gg hf hp (LV (hzv η) hzl);have hl:=hxs.length;have hal:=zD h (c:=cs) (xs:=xs) (elem:=e) (es:=size) (opn:=true) (by rw [hl,xO];exact hxs) (by simpa using Fh hl) (by simp) (λ_=>⟨he,hpos.1,hn⟩);obtain ⟨_,_,hcl,gs,g1,g2,_,g4⟩:=abZ hm hxs;have hsz:xs.size=len * size:=by rw [<- hcl,hl];simp
 have hdiv:xs.size / size=len:=by rw [hsz];exact YO _ hpos.1
 obtain ⟨q1,q2⟩:=St.uZ (f:=false) (size:=size) (y:=.slice (some ⟨w.heap.size,0,none⟩) len len) hal g1 g4 hn (λvs hvs=>by
  obtain ⟨_,_,_,gs',k1,_,k3,_⟩:=abZ hm hvs;rw [g1] at k1;cases k1;exact k3) (by
  simp only [VR];refine ⟨⟨w.heap.size,0,xs.size,size⟩,by simp [Env.put], ?_, ?_⟩
  ·simp only [uI,CZ]
   rw [hdiv,g2];simp
  ·simp only [uI,CZ,hdiv,g2,kY]) (by simp)
 refine ⟨_,_,_, ?_,q1,q2⟩;simp only [Instr.buildSlice,aQ,aV hu,aP,iE hn,qX,ah hlen,h0,if_false,l9,aZ,JI,newRow,newObj,Sem.run]
end
end Go.aN
namespace Go.aN
set_option linter.unusedSimpArgs false
noncomputable section
variable [aF]
set_option linter.unusedSectionVars false
set_option linter.unusedVariables false
variable {P:Program} {η:Env} {σ σ':ak} {w:World}
structure TR (P:Program) (η:Env) (a:aU) (A:Act):Prop where
 gn:a.gn=P.globals.size
 size:A.tmps.size=a.n
 none:A.defers=[]
 slot:∀t v,a.t.get t=some v->∃x,A.tmps[t]? = some x/\VR η v x
theorem TR.mono {η η':Env} {a:aU} {A:Act} (h:TR P η a A) (hle:η.le η'):TR P η' a A:=
 ⟨h.gn,h.size,h.none,λt v hv=>by obtain ⟨x,hx,hr⟩:=h.slot t v hv;exact ⟨x,hx,VR.mono hle _ _ hr⟩⟩
theorem TR.put {a a':aU} {A:Act} {dst:Option Tmp} {r:Option AV} {x:Value} (h:TR P η a A) (hp:a.put dst r=some a') (hr:∀v,r=some v->VR η v x):TR P η a' (A.put dst x):=by
 unfold aU.put at hp;split at hp
 ·cases hp;exact h
 ·next d=>
  split at hp
  ·next hd=>
   cases hp;refine ⟨h.gn,by simp [Act.put,h.size],h.none,λt v hv=>?_⟩;rw [Tr.tH] at hv;show ∃y,(A.tmps.setIfInBounds d x)[t]? = some y/\_
   rw [y7];split at hv
   ·next e=>
    subst e;rw [aj rfl,aj (by rw [h.size];exact hd)];exact ⟨x,rfl,hr v hv⟩
   ·next e=>rw [ah (λe'=>e e'.symm)];exact h.slot t v hv
  ·cases hp
theorem Js {a:aU} {A:Act} (h:SR P η σ w) (ht:TR P η a A) (x:Operand) (v:AV) (hv:a.eval x=some v):VR η v (A.eval x):=by
 cases x with
 | tmp t=>
   obtain ⟨y,hy,hr⟩:=ht.slot t v hv;simp only [Act.eval];rw [vk,hy];exact hr
 | const c=>exact Aa _ _ _ hv
 | global g=>
   simp only [aU.eval] at hv;split at hv
   ·next hg=>
    cases hv;rw [ht.gn] at hg;obtain ⟨sz,es,h1⟩:=h.kR g (Nat.le_of_lt hg);simp only [VR,Act.eval];exact ⟨_,h1,by simp⟩
   ·cases hv
 | func f=>
   simp only [aU.eval,aT] at hv;subst hv;simp only [VR,Act.eval];exact ⟨[],[],rfl,by simp [ay],by simp [ay]⟩
def IL (P:Program) (η:Env) (σ:ak) (w:World) (r:Option AV) (σ':ak) (s:Sem Next):Prop:=
 ∃nx w' η',s.run P w=.ok nx w'/\St P η σ w η' σ' w'/\(match r with | some v=>∃x,nx=.value x/\VR η' v x | none=>nx=.skip)
theorem dO {r:AV} {s:Sem Value} (h:∃y w' η',s.run P w=.ok y w'/\St P η σ w η' σ' w'/\VR η' r y):IL P η σ w (some r) σ' (do pure (.value (<- s))):=by
 obtain ⟨y,w',η',h1,h2,h3⟩:=h;exact ⟨.value y,w',η',by simp only [aQ,h1,aP,aZ],h2,y,rfl,h3⟩
theorem G9 {s:Sem Unit} (h:∃w' η',s.run P w=.ok () w'/\St P η σ w η' σ' w'):IL P η σ w none σ' (do s;pure .skip):=by
 obtain ⟨w',η',h1,h2⟩:=h;exact ⟨.skip,w',η',by simp only [aQ,h1,aP,aZ],h2,rfl⟩
theorem gW {r:AV} {s:Sem Value} (h:SR P η σ w) (hs:∃y,s.run P w=.ok y w/\VR η r y):∃y w' η',s.run P w=.ok y w'/\St P η σ w η' σ w'/\VR η' r y:=by
 obtain ⟨y,h1,h2⟩:=hs;exact ⟨y,w,η,h1,St.refl h,h2⟩
theorem jd {v:Option AV} {r:Option AV} (h:cZ σ v=some (r,σ')):∃u,v=some u/\r=some u/\σ'=σ:=by
 simp only [cZ,aW,jV] at h;obtain ⟨u,h1,h2,h3⟩:=h;exact ⟨u,h1,h2.symm,h3.symm⟩
theorem Ag {v:Option (AV×ak)} {r:Option AV} (h:pX v=some (r,σ')):∃u,v=some (u,σ')/\r=some u:=by
 simp only [pX,aW,Fq,jV] at h;obtain ⟨u,s,h1,h2,h3⟩:=h;subst h3;exact ⟨u,h1,h2.symm⟩
theorem Xm {v:Option ak} {r:Option AV} (h:ED v=some (r,σ')):v=some σ'/\r=none:=by
 simp only [ED,aW,jV] at h;obtain ⟨s,h1,h2,h3⟩:=h;subst h3;exact ⟨h1,h2.symm⟩
theorem afy {c:Value} {t:Bool} (h:VR η (.b t) c):(asBool c).run P w=.ok t w:=by
 simp only [VR] at h;subst h;rfl
theorem agc (h:SR P η σ w) {ts:Array TypeId} {ty t:TypeId} {x v:AV} {u:Value} (ht:ts[0]? = some t) (hs:Si P t x σ=some (v,σ')) (hu:VR η x u) :
 ∃y w' η',(Builtin.clear_ ts ty #[u]).run P w=.ok y w'/\St P η σ w η' σ' w'/\VR η' v y:=by
 have hun:∀η':Env,VR η' (.dM []) (.tuple #[]):=λη'=>by simp only [VR];exact ⟨[],rfl,by simp [ay]⟩
 unfold Si at hs;split at hs
 ·next e hut=>
  cases hs;simp only [VR] at hu;subst hu;exact ⟨_,w,η,by simp only [Builtin.clear_,ht,AB,iL,aQ,aV hut,aP,aZ],St.refl h,hun _⟩
 ·next e hut=>
  cases hs;simp only [VR] at hu;rcases hu with ⟨_,pa,rfl⟩ | ⟨bl,off,c,xs,sz,rfl,_⟩
  ·exact ⟨_,w,η,by cases pa<;>simp only [Builtin.clear_,ht,AB,iL,aQ,aV hut,aP,aZ],St.refl h,hun _⟩
  ·exact ⟨_,w,η,by simp only [Builtin.clear_,ht,AB,iL,aQ,aV hut,aP,aZ,qQ],St.refl h,hun _⟩
 ·next e id off n cap hut=>
  simp only [VR] at hu;obtain ⟨q,hq,_,rfl⟩:=hu;split at hs
  ·next h0=>
   cases hs;subst h0;exact ⟨_,w,η,by simp only [Builtin.clear_,ht,AB,iL,aQ,aV hut,aP,aZ],St.refl h,hun _⟩
  ·next h0=>
   split at hs
   ·next z c et opn hz hg=>
    split at hs
    ·next hc=>
     simp only [aW] at hs;obtain ⟨c',hr,e1⟩:=hs;cases e1;obtain ⟨zv,l9,hzv⟩:=Cc hz;have hzs:=LV (n:=n) (size:=z.length) (hzv η) rfl;have hlen:=(hzv η).length;have hone:(iP n z).all AV.lu=true:=by
      rw [List.all_eq_true];intro a ha;unfold iP at ha;simp only [List.mem_flatten,YH] at ha;obtain ⟨l,⟨_,rfl⟩,ha⟩:=ha;exact List.all_eq_true.1 hc.2 a ha
     obtain ⟨w',hrun,hst⟩:=Rl h hg hc.1 hq hr hzs hone;refine ⟨_,w',η, ?_,hst,hun _⟩;have hzc:(Builtin.zeroCells zv.cells n)=(Array.range (n * z.length)).map (zv.cells[· % zv.cells.size]!):=by
      unfold Builtin.zeroCells;rw [hlen];simp
     obtain ⟨m,rfl⟩:∃m,n=m+1:=⟨n - 1,by omega⟩
     simp only [Builtin.clear_,ht,AB,iL,aQ,aV hut,aP,l9];rw [hzc,hrun];rfl
    ·cases hs
   ·cases hs
 ·next k e hut=>
  cases hs;simp only [VR] at hu;subst hu;exact ⟨_,w,η,by simp only [Builtin.clear_,ht,AB,iL,aQ,aV hut,aP,aZ],St.refl h,hun _⟩
 ·next k e id hut=>
  split at hs
  ·next es hg=>
   split at hs
   ·next hl=>
    cases hs;simp only [VR] at hu;obtain ⟨q,hq,rfl⟩:=hu;obtain ⟨q',hq',ms,clock,hb,hsz,_⟩:=h.obj _ _ hg rfl;rw [hq] at hq';cases hq';refine ⟨.tuple #[],kT w q.bl (.map #[] clock),η, ?_,St.write h hg rfl hl hq Ak (λk hk=>Aj hk) rfl rfl rfl ⟨#[],clock,yN hb,rfl,by simp⟩,hun _⟩;simp only [Builtin.clear_,ht,AB,iL,aQ,aV hut,aP,getObj,Sem.run,hb,H7 hb (λ_ _ _=>by simp),aZ]
   ·cases hs
  ·cases hs
 ·cases hs
theorem afK (h:SR P η σ w) {b:Builtin} {ts:Array TypeId} {ty:TypeId} {cs:Array Bool} {args:List AV} {vs:List Value} {r:Option AV} (hs:Dc P b ts args σ=some (r,σ')) (hv:ay η args vs) :
 IL P η σ w r σ' (builtin b ts ty cs ⟨vs⟩):=by
 unfold Dc at hs;split at hs
 ·next x=>
  simp only [ay] at hv;obtain ⟨u,_,rfl,hu,rfl⟩:=hv;split at hs
  ·next t ht=>
   obtain ⟨v,h1,rfl,rfl⟩:=jd hs;exact dO (gW h (abX h ht h1 hu))
  ·cases hs
 ·next s x=>
  simp only [ay] at hv;obtain ⟨u,_,rfl,hu,u',_,rfl,hu',rfl⟩:=hv;obtain ⟨v,h1,rfl⟩:=Ag hs;exact dO (afw h h1 hu hu')
 ·next s x=>
  simp only [ay] at hv;obtain ⟨u,_,rfl,hu,u',_,rfl,hu',rfl⟩:=hv;obtain ⟨v,h1,rfl⟩:=Ag hs;exact dO (agx h h1 hu hu')
 ·next x=>
  simp only [ay] at hv;obtain ⟨u,_,rfl,hu,rfl⟩:=hv;split at hs
  ·next t ht=>
   obtain ⟨v,h1,rfl⟩:=Ag hs;exact dO (agc h ht h1 hu)
  ·cases hs
 ·next x=>
  simp only [ay] at hv;obtain ⟨u,_,rfl,hu,rfl⟩:=hv;split at hs
  ·next t ht=>
   split at hs
   ·next e hun=>
    obtain ⟨v,h1,rfl,rfl⟩:=jd hs;cases h1;simp only [VR] at hu;subst hu;exact dO (gW h ⟨.int .i64 0,by simp [Builtin.cap_,ht,aV hun,goInt],by simp [VR]⟩)
   ·next e id off n c hun=>
    obtain ⟨v,h1,rfl,rfl⟩:=jd hs;cases h1;simp only [VR] at hu;obtain ⟨q,hq,_,rfl⟩:=hu;exact dO (gW h ⟨.int .i64 c,by simp [Builtin.cap_,ht,aV hun,goInt],by simp [VR]⟩)
   ·cases hs
  ·cases hs
 ·simp only [ay] at hv
  obtain ⟨u,_,rfl,hu,rfl⟩:=hv;obtain ⟨v,h1,rfl,rfl⟩:=jd hs;cases h1;simp only [VR] at hu;subst hu;exact dO (gW h ⟨_,ad1,by simp only [VR]⟩)
 ·next id off n cap=>
  split at hs
  ·cases hs
  ·next hc=>
   simp only [ay] at hv;obtain ⟨u,_,rfl,hu,rfl⟩:=hv;obtain ⟨v,h1,rfl,rfl⟩:=jd hs;cases h1;simp only [VR] at hu;obtain ⟨q,hq,hle,rfl⟩:=hu;refine dO (gW h ⟨_,ad2 ?_,by simp only [VR];exact ⟨q,hq,rfl⟩⟩);intro e;rw [e] at hle;have hn:n=0:=by omega
   subst hn;cases cap with
   | none=>exact hc ⟨rfl,.inl rfl⟩
   | some c=>simp only [ou] at e;subst e;exact hc ⟨rfl,.inr rfl⟩
 ·next x n=>
  simp only [ay] at hv;obtain ⟨u,_,rfl,hu,u',_,rfl,hu',rfl⟩:=hv;simp only [VR] at hu';subst hu';split at hs
  ·next t it hts=>
   have:=Nw hts;subst this;split at hs
   ·next h0=>
    subst h0;split at hs
    ·obtain ⟨v,h1,rfl,rfl⟩:=jd hs
     cases h1;simp only [VR] at hu;subst hu;exact dO (gW h ⟨_,X4,by simp only [VR]⟩)
    ·obtain ⟨v,h1,rfl,rfl⟩:=jd hs
     cases h1;simp only [VR] at hu;obtain ⟨q,hq,rfl⟩:=hu;exact dO (gW h ⟨_,X4,by simp only [VR]⟩)
    ·cases hs
   ·split at hs
    ·next id off=>
     split at hs
     ·next e c et opn hut hg=>
      split at hs
      ·next hc=>
       obtain ⟨rfl,c1,c2,c3,c4,c5⟩:=hc;split at hs
       ·next r' hr=>
        split at hs
        ·next b hb=>
         cases hs;simp only [VR] at hu;obtain ⟨q,hq,rfl⟩:=hu;obtain ⟨y,w',h1,h2,h3⟩:=aeG (it:=it) (ty:=ty) h hut hg c1 c2 c3 c4 c5 hr hb hq;exact dO ⟨y,w',η,h1,h2,h3⟩
        ·cases hs
       ·cases hs
      ·cases hs
     ·cases hs
    ·cases hs
  ·cases hs
 ·next x y=>
  simp only [ay] at hv;obtain ⟨u,_,rfl,hu,u',_,rfl,hu',rfl⟩:=hv;split at hs
  ·next a a' h1 h2=>
   obtain ⟨v,h3,rfl,rfl⟩:=jd hs;simp only [uH] at h3;obtain ⟨z,hz,tN⟩:=h3;rw [yM h1 hu,yM h2 hu'];exact dO (gW h ⟨z,yK hz w,Aa _ _ _ tN⟩)
  ·cases hs
 ·next x y=>
  simp only [ay] at hv;obtain ⟨u,_,rfl,hu,u',_,rfl,hu',rfl⟩:=hv;split at hs
  ·next a a' h1 h2=>
   obtain ⟨v,h3,rfl,rfl⟩:=jd hs;simp only [uH] at h3;obtain ⟨z,hz,tN⟩:=h3;rw [yM h1 hu,yM h2 hu'];exact dO (gW h ⟨z,yK hz w,Aa _ _ _ tN⟩)
  ·cases hs
 ·next x y z=>
  simp only [ay] at hv;obtain ⟨u,_,rfl,hu,u',_,rfl,hu',u'',_,rfl,ajw,rfl⟩:=hv;split at hs
  ·next a a' a'' h1 h2 h4=>
   obtain ⟨v,h3,rfl,rfl⟩:=jd hs;simp only [uH] at h3;obtain ⟨z,hz,tN⟩:=h3;rw [yM h1 hu,yM h2 hu',yM h4 ajw];exact dO (gW h ⟨z,yK hz w,Aa _ _ _ tN⟩)
  ·cases hs
 ·cases hs
end
end Go.aN
namespace Go.aN
set_option linter.unusedSimpArgs false
noncomputable section
variable [aF]
set_option linter.unusedSectionVars false
set_option linter.unusedVariables false
variable {P:Program} {η:Env} {σ σ':ak} {w:World}
theorem apy {pt it ty:TypeId} (p:Option Addr):(Builtin.unsafeString_ #[pt,it] ty #[.pointer p,.int .i64 0]).run P w=.ok (.string ⟨⟨[]⟩⟩) w:=X4
theorem aoY (h:SR P η σ w) {b:Builtin} {ts:Array TypeId} {ty:TypeId} {cs:Array Bool} {args:List AV} {vs:List Value} {r:Option AV} (hs:EK P b ts args σ=some (r,σ')) (hv:ay η args vs) :
 IL P η σ w r σ' (builtin b ts ty cs ⟨vs⟩):=by
 unfold EK at hs;have mm:∀ (big:Bool) {x y:AV} {m n:Nat} {v:AV} {u u':Value},gZ x=some m->gZ y=some n->jB (.mm big m n)=some v->VR η x u->VR η y u'->∃k a b',u=.int k a/\u'=.int k b'/\VR η v (.int k (if big then (if a < b' then b' else a) else (if b' < a then b' else a))):=by
  intro big x y m n v u u' hm hn hmk hu hu';obtain ⟨g1,a1,a2,a3⟩:=ku hm hu;obtain ⟨g2,b1,b2,b3⟩:=ku hn hu';obtain ⟨_,g,_,c2,c3⟩:=kH (η:=η) hmk;simp only [Nd.den,a1,b1] at c2;split at c2
  ·next k i k' j e1 e2=>
   cases e1;cases e2;split at c2
   ·next hk=>
    subst hk;cases c2;simp only [GR] at a3 b3;exact ⟨k,i,j,a3,b3,c3 _ rfl (by simp only [GR])⟩
   ·cases c2
  ·cases c2
 split at hs
 ·next x=>
  simp only [ay] at hv;obtain ⟨u,_,rfl,hu,rfl⟩:=hv;split at hs
  ·next t ht=>
   obtain ⟨v,h1,e⟩:=aW.1 hs;cases e;exact dO (gW h (ao3 ht h1 hu))
  ·cases hs
 ·next s x=>
  simp only [ay] at hv;obtain ⟨u,_,rfl,hu,u',_,rfl,hu',rfl⟩:=hv;obtain ⟨v,h1,e⟩:=aW.1 hs;cases e;exact dO (aoW h h1 hu hu')
 ·next x y=>
  simp only [ay] at hv;obtain ⟨u,_,rfl,hu,u',_,rfl,hu',rfl⟩:=hv;split at hs
  ·next m n hm hn=>
   obtain ⟨v,h1,e⟩:=aW.1 hs;cases e;obtain ⟨k,a,b',rfl,rfl,h2⟩:=mm false hm hn h1 hu hu';refine dO (gW h ⟨_, ?_,h2⟩);simp [Builtin.min_,Builtin.min2]
  ·cases hs
 ·next x y=>
  simp only [ay] at hv;obtain ⟨u,_,rfl,hu,u',_,rfl,hu',rfl⟩:=hv;split at hs
  ·next m n hm hn=>
   obtain ⟨v,h1,e⟩:=aW.1 hs;cases e;obtain ⟨k,a,b',rfl,rfl,h2⟩:=mm true hm hn h1 hu hu';refine dO (gW h ⟨_, ?_,h2⟩);simp [Builtin.max_,Builtin.max2]
  ·cases hs
 ·next id n=>
  split at hs
  ·next m et hg=>
   split at hs
   ·next hsl=>
    cases hs;simp only [ay] at hv;obtain ⟨u,_,rfl,hu,rfl⟩:=hv;simp only [VR] at hu;obtain ⟨xs,k1,hu⟩:=hu;rcases hu with ⟨q,hq,hle,rfl⟩ | ⟨hgh,rfl,rfl⟩
    ·have hor:=h.at hg hq
     have hpos:=hor.Q9;obtain ⟨_,_,_,_,hes,_⟩:=hor.G8;have hcap:q.sz / q.es≠0:=by
      have:=Nat.div_pos hpos hes;omega
     exact dO (gW h ⟨_,ad2 hcap,by simp only [VR];exact ⟨xs,_,k1,rfl,λ_=>⟨q,hq,rfl⟩⟩⟩)
    ·exact dO (gW h ⟨_,ad1,by simp only [VR];exact ⟨[],_,k1,rfl,λhn=>absurd rfl hn⟩⟩)
   ·cases hs
  ·cases hs
 ·next id n k=>
  split at hs
  ·next t it hts=>
   have:=Nw hts;subst this;split at hs
   ·next e m et f hut hg=>
    split at hs
    ·next hc=>
     obtain ⟨rfl,c1,c2,c3⟩:=hc;split at hs
     ·next n' hk=>
      split at hs
      ·next hsl=>
       rw [aI] at hsl;obtain ⟨v,hm,e⟩:=aW.1 hs;cases e;simp only [ay] at hv;obtain ⟨u,_,rfl,hu,u',_,rfl,hu',rfl⟩:=hv;simp only [VR] at hu hu';obtain ⟨ys,p,k1,rfl,hp⟩:=hu;obtain ⟨gk,j1,_,j3⟩:=hu';obtain ⟨gk',j4,j5⟩:=aF.nZ k _ hk (by simp);rw [j1] at j4;cases j4;obtain ⟨nn,gs,b1,b2,b3⟩:=kH (η:=η) hm;simp only [Nd.den] at b2;split at b2
       ·next xs hv=>
        split at b2
        ·next h48=>
         obtain ⟨b,hb,rfl⟩:=aW.1 b2;simp only [Nd.den] at j5;split at j5
         ·next zs hz=>
          cases j5;have hl1:=vY 100 hsl.1 hv k1;have hl2:=vY 100 hsl.2 hv hz;simp only [GR] at j3;subst j3;have fin:∀ {η':Env} (y:Value),VR η' (.s b) y->VR η' v y:=by
           intro η' y hy;obtain ⟨_,g2,_,d2,d3⟩:=kH (η:=η') hm;simp only [Nd.den,hv,aj h48,hb,gG,aT] at d2;subst d2;exact d3 y rfl ((jU _ _).2 hy)
          by_cases hx0:xs=[]
          ·subst hx0
           have hz0:zs.length=0:=hl2.symm;have hb0:b=[]:=by simpa [mY] using hb.symm
           subst hb0;rw [hz0];refine dO ⟨.string ⟨⟨[]⟩⟩,w,η,apy p,(St.refl h).Pe id,fin _ (by simp only [VR])⟩
          ·have hy0:ys≠[]:=by intro e;rw [e] at hl1;exact hx0 (jh hl1)
           obtain ⟨q,hq,rfl⟩:=hp hy0;obtain ⟨xs',i1,i2,i3,i4,i5,i6,i7,hS⟩:=Ie h hg hq;rw [hv] at i1;cases i1;have hcg:bC xs=cu xs:=by unfold bC;rw [NH hb]
           have hpos:0 < xs.length:=MF.2 hx0;have htk:takeN (bC xs) 0 ((xs.length:Nat):Int).toNat=some (cu xs):=by
            rw [hcg];unfold takeN;rw [eH,lK (by rw [jX];simp),aj (by rw [jX];simp)]
           have hfit:xs.length < 2 ^ 62:=by omega
           obtain ⟨y,w',r1,r2,r3⟩:=aeG (it:=it) (ty:=ty) (off:=0) (n:=xs.length) hS hut Ar c1 c2 (by omega) (by omega) c3 htk (Jc hb) hq;rw [<- hl2];refine dO ⟨y,w',η,by simpa using r1, ?_,fin _ r3⟩;refine ((LD hg r2).Pe id).sub (λk o hk=>?_) (dD _) rfl;rw [ak.vS] at hk ⊢;split at hk
           ·cases hk
           ·next e1=>
            rw [ah e1];unfold jC;rw [ak.get_put,ah e1,ak.get_put,ah e1];exact hk
         ·cases j5
        ·cases b2
       ·cases b2
      ·cases hs
     ·cases hs
    ·cases hs
   ·cases hs
  ·cases hs
 ·cases hs
end
end Go.aN
namespace Go.aN
set_option linter.unusedSimpArgs false
noncomputable section
variable [aF]
set_option linter.unusedSectionVars false
set_option linter.unusedVariables false
variable {P:Program} {η:Env} {σ σ':ak} {w:World}
def jT (P:Program) (f:FuncId) (args:Array Value) (w:World) (R:Value->World->Prop):Prop:=
 (∃v w',(callFunc f args).run P w=.ok (.value v) w'/\R v w')\/
 ((callFunc f args).run P w=.ok (.enter f args) w/\Calls P f args w λe w'=>∃v,e=.returned v/\R v w')
def oV (P:Program) (call:Caller):Prop:=∀f args σ r σ',call f args σ=some (r,σ')->∀η w vs,SR P η σ w->ay η args vs->
 jT P f ⟨vs⟩ w λv w'=>∃η',St P η σ w η' σ' w'/\VR η' r v
def BL:Op->Bool
 | .call { callee:=.value _,.. }=>true
 | .call { callee:=.invoke _ _,.. }=>true
 | _=>false
theorem akC {f:FuncId} {first caps:List AV} {us vs:List Value} (h1:ay η first us) (h2:ay η caps vs):∃y,(Instr.makeFunc (.func f) ⟨us⟩ ⟨vs⟩).run P w=.ok y w/\VR η (.fn f first caps) y:=
 ⟨_,rfl,by simp only [VR];exact ⟨us,vs,rfl,h1,h2⟩⟩
theorem He {ev:Operand->Option AV} {ρ:Operand->Value} (hρ:∀x a,ev x=some a->VR η a (ρ x)) {o:Option Operand} {r:Option AV} (h:Ei ev o=some r):jJ η r (o.map ρ):=by
 cases o with
 | none=>simp [Ei] at h;subst h;trivial
 | some x=>
   simp only [Ei,aW] at h;obtain ⟨a,ha,rfl⟩:=h;exact hρ _ _ ha
theorem Ee {α β:Type} (a:Array α) (f:α->β):a.map f=⟨a.toList.map f⟩:=by
 apply Io;simp
set_option maxHeartbeats 1000000 in
theorem acX (h:SR P η σ w) {call:Caller} {o:Oper} {ev:Operand->Option AV} {ρ:Operand->Value} (hρ:∀x a,ev x=some a->VR η a (ρ x)) (hc:BL o.op=false) {r:Option AV}
 (hs:oz P call o ev σ=some (r,σ')):IL P η σ w r σ' (execOp ρ o):=by
 unfold oz at hs;unfold execOp;split at hs
 ·next x he=>rw [he];obtain ⟨v,h1,rfl,rfl⟩:=jd hs;exact ⟨_,w,η,rfl,St.refl h,_,rfl,hρ _ _ h1⟩
 ·next x he=>rw [he];obtain ⟨v,h1,rfl,rfl⟩:=jd hs;exact ⟨_,w,η,rfl,St.refl h,_,rfl,hρ _ _ h1⟩
 ·next c a b he=>
  rw [he];split at hs
  ·next t hcv=>
   obtain ⟨vd,hvd,hcv⟩:=DJ hcv;obtain ⟨v,h1,rfl,rfl⟩:=jd hs;refine ⟨.value (if t then ρ a else ρ b),w,η, ?_,St.refl h,_,rfl, ?_⟩
   ·simp only [aQ,afy (hcv _ _ (hρ _ _ hvd)),aP,aZ]
   ·cases t
    ·exact hρ _ _ h1
    ·exact hρ _ _ h1
  ·cases hs
 ·next t he=>
  rw [he];simp only [aW] at hs;obtain ⟨z,hz,e⟩:=hs;cases e;exact dO (aft h hz)
 ·next t x he=>
  rw [he];simp only [aW] at hs;obtain ⟨z,hz,e⟩:=hs;cases e;exact dO (Zn h (hρ _ _ hz))
 ·next t parts he=>
  rw [he];split at hs
  ·next ps hps=>
   obtain ⟨v,h1,rfl,rfl⟩:=jd hs;exact dO (gW h (afJ h1 (by rw [Ee];exact TS hρ hps)))
  ·cases hs
 ·next t len parts he=>
  rw [he];split at hs
  ·next e size bytes z ps hi hps=>
   split at hs
   ·cases hs
   ·next hlen=>
    split at hs
    ·next cs hf=>
     have e1:=C9 hs;refine akr (t:=t) (qs:=parts.map λ(i,x)=>(i,ρ x)) (λv τ e2 hr=>?_) h hi hlen hf (by rw [Ee];exact TS hρ hps);rw [e2] at e1;cases e1;exact dO hr
    ·cases hs
  ·cases hs
 ·next t a he=>
  rw [he];split at hs
  ·next av hav=>
   obtain ⟨v,h1,rfl,rfl⟩:=jd hs;rcases rM h1 with h1 | h1
   ·exact dO (gW h (BO h h1 (hρ _ _ hav)))
   ·exact dO (gW h (ao4 h h1 (hρ _ _ hav)))
  ·cases hs
 ·next t a x he=>
  rw [he];split at hs
  ·next av xv hav hxv=>
   obtain ⟨h1,rfl⟩:=Xm hs;rcases rM h1 with h1 | h1
   ·obtain ⟨w',h2,h3⟩:=QE h h1 (hρ _ _ hav) (hρ _ _ hxv)
    exact G9 ⟨w',η,h2,h3⟩
   ·obtain ⟨w',h2,h3⟩:=ao8 h h1 (hρ _ _ hav) (hρ _ _ hxv)
    exact G9 ⟨w',η,h2,h3⟩
  ·cases hs
 ·next x he=>
  rw [he];split at hs
  ·next id off hxv=>
   obtain ⟨v,h1,rfl,rfl⟩:=jd hs;cases h1;have hv:=hρ _ _ hxv;simp only [VR] at hv;obtain ⟨q,hq,hv⟩:=hv;exact ⟨.value (ρ x),w,η,by simp only [hv];rfl,St.refl h,_,rfl,hρ _ _ hxv⟩
  ·next b off hxv=>
   obtain ⟨v,h1,rfl,rfl⟩:=jd hs;cases h1;have hv:=hρ _ _ hxv;simp only [VR] at hv;obtain ⟨bl,base,cs,elem,fr,y,_,_,hv,_⟩:=hv;exact ⟨.value (ρ x),w,η,by simp only [hv];rfl,St.refl h,_,rfl,hρ _ _ hxv⟩
  ·next m off hxv=>
   obtain ⟨v,h1,rfl,rfl⟩:=jd hs;cases h1;have hv:=hρ _ _ hxv;simp only [VR] at hv;obtain ⟨g,bl,base,cs,elem,fr,y,_,_,_,hv,_⟩:=hv;exact ⟨.value (ρ x),w,η,by simp only [hv];rfl,St.refl h,_,rfl,hρ _ _ hxv⟩
  ·next id m off hxv=>
   obtain ⟨v,h1,rfl,rfl⟩:=jd hs;cases h1;have hv:=hρ _ _ hxv;simp only [VR] at hv;obtain ⟨q,kk,i,_,_,hv⟩:=hv;exact ⟨.value (ρ x),w,η,by simp only [hv];rfl,St.refl h,_,rfl,hρ _ _ hxv⟩
  ·next f fs cs hxv=>
   obtain ⟨v,h1,rfl,rfl⟩:=jd hs;cases h1;have hv:=hρ _ _ hxv;simp only [VR] at hv;obtain ⟨us,vs,hv,_⟩:=hv;exact ⟨.value (ρ x),w,η,by simp only [hv];rfl,St.refl h,_,rfl,hρ _ _ hxv⟩
  ·cases hs
 ·next op t x y _ he=>
  rw [he];split at hs
  ·next a b ha hb=>
   obtain ⟨v,h1,rfl,rfl⟩:=jd hs;rcases rM h1 with h1 | h1
   ·exact dO (gW h (afF h h1 (hρ _ _ ha) (hρ _ _ hb)))
   ·exact dO (gW h (aoX h1 (hρ _ _ ha) (hρ _ _ hb)))
  ·cases hs
 ·next op t x he=>
  rw [he];split at hs
  ·next a ha=>
   split at hs
   ·next u hu=>
    obtain ⟨v,h1,rfl,rfl⟩:=jd hs;simp only [uH] at h1;obtain ⟨z,hz,tN⟩:=h1;have hrun:(Op.unary op (ρ x)).run P w=.ok z w:=by rw [yM hu (hρ _ _ ha)];exact yK hz w
    exact dO (gW h ⟨z,hrun,Aa _ _ _ tN⟩)
   ·obtain ⟨v,h1,rfl,rfl⟩:=jd hs
    exact dO (gW h (ao9 h1 (hρ _ _ ha)))
  ·cases hs
 ·next src dst x he=>
  rw [he];split at hs
  ·next a ha=>
   obtain ⟨v,h1,rfl⟩:=Ag hs;rcases rM h1 with h1 | h1
   ·exact dO (Jk h h1 (hρ _ _ ha))
   ·exact dO (aoZ h h1 (hρ _ _ ha))
  ·cases hs
 ·next t x he=>
  rw [he];split at hs
  ·next a ha hi=>
   obtain ⟨v,h1,rfl,rfl⟩:=jd hs;cases h1;exact dO (gW h (akD hi (hρ _ _ ha)))
  ·cases hs
 ·next f first caps he=>
  rw [he];split at hs
  ·next fs cs hfs hcs=>
   obtain ⟨v,h1,rfl,rfl⟩:=jd hs;cases h1;simp only [Ee];exact dO (gW h (akC (F9 hρ hfs) (F9 hρ hcs)))
  ·cases hs
 ·next t r' he=>
  rw [he];split at hs
  ·cases hs
   exact dO (aco h (.inl rfl))
  ·next x=>
   split at hs
   ·next a kt et ha hu=>
    split at hs
    ·next hm=>
     cases hs;obtain ⟨k,n,hk⟩:=akG hm (hρ _ _ ha);exact dO (aco h (.inr ⟨k,n,kt,et,by simp [hk],hu⟩))
    ·cases hs
   ·cases hs
 ·next t l c he=>
  rw [he];split at hs
  ·next a b ha hb=>
   obtain ⟨v,h1,rfl⟩:=Ag hs;rcases rM h1 with h1 | h1
   ·exact dO (akE h h1 (hρ _ _ ha) (hρ _ _ hb))
   ·exact dO (ao6 h h1 (hρ _ _ ha) (hρ _ _ hb))
  ·cases hs
 ·next t x lo hi he=>
  rw [he];split at hs
  ·next a lo' hi' ha hlo hhi=>
   rcases rM hs with hs | hs
   ·obtain ⟨v,h1,rfl,rfl⟩:=jd hs
    rcases rM h1 with h1 | h1
    ·exact dO (gW h (Qx h h1 (hρ _ _ ha) (He hρ hlo) (He hρ hhi)))
    ·exact dO (gW h (aef h h1 (hρ _ _ ha) (He hρ hlo) (He hρ hhi)))
   ·obtain ⟨v,h1,rfl⟩:=Ag hs
    exact dO (ao7 h h1 (hρ _ _ ha) (He hρ hlo) (He hρ hhi))
  ·cases hs
 ·next t x f he=>
  rw [he];split at hs
  ·next a ha=>
   obtain ⟨v,h1,rfl,rfl⟩:=jd hs;rcases rM h1 with h1 | h1
   ·exact dO (gW h (aii h1 (hρ _ _ ha)))
   ·exact dO (gW h (ao0 h1 (hρ _ _ ha)))
  ·cases hs
 ·next t x f he=>
  rw [he];split at hs
  ·next a ha=>
   obtain ⟨v,h1,rfl,rfl⟩:=jd hs;exact dO (gW h (aij h1 (hρ _ _ ha)))
  ·cases hs
 ·next t x ix he=>
  rw [he];split at hs
  ·next a k ha hk=>
   obtain ⟨v,h1,rfl,rfl⟩:=jd hs;rcases rM h1 with h1 | h1
   ·exact dO (gW h (JO h1 (hρ _ _ ha) (hρ _ _ hk)))
   ·exact dO (gW h (ao1 h h1 (hρ _ _ ha) (hρ _ _ hk)))
  ·cases hs
 ·next t x ix he=>
  rw [he];split at hs
  ·next a k ha hk=>
   obtain ⟨v,h1,rfl,rfl⟩:=jd hs;rcases rM h1 with h1 | h1
   ·exact dO (gW h (U0 h1 (hρ _ _ ha) (hρ _ _ hk)))
   ·exact dO (gW h (ao2 h1 (hρ _ _ ha) (hρ _ _ hk)))
  ·cases hs
 ·next t m k ok he=>
  rw [he];split at hs
  ·next a b ha hb=>
   obtain ⟨v,h1,rfl,rfl⟩:=jd hs;rcases rM h1 with h1 | h1
   ·exact dO (gW h (akt h h1 (hρ _ _ ha) (hρ _ _ hb)))
   ·exact dO (gW h (ao5 h h1 (hρ _ _ ha) (hρ _ _ hb)))
  ·cases hs
 ·next t m k x he=>
  rw [he];split at hs
  ·next a b c ha hb hc'=>
   obtain ⟨h1,rfl⟩:=Xm hs;rcases rM h1 with h1 | h1
   ·obtain ⟨w',h2,h3⟩:=acr h h1 (hρ _ _ ha) (hρ _ _ hb) (hρ _ _ hc')
    exact G9 ⟨w',η,h2,h3⟩
   ·obtain ⟨w',h2,h3⟩:=aee h h1 (hρ _ _ ha) (hρ _ _ hb) (hρ _ _ hc')
    exact G9 ⟨w',η,h2,h3⟩
  ·cases hs
 ·next t m k x he=>
  rw [he];split at hs
  ·next a b c ha hb hc'=>
   obtain ⟨h1,rfl⟩:=Xm hs;rcases rM h1 with h1 | h1
   ·obtain ⟨w',h2,h3⟩:=acr h h1 (hρ _ _ ha) (hρ _ _ hb) (hρ _ _ hc')
    exact G9 ⟨w',η,h2,h3⟩
   ·obtain ⟨w',h2,h3⟩:=aee h h1 (hρ _ _ ha) (hρ _ _ hb) (hρ _ _ hc')
    exact G9 ⟨w',η,h2,h3⟩
  ·cases hs
 ·next t x he=>
  rw [he];split at hs
  ·next s hu hx=>
   cases hs;have hv:=hρ _ _ hx;simp only [VR] at hv;simp only [hv];exact dO (am0 h hu)
  ·next k e hu hx=>
   cases hs;have hv:=hρ _ _ hx;simp only [VR] at hv;simp only [hv];exact dO (amY h hu)
  ·next k e id hu hx=>
   split at hs
   ·next es hg=>
    cases hs;exact dO (amZ h hu hg (hρ _ _ hx))
   ·cases hs
  ·cases hs
 ·next it he=>
  rw [he];split at hs
  ·next a ha=>
   obtain ⟨v,h1,rfl⟩:=Ag hs;obtain ⟨y,w',h2,h3,h4⟩:=ak1 (ty:=o.type) h h1 (hρ _ _ ha);exact dO ⟨y,w',η,h2,h3,h4⟩
  ·cases hs
 ·next it he=>
  rw [he];have hov:VR η (.dM [.b false]) (.tuple #[.bool false]):=by simp only [VR];exact ⟨[_],rfl,ay.cons (by simp only [VR]) (by simp [ay])⟩
  split at hs
  ·next id ha=>
   split at hs
   ·next hg=>
    cases hs;exact dO (gW h ⟨_,akZ (ty:=o.type) h hg (hρ _ _ ha),hov⟩)
   ·next m hg=>
    split at hs
    ·next hm=>
     cases hs;exact dO (gW h ⟨_,ak0 (ty:=o.type) h hg hm (hρ _ _ ha),hov⟩)
    ·cases hs
   ·cases hs
  ·cases hs
 ·next x xt t ok he=>
  rw [he];split at hs
  ·next a ha=>
   obtain ⟨v,h1,rfl,rfl⟩:=jd hs;exact dO (gW h (aps h1 (hρ _ _ ha)))
  ·cases hs
 ·next x k he=>
  rw [he];split at hs
  ·next l ha=>
   obtain ⟨v,h1,rfl,rfl⟩:=jd hs;exact dO (gW h (ahH h1 (hρ _ _ ha)))
  ·cases hs
 ·next c he=>
  rw [he];split at hs
  ·next args hargs=>
   split at hs
   ·next b hb=>
    have hv:=F9 hρ hargs;have hs:Dc P b c.argTypes args σ=some (r,σ')\/EK P b c.argTypes args σ=some (r,σ'):=by
     cases hsf:XL b args with
     | true=>rw [hsf,cond_true] at hs;exact (rM hs).symm
     | false=>rw [hsf,cond_false] at hs;exact rM hs
    rcases hs with hs | hs
    ·have hres:=afK (cs:=c.args.map fun | .const _=>true | _=>false) (ty:=o.type) h hs hv
     simp only [resolve,hb,Ee,pure_bind,invoke];rw [Ee] at hres;exact hres
    ·have hres:=aoY (cs:=c.args.map fun | .const _=>true | _=>false) (ty:=o.type) h hs hv
     simp only [resolve,hb,Ee,pure_bind,invoke];rw [Ee] at hres;exact hres
   ·next f hf=>
    rw [he] at hc;exfalso;obtain ⟨callee,args,at'⟩:=c;simp only at hf;subst hf;simp [BL] at hc
   ·next f name hf=>
    rw [he] at hc;exfalso;obtain ⟨callee,args,at'⟩:=c;simp only at hf;subst hf;simp [BL] at hc
  ·cases hs
 ·cases hs
end
end Go.aN
namespace Go.aN
set_option linter.unusedSimpArgs false
noncomputable section
variable [aF]
set_option linter.unusedSectionVars false
set_option linter.unusedVariables false
variable {P:Program} {η:Env} {σ σ':ak} {w:World}
theorem Z8 (r:Value) (l:List Value):(#[r]++(⟨l⟩:Array Value))=⟨r::l⟩:=by apply Io;simp
theorem ajN (name:String) (r:Value) (l:List Value):invoke (.fn (.method name) #[]) (#[r]++(⟨l⟩:Array Value))=callMethod r name ⟨l⟩:=by
 rw [Z8];have e1:(⟨r::l⟩:Array Value)[0]? = some r:=by simp
 have e2:(⟨r::l⟩:Array Value).extract 1 (⟨r::l⟩:Array Value).size=⟨l⟩:=by apply Io;simp
 have:invoke (.fn (.method name) #[]) (⟨r::l⟩:Array Value)=(do
  let some recv:=(⟨r::l⟩:Array Value)[0]? | stuck "call: a method without a receiver"
  callMethod recv name ((⟨r::l⟩:Array Value).extract 1 (⟨r::l⟩:Array Value).size)):=rfl
 rw [this,e1,e2]
theorem akN (h:SR P η σ w) {name:String} {a rv:AV} {f:FuncId} {x:Value} (hs:Nc P name σ a=some (f,rv)) (hx:VR η a x) (args:Array Value) :
 ∃y,(callMethod x name args).run P w=(callFunc f (#[y]++args)).run P w/\VR η rv y:=by
 unfold Nc at hs;split at hs
 ·next t v=>
  simp only [VR] at hx;obtain ⟨xv,rfl,hv⟩:=hx;split at hs
  ·next i d hi hd=>
   split at hs
   ·next m hm=>
    split at hs
    ·next f' ptr hp hf=>
     have UG:∀y,(receiverAt t (.val xv) ptr (some ((name.splitOn ".").getLastD name))).run P w=.ok y w->
      (callMethod (.iface t xv) name args).run P w=(callFunc f' (#[y]++args)).run P w:=by
      intro y hr;have hpe:m.path.isEmpty=true:=by simpa using hp
      have:∀n:Nat,(method (n+1) t xv name).run P w=.ok (f',y) w:=by
       intro n;simp only [method,aQ,Cb hi,aP,hm,hp,follow,aZ,hf,hpe,if_true,hr]
      simp only [callMethod,aQ,program,Sem.run,aP];rw [show P.types.size+Made.depth=(P.types.size+Made.depth - 1)+1 by simp [Made.depth],this];rfl
     split at hs
     ·next e=>
      cases hs;exact ⟨xv,UG _ (by simp only [receiverAt,aQ,aV hd,aP,Go.Place.get,aZ]),hv⟩
     ·next e=>
      split at hs
      ·next id off=>
       simp only [aW,jV] at hs;obtain ⟨z,hz,rfl,rfl⟩:=hs;obtain ⟨y,hy,rG⟩:=BO h hz hv;simp only [VR] at hv;obtain ⟨q,hq,rfl⟩:=hv;refine ⟨y,UG _ ?_,rG⟩;have hy':(loadVar e ⟨q.bl,q.ba+off,none⟩).run P w=.ok y w:=by simpa [Instr.loadAt,Instr.sureAddr] using hy
       have hwrap:∀nm:String,(Builtin.ssaWrapNilChk_ #[t] t #[.pointer (some ⟨q.bl,q.ba+off,none⟩),strVal "", strVal nm]).run P w=.ok (.pointer (some ⟨q.bl,q.ba+off,none⟩)) w:=λ_=>rfl;have has:(asAddr (.pointer (some ⟨q.bl,q.ba+off,none⟩))).run P w=.ok ⟨q.bl,q.ba+off,none⟩ w:=rfl;simp only [receiverAt,aQ,aV hd,aP,Go.Place.get,aZ,hwrap,has,hy']
      ·cases hs
     ·cases hs
     ·next h1 h2 h3=>
      cases hs;refine ⟨xv,UG _ ?_,hv⟩;simp only [receiverAt,aQ,aV hd,aP];cases d<;>simp only [Go.Place.get,aZ]
      all_goals simp_all
    ·cases hs
   ·cases hs
  ·cases hs
 ·cases hs
theorem Zx (h:SR P η σ w) {call:Caller} (hcall:oV P call) {o:Oper} {a:aU} {A:Act} (ht:TR P η a A) (hc:BL o.op=true) {r:Option AV} {K:Act->World->Prop} {Q:Exit->Act->World->Prop}
 (hs:oz P call o a.eval σ=some (r,σ')) (hK:∀v x η' w',r=some v->St P η σ w η' σ' w'->VR η' v x->K (A.put o.dst x) w'):o.wp P A w K Q:=by
 have hρ:∀x v,a.eval x=some v->VR η v (A.eval x):=λx v hv=>Js h ht x v hv;unfold oz at hs;cases hop:o.op with
 | call c=>
   rw [hop] at hc hs;simp only at hs;split at hs
   ·next args hargs=>
    obtain ⟨callee,Dw,at'⟩:=c;cases callee with
    | builtin b=>simp [BL] at hc
    | invoke rc name=>
      simp only at hs;split at hs
      ·next f rv hf=>
       simp only [uH] at hf;obtain ⟨iv,hiv,hf⟩:=hf;obtain ⟨u,h1,rfl⟩:=Ag hs;have hav:=F9 hρ hargs;obtain ⟨y,hm,hy⟩:=akN h hf (hρ _ _ hiv) (⟨Dw.toList.map A.eval⟩);have hcn:=hcall _ _ _ _ _ h1 η w (y::Dw.toList.map A.eval) h (ay.cons hy hav);have UE:(execOp A.eval o).run P w=(callFunc f ⟨y::Dw.toList.map A.eval⟩).run P w:=by
        unfold execOp;rw [hop];have e0:Dw.map A.eval=⟨Dw.toList.map A.eval⟩:=by apply Io;simp
        simp only [resolve,pure_bind,e0];rw [ajN,hm,Z8]
       unfold Oper.wp;rw [UE];rcases hcn with ⟨v,w',hrun,η',hst,hv⟩ | ⟨hrun,UA⟩
       ·rw [hrun]
        exact hK u v η' w' rfl hst hv
       ·rw [hrun]
        refine Calls.mono UA ?_;rintro e w' ⟨v,rfl,η',hst,hv⟩
        exact hK u v η' w' rfl hst hv
      ·cases hs
    | value f=>
      simp only at hs;split at hs
      ·next fn fi caps hf=>
       obtain ⟨u,h1,rfl⟩:=Ag hs;have hfv:=hρ _ _ hf;simp only [VR] at hfv;obtain ⟨us,vs,hfe,hfi,ai1⟩:=hfv;have hav:=F9 hρ hargs;have hcn:=hcall _ _ _ _ _ h1 η w (us++Dw.toList.map A.eval++vs) h ((hfi.append hav).append ai1);have UE:(execOp A.eval o).run P w=(callFunc fn ⟨us++Dw.toList.map A.eval++vs⟩).run P w:=by
        unfold execOp;rw [hop];simp only [resolve,hfe,Deferred.ofValue,pure_bind,invoke];congr 2;apply Io;simp
       unfold Oper.wp;rw [UE];rcases hcn with ⟨v,w',hrun,η',hst,hv⟩ | ⟨hrun,UA⟩
       ·rw [hrun]
        exact hK u v η' w' rfl hst hv
       ·rw [hrun]
        refine Calls.mono UA ?_;rintro e w' ⟨v,rfl,η',hst,hv⟩
        exact hK u v η' w' rfl hst hv
      ·cases hs
   ·cases hs
 | _=>rw [hop] at hc;simp [BL] at hc
theorem ap4 {ops:Array Oper} {j:Nat} {o:Oper} {d:Nat} {a:aU} {A:Act} {x:Bool} (ht:TR P η a A) (ho:ops[j]? = some o) (hd:o.dst=some d) (hx:dB (a.t.get d)=some (.b x)):yielded ops A.tmps j=some x:=by
 obtain ⟨vd,hx,himp⟩:=DJ hx;obtain ⟨y,hy,hv⟩:=ht.slot d _ hx;have hv:=himp _ _ hv;simp only [VR] at hv;subst hv;simp only [yielded,ho,zk,hd,hy]
theorem Az {o:Oper} {ops:Array Oper} {a:aU} {A:Act} {b:Bool} (ht:TR P η a A) (hw:Aw o ops a=some b):Region.wanted o (yielded ops A.tmps)=b:=by
 unfold Aw at hw;unfold Region.wanted;split at hw
 ·next hg=>rw [hg];cases hw;rfl
 ·next j want hg=>
  rw [hg];split at hw
  ·next q hq=>
   split at hw
   ·next d hd=>
    split at hw
    ·next x hx=>
     cases hw;simp only [ap4 ht hq hd hx];cases x<;>cases want<;>rfl
    ·next l hx=>
     cases hw;obtain ⟨vd,hx,himp⟩:=DJ hx;obtain ⟨y,hy,hv⟩:=ht.slot d _ hx;have hv:=himp _ _ hv;simp only [VR] at hv;obtain ⟨vs,rfl,_⟩:=hv;simp only [yielded,hq,zk,hd,hy];cases want<;>rfl
    ·cases hw
   ·cases hw
  ·cases hw
theorem step_ok (h:SR P η σ w) {call:Caller} (hcall:oV P call) {ops:Array Oper} {i:Nat} {a a':aU} {A:Act} (ht:TR P η a A) {K:Act->World->Prop} {Q:Exit->Act->World->Prop}
 (hs:Sr P call ops i a σ=some (a',σ')) (hK:∀η' A' w',St P η σ w η' σ' w'->TR P η' a' A'->K A' w'):wpOp P ops Q i K A w:=by
 unfold Sr at hs;unfold wpOp;split at hs
 ·cases hs
 ·next o ho=>
  rw [ho];simp only;split at hs
  ·cases hs
  ·next hw=>
   rw [Az ht hw];simp only [gU,if_false];simp only [aW,jV] at hs;obtain ⟨a1,hp,rfl,rfl⟩:=hs;exact hK η _ w (St.refl h) (ht.put hp (by rintro u hu;cases hu;exact ⟨[],rfl,rfl⟩))
  ·next hw=>
   rw [Az ht hw];simp only [if_true];split at hs
   ·cases hs
   ·next r σ1 hop=>
    rw [rE] at hop;simp only [aW,jV] at hs;obtain ⟨a1,hp,rfl,rfl⟩:=hs;left;cases hc:BL o.op with
    | true=>
      refine Zx h hcall ht hc hop λv x η' w' hr hst hv=>?_;exact hK η' _ w' hst ((ht.mono hst.ext).put hp (λu hu=>by rw [hr] at hu;cases hu;exact hv))
    | false=>
      obtain ⟨nx,w',η',hrun,hst,hres⟩:=acX h (λx v hv=>Js h ht x v hv) hc hop;unfold Oper.wp;rw [hrun];cases r with
      | none=>subst hres;exact hK η' _ w' hst ((ht.mono hst.ext).put hp (by simp))
      | some v=>
        obtain ⟨x,rfl,hv⟩:=hres;exact hK η' _ w' hst ((ht.mono hst.ext).put hp (λu hu=>by cases hu;exact hv))
theorem acZ {call:Caller} (hcall:oV P call) {ops:Array Oper} {Q:Exit->Act->World->Prop}:∀ (l:List Nat) {η:Env} {σ:ak} {w:World} {a a':aU} {A:Act},SR P η σ w->TR P η a A->
 FH P call ops l a σ=some (a',σ')->(∀η' A' w',St P η σ w η' σ' w'->TR P η' a' A'->Q .normal A' w')->wpOps P ops Q l A w
 | [],η,σ,w,a,a',A,h,ht,hs,hK=>by
   simp only [FH,aT,jV] at hs;obtain ⟨rfl,rfl⟩:=hs;exact hK η A w (St.refl h) ht
 | i::l,η,σ,w,a,a',A,h,ht,hs,hK=>by
   rw [wpOps_cons];unfold FH at hs;split at hs
   ·next a1 σ1 h1=>
    refine step_ok h hcall ht h1 λη1 A1 w1 hst ht1=>?_;exact acZ hcall l hst.rel ht1 hs λη' A' w' hst' ht'=>hK η' A' w' (hst.trans hst') ht'
   ·cases hs
def dP.toExit:dP->Exit
 | .normal=>.normal
 | .exit id=>.exit id
 | .ret=>.ret
def Ir (P:Program) (dr:Caller->xJ):Prop:=∀call,oV P call->∀ops a σ a' σ',dr call ops a σ=some (a',σ')->∀η w A id Q,SR P η σ w->TR P η a A->
 (∀η' A' w',St P η σ w η' σ' w'->TR P η' a' A'->Q .normal A' w')->(Code.region id ops true).wp P Q A w
def MO (P:Program) (pr:uJ):Prop:=∀f g,pr f=some g->∀args σ r σ',g args σ=some (r,σ')->∀η w vs,SR P η σ w->ay η args vs->
 jT P f ⟨vs⟩ w λv w'=>∃η',St P η σ w η' σ' w'/\VR η' r v
def sG (P:Program):Prop:=∀ (f:Nat) fn c,P.funcs[f]? = some fn->fn.body=some c->(fn.name == "runtime.NumGoroutine")=false
def IW (P:Program) (run:Code->aU->ak->Option (dP×aU×ak)):Prop:=∀c a σ e a' σ',run c a σ=some (e,a',σ')->∀η w A Q,SR P η σ w->TR P η a A->
 (∀η' A' w',St P η σ w η' σ' w'->TR P η' a' A'->Q e.toExit A' w')->c.wp P Q A w
theorem KY (h:SR P η σ w) {a:aU} {A:Act} (ht:TR P η a A) (F:ResultVar->Sem Value) (hF1:∀t,F (.tmp t)=pure (A.tmps.getD t undef)) (hF2:∀a t,F (.cell a t)=(do loadVar t (<- asAddr (A.tmps.getD a undef)))) :
 ∀ (rs:List ResultVar) (l:List AV),xX P σ a rs=some l->∃vs,(rs.mapM F).run P w=.ok vs w/\ay η l vs
 | [],l,hl=>by simp only [xX,aT] at hl;subst hl;exact ⟨[],rfl,by simp [ay]⟩
 | .tmp t::rs,l,hl=>by
   unfold xX at hl;split at hl
   ·next v r hv hr=>
    cases hl;obtain ⟨vs,h1,h2⟩:=KY h ht F hF1 hF2 rs r hr;obtain ⟨x,hx,jF⟩:=ht.slot t v hv;refine ⟨x::vs, ?_,ay.cons jF h2⟩;simp only [YE,hF1,aQ,aZ,aP,h1];rw [vk,hx];rfl
   ·cases hl
 | .cell t ty::rs,l,hl=>by
   unfold xX at hl;split at hl
   ·next v r hv hr=>
    cases hl;obtain ⟨vs,h1,h2⟩:=KY h ht F hF1 hF2 rs r hr;simp only [uH] at hv;obtain ⟨p,hp,hv⟩:=hv;obtain ⟨x,hx,jF⟩:=ht.slot t p hp;obtain ⟨y,hy,rG⟩:=BO h hv jF;refine ⟨y::vs, ?_,ay.cons rG h2⟩;have hxa:∃ad,x=.pointer (some ad):=by
     cases p<;>simp [sK] at hv
     ·simp only [VR] at jF
      obtain ⟨q,_,rfl⟩:=jF;exact ⟨_,rfl⟩
     ·simp only [VR] at jF
      obtain ⟨bl,base,cs,elem,fr,x,_,_,rfl,_⟩:=jF;exact ⟨_,rfl⟩
    obtain ⟨ad,rfl⟩:=hxa;have hg:A.tmps.getD t undef=.pointer (some ad):=by rw [vk,hx];rfl
    have hy':(loadVar ty ad).run P w=.ok y w:=by simpa [Instr.loadAt,Instr.sureAddr] using hy
    have aiT:(asAddr (A.tmps.getD t undef)).run P w=.ok ad w:=by rw [hg];rfl
    simp only [YE,hF2,aQ,aZ,aP,h1,aiT,hy']
   ·cases hl
theorem apr {l:List AV} {vs:List Value} (h:ay η l vs):VR η (EN l) (if h:(⟨vs⟩:Array Value).size=1 then (⟨vs⟩:Array Value)[0] else .tuple ⟨vs⟩):=by
 have hl:=h.length;unfold EN;split
 ·next v=>
  simp only [ay] at h;obtain ⟨x,_,rfl,hx,rfl⟩:=h;simpa using hx
 ·next hne=>
  have:(⟨vs⟩:Array Value).size≠1:=by
   intro e;have:l.length=1:=by rw [hl];exact e
   obtain ⟨v,rfl⟩:=RD.1 this;exact hne v rfl
  rw [dif_neg this];simp only [VR];exact ⟨vs,rfl,h⟩
theorem Zb:∀ (args:List AV) (k:Nat) (t:Tr AV) (j:Nat),(wQ args k t).get j=if k<=j/\j < k+args.length then args[j - k]? else t.get j
 | [],k,t,j=>by simp [wQ];omega
 | v::args,k,t,j=>by
   rw [wQ,Zb args (k+1)];simp only [iY];by_cases h1:k+1<=j/\j < k+1+args.length
   ·rw [aj h1,aj (by omega)]
    have:j - k=(j - (k+1))+1:=by omega
    rw [this];simp
   ·rw [ah h1,Tr.tH]
    by_cases h2:j=k
    ·subst h2;rw [aj rfl,aj (by omega)];simp
    ·rw [ah h2,ah (by omega)]
theorem TK {args:List AV} {vs:List Value} {n:Nat} (h:ay η args vs) :
 TR P η { t:=wQ args 0 .nil,n:=max args.length n,gn:=P.globals.size } { tmps:=(⟨vs⟩:Array Value)++Array.replicate (n - (⟨vs⟩:Array Value).size) undef,defers:=[] }:=by
 have hl:=h.length;refine ⟨rfl, ?_,rfl,λt v hv=>?_⟩
 ·simp;omega
 ·rw [Zb] at hv
  split at hv
  ·next hr=>
   obtain ⟨x,hx,jF⟩:=h.at hv;refine ⟨x, ?_,jF⟩;simp only [CZ] at hx;have hlt:=(dR.1 hx).1;rw [Rq (by simpa using hlt)];simpa using hx
  ·simp at hv
theorem Zw {pr:uJ} {run:Code->aU->ak->Option (dP×aU×ak)} (hp:MO P pr) (hn:sG P) (hr:IW P run):oV P (Dv P pr run):=by
 intro f args σ r σ' hs η w vs h hv;unfold Dv at hs;split at hs
 ·next g hg=>exact hp f g hg args σ r σ' hs η w vs h hv
 ·split at hs
  ·cases hs
  ·next fn hfn=>
   split at hs
   ·cases hs
   ·next c hc=>
    have key:∀ (e:dP) a',(e=.normal\/e=.ret)->run c { t:=wQ args 0 .nil,n:=max args.length fn.ntmps,gn:=P.globals.size } σ=some (e,a',σ')->∀l,xX P σ' a' fn.results.toList=some l->r=EN l->
     jT P f ⟨vs⟩ w λv w'=>∃η',St P η σ w η' σ' w'/\VR η' r v:=by
     intro e a' he hrun l hl hrl;right;refine ⟨?_, ?_⟩
     ·have hname:=hn f fn c hfn hc
      simp only [callFunc,aQ,program,Sem.run,aP,hfn];simp only [hname,gU,if_false,hc,Fp,aZ]
     ·refine calls_of_wp hfn hc ?_
      refine hr c _ _ _ _ _ hrun η w _ _ h (TK hv) ?_;intro η' A' w' hst ht;have hres:∃us,(results fn A'.tmps).run P w'=.ok (if h:(⟨us⟩:Array Value).size=1 then (⟨us⟩:Array Value)[0] else .tuple ⟨us⟩) w'/\ay η' l us:=by
       unfold results;rw [Rt];simp only [aQ,RV];obtain ⟨us,h1,h2⟩:=KY hst.rel ht (fun | .tmp t=>pure (A'.tmps.getD t undef) | .cell a t=>do loadVar t (<- asAddr (A'.tmps.getD a undef))) (λ_=>rfl) (λ_ _=>rfl) _ _ hl;refine ⟨us, ?_,h2⟩;exact rC (λr:Result (List Value)=>(r.andThen λa w'=>Result.ok a.toArray w').andThen λa w'=>Sem.run P (pure (if h:a.size=1 then a[0] else Value.tuple a)) w') h1
      obtain ⟨us,hres,h2⟩:=hres
      have hpost:A'.defers=[]/\∃v,(results fn A'.tmps).run P w'=.ok v w'/\∃v',Ending.returned v=.returned v'/\∃η',St P η σ w η' σ' w'/\VR η' r v':=
       ⟨ht.none,_,hres,_,rfl,η',hst,by rw [hrl];exact apr h2⟩
      rcases he with rfl | rfl
      ·exact hpost
      ·exact hpost
    split at hs
    ·next a' σ1 hrun=>
     simp only [aW,jV] at hs;obtain ⟨l,hl,h1,h2⟩:=hs;subst h2;exact key _ a' (.inl rfl) hrun l hl h1.symm
    ·next a' σ1 hrun=>
     simp only [aW,jV] at hs;obtain ⟨l,hl,h1,h2⟩:=hs;subst h2;exact key _ a' (.inr rfl) hrun l hl h1.symm
    ·cases hs
theorem ZX {dr:Caller->xJ} {pr:uJ} (hd:Ir P dr) (hp:MO P pr) (hn:sG P):∀n:Nat,IW P (AU P dr pr n)/\
 (∀b a σ e a' σ',AU P dr pr n (.loop b) a σ=some (e,a',σ')->∀η w A Q,SR P η σ w->TR P η a A->(∀η' A' w',St P η σ w η' σ' w'->TR P η' a' A'->Q e.toExit A' w')->Code.rounds P b Q n A w):=by
 intro n;induction n with
 | zero=>exact ⟨λc a σ e a' σ' hs=>by simp [Y1] at hs,λb a σ e a' σ' hs=>by simp [Y1] at hs⟩
 | succ n ih=>
   obtain ⟨ih1,ih2⟩:=ih;have hcall:=Zw hp hn ih1;have ab9:∀b a σ e a' σ',AU P dr pr (n+1) (.loop b) a σ=some (e,a',σ')->∀η w A Q,SR P η σ w->TR P η a A->(∀η' A' w',St P η σ w η' σ' w'->TR P η' a' A'->Q e.toExit A' w')->Code.rounds P b Q (n+1) A w:=by
    intro b a σ e a' σ' hs η w A Q h ht hK;rw [rounds_succ];simp only [sH,qC] at hs;split at hs
    ·next a1 σ1 h1=>
     refine ih1 _ _ _ _ _ _ h1 η w A _ h ht ?_;intro η1 A1 w1 hst ht1;exact ih2 _ _ _ _ _ _ hs η1 w1 A1 Q hst.rel ht1 λη' A' w' hst' ht'=>hK η' A' w' (hst.trans hst') ht'
    ·next hne=>
     refine ih1 _ _ _ _ _ _ hs η w A _ h ht ?_;intro η1 A1 w1 hst ht1;cases e with
     | normal=>exact absurd hs (by intro e';exact hne _ _ e')
     | exit id=>exact hK η1 A1 w1 hst ht1
     | ret=>exact hK η1 A1 w1 hst ht1
   refine ⟨?_,ab9⟩;intro c a σ e a' σ' hs η w A Q h ht hK;cases c with
   | loop b=>exact wp_loop_rounds (n+1) (ab9 b a σ e a' σ' hs η w A Q h ht hK)
   | skip=>simp only [sH,qC,aT,jV] at hs;obtain ⟨rfl,rfl,rfl⟩:=hs;exact wp_skip (hK η A w (St.refl h) ht)
   | region id ops draw=>
     cases draw with
     | false=>
       simp only [sH,qC,aW,jV] at hs;obtain ⟨⟨a1,σ1⟩,h1,rfl,rfl,rfl⟩:=hs;exact wp_region (acZ hcall _ h ht h1 hK)
     | true=>
       simp only [sH,qC,aW,jV] at hs;obtain ⟨⟨a1,σ1⟩,h1,rfl,rfl,rfl⟩:=hs;exact hd _ hcall ops a σ _ _ h1 η w A id Q h ht hK
   | seq x y=>
     simp only [sH,qC] at hs;refine wp_seq ?_;split at hs
     ·next a1 σ1 h1=>
      refine ih1 _ _ _ _ _ _ h1 η w A _ h ht ?_;intro η1 A1 w1 hst ht1;exact ih1 _ _ _ _ _ _ hs η1 w1 A1 Q hst.rel ht1 λη' A' w' hst' ht'=>hK η' A' w' (hst.trans hst') ht'
     ·next hne=>
      refine ih1 _ _ _ _ _ _ hs η w A _ h ht ?_;intro η1 A1 w1 hst ht1;cases e with
      | normal=>exact absurd hs (by intro e';exact hne _ _ e')
      | exit id=>exact hK η1 A1 w1 hst ht1
      | ret=>exact hK η1 A1 w1 hst ht1
   | cond x y z=>
     simp only [sH,qC] at hs;split at hs
     ·next t hx=>
      obtain ⟨vd,hx,himp⟩:=DJ hx;have hv:=himp _ _ (Js h ht x _ hx);simp only [VR] at hv;refine wp_cond hv ?_;exact ih1 _ _ _ _ _ _ hs η w A Q h ht hK
     ·cases hs
   | block id b=>
     simp only [sH,qC] at hs;refine wp_block ?_;split at hs
     ·next id' a1 σ1 h1=>
      refine ih1 _ _ _ _ _ _ h1 η w A _ h ht ?_;intro η1 A1 w1 hst ht1;simp only [dP.toExit,Exit.inBlock];split at hs
      ·next e1=>
       cases hs;rw [aj e1];exact hK η1 A1 w1 hst ht1
      ·next e1=>
       cases hs;rw [ah e1];exact hK η1 A1 w1 hst ht1
     ·next hne=>
      refine ih1 _ _ _ _ _ _ hs η w A _ h ht ?_;intro η1 A1 w1 hst ht1;cases e with
      | normal=>exact hK η1 A1 w1 hst ht1
      | exit id'=>exact absurd hs (by intro e';exact hne _ _ _ e')
      | ret=>exact hK η1 A1 w1 hst ht1
   | exit id=>simp only [sH,qC,aT,jV] at hs;obtain ⟨rfl,rfl,rfl⟩:=hs;exact wp_exit (hK η A w (St.refl h) ht)
   | ret=>simp only [sH,qC,aT,jV] at hs;obtain ⟨rfl,rfl,rfl⟩:=hs;exact wp_ret (hK η A w (St.refl h) ht)
   | rangeFunc _ _ _ _=>simp [sH,qC] at hs
   | scope _=>simp [sH,qC] at hs
   | label _=>simp [sH,qC] at hs
   | goto _=>simp [sH,qC] at hs
   | refuse _=>simp [sH,qC] at hs
theorem afm {dr:Caller->xJ} {pr:uJ} (hd:Ir P dr) (hp:MO P pr) (hn:sG P) (n:Nat):oV P (Y0 P dr pr n):=
 Zw hp hn (ZX hd hp hn n).1
end
end Go.aN
