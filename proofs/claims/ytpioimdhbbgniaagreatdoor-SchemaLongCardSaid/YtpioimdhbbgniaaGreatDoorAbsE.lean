/- Values that are named by nodes: append, make, conversions, strings.Builder's string. -/
import Derived.Test.YtpioimdhbbgniaaGreatDoorAbsD
import Derived.Test.YtpioimdhbbgniaaGreatDoorAbsC
namespace Go.aJ
set_option linter.unusedSimpArgs false
noncomputable section
variable [aC]
set_option linter.unusedSectionVars false
set_option linter.unusedVariables false
variable {P:Program} {η:Env} {σ σ':aj} {w:World}
theorem St.Oc {η':Env} {w':World} (h:St P η σ w η' σ' w') (id:Nat):St P η σ w η' (σ'.kill id) w':=
 h.sub (λk o hk=>by rw [aj.vT] at hk;split at hk;cases hk;exact hk) (cZ _) rfl
theorem St.vg {η':Env} {τ:aj} {w':World} {m e size:Nat} {f:Bool} {xs:List GV} {c:List AV} {y:Value} (h:St P η σ w η' (τ.new (.cells c e true true)) w') (hv:aC.val m=some (.l xs)) (hs:∀x∈xs,x.cells.length=size/\x.cells.all GV.scalar=true) (hn:sizeT P e=some size)
 (hc:∀vs,ay η' c vs->ay η' (bC xs) vs) (hy:VR η' (.sl τ.next 0 xs.length none) y) (hf:f=true->xs≠[]):St P η σ w η' (τ.new (.vec m e f)) w'/\VR η' (.sv τ.next m) y:=by
 simp only [VR] at hy;obtain ⟨q,hq,hle,rfl⟩:=hy;have hg:(τ.new (.cells c e true true)).get τ.next=some (.cells c e true true):=by rw [aj.oJ,ak rfl]
 have hor:=h.rel.at hg hq;have hes:q.es=size:=by
  obtain ⟨_,_,_,_,r⟩:=hor;have:=(r.room rfl).2.2;rw [hn] at this;cases this;rfl
 have hpos:f=true->q.es<=q.sz:=λe=>by
  have hne:=hf e;have:0 < xs.length:=KY.2 hne;simp only [sN,Ce] at hle;have h1:1<=q.sz / q.es:=by omega
  exact jF (by simpa using rC q.es h1) (Nat.div_mul_le_self q.sz q.es)
 have hnew:OR P η' q w' (.vec m e f):=OR.vg hpos hv (λx hx=>by rw [hes];exact (hs x hx).1) (λx hx=>(hs x hx).2) hor hc;refine ⟨h.right ?_ rfl rfl ?_,by simp only [VR];exact ⟨xs,hv,.inl ⟨q,hq,by simpa using hle,by simp⟩⟩⟩
 ·refine (h.rel.swap (o':=.vec m e f) hg rfl (.inl ⟨q,hq,hnew⟩)).sub (λk o hk=>?_) (cZ _)
  rw [aj.oJ] at hk;rw [aj.get_put,aj.oJ];split at hk
  ·next e1=>rw [ak e1];exact hk
  ·next e1=>rw [ah e1,ah e1];exact hk
 ·intro k o hk ho
  rw [aj.oJ] at hk ⊢;split at hk
  ·next e1=>rw [ak e1];exact ⟨_,rfl,rfl⟩
  ·next e1=>rw [ah e1];exact ⟨o,hk,ho⟩
theorem zl {xs:List GV} {size:Nat} (h:xs.all (GV.fQ size)=true):∀x∈xs,x.cells.length=size/\x.cells.all GV.scalar=true:=by
 intro z hz;have:=List.all_eq_true.1 h z hz;unfold GV.fQ at this;rw [aG] at this;exact ⟨Nat.eq_of_beq_eq_true this.1,this.2⟩
theorem aei {xs:List GV} {size:Nat} (h:∀x∈xs,x.cells.length=size/\x.cells.all GV.scalar=true):(bC xs).all AV.kK=true:=by
 unfold bC;refine Sr ?_;rw [List.all_eq_true];intro g hg;obtain ⟨z,hz,hgz⟩:=Xj.1 hg;exact List.all_eq_true.1 (h z hz).2 g hgz
theorem Yi (xs ys:List GV):bC (xs++ys)=bC xs++bC ys:=by unfold bC;rw [Xe,Dv]
theorem Df {xs:List GV} {size:Nat} (h:∀x∈xs,x.cells.length=size):(bC xs).length=xs.length * size:=by rw [bC,jI,Js h]
def VT (P:Program) (σ:aj) (e size:Nat) (t1:TypeId) (x:AV):Option Nat:=
 match P.underlying t1 with
 | some .string=>if size=1 then match gB x with
    | some n=>dP (.bytes n)
    | none=>none
   else none
 | some (.slice _)=>listOf P σ e x
 | _=>none
theorem Pq (h:SR P η σ w) {e size:Nat} {t1:TypeId} {x:AV} {b:Nat} {u:Value} {xs:List GV} (hs:VT P σ e size t1 x=some b) (hx:VR η x u) (hn:sizeT P e=some size) (hv:aC.val b=some (.l xs)) (hok:xs.all (GV.fQ size)=true) :
 ∃ys,Src P size t1 u xs.length ys w/\ay η (bC xs) ys:=by
 unfold VT at hs;split at hs
 ·next ht=>
  split at hs
  ·next h1=>
   subst h1;split at hs
   ·next n hn'=>
    obtain ⟨g,g1,g2,g3⟩:=jJ hn' hx;obtain ⟨g',k1,k2⟩:=dZ hs;rw [hv] at k1;cases k1;simp only [Nd.den,g1] at k2;split at k2
    ·next s e1=>
     cases e1;cases k2;have hT:Bh P t1=true:=by unfold Bh;rw [ht]
     have:=src_ok h hT (size:=1) (n:=s.length) (l:=sZ s) (a:=.s s) (x:=u) (by simp [wo]) ((jC (.s s) u).1 g3) (by unfold sZ;simp [AV.kK]);rw [X9];have hl:(dU s).length=s.length:=by simp [dU]
     rw [hl];exact this
    ·cases k2
   ·cases hs
  ·cases hs
 ·next ht=>exact ah6 h hs hx ht hn hv hok
 ·cases hs
theorem ah5 {e size id len:Nat} {cap:Option Nat} {a et:Nat} {c:List AV} {qV opn:Bool} (hg:σ.get id=some (.cells c et qV opn)) (hl:listOf P σ e (.sl id 0 len cap)=some a) (hn:sizeT P e=some size) (hlen:c.length=len * size) :
 ∃ns,(∀ {η:Env} {vs:List Value},ay η c vs->∃gs,valsOf aC.val ns=some gs/\gs.length=len/\ay η (bC gs) vs/\∀x∈gs,x.cells.length=size/\x.cells.all GV.scalar=true)/\∀gs,valsOf aC.val ns=some gs->aC.val a=some (.l gs):=by
 simp only [listOf,hg,hn] at hl;split at hl
 ·next c' Dq rw' JY size' agg hg' hsz hag=>
  cases hg';cases hsz;split at hl
  ·next hc=>
   rw [aG,kR,aG] at hc;have hagg:agg=false->size=1:=by
    intro e;subst e;rcases hc.2 with h1 | h1
    ·simp at h1
    ·exact bn h1
   have htk:takeN c 0 (len * size)=some c:=by
    unfold takeN;rw [fH,mP (by omega),ak hlen]
   rw [htk] at hl;simp only at hl;split at hl
   ·next ns hns=>
    refine ⟨ns,λ{η vs} hv=>?_,λgs hgs=>?_⟩
    ·obtain ⟨gs,k1,k2,k3,_,k5⟩:=AX (η:=η) hagg len hns hv hlen
     exact ⟨gs,k1,k2,k3,k5⟩
    ·obtain ⟨g,g1,g2⟩:=dZ hl
     simp only [Nd.den,hgs,fV,aT] at g2;rw [g2];exact g1
   ·cases hl
  ·cases hl
 ·cases hl
set_option maxHeartbeats 1000000 in
theorem anM (h:SR P η σ w) {ts:Array TypeId} {ty:TypeId} {s x v:AV} {u u':Value} (hs:VZ P ts s x σ=some (v,σ')) (hu:VR η s u) (hx:VR η x u') :
 ∃y w' η',(Builtin.append_ ts ty #[u,u']).run P w=.ok y w'/\St P η σ w η' σ' w'/\VR η' v y:=by
 unfold VZ at hs;split at hs
 ·next t t1 hts=>
  have:=LY hts;subst this;split at hs
  ·next e size bytes z hi=>
   obtain ⟨_,_,_,he,_,hn⟩:=yg hi;split at hs
   ·cases hs
   ·next h0=>
    split at hs
    ·cases hs
    ·next b hb=>
     have hb':VT P σ e size t1 x=some b:=hb;have app:∀ {a m:Nat} {xs:List GV},dP (.app size bytes a b)=some m->aC.val a=some (.l xs)->∃ys,aC.val b=some (.l ys)/\aC.val m=some (.l (xs++ys))/\ys.all (GV.fQ size)=true/\2 * (xs.length+ys.length) * bytes<=2 ^ 48/\xs.length+ys.length<=2 ^ 48:=by
      intro a m xs hm ha;obtain ⟨g,g1,g2⟩:=dZ hm;simp only [Nd.den,ha] at g2;split at g2
      ·next xs' ys e1 e2=>
       cases e1;split at g2
       ·next hc=>cases g2;exact ⟨ys,e2,g1,hc.1,hc.2.1,hc.2.2⟩
       ·cases g2
      ·cases g2
     have LX:∀ {ys:List GV} {S:AV} {n:Nat},ys.all (GV.fQ size)=true->sliceLen S=n->2 * (n+ys.length) * bytes<=2 ^ 48->n+ys.length<=2 ^ 48->¬ (size=0\/(bC ys).all AV.kK=false\/¬ (2 * (sliceLen S+ys.length) * bytes<=2 ^ 48/\sliceLen S+ys.length<=2 ^ 48)):=by
      intro ys S n h1 h2 h3 h4;rw [aei (zl h1),h2];simp [h0];omega
     have ml0:∀ {a:Nat},dP (.ml [])=some a->aC.val a=some (.l []):=by
      intro a ha;obtain ⟨g,g1,g2⟩:=dZ ha;simp only [Nd.den,valsOf,fV,aT] at g2;subst g2;exact g1
     have abA:∀ {a m:Nat} {τ:aj},aC.val a=some (.l [])->dP (.app size bytes a b)=some m->u=.slice none 0 0->τ.lock=σ.lock->τ.next=σ.next->(∀k o,τ.get k=some o->σ.get k=some o)->
      ∀f:Bool,∃y w' η',(Builtin.append_ #[t,t1] ty #[u,u']).run P w=.ok y w'/\St P η σ w η' (τ.new (.vec m e f)) w'/\VR η' (.sv σ.next m) y:=by
      intro a m τ ha hm hu0 hl hnx hsub f;obtain ⟨ys,y1,y2,y3,y4,y5⟩:=app hm ha;obtain ⟨zs,z1,z2⟩:=Pq h hb' hx hn y1 y3;have hlen:=Df (λx hx=>(zl y3 x hx).1);simp only [fJ,sJ,iH] at y2 y4 y5;have hc:=LX (S:=.dA) (n:=0) y3 rfl (by simpa using y4) (by simpa using y5);by_cases hz:ys.length=0
      ·have hys:ys=[]:=jD hz
       subst hys;have hto:nN e size bytes .dA 0 (bC []) σ=some (.dA,σ):=by unfold nN;rw [ah (by simpa using hc)];rfl
       obtain ⟨y,w',η',r1,r2,r3⟩:=y8 (ty:=ty) h hi z1 z2 hlen hto (u:=u) (by simp only [VR];exact hu0);refine ⟨y,w',η'.ghost σ.next,r1,r2.trans ?_, ?_⟩
       ·exact St.ghost r2.rel y2 hl hnx hsub
       ·simp only [VR] at r3 ⊢
        exact ⟨[],y2,.inr ⟨by simp [Env.ghost],rfl,r3⟩⟩
      ·have hto:nN e size bytes .dA ys.length (bC ys) σ=some (.sl σ.next 0 ys.length none,σ.new (.cells (bC ys) e true true)):=by
        unfold nN;rw [ah hc];simp only;rw [ah hz]
       obtain ⟨y,w',η',r1,r2,r3⟩:=y8 (ty:=ty) h hi z1 z2 hlen hto (u:=u) (by simp only [VR];exact hu0);obtain ⟨q1,q2⟩:=St.vg (f:=f) r2 y2 (zl y3) hn (λ_ h=>h) r3 (λ_ e=>hz (by rw [e];rfl));refine ⟨y,w',η',r1,q1.sub (λk o hk=>?_) (by show σ.next+1<=τ.next+1;omega) hl,q2⟩;rw [aj.oJ] at hk ⊢;rw [hnx] at hk;split at hk
       ·next e1=>rw [ak e1];exact hk
       ·next e1=>rw [ah e1];exact hsub k o hk
     split at hs
     ·split at hs
      ·next a ha=>
       obtain ⟨m,hm,e1⟩:=aX.1 hs;cases e1;simp only [VR] at hu;exact abA (τ:=σ) (ml0 ha) hm hu rfl rfl (λ_ _ h=>h) true
      ·cases hs
     ·next id n=>
      split at hs
      ·next a et f hg=>
       split at hs
       ·next hcnd=>
        rw [aG,aG] at hcnd;obtain ⟨⟨het,hsl⟩,hlk⟩:=hcnd;have Dy:=bn het;subst Dy;have rM:=nM hlk;obtain ⟨m,hm,e1⟩:=aX.1 hs;cases e1;simp only [VR] at hu;obtain ⟨xn,n1,hu⟩:=hu;rcases h.live id _ hg with ⟨q,hq,hor⟩ | ⟨hgh,m0,et0,f0,e0,hv0⟩
        ·obtain ⟨xs,x1,x2,x3,x4,x5,x6,x7,hS⟩:=Ii h hg hq
         have hlen0:=vY 100 hsl x1 n1;rw [hn] at x5;cases x5;rcases hu with ⟨q',hq',hle,rfl⟩ | ⟨hgh,_,_⟩
         ·rw [hq] at hq';cases hq'
          obtain ⟨ys,y1,y2,y3,y4,y5⟩:=app hm x1;have hcl:=Df x2;have hall:∀x∈xs++ys,x.cells.length=q.es/\x.cells.all GV.scalar=true:=by
           intro x hx;rcases oz.1 hx with hx | hx
           ·exact ⟨x2 x hx,x7 x hx⟩
           ·exact zl y3 x hx
          obtain ⟨zs,z1,z2⟩:=Pq h hb' hx hn y1 y3;have hlen:=Df (λx hx=>(zl y3 x hx).1);have hc:=LX (S:=.sl id 0 xs.length none) (n:=xs.length) y3 rfl y4 y5;rw [<- hlen0] at hle ⊢;have hus:VR η (.sl id 0 xs.length none) (.slice (some ⟨q.bl,q.ba,none⟩) xs.length (q.sz / q.es)):=by simp only [VR];exact ⟨q,hq,by simpa using hle,by simp⟩
          by_cases hz:ys.length=0
          ·have hys:ys=[]:=jD hz
           subst hys;rw [mM] at y2;have hto:nN et q.es bytes (.sl id 0 xs.length none) 0 (bC []) (iW σ id xs et)=some (.sl id 0 xs.length none,iW σ id xs et):=by unfold nN;rw [ah (by simpa using hc)];rfl
           obtain ⟨y,w',η',r1,r2,r3⟩:=y8 (ty:=ty) hS hi z1 z2 hlen hto hus;have r2':=KI hg r2;have hgu:(iW σ id xs et).get id=some (.cells (bC xs) et true true):=zZ;have hq2:=r2.ext.pl _ _ hq;have hor2:=r2.rel.at hgu hq2;have hv2:OR P (η'.put σ.next q) q w' (.vec m et f):=by
            have hle2:=Env.D8 r2.rel q;refine OR.vg (λe=>by subst e;exact hor.Qc) y2 x2 x7 (hor2.mono hle2) (λ_ h=>h)
           have Jw:=St.again (q':=q) r2.rel hgu rfl (show (iW σ id xs et).lock<=id from rM) hq2 rfl rfl (λ_ _=>rfl) rfl rfl rfl hv2;refine ⟨y,w',η'.put σ.next q,r1,(r2'.trans Jw).sub (λk o hk=>?_) (cZ _) rfl, ?_⟩
           ·rw [aj.oJ,aj.vT] at hk ⊢
            split at hk
            ·next e1=>rw [ak (show k=((iW σ id xs et).kill id).next from e1)];exact hk
            ·next e1=>
             rw [ah (show ¬ k=((iW σ id xs et).kill id).next from e1)];split at hk
             ·cases hk
             ·next e2=>rw [ah e2];unfold iW;rw [aj.get_put,ah e2];exact hk
           ·simp only [VR] at r3 ⊢
            obtain ⟨q3,hq3,hle3,rfl⟩:=r3;rw [hq2] at hq3;cases hq3;exact ⟨xs,y2,.inl ⟨q,by simp [Env.put],by simpa using hle3,by simp⟩⟩
          ·have htk:takeN (bC xs) 0 (xs.length * q.es)=some (bC xs):=by
            unfold takeN;rw [fH,mP (by omega),ak hcl]
           have hto:nN et q.es bytes (.sl id 0 xs.length none) ys.length (bC ys) (iW σ id xs et)=some (.sl σ.next 0 (xs.length+ys.length) none,((iW σ id xs et).kill id).new (.cells (bC xs++bC ys) et true true)):=by
            unfold nN;rw [ah hc];simp only;rw [ah hz,ak (show (iW σ id xs et).lock<=id from rM),zZ];simp only [if_true,htk,fV];rfl
           obtain ⟨y,w',η',r1,r2,r3⟩:=y8 (ty:=ty) hS hi z1 z2 hlen hto hus;obtain ⟨q1,q2⟩:=St.vg (size:=q.es) (KI hg r2) y2 hall hn (λvs hvs=>by rw [Yi];exact hvs) (by rw [bY];exact r3) (f:=f) (λ_ e=>hz (by have:=tq List.length e;simp at this;rw [this.2];rfl));refine ⟨y,w',η',r1,q1.sub (λk o hk=>?_) (cZ _) rfl,q2⟩;rw [aj.oJ,aj.vT] at hk ⊢;split at hk
           ·next e1=>rw [ak (show k=((iW σ id xs et).kill id).next from e1)];exact hk
           ·next e1=>
            rw [ah (show ¬ k=((iW σ id xs et).kill id).next from e1)];split at hk
            ·cases hk
            ·next e2=>rw [ah e2];unfold iW;rw [aj.get_put,ah e2];exact hk
         ·rw [(h.iI id hgh).1] at hq;cases hq
        ·cases e0
         have hlen0:=vY 100 hsl hv0 n1;rcases hu with ⟨q',hq',_⟩ | ⟨_,_,hu⟩
         ·rw [(h.iI id hgh).1] at hq';cases hq'
         ·exact abA (τ:=σ.kill id) hv0 hm hu rfl rfl (λk o hk=>by rw [aj.vT] at hk;split at hk;cases hk;exact hk) f
       ·cases hs
      ·cases hs
     ·next id=>
      split at hs
      ·next et hg=>
       split at hs
       ·next hcnd=>
        rw [aG] at hcnd;obtain ⟨het,hlk⟩:=hcnd;have Dy:=bn het;subst Dy;have rM:=nM hlk;split at hs
        ·next a ha=>
         obtain ⟨m,hm,e1⟩:=aX.1 hs;cases e1;obtain ⟨ys,y1,y2,y3,y4,y5⟩:=app hm (ml0 ha);simp only [fJ,sJ,iH] at y2 y4 y5;obtain ⟨zs,z1,z2⟩:=Pq h hb' hx hn y1 y3;have hlen:=Df (λx hx=>(zl y3 x hx).1);have hc:=LX (S:=.sl id 0 0 (some 0)) (n:=0) y3 rfl (by simpa using y4) (by simpa using y5);have hu0:=hu;simp only [VR] at hu0;obtain ⟨q,hq,_,rfl⟩:=hu0;obtain ⟨cs,elem,fr,hb0,rr⟩:=h.at hg hq;have hsh:=rr.shut rfl;obtain ⟨w1,w2,w3⟩:=rr.whole he;have hba:=w3 rfl;by_cases hz:ys.length=0
         ·have hys:ys=[]:=jD hz
          subst hys;have hto:nN et size bytes (.sl id 0 0 (some 0)) 0 (bC []) σ=some (.sl id 0 0 (some 0),σ):=by unfold nN;rw [ah (by simpa using hc)];rfl
          obtain ⟨y,w',η',r1,r2,r3⟩:=y8 (ty:=ty) h hi z1 z2 hlen hto hu;have hq2:=r2.ext.pl _ _ hq;obtain ⟨cs2,Fv,FV,hb2,Vz⟩:=r2.rel.at hg hq2;obtain ⟨v1,v2,v3⟩:=Vz.whole he;have hsz0:=Vz.shut rfl;simp only [sJ] at hsz0;have hv2:OR P (η'.put σ.next ⟨q.bl,q.ba,0,size⟩) ⟨q.bl,q.ba,0,size⟩ w' (.vec m et false):=by
           refine ⟨[],cs2,Fv,FV,[],y2,hb2,by simp [aK],by simp,by simp [AL,bU],by simp, { fits:=by have:=Vz.fits;simp;omega,le:=by simp,shut:=by simp,cell:=by simp,free:=by simp,whole:=λ_=>⟨v1,by simp;omega,by simp⟩,room:=λ_=>⟨he,by simp;omega,hn⟩ },by simp,by simp⟩
          have Jw:=St.again (q':=⟨q.bl,q.ba,0,size⟩) r2.rel hg rfl rM hq2 rfl rfl (λ_ _=>rfl) rfl rfl rfl hv2;refine ⟨y,w',_,r1,r2.trans Jw, ?_⟩;simp only [VR] at r3 ⊢;obtain ⟨q3,hq3,_,rfl⟩:=r3;rw [hq2] at hq3;cases hq3;exact ⟨[],y2,.inl ⟨⟨q.bl,q.ba,0,size⟩,by simp [Env.put],by simp,by simp⟩⟩
         ·have hto:nN et size bytes (.sl id 0 0 (some 0)) ys.length (bC ys) σ=some (.sl σ.next 0 (0+ys.length) none,σ.new (.cells ([]++bC ys) et true true)):=by
           unfold nN;rw [ah hc];simp only;rw [ah (by omega),hg];simp [takeN]
          obtain ⟨y,w',η',r1,r2,r3⟩:=y8 (ty:=ty) h hi z1 z2 hlen hto hu;rw [fJ] at r2;rw [iH] at r3;obtain ⟨q1,q2⟩:=St.vg (f:=false) r2 y2 (zl y3) hn (λ_ h=>h) r3 (by simp);refine ⟨y,w',η',r1,q1.sub (λk o hk=>?_) (cZ _) rfl,q2⟩;rw [aj.oJ,aj.vT] at hk;rw [aj.oJ];split at hk
          ·next e1=>rw [ak (show k=σ.next from e1)];exact hk
          ·next e1=>
           rw [ah (show ¬ k=σ.next from e1)];split at hk
           ·cases hk
           ·exact hk
        ·cases hs
       ·cases hs
      ·cases hs
     ·next id len=>
      split at hs
      ·next c et hg=>
       split at hs
       ·next hcnd=>
        rw [aG,aG] at hcnd;obtain ⟨⟨het,hlk⟩,hcl⟩:=hcnd;have Dy:=bn het;subst Dy;have rM:=nM hlk;have hcl':=bn hcl;split at hs
        ·next a ha=>
         obtain ⟨m,hm,e1⟩:=aX.1 hs;cases e1;obtain ⟨ns,l1,l2⟩:=ah5 hg ha hn hcl';have hu0:=hu;simp only [VR] at hu0;obtain ⟨q,hq,hle,rfl⟩:=hu0;obtain ⟨ws,elem,fr,hb0,rr⟩:=h.at hg hq;have hes:q.es=size:=by
          have:=(rr.room rfl).2.2;rw [hn] at this;cases this;rfl
         have htk:takeN c 0 (len * size)=some c:=by
          unfold takeN;rw [fH,mP (by omega),ak hcl']
         obtain ⟨xs,k1,k2,k3,k4⟩:=l1 (rr.wz htk);have hva:=l2 xs k1;have conv:∀ {η':Env} (vs:List Value),ay η' c vs->ay η' (bC xs) vs:=by
          intro η' vs hv;obtain ⟨gs,j1,_,j3,_⟩:=l1 hv;rw [k1] at j1;cases j1;exact j3
         obtain ⟨ys,y1,y2,y3,y4,y5⟩:=app hm hva;have hall:∀x∈xs++ys,x.cells.length=size/\x.cells.all GV.scalar=true:=by
          intro x hx;rcases oz.1 hx with hx | hx
          ·exact k4 x hx
          ·exact zl y3 x hx
         obtain ⟨zs,z1,z2⟩:=Pq h hb' hx hn y1 y3;have hlen:=Df (λx hx=>(zl y3 x hx).1);have hc:=LX (S:=.sl id 0 len none) (n:=xs.length) y3 k2.symm y4 y5;by_cases hz:ys.length=0
         ·have hys:ys=[]:=jD hz
          subst hys;rw [mM] at y2;have hto:nN et size bytes (.sl id 0 len none) 0 (bC []) σ=some (.sl id 0 len none,σ):=by unfold nN;rw [ah (by simpa using hc)];rfl
          obtain ⟨y,w',η',r1,r2,r3⟩:=y8 (ty:=ty) h hi z1 z2 hlen hto hu;have hq2:=r2.ext.pl _ _ hq;have hor2:=r2.rel.at hg hq2;have hv2:OR P (η'.put σ.next q) q w' (.vec m et false):=by
           have hle2:=Env.D8 r2.rel q;refine OR.vg (by simp) y2 (λx hx=>by rw [hes];exact (k4 x hx).1) (λx hx=>(k4 x hx).2) (hor2.mono hle2) (λvs hvs=>conv vs hvs)
          have Jw:=St.again (q':=q) r2.rel hg rfl rM hq2 rfl rfl (λ_ _=>rfl) rfl rfl rfl hv2;refine ⟨y,w',η'.put σ.next q,r1,r2.trans Jw, ?_⟩;simp only [VR] at r3 ⊢;obtain ⟨q3,hq3,hle3,rfl⟩:=r3;rw [hq2] at hq3;cases hq3;exact ⟨xs,y2,.inl ⟨q,by simp [Env.put],by rw [k2];simpa using hle3,by simp [k2]⟩⟩
         ·have hto:nN et size bytes (.sl id 0 len none) ys.length (bC ys) σ=some (.sl σ.next 0 (len+ys.length) none,(σ.kill id).new (.cells (c++bC ys) et true true)):=by
           unfold nN;rw [ah hc];simp only;rw [ah hz,ak rM,hg];simp only [if_true,htk,fV]
          obtain ⟨y,w',η',r1,r2,r3⟩:=y8 (ty:=ty) h hi z1 z2 hlen hto hu;obtain ⟨q1,q2⟩:=St.vg (size:=size) r2 y2 hall hn (λvs hvs=>by
           obtain ⟨us,ts,rfl,v1,v2⟩:=ay.split hvs;rw [Yi];exact ay.append (conv us v1) v2) (by rw [bY,k2];exact r3) (f:=false) (by simp)
          exact ⟨y,w',η',r1,q1,q2⟩
        ·cases hs
       ·cases hs
      ·cases hs
     ·cases hs
  ·cases hs
 ·cases hs
end
end Go.aJ
namespace Go.aJ
set_option linter.unusedSimpArgs false
noncomputable section
variable [aC]
set_option linter.unusedSectionVars false
set_option linter.unusedVariables false
variable {P:Program} {η:Env} {σ σ':aj} {w:World}
theorem ace {x:GV} {z:List AV} (hx:∀us,ay η z us->ay η (bT x.cells) us):∀ (n:Nat) (vs:List Value),ay η (ig n z) vs->ay η (bC (List.replicate n x)) vs
 | 0,vs,h=>by simpa [ig,bC,bT] using h
 | n+1,vs,h=>by
   have e:ig (n+1) z=z++ig n z:=by simp [ig,IB]
   rw [e] at h;obtain ⟨us,ws,rfl,h1,h2⟩:=ay.split h;have e2:bC (List.replicate (n+1) x)=bT x.cells++bC (List.replicate n x):=by unfold bC;rw [IB,iK,Dv]
   rw [e2];exact (hx us h1).append (ace hx n ws h2)
theorem ak0 (z:List AV) (n m:Nat) (h:n<=m):(ig m z).take (n * z.length)=ig n z:=by
 induction n generalizing m with
 | zero=>simp [ig]
 | succ n ih=>
   cases m with
   | zero=>omega
   | succ m=>
     have e:∀k,ig (k+1) z=z++ig k z:=λk=>by simp [ig,IB]
     rw [e,e,<- ih m (by omega),List.take_append,mP (by rw [qh];omega)];congr 2;rw [qh];omega
theorem anW (h:SR P η σ w) {t:TypeId} {l c v:AV} {x y:Value} (hs:PO P t l c σ=some (v,σ')) (hx:VR η l x) (hy:VR η c y) :
 ∃z w' η',(Instr.makeSlice t x y).run P w=.ok z w'/\St P η σ w η' σ' w'/\VR η' v z:=by
 unfold PO at hs;split at hs
 ·next e0 hu0=>
  split at hs
  ·next e size bytes z agg hi hagg=>
   obtain ⟨hut,_,_,he,hzl,hn⟩:=yg hi;rw [hu0] at hut;cases hut;split at hs
   ·cases hs
   ·next h0=>
    split at hs
    ·next zn ln cn hzn hln hcn=>
     obtain ⟨m,hm,e1⟩:=aX.1 hs;cases e1;obtain ⟨gl,l1,l2,l3⟩:=jJ hln hx;obtain ⟨gc,c1,c2,c3⟩:=jJ hcn hy;obtain ⟨g,g1,g2⟩:=dZ hm;simp only [Nd.den,l1,c1] at g2;split at g2
     ·next xz kn n kn' m' e1 e2 e3=>
      cases e2;cases e3;split at g2
      ·next hc=>
       cases g2;obtain ⟨b1,b2,b3,b4,b5⟩:=hc;simp only [GR] at l3 c3;subst l3;subst c3;obtain ⟨xs,hrun,hsz,hvs⟩:=aio (P:=P) (w:=w) (η:=η) (kd:=kn) (kd':=kn') hi h0 b1 b2 b3 b4;have hzero:∀us,ay η z us->ay η (bT xz.cells) us:=by
        intro us hus;cases agg with
        | true=>
          simp only [if_true] at hzn;obtain ⟨l',gs,e4,_,e5,_,e6⟩:=EZ hzn (by simp only [VR];exact ⟨us,rfl,hus⟩:VR η (.agg z) (.agg ⟨us⟩));rw [e1] at e5;cases e5;simp only [GR] at e6;obtain ⟨us',e7,e8⟩:=e6;cases e7;exact (mG _ _).1 e8
        | false=>
          simp only [fM,if_false] at hzn;cases hz':z with
          | nil=>rw [hz'] at hzn;simp at hzn
          | cons a zr=>
            rw [hz'] at hzn hus hzl;simp only [Xg,yV] at hzn;simp only [ay] at hus;obtain ⟨u,ur,rfl,hu1,hu2⟩:=hus;obtain ⟨gz,k1,k2,k3⟩:=jJ hzn hu1;rw [e1] at k1;cases k1;rw [GV.Eh k2];have:size=1:=by
             unfold GV.fQ at b5;rw [aG,GV.Eh k2] at b5;exact (bn b5.1).symm
            rw [this] at hzl;have mY:zr=[]:=by apply jD;simpa using hzl
            subst mY;simp only [ay] at hu2;subst hu2;simp only [bT];exact ay.cons ((jC _ _).1 k3) (by simp [ay])
       have hall:∀x∈List.replicate n.toNat xz,x.cells.length=size/\x.cells.all GV.scalar=true:=by
        intro x hx;rw [(Xl.1 hx).2];unfold GV.fQ at b5;rw [aG] at b5;exact ⟨Nat.eq_of_beq_eq_true b5.1,b5.2⟩
       have hlm:n.toNat<=m'.toNat:=by omega
       have hpre:ay η (ig n.toNat z) (xs.toList.take (ig n.toNat z).length):=by
        rw [O5,hzl];have:=hvs.take (n.toNat * size);rw [<- hzl,ak0 z _ _ hlm,hzl] at this;exact this
       have hal:=zi h (c:=ig n.toNat z) (xs:=xs) (elem:=_) (es:=size) (opn:=true) hpre (by rw [O5,hzl,hsz];exact rC _ hlm) (by simp) (λ_=>⟨he,Nat.pos_of_ne_zero h0,hn⟩);have hcap:(m'.toNat * size) / size=m'.toNat:=Xv _ (Nat.pos_of_ne_zero h0);obtain ⟨q1,q2⟩:=St.vg (f:=false) (size:=size) (y:=.slice (some ⟨w.heap.size,0,none⟩) n.toNat m'.toNat) hal g1 hall hn (λvs hvs=>by
        have hz2:∀us,ay (η.put σ.next ⟨w.heap.size,0,xs.size,size⟩) z us->ay (η.put σ.next ⟨w.heap.size,0,xs.size,size⟩) (bT xz.cells) us:=by
         intro us hus;cases agg with
         | true=>
           simp only [if_true] at hzn;obtain ⟨l',gs,e4,_,e5,_,e6⟩:=EZ hzn (by simp only [VR];exact ⟨us,rfl,hus⟩:VR (η.put σ.next ⟨w.heap.size,0,xs.size,size⟩) (.agg z) (.agg ⟨us⟩));rw [e1] at e5;cases e5;simp only [GR] at e6;obtain ⟨us',e7,e8⟩:=e6;cases e7;exact (mG _ _).1 e8
         | false=>
           simp only [fM,if_false] at hzn;cases hz':z with
           | nil=>rw [hz'] at hzn;simp at hzn
           | cons a zr=>
             rw [hz'] at hzn hus hzl;simp only [Xg,yV] at hzn;simp only [ay] at hus;obtain ⟨u,ur,rfl,hu1,hu2⟩:=hus;obtain ⟨gz,k1,k2,k3⟩:=jJ hzn hu1;rw [e1] at k1;cases k1;rw [GV.Eh k2];have:size=1:=by
              unfold GV.fQ at b5;rw [aG,GV.Eh k2] at b5;exact (bn b5.1).symm
             rw [this] at hzl;have mY:zr=[]:=by apply jD;simpa using hzl
             subst mY;simp only [ay] at hu2;subst hu2;simp only [bT];exact ay.cons ((jC _ _).1 k3) (by simp [ay])
        exact ace hz2 _ _ hvs) (by
         simp only [VR];exact ⟨⟨w.heap.size,0,xs.size,size⟩,by simp [Env.put],by simp [hsz,hcap,hlm],by simp [hsz,hcap]⟩) (by simp)
       exact ⟨_,_,_,hrun,q1,q2⟩
      ·cases g2
     ·cases g2
    ·cases hs
  ·cases hs
 ·cases hs
theorem Ja:∀ {xs:List GV} {b:List UInt8},nP xs=some b->bytesOf (bT xs)=some b
 | [],b,h=>by simpa [nP,bT,bytesOf] using h
 | x::xs,b,h=>by
   unfold nP at h;split at h
   ·rename_i heq;cases heq
   ·next n rest heq=>
    cases heq;simp only [bT,jo,bytesOf];split at h
    ·next hc=>
     rw [ak hc];obtain ⟨b',hb',rfl⟩:=aX.1 h;rw [Ja hb'];rfl
    ·cases h
   ·cases h
theorem Md:∀ {xs:List GV} {b:List UInt8},nP xs=some b->xs.flatMap GV.cells=xs
 | [],b,h=>rfl
 | x::xs,b,h=>by
   unfold nP at h;split at h
   ·rename_i heq;cases heq
   ·next n rest heq=>
    cases heq;split at h
    ·obtain ⟨b',hb',_⟩:=aX.1 h
     rw [iK,Md hb'];rfl
    ·cases h
   ·cases h
theorem anP (h:SR P η σ w) {src dst:TypeId} {a v:AV} {x:Value} (hs:Pz P src dst a σ=some (v,σ')) (hx:VR η a x) :
 ∃y w' η',(convert src dst x).run P w=.ok y w'/\St P η σ w η' σ' w'/\VR η' v y:=by
 unfold Pz at hs;split at hs
 ·next d k n h1 h2=>
  obtain ⟨v',hm,e1⟩:=aX.1 hs;cases e1;simp only [VR] at hx;obtain ⟨g,a1,a2,a3⟩:=hx;obtain ⟨_,g',_,b2,b3⟩:=jQ (η:=η) hm;simp only [Nd.den,a1] at b2;split at b2
  ·next kk z e1=>
   cases e1;cases b2;simp only [GR] at a3;subst a3;obtain ⟨y,w',η',r1,r2,r3⟩:=Jh h (src:=src) (dst:=dst) (a:=.i kk z) (v:=.i k (k.wrap z)) (σ':=σ) (by simp only [vN,h1,h2]) (by simp only [VR]:VR η (.i kk z) (.int kk z));exact ⟨y,w',η',r1,r2,by obtain ⟨_,g2,_,c2,c3⟩:=jQ (η:=η') hm;simp only [Nd.den,a1,aT] at c2;subst c2;exact c3 y rfl ((jC _ _).2 r3)⟩
  ·cases b2
 ·next n h1 h2=>
  obtain ⟨v',hm,e1⟩:=aX.1 hs;cases e1;simp only [VR] at hx;obtain ⟨g,a1,a2,a3⟩:=hx;obtain ⟨_,g',_,b2,b3⟩:=jQ (η:=η) hm;simp only [Nd.den,a1] at b2;split at b2
  ·next z e1=>
   cases e1;cases b2;simp only [GR] at a3;subst a3;obtain ⟨y,w',η',r1,r2,r3⟩:=Jh h (src:=src) (dst:=dst) (a:=.s z) (v:=.s z) (σ':=σ) (by simp only [vN,h1,h2]) (by simp only [VR]:VR η (.s z) (.string ⟨⟨z⟩⟩));exact ⟨y,w',η',r1,r2,by obtain ⟨_,g2,_,c2,c3⟩:=jQ (η:=η') hm;simp only [Nd.den,a1,aT] at c2;subst c2;exact c3 y rfl ((jC _ _).2 r3)⟩
  ·cases b2
 ·next e n h1 h2=>
  split at hs
  ·next h3=>
   split at hs
   ·next hc=>
    split at hs
    ·next m hm=>
     cases hs;simp only [VR] at hx;obtain ⟨g,a1,a2,a3⟩:=hx;obtain ⟨g',b1,b2⟩:=dZ hm;simp only [Nd.den,a1] at b2;split at b2
     ·next z e1=>
      cases e1;cases b2;simp only [GR] at a3;subst a3;obtain ⟨y,w',η',r1,r2,r3⟩:=Jh h (src:=src) (dst:=dst) (a:=.s z) (v:=.sl σ.next 0 z.length none) (σ':=σ.new (.cells (sZ z) e true true)) (by simp only [vN,h1,h2,h3,ak hc]) (by simp only [VR]:VR η (.s z) (.string ⟨⟨z⟩⟩));obtain ⟨q1,q2⟩:=St.vg (f:=false) (size:=1) r2 b1 (by
       intro x hx;obtain ⟨c,_,rfl⟩:=oC.1 hx;exact ⟨rfl,rfl⟩) hc.2 (λvs hvs=>by rw [X9];exact hvs) (by simpa [dU] using r3) (by simp)
      exact ⟨y,w',η',r1,q1,q2⟩
     ·cases b2
    ·cases hs
   ·cases hs
  ·cases hs
 ·next e h1 h2=>
  split at hs
  ·next h3=>
   split at hs
   ·next m hl=>
    obtain ⟨v',hm,e1⟩:=aX.1 hs;cases e1;obtain ⟨_,g',_,b2,b3⟩:=jQ (η:=η) hm;simp only [Nd.den] at b2;split at b2
    ·next xs hv=>
     split at b2
     ·next h48=>
      obtain ⟨b,hb,rfl⟩:=aX.1 b2;have fin:∀ {τ:aj} {A:AV},SR P η τ w->VR η A x->vN P src dst A τ=some (.s b,τ)->(∀ {η':Env} {w':World},St P η τ w η' τ w'->St P η σ w η' σ w')->∃y w' η',(convert src dst x).run P w=.ok y w'/\St P η σ w η' σ w'/\VR η' v y:=by
       intro τ A hS hA hA2 hst;obtain ⟨y,w',η',r1,r2,r3⟩:=Jh hS hA2 hA;refine ⟨y,w',η',r1,hst r2, ?_⟩;obtain ⟨_,g2,_,c2,c3⟩:=jQ (η:=η') hm;simp only [Nd.den,hv,ak h48,hb,fV,aT] at c2;subst c2;exact c3 y rfl ((jC _ _).2 r3)
      have hnil:nP xs=some b->xs=[]->b=[]:=by rintro h1 rfl;simpa [nP] using h1.symm
      unfold listOf at hl;split at hl
      ·next n=>
       cases hl;simp only [VR] at hx;obtain ⟨g,a1,a2,a3⟩:=hx;rw [hv] at a1;cases a1;exact fin h ((jC (.l xs) x).1 a3) (by simp only [jo,vN,h1,h2,h3,Ja hb,fV]) (λh=>h)
      ·obtain ⟨g,g1,g2⟩:=dZ hl
       rw [hv] at g1;cases g1;simp only [Nd.den,valsOf,fV,aT,GV.l.injEq] at g2;have:=hnil hb g2.symm;subst this;exact fin h hx (by simp only [vN,h1,h2,h3]) (λh=>h)
      ·next id n=>
       split at hl
       ·next m' et _ hg=>
        split at hl
        ·next hc=>
         cases hl;rw [aG] at hc;simp only [VR] at hx;obtain ⟨ys,k1,hx⟩:=hx;have hlen:=vY 100 hc.2 hv k1;rcases hx with ⟨q,hq,hle,rfl⟩ | ⟨_,rfl,rfl⟩
         ·obtain ⟨xs',j1,j2,j3,j4,j5,j6,j7,hS⟩:=Ii h hg hq
          rw [hv] at j1;cases j1;have hcg:bC xs=bT xs:=by unfold bC;rw [Md hb]
          have htk:takeN (bC xs) 0 xs.length=some (bT xs):=by
           rw [hcg];unfold takeN;rw [fH,mP (by rw [jI];omega),ak (jI xs)]
          rw [hlen] at htk;refine fin (A:=.sl id 0 ys.length none) hS (by simp only [VR];exact ⟨q,hq,by simpa using hle,by simp⟩) ?_ (λhst=>aon (λe=>by subst e;exact (h.at hg hq).Qc) hg hq hv j2 j7 (KI hg hst));simp only [vN,h1,h2,h3,zZ,htk,Ja hb,fV]
         ·have hxs:xs=[]:=jD (by simpa using hlen)
          have:=hnil hb hxs;subst this;exact fin h (A:=.dA) (by simp only [VR]) (by simp only [vN,h1,h2,h3]) (λh=>h)
        ·cases hl
       ·cases hl
      ·next id off len cap=>
       split at hl
       ·next c et qV opn size agg hg hsz hag=>
        split at hl
        ·next hc=>
         rw [aG,kR,aG] at hc;split at hl
         ·next cs hcs=>
          split at hl
          ·next ns hns=>
           have hagg:agg=false->size=1:=by
            intro e;subst e;rcases hc.2 with h1 | h1
            ·simp at h1
            ·exact bn h1
           obtain ⟨g,g1,g2⟩:=dZ hl;rw [hv] at g1;cases g1;simp only [VR] at hx;obtain ⟨q,hq,hle,rfl⟩:=hx;obtain ⟨q',hq',ws,elem,fr,hblk,rr⟩:=h.obj _ _ hg rfl;rw [hq] at hq';cases hq';have hlc:=(pK hcs).2.1;obtain ⟨gs,k1,k2,k3,_,k5⟩:=AX (η:=η) hagg len hns (rr.wz hcs) hlc;simp only [Nd.den,k1,fV,aT,GV.l.injEq] at g2;rw [g2] at k2 k3 k5;have hl1:len * size=len:=by
            cases len with
            | zero=>simp
            | succ n=>
              have hx0:xs[0]? = some (xs[0]'(by omega)):=bK (by omega);have h5:=(k5 _ (qF hx0)).1;have h6:(xs[0]'(by omega)).cells.length=1:=by
               cases xs with
               | nil=>simp at k2
               | cons y ys=>
                 cases y with
                 | i k n=>rfl
                 | b=>simp [nP] at hb
                 | s=>simp [nP] at hb
                 | l=>simp [nP] at hb
                 | g=>simp [nP] at hb
              rw [h6] at h5;rw [<- h5];simp
           have hcg:bC xs=bT xs:=by unfold bC;rw [Md hb]
           rw [hcg] at k3;have hxs:=Jb (Ja hb) k3;rw [hl1] at hcs hxs;refine ⟨.string ⟨⟨b⟩⟩,w,η, ?_,St.refl h, ?_⟩
           ·simp only [convert,aS,aU h1,aU h2,aQ,aU h3,Conv.bytesToString]
            rw [zQ hblk (rr.take hcs),hxs];simp only [aQ];rw [VF _ (λ_ _ _=>rfl)];rfl
           ·obtain ⟨_,g2,_,c2,c3⟩:=jQ (η:=η) hm
            simp only [Nd.den,hv,ak h48,hb,fV,aT] at c2;subst c2;exact c3 _ rfl (by simp only [GR])
          ·cases hl
         ·cases hl
        ·cases hl
       ·cases hl
      ·cases hl
     ·cases b2
    ·cases b2
   ·cases hs
  ·cases hs
 ·cases hs
end
end Go.aJ
namespace Go.aJ
set_option linter.unusedSimpArgs false
noncomputable section
variable [aC]
set_option linter.unusedSectionVars false
set_option linter.unusedVariables false
variable {P:Program} {η:Env} {σ σ':aj} {w:World}
def BI (ro:Nat->Option Obj) (w:World) (b:Nat):Nat->Option Obj:=λk=>if k=b then w.heap[b]? else ro k
theorem O6 {ro:Nat->Option Obj} {w:World} (h:∀b o,ro b=some o->w.heap[b]? = some o) (b:Nat):∀k o,ro k=some o->BI ro w b k=some o:=by
 intro k o hk;unfold BI;split
 ·next e=>subst e;exact h _ _ hk
 ·exact hk
theorem St.freeze (h:SR P η σ w) {id:Nat} {o:aZ} {q:Place} (hg:σ.get id=some o) (ho:o.own=true) (hl:σ.lock<=id) (hq:η id=some q):St P η σ w ⟨η.pl,BI η.ro w q.bl,η.gh⟩ (σ.kill id) w:=by
 have hle:(η:Env).le ⟨η.pl,BI η.ro w q.bl,η.gh⟩:=⟨λ_ _ h=>h,O6 h.gV q.bl,λ_ h=>h⟩
 have sub:∀k u,(σ.kill id).get k=some u->k≠id/\σ.get k=some u:=by
  intro k u hk;rw [aj.vT] at hk;split at hk
  ·cases hk
  ·next e=>exact ⟨e,hk⟩
 refine ⟨hle,⟨h.ku,h.dom,λk u hk=>?_,h.iI,λk u k' u' p p' a1 a2 a3 a4 a5 a6=>?_,λb u hb=>?_,λk u p a1 a2 a3=>?_,λp hp=>(h.tabs p hp).mono hle⟩,cZ _,λ_ _ _=>rfl,λk u p a1 a2 a3 a4=>?_,rfl,rfl,rfl,rfl,cZ _,λ_ h=>.inl h,λb hb=>?_⟩
 ·exact (h.live k u (sub k u hk).2).mono hle
 ·exact h.sep k u k' u' p p' (sub k u a1).2 a2 (sub k' u' a3).2 a4 a5 a6
 ·have hb':(if b=q.bl then w.heap[q.bl]? else η.ro b)=some u:=hb
  split at hb'
  ·next e=>rw [e];exact hb'
  ·exact h.gV b u hb'
 ·obtain ⟨e1,e2⟩:=sub k u a1
  show (if p.bl=q.bl then w.heap[q.bl]? else η.ro p.bl)=none
  have hne:=h.sep k u id o p q e2 a2 hg e1 a3 hq;rw [ah hne];exact h.jy k u p e2 a2 a3
 ·exact .inr ⟨k,u,p,(sub k u a1).2,a2,a3,a4,rfl⟩
 ·have hb':(if b=q.bl then w.heap[q.bl]? else η.ro b)≠none:=hb
  split at hb'
  ·next e=>exact .inr (.inr ⟨id,o,q,hg,ho,hl,hq,e.symm⟩)
  ·exact .inl hb'
theorem GR.Ut {η:Env} {w:World} {q:Place} {c:List AV} {et:TypeId} {qV opn:Bool} {ro':Nat->Option Obj} (h:OR P η q w (.cells c et qV opn)) (hro:∀b o,η.ro b=some o->ro' b=some o) (hq:ro' q.bl=w.heap[q.bl]?) {off n size cap:Nat} {cs:List AV} {gs:List GV} (ht:takeN c off (n * size)=some cs) (hn:gs.length=n) (hcap:n<=cap) (h0:0 < size)
 (hs:∀x∈gs,x.cells.length=size/\x.cells.all GV.scalar=true) (hc:∀ (η':Env) vs,(∀b o,η.ro b=some o->η'.ro b=some o)->ay η cs vs->ay η' (bC gs) vs):GR ro' (.l gs) (.slice (some ⟨q.bl,q.ba+off,none⟩) n cap):=by
 obtain ⟨ws,elem,fr,hb,r⟩:=h;have h1:=r.wz ht;have hfit:=r.take ht;obtain ⟨e1,e2,e3⟩:=pK ht;have h2:=hc ⟨η.pl,ro',η.gh⟩ _ hro h1;obtain ⟨ys,y1,y2,y3⟩:=ungroup gs _ h2 (λx hx=>(hs x hx).2);simp only [GR];right;refine ⟨q.bl,q.ba+off,cap,ys,size,by rw [hn],by rw [hn];exact hcap,y1,λy hy=>?_,λhne=>⟨ws,elem,fr,by rw [hq,hb], ?_, ?_⟩⟩
 ·obtain ⟨k,hk⟩:=EL hy
  have hkl:k < gs.length:=by rw [y1.length];exact (dL.1 hk).1
  rw [y3 k _ y (bK hkl) hk];exact (hs _ (jE hkl)).1
 ·rw [y2]
  have hnp:0 < gs.length:=KY.2 hne;have hp:0 < n * size:=IG (by omega) h0;rw [nK,dY,ED];omega
 ·rw [y2]
  intro k x hk;rw [jO] at hk;split at hk
  ·rw [pX,sG] at hk;exact hk
  ·cases hk
theorem VR.ZW (h:SR P η σ w) {id n m et:Nat} {f:Bool} {x:Value} {ro':Nat->Option Obj} (hg:σ.get id=some (.vec m et f)) (hs:rY 100 m n=true) (hx:VR η (.sv id n) x) (hro:∀b o,η.ro b=some o->ro' b=some o) (hq:∀q,η id=some q->ro' q.bl=w.heap[q.bl]?) :
 ∃ys,aC.val m=some (.l ys)/\GR ro' (.l ys) x:=by
 simp only [VR] at hx;obtain ⟨ys,k1,hx⟩:=hx;rcases hx with ⟨q,hq1,hle,rfl⟩ | ⟨hgh,rfl,rfl⟩
 ·obtain ⟨xs,x1,x2,x3,x4,x5,x6,x7,x8⟩:=(h.at hg hq1).Gs
  have hlen:=vY 100 hs x1 k1;refine ⟨xs,x1, ?_⟩;have hcl:=Df x2;have:=GR.Ut (ro':=ro') (off:=0) (n:=ys.length) (size:=q.es) (cap:=q.sz / q.es) (cs:=bC xs) (gs:=xs) x8 hro (hq q hq1) (by
   unfold takeN;rw [fH,<- hlen,mP (by omega),ak hcl]) hlen hle x4 (λx hx=>⟨x2 x hx,x7 x hx⟩) (λη' vs hro hvs=>by
    unfold bC at hvs ⊢;exact (mG _ _).1 (aK.mono hro _ _ ((mG _ _).2 hvs)))
  simpa using this
 ·rcases h.live id _ hg with ⟨q,hq1,_⟩ | ⟨_,n2,RF,f2,e2,hv0⟩
  ·rw [(h.iI id hgh).1] at hq1;cases hq1
  ·cases e2
   exact ⟨[],hv0,by simp [GR]⟩
theorem Xx {η':Env} (hle:η.le η') {o:Option AV} {v:Option Value} (h:jk η o v):jk η' o v:=by
 cases o<;>cases v<;>first | exact h | exact VR.mono hle _ _ h
theorem St.akc (h:SR P η σ w) {id m et k:Nat} {f:Bool} (hg:σ.get id=some (.vec m et f)) (hgh:η.gh id=true) (hv:aC.val k=some (.l [])):St P η σ w η (σ.put id (.vec k et f)) w:=by
 have get:∀i u,(σ.put id (.vec k et f)).get i=some u->(i=id/\u=.vec k et f)\/(i≠id/\σ.get i=some u):=by
  intro i u hi;rw [aj.get_put] at hi;split at hi
  ·next e=>cases hi;exact .inl ⟨e,rfl⟩
  ·next e=>exact .inr ⟨e,hi⟩
 have hno:∀q,η id≠some q:=λq hq=>by rw [(h.iI id hgh).1] at hq;cases hq
 refine ⟨Env.le.refl _,⟨h.ku,h.dom,λi u hi=>?_,h.iI,λi u i' u' q q' a1 a2 a3 a4 a5 a6=>?_,h.gV,λi u q a1 a2 a3=>?_,h.tabs⟩,cZ _,λ_ _ _=>rfl,λi u q a1 a2 a3 a4=>?_,rfl,rfl,rfl,rfl,cZ _,λ_ h=>.inl h,λ_ h=>.inl h⟩
 ·rcases get i u hi with ⟨rfl,rfl⟩ | ⟨_,h1⟩
  ·exact .inr ⟨hgh,k,et,f,rfl,hv⟩
  ·exact h.live i u h1
 ·rcases get i u a1 with ⟨rfl,_⟩ | ⟨_,h1⟩
  ·exact absurd a5 (hno q)
  ·rcases get i' u' a3 with ⟨rfl,_⟩ | ⟨_,h2⟩
   ·exact absurd a6 (hno q')
   ·exact h.sep i u i' u' q q' h1 a2 h2 a4 a5 a6
 ·rcases get i u a1 with ⟨rfl,_⟩ | ⟨_,h1⟩
  ·exact absurd a3 (hno q)
  ·exact h.jy i u q h1 a2 a3
 ·rcases get i u a1 with ⟨rfl,_⟩ | ⟨_,h1⟩
  ·exact absurd a4 (hno q)
  ·exact .inr ⟨i,u,q,h1,a2,a3,a4,rfl⟩
theorem anX (h:SR P η σ w) {t:TypeId} {a v:AV} {x:Value} {lo hi:Option AV} {lo' hi':Option Value} (hs:PU P t σ a lo hi=some (v,σ')) (hx:VR η a x) (hlo:jk η lo lo') (hhi:jk η hi hi') :
 ∃y w' η',(Instr.sliceAt t x lo' hi' none).run P w=.ok y w'/\St P η σ w η' σ' w'/\VR η' v y:=by
 unfold PU at hs;split at hs;rotate_left
 ·cases hs
 next e id n hu=>
 split at hs;rotate_left
 ·cases hs
 next m et f size hg hsz=>
 split at hs;rotate_left
 ·cases hs
 next hc=>
 simp only [aG] at hc;obtain ⟨⟨c1,c2⟩,c3⟩:=hc;have e1:=bn c1;subst e1;have hlk:=nM c3;cases lo with
 | some l0=>
   simp only at hs;obtain ⟨r,hr,e2⟩:=aX.1 hs;cases e2;have key:∀η1:Env,SR P η1 (σ.kill id) w->St P η σ w η1 (σ.kill id) w->VR η1 (.nd m) x->∃y w' η',(Instr.sliceAt t x lo' hi' none).run P w=.ok y w'/\St P η σ w η' (σ.kill id) w'/\VR η' v y:=by
    intro η1 h1 hst hv;obtain ⟨y,k1,k2⟩:=acP h1 hr hv (Xx hst.ext hlo) (Xx hst.ext hhi);exact ⟨y,w,η1,k1,hst,k2⟩
   have hx0:=hx;simp only [VR] at hx0;obtain ⟨ys,k1,hx0⟩:=hx0;rcases hx0 with ⟨q,hq1,hle,_⟩ | ⟨hgh,_,_⟩
   ·have hst:=St.freeze h hg rfl hlk hq1
    obtain ⟨zs,z1,z2⟩:=VR.ZW (ro':=BI η.ro w q.bl) h hg c2 hx (O6 h.gV q.bl) (λq' hq'=>by rw [hq1] at hq';cases hq';unfold BI;rw [ak rfl]);exact key _ hst.rel hst (by simp only [VR];exact ⟨_,z1,rfl,z2⟩)
   ·obtain ⟨zs,z1,z2⟩:=VR.ZW (ro':=η.ro) h hg c2 hx (λ_ _ h=>h) (λq' hq'=>by rw [(h.iI id hgh).1] at hq';cases hq')
    have hst:=(St.refl h).Oc id;exact key η hst.rel hst (by simp only [VR];exact ⟨_,z1,rfl,z2⟩)
 | none=>
   simp only at hs;split at hs;rotate_left
   ·cases hs
   next z hh h1 h2=>
   obtain ⟨k,hk,e2⟩:=aX.1 hs;cases e2;obtain ⟨g,g1,g2⟩:=dZ hk;simp only [Nd.den] at g2;split at g2;rotate_left
   ·cases g2
   next xs kl li kh hi2 e3 e4 e5=>
   split at g2;rotate_left
   ·cases g2
   next hc=>
   cases g2;obtain ⟨b1,b2,b3,b4⟩:=hc;have hz:li=0:=by
    obtain ⟨gz,z1,z2⟩:=dZ h1;simp only [Nd.den,aT] at z2;subst z2;rw [e4] at z1;cases z1;rfl
   subst hz;have hlt:I7 (none:Option AV)=some z:=h1;obtain ⟨lo2,hi3,d1,d2,d3⟩:=V6 (len:=xs.length) hlt h2 hlo hhi e4 e5 (λhd=>by simp only [Nd.den,e3,aT,GV.i.injEq] at hd;exact hd.2.symm) b1 b2 b3;have hlo2:(0:Int).toNat=0:=rfl;simp only [VR] at hx;obtain ⟨ys,y1,hx⟩:=hx;have hlen:=vY 100 c2 e3 y1;have hks:(xs.take hi2.toNat).drop (0:Int).toNat=xs.take hi2.toNat:=by simp
   rw [hks] at g1;have JB:hi2.toNat<=xs.length:=by omega
   rcases hx with ⟨q,hq1,hle,rfl⟩ | ⟨hgh,rfl,rfl⟩
   ·have hor:=h.at hg hq1
    obtain ⟨xs',cs,elem,fr,zs,o1,o2,o3,o4,o5,o6,o7,o8,o9⟩:=hor;rw [e3] at o1;cases o1
    have hB:=AB (P:=P) (w:=w) (sl:=true) (cap:=q.sz / q.es) d3 (λk hk=>by have:k<=xs.length:=by simpa using hk
                                                                          omega) (by omega) d1 d2
    have hes:0 < q.es/\sizeT P e=some q.es:=⟨(o7.room rfl).2.1,(o7.room rfl).2.2⟩
    have hne:size=q.es:=by have:=hes.2;rw [hsz] at this;cases this;rfl
    have hnew:OR P η q w (.vec k e f):=by
     have hz1:=o3.length;refine ⟨xs.take hi2.toNat,cs,elem,fr,zs.take hi2.toNat,g1,o2, ?_,λy hy=>o4 y (EN hy), ?_, ?_,o7,λx hx=>o8 x (EN hx),o9⟩
     ·have:∀ (xs:List GV) (zs:List Value) (n:Nat),aK η.ro xs zs->aK η.ro (xs.take n) (zs.take n):=by
       intro xs;induction xs with
       | nil=>intro zs n hg;simp only [aK] at hg;subst hg;simp [aK]
       | cons a l ih=>
         intro zs n hg;simp only [aK] at hg;obtain ⟨x,us,rfl,a1,a2⟩:=hg;cases n with
         | zero=>simp [aK]
         | succ n=>simp only [wI,aK];exact ⟨x,us.take n,rfl,a1,ih us n a2⟩
      exact this _ _ _ o3
     ·intro j x hj
      refine o5 j x ?_;have hpre:(bU (zs.take hi2.toNat)) <+: bU zs:=by
       unfold bU;rw [show zs=zs.take hi2.toNat++zs.drop hi2.toNat from (BZ _ _).symm];rw [Xe];simp only [BZ];exact List.prefix_append _ _
      obtain ⟨r,hr⟩:=hpre;rw [<- hr,kT (dL.1 hj).1];exact hj
     ·rw [nK]
      refine jF (rC _ (Nat.min_le_right _ _)) o6
    have hst:=St.write h hg rfl hlk hq1 (w':=w) (o':=.vec k e f) rfl (λ_ _=>rfl) rfl rfl rfl hnew;refine ⟨.slice (some ⟨q.bl,q.ba,none⟩) hi2.toNat (q.sz / q.es),w,η, ?_,hst, ?_⟩
    ·rw [hlen] at hB
     simp only [Instr.sliceAt,Instr.slice,aU hu,aS,aQ,hB.1,gQ hsz,bf];by_cases e0:q.sz / q.es=0
     ·simp [e0]
     ·have e1:¬ q.sz / q.es=(0:Int).toNat:=e0
      rw [ah e1];simp [oD]
    ·simp only [VR]
     refine ⟨xs.take hi2.toNat,g1,.inl ⟨q,hq1, ?_, ?_⟩⟩
     ·rw [nK];omega
     ·rw [nK,IE JB]
   ·have hxs:xs=[]:=jD (by simpa using hlen)
    subst hxs;have hh0:hi2.toNat=0:=by simpa using JB
    have hl:xU P t σ .dA lo2 hi3=some .dA:=by
     simp only [xU,hu,hsz];simp only [sJ] at d3;rw [d3];rfl
    obtain ⟨y,u1,u2⟩:=Pg h hl (show VR η .dA (.slice none 0 0) by simp only [VR]) d1 d2;simp only [VR] at u2;subst u2;have hvk:aC.val k=some (.l []):=by rw [g1];simp
    refine ⟨_,w,η,u1,St.akc h hg hgh hvk, ?_⟩;simp only [VR];exact ⟨[],hvk,.inr ⟨hgh,by trivial,by trivial⟩⟩
end
end Go.aJ
namespace Go.aJ
set_option linter.unusedSimpArgs false
noncomputable section
variable [aC]
set_option linter.unusedSectionVars false
set_option linter.unusedVariables false
variable {P:Program} {η:Env} {σ σ':aj} {w:World}
def qP (kk:Option IntKind):TypeDesc:=match kk with
 | some k=>.int k
 | none=>.string
theorem Ob {kt:TypeId} {k:AV} {n:Nat} {kk:Option IntKind} {y:Value} (h:JF P kt k=some (n,kk)) (hy:VR η k y) :
 P.underlying kt=some (qP kk)/\∃g,aC.val n=some g/\xg kk g/\GR η.ro g y:=by
 unfold JF at h;split at h
 ·next zC m hu hn=>
  split at h
  ·next z hz=>
   obtain ⟨j,hj,e⟩:=aX.1 h;cases e;obtain ⟨g,h1,_,h3⟩:=jJ hn hy;obtain ⟨z',h4,h5⟩:=dZ hz;simp only [Nd.den,aT] at h5;subst h5;obtain ⟨r,_,h7⟩:=dZ hj;simp only [Nd.den,h1,h4] at h7;refine ⟨hu,g,h1, ?_,h3⟩;cases g<;>simp only [fE,eH,reduceCtorEq] at h7
   split at h7
   ·next e=>subst e;exact ⟨_,rfl⟩
   ·cases h7
  ·cases h
 ·next m hu hn=>
  split at h
  ·next z hz=>
   obtain ⟨j,hj,e⟩:=aX.1 h;cases e;obtain ⟨g,h1,_,h3⟩:=jJ hn hy;obtain ⟨z',h4,h5⟩:=dZ hz;simp only [Nd.den,aT] at h5;subst h5;obtain ⟨r,_,h7⟩:=dZ hj;simp only [Nd.den,h1,h4] at h7;refine ⟨hu,g,h1, ?_,h3⟩;cases g<;>simp only [fE,uo,reduceCtorEq] at h7
   exact ⟨_,rfl⟩
  ·cases h
 ·cases h
theorem aco {k:IntKind} {a b:Int}:Instr.sameNow (.int k) (.int k a) (.int k b)=some (a==b):=by simp [Instr.sameNow]
theorem acr {a b:List UInt8}:Instr.sameNow .string (.string ⟨⟨a⟩⟩) (.string ⟨⟨b⟩⟩)=some (a==b):=by simp [Instr.sameNow,CQ]
theorem aay {kk:Option IntKind} {n:Nat} {e:AV} {g:GV} {x y:Value} {b:Bool} (h:TD n e=some b) (hg:aC.val n=some g) (hk:xg kk g) (hy:GR η.ro g y) (hx:VR η e x) :
 Instr.sameNow (qP kk) y x=some b:=by
 unfold TD at h;split at h
 ·next m hm=>
  obtain ⟨g',h1,_,h3⟩:=jJ hm hx;have key:∃r,(Nd.bin .eql n m).den aC.I aC.val=some r/\r=.b b:=by
   split at h
   ·next b' hb=>
    cases h;obtain ⟨j,r,q1,q2,q3⟩:=jQ (η:=η) hb;refine ⟨r,q2, ?_⟩;simp only [Nd.den,hg,h1] at q2;have:∃c,r=.b c:=by
     cases g<;>cases g'<;>simp only [fE,reduceCtorEq] at q2
     ·split at q2
      ·simp only [eH,aT] at q2;exact ⟨_,q2.symm⟩
      ·cases q2
     ·simp only [uo,aT] at q2;exact ⟨_,q2.symm⟩
    obtain ⟨c,rfl⟩:=this;have:=q3 (.bool c) rfl (by simp only [GR]);simp only [VR] at this;cases this;rfl
   ·next j hb=>
    split at h
    ·next b' hd=>
     cases h;obtain ⟨j',r,q1,q2,q3⟩:=jQ (η:=η) hb;refine ⟨r,q2, ?_⟩;simp only [Nd.den,hg,h1] at q2;have:∃c,r=.b c:=by
      cases g<;>cases g'<;>simp only [fE,reduceCtorEq] at q2
      ·split at q2
       ·simp only [eH,aT] at q2;exact ⟨_,q2.symm⟩
       ·cases q2
      ·simp only [uo,aT] at q2;exact ⟨_,q2.symm⟩
     obtain ⟨c,rfl⟩:=this;have h8:=q3 (.bool c) rfl (by simp only [GR]);obtain ⟨v,hv,q4⟩:=Dl hd;cases hv;have:=q4 η _ h8;simp only [VR] at this;cases this;rfl
    ·cases h
   ·cases h
  obtain ⟨r,q2,rfl⟩:=key;simp only [Nd.den,hg,h1] at q2;cases kk with
  | some k=>
    obtain ⟨a,rfl⟩:=hk;simp only [GR] at hy;subst hy;cases g'<;>simp only [fE,reduceCtorEq] at q2
    split at q2
    ·next e=>
     subst e;simp only [eH,aT,GV.b.injEq] at q2;simp only [GR] at h3;subst h3;show Instr.sameNow (.int _) _ _=_
     rw [aco,q2]
    ·cases q2
  | none=>
    obtain ⟨a,rfl⟩:=hk;simp only [GR] at hy;subst hy;cases g'<;>simp only [fE,uo,reduceCtorEq] at q2
    simp only [aT,GV.b.injEq] at q2;simp only [GR] at h3;subst h3;show Instr.sameNow .string _ _=_
    rw [acr,q2]
 ·cases h
theorem Jr {kk:Option IntKind} {n:Nat} {g:GV} {y:Value} (hg:aC.val n=some g) (hk:xg kk g) (hy:GR η.ro g y):∀ {es:List (AV×AV)} {ms:List MapEntry} {i:Nat} {r:Option (Nat×AV)},
 FK n es i=some r->vH η es ms->∃r',Instr.findNow (qP kk) y ms i=some r'/\(match r,r' with | none,none=>True | some (_,v),some (_,z)=>VR η v z | _,_=>False)
 | [],ms,i,r,h,hm=>by
   simp only [FK,aT] at h;subst h;have:ms=[]:=by have:=hm.1;cases ms<;>simp_all
   subst this;exact ⟨none,rfl,trivial⟩
 | e::es,ms,i,r,h,hm=>by
   obtain ⟨m,rest,rfl,h1,h2,h3⟩:=hm.tail;unfold FK at h;split at h
   ·next hs=>
    cases h;have hs:=aay hs hg hk hy h1;exact ⟨some (i,m.val),by simp [Instr.findNow,hs],h2⟩
   ·next hs=>
    have hs:=aay hs hg hk hy h1;obtain ⟨r',hr,hrel⟩:=Jr hg hk hy h h3;exact ⟨r',by simp [Instr.findNow,hs,hr],hrel⟩
   ·cases h
theorem acp {kk:Option IntKind} {g a:GV} {y x:Value} {ro:Nat->Option Obj} (hk:xg kk g) (ha:xg kk a) (hy:GR ro g y) (hx:GR ro a x):Instr.sameNow (qP kk) y x=some (ny g a):=by
 cases kk with
 | some k=>
   obtain ⟨m,rfl⟩:=hk;obtain ⟨n,rfl⟩:=ha;simp only [GR] at hy hx;subst hy;subst hx;show Instr.sameNow (.int _) _ _=_
   rw [aco];simp [ny]
 | none=>
   obtain ⟨m,rfl⟩:=hk;obtain ⟨n,rfl⟩:=ha;simp only [GR] at hy hx;subst hy;subst hx;show Instr.sameNow .string _ _=_
   rw [acr];rfl
theorem Ny {ro:Nat->Option Obj} {kk:Option IntKind} {sz:Option Nat} {g:GV} {y:Value} (hk:xg kk g) (hy:GR ro g y):∀ {xs:List GV} {ms:List MapEntry} {i:Nat},qg ro kk sz xs ms->
 (iD g xs=none/\Instr.findNow (qP kk) y ms i=some none)\/∃u j z,iD g xs=some u/\Instr.findNow (qP kk) y ms i=some (some (j,z))/\i<=j/\(∃m,ms[j - i]? = some m/\Instr.sameNow (qP kk) y m.key=some true)/\Ij sz u/\GR ro u z
 | [],ms,i,h=>by
   simp only [qg] at h;subst h;exact .inl ⟨rfl,rfl⟩
 | x::xs,ms,i,h=>by
   obtain ⟨a,b,m,rest,rfl,rfl,h1,h2,h3,h4,h5⟩:=h;have hs:=acp hk h1 hy h3;cases hb:ny g a with
   | true=>
     rw [hb] at hs;exact .inr ⟨b,i,m.val,by simp [iD,hb],by simp [Instr.findNow,hs],cZ _,⟨m,by simp,hs⟩,h2,h4⟩
   | false=>
     rw [hb] at hs;rcases Ny (i:=i+1) hk hy h5 with ⟨q1,q2⟩ | ⟨u,j,z,q1,q2,q3,⟨m',q4,q5⟩,q6⟩
     ·exact .inl ⟨by simp [iD,hb,q1],by simp [Instr.findNow,hs,q2]⟩
     ·refine .inr ⟨u,j,z,by simp [iD,hb,q1],by simp [Instr.findNow,hs,q2],by omega,⟨m', ?_,q5⟩,q6⟩
      have:j - i=(j - (i+1))+1:=by omega
      rw [this];simpa using q4
theorem ab1 {ro:Nat->Option Obj} {kk:Option IntKind} {sz:Option Nat} {g u:GV} {e:MapEntry} (hk:xg kk g) (hu:Ij sz u) (h1:GR ro g e.key) (h2:GR ro u e.val):∀ {xs:List GV} {ms:List MapEntry},qg ro kk sz xs ms->iD g xs=none->
 qg ro kk sz (jw g u xs) (ms++[e])
 | [],ms,h,_=>by
   simp only [qg] at h;subst h;exact ⟨g,u,e,[],rfl,rfl,hk,hu,h1,h2,rfl⟩
 | x::xs,ms,h,hn=>by
   obtain ⟨a,b,m,rest,rfl,rfl,q1,q2,q3,q4,q5⟩:=h;simp only [iD] at hn;split at hn
   ·cases hn
   ·next hb=>
    simp only [jw,ah hb];exact ⟨a,b,m,rest++[e],rfl,rfl,q1,q2,q3,q4,ab1 hk hu h1 h2 q5 hn⟩
theorem ab2 {ro:Nat->Option Obj} {kk:Option IntKind} {sz:Option Nat} {g u:GV} {y z':Value} (hk:xg kk g) (hu:Ij sz u) (h1:GR ro g y) (h2:GR ro u z'):∀ {xs:List GV} {ms:List MapEntry} {i j:Nat} {z:Value},qg ro kk sz xs ms->Instr.findNow (qP kk) y ms i=some (some (j,z))->
 qg ro kk sz (jw g u xs) (ms.modify (j - i) λe=>{ e with key:=y,val:=z' })
 | [],ms,i,j,z,h,hf=>by
   simp only [qg] at h;subst h;simp [Instr.findNow] at hf
 | x::xs,ms,i,j,z,h,hf=>by
   obtain ⟨a,b,m,rest,rfl,rfl,q1,q2,q3,q4,q5⟩:=h;have hs:=acp hk q1 h1 q3;cases hb:ny g a with
   | true=>
     rw [hb] at hs;simp only [Instr.findNow,hs,aT,jG] at hf;obtain ⟨rfl,rfl⟩:=hf;simp only [jw,hb,if_true,xK];exact ⟨g,u, { m with key:=y,val:=z' },rest,rfl,by simp,hk,hu,h1,h2,q5⟩
   | false=>
     rw [hb] at hs;simp only [Instr.findNow,hs] at hf;have hj:i+1<=j:=by
      rcases Ny (i:=i+1) hk h1 q5 with ⟨_,r2⟩ | ⟨_,j',_,_,r2,r3,_⟩
      ·rw [hf] at r2;cases r2
      ·rw [hf] at r2;cases r2;exact r3
     have ih:=ab2 hk hu h1 h2 q5 hf;have e:j - i=(j - (i+1))+1:=by omega
     rw [e];simp only [jw,hb,fM,if_false,List.modify_succ_cons];exact ⟨a,b,m,_,rfl,rfl,q1,q2,q3,q4,ih⟩
theorem MH {kt:TypeId} {kk:Option IntKind} {g:GV} {y:Value} (hu:P.underlying kt=some (qP kk)) (hk:xg kk g) (hy:GR η.ro g y) (b:Bool):(Instr.checkKey b 10000 kt y).run P w=.ok () w:=by
 have H:∀n:Nat,(Instr.checkKey b (n+1) kt y).run P w=.ok () w:=λn=>by
  cases kk with
  | some k=>
    obtain ⟨m,rfl⟩:=hk;simp only [GR] at hy;subst hy;simp only [Instr.checkKey,aS,aU hu,aQ,qP,bf]
  | none=>
    obtain ⟨m,rfl⟩:=hk;simp only [GR] at hy;subst hy;simp only [Instr.checkKey,aS,aU hu,aQ,qP,bf]
 exact H 9999
theorem adb {et:TypeId} {v:AV} {n:Nat} {sz:Option Nat} {x:Value} (h:KL P et v=some (n,sz)) (hx:VR η v x):∃g,aC.val n=some g/\Ij sz g/\GR η.ro g x/\(match ng P et with
 | some true=>∃k,sizeT P et=some k/\sz=some k
 | some false=>sz=none
 | none=>False):=by
 unfold KL at h;split at h
 ·next ha=>
  split at h
  ·next n' k hn hk=>
   split at h
   ·next he=>
    cases h;obtain ⟨l,gs,rfl,h1,h2,h3,h4⟩:=EZ hn hx;rw [ha];refine ⟨_,h2,⟨gs,rfl, ?_,h3⟩,h4,k,hk,rfl⟩;rw [h1];exact bn he
   ·cases h
  ·cases h
 ·next ha=>
  obtain ⟨n',hn,e⟩:=aX.1 h;cases e;obtain ⟨g,h1,h2,h3⟩:=jJ hn hx;rw [ha];exact ⟨g,h1,h2,h3,rfl⟩
 ·cases h
theorem Oe {a b:Option IntKind} (h:Gi a b=true):a=b:=by
 cases a<;>cases b<;>simp only [Gi] at h
 ·rfl
 ·cases h
 ·cases h
 ·rw [Oa h]
theorem V7 {a b:Option Nat} (h:KE a b=true):a=b:=by
 cases a<;>cases b<;>simp only [KE] at h
 ·rfl
 ·cases h
 ·cases h
 ·rw [bn h]
theorem WH {et:TypeId} {z:AV} (h:KP P et=some z):∃x,(zeroValue et).run P w=.ok x w/\VR η z x:=by
 unfold KP at h;split at h
 ·next i hi=>
  split at h
  ·next x hx=>
   obtain ⟨h3,h4⟩:=Qj (w:=w) (η:=η) hi hx h;exact ⟨x,h3,h4⟩
  ·cases h
 ·cases h
theorem ags:∀ (cs:List GV) (n:Nat),cs.length=n->takeN (bT cs) 0 n=some (bT cs):=by
 intro cs n hn;have hl:(bT cs).length=n:=by rw [jI,hn]
 simp only [takeN,fH];rw [mP (by omega),ak hl]
theorem RS (s:ByteArray):∀ (l:List MapEntry) (i:Nat),(∀m∈l,∃t,m.key=.string t)->
 (∃j m,Instr.findNow .string (.string s) l i=some (some (j,m.val))/\m∈l/\m.key=.string s)\/(Instr.findNow .string (.string s) l i=some none/\∀m∈l,m.key≠.string s)
 | [],i,_=>.inr ⟨rfl,λm hm=>by simp at hm⟩
 | m::l,i,h=>by
   obtain ⟨t,ht⟩:=h m (by simp);have hs:Instr.sameNow .string (.string s) m.key=some (s==t):=by rw [ht];rfl
   have hbb:(s==t)=decide (s=t):=by
    obtain ⟨⟨a⟩⟩:=s;obtain ⟨⟨b⟩⟩:=t;rw [CQ];by_cases c:a=b
    ·subst c;simp
    ·rw [MV (by simpa using c)];simpa using c
   by_cases c:s=t
   ·subst c
    rw [hbb,Rq rfl] at hs;exact .inl ⟨i,m,by simp [Instr.findNow,hs],by simp,ht⟩
   ·rw [hbb,MV c] at hs
    rcases RS s l (i+1) (λm hm=>h m (by simp [hm])) with ⟨j,m',h1,h2,h3⟩ | ⟨h1,h2⟩
    ·exact .inl ⟨j,m',by simp [Instr.findNow,hs,h1],by simp [h2],h3⟩
    ·refine .inr ⟨by simp [Instr.findNow,hs,h1],λm' hm'=>?_⟩
     simp only [dn] at hm';rcases hm' with rfl | hm'
     ·rw [ht];simpa using λe=>c e.symm
     ·exact h2 m' hm'
theorem ZM (s:ByteArray) {l l':List MapEntry} (hp:l.Perm l') (hk:∀m∈l',∃t,m.key=.string t) (hn:(l'.map (·.key)).Nodup) {r:Option (Nat×Value)} (h:Instr.findNow .string (.string s) l' 0=some r) :
 ∃r',Instr.findNow .string (.string s) l 0=some r'/\(match r,r' with | none,none=>True | some (_,v),some (_,z)=>v=z | _,_=>False):=by
 have hk2:∀m∈l,∃t,m.key=.string t:=λm hm=>hk m (hp.mem_iff.1 hm);have inj:∀m∈l',∀m'∈l',m.key=m'.key->m=m':=by
  clear hp hk h hk2;induction l' with
  | nil=>intro m hm;simp at hm
  | cons a l ih=>
    simp only [iy,Xo,oC,not_exists,not_and] at hn;intro m hm m' hm' e;simp only [dn] at hm hm';rcases hm with rfl | hm<;>rcases hm' with rfl | hm'
    ·rfl
    ·exact absurd e.symm (hn.1 m' hm')
    ·exact absurd e (hn.1 m hm)
    ·exact ih hn.2 m hm m' hm' e
 rcases RS s l' 0 hk with ⟨j,m,h1,h2,h3⟩ | ⟨h1,h2⟩<;>rcases RS s l 0 hk2 with ⟨j',m',h4,h5,h6⟩ | ⟨h4,h5⟩
 ·rw [h1] at h;cases h
  refine ⟨_,h4, ?_⟩;have:=inj m h2 m' (hp.mem_iff.1 h5) (by rw [h3,h6]);subst this;rfl
 ·exact absurd h3 (h5 m (hp.mem_iff.2 h2))
 ·exact absurd h6 (h2 m' (hp.mem_iff.1 h5))
 ·rw [h1] at h;cases h
  exact ⟨_,h4,trivial⟩
theorem anV (h:SR P η σ w) {t:TypeId} {m k v:AV} {x y:Value} {ok:Bool} (hs:PN P t m k ok σ=some v) (hx:VR η m x) (hy:VR η k y) :
 ∃z,(Instr.lookup t x y ok).run P w=.ok z w/\VR η v z:=by
 unfold PN at hs;split at hs;rotate_left
 ·cases hs
 next kt et id hu=>
 simp only [VR] at hx;obtain ⟨q,hq,rfl⟩:=hx;split at hs
 ·next n kk es hn hg=>
  obtain ⟨kX,g,g1,g2,g3⟩:=Ob hn hy;obtain ⟨q',hq',ms,clock,hb,hsz,hp⟩:=h.obj _ _ hg rfl;rw [hq] at hq';cases hq';have hmr:vH η es ms.toList:=⟨by simpa using hsz,λk e hk=>by obtain ⟨m,hm,h1,h2⟩:=hp k e hk;exact ⟨m,by simpa using hm,h1,h2⟩⟩
  rw [Oy hu y ok hb];have hck:∀b,(Instr.checkKey b 10000 kt y).run P w=.ok () w:=λb=>MH kX g2 g3 b;split at hs
  ·next j u hf=>
   cases hs;obtain ⟨r',h1,h2⟩:=Jr g1 g2 g3 hf hmr;cases r' with
   | none=>exact h2.elim
   | some p=>
     obtain ⟨j',z⟩:=p;have hfk:(Instr.findKey kt y ms.toList).run P w=.ok (some (j',z)) w:=by simp only [Instr.findKey,aS,aU kX,aQ,h1,bf]
     refine ⟨if ok then .tuple #[z,.bool true] else z, ?_, ?_⟩
     ·simp only [ql,aS,aQ,hck,hfk,bf]
     ·cases ok
      ·simpa using h2
      ·simp only [VR];exact ⟨[z,.bool true],rfl,ay.cons h2 (ay.cons (by simp [VR]) (by simp [ay]))⟩
  ·next hf=>
   obtain ⟨r',h1,h2⟩:=Jr g1 g2 g3 hf hmr;cases r' with
   | some p=>exact h2.elim
   | none=>
     have hfk:(Instr.findKey kt y ms.toList).run P w=.ok none w:=by simp only [Instr.findKey,aS,aU kX,aQ,h1,bf]
     obtain ⟨a,ha,rfl⟩:=aX.1 hs;obtain ⟨z,h3,h4⟩:=WH (w:=w) (η:=η) ha;refine ⟨if ok then .tuple #[z,.bool false] else z, ?_, ?_⟩
     ·simp only [ql,aS,aQ,hck,hfk,h3,bf]
     ·cases ok
      ·simpa using h4
      ·simp only [VR];exact ⟨[z,.bool false],rfl,ay.cons h4 (ay.cons (by simp [VR]) (by simp [ay]))⟩
  ·cases hs
 ·next n kk es hn hg=>
  obtain ⟨kX,g,g1,g2,g3⟩:=Ob hn hy;obtain ⟨q',hq',hnd,ms,clock,ms',hb,hpm,hsz,hp⟩:=h.obj _ _ hg rfl;rw [hq] at hq';cases hq';split at hs;rotate_left
  ·cases hs
  next hkk=>
  have:=Oe hkk;subst this;have hmr:vH η (es.map λe=>(AV.s e.1,e.2)) ms':=⟨by simpa using hsz,λk e hk=>by
   rw [iQ] at hk;obtain ⟨e0,h4,rfl⟩:=aX.1 hk;obtain ⟨m,hm,h1,h2⟩:=hp k e0 h4;exact ⟨m,hm,by simp only [VR];exact h1,h2⟩⟩
  have hkeys:ms'.map (·.key)=es.map λe=>Value.string ⟨⟨e.1⟩⟩:=by
   apply EK;intro k;rw [iQ,iQ];cases he:es[k]? with
   | none=>
     have:ms'[k]? = none:=by rw [List.getElem?_eq_none_iff] at he ⊢;omega
     rw [this];rfl
   | some e=>
     obtain ⟨m,hm,h1,_⟩:=hp k e he;rw [hm];simp [h1]
  have hks:∀m∈ms',∃t,m.key=.string t:=λm hm=>by
   have:m.key∈ms'.map (·.key):=List.mem_map_of_mem hm;rw [hkeys] at this;obtain ⟨e,_,h1⟩:=oC.1 this;exact ⟨_,h1.symm⟩
  have aam:(ms'.map (·.key)).Nodup:=by
   rw [hkeys];have:(es.map λe=>Value.string ⟨⟨e.1⟩⟩)=(es.map (·.1)).map λs=>Value.string ⟨⟨s⟩⟩:=by simp
   rw [this];refine List.Pairwise.map _ (λa b hab hc=>hab ?_) hnd;simpa using hc
  obtain ⟨s,hs1,hs2⟩:∃s,y=.string s/\True:=by
   obtain ⟨s0,rfl⟩:=g2;simp only [GR] at g3;exact ⟨_,g3,trivial⟩
  subst hs1;rw [Oy hu _ ok hb];have hck:∀b,(Instr.checkKey b 10000 kt (.string s)).run P w=.ok () w:=λb=>MH kX g2 g3 b;split at hs
  ·next j u hf=>
   cases hs;obtain ⟨r',h1,h2⟩:=Jr g1 g2 g3 hf hmr;cases r' with
   | none=>exact h2.elim
   | some p=>
     obtain ⟨j',z⟩:=p;obtain ⟨r2,h3,h4⟩:=ZM s hpm hks aam h1;cases r2 with
     | none=>exact h4.elim
     | some p2=>
     obtain ⟨j2,z2⟩:=p2;have h4:z=z2:=h4;subst h4;have hfk:(Instr.findKey kt (.string s) ms.toList).run P w=.ok (some (j2,z)) w:=by simp only [Instr.findKey,aS,aU kX,aQ,qP,h3,bf]
     refine ⟨if ok then .tuple #[z,.bool true] else z, ?_, ?_⟩
     ·simp only [ql,aS,aQ,hck,hfk,bf]
     ·cases ok
      ·simpa using h2
      ·simp only [VR];exact ⟨[z,.bool true],rfl,ay.cons h2 (ay.cons (by simp [VR]) (by simp [ay]))⟩
  ·next hf=>
   obtain ⟨r',h1,h2⟩:=Jr g1 g2 g3 hf hmr;cases r' with
   | some p=>exact h2.elim
   | none=>
     obtain ⟨r2,h3,h4⟩:=ZM s hpm hks aam h1;cases r2 with
     | some p2=>exact h4.elim
     | none=>
     have hfk:(Instr.findKey kt (.string s) ms.toList).run P w=.ok none w:=by simp only [Instr.findKey,aS,aU kX,aQ,qP,h3,bf]
     obtain ⟨a,ha,rfl⟩:=aX.1 hs;obtain ⟨z,h5,h6⟩:=WH (w:=w) (η:=η) ha;refine ⟨if ok then .tuple #[z,.bool false] else z, ?_, ?_⟩
     ·simp only [ql,aS,aQ,hck,hfk,h5,bf]
     ·cases ok
      ·simpa using h6
      ·simp only [VR];exact ⟨[z,.bool false],rfl,ay.cons h6 (ay.cons (by simp [VR]) (by simp [ay]))⟩
  ·cases hs
 ·next n kk j zC sz hn hg=>
  obtain ⟨kX,g,g1,g2,g3⟩:=Ob hn hy;obtain ⟨q',hq',xs,ms,clock,hv,hb,hp⟩:=h.obj _ _ hg rfl;rw [hq] at hq';cases hq';rw [Oy hu y ok hb];have hck:∀b,(Instr.checkKey b 10000 kt y).run P w=.ok () w:=λb=>MH kX g2 g3 b;split at hs;rotate_left
  ·cases hs
  next hkk=>
  have:=Oe hkk;subst this;split at hs;rotate_left
  ·cases hs
  next zn sz' hz=>
  split at hs;rotate_left
  ·cases hs
  next hsz=>
  have:=V7 hsz;subst this;obtain ⟨za,hza,hzn⟩:=uG.1 hz;obtain ⟨zv,z1,z2⟩:=WH (w:=w) (η:=η) hza;obtain ⟨zg,z3,z4,z5,z6⟩:=adb hzn z2;split at hs;rotate_left
  ·cases hs
  next u hu'=>
  obtain ⟨jn,hj,hpart⟩:=uG.1 hu';obtain ⟨rg,r1,r2⟩:=dZ hj;simp only [Nd.den,z3,hv,g1,aT] at r2;have fin:∀ (z:Value) (b:Bool),Ij sz rg->GR η.ro rg z->(iD g xs).isSome=b->ql kt et y ok ms=ql kt et y ok ms->(ql kt et y ok ms).run P w=.ok (if ok then .tuple #[z,.bool b] else z) w->∃z,(ql kt et y ok ms).run P w=.ok z w/\VR η v z:=by
   intro z b hok hgr hb' _ hrun;have hvu:VR η u z:=by
    obtain ⟨r,q1,q2⟩:=V5 (η:=η) r1 hpart;cases hag:ng P et with
    | none=>rw [hag] at z6;exact z6.elim
    | some ag=>
      rw [hag] at z6 q1;cases ag with
      | true=>
        obtain ⟨kn,k1,k2⟩:=z6;subst k2;obtain ⟨cs,rfl,c1,c2⟩:=hok;simp only [k1,GV.cells,ags cs kn c1,fV,aT] at q1;subst q1;apply q2;simp only [GR] at hgr;obtain ⟨vs,rfl,hgs⟩:=hgr;simp only [VR];exact ⟨vs,rfl,(mG _ _).1 hgs⟩
      | false=>
        simp only at z6;subst z6;have hsc:rg.scalar=true:=hok;have hc:rg.cells=[rg]:=by cases rg<;>first | rfl | (simp [GV.scalar] at hsc)
        simp only [hc,Jv,gW,fV,aT] at q1;subst q1;exact q2 _ ((jC _ _).1 hgr)
   cases ok with
   | false=>
     simp only [fM,if_false,aT] at hs hrun;subst hs;exact ⟨z,hrun,hvu⟩
   | true=>
     simp only [if_true] at hs hrun;split at hs
     ·next bb hbb=>
      cases hs;obtain ⟨_,gb,_,b2,b3⟩:=jQ (η:=η) hbb;simp only [Nd.den,hv,g1,aT] at b2;subst b2;refine ⟨_,hrun, ?_⟩;simp only [VR];exact ⟨[z,.bool b],rfl,ay.cons hvu (ay.cons (b3 _ rfl (by simp only [GR];rw [hb'])) (by simp [ay]))⟩
     ·cases hs
  rcases Ny (i:=0) g2 g3 hp with ⟨q1,q2⟩ | ⟨u',j',z,q1,q2,_,_,q5,q6⟩
  ·have hfk:(Instr.findKey kt y ms.toList).run P w=.ok none w:=by simp only [Instr.findKey,aS,aU kX,aQ,q2,bf]
   rw [q1,sN] at r2;subst r2;refine fin zv false z4 z5 (by rw [q1];rfl) rfl ?_;simp only [ql,aS,aQ,hck,hfk,z1,bf]
  ·have hfk:(Instr.findKey kt y ms.toList).run P w=.ok (some (j',z)) w:=by simp only [Instr.findKey,aS,aU kX,aQ,q2,bf]
   rw [q1,oU] at r2;subst r2;refine fin z true q5 q6 (by rw [q1];rfl) rfl ?_;simp only [ql,aS,aQ,hck,hfk,bf]
 ·cases hs
theorem alG {kk:Option IntKind} {g a:GV} {y x:Value} (hk:xg kk g) (hy:GR η.ro g y) (hs:Instr.sameNow (qP kk) y x=some true) (n:Nat):Instr.sameBits (n+1) x y=true:=by
 cases kk with
 | some k=>
   obtain ⟨m,rfl⟩:=hk;simp only [GR] at hy;subst hy;cases x<;>simp only [Instr.sameNow,qP,reduceCtorEq] at hs
   split at hs
   ·next e=>subst e;simp at hs;subst hs;simp [Instr.sameBits]
   ·cases hs
 | none=>
   obtain ⟨m,rfl⟩:=hk;simp only [GR] at hy;subst hy;cases x<;>simp only [Instr.sameNow,qP,reduceCtorEq] at hs
   next s=>
   obtain ⟨⟨l⟩⟩:=s;rw [CQ] at hs;simp only [Instr.sameBits,CQ];simp_all
theorem acO (h:SR P η σ w) {t:TypeId} {m k v:AV} {x y z:Value} (hs:PS P t m k v σ=some σ') (hx:VR η m x) (hy:VR η k y) (hz:VR η v z) :
 ∃w',(Instr.mapUpdate t x y z).run P w=.ok () w'/\St P η σ w η σ' w':=by
 unfold PS at hs;split at hs;rotate_left
 ·cases hs
 next kt et id hu=>
 simp only [VR] at hx;obtain ⟨q,hq,rfl⟩:=hx;split at hs;rotate_left
 ·cases hs
 next hl=>
 have hl:=nM hl
 have main:∀ (o:aZ) (n:Nat) (kk:Option IntKind) (u:Nat) (sz:Option Nat) (j j':Nat) (xs:List GV) (ms:Array MapEntry) (clock:Nat),σ.get id=some o->o.own=true->JF P kt k=some (n,kk)->KL P et v=some (u,sz)->
  aC.val j=some (.l xs)->w.heap[q.bl]? = some (.map ms clock)->qg η.ro kk sz xs ms.toList->dP (.yx j n u)=some j'->∃w',(Instr.mapUpdate t (.map (some q.bl)) y z).run P w=.ok () w'/\St P η σ w η (σ.put id (.smap j' kk sz)) w':=by
  intro o n kk u sz j j' xs ms clock hg ho hn hvn hj hb hp hf;obtain ⟨kX,g,g1,g2,g3⟩:=Ob hn hy;obtain ⟨ug,u1,u2,u3,_⟩:=adb hvn hz;obtain ⟨rg,r1,r2⟩:=dZ hf;simp only [Nd.den,hj,g1,u1,aT] at r2;subst r2;have hck:=MH (w:=w) kX g2 g3 false;have hgo:(getObj q.bl).run P w=.ok (.map ms clock) w:=by simp [getObj,Sem.run,hb]
  rcases Ny (i:=0) g2 g3 hp with ⟨q1,q2⟩ | ⟨u',i,zz,q1,q2,_,⟨m',q3,q4⟩,q5,q6⟩
  ·have hfk:(Instr.findKey kt y ms.toList).run P w=.ok none w:=by simp only [Instr.findKey,aS,aU kX,aQ,q2,bf]
   refine ⟨kC w q.bl (.map (ms.push { key:=y,val:=z,born:=clock }) (clock+1)), ?_,St.write h hg ho hl hq zT (λk hk=>zS hk) rfl rfl rfl ?_⟩
   ·simp only [Instr.mapUpdate,aS,aU hu,aQ,hgo,hck,hfk]
    exact Ia hb (by simp)
   ·refine ⟨_,_,clock+1,r1,yG hb, ?_⟩
    rw [Array.toList_push];exact ab1 g2 u2 g3 u3 hp q1
  ·have hfk:(Instr.findKey kt y ms.toList).run P w=.ok (some (i,zz)) w:=by simp only [Instr.findKey,aS,aU kX,aQ,q2,bf]
   rw [Ce,sG] at q3;have S9:(Instr.keyThatStays (((ms[i]?).map (·.key)).getD y) y).run P w=.ok y w:=by
    rw [q3];simp only [fV,oU,Instr.keyThatStays];rw [ak (alG (a:=g) g2 g3 q4 9999)];rfl
   refine ⟨kC w q.bl (.map (ms.modify i λe=>{ e with key:=y,val:=z }) clock), ?_,St.write h hg ho hl hq zT (λk hk=>zS hk) rfl rfl rfl ?_⟩
   ·simp only [Instr.mapUpdate,aS,aU hu,aQ,hgo,hck,hfk,S9]
    exact Ia hb (by simp)
   ·refine ⟨_,_,clock,r1,yG hb, ?_⟩
    rw [Array.toList_modify];have:=ab2 (i:=0) g2 u2 g3 u3 hp q2;rwa [Ce] at this
 split at hs
 ·next n kk u sz hn hvn hg=>
  split at hs
  ·next j hj=>
   obtain ⟨j',hf,rfl⟩:=aX.1 hs;obtain ⟨q',hq',ms,clock,hb,hsz,hp⟩:=h.obj _ _ hg rfl;rw [hq] at hq';cases hq';obtain ⟨gl,l1,l2⟩:=dZ hj;simp only [Nd.den,valsOf,fV,aT] at l2;subst l2;refine main _ n kk u sz j j' [] ms clock hg rfl hn hvn l1 hb ?_ hf;simp only [qg];have:ms.size=0:=by simpa using hsz
   simpa using WJ this
  ·cases hs
 ·next n kk u sz j zC sz' hn hvn hg=>
  split at hs
  ·next hc=>
   rw [aG] at hc;have e1:=Oe hc.1;have e2:=V7 hc.2;subst e1;subst e2;obtain ⟨j',hf,rfl⟩:=aX.1 hs;obtain ⟨q',hq',xs,ms,clock,hv,hb,hp⟩:=h.obj _ _ hg rfl;rw [hq] at hq';cases hq';exact main _ n kk u sz j j' xs ms clock hg rfl hn hvn hv hb hp hf
  ·cases hs
 ·cases hs
theorem aip {v:AV} {x:Value} (h:mapArg v=true) (hx:VR η v x):∃k n,x=.int k n:=by
 unfold mapArg at h;split at h
 ·next n=>
  split at h
  ·next a hn=>
   obtain ⟨g,h1,h2⟩:=aC.oK _ _ hn (by simp);simp only [VR] at hx;obtain ⟨g',h3,_,h4⟩:=hx;rw [h1] at h3;cases h3;simp only [Nd.den] at h2;split at h2
   ·cases h2
    simp only [GR] at h4;exact ⟨_,_,h4⟩
   ·cases h2
  ·cases h
 ·next hne=>
  obtain ⟨n,hn⟩:=adG.1 h;obtain ⟨k,hk⟩:=wK hn hx;exact ⟨k,n,hk⟩
theorem aaQ {e:TypeId} {size len m:Nat} {cs:List AV} {vs:List Value} (h:Ot P e size len cs=some m) (hv:ay η cs vs):0 < size/\0 < len/\cs.length=len * size/\∃gs,aC.val m=some (.l gs)/\gs.length=len/\ay η (bC gs) vs/\∀x∈gs,x.cells.length=size/\x.cells.all GV.scalar=true:=by
 unfold Ot at h;split at h;rotate_left
 ·cases h
 split at h;rotate_left
 ·cases h
 next agg ha=>
 split at h;rotate_left
 ·cases h
 next hc=>
 simp only [aG,kR,iC] at hc;obtain ⟨⟨h1,h2⟩,h3⟩:=hc;have h3:=bn h3;have hpos:0 < size:=by
  rcases h1 with ⟨_,h1⟩ | h1
  ·exact h1
  ·have:=bn h1;omega
 have h11:agg=false->size=1:=by
  intro e;rcases h1 with ⟨h1,_⟩ | h1
  ·rw [e] at h1;cases h1
  ·exact bn h1
 split at h
 ·next ns hns=>
  obtain ⟨gs,k1,k2,k3,_,k5⟩:=AX h11 len hns hv h3;obtain ⟨g,g1,g2⟩:=dZ h;simp only [Nd.den,k1,fV,aT] at g2;subst g2;exact ⟨hpos,h2,h3,gs,g1,k2,k3,k5⟩
 ·cases h
theorem aia {R:Prop} {t e:TypeId} {size bytes len:Nat} {z:List AV} {ps:List (Nat×AV)} {qs:Array (Nat×Value)} {cs:List AV}
 (fin:∀ (v:AV) (τ:aj),Ov P σ e size len cs=(some v,τ)->(∃y w' η',(Instr.buildSlice t len qs).run P w=.ok y w'/\St P η σ w η' τ w'/\VR η' v y)->R)
 (h:SR P η σ w) (hi:tu P t=some (e,size,bytes,z)) (hlen:¬ len * size > 2 ^ 24) (hf:xO (λi=>some (i * size,size)) (if len * size=0 then [] else ig len z) ps=some cs) (hp:yX η ps qs.toList):R:=by
 unfold Ov at fin;split at fin;rotate_left
 ·exact fin _ _ rfl (ad5 h hi hlen hf hp)
 next m hm=>
 refine fin _ _ rfl ?_;obtain ⟨hu,_,hz,he,hzl,hn⟩:=yg hi;obtain ⟨zv,mY,hzv⟩:=BK hz;have hpos:0 < size/\0 < len:=by
  unfold Ot at hm;split at hm;rotate_left
  ·cases hm
  split at hm;rotate_left
  ·cases hm
  next agg ha=>
  split at hm;rotate_left
  ·cases hm
  next hc=>
  simp only [aG,kR,iC] at hc;refine ⟨?_,hc.1.2⟩;rcases hc.1.1 with ⟨_,h1⟩ | h1
  ·exact h1
  ·have:=bn h1;omega
 have h0:¬ len * size=0:=by
  have:=IG hpos.2 hpos.1;omega
 simp only [h0,if_false] at hf;obtain ⟨xs,JA,hxs⟩:=FI hf hp (KR (hzv η) hzl);have hl:=hxs.length;have hal:=zi h (c:=cs) (xs:=xs) (elem:=e) (es:=size) (opn:=true) (by rw [hl,xI];exact hxs) (by simpa using EO hl) (by simp) (λ_=>⟨he,hpos.1,hn⟩);obtain ⟨_,_,hcl,gs,g1,g2,_,g4⟩:=aaQ hm hxs;have hsz:xs.size=len * size:=by rw [<- hcl,hl];simp
 have hdiv:xs.size / size=len:=by rw [hsz];exact Xv _ hpos.1
 obtain ⟨q1,q2⟩:=St.vg (f:=false) (size:=size) (y:=.slice (some ⟨w.heap.size,0,none⟩) len len) hal g1 g4 hn (λvs hvs=>by
  obtain ⟨_,_,_,gs',k1,_,k3,_⟩:=aaQ hm hvs;rw [g1] at k1;cases k1;exact k3) (by
  simp only [VR];refine ⟨⟨w.heap.size,0,xs.size,size⟩,by simp [Env.put], ?_, ?_⟩
  ·simp only [sN,Ce]
   rw [hdiv,g2];simp
  ·simp only [sN,Ce,hdiv,g2,jU]) (by simp)
 refine ⟨_,_,_, ?_,q1,q2⟩;simp only [Instr.buildSlice,aS,aU hu,aQ,gQ hn,rE,ah hlen,h0,if_false,mY,bf,JA,newRow,newObj,Sem.run]
end
end Go.aJ
namespace Go.aJ
set_option linter.unusedSimpArgs false
noncomputable section
variable [aC]
set_option linter.unusedSectionVars false
set_option linter.unusedVariables false
variable {P:Program} {η:Env} {σ σ':aj} {w:World}
structure TR (P:Program) (η:Env) (a:aW) (A:Act):Prop where
 gn:a.gn=P.globals.size
 size:A.tmps.size=a.n
 none:A.defers=[]
 slot:∀t v,a.t.get t=some v->∃x,A.tmps[t]? = some x/\VR η v x
theorem TR.mono {η η':Env} {a:aW} {A:Act} (h:TR P η a A) (hle:η.le η'):TR P η' a A:=
 ⟨h.gn,h.size,h.none,λt v hv=>by obtain ⟨x,hx,hr⟩:=h.slot t v hv;exact ⟨x,hx,VR.mono hle _ _ hr⟩⟩
theorem TR.put {a a':aW} {A:Act} {dst:Option Tmp} {r:Option AV} {x:Value} (h:TR P η a A) (hp:a.put dst r=some a') (hr:∀v,r=some v->VR η v x):TR P η a' (A.put dst x):=by
 unfold aW.put at hp;split at hp
 ·cases hp;exact h
 ·next d=>
  split at hp
  ·next hd=>
   cases hp;refine ⟨h.gn,by simp [Act.put,h.size],h.none,λt v hv=>?_⟩;rw [Tr.tJ] at hv;show ∃y,(A.tmps.setIfInBounds d x)[t]? = some y/\_
   rw [yO];split at hv
   ·next e=>
    subst e;rw [ak rfl,ak (by rw [h.size];exact hd)];exact ⟨x,rfl,hr v hv⟩
   ·next e=>rw [ah (λe'=>e e'.symm)];exact h.slot t v hv
  ·cases hp
theorem Jp {a:aW} {A:Act} (h:SR P η σ w) (ht:TR P η a A) (x:Operand) (v:AV) (hv:a.eval x=some v):VR η v (A.eval x):=by
 cases x with
 | tmp t=>
   obtain ⟨y,hy,hr⟩:=ht.slot t v hv;simp only [Act.eval];rw [vw,hy];exact hr
 | const c=>exact zH _ _ _ hv
 | global g=>
   simp only [aW.eval] at hv;split at hv
   ·next hg=>
    cases hv;rw [ht.gn] at hg;obtain ⟨sz,es,h1⟩:=h.ku g (Nat.le_of_lt hg);simp only [VR,Act.eval];exact ⟨_,h1,by simp⟩
   ·cases hv
 | func f=>
   simp only [aW.eval,aT] at hv;subst hv;simp only [VR,Act.eval];exact ⟨[],[],rfl,by simp [ay],by simp [ay]⟩
def IJ (P:Program) (η:Env) (σ:aj) (w:World) (r:Option AV) (σ':aj) (s:Sem Next):Prop:=
 ∃nx w' η',s.run P w=.ok nx w'/\St P η σ w η' σ' w'/\(match r with | some v=>∃x,nx=.value x/\VR η' v x | none=>nx=.skip)
theorem dJ {r:AV} {s:Sem Value} (h:∃y w' η',s.run P w=.ok y w'/\St P η σ w η' σ' w'/\VR η' r y):IJ P η σ w (some r) σ' (do pure (.value (<- s))):=by
 obtain ⟨y,w',η',h1,h2,h3⟩:=h;exact ⟨.value y,w',η',by simp only [aS,h1,aQ,bf],h2,y,rfl,h3⟩
theorem Gu {s:Sem Unit} (h:∃w' η',s.run P w=.ok () w'/\St P η σ w η' σ' w'):IJ P η σ w none σ' (do s;pure .skip):=by
 obtain ⟨w',η',h1,h2⟩:=h;exact ⟨.skip,w',η',by simp only [aS,h1,aQ,bf],h2,rfl⟩
theorem gq {r:AV} {s:Sem Value} (h:SR P η σ w) (hs:∃y,s.run P w=.ok y w/\VR η r y):∃y w' η',s.run P w=.ok y w'/\St P η σ w η' σ w'/\VR η' r y:=by
 obtain ⟨y,h1,h2⟩:=hs;exact ⟨y,w,η,h1,St.refl h,h2⟩
theorem iG {v:Option AV} {r:Option AV} (h:bV σ v=some (r,σ')):∃u,v=some u/\r=some u/\σ'=σ:=by
 simp only [bV,aX,jG] at h;obtain ⟨u,h1,h2,h3⟩:=h;exact ⟨u,h1,h2.symm,h3.symm⟩
theorem zN {v:Option (AV×aj)} {r:Option AV} (h:qA v=some (r,σ')):∃u,v=some (u,σ')/\r=some u:=by
 simp only [qA,aX,ES,jG] at h;obtain ⟨u,s,h1,h2,h3⟩:=h;subst h3;exact ⟨u,h1,h2.symm⟩
theorem Vw {v:Option aj} {r:Option AV} (h:Ec v=some (r,σ')):v=some σ'/\r=none:=by
 simp only [Ec,aX,jG] at h;obtain ⟨s,h1,h2,h3⟩:=h;subst h3;exact ⟨h1,h2.symm⟩
theorem adU {c:Value} {t:Bool} (h:VR η (.b t) c):(asBool c).run P w=.ok t w:=by
 simp only [VR] at h;subst h;rfl
theorem aev (h:SR P η σ w) {ts:Array TypeId} {ty t:TypeId} {x v:AV} {u:Value} (ht:ts[0]? = some t) (hs:QI P t x σ=some (v,σ')) (hu:VR η x u) :
 ∃y w' η',(Builtin.clear_ ts ty #[u]).run P w=.ok y w'/\St P η σ w η' σ' w'/\VR η' v y:=by
 have hun:∀η':Env,VR η' (.cO []) (.tuple #[]):=λη'=>by simp only [VR];exact ⟨[],rfl,by simp [ay]⟩
 unfold QI at hs;split at hs
 ·next e hut=>
  cases hs;simp only [VR] at hu;subst hu;exact ⟨_,w,η,by simp only [Builtin.clear_,ht,Ah,gW,aS,aU hut,aQ,bf],St.refl h,hun _⟩
 ·next e hut=>
  cases hs;simp only [VR] at hu;rcases hu with ⟨_,pa,rfl⟩ | ⟨bl,off,c,xs,sz,rfl,_⟩
  ·exact ⟨_,w,η,by cases pa<;>simp only [Builtin.clear_,ht,Ah,gW,aS,aU hut,aQ,bf],St.refl h,hun _⟩
  ·exact ⟨_,w,η,by simp only [Builtin.clear_,ht,Ah,gW,aS,aU hut,aQ,bf,sJ],St.refl h,hun _⟩
 ·next e id off n cap hut=>
  simp only [VR] at hu;obtain ⟨q,hq,_,rfl⟩:=hu;split at hs
  ·next h0=>
   cases hs;subst h0;exact ⟨_,w,η,by simp only [Builtin.clear_,ht,Ah,gW,aS,aU hut,aQ,bf],St.refl h,hun _⟩
  ·next h0=>
   split at hs
   ·next z c et opn hz hg=>
    split at hs
    ·next hc=>
     simp only [aX] at hs;obtain ⟨c',hr,e1⟩:=hs;cases e1;obtain ⟨zv,mY,hzv⟩:=BK hz;have hzs:=KR (n:=n) (size:=z.length) (hzv η) rfl;have hlen:=(hzv η).length;have hone:(ig n z).all AV.kK=true:=by
      rw [List.all_eq_true];intro a ha;unfold ig at ha;simp only [List.mem_flatten,Xl] at ha;obtain ⟨l,⟨_,rfl⟩,ha⟩:=ha;exact List.all_eq_true.1 hc.2 a ha
     obtain ⟨w',hrun,hst⟩:=Qi h hg hc.1 hq hr hzs hone;refine ⟨_,w',η, ?_,hst,hun _⟩;have hzc:(Builtin.zeroCells zv.cells n)=(Array.range (n * z.length)).map (zv.cells[· % zv.cells.size]!):=by
      unfold Builtin.zeroCells;rw [hlen];simp
     obtain ⟨m,rfl⟩:∃m,n=m+1:=⟨n - 1,by omega⟩
     simp only [Builtin.clear_,ht,Ah,gW,aS,aU hut,aQ,mY];rw [hzc,hrun];rfl
    ·cases hs
   ·cases hs
 ·next k e hut=>
  cases hs;simp only [VR] at hu;subst hu;exact ⟨_,w,η,by simp only [Builtin.clear_,ht,Ah,gW,aS,aU hut,aQ,bf],St.refl h,hun _⟩
 ·next k e id hut=>
  split at hs
  ·next es hg=>
   split at hs
   ·next hl=>
    cases hs;simp only [VR] at hu;obtain ⟨q,hq,rfl⟩:=hu;obtain ⟨q',hq',ms,clock,hb,hsz,_⟩:=h.obj _ _ hg rfl;rw [hq] at hq';cases hq';refine ⟨.tuple #[],kC w q.bl (.map #[] clock),η, ?_,St.write h hg rfl hl hq zT (λk hk=>zS hk) rfl rfl rfl ⟨#[],clock,yG hb,rfl,by simp⟩,hun _⟩;simp only [Builtin.clear_,ht,Ah,gW,aS,aU hut,aQ,getObj,Sem.run,hb,Ia hb (λ_ _ _=>by simp),bf]
   ·cases hs
  ·cases hs
 ·cases hs
theorem ad7 (h:SR P η σ w) {b:Builtin} {ts:Array TypeId} {ty:TypeId} {cs:Array Bool} {args:List AV} {vs:List Value} {r:Option AV} (hs:Cm P b ts args σ=some (r,σ')) (hv:ay η args vs) :
 IJ P η σ w r σ' (builtin b ts ty cs ⟨vs⟩):=by
 unfold Cm at hs;split at hs
 ·next x=>
  simp only [ay] at hv;obtain ⟨u,_,rfl,hu,rfl⟩:=hv;split at hs
  ·next t ht=>
   obtain ⟨v,h1,rfl,rfl⟩:=iG hs;exact dJ (gq h (aaN h ht h1 hu))
  ·cases hs
 ·next s x=>
  simp only [ay] at hv;obtain ⟨u,_,rfl,hu,u',_,rfl,hu',rfl⟩:=hv;obtain ⟨v,h1,rfl⟩:=zN hs;exact dJ (adT h h1 hu hu')
 ·next s x=>
  simp only [ay] at hv;obtain ⟨u,_,rfl,hu,u',_,rfl,hu',rfl⟩:=hv;obtain ⟨v,h1,rfl⟩:=zN hs;exact dJ (aeK h h1 hu hu')
 ·next x=>
  simp only [ay] at hv;obtain ⟨u,_,rfl,hu,rfl⟩:=hv;split at hs
  ·next t ht=>
   obtain ⟨v,h1,rfl⟩:=zN hs;exact dJ (aev h ht h1 hu)
  ·cases hs
 ·next x=>
  simp only [ay] at hv;obtain ⟨u,_,rfl,hu,rfl⟩:=hv;split at hs
  ·next t ht=>
   split at hs
   ·next e hun=>
    obtain ⟨v,h1,rfl,rfl⟩:=iG hs;cases h1;simp only [VR] at hu;subst hu;exact dJ (gq h ⟨.int .i64 0,by simp [Builtin.cap_,ht,aU hun,goInt],by simp [VR]⟩)
   ·next e id off n c hun=>
    obtain ⟨v,h1,rfl,rfl⟩:=iG hs;cases h1;simp only [VR] at hu;obtain ⟨q,hq,_,rfl⟩:=hu;exact dJ (gq h ⟨.int .i64 c,by simp [Builtin.cap_,ht,aU hun,goInt],by simp [VR]⟩)
   ·cases hs
  ·cases hs
 ·simp only [ay] at hv
  obtain ⟨u,_,rfl,hu,rfl⟩:=hv;obtain ⟨v,h1,rfl,rfl⟩:=iG hs;cases h1;simp only [VR] at hu;subst hu;exact dJ (gq h ⟨_,acB,by simp only [VR]⟩)
 ·next id off n cap=>
  split at hs
  ·cases hs
  ·next hc=>
   simp only [ay] at hv;obtain ⟨u,_,rfl,hu,rfl⟩:=hv;obtain ⟨v,h1,rfl,rfl⟩:=iG hs;cases h1;simp only [VR] at hu;obtain ⟨q,hq,hle,rfl⟩:=hu;refine dJ (gq h ⟨_,acC ?_,by simp only [VR];exact ⟨q,hq,rfl⟩⟩);intro e;rw [e] at hle;have hn:n=0:=by omega
   subst hn;cases cap with
   | none=>exact hc ⟨rfl,.inl rfl⟩
   | some c=>simp only [oU] at e;subst e;exact hc ⟨rfl,.inr rfl⟩
 ·next x n=>
  simp only [ay] at hv;obtain ⟨u,_,rfl,hu,u',_,rfl,hu',rfl⟩:=hv;simp only [VR] at hu';subst hu';split at hs
  ·next t it hts=>
   have:=LY hts;subst this;split at hs
   ·next h0=>
    subst h0;split at hs
    ·obtain ⟨v,h1,rfl,rfl⟩:=iG hs
     cases h1;simp only [VR] at hu;subst hu;exact dJ (gq h ⟨_,Ws,by simp only [VR]⟩)
    ·obtain ⟨v,h1,rfl,rfl⟩:=iG hs
     cases h1;simp only [VR] at hu;obtain ⟨q,hq,rfl⟩:=hu;exact dJ (gq h ⟨_,Ws,by simp only [VR]⟩)
    ·cases hs
   ·split at hs
    ·next id off=>
     split at hs
     ·next e c et opn hut hg=>
      split at hs
      ·next hc=>
       obtain ⟨rfl,c1,c2,c3,c4,c5⟩:=hc;split at hs
       ·next r' hr=>
        split at hs
        ·next b hb=>
         cases hs;simp only [VR] at hu;obtain ⟨q,hq,rfl⟩:=hu;obtain ⟨y,w',h1,h2,h3⟩:=ada (it:=it) (ty:=ty) h hut hg c1 c2 c3 c4 c5 hr hb hq;exact dJ ⟨y,w',η,h1,h2,h3⟩
        ·cases hs
       ·cases hs
      ·cases hs
     ·cases hs
    ·cases hs
  ·cases hs
 ·next x y=>
  simp only [ay] at hv;obtain ⟨u,_,rfl,hu,u',_,rfl,hu',rfl⟩:=hv;split at hs
  ·next a a' h1 h2=>
   obtain ⟨v,h3,rfl,rfl⟩:=iG hs;simp only [uG] at h3;obtain ⟨z,hz,tV⟩:=h3;rw [yF h1 hu,yF h2 hu'];exact dJ (gq h ⟨z,yD hz w,zH _ _ _ tV⟩)
  ·cases hs
 ·next x y=>
  simp only [ay] at hv;obtain ⟨u,_,rfl,hu,u',_,rfl,hu',rfl⟩:=hv;split at hs
  ·next a a' h1 h2=>
   obtain ⟨v,h3,rfl,rfl⟩:=iG hs;simp only [uG] at h3;obtain ⟨z,hz,tV⟩:=h3;rw [yF h1 hu,yF h2 hu'];exact dJ (gq h ⟨z,yD hz w,zH _ _ _ tV⟩)
  ·cases hs
 ·next x y z=>
  simp only [ay] at hv;obtain ⟨u,_,rfl,hu,u',_,rfl,hu',u'',_,rfl,ahp,rfl⟩:=hv;split at hs
  ·next a a' a'' h1 h2 h4=>
   obtain ⟨v,h3,rfl,rfl⟩:=iG hs;simp only [uG] at h3;obtain ⟨z,hz,tV⟩:=h3;rw [yF h1 hu,yF h2 hu',yF h4 ahp];exact dJ (gq h ⟨z,yD hz w,zH _ _ _ tV⟩)
  ·cases hs
 ·cases hs
end
end Go.aJ
namespace Go.aJ
set_option linter.unusedSimpArgs false
noncomputable section
variable [aC]
set_option linter.unusedSectionVars false
set_option linter.unusedVariables false
variable {P:Program} {η:Env} {σ σ':aj} {w:World}
theorem aom {pt it ty:TypeId} (p:Option Addr):(Builtin.unsafeString_ #[pt,it] ty #[.pointer p,.int .i64 0]).run P w=.ok (.string ⟨⟨[]⟩⟩) w:=Ws
theorem anO (h:SR P η σ w) {b:Builtin} {ts:Array TypeId} {ty:TypeId} {cs:Array Bool} {args:List AV} {vs:List Value} {r:Option AV} (hs:Ej P b ts args σ=some (r,σ')) (hv:ay η args vs) :
 IJ P η σ w r σ' (builtin b ts ty cs ⟨vs⟩):=by
 unfold Ej at hs;have mm:∀ (big:Bool) {x y:AV} {m n:Nat} {v:AV} {u u':Value},gB x=some m->gB y=some n->iR (.mm big m n)=some v->VR η x u->VR η y u'->∃k a b',u=.int k a/\u'=.int k b'/\VR η v (.int k (if big then (if a < b' then b' else a) else (if b' < a then b' else a))):=by
  intro big x y m n v u u' hm hn hmk hu hu';obtain ⟨g1,a1,a2,a3⟩:=jJ hm hu;obtain ⟨g2,b1,b2,b3⟩:=jJ hn hu';obtain ⟨_,g,_,c2,c3⟩:=jQ (η:=η) hmk;simp only [Nd.den,a1,b1] at c2;split at c2
  ·next k i k' j e1 e2=>
   cases e1;cases e2;split at c2
   ·next hk=>
    subst hk;cases c2;simp only [GR] at a3 b3;exact ⟨k,i,j,a3,b3,c3 _ rfl (by simp only [GR])⟩
   ·cases c2
  ·cases c2
 split at hs
 ·next x=>
  simp only [ay] at hv;obtain ⟨u,_,rfl,hu,rfl⟩:=hv;split at hs
  ·next t ht=>
   obtain ⟨v,h1,e⟩:=aX.1 hs;cases e;exact dJ (gq h (anT ht h1 hu))
  ·cases hs
 ·next s x=>
  simp only [ay] at hv;obtain ⟨u,_,rfl,hu,u',_,rfl,hu',rfl⟩:=hv;obtain ⟨v,h1,e⟩:=aX.1 hs;cases e;exact dJ (anM h h1 hu hu')
 ·next x y=>
  simp only [ay] at hv;obtain ⟨u,_,rfl,hu,u',_,rfl,hu',rfl⟩:=hv;split at hs
  ·next m n hm hn=>
   obtain ⟨v,h1,e⟩:=aX.1 hs;cases e;obtain ⟨k,a,b',rfl,rfl,h2⟩:=mm false hm hn h1 hu hu';refine dJ (gq h ⟨_, ?_,h2⟩);simp [Builtin.min_,Builtin.min2]
  ·cases hs
 ·next x y=>
  simp only [ay] at hv;obtain ⟨u,_,rfl,hu,u',_,rfl,hu',rfl⟩:=hv;split at hs
  ·next m n hm hn=>
   obtain ⟨v,h1,e⟩:=aX.1 hs;cases e;obtain ⟨k,a,b',rfl,rfl,h2⟩:=mm true hm hn h1 hu hu';refine dJ (gq h ⟨_, ?_,h2⟩);simp [Builtin.max_,Builtin.max2]
  ·cases hs
 ·next id n=>
  split at hs
  ·next m et hg=>
   split at hs
   ·next hsl=>
    cases hs;simp only [ay] at hv;obtain ⟨u,_,rfl,hu,rfl⟩:=hv;simp only [VR] at hu;obtain ⟨xs,k1,hu⟩:=hu;rcases hu with ⟨q,hq,hle,rfl⟩ | ⟨hgh,rfl,rfl⟩
    ·have hor:=h.at hg hq
     have hpos:=hor.Qc;obtain ⟨_,_,_,_,hes,_⟩:=hor.Gs;have hcap:q.sz / q.es≠0:=by
      have:=Nat.div_pos hpos hes;omega
     exact dJ (gq h ⟨_,acC hcap,by simp only [VR];exact ⟨xs,_,k1,rfl,λ_=>⟨q,hq,rfl⟩⟩⟩)
    ·exact dJ (gq h ⟨_,acB,by simp only [VR];exact ⟨[],_,k1,rfl,λhn=>absurd rfl hn⟩⟩)
   ·cases hs
  ·cases hs
 ·next id n k=>
  split at hs
  ·next t it hts=>
   have:=LY hts;subst this;split at hs
   ·next e m et f hut hg=>
    split at hs
    ·next hc=>
     obtain ⟨rfl,c1,c2,c3⟩:=hc;split at hs
     ·next n' hk=>
      split at hs
      ·next hsl=>
       rw [aG] at hsl;obtain ⟨v,hm,e⟩:=aX.1 hs;cases e;simp only [ay] at hv;obtain ⟨u,_,rfl,hu,u',_,rfl,hu',rfl⟩:=hv;simp only [VR] at hu hu';obtain ⟨ys,p,k1,rfl,hp⟩:=hu;obtain ⟨gk,j1,_,j3⟩:=hu';obtain ⟨gk',j4,j5⟩:=aC.oK k _ hk (by simp);rw [j1] at j4;cases j4;obtain ⟨nn,gs,b1,b2,b3⟩:=jQ (η:=η) hm;simp only [Nd.den] at b2;split at b2
       ·next xs hv=>
        split at b2
        ·next h48=>
         obtain ⟨b,hb,rfl⟩:=aX.1 b2;simp only [Nd.den] at j5;split at j5
         ·next zs hz=>
          cases j5;have hl1:=vY 100 hsl.1 hv k1;have hl2:=vY 100 hsl.2 hv hz;simp only [GR] at j3;subst j3;have fin:∀ {η':Env} (y:Value),VR η' (.s b) y->VR η' v y:=by
           intro η' y hy;obtain ⟨_,g2,_,d2,d3⟩:=jQ (η:=η') hm;simp only [Nd.den,hv,ak h48,hb,fV,aT] at d2;subst d2;exact d3 y rfl ((jC _ _).2 hy)
          by_cases hx0:xs=[]
          ·subst hx0
           have hz0:zs.length=0:=hl2.symm;have hb0:b=[]:=by simpa [nP] using hb.symm
           subst hb0;rw [hz0];refine dJ ⟨.string ⟨⟨[]⟩⟩,w,η,aom p,(St.refl h).Oc id,fin _ (by simp only [VR])⟩
          ·have hy0:ys≠[]:=by intro e;rw [e] at hl1;exact hx0 (jD hl1)
           obtain ⟨q,hq,rfl⟩:=hp hy0;obtain ⟨xs',i1,i2,i3,i4,i5,i6,i7,hS⟩:=Ii h hg hq;rw [hv] at i1;cases i1;have hcg:bC xs=bT xs:=by unfold bC;rw [Md hb]
           have hpos:0 < xs.length:=KY.2 hx0;have htk:takeN (bC xs) 0 ((xs.length:Nat):Int).toNat=some (bT xs):=by
            rw [hcg];unfold takeN;rw [fH,mP (by rw [jI];simp),ak (by rw [jI];simp)]
           have hfit:xs.length < 2 ^ 62:=by omega
           obtain ⟨y,w',r1,r2,r3⟩:=ada (it:=it) (ty:=ty) (off:=0) (n:=xs.length) hS hut zZ c1 c2 (by omega) (by omega) c3 htk (Ja hb) hq;rw [<- hl2];refine dJ ⟨y,w',η,by simpa using r1, ?_,fin _ r3⟩;refine ((KI hg r2).Oc id).sub (λk o hk=>?_) (cZ _) rfl;rw [aj.vT] at hk ⊢;split at hk
           ·cases hk
           ·next e1=>
            rw [ah e1];unfold iW;rw [aj.get_put,ah e1,aj.get_put,ah e1];exact hk
         ·cases j5
        ·cases b2
       ·cases b2
      ·cases hs
     ·cases hs
    ·cases hs
   ·cases hs
  ·cases hs
 ·cases hs
end
end Go.aJ
namespace Go.aJ
set_option linter.unusedSimpArgs false
noncomputable section
variable [aC]
set_option linter.unusedSectionVars false
set_option linter.unusedVariables false
variable {P:Program} {η:Env} {σ σ':aj} {w:World}
def iU (P:Program) (f:FuncId) (args:Array Value) (w:World) (R:Value->World->Prop):Prop:=
 (∃v w',(callFunc f args).run P w=.ok (.value v) w'/\R v w')\/
 ((callFunc f args).run P w=.ok (.enter f args) w/\Calls P f args w λe w'=>∃v,e=.returned v/\R v w')
def pU (P:Program) (call:Caller):Prop:=∀f args σ r σ',call f args σ=some (r,σ')->∀η w vs,SR P η σ w->ay η args vs->
 iU P f ⟨vs⟩ w λv w'=>∃η',St P η σ w η' σ' w'/\VR η' r v
def Bg:Op->Bool
 | .call { callee:=.value _,.. }=>true
 | .call { callee:=.invoke _ _,.. }=>true
 | _=>false
theorem aik {f:FuncId} {first caps:List AV} {us vs:List Value} (h1:ay η first us) (h2:ay η caps vs):∃y,(Instr.makeFunc (.func f) ⟨us⟩ ⟨vs⟩).run P w=.ok y w/\VR η (.fn f first caps) y:=
 ⟨_,rfl,by simp only [VR];exact ⟨us,vs,rfl,h1,h2⟩⟩
theorem Gv {ev:Operand->Option AV} {ρ:Operand->Value} (hρ:∀x a,ev x=some a->VR η a (ρ x)) {o:Option Operand} {r:Option AV} (h:DW ev o=some r):jk η r (o.map ρ):=by
 cases o with
 | none=>simp [DW] at h;subst h;trivial
 | some x=>
   simp only [DW,aX] at h;obtain ⟨a,ha,rfl⟩:=h;exact hρ _ _ ha
theorem DT {α β:Type} (a:Array α) (f:α->β):a.map f=⟨a.toList.map f⟩:=by
 apply Iq;simp
set_option maxHeartbeats 1000000 in
theorem abD (h:SR P η σ w) {call:Caller} {o:Oper} {ev:Operand->Option AV} {ρ:Operand->Value} (hρ:∀x a,ev x=some a->VR η a (ρ x)) (hc:Bg o.op=false) {r:Option AV}
 (hs:oV P call o ev σ=some (r,σ')):IJ P η σ w r σ' (execOp ρ o):=by
 unfold oV at hs;unfold execOp;split at hs
 ·next x he=>rw [he];obtain ⟨v,h1,rfl,rfl⟩:=iG hs;exact ⟨_,w,η,rfl,St.refl h,_,rfl,hρ _ _ h1⟩
 ·next x he=>rw [he];obtain ⟨v,h1,rfl,rfl⟩:=iG hs;exact ⟨_,w,η,rfl,St.refl h,_,rfl,hρ _ _ h1⟩
 ·next c a b he=>
  rw [he];split at hs
  ·next t hcv=>
   obtain ⟨vd,hvd,hcv⟩:=Dl hcv;obtain ⟨v,h1,rfl,rfl⟩:=iG hs;refine ⟨.value (if t then ρ a else ρ b),w,η, ?_,St.refl h,_,rfl, ?_⟩
   ·simp only [aS,adU (hcv _ _ (hρ _ _ hvd)),aQ,bf]
   ·cases t
    ·exact hρ _ _ h1
    ·exact hρ _ _ h1
  ·cases hs
 ·next t he=>
  rw [he];simp only [aX] at hs;obtain ⟨z,hz,e⟩:=hs;cases e;exact dJ (adQ h hz)
 ·next t x he=>
  rw [he];simp only [aX] at hs;obtain ⟨z,hz,e⟩:=hs;cases e;exact dJ (X7 h (hρ _ _ hz))
 ·next t parts he=>
  rw [he];split at hs
  ·next ps hps=>
   obtain ⟨v,h1,rfl,rfl⟩:=iG hs;exact dJ (gq h (ad6 h1 (by rw [DT];exact RG hρ hps)))
  ·cases hs
 ·next t len parts he=>
  rw [he];split at hs
  ·next e size bytes z ps hi hps=>
   split at hs
   ·cases hs
   ·next hlen=>
    split at hs
    ·next cs hf=>
     have e1:=Ci hs;refine aia (t:=t) (qs:=parts.map λ(i,x)=>(i,ρ x)) (λv τ e2 hr=>?_) h hi hlen hf (by rw [DT];exact RG hρ hps);rw [e2] at e1;cases e1;exact dJ hr
    ·cases hs
  ·cases hs
 ·next t a he=>
  rw [he];split at hs
  ·next av hav=>
   obtain ⟨v,h1,rfl,rfl⟩:=iG hs;rcases rW h1 with h1 | h1
   ·exact dJ (gq h (Bq h h1 (hρ _ _ hav)))
   ·exact dJ (gq h (anU h h1 (hρ _ _ hav)))
  ·cases hs
 ·next t a x he=>
  rw [he];split at hs
  ·next av xv hav hxv=>
   obtain ⟨h1,rfl⟩:=Vw hs;rcases rW h1 with h1 | h1
   ·obtain ⟨w',h2,h3⟩:=Px h h1 (hρ _ _ hav) (hρ _ _ hxv)
    exact Gu ⟨w',η,h2,h3⟩
   ·obtain ⟨w',h2,h3⟩:=anY h h1 (hρ _ _ hav) (hρ _ _ hxv)
    exact Gu ⟨w',η,h2,h3⟩
  ·cases hs
 ·next x he=>
  rw [he];split at hs
  ·next id off hxv=>
   obtain ⟨v,h1,rfl,rfl⟩:=iG hs;cases h1;have hv:=hρ _ _ hxv;simp only [VR] at hv;obtain ⟨q,hq,hv⟩:=hv;exact ⟨.value (ρ x),w,η,by simp only [hv];rfl,St.refl h,_,rfl,hρ _ _ hxv⟩
  ·next b off hxv=>
   obtain ⟨v,h1,rfl,rfl⟩:=iG hs;cases h1;have hv:=hρ _ _ hxv;simp only [VR] at hv;obtain ⟨bl,base,cs,elem,fr,y,_,_,hv,_⟩:=hv;exact ⟨.value (ρ x),w,η,by simp only [hv];rfl,St.refl h,_,rfl,hρ _ _ hxv⟩
  ·next m off hxv=>
   obtain ⟨v,h1,rfl,rfl⟩:=iG hs;cases h1;have hv:=hρ _ _ hxv;simp only [VR] at hv;obtain ⟨g,bl,base,cs,elem,fr,y,_,_,_,hv,_⟩:=hv;exact ⟨.value (ρ x),w,η,by simp only [hv];rfl,St.refl h,_,rfl,hρ _ _ hxv⟩
  ·next id m off hxv=>
   obtain ⟨v,h1,rfl,rfl⟩:=iG hs;cases h1;have hv:=hρ _ _ hxv;simp only [VR] at hv;obtain ⟨q,kk,i,_,_,hv⟩:=hv;exact ⟨.value (ρ x),w,η,by simp only [hv];rfl,St.refl h,_,rfl,hρ _ _ hxv⟩
  ·next f fs cs hxv=>
   obtain ⟨v,h1,rfl,rfl⟩:=iG hs;cases h1;have hv:=hρ _ _ hxv;simp only [VR] at hv;obtain ⟨us,vs,hv,_⟩:=hv;exact ⟨.value (ρ x),w,η,by simp only [hv];rfl,St.refl h,_,rfl,hρ _ _ hxv⟩
  ·cases hs
 ·next op t x y _ he=>
  rw [he];split at hs
  ·next a b ha hb=>
   obtain ⟨v,h1,rfl,rfl⟩:=iG hs;rcases rW h1 with h1 | h1
   ·exact dJ (gq h (ad1 h h1 (hρ _ _ ha) (hρ _ _ hb)))
   ·exact dJ (gq h (anN h1 (hρ _ _ ha) (hρ _ _ hb)))
  ·cases hs
 ·next op t x he=>
  rw [he];split at hs
  ·next a ha=>
   split at hs
   ·next u hu=>
    obtain ⟨v,h1,rfl,rfl⟩:=iG hs;simp only [uG] at h1;obtain ⟨z,hz,tV⟩:=h1;have hrun:(Op.unary op (ρ x)).run P w=.ok z w:=by rw [yF hu (hρ _ _ ha)];exact yD hz w
    exact dJ (gq h ⟨z,hrun,zH _ _ _ tV⟩)
   ·obtain ⟨v,h1,rfl,rfl⟩:=iG hs
    exact dJ (gq h (anZ h1 (hρ _ _ ha)))
  ·cases hs
 ·next src dst x he=>
  rw [he];split at hs
  ·next a ha=>
   obtain ⟨v,h1,rfl⟩:=zN hs;rcases rW h1 with h1 | h1
   ·exact dJ (Jh h h1 (hρ _ _ ha))
   ·exact dJ (anP h h1 (hρ _ _ ha))
  ·cases hs
 ·next t x he=>
  rw [he];split at hs
  ·next a ha hi=>
   obtain ⟨v,h1,rfl,rfl⟩:=iG hs;cases h1;exact dJ (gq h (ail hi (hρ _ _ ha)))
  ·cases hs
 ·next f first caps he=>
  rw [he];split at hs
  ·next fs cs hfs hcs=>
   obtain ⟨v,h1,rfl,rfl⟩:=iG hs;cases h1;simp only [DT];exact dJ (gq h (aik (FD hρ hfs) (FD hρ hcs)))
  ·cases hs
 ·next t r' he=>
  rw [he];split at hs
  ·cases hs
   exact dJ (aa5 h (.inl rfl))
  ·next x=>
   split at hs
   ·next a kt et ha hu=>
    split at hs
    ·next hm=>
     cases hs;obtain ⟨k,n,hk⟩:=aip hm (hρ _ _ ha);exact dJ (aa5 h (.inr ⟨k,n,kt,et,by simp [hk],hu⟩))
    ·cases hs
   ·cases hs
 ·next t l c he=>
  rw [he];split at hs
  ·next a b ha hb=>
   obtain ⟨v,h1,rfl⟩:=zN hs;rcases rW h1 with h1 | h1
   ·exact dJ (ain h h1 (hρ _ _ ha) (hρ _ _ hb))
   ·exact dJ (anW h h1 (hρ _ _ ha) (hρ _ _ hb))
  ·cases hs
 ·next t x lo hi he=>
  rw [he];split at hs
  ·next a lo' hi' ha hlo hhi=>
   rcases rW hs with hs | hs
   ·obtain ⟨v,h1,rfl,rfl⟩:=iG hs
    rcases rW h1 with h1 | h1
    ·exact dJ (gq h (Pg h h1 (hρ _ _ ha) (Gv hρ hlo) (Gv hρ hhi)))
    ·exact dJ (gq h (acP h h1 (hρ _ _ ha) (Gv hρ hlo) (Gv hρ hhi)))
   ·obtain ⟨v,h1,rfl⟩:=zN hs
    exact dJ (anX h h1 (hρ _ _ ha) (Gv hρ hlo) (Gv hρ hhi))
  ·cases hs
 ·next t x f he=>
  rw [he];split at hs
  ·next a ha=>
   obtain ⟨v,h1,rfl,rfl⟩:=iG hs;rcases rW h1 with h1 | h1
   ·exact dJ (gq h (afW h1 (hρ _ _ ha)))
   ·exact dJ (gq h (anQ h1 (hρ _ _ ha)))
  ·cases hs
 ·next t x f he=>
  rw [he];split at hs
  ·next a ha=>
   obtain ⟨v,h1,rfl,rfl⟩:=iG hs;exact dJ (gq h (afX h1 (hρ _ _ ha)))
  ·cases hs
 ·next t x ix he=>
  rw [he];split at hs
  ·next a k ha hk=>
   obtain ⟨v,h1,rfl,rfl⟩:=iG hs;rcases rW h1 with h1 | h1
   ·exact dJ (gq h (N8 h1 (hρ _ _ ha) (hρ _ _ hk)))
   ·exact dJ (gq h (anR h h1 (hρ _ _ ha) (hρ _ _ hk)))
  ·cases hs
 ·next t x ix he=>
  rw [he];split at hs
  ·next a k ha hk=>
   obtain ⟨v,h1,rfl,rfl⟩:=iG hs;rcases rW h1 with h1 | h1
   ·exact dJ (gq h (Tn h1 (hρ _ _ ha) (hρ _ _ hk)))
   ·exact dJ (gq h (anS h1 (hρ _ _ ha) (hρ _ _ hk)))
  ·cases hs
 ·next t m k ok he=>
  rw [he];split at hs
  ·next a b ha hb=>
   obtain ⟨v,h1,rfl,rfl⟩:=iG hs;rcases rW h1 with h1 | h1
   ·exact dJ (gq h (aie h h1 (hρ _ _ ha) (hρ _ _ hb)))
   ·exact dJ (gq h (anV h h1 (hρ _ _ ha) (hρ _ _ hb)))
  ·cases hs
 ·next t m k x he=>
  rw [he];split at hs
  ·next a b c ha hb hc'=>
   obtain ⟨h1,rfl⟩:=Vw hs;rcases rW h1 with h1 | h1
   ·obtain ⟨w',h2,h3⟩:=aa7 h h1 (hρ _ _ ha) (hρ _ _ hb) (hρ _ _ hc')
    exact Gu ⟨w',η,h2,h3⟩
   ·obtain ⟨w',h2,h3⟩:=acO h h1 (hρ _ _ ha) (hρ _ _ hb) (hρ _ _ hc')
    exact Gu ⟨w',η,h2,h3⟩
  ·cases hs
 ·next t m k x he=>
  rw [he];split at hs
  ·next a b c ha hb hc'=>
   obtain ⟨h1,rfl⟩:=Vw hs;rcases rW h1 with h1 | h1
   ·obtain ⟨w',h2,h3⟩:=aa7 h h1 (hρ _ _ ha) (hρ _ _ hb) (hρ _ _ hc')
    exact Gu ⟨w',η,h2,h3⟩
   ·obtain ⟨w',h2,h3⟩:=acO h h1 (hρ _ _ ha) (hρ _ _ hb) (hρ _ _ hc')
    exact Gu ⟨w',η,h2,h3⟩
  ·cases hs
 ·next t x he=>
  rw [he];split at hs
  ·next s hu hx=>
   cases hs;have hv:=hρ _ _ hx;simp only [VR] at hv;simp only [hv];exact dJ (akG h hu)
  ·next k e hu hx=>
   cases hs;have hv:=hρ _ _ hx;simp only [VR] at hv;simp only [hv];exact dJ (akE h hu)
  ·next k e id hu hx=>
   split at hs
   ·next es hg=>
    cases hs;exact dJ (akF h hu hg (hρ _ _ hx))
   ·cases hs
  ·cases hs
 ·next it he=>
  rw [he];split at hs
  ·next a ha=>
   obtain ⟨v,h1,rfl⟩:=zN hs;obtain ⟨y,w',h2,h3,h4⟩:=ai6 (ty:=o.type) h h1 (hρ _ _ ha);exact dJ ⟨y,w',η,h2,h3,h4⟩
  ·cases hs
 ·next it he=>
  rw [he];have hov:VR η (.cO [.b false]) (.tuple #[.bool false]):=by simp only [VR];exact ⟨[_],rfl,ay.cons (by simp only [VR]) (by simp [ay])⟩
  split at hs
  ·next id ha=>
   split at hs
   ·next hg=>
    cases hs;exact dJ (gq h ⟨_,ai4 (ty:=o.type) h hg (hρ _ _ ha),hov⟩)
   ·next m hg=>
    split at hs
    ·next hm=>
     cases hs;exact dJ (gq h ⟨_,ai5 (ty:=o.type) h hg hm (hρ _ _ ha),hov⟩)
    ·cases hs
   ·cases hs
  ·cases hs
 ·next x xt t ok he=>
  rw [he];split at hs
  ·next a ha=>
   obtain ⟨v,h1,rfl,rfl⟩:=iG hs;exact dJ (gq h (aog h1 (hρ _ _ ha)))
  ·cases hs
 ·next x k he=>
  rw [he];split at hs
  ·next l ha=>
   obtain ⟨v,h1,rfl,rfl⟩:=iG hs;exact dJ (gq h (afq h1 (hρ _ _ ha)))
  ·cases hs
 ·next c he=>
  rw [he];split at hs
  ·next args hargs=>
   split at hs
   ·next b hb=>
    have hv:=FD hρ hargs;have hs:Cm P b c.argTypes args σ=some (r,σ')\/Ej P b c.argTypes args σ=some (r,σ'):=by
     cases hsf:V3 b args with
     | true=>rw [hsf,cond_true] at hs;exact (rW hs).symm
     | false=>rw [hsf,cond_false] at hs;exact rW hs
    rcases hs with hs | hs
    ·have hres:=ad7 (cs:=c.args.map fun | .const _=>true | _=>false) (ty:=o.type) h hs hv
     simp only [resolve,hb,DT,pure_bind,invoke];rw [DT] at hres;exact hres
    ·have hres:=anO (cs:=c.args.map fun | .const _=>true | _=>false) (ty:=o.type) h hs hv
     simp only [resolve,hb,DT,pure_bind,invoke];rw [DT] at hres;exact hres
   ·next f hf=>
    rw [he] at hc;exfalso;obtain ⟨callee,args,at'⟩:=c;simp only at hf;subst hf;simp [Bg] at hc
   ·next f name hf=>
    rw [he] at hc;exfalso;obtain ⟨callee,args,at'⟩:=c;simp only at hf;subst hf;simp [Bg] at hc
  ·cases hs
 ·cases hs
end
end Go.aJ
namespace Go.aJ
set_option linter.unusedSimpArgs false
noncomputable section
variable [aC]
set_option linter.unusedSectionVars false
set_option linter.unusedVariables false
variable {P:Program} {η:Env} {σ σ':aj} {w:World}
theorem YE (r:Value) (l:List Value):(#[r]++(⟨l⟩:Array Value))=⟨r::l⟩:=by apply Iq;simp
theorem ahG (name:String) (r:Value) (l:List Value):invoke (.fn (.method name) #[]) (#[r]++(⟨l⟩:Array Value))=callMethod r name ⟨l⟩:=by
 rw [YE];have e1:(⟨r::l⟩:Array Value)[0]? = some r:=by simp
 have e2:(⟨r::l⟩:Array Value).extract 1 (⟨r::l⟩:Array Value).size=⟨l⟩:=by apply Iq;simp
 have:invoke (.fn (.method name) #[]) (⟨r::l⟩:Array Value)=(do
  let some recv:=(⟨r::l⟩:Array Value)[0]? | stuck "call: a method without a receiver"
  callMethod recv name ((⟨r::l⟩:Array Value).extract 1 (⟨r::l⟩:Array Value).size)):=rfl
 rw [this,e1,e2]
theorem aiR (h:SR P η σ w) {name:String} {a rv:AV} {f:FuncId} {x:Value} (hs:LG P name σ a=some (f,rv)) (hx:VR η a x) (args:Array Value) :
 ∃y,(callMethod x name args).run P w=(callFunc f (#[y]++args)).run P w/\VR η rv y:=by
 unfold LG at hs;split at hs
 ·next t v=>
  simp only [VR] at hx;obtain ⟨xv,rfl,hv⟩:=hx;split at hs
  ·next i d hi hd=>
   split at hs
   ·next m hm=>
    split at hs
    ·next f' ptr hp hf=>
     have SK:∀y,(receiverAt t (.val xv) ptr (some ((name.splitOn ".").getLastD name))).run P w=.ok y w->
      (callMethod (.iface t xv) name args).run P w=(callFunc f' (#[y]++args)).run P w:=by
      intro y hr;have hpe:m.path.isEmpty=true:=by simpa using hp
      have:∀n:Nat,(method (n+1) t xv name).run P w=.ok (f',y) w:=by
       intro n;simp only [method,aS,BJ hi,aQ,hm,hp,follow,bf,hf,hpe,if_true,hr]
      simp only [callMethod,aS,program,Sem.run,aQ];rw [show P.types.size+Made.depth=(P.types.size+Made.depth - 1)+1 by simp [Made.depth],this];rfl
     split at hs
     ·next e=>
      cases hs;exact ⟨xv,SK _ (by simp only [receiverAt,aS,aU hd,aQ,Go.Place.get,bf]),hv⟩
     ·next e=>
      split at hs
      ·next id off=>
       simp only [aX,jG] at hs;obtain ⟨z,hz,rfl,rfl⟩:=hs;obtain ⟨y,hy,rQ⟩:=Bq h hz hv;simp only [VR] at hv;obtain ⟨q,hq,rfl⟩:=hv;refine ⟨y,SK _ ?_,rQ⟩;have hy':(loadVar e ⟨q.bl,q.ba+off,none⟩).run P w=.ok y w:=by simpa [Instr.loadAt,Instr.sureAddr] using hy
       have hwrap:∀nm:String,(Builtin.ssaWrapNilChk_ #[t] t #[.pointer (some ⟨q.bl,q.ba+off,none⟩),strVal "", strVal nm]).run P w=.ok (.pointer (some ⟨q.bl,q.ba+off,none⟩)) w:=λ_=>rfl;have has:(asAddr (.pointer (some ⟨q.bl,q.ba+off,none⟩))).run P w=.ok ⟨q.bl,q.ba+off,none⟩ w:=rfl;simp only [receiverAt,aS,aU hd,aQ,Go.Place.get,bf,hwrap,has,hy']
      ·cases hs
     ·cases hs
     ·next h1 h2 h3=>
      cases hs;refine ⟨xv,SK _ ?_,hv⟩;simp only [receiverAt,aS,aU hd,aQ];cases d<;>simp only [Go.Place.get,bf]
      all_goals simp_all
    ·cases hs
   ·cases hs
  ·cases hs
 ·cases hs
theorem Yf (h:SR P η σ w) {call:Caller} (hcall:pU P call) {o:Oper} {a:aW} {A:Act} (ht:TR P η a A) (hc:Bg o.op=true) {r:Option AV} {K:Act->World->Prop} {Q:Exit->Act->World->Prop}
 (hs:oV P call o a.eval σ=some (r,σ')) (hK:∀v x η' w',r=some v->St P η σ w η' σ' w'->VR η' v x->K (A.put o.dst x) w'):o.wp P A w K Q:=by
 have hρ:∀x v,a.eval x=some v->VR η v (A.eval x):=λx v hv=>Jp h ht x v hv;unfold oV at hs;cases hop:o.op with
 | call c=>
   rw [hop] at hc hs;simp only at hs;split at hs
   ·next args hargs=>
    obtain ⟨callee,C9,at'⟩:=c;cases callee with
    | builtin b=>simp [Bg] at hc
    | invoke rc name=>
      simp only at hs;split at hs
      ·next f rv hf=>
       simp only [uG] at hf;obtain ⟨iv,hiv,hf⟩:=hf;obtain ⟨u,h1,rfl⟩:=zN hs;have hav:=FD hρ hargs;obtain ⟨y,hm,hy⟩:=aiR h hf (hρ _ _ hiv) (⟨C9.toList.map A.eval⟩);have hcn:=hcall _ _ _ _ _ h1 η w (y::C9.toList.map A.eval) h (ay.cons hy hav);have SH:(execOp A.eval o).run P w=(callFunc f ⟨y::C9.toList.map A.eval⟩).run P w:=by
        unfold execOp;rw [hop];have e0:C9.map A.eval=⟨C9.toList.map A.eval⟩:=by apply Iq;simp
        simp only [resolve,pure_bind,e0];rw [ahG,hm,YE]
       unfold Oper.wp;rw [SH];rcases hcn with ⟨v,w',hrun,η',hst,hv⟩ | ⟨hrun,SC⟩
       ·rw [hrun]
        exact hK u v η' w' rfl hst hv
       ·rw [hrun]
        refine Calls.mono SC ?_;rintro e w' ⟨v,rfl,η',hst,hv⟩
        exact hK u v η' w' rfl hst hv
      ·cases hs
    | value f=>
      simp only at hs;split at hs
      ·next fn fi caps hf=>
       obtain ⟨u,h1,rfl⟩:=zN hs;have hfv:=hρ _ _ hf;simp only [VR] at hfv;obtain ⟨us,vs,hfe,hfi,agV⟩:=hfv;have hav:=FD hρ hargs;have hcn:=hcall _ _ _ _ _ h1 η w (us++C9.toList.map A.eval++vs) h ((hfi.append hav).append agV);have SH:(execOp A.eval o).run P w=(callFunc fn ⟨us++C9.toList.map A.eval++vs⟩).run P w:=by
        unfold execOp;rw [hop];simp only [resolve,hfe,Deferred.ofValue,pure_bind,invoke];congr 2;apply Iq;simp
       unfold Oper.wp;rw [SH];rcases hcn with ⟨v,w',hrun,η',hst,hv⟩ | ⟨hrun,SC⟩
       ·rw [hrun]
        exact hK u v η' w' rfl hst hv
       ·rw [hrun]
        refine Calls.mono SC ?_;rintro e w' ⟨v,rfl,η',hst,hv⟩
        exact hK u v η' w' rfl hst hv
      ·cases hs
   ·cases hs
 | _=>rw [hop] at hc;simp [Bg] at hc
theorem ape {ops:Array Oper} {j:Nat} {o:Oper} {d:Nat} {a:aW} {A:Act} {x:Bool} (ht:TR P η a A) (ho:ops[j]? = some o) (hd:o.dst=some d) (hx:dB (a.t.get d)=some (.b x)):yielded ops A.tmps j=some x:=by
 obtain ⟨vd,hx,himp⟩:=Dl hx;obtain ⟨y,hy,hv⟩:=ht.slot d _ hx;have hv:=himp _ _ hv;simp only [VR] at hv;subst hv;simp only [yielded,ho,yV,hd,hy]
theorem Ad {o:Oper} {ops:Array Oper} {a:aW} {A:Act} {b:Bool} (ht:TR P η a A) (hw:Ac o ops a=some b):Region.wanted o (yielded ops A.tmps)=b:=by
 unfold Ac at hw;unfold Region.wanted;split at hw
 ·next hg=>rw [hg];cases hw;rfl
 ·next j want hg=>
  rw [hg];split at hw
  ·next q hq=>
   split at hw
   ·next d hd=>
    split at hw
    ·next x hx=>
     cases hw;simp only [ape ht hq hd hx];cases x<;>cases want<;>rfl
    ·next l hx=>
     cases hw;obtain ⟨vd,hx,himp⟩:=Dl hx;obtain ⟨y,hy,hv⟩:=ht.slot d _ hx;have hv:=himp _ _ hv;simp only [VR] at hv;obtain ⟨vs,rfl,_⟩:=hv;simp only [yielded,hq,yV,hd,hy];cases want<;>rfl
    ·cases hw
   ·cases hw
  ·cases hw
theorem step_ok (h:SR P η σ w) {call:Caller} (hcall:pU P call) {ops:Array Oper} {i:Nat} {a a':aW} {A:Act} (ht:TR P η a A) {K:Act->World->Prop} {Q:Exit->Act->World->Prop}
 (hs:QL P call ops i a σ=some (a',σ')) (hK:∀η' A' w',St P η σ w η' σ' w'->TR P η' a' A'->K A' w'):wpOp P ops Q i K A w:=by
 unfold QL at hs;unfold wpOp;split at hs
 ·cases hs
 ·next o ho=>
  rw [ho];simp only;split at hs
  ·cases hs
  ·next hw=>
   rw [Ad ht hw];simp only [fM,if_false];simp only [aX,jG] at hs;obtain ⟨a1,hp,rfl,rfl⟩:=hs;exact hK η _ w (St.refl h) (ht.put hp (by rintro u hu;cases hu;exact ⟨[],rfl,rfl⟩))
  ·next hw=>
   rw [Ad ht hw];simp only [if_true];split at hs
   ·cases hs
   ·next r σ1 hop=>
    rw [rH] at hop;simp only [aX,jG] at hs;obtain ⟨a1,hp,rfl,rfl⟩:=hs;left;cases hc:Bg o.op with
    | true=>
      refine Yf h hcall ht hc hop λv x η' w' hr hst hv=>?_;exact hK η' _ w' hst ((ht.mono hst.ext).put hp (λu hu=>by rw [hr] at hu;cases hu;exact hv))
    | false=>
      obtain ⟨nx,w',η',hrun,hst,hres⟩:=abD h (λx v hv=>Jp h ht x v hv) hc hop;unfold Oper.wp;rw [hrun];cases r with
      | none=>subst hres;exact hK η' _ w' hst ((ht.mono hst.ext).put hp (by simp))
      | some v=>
        obtain ⟨x,rfl,hv⟩:=hres;exact hK η' _ w' hst ((ht.mono hst.ext).put hp (λu hu=>by cases hu;exact hv))
theorem abG {call:Caller} (hcall:pU P call) {ops:Array Oper} {Q:Exit->Act->World->Prop}:∀ (l:List Nat) {η:Env} {σ:aj} {w:World} {a a':aW} {A:Act},SR P η σ w->TR P η a A->
 EY P call ops l a σ=some (a',σ')->(∀η' A' w',St P η σ w η' σ' w'->TR P η' a' A'->Q .normal A' w')->wpOps P ops Q l A w
 | [],η,σ,w,a,a',A,h,ht,hs,hK=>by
   simp only [EY,aT,jG] at hs;obtain ⟨rfl,rfl⟩:=hs;exact hK η A w (St.refl h) ht
 | i::l,η,σ,w,a,a',A,h,ht,hs,hK=>by
   rw [wpOps_cons];unfold EY at hs;split at hs
   ·next a1 σ1 h1=>
    refine step_ok h hcall ht h1 λη1 A1 w1 hst ht1=>?_;exact abG hcall l hst.rel ht1 hs λη' A' w' hst' ht'=>hK η' A' w' (hst.trans hst') ht'
   ·cases hs
def dK.toExit:dK->Exit
 | .normal=>.normal
 | .exit id=>.exit id
 | .ret=>.ret
def Iu (P:Program) (dr:Caller->xC):Prop:=∀call,pU P call->∀ops a σ a' σ',dr call ops a σ=some (a',σ')->∀η w A id Q,SR P η σ w->TR P η a A->
 (∀η' A' w',St P η σ w η' σ' w'->TR P η' a' A'->Q .normal A' w')->(Code.region id ops true).wp P Q A w
def Lh (P:Program) (pr:uH):Prop:=∀f g,pr f=some g->∀args σ r σ',g args σ=some (r,σ')->∀η w vs,SR P η σ w->ay η args vs->
 iU P f ⟨vs⟩ w λv w'=>∃η',St P η σ w η' σ' w'/\VR η' r v
def sK (P:Program):Prop:=∀ (f:Nat) fn c,P.funcs[f]? = some fn->fn.body=some c->(fn.name == "runtime.NumGoroutine")=false
def IU (P:Program) (run:Code->aW->aj->Option (dK×aW×aj)):Prop:=∀c a σ e a' σ',run c a σ=some (e,a',σ')->∀η w A Q,SR P η σ w->TR P η a A->
 (∀η' A' w',St P η σ w η' σ' w'->TR P η' a' A'->Q e.toExit A' w')->c.wp P Q A w
theorem J9 (h:SR P η σ w) {a:aW} {A:Act} (ht:TR P η a A) (F:ResultVar->Sem Value) (hF1:∀t,F (.tmp t)=pure (A.tmps.getD t undef)) (hF2:∀a t,F (.cell a t)=(do loadVar t (<- asAddr (A.tmps.getD a undef)))) :
 ∀ (rs:List ResultVar) (l:List AV),xR P σ a rs=some l->∃vs,(rs.mapM F).run P w=.ok vs w/\ay η l vs
 | [],l,hl=>by simp only [xR,aT] at hl;subst hl;exact ⟨[],rfl,by simp [ay]⟩
 | .tmp t::rs,l,hl=>by
   unfold xR at hl;split at hl
   ·next v r hv hr=>
    cases hl;obtain ⟨vs,h1,h2⟩:=J9 h ht F hF1 hF2 rs r hr;obtain ⟨x,hx,jd⟩:=ht.slot t v hv;refine ⟨x::vs, ?_,ay.cons jd h2⟩;simp only [Xi,hF1,aS,bf,aQ,h1];rw [vw,hx];rfl
   ·cases hl
 | .cell t ty::rs,l,hl=>by
   unfold xR at hl;split at hl
   ·next v r hv hr=>
    cases hl;obtain ⟨vs,h1,h2⟩:=J9 h ht F hF1 hF2 rs r hr;simp only [uG] at hv;obtain ⟨p,hp,hv⟩:=hv;obtain ⟨x,hx,jd⟩:=ht.slot t p hp;obtain ⟨y,hy,rQ⟩:=Bq h hv jd;refine ⟨y::vs, ?_,ay.cons rQ h2⟩;have hxa:∃ad,x=.pointer (some ad):=by
     cases p<;>simp [sU] at hv
     ·simp only [VR] at jd
      obtain ⟨q,_,rfl⟩:=jd;exact ⟨_,rfl⟩
     ·simp only [VR] at jd
      obtain ⟨bl,base,cs,elem,fr,x,_,_,rfl,_⟩:=jd;exact ⟨_,rfl⟩
    obtain ⟨ad,rfl⟩:=hxa;have hg:A.tmps.getD t undef=.pointer (some ad):=by rw [vw,hx];rfl
    have hy':(loadVar ty ad).run P w=.ok y w:=by simpa [Instr.loadAt,Instr.sureAddr] using hy
    have agP:(asAddr (A.tmps.getD t undef)).run P w=.ok ad w:=by rw [hg];rfl
    simp only [Xi,hF2,aS,bf,aQ,h1,agP,hy']
   ·cases hl
theorem aof {l:List AV} {vs:List Value} (h:ay η l vs):VR η (BN l) (if h:(⟨vs⟩:Array Value).size=1 then (⟨vs⟩:Array Value)[0] else .tuple ⟨vs⟩):=by
 have hl:=h.length;unfold BN;split
 ·next v=>
  simp only [ay] at h;obtain ⟨x,_,rfl,hx,rfl⟩:=h;simpa using hx
 ·next hne=>
  have:(⟨vs⟩:Array Value).size≠1:=by
   intro e;have:l.length=1:=by rw [hl];exact e
   obtain ⟨v,rfl⟩:=Qw.1 this;exact hne v rfl
  rw [dif_neg this];simp only [VR];exact ⟨vs,rfl,h⟩
theorem XT:∀ (args:List AV) (k:Nat) (t:Tr AV) (j:Nat),(wM args k t).get j=if k<=j/\j < k+args.length then args[j - k]? else t.get j
 | [],k,t,j=>by simp [wM];omega
 | v::args,k,t,j=>by
   rw [wM,XT args (k+1)];simp only [jT];by_cases h1:k+1<=j/\j < k+1+args.length
   ·rw [ak h1,ak (by omega)]
    have:j - k=(j - (k+1))+1:=by omega
    rw [this];simp
   ·rw [ah h1,Tr.tJ]
    by_cases h2:j=k
    ·subst h2;rw [ak rfl,ak (by omega)];simp
    ·rw [ah h2,ah (by omega)]
theorem Rw {args:List AV} {vs:List Value} {n:Nat} (h:ay η args vs) :
 TR P η { t:=wM args 0 .nil,n:=max args.length n,gn:=P.globals.size } { tmps:=(⟨vs⟩:Array Value)++Array.replicate (n - (⟨vs⟩:Array Value).size) undef,defers:=[] }:=by
 have hl:=h.length;refine ⟨rfl, ?_,rfl,λt v hv=>?_⟩
 ·simp;omega
 ·rw [XT] at hv
  split at hv
  ·next hr=>
   obtain ⟨x,hx,jd⟩:=h.at hv;refine ⟨x, ?_,jd⟩;simp only [Ce] at hx;have hlt:=(dL.1 hx).1;rw [Ql (by simpa using hlt)];simpa using hx
  ·simp at hv
theorem Ye {pr:uH} {run:Code->aW->aj->Option (dK×aW×aj)} (hp:Lh P pr) (hn:sK P) (hr:IU P run):pU P (CZ P pr run):=by
 intro f args σ r σ' hs η w vs h hv;unfold CZ at hs;split at hs
 ·next g hg=>exact hp f g hg args σ r σ' hs η w vs h hv
 ·split at hs
  ·cases hs
  ·next fn hfn=>
   split at hs
   ·cases hs
   ·next c hc=>
    have key:∀ (e:dK) a',(e=.normal\/e=.ret)->run c { t:=wM args 0 .nil,n:=max args.length fn.ntmps,gn:=P.globals.size } σ=some (e,a',σ')->∀l,xR P σ' a' fn.results.toList=some l->r=BN l->
     iU P f ⟨vs⟩ w λv w'=>∃η',St P η σ w η' σ' w'/\VR η' r v:=by
     intro e a' he hrun l hl hrl;right;refine ⟨?_, ?_⟩
     ·have hname:=hn f fn c hfn hc
      simp only [callFunc,aS,program,Sem.run,aQ,hfn];simp only [hname,fM,if_false,hc,ER,bf]
     ·refine calls_of_wp hfn hc ?_
      refine hr c _ _ _ _ _ hrun η w _ _ h (Rw hv) ?_;intro η' A' w' hst ht;have hres:∃us,(results fn A'.tmps).run P w'=.ok (if h:(⟨us⟩:Array Value).size=1 then (⟨us⟩:Array Value)[0] else .tuple ⟨us⟩) w'/\ay η' l us:=by
       unfold results;rw [Qm];simp only [aS,QG];obtain ⟨us,h1,h2⟩:=J9 hst.rel ht (fun | .tmp t=>pure (A'.tmps.getD t undef) | .cell a t=>do loadVar t (<- asAddr (A'.tmps.getD a undef))) (λ_=>rfl) (λ_ _=>rfl) _ _ hl;refine ⟨us, ?_,h2⟩;exact tq (λr:Result (List Value)=>(r.andThen λa w'=>Result.ok a.toArray w').andThen λa w'=>Sem.run P (pure (if h:a.size=1 then a[0] else Value.tuple a)) w') h1
      obtain ⟨us,hres,h2⟩:=hres
      have hpost:A'.defers=[]/\∃v,(results fn A'.tmps).run P w'=.ok v w'/\∃v',Ending.returned v=.returned v'/\∃η',St P η σ w η' σ' w'/\VR η' r v':=
       ⟨ht.none,_,hres,_,rfl,η',hst,by rw [hrl];exact aof h2⟩
      rcases he with rfl | rfl
      ·exact hpost
      ·exact hpost
    split at hs
    ·next a' σ1 hrun=>
     simp only [aX,jG] at hs;obtain ⟨l,hl,h1,h2⟩:=hs;subst h2;exact key _ a' (.inl rfl) hrun l hl h1.symm
    ·next a' σ1 hrun=>
     simp only [aX,jG] at hs;obtain ⟨l,hl,h1,h2⟩:=hs;subst h2;exact key _ a' (.inr rfl) hrun l hl h1.symm
    ·cases hs
theorem Yz {dr:Caller->xC} {pr:uH} (hd:Iu P dr) (hp:Lh P pr) (hn:sK P):∀n:Nat,IU P (Ap P dr pr n)/\
 (∀b a σ e a' σ',Ap P dr pr n (.loop b) a σ=some (e,a',σ')->∀η w A Q,SR P η σ w->TR P η a A->(∀η' A' w',St P η σ w η' σ' w'->TR P η' a' A'->Q e.toExit A' w')->Code.rounds P b Q n A w):=by
 intro n;induction n with
 | zero=>exact ⟨λc a σ e a' σ' hs=>by simp [XG] at hs,λb a σ e a' σ' hs=>by simp [XG] at hs⟩
 | succ n ih=>
   obtain ⟨ih1,ih2⟩:=ih;have hcall:=Ye hp hn ih1;have aaZ:∀b a σ e a' σ',Ap P dr pr (n+1) (.loop b) a σ=some (e,a',σ')->∀η w A Q,SR P η σ w->TR P η a A->(∀η' A' w',St P η σ w η' σ' w'->TR P η' a' A'->Q e.toExit A' w')->Code.rounds P b Q (n+1) A w:=by
    intro b a σ e a' σ' hs η w A Q h ht hK;rw [rounds_succ];simp only [sO,qK] at hs;split at hs
    ·next a1 σ1 h1=>
     refine ih1 _ _ _ _ _ _ h1 η w A _ h ht ?_;intro η1 A1 w1 hst ht1;exact ih2 _ _ _ _ _ _ hs η1 w1 A1 Q hst.rel ht1 λη' A' w' hst' ht'=>hK η' A' w' (hst.trans hst') ht'
    ·next hne=>
     refine ih1 _ _ _ _ _ _ hs η w A _ h ht ?_;intro η1 A1 w1 hst ht1;cases e with
     | normal=>exact absurd hs (by intro e';exact hne _ _ e')
     | exit id=>exact hK η1 A1 w1 hst ht1
     | ret=>exact hK η1 A1 w1 hst ht1
   refine ⟨?_,aaZ⟩;intro c a σ e a' σ' hs η w A Q h ht hK;cases c with
   | loop b=>exact wp_loop_rounds (n+1) (aaZ b a σ e a' σ' hs η w A Q h ht hK)
   | skip=>simp only [sO,qK,aT,jG] at hs;obtain ⟨rfl,rfl,rfl⟩:=hs;exact wp_skip (hK η A w (St.refl h) ht)
   | region id ops draw=>
     cases draw with
     | false=>
       simp only [sO,qK,aX,jG] at hs;obtain ⟨⟨a1,σ1⟩,h1,rfl,rfl,rfl⟩:=hs;exact wp_region (abG hcall _ h ht h1 hK)
     | true=>
       simp only [sO,qK,aX,jG] at hs;obtain ⟨⟨a1,σ1⟩,h1,rfl,rfl,rfl⟩:=hs;exact hd _ hcall ops a σ _ _ h1 η w A id Q h ht hK
   | seq x y=>
     simp only [sO,qK] at hs;refine wp_seq ?_;split at hs
     ·next a1 σ1 h1=>
      refine ih1 _ _ _ _ _ _ h1 η w A _ h ht ?_;intro η1 A1 w1 hst ht1;exact ih1 _ _ _ _ _ _ hs η1 w1 A1 Q hst.rel ht1 λη' A' w' hst' ht'=>hK η' A' w' (hst.trans hst') ht'
     ·next hne=>
      refine ih1 _ _ _ _ _ _ hs η w A _ h ht ?_;intro η1 A1 w1 hst ht1;cases e with
      | normal=>exact absurd hs (by intro e';exact hne _ _ e')
      | exit id=>exact hK η1 A1 w1 hst ht1
      | ret=>exact hK η1 A1 w1 hst ht1
   | cond x y z=>
     simp only [sO,qK] at hs;split at hs
     ·next t hx=>
      obtain ⟨vd,hx,himp⟩:=Dl hx;have hv:=himp _ _ (Jp h ht x _ hx);simp only [VR] at hv;refine wp_cond hv ?_;exact ih1 _ _ _ _ _ _ hs η w A Q h ht hK
     ·cases hs
   | block id b=>
     simp only [sO,qK] at hs;refine wp_block ?_;split at hs
     ·next id' a1 σ1 h1=>
      refine ih1 _ _ _ _ _ _ h1 η w A _ h ht ?_;intro η1 A1 w1 hst ht1;simp only [dK.toExit,Exit.inBlock];split at hs
      ·next e1=>
       cases hs;rw [ak e1];exact hK η1 A1 w1 hst ht1
      ·next e1=>
       cases hs;rw [ah e1];exact hK η1 A1 w1 hst ht1
     ·next hne=>
      refine ih1 _ _ _ _ _ _ hs η w A _ h ht ?_;intro η1 A1 w1 hst ht1;cases e with
      | normal=>exact hK η1 A1 w1 hst ht1
      | exit id'=>exact absurd hs (by intro e';exact hne _ _ _ e')
      | ret=>exact hK η1 A1 w1 hst ht1
   | exit id=>simp only [sO,qK,aT,jG] at hs;obtain ⟨rfl,rfl,rfl⟩:=hs;exact wp_exit (hK η A w (St.refl h) ht)
   | ret=>simp only [sO,qK,aT,jG] at hs;obtain ⟨rfl,rfl,rfl⟩:=hs;exact wp_ret (hK η A w (St.refl h) ht)
   | rangeFunc _ _ _ _=>simp [sO,qK] at hs
   | scope _=>simp [sO,qK] at hs
   | label _=>simp [sO,qK] at hs
   | goto _=>simp [sO,qK] at hs
   | refuse _=>simp [sO,qK] at hs
theorem adJ {dr:Caller->xC} {pr:uH} (hd:Iu P dr) (hp:Lh P pr) (hn:sK P) (n:Nat):pU P (XF P dr pr n):=
 Ye hp hn (Yz hd hp hn n).1
end
end Go.aJ
