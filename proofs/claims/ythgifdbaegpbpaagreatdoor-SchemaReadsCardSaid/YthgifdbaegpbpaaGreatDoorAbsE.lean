/- Values that are named by nodes: append, make, conversions, strings.Builder's string. -/
import Derived.Test.YthgifdbaegpbpaaGreatDoorAbsD
import Derived.Test.YthgifdbaegpbpaaGreatDoorAbsC
namespace Go.aK
set_option linter.unusedSimpArgs false
noncomputable section
variable [aH]
set_option linter.unusedSectionVars false
set_option linter.unusedVariables false
variable {P:Program} {η:Env} {σ σ':au} {w:World}
theorem St.NK {η':Env} {w':World} (h:St P η σ w η' σ' w') (id:Nat):St P η σ w η' (σ'.kill id) w':=
 h.sub (λk o hk=>by rw [au.vS] at hk;split at hk;cases hk;exact hk) (dH _) rfl
theorem St.uX {η':Env} {τ:au} {w':World} {m e size:Nat} {f:Bool} {xs:List GV} {c:List AV} {y:Value} (h:St P η σ w η' (τ.new (.cells c e true true)) w') (hv:aH.val m=some (.l xs)) (hs:∀x∈xs,x.cells.length=size/\x.cells.all GV.scalar=true) (hn:sizeT P e=some size)
 (hc:∀vs,aA η' c vs->aA η' (bC xs) vs) (hy:VR η' (.sl τ.next 0 xs.length none) y) (hf:f=true->xs≠[]):St P η σ w η' (τ.new (.vec m e f)) w'/\VR η' (.sv τ.next m) y:=by
 simp only [VR] at hy;obtain ⟨q,hq,hle,rfl⟩:=hy;have hg:(τ.new (.cells c e true true)).get τ.next=some (.cells c e true true):=by rw [au.oV,ak rfl]
 have hor:=h.rel.at hg hq;have hes:q.es=size:=by
  obtain ⟨_,_,_,_,r⟩:=hor;have:=(r.room rfl).2.2;rw [hn] at this;cases this;rfl
 have hpos:f=true->q.es<=q.sz:=λe=>by
  have hne:=hf e;have:0 < xs.length:=Bq.2 hne;simp only [uF,xX] at hle;have h1:1<=q.sz / q.es:=by omega
  exact jS (by simpa using sJ q.es h1) (Nat.div_mul_le_self q.sz q.es)
 have hnew:OR P η' q w' (.vec m e f):=OR.uX hpos hv (λx hx=>by rw [hes];exact (hs x hx).1) (λx hx=>(hs x hx).2) hor hc;refine ⟨h.right ?_ rfl rfl ?_,by simp only [VR];exact ⟨xs,hv,.inl ⟨q,hq,by simpa using hle,by simp⟩⟩⟩
 ·refine (h.rel.swap (o':=.vec m e f) hg rfl (.inl ⟨q,hq,hnew⟩)).sub (λk o hk=>?_) (dH _)
  rw [au.oV] at hk;rw [au.get_put,au.oV];split at hk
  ·next e1=>rw [ak e1];exact hk
  ·next e1=>rw [ah e1,ah e1];exact hk
 ·intro k o hk ho
  rw [au.oV] at hk ⊢;split at hk
  ·next e1=>rw [ak e1];exact ⟨_,rfl,rfl⟩
  ·next e1=>rw [ah e1];exact ⟨o,hk,ho⟩
theorem Ad {xs:List GV} {size:Nat} (h:xs.all (GV.fF size)=true):∀x∈xs,x.cells.length=size/\x.cells.all GV.scalar=true:=by
 intro z hz;have:=List.all_eq_true.1 h z hz;unfold GV.fF at this;rw [aJ] at this;exact ⟨Nat.eq_of_beq_eq_true this.1,this.2⟩
theorem aes {xs:List GV} {size:Nat} (h:∀x∈xs,x.cells.length=size/\x.cells.all GV.scalar=true):(bC xs).all AV.lX=true:=by
 unfold bC;refine RH ?_;rw [List.all_eq_true];intro g hg;obtain ⟨z,hz,hgz⟩:=Xb.1 hg;exact List.all_eq_true.1 (h z hz).2 g hgz
theorem X9 (xs ys:List GV):bC (xs++ys)=bC xs++bC ys:=by unfold bC;rw [WY,DY]
theorem DN {xs:List GV} {size:Nat} (h:∀x∈xs,x.cells.length=size):(bC xs).length=xs.length * size:=by rw [bC,kW,Jk h]
def VH (P:Program) (σ:au) (e size:Nat) (t1:TypeId) (x:AV):Option Nat:=
 match P.underlying t1 with
 | some .string=>if size=1 then match iw x with
    | some n=>dS (.bytes n)
    | none=>none
   else none
 | some (.slice _)=>listOf P σ e x
 | _=>none
theorem O3 (h:SR P η σ w) {e size:Nat} {t1:TypeId} {x:AV} {b:Nat} {u:Value} {xs:List GV} (hs:VH P σ e size t1 x=some b) (hx:VR η x u) (hn:sizeT P e=some size) (hv:aH.val b=some (.l xs)) (hok:xs.all (GV.fF size)=true) :
 ∃ys,Src P size t1 u xs.length ys w/\aA η (bC xs) ys:=by
 unfold VH at hs;split at hs
 ·next ht=>
  split at hs
  ·next h1=>
   subst h1;split at hs
   ·next n hn'=>
    obtain ⟨g,g1,g2,g3⟩:=kX hn' hx;obtain ⟨g',k1,k2⟩:=fG hs;rw [hv] at k1;cases k1;simp only [Nd.den,g1] at k2;split at k2
    ·next s e1=>
     cases e1;cases k2;have hT:Ci P t1=true:=by unfold Ci;rw [ht]
     have:=src_ok h hT (size:=1) (n:=s.length) (l:=sW s) (a:=.s s) (x:=u) (by simp [vX]) ((kU (.s s) u).1 g3) (by unfold sW;simp [AV.lX]);rw [XV];have hl:(nX s).length=s.length:=by simp [nX]
     rw [hl];exact this
    ·cases k2
   ·cases hs
  ·cases hs
 ·next ht=>exact ajk h hs hx ht hn hv hok
 ·cases hs
theorem ajj {e size id len:Nat} {cap:Option Nat} {a et:Nat} {c:List AV} {qZ opn:Bool} (hg:σ.get id=some (.cells c et qZ opn)) (hl:listOf P σ e (.sl id 0 len cap)=some a) (hn:sizeT P e=some size) (hlen:c.length=len * size) :
 ∃ns,(∀ {η:Env} {vs:List Value},aA η c vs->∃gs,valsOf aH.val ns=some gs/\gs.length=len/\aA η (bC gs) vs/\∀x∈gs,x.cells.length=size/\x.cells.all GV.scalar=true)/\∀gs,valsOf aH.val ns=some gs->aH.val a=some (.l gs):=by
 simp only [listOf,hg,hn] at hl;split at hl
 ·next c' DV rw' JJ size' agg hg' hsz hag=>
  cases hg';cases hsz;split at hl
  ·next hc=>
   rw [aJ,mg,aJ] at hc;have hagg:agg=false->size=1:=by
    intro e;subst e;rcases hc.2 with h1 | h1
    ·simp at h1
    ·exact bn h1
   have htk:takeN c 0 (len * size)=some c:=by
    unfold takeN;rw [dF,mG (by omega),ak hlen]
   rw [htk] at hl;simp only at hl;split at hl
   ·next ns hns=>
    refine ⟨ns,λ{η vs} hv=>?_,λgs hgs=>?_⟩
    ·obtain ⟨gs,k1,k2,k3,_,k5⟩:=BP (η:=η) hagg len hns hv hlen
     exact ⟨gs,k1,k2,k3,k5⟩
    ·obtain ⟨g,g1,g2⟩:=fG hl
     simp only [Nd.den,hgs,gy,aQ] at g2;rw [g2];exact g1
   ·cases hl
  ·cases hl
 ·cases hl
set_option maxHeartbeats 1000000 in
theorem ap7 (h:SR P η σ w) {ts:Array TypeId} {ty:TypeId} {s x v:AV} {u u':Value} (hs:VL P ts s x σ=some (v,σ')) (hu:VR η s u) (hx:VR η x u') :
 ∃y w' η',(Builtin.append_ ts ty #[u,u']).run P w=.ok y w'/\St P η σ w η' σ' w'/\VR η' v y:=by
 unfold VL at hs;split at hs
 ·next t t1 hts=>
  have:=LK hts;subst this;split at hs
  ·next e size bytes z hi=>
   obtain ⟨_,_,_,he,_,hn⟩:=yF hi;split at hs
   ·cases hs
   ·next h0=>
    split at hs
    ·cases hs
    ·next b hb=>
     have hb':VH P σ e size t1 x=some b:=hb;have app:∀ {a m:Nat} {xs:List GV},dS (.app size bytes a b)=some m->aH.val a=some (.l xs)->∃ys,aH.val b=some (.l ys)/\aH.val m=some (.l (xs++ys))/\ys.all (GV.fF size)=true/\2 * (xs.length+ys.length) * bytes<=2 ^ 48/\xs.length+ys.length<=2 ^ 48:=by
      intro a m xs hm ha;obtain ⟨g,g1,g2⟩:=fG hm;simp only [Nd.den,ha] at g2;split at g2
      ·next xs' ys e1 e2=>
       cases e1;split at g2
       ·next hc=>cases g2;exact ⟨ys,e2,g1,hc.1,hc.2.1,hc.2.2⟩
       ·cases g2
      ·cases g2
     have LJ:∀ {ys:List GV} {S:AV} {n:Nat},ys.all (GV.fF size)=true->sliceLen S=n->2 * (n+ys.length) * bytes<=2 ^ 48->n+ys.length<=2 ^ 48->¬ (size=0\/(bC ys).all AV.lX=false\/¬ (2 * (sliceLen S+ys.length) * bytes<=2 ^ 48/\sliceLen S+ys.length<=2 ^ 48)):=by
      intro ys S n h1 h2 h3 h4;rw [aes (Ad h1),h2];simp [h0];omega
     have ml0:∀ {a:Nat},dS (.ml [])=some a->aH.val a=some (.l []):=by
      intro a ha;obtain ⟨g,g1,g2⟩:=fG ha;simp only [Nd.den,valsOf,gy,aQ] at g2;subst g2;exact g1
     have abv:∀ {a m:Nat} {τ:au},aH.val a=some (.l [])->dS (.app size bytes a b)=some m->u=.slice none 0 0->τ.lock=σ.lock->τ.next=σ.next->(∀k o,τ.get k=some o->σ.get k=some o)->
      ∀f:Bool,∃y w' η',(Builtin.append_ #[t,t1] ty #[u,u']).run P w=.ok y w'/\St P η σ w η' (τ.new (.vec m e f)) w'/\VR η' (.sv σ.next m) y:=by
      intro a m τ ha hm hu0 hl hnx hsub f;obtain ⟨ys,y1,y2,y3,y4,y5⟩:=app hm ha;obtain ⟨zs,z1,z2⟩:=O3 h hb' hx hn y1 y3;have hlen:=DN (λx hx=>(Ad y3 x hx).1);simp only [eP,xR,iZ] at y2 y4 y5;have hc:=LJ (S:=.bf) (n:=0) y3 rfl (by simpa using y4) (by simpa using y5);by_cases hz:ys.length=0
      ·have hys:ys=[]:=lq hz
       subst hys;have hto:nU e size bytes .bf 0 (bC []) σ=some (.bf,σ):=by unfold nU;rw [ah (by simpa using hc)];rfl
       obtain ⟨y,w',η',r1,r2,r3⟩:=zW (ty:=ty) h hi z1 z2 hlen hto (u:=u) (by simp only [VR];exact hu0);refine ⟨y,w',η'.ghost σ.next,r1,r2.trans ?_, ?_⟩
       ·exact St.ghost r2.rel y2 hl hnx hsub
       ·simp only [VR] at r3 ⊢
        exact ⟨[],y2,.inr ⟨by simp [Env.ghost],rfl,r3⟩⟩
      ·have hto:nU e size bytes .bf ys.length (bC ys) σ=some (.sl σ.next 0 ys.length none,σ.new (.cells (bC ys) e true true)):=by
        unfold nU;rw [ah hc];simp only;rw [ah hz]
       obtain ⟨y,w',η',r1,r2,r3⟩:=zW (ty:=ty) h hi z1 z2 hlen hto (u:=u) (by simp only [VR];exact hu0);obtain ⟨q1,q2⟩:=St.uX (f:=f) r2 y2 (Ad y3) hn (λ_ h=>h) r3 (λ_ e=>hz (by rw [e];rfl));refine ⟨y,w',η',r1,q1.sub (λk o hk=>?_) (by show σ.next+1<=τ.next+1;omega) hl,q2⟩;rw [au.oV] at hk ⊢;rw [hnx] at hk;split at hk
       ·next e1=>rw [ak e1];exact hk
       ·next e1=>rw [ah e1];exact hsub k o hk
     split at hs
     ·split at hs
      ·next a ha=>
       obtain ⟨m,hm,e1⟩:=aX.1 hs;cases e1;simp only [VR] at hu;exact abv (τ:=σ) (ml0 ha) hm hu rfl rfl (λ_ _ h=>h) true
      ·cases hs
     ·next id n=>
      split at hs
      ·next a et f hg=>
       split at hs
       ·next hcnd=>
        rw [aJ,aJ] at hcnd;obtain ⟨⟨het,hsl⟩,hlk⟩:=hcnd;have D7:=bn het;subst D7;have Ap:=qL hlk;obtain ⟨m,hm,e1⟩:=aX.1 hs;cases e1;simp only [VR] at hu;obtain ⟨xn,n1,hu⟩:=hu;rcases h.live id _ hg with ⟨q,hq,hor⟩ | ⟨hgh,m0,et0,f0,e0,hv0⟩
        ·obtain ⟨xs,x1,x2,x3,x4,x5,x6,x7,hS⟩:=Ht h hg hq
         have hlen0:=vV 100 hsl x1 n1;rw [hn] at x5;cases x5;rcases hu with ⟨q',hq',hle,rfl⟩ | ⟨hgh,_,_⟩
         ·rw [hq] at hq';cases hq'
          obtain ⟨ys,y1,y2,y3,y4,y5⟩:=app hm x1;have hcl:=DN x2;have hall:∀x∈xs++ys,x.cells.length=q.es/\x.cells.all GV.scalar=true:=by
           intro x hx;rcases qJ.1 hx with hx | hx
           ·exact ⟨x2 x hx,x7 x hx⟩
           ·exact Ad y3 x hx
          obtain ⟨zs,z1,z2⟩:=O3 h hb' hx hn y1 y3;have hlen:=DN (λx hx=>(Ad y3 x hx).1);have hc:=LJ (S:=.sl id 0 xs.length none) (n:=xs.length) y3 rfl y4 y5;rw [<- hlen0] at hle ⊢;have hus:VR η (.sl id 0 xs.length none) (.slice (some ⟨q.bl,q.ba,none⟩) xs.length (q.sz / q.es)):=by simp only [VR];exact ⟨q,hq,by simpa using hle,by simp⟩
          by_cases hz:ys.length=0
          ·have hys:ys=[]:=lq hz
           subst hys;rw [pI] at y2;have hto:nU et q.es bytes (.sl id 0 xs.length none) 0 (bC []) (jH σ id xs et)=some (.sl id 0 xs.length none,jH σ id xs et):=by unfold nU;rw [ah (by simpa using hc)];rfl
           obtain ⟨y,w',η',r1,r2,r3⟩:=zW (ty:=ty) hS hi z1 z2 hlen hto hus;have r2':=Kr hg r2;have hgu:(jH σ id xs et).get id=some (.cells (bC xs) et true true):=Bd;have hq2:=r2.ext.pl _ _ hq;have hor2:=r2.rel.at hgu hq2;have hv2:OR P (η'.put σ.next q) q w' (.vec m et f):=by
            have hle2:=Env.EC r2.rel q;refine OR.uX (λe=>by subst e;exact hor.PI) y2 x2 x7 (hor2.mono hle2) (λ_ h=>h)
           have Jq:=St.again (q':=q) r2.rel hgu rfl (show (jH σ id xs et).lock<=id from Ap) hq2 rfl rfl (λ_ _=>rfl) rfl rfl rfl hv2;refine ⟨y,w',η'.put σ.next q,r1,(r2'.trans Jq).sub (λk o hk=>?_) (dH _) rfl, ?_⟩
           ·rw [au.oV,au.vS] at hk ⊢
            split at hk
            ·next e1=>rw [ak (show k=((jH σ id xs et).kill id).next from e1)];exact hk
            ·next e1=>
             rw [ah (show ¬ k=((jH σ id xs et).kill id).next from e1)];split at hk
             ·cases hk
             ·next e2=>rw [ah e2];unfold jH;rw [au.get_put,ah e2];exact hk
           ·simp only [VR] at r3 ⊢
            obtain ⟨q3,hq3,hle3,rfl⟩:=r3;rw [hq2] at hq3;cases hq3;exact ⟨xs,y2,.inl ⟨q,by simp [Env.put],by simpa using hle3,by simp⟩⟩
          ·have htk:takeN (bC xs) 0 (xs.length * q.es)=some (bC xs):=by
            unfold takeN;rw [dF,mG (by omega),ak hcl]
           have hto:nU et q.es bytes (.sl id 0 xs.length none) ys.length (bC ys) (jH σ id xs et)=some (.sl σ.next 0 (xs.length+ys.length) none,((jH σ id xs et).kill id).new (.cells (bC xs++bC ys) et true true)):=by
            unfold nU;rw [ah hc];simp only;rw [ah hz,ak (show (jH σ id xs et).lock<=id from Ap),Bd];simp only [if_true,htk,gy];rfl
           obtain ⟨y,w',η',r1,r2,r3⟩:=zW (ty:=ty) hS hi z1 z2 hlen hto hus;obtain ⟨q1,q2⟩:=St.uX (size:=q.es) (Kr hg r2) y2 hall hn (λvs hvs=>by rw [X9];exact hvs) (by rw [jD];exact r3) (f:=f) (λ_ e=>hz (by have:=wJ List.length e;simp at this;rw [this.2];rfl));refine ⟨y,w',η',r1,q1.sub (λk o hk=>?_) (dH _) rfl,q2⟩;rw [au.oV,au.vS] at hk ⊢;split at hk
           ·next e1=>rw [ak (show k=((jH σ id xs et).kill id).next from e1)];exact hk
           ·next e1=>
            rw [ah (show ¬ k=((jH σ id xs et).kill id).next from e1)];split at hk
            ·cases hk
            ·next e2=>rw [ah e2];unfold jH;rw [au.get_put,ah e2];exact hk
         ·rw [(h.jA id hgh).1] at hq;cases hq
        ·cases e0
         have hlen0:=vV 100 hsl hv0 n1;rcases hu with ⟨q',hq',_⟩ | ⟨_,_,hu⟩
         ·rw [(h.jA id hgh).1] at hq';cases hq'
         ·exact abv (τ:=σ.kill id) hv0 hm hu rfl rfl (λk o hk=>by rw [au.vS] at hk;split at hk;cases hk;exact hk) f
       ·cases hs
      ·cases hs
     ·next id=>
      split at hs
      ·next et hg=>
       split at hs
       ·next hcnd=>
        rw [aJ] at hcnd;obtain ⟨het,hlk⟩:=hcnd;have D7:=bn het;subst D7;have Ap:=qL hlk;split at hs
        ·next a ha=>
         obtain ⟨m,hm,e1⟩:=aX.1 hs;cases e1;obtain ⟨ys,y1,y2,y3,y4,y5⟩:=app hm (ml0 ha);simp only [eP,xR,iZ] at y2 y4 y5;obtain ⟨zs,z1,z2⟩:=O3 h hb' hx hn y1 y3;have hlen:=DN (λx hx=>(Ad y3 x hx).1);have hc:=LJ (S:=.sl id 0 0 (some 0)) (n:=0) y3 rfl (by simpa using y4) (by simpa using y5);have hu0:=hu;simp only [VR] at hu0;obtain ⟨q,hq,_,rfl⟩:=hu0;obtain ⟨cs,elem,fr,hb0,rr⟩:=h.at hg hq;have hsh:=rr.shut rfl;obtain ⟨w1,w2,w3⟩:=rr.whole he;have hba:=w3 rfl;by_cases hz:ys.length=0
         ·have hys:ys=[]:=lq hz
          subst hys;have hto:nU et size bytes (.sl id 0 0 (some 0)) 0 (bC []) σ=some (.sl id 0 0 (some 0),σ):=by unfold nU;rw [ah (by simpa using hc)];rfl
          obtain ⟨y,w',η',r1,r2,r3⟩:=zW (ty:=ty) h hi z1 z2 hlen hto hu;have hq2:=r2.ext.pl _ _ hq;obtain ⟨cs2,Zb,ZF,hb2,U4⟩:=r2.rel.at hg hq2;obtain ⟨v1,v2,v3⟩:=U4.whole he;have hsz0:=U4.shut rfl;simp only [xR] at hsz0;have hv2:OR P (η'.put σ.next ⟨q.bl,q.ba,0,size⟩) ⟨q.bl,q.ba,0,size⟩ w' (.vec m et false):=by
           refine ⟨[],cs2,Zb,ZF,[],y2,hb2,by simp [aP],by simp,by simp [DL,dh],by simp, { fits:=by have:=U4.fits;simp;omega,le:=by simp,shut:=by simp,cell:=by simp,free:=by simp,whole:=λ_=>⟨v1,by simp;omega,by simp⟩,room:=λ_=>⟨he,by simp;omega,hn⟩ },by simp,by simp⟩
          have Jq:=St.again (q':=⟨q.bl,q.ba,0,size⟩) r2.rel hg rfl Ap hq2 rfl rfl (λ_ _=>rfl) rfl rfl rfl hv2;refine ⟨y,w',_,r1,r2.trans Jq, ?_⟩;simp only [VR] at r3 ⊢;obtain ⟨q3,hq3,_,rfl⟩:=r3;rw [hq2] at hq3;cases hq3;exact ⟨[],y2,.inl ⟨⟨q.bl,q.ba,0,size⟩,by simp [Env.put],by simp,by simp⟩⟩
         ·have hto:nU et size bytes (.sl id 0 0 (some 0)) ys.length (bC ys) σ=some (.sl σ.next 0 (0+ys.length) none,σ.new (.cells ([]++bC ys) et true true)):=by
           unfold nU;rw [ah hc];simp only;rw [ah (by omega),hg];simp [takeN]
          obtain ⟨y,w',η',r1,r2,r3⟩:=zW (ty:=ty) h hi z1 z2 hlen hto hu;rw [eP] at r2;rw [iZ] at r3;obtain ⟨q1,q2⟩:=St.uX (f:=false) r2 y2 (Ad y3) hn (λ_ h=>h) r3 (by simp);refine ⟨y,w',η',r1,q1.sub (λk o hk=>?_) (dH _) rfl,q2⟩;rw [au.oV,au.vS] at hk;rw [au.oV];split at hk
          ·next e1=>rw [ak (show k=σ.next from e1)];exact hk
          ·next e1=>
           rw [ah (show ¬ k=σ.next from e1)];split at hk
           ·cases hk
           ·exact hk
        ·cases hs
       ·cases hs
      ·cases hs
     ·next id len=>
      split at hs
      ·next c et hg=>
       split at hs
       ·next hcnd=>
        rw [aJ,aJ] at hcnd;obtain ⟨⟨het,hlk⟩,hcl⟩:=hcnd;have D7:=bn het;subst D7;have Ap:=qL hlk;have hcl':=bn hcl;split at hs
        ·next a ha=>
         obtain ⟨m,hm,e1⟩:=aX.1 hs;cases e1;obtain ⟨ns,l1,l2⟩:=ajj hg ha hn hcl';have hu0:=hu;simp only [VR] at hu0;obtain ⟨q,hq,hle,rfl⟩:=hu0;obtain ⟨ws,elem,fr,hb0,rr⟩:=h.at hg hq;have hes:q.es=size:=by
          have:=(rr.room rfl).2.2;rw [hn] at this;cases this;rfl
         have htk:takeN c 0 (len * size)=some c:=by
          unfold takeN;rw [dF,mG (by omega),ak hcl']
         obtain ⟨xs,k1,k2,k3,k4⟩:=l1 (rr.vZ htk);have hva:=l2 xs k1;have conv:∀ {η':Env} (vs:List Value),aA η' c vs->aA η' (bC xs) vs:=by
          intro η' vs hv;obtain ⟨gs,j1,_,j3,_⟩:=l1 hv;rw [k1] at j1;cases j1;exact j3
         obtain ⟨ys,y1,y2,y3,y4,y5⟩:=app hm hva;have hall:∀x∈xs++ys,x.cells.length=size/\x.cells.all GV.scalar=true:=by
          intro x hx;rcases qJ.1 hx with hx | hx
          ·exact k4 x hx
          ·exact Ad y3 x hx
         obtain ⟨zs,z1,z2⟩:=O3 h hb' hx hn y1 y3;have hlen:=DN (λx hx=>(Ad y3 x hx).1);have hc:=LJ (S:=.sl id 0 len none) (n:=xs.length) y3 k2.symm y4 y5;by_cases hz:ys.length=0
         ·have hys:ys=[]:=lq hz
          subst hys;rw [pI] at y2;have hto:nU et size bytes (.sl id 0 len none) 0 (bC []) σ=some (.sl id 0 len none,σ):=by unfold nU;rw [ah (by simpa using hc)];rfl
          obtain ⟨y,w',η',r1,r2,r3⟩:=zW (ty:=ty) h hi z1 z2 hlen hto hu;have hq2:=r2.ext.pl _ _ hq;have hor2:=r2.rel.at hg hq2;have hv2:OR P (η'.put σ.next q) q w' (.vec m et false):=by
           have hle2:=Env.EC r2.rel q;refine OR.uX (by simp) y2 (λx hx=>by rw [hes];exact (k4 x hx).1) (λx hx=>(k4 x hx).2) (hor2.mono hle2) (λvs hvs=>conv vs hvs)
          have Jq:=St.again (q':=q) r2.rel hg rfl Ap hq2 rfl rfl (λ_ _=>rfl) rfl rfl rfl hv2;refine ⟨y,w',η'.put σ.next q,r1,r2.trans Jq, ?_⟩;simp only [VR] at r3 ⊢;obtain ⟨q3,hq3,hle3,rfl⟩:=r3;rw [hq2] at hq3;cases hq3;exact ⟨xs,y2,.inl ⟨q,by simp [Env.put],by rw [k2];simpa using hle3,by simp [k2]⟩⟩
         ·have hto:nU et size bytes (.sl id 0 len none) ys.length (bC ys) σ=some (.sl σ.next 0 (len+ys.length) none,(σ.kill id).new (.cells (c++bC ys) et true true)):=by
           unfold nU;rw [ah hc];simp only;rw [ah hz,ak Ap,hg];simp only [if_true,htk,gy]
          obtain ⟨y,w',η',r1,r2,r3⟩:=zW (ty:=ty) h hi z1 z2 hlen hto hu;obtain ⟨q1,q2⟩:=St.uX (size:=size) r2 y2 hall hn (λvs hvs=>by
           obtain ⟨us,ts,rfl,v1,v2⟩:=aA.split hvs;rw [X9];exact aA.append (conv us v1) v2) (by rw [jD,k2];exact r3) (f:=false) (by simp)
          exact ⟨y,w',η',r1,q1,q2⟩
        ·cases hs
       ·cases hs
      ·cases hs
     ·cases hs
  ·cases hs
 ·cases hs
end
end Go.aK
namespace Go.aK
set_option linter.unusedSimpArgs false
noncomputable section
variable [aH]
set_option linter.unusedSectionVars false
set_option linter.unusedVariables false
variable {P:Program} {η:Env} {σ σ':au} {w:World}
theorem ab9 {x:GV} {z:List AV} (hx:∀us,aA η z us->aA η (bZ x.cells) us):∀ (n:Nat) (vs:List Value),aA η (iH n z) vs->aA η (bC (List.replicate n x)) vs
 | 0,vs,h=>by simpa [iH,bC,bZ] using h
 | n+1,vs,h=>by
   have e:iH (n+1) z=z++iH n z:=by simp [iH,Ii]
   rw [e] at h;obtain ⟨us,ws,rfl,h1,h2⟩:=aA.split h;have e2:bC (List.replicate (n+1) x)=bZ x.cells++bC (List.replicate n x):=by unfold bC;rw [Ii,iW,DY]
   rw [e2];exact (hx us h1).append (ab9 hx n ws h2)
theorem al2 (z:List AV) (n m:Nat) (h:n<=m):(iH m z).take (n * z.length)=iH n z:=by
 induction n generalizing m with
 | zero=>simp [iH]
 | succ n ih=>
   cases m with
   | zero=>omega
   | succ m=>
     have e:∀k,iH (k+1) z=z++iH k z:=λk=>by simp [iH,Ii]
     rw [e,e,<- ih m (by omega),List.take_append,mG (by rw [qy];omega)];congr 2;rw [qy];omega
theorem aqh (h:SR P η σ w) {t:TypeId} {l c v:AV} {x y:Value} (hs:Pj P t l c σ=some (v,σ')) (hx:VR η l x) (hy:VR η c y) :
 ∃z w' η',(Instr.makeSlice t x y).run P w=.ok z w'/\St P η σ w η' σ' w'/\VR η' v z:=by
 unfold Pj at hs;split at hs
 ·next e0 hu0=>
  split at hs
  ·next e size bytes z agg hi hagg=>
   obtain ⟨hut,_,_,he,hzl,hn⟩:=yF hi;rw [hu0] at hut;cases hut;split at hs
   ·cases hs
   ·next h0=>
    split at hs
    ·next zn ln cn hzn hln hcn=>
     obtain ⟨m,hm,e1⟩:=aX.1 hs;cases e1;obtain ⟨gl,l1,l2,l3⟩:=kX hln hx;obtain ⟨gc,c1,c2,c3⟩:=kX hcn hy;obtain ⟨g,g1,g2⟩:=fG hm;simp only [Nd.den,l1,c1] at g2;split at g2
     ·next xz kn n kn' m' e1 e2 e3=>
      cases e2;cases e3;split at g2
      ·next hc=>
       cases g2;obtain ⟨b1,b2,b3,b4,b5⟩:=hc;simp only [GR] at l3 c3;subst l3;subst c3;obtain ⟨xs,hrun,hsz,hvs⟩:=ajB (P:=P) (w:=w) (η:=η) (kd:=kn) (kd':=kn') hi h0 b1 b2 b3 b4;have hzero:∀us,aA η z us->aA η (bZ xz.cells) us:=by
        intro us hus;cases agg with
        | true=>
          simp only [if_true] at hzn;obtain ⟨l',gs,e4,_,e5,_,e6⟩:=Fv hzn (by simp only [VR];exact ⟨us,rfl,hus⟩:VR η (.agg z) (.agg ⟨us⟩));rw [e1] at e5;cases e5;simp only [GR] at e6;obtain ⟨us',e7,e8⟩:=e6;cases e7;exact (nC _ _).1 e8
        | false=>
          simp only [eG,if_false] at hzn;cases hz':z with
          | nil=>rw [hz'] at hzn;simp at hzn
          | cons a zr=>
            rw [hz'] at hzn hus hzl;simp only [WZ,zM] at hzn;simp only [aA] at hus;obtain ⟨u,ur,rfl,hu1,hu2⟩:=hus;obtain ⟨gz,k1,k2,k3⟩:=kX hzn hu1;rw [e1] at k1;cases k1;rw [GV.EJ k2];have:size=1:=by
             unfold GV.fF at b5;rw [aJ,GV.EJ k2] at b5;exact (bn b5.1).symm
            rw [this] at hzl;have nH:zr=[]:=by apply lq;simpa using hzl
            subst nH;simp only [aA] at hu2;subst hu2;simp only [bZ];exact aA.cons ((kU _ _).1 k3) (by simp [aA])
       have hall:∀x∈List.replicate n.toNat xz,x.cells.length=size/\x.cells.all GV.scalar=true:=by
        intro x hx;rw [(Xd.1 hx).2];unfold GV.fF at b5;rw [aJ] at b5;exact ⟨Nat.eq_of_beq_eq_true b5.1,b5.2⟩
       have hlm:n.toNat<=m'.toNat:=by omega
       have hpre:aA η (iH n.toNat z) (xs.toList.take (iH n.toNat z).length):=by
        rw [OI,hzl];have:=hvs.take (n.toNat * size);rw [<- hzl,al2 z _ _ hlm,hzl] at this;exact this
       have hal:=Aa h (c:=iH n.toNat z) (xs:=xs) (elem:=_) (es:=size) (opn:=true) hpre (by rw [OI,hzl,hsz];exact sJ _ hlm) (by simp) (λ_=>⟨he,Nat.pos_of_ne_zero h0,hn⟩);have hcap:(m'.toNat * size) / size=m'.toNat:=Xl _ (Nat.pos_of_ne_zero h0);obtain ⟨q1,q2⟩:=St.uX (f:=false) (size:=size) (y:=.slice (some ⟨w.heap.size,0,none⟩) n.toNat m'.toNat) hal g1 hall hn (λvs hvs=>by
        have hz2:∀us,aA (η.put σ.next ⟨w.heap.size,0,xs.size,size⟩) z us->aA (η.put σ.next ⟨w.heap.size,0,xs.size,size⟩) (bZ xz.cells) us:=by
         intro us hus;cases agg with
         | true=>
           simp only [if_true] at hzn;obtain ⟨l',gs,e4,_,e5,_,e6⟩:=Fv hzn (by simp only [VR];exact ⟨us,rfl,hus⟩:VR (η.put σ.next ⟨w.heap.size,0,xs.size,size⟩) (.agg z) (.agg ⟨us⟩));rw [e1] at e5;cases e5;simp only [GR] at e6;obtain ⟨us',e7,e8⟩:=e6;cases e7;exact (nC _ _).1 e8
         | false=>
           simp only [eG,if_false] at hzn;cases hz':z with
           | nil=>rw [hz'] at hzn;simp at hzn
           | cons a zr=>
             rw [hz'] at hzn hus hzl;simp only [WZ,zM] at hzn;simp only [aA] at hus;obtain ⟨u,ur,rfl,hu1,hu2⟩:=hus;obtain ⟨gz,k1,k2,k3⟩:=kX hzn hu1;rw [e1] at k1;cases k1;rw [GV.EJ k2];have:size=1:=by
              unfold GV.fF at b5;rw [aJ,GV.EJ k2] at b5;exact (bn b5.1).symm
             rw [this] at hzl;have nH:zr=[]:=by apply lq;simpa using hzl
             subst nH;simp only [aA] at hu2;subst hu2;simp only [bZ];exact aA.cons ((kU _ _).1 k3) (by simp [aA])
        exact ab9 hz2 _ _ hvs) (by
         simp only [VR];exact ⟨⟨w.heap.size,0,xs.size,size⟩,by simp [Env.put],by simp [hsz,hcap,hlm],by simp [hsz,hcap]⟩) (by simp)
       exact ⟨_,_,_,hrun,q1,q2⟩
      ·cases g2
     ·cases g2
    ·cases hs
  ·cases hs
 ·cases hs
theorem IV:∀ {xs:List GV} {b:List UInt8},mP xs=some b->bytesOf (bZ xs)=some b
 | [],b,h=>by simpa [mP,bZ,bytesOf] using h
 | x::xs,b,h=>by
   unfold mP at h;split at h
   ·rename_i heq;cases heq
   ·next n rest heq=>
    cases heq;simp only [bZ,jX,bytesOf];split at h
    ·next hc=>
     rw [ak hc];obtain ⟨b',hb',rfl⟩:=aX.1 h;rw [IV hb'];rfl
    ·cases h
   ·cases h
theorem LV:∀ {xs:List GV} {b:List UInt8},mP xs=some b->xs.flatMap GV.cells=xs
 | [],b,h=>rfl
 | x::xs,b,h=>by
   unfold mP at h;split at h
   ·rename_i heq;cases heq
   ·next n rest heq=>
    cases heq;split at h
    ·obtain ⟨b',hb',_⟩:=aX.1 h
     rw [iW,LV hb'];rfl
    ·cases h
   ·cases h
theorem aqa (h:SR P η σ w) {src dst:TypeId} {a v:AV} {x:Value} (hs:O7 P src dst a σ=some (v,σ')) (hx:VR η a x) :
 ∃y w' η',(convert src dst x).run P w=.ok y w'/\St P η σ w η' σ' w'/\VR η' v y:=by
 unfold O7 at hs;split at hs
 ·next d k n h1 h2=>
  obtain ⟨v',hm,e1⟩:=aX.1 hs;cases e1;simp only [VR] at hx;obtain ⟨g,a1,a2,a3⟩:=hx;obtain ⟨_,g',_,b2,b3⟩:=lg (η:=η) hm;simp only [Nd.den,a1] at b2;split at b2
  ·next kk z e1=>
   cases e1;cases b2;simp only [GR] at a3;subst a3;obtain ⟨y,w',η',r1,r2,r3⟩:=Ja h (src:=src) (dst:=dst) (a:=.i kk z) (v:=.i k (k.wrap z)) (σ':=σ) (by simp only [vM,h1,h2]) (by simp only [VR]:VR η (.i kk z) (.int kk z));exact ⟨y,w',η',r1,r2,by obtain ⟨_,g2,_,c2,c3⟩:=lg (η:=η') hm;simp only [Nd.den,a1,aQ] at c2;subst c2;exact c3 y rfl ((kU _ _).2 r3)⟩
  ·cases b2
 ·next n h1 h2=>
  obtain ⟨v',hm,e1⟩:=aX.1 hs;cases e1;simp only [VR] at hx;obtain ⟨g,a1,a2,a3⟩:=hx;obtain ⟨_,g',_,b2,b3⟩:=lg (η:=η) hm;simp only [Nd.den,a1] at b2;split at b2
  ·next z e1=>
   cases e1;cases b2;simp only [GR] at a3;subst a3;obtain ⟨y,w',η',r1,r2,r3⟩:=Ja h (src:=src) (dst:=dst) (a:=.s z) (v:=.s z) (σ':=σ) (by simp only [vM,h1,h2]) (by simp only [VR]:VR η (.s z) (.string ⟨⟨z⟩⟩));exact ⟨y,w',η',r1,r2,by obtain ⟨_,g2,_,c2,c3⟩:=lg (η:=η') hm;simp only [Nd.den,a1,aQ] at c2;subst c2;exact c3 y rfl ((kU _ _).2 r3)⟩
  ·cases b2
 ·next e n h1 h2=>
  split at hs
  ·next h3=>
   split at hs
   ·next hc=>
    split at hs
    ·next m hm=>
     cases hs;simp only [VR] at hx;obtain ⟨g,a1,a2,a3⟩:=hx;obtain ⟨g',b1,b2⟩:=fG hm;simp only [Nd.den,a1] at b2;split at b2
     ·next z e1=>
      cases e1;cases b2;simp only [GR] at a3;subst a3;obtain ⟨y,w',η',r1,r2,r3⟩:=Ja h (src:=src) (dst:=dst) (a:=.s z) (v:=.sl σ.next 0 z.length none) (σ':=σ.new (.cells (sW z) e true true)) (by simp only [vM,h1,h2,h3,ak hc]) (by simp only [VR]:VR η (.s z) (.string ⟨⟨z⟩⟩));obtain ⟨q1,q2⟩:=St.uX (f:=false) (size:=1) r2 b1 (by
       intro x hx;obtain ⟨c,_,rfl⟩:=sF.1 hx;exact ⟨rfl,rfl⟩) hc.2 (λvs hvs=>by rw [XV];exact hvs) (by simpa [nX] using r3) (by simp)
      exact ⟨y,w',η',r1,q1,q2⟩
     ·cases b2
    ·cases hs
   ·cases hs
  ·cases hs
 ·next e h1 h2=>
  split at hs
  ·next h3=>
   split at hs
   ·next m hl=>
    obtain ⟨v',hm,e1⟩:=aX.1 hs;cases e1;obtain ⟨_,g',_,b2,b3⟩:=lg (η:=η) hm;simp only [Nd.den] at b2;split at b2
    ·next xs hv=>
     split at b2
     ·next h48=>
      obtain ⟨b,hb,rfl⟩:=aX.1 b2;have fin:∀ {τ:au} {A:AV},SR P η τ w->VR η A x->vM P src dst A τ=some (.s b,τ)->(∀ {η':Env} {w':World},St P η τ w η' τ w'->St P η σ w η' σ w')->∃y w' η',(convert src dst x).run P w=.ok y w'/\St P η σ w η' σ w'/\VR η' v y:=by
       intro τ A hS hA hA2 hst;obtain ⟨y,w',η',r1,r2,r3⟩:=Ja hS hA2 hA;refine ⟨y,w',η',r1,hst r2, ?_⟩;obtain ⟨_,g2,_,c2,c3⟩:=lg (η:=η') hm;simp only [Nd.den,hv,ak h48,hb,gy,aQ] at c2;subst c2;exact c3 y rfl ((kU _ _).2 r3)
      have hnil:mP xs=some b->xs=[]->b=[]:=by rintro h1 rfl;simpa [mP] using h1.symm
      unfold listOf at hl;split at hl
      ·next n=>
       cases hl;simp only [VR] at hx;obtain ⟨g,a1,a2,a3⟩:=hx;rw [hv] at a1;cases a1;exact fin h ((kU (.l xs) x).1 a3) (by simp only [jX,vM,h1,h2,h3,IV hb,gy]) (λh=>h)
      ·obtain ⟨g,g1,g2⟩:=fG hl
       rw [hv] at g1;cases g1;simp only [Nd.den,valsOf,gy,aQ,GV.l.injEq] at g2;have:=hnil hb g2.symm;subst this;exact fin h hx (by simp only [vM,h1,h2,h3]) (λh=>h)
      ·next id n=>
       split at hl
       ·next m' et _ hg=>
        split at hl
        ·next hc=>
         cases hl;rw [aJ] at hc;simp only [VR] at hx;obtain ⟨ys,k1,hx⟩:=hx;have hlen:=vV 100 hc.2 hv k1;rcases hx with ⟨q,hq,hle,rfl⟩ | ⟨_,rfl,rfl⟩
         ·obtain ⟨xs',j1,j2,j3,j4,j5,j6,j7,hS⟩:=Ht h hg hq
          rw [hv] at j1;cases j1;have hcg:bC xs=bZ xs:=by unfold bC;rw [LV hb]
          have htk:takeN (bC xs) 0 xs.length=some (bZ xs):=by
           rw [hcg];unfold takeN;rw [dF,mG (by rw [kW];omega),ak (kW xs)]
          rw [hlen] at htk;refine fin (A:=.sl id 0 ys.length none) hS (by simp only [VR];exact ⟨q,hq,by simpa using hle,by simp⟩) ?_ (λhst=>aq6 (λe=>by subst e;exact (h.at hg hq).PI) hg hq hv j2 j7 (Kr hg hst));simp only [vM,h1,h2,h3,Bd,htk,IV hb,gy]
         ·have hxs:xs=[]:=lq (by simpa using hlen)
          have:=hnil hb hxs;subst this;exact fin h (A:=.bf) (by simp only [VR]) (by simp only [vM,h1,h2,h3]) (λh=>h)
        ·cases hl
       ·cases hl
      ·next id off len cap=>
       split at hl
       ·next c et qZ opn size agg hg hsz hag=>
        split at hl
        ·next hc=>
         rw [aJ,mg,aJ] at hc;split at hl
         ·next cs hcs=>
          split at hl
          ·next ns hns=>
           have hagg:agg=false->size=1:=by
            intro e;subst e;rcases hc.2 with h1 | h1
            ·simp at h1
            ·exact bn h1
           obtain ⟨g,g1,g2⟩:=fG hl;rw [hv] at g1;cases g1;simp only [VR] at hx;obtain ⟨q,hq,hle,rfl⟩:=hx;obtain ⟨q',hq',ws,elem,fr,hblk,rr⟩:=h.obj _ _ hg rfl;rw [hq] at hq';cases hq';have hlc:=(qg hcs).2.1;obtain ⟨gs,k1,k2,k3,_,k5⟩:=BP (η:=η) hagg len hns (rr.vZ hcs) hlc;simp only [Nd.den,k1,gy,aQ,GV.l.injEq] at g2;rw [g2] at k2 k3 k5;have hl1:len * size=len:=by
            cases len with
            | zero=>simp
            | succ n=>
              have hx0:xs[0]? = some (xs[0]'(by omega)):=dA (by omega);have h5:=(k5 _ (qK hx0)).1;have h6:(xs[0]'(by omega)).cells.length=1:=by
               cases xs with
               | nil=>simp at k2
               | cons y ys=>
                 cases y with
                 | i k n=>rfl
                 | b=>simp [mP] at hb
                 | s=>simp [mP] at hb
                 | l=>simp [mP] at hb
                 | g=>simp [mP] at hb
              rw [h6] at h5;rw [<- h5];simp
           have hcg:bC xs=bZ xs:=by unfold bC;rw [LV hb]
           rw [hcg] at k3;have hxs:=IX (IV hb) k3;rw [hl1] at hcs hxs;refine ⟨.string ⟨⟨b⟩⟩,w,η, ?_,St.refl h, ?_⟩
           ·simp only [convert,aO,aV h1,aV h2,aN,aV h3,Conv.bytesToString]
            rw [AY hblk (rr.take hcs),hxs];simp only [aN];rw [U9 _ (λ_ _ _=>rfl)];rfl
           ·obtain ⟨_,g2,_,c2,c3⟩:=lg (η:=η) hm
            simp only [Nd.den,hv,ak h48,hb,gy,aQ] at c2;subst c2;exact c3 _ rfl (by simp only [GR])
          ·cases hl
         ·cases hl
        ·cases hl
       ·cases hl
      ·cases hl
     ·cases b2
    ·cases b2
   ·cases hs
  ·cases hs
 ·cases hs
end
end Go.aK
namespace Go.aK
set_option linter.unusedSimpArgs false
noncomputable section
variable [aH]
set_option linter.unusedSectionVars false
set_option linter.unusedVariables false
variable {P:Program} {η:Env} {σ σ':au} {w:World}
def CS (ro:Nat->Option Obj) (w:World) (b:Nat):Nat->Option Obj:=λk=>if k=b then w.heap[b]? else ro k
theorem OJ {ro:Nat->Option Obj} {w:World} (h:∀b o,ro b=some o->w.heap[b]? = some o) (b:Nat):∀k o,ro k=some o->CS ro w b k=some o:=by
 intro k o hk;unfold CS;split
 ·next e=>subst e;exact h _ _ hk
 ·exact hk
theorem St.freeze (h:SR P η σ w) {id:Nat} {o:bg} {q:Place} (hg:σ.get id=some o) (ho:o.own=true) (hl:σ.lock<=id) (hq:η id=some q):St P η σ w ⟨η.pl,CS η.ro w q.bl,η.gh⟩ (σ.kill id) w:=by
 have hle:(η:Env).le ⟨η.pl,CS η.ro w q.bl,η.gh⟩:=⟨λ_ _ h=>h,OJ h.iL q.bl,λ_ h=>h⟩
 have sub:∀k u,(σ.kill id).get k=some u->k≠id/\σ.get k=some u:=by
  intro k u hk;rw [au.vS] at hk;split at hk
  ·cases hk
  ·next e=>exact ⟨e,hk⟩
 refine ⟨hle,⟨h.mX,h.dom,λk u hk=>?_,h.jA,λk u k' u' p p' a1 a2 a3 a4 a5 a6=>?_,λb u hb=>?_,λk u p a1 a2 a3=>?_,λp hp=>(h.tabs p hp).mono hle⟩,dH _,λ_ _ _=>rfl,λk u p a1 a2 a3 a4=>?_,rfl,rfl,rfl,rfl,dH _,λ_ h=>.inl h,λb hb=>?_⟩
 ·exact (h.live k u (sub k u hk).2).mono hle
 ·exact h.sep k u k' u' p p' (sub k u a1).2 a2 (sub k' u' a3).2 a4 a5 a6
 ·have hb':(if b=q.bl then w.heap[q.bl]? else η.ro b)=some u:=hb
  split at hb'
  ·next e=>rw [e];exact hb'
  ·exact h.iL b u hb'
 ·obtain ⟨e1,e2⟩:=sub k u a1
  show (if p.bl=q.bl then w.heap[q.bl]? else η.ro p.bl)=none
  have hne:=h.sep k u id o p q e2 a2 hg e1 a3 hq;rw [ah hne];exact h.l7 k u p e2 a2 a3
 ·exact .inr ⟨k,u,p,(sub k u a1).2,a2,a3,a4,rfl⟩
 ·have hb':(if b=q.bl then w.heap[q.bl]? else η.ro b)≠none:=hb
  split at hb'
  ·next e=>exact .inr (.inr ⟨id,o,q,hg,ho,hl,hq,e.symm⟩)
  ·exact .inl hb'
theorem GR.TS {η:Env} {w:World} {q:Place} {c:List AV} {et:TypeId} {qZ opn:Bool} {ro':Nat->Option Obj} (h:OR P η q w (.cells c et qZ opn)) (hro:∀b o,η.ro b=some o->ro' b=some o) (hq:ro' q.bl=w.heap[q.bl]?) {off n size cap:Nat} {cs:List AV} {gs:List GV} (ht:takeN c off (n * size)=some cs) (hn:gs.length=n) (hcap:n<=cap) (h0:0 < size)
 (hs:∀x∈gs,x.cells.length=size/\x.cells.all GV.scalar=true) (hc:∀ (η':Env) vs,(∀b o,η.ro b=some o->η'.ro b=some o)->aA η cs vs->aA η' (bC gs) vs):GR ro' (.l gs) (.slice (some ⟨q.bl,q.ba+off,none⟩) n cap):=by
 obtain ⟨ws,elem,fr,hb,r⟩:=h;have h1:=r.vZ ht;have hfit:=r.take ht;obtain ⟨e1,e2,e3⟩:=qg ht;have h2:=hc ⟨η.pl,ro',η.gh⟩ _ hro h1;obtain ⟨ys,y1,y2,y3⟩:=ungroup gs _ h2 (λx hx=>(hs x hx).2);simp only [GR];right;refine ⟨q.bl,q.ba+off,cap,ys,size,by rw [hn],by rw [hn];exact hcap,y1,λy hy=>?_,λhne=>⟨ws,elem,fr,by rw [hq,hb], ?_, ?_⟩⟩
 ·obtain ⟨k,hk⟩:=Ib hy
  have hkl:k < gs.length:=by rw [y1.length];exact (dN.1 hk).1
  rw [y3 k _ y (dA hkl) hk];exact (hs _ (iI hkl)).1
 ·rw [y2]
  have hnp:0 < gs.length:=Bq.2 hne;have hp:0 < n * size:=Ip (by omega) h0;rw [jR,cZ,EU];omega
 ·rw [y2]
  intro k x hk;rw [kZ] at hk;split at hk
  ·rw [qp,su] at hk;exact hk
  ·cases hk
theorem VR.ZJ (h:SR P η σ w) {id n m et:Nat} {f:Bool} {x:Value} {ro':Nat->Option Obj} (hg:σ.get id=some (.vec m et f)) (hs:rX 100 m n=true) (hx:VR η (.sv id n) x) (hro:∀b o,η.ro b=some o->ro' b=some o) (hq:∀q,η id=some q->ro' q.bl=w.heap[q.bl]?) :
 ∃ys,aH.val m=some (.l ys)/\GR ro' (.l ys) x:=by
 simp only [VR] at hx;obtain ⟨ys,k1,hx⟩:=hx;rcases hx with ⟨q,hq1,hle,rfl⟩ | ⟨hgh,rfl,rfl⟩
 ·obtain ⟨xs,x1,x2,x3,x4,x5,x6,x7,x8⟩:=(h.at hg hq1).GH
  have hlen:=vV 100 hs x1 k1;refine ⟨xs,x1, ?_⟩;have hcl:=DN x2;have:=GR.TS (ro':=ro') (off:=0) (n:=ys.length) (size:=q.es) (cap:=q.sz / q.es) (cs:=bC xs) (gs:=xs) x8 hro (hq q hq1) (by
   unfold takeN;rw [dF,<- hlen,mG (by omega),ak hcl]) hlen hle x4 (λx hx=>⟨x2 x hx,x7 x hx⟩) (λη' vs hro hvs=>by
    unfold bC at hvs ⊢;exact (nC _ _).1 (aP.mono hro _ _ ((nC _ _).2 hvs)))
  simpa using this
 ·rcases h.live id _ hg with ⟨q,hq1,_⟩ | ⟨_,n2,Q5,f2,e2,hv0⟩
  ·rw [(h.jA id hgh).1] at hq1;cases hq1
  ·cases e2
   exact ⟨[],hv0,by simp [GR]⟩
theorem Xn {η':Env} (hle:η.le η') {o:Option AV} {v:Option Value} (h:jT η o v):jT η' o v:=by
 cases o<;>cases v<;>first | exact h | exact VR.mono hle _ _ h
theorem St.alc (h:SR P η σ w) {id m et k:Nat} {f:Bool} (hg:σ.get id=some (.vec m et f)) (hgh:η.gh id=true) (hv:aH.val k=some (.l [])):St P η σ w η (σ.put id (.vec k et f)) w:=by
 have get:∀i u,(σ.put id (.vec k et f)).get i=some u->(i=id/\u=.vec k et f)\/(i≠id/\σ.get i=some u):=by
  intro i u hi;rw [au.get_put] at hi;split at hi
  ·next e=>cases hi;exact .inl ⟨e,rfl⟩
  ·next e=>exact .inr ⟨e,hi⟩
 have hno:∀q,η id≠some q:=λq hq=>by rw [(h.jA id hgh).1] at hq;cases hq
 refine ⟨Env.le.refl _,⟨h.mX,h.dom,λi u hi=>?_,h.jA,λi u i' u' q q' a1 a2 a3 a4 a5 a6=>?_,h.iL,λi u q a1 a2 a3=>?_,h.tabs⟩,dH _,λ_ _ _=>rfl,λi u q a1 a2 a3 a4=>?_,rfl,rfl,rfl,rfl,dH _,λ_ h=>.inl h,λ_ h=>.inl h⟩
 ·rcases get i u hi with ⟨rfl,rfl⟩ | ⟨_,h1⟩
  ·exact .inr ⟨hgh,k,et,f,rfl,hv⟩
  ·exact h.live i u h1
 ·rcases get i u a1 with ⟨rfl,_⟩ | ⟨_,h1⟩
  ·exact absurd a5 (hno q)
  ·rcases get i' u' a3 with ⟨rfl,_⟩ | ⟨_,h2⟩
   ·exact absurd a6 (hno q')
   ·exact h.sep i u i' u' q q' h1 a2 h2 a4 a5 a6
 ·rcases get i u a1 with ⟨rfl,_⟩ | ⟨_,h1⟩
  ·exact absurd a3 (hno q)
  ·exact h.l7 i u q h1 a2 a3
 ·rcases get i u a1 with ⟨rfl,_⟩ | ⟨_,h1⟩
  ·exact absurd a4 (hno q)
  ·exact .inr ⟨i,u,q,h1,a2,a3,a4,rfl⟩
theorem aqi (h:SR P η σ w) {t:TypeId} {a v:AV} {x:Value} {lo hi:Option AV} {lo' hi':Option Value} (hs:Pn P t σ a lo hi=some (v,σ')) (hx:VR η a x) (hlo:jT η lo lo') (hhi:jT η hi hi') :
 ∃y w' η',(Instr.sliceAt t x lo' hi' none).run P w=.ok y w'/\St P η σ w η' σ' w'/\VR η' v y:=by
 unfold Pn at hs;split at hs;rotate_left
 ·cases hs
 next e id n hu=>
 split at hs;rotate_left
 ·cases hs
 next m et f size hg hsz=>
 split at hs;rotate_left
 ·cases hs
 next hc=>
 simp only [aJ] at hc;obtain ⟨⟨c1,c2⟩,c3⟩:=hc;have e1:=bn c1;subst e1;have hlk:=qL c3;cases lo with
 | some l0=>
   simp only at hs;obtain ⟨r,hr,e2⟩:=aX.1 hs;cases e2;have key:∀η1:Env,SR P η1 (σ.kill id) w->St P η σ w η1 (σ.kill id) w->VR η1 (.nd m) x->∃y w' η',(Instr.sliceAt t x lo' hi' none).run P w=.ok y w'/\St P η σ w η' (σ.kill id) w'/\VR η' v y:=by
    intro η1 h1 hst hv;obtain ⟨y,k1,k2⟩:=ac4 h1 hr hv (Xn hst.ext hlo) (Xn hst.ext hhi);exact ⟨y,w,η1,k1,hst,k2⟩
   have hx0:=hx;simp only [VR] at hx0;obtain ⟨ys,k1,hx0⟩:=hx0;rcases hx0 with ⟨q,hq1,hle,_⟩ | ⟨hgh,_,_⟩
   ·have hst:=St.freeze h hg rfl hlk hq1
    obtain ⟨zs,z1,z2⟩:=VR.ZJ (ro':=CS η.ro w q.bl) h hg c2 hx (OJ h.iL q.bl) (λq' hq'=>by rw [hq1] at hq';cases hq';unfold CS;rw [ak rfl]);exact key _ hst.rel hst (by simp only [VR];exact ⟨_,z1,rfl,z2⟩)
   ·obtain ⟨zs,z1,z2⟩:=VR.ZJ (ro':=η.ro) h hg c2 hx (λ_ _ h=>h) (λq' hq'=>by rw [(h.jA id hgh).1] at hq';cases hq')
    have hst:=(St.refl h).NK id;exact key η hst.rel hst (by simp only [VR];exact ⟨_,z1,rfl,z2⟩)
 | none=>
   simp only at hs;split at hs;rotate_left
   ·cases hs
   next z hh h1 h2=>
   obtain ⟨k,hk,e2⟩:=aX.1 hs;cases e2;obtain ⟨g,g1,g2⟩:=fG hk;simp only [Nd.den] at g2;split at g2;rotate_left
   ·cases g2
   next xs kl li kh hi2 e3 e4 e5=>
   split at g2;rotate_left
   ·cases g2
   next hc=>
   cases g2;obtain ⟨b1,b2,b3,b4⟩:=hc;have hz:li=0:=by
    obtain ⟨gz,z1,z2⟩:=fG h1;simp only [Nd.den,aQ] at z2;subst z2;rw [e4] at z1;cases z1;rfl
   subst hz;have hlt:IQ (none:Option AV)=some z:=h1;obtain ⟨lo2,hi3,d1,d2,d3⟩:=VQ (len:=xs.length) hlt h2 hlo hhi e4 e5 (λhd=>by simp only [Nd.den,e3,aQ,GV.i.injEq] at hd;exact hd.2.symm) b1 b2 b3;have hlo2:(0:Int).toNat=0:=rfl;simp only [VR] at hx;obtain ⟨ys,y1,hx⟩:=hx;have hlen:=vV 100 c2 e3 y1;have hks:(xs.take hi2.toNat).drop (0:Int).toNat=xs.take hi2.toNat:=by simp
   rw [hks] at g1;have Jt:hi2.toNat<=xs.length:=by omega
   rcases hx with ⟨q,hq1,hle,rfl⟩ | ⟨hgh,rfl,rfl⟩
   ·have hor:=h.at hg hq1
    obtain ⟨xs',cs,elem,fr,zs,o1,o2,o3,o4,o5,o6,o7,o8,o9⟩:=hor;rw [e3] at o1;cases o1
    have hB:=BK (P:=P) (w:=w) (sl:=true) (cap:=q.sz / q.es) d3 (λk hk=>by have:k<=xs.length:=by simpa using hk
                                                                          omega) (by omega) d1 d2
    have hes:0 < q.es/\sizeT P e=some q.es:=⟨(o7.room rfl).2.1,(o7.room rfl).2.2⟩
    have hne:size=q.es:=by have:=hes.2;rw [hsz] at this;cases this;rfl
    have hnew:OR P η q w (.vec k e f):=by
     have hz1:=o3.length;refine ⟨xs.take hi2.toNat,cs,elem,fr,zs.take hi2.toNat,g1,o2, ?_,λy hy=>o4 y (E8 hy), ?_, ?_,o7,λx hx=>o8 x (E8 hx),o9⟩
     ·have:∀ (xs:List GV) (zs:List Value) (n:Nat),aP η.ro xs zs->aP η.ro (xs.take n) (zs.take n):=by
       intro xs;induction xs with
       | nil=>intro zs n hg;simp only [aP] at hg;subst hg;simp [aP]
       | cons a l ih=>
         intro zs n hg;simp only [aP] at hg;obtain ⟨x,us,rfl,a1,a2⟩:=hg;cases n with
         | zero=>simp [aP]
         | succ n=>simp only [zL,aP];exact ⟨x,us.take n,rfl,a1,ih us n a2⟩
      exact this _ _ _ o3
     ·intro j x hj
      refine o5 j x ?_;have hpre:(dh (zs.take hi2.toNat)) <+: dh zs:=by
       unfold dh;rw [show zs=zs.take hi2.toNat++zs.drop hi2.toNat from (Ik _ _).symm];rw [WY];simp only [Ik];exact List.prefix_append _ _
      obtain ⟨r,hr⟩:=hpre;rw [<- hr,mF (dN.1 hj).1];exact hj
     ·rw [jR]
      refine jS (sJ _ (Nat.min_le_right _ _)) o6
    have hst:=St.write h hg rfl hlk hq1 (w':=w) (o':=.vec k e f) rfl (λ_ _=>rfl) rfl rfl rfl hnew;refine ⟨.slice (some ⟨q.bl,q.ba,none⟩) hi2.toNat (q.sz / q.es),w,η, ?_,hst, ?_⟩
    ·rw [hlen] at hB
     simp only [Instr.sliceAt,Instr.slice,aV hu,aO,aN,hB.1,iC hsz,aZ];by_cases e0:q.sz / q.es=0
     ·simp [e0]
     ·have e1:¬ q.sz / q.es=(0:Int).toNat:=e0
      rw [ah e1];simp [oO]
    ·simp only [VR]
     refine ⟨xs.take hi2.toNat,g1,.inl ⟨q,hq1, ?_, ?_⟩⟩
     ·rw [jR];omega
     ·rw [jR,Di Jt]
   ·have hxs:xs=[]:=lq (by simpa using hlen)
    subst hxs;have hh0:hi2.toNat=0:=by simpa using Jt
    have hl:yu P t σ .bf lo2 hi3=some .bf:=by
     simp only [yu,hu,hsz];simp only [xR] at d3;rw [d3];rfl
    obtain ⟨y,u1,u2⟩:=OY h hl (show VR η .bf (.slice none 0 0) by simp only [VR]) d1 d2;simp only [VR] at u2;subst u2;have hvk:aH.val k=some (.l []):=by rw [g1];simp
    refine ⟨_,w,η,u1,St.alc h hg hgh hvk, ?_⟩;simp only [VR];exact ⟨[],hvk,.inr ⟨hgh,by trivial,by trivial⟩⟩
end
end Go.aK
namespace Go.aK
set_option linter.unusedSimpArgs false
noncomputable section
variable [aH]
set_option linter.unusedSectionVars false
set_option linter.unusedVariables false
variable {P:Program} {η:Env} {σ σ':au} {w:World}
def qV (kk:Option IntKind):TypeDesc:=match kk with
 | some k=>.int k
 | none=>.string
theorem NJ {kt:TypeId} {k:AV} {n:Nat} {kk:Option IntKind} {y:Value} (h:Jy P kt k=some (n,kk)) (hy:VR η k y) :
 P.underlying kt=some (qV kk)/\∃g,aH.val n=some g/\wX kk g/\GR η.ro g y:=by
 unfold Jy at h;split at h
 ·next Au m hu hn=>
  split at h
  ·next z hz=>
   obtain ⟨j,hj,e⟩:=aX.1 h;cases e;obtain ⟨g,h1,_,h3⟩:=kX hn hy;obtain ⟨z',h4,h5⟩:=fG hz;simp only [Nd.den,aQ] at h5;subst h5;obtain ⟨r,_,h7⟩:=fG hj;simp only [Nd.den,h1,h4] at h7;refine ⟨hu,g,h1, ?_,h3⟩;cases g<;>simp only [fO,gI,reduceCtorEq] at h7
   split at h7
   ·next e=>subst e;exact ⟨_,rfl⟩
   ·cases h7
  ·cases h
 ·next m hu hn=>
  split at h
  ·next z hz=>
   obtain ⟨j,hj,e⟩:=aX.1 h;cases e;obtain ⟨g,h1,_,h3⟩:=kX hn hy;obtain ⟨z',h4,h5⟩:=fG hz;simp only [Nd.den,aQ] at h5;subst h5;obtain ⟨r,_,h7⟩:=fG hj;simp only [Nd.den,h1,h4] at h7;refine ⟨hu,g,h1, ?_,h3⟩;cases g<;>simp only [fO,uo,reduceCtorEq] at h7
   exact ⟨_,rfl⟩
  ·cases h
 ·cases h
theorem acE {k:IntKind} {a b:Int}:Instr.sameNow (.int k) (.int k a) (.int k b)=some (a==b):=by simp [Instr.sameNow]
theorem acG {a b:List UInt8}:Instr.sameNow .string (.string ⟨⟨a⟩⟩) (.string ⟨⟨b⟩⟩)=some (a==b):=by simp [Instr.sameNow,Dw]
theorem aaq {kk:Option IntKind} {n:Nat} {e:AV} {g:GV} {x y:Value} {b:Bool} (h:SK n e=some b) (hg:aH.val n=some g) (hk:wX kk g) (hy:GR η.ro g y) (hx:VR η e x) :
 Instr.sameNow (qV kk) y x=some b:=by
 unfold SK at h;split at h
 ·next m hm=>
  obtain ⟨g',h1,_,h3⟩:=kX hm hx;have key:∃r,(Nd.bin .eql n m).den aH.I aH.val=some r/\r=.b b:=by
   split at h
   ·next b' hb=>
    cases h;obtain ⟨j,r,q1,q2,q3⟩:=lg (η:=η) hb;refine ⟨r,q2, ?_⟩;simp only [Nd.den,hg,h1] at q2;have:∃c,r=.b c:=by
     cases g<;>cases g'<;>simp only [fO,reduceCtorEq] at q2
     ·split at q2
      ·simp only [gI,aQ] at q2;exact ⟨_,q2.symm⟩
      ·cases q2
     ·simp only [uo,aQ] at q2;exact ⟨_,q2.symm⟩
    obtain ⟨c,rfl⟩:=this;have:=q3 (.bool c) rfl (by simp only [GR]);simp only [VR] at this;cases this;rfl
   ·next j hb=>
    split at h
    ·next b' hd=>
     cases h;obtain ⟨j',r,q1,q2,q3⟩:=lg (η:=η) hb;refine ⟨r,q2, ?_⟩;simp only [Nd.den,hg,h1] at q2;have:∃c,r=.b c:=by
      cases g<;>cases g'<;>simp only [fO,reduceCtorEq] at q2
      ·split at q2
       ·simp only [gI,aQ] at q2;exact ⟨_,q2.symm⟩
       ·cases q2
      ·simp only [uo,aQ] at q2;exact ⟨_,q2.symm⟩
     obtain ⟨c,rfl⟩:=this;have h8:=q3 (.bool c) rfl (by simp only [GR]);obtain ⟨v,hv,q4⟩:=DR hd;cases hv;have:=q4 η _ h8;simp only [VR] at this;cases this;rfl
    ·cases h
   ·cases h
  obtain ⟨r,q2,rfl⟩:=key;simp only [Nd.den,hg,h1] at q2;cases kk with
  | some k=>
    obtain ⟨a,rfl⟩:=hk;simp only [GR] at hy;subst hy;cases g'<;>simp only [fO,reduceCtorEq] at q2
    split at q2
    ·next e=>
     subst e;simp only [gI,aQ,GV.b.injEq] at q2;simp only [GR] at h3;subst h3;show Instr.sameNow (.int _) _ _=_
     rw [acE,q2]
    ·cases q2
  | none=>
    obtain ⟨a,rfl⟩:=hk;simp only [GR] at hy;subst hy;cases g'<;>simp only [fO,uo,reduceCtorEq] at q2
    simp only [aQ,GV.b.injEq] at q2;simp only [GR] at h3;subst h3;show Instr.sameNow .string _ _=_
    rw [acG,q2]
 ·cases h
theorem Jj {kk:Option IntKind} {n:Nat} {g:GV} {y:Value} (hg:aH.val n=some g) (hk:wX kk g) (hy:GR η.ro g y):∀ {es:List (AV×AV)} {ms:List MapEntry} {i:Nat} {r:Option (Nat×AV)},
 F7 n es i=some r->vG η es ms->∃r',Instr.findNow (qV kk) y ms i=some r'/\(match r,r' with | none,none=>True | some (_,v),some (_,z)=>VR η v z | _,_=>False)
 | [],ms,i,r,h,hm=>by
   simp only [F7,aQ] at h;subst h;have:ms=[]:=by have:=hm.1;cases ms<;>simp_all
   subst this;exact ⟨none,rfl,trivial⟩
 | e::es,ms,i,r,h,hm=>by
   obtain ⟨m,rest,rfl,h1,h2,h3⟩:=hm.tail;unfold F7 at h;split at h
   ·next hs=>
    cases h;have hs:=aaq hs hg hk hy h1;exact ⟨some (i,m.val),by simp [Instr.findNow,hs],h2⟩
   ·next hs=>
    have hs:=aaq hs hg hk hy h1;obtain ⟨r',hr,hrel⟩:=Jj hg hk hy h h3;exact ⟨r',by simp [Instr.findNow,hs,hr],hrel⟩
   ·cases h
theorem acF {kk:Option IntKind} {g a:GV} {y x:Value} {ro:Nat->Option Obj} (hk:wX kk g) (ha:wX kk a) (hy:GR ro g y) (hx:GR ro a x):Instr.sameNow (qV kk) y x=some (nK g a):=by
 cases kk with
 | some k=>
   obtain ⟨m,rfl⟩:=hk;obtain ⟨n,rfl⟩:=ha;simp only [GR] at hy hx;subst hy;subst hx;show Instr.sameNow (.int _) _ _=_
   rw [acE];simp [nK]
 | none=>
   obtain ⟨m,rfl⟩:=hk;obtain ⟨n,rfl⟩:=ha;simp only [GR] at hy hx;subst hy;subst hx;show Instr.sameNow .string _ _=_
   rw [acG];rfl
theorem MZ {ro:Nat->Option Obj} {kk:Option IntKind} {sz:Option Nat} {g:GV} {y:Value} (hk:wX kk g) (hy:GR ro g y):∀ {xs:List GV} {ms:List MapEntry} {i:Nat},qw ro kk sz xs ms->
 (gG g xs=none/\Instr.findNow (qV kk) y ms i=some none)\/∃u j z,gG g xs=some u/\Instr.findNow (qV kk) y ms i=some (some (j,z))/\i<=j/\(∃m,ms[j - i]? = some m/\Instr.sameNow (qV kk) y m.key=some true)/\Hu sz u/\GR ro u z
 | [],ms,i,h=>by
   simp only [qw] at h;subst h;exact .inl ⟨rfl,rfl⟩
 | x::xs,ms,i,h=>by
   obtain ⟨a,b,m,rest,rfl,rfl,h1,h2,h3,h4,h5⟩:=h;have hs:=acF hk h1 hy h3;cases hb:nK g a with
   | true=>
     rw [hb] at hs;exact .inr ⟨b,i,m.val,by simp [gG,hb],by simp [Instr.findNow,hs],dH _,⟨m,by simp,hs⟩,h2,h4⟩
   | false=>
     rw [hb] at hs;rcases MZ (i:=i+1) hk hy h5 with ⟨q1,q2⟩ | ⟨u,j,z,q1,q2,q3,⟨m',q4,q5⟩,q6⟩
     ·exact .inl ⟨by simp [gG,hb,q1],by simp [Instr.findNow,hs,q2]⟩
     ·refine .inr ⟨u,j,z,by simp [gG,hb,q1],by simp [Instr.findNow,hs,q2],by omega,⟨m', ?_,q5⟩,q6⟩
      have:j - i=(j - (i+1))+1:=by omega
      rw [this];simpa using q4
theorem abN {ro:Nat->Option Obj} {kk:Option IntKind} {sz:Option Nat} {g u:GV} {e:MapEntry} (hk:wX kk g) (hu:Hu sz u) (h1:GR ro g e.key) (h2:GR ro u e.val):∀ {xs:List GV} {ms:List MapEntry},qw ro kk sz xs ms->gG g xs=none->
 qw ro kk sz (kS g u xs) (ms++[e])
 | [],ms,h,_=>by
   simp only [qw] at h;subst h;exact ⟨g,u,e,[],rfl,rfl,hk,hu,h1,h2,rfl⟩
 | x::xs,ms,h,hn=>by
   obtain ⟨a,b,m,rest,rfl,rfl,q1,q2,q3,q4,q5⟩:=h;simp only [gG] at hn;split at hn
   ·cases hn
   ·next hb=>
    simp only [kS,ah hb];exact ⟨a,b,m,rest++[e],rfl,rfl,q1,q2,q3,q4,abN hk hu h1 h2 q5 hn⟩
theorem abO {ro:Nat->Option Obj} {kk:Option IntKind} {sz:Option Nat} {g u:GV} {y z':Value} (hk:wX kk g) (hu:Hu sz u) (h1:GR ro g y) (h2:GR ro u z'):∀ {xs:List GV} {ms:List MapEntry} {i j:Nat} {z:Value},qw ro kk sz xs ms->Instr.findNow (qV kk) y ms i=some (some (j,z))->
 qw ro kk sz (kS g u xs) (ms.modify (j - i) λe=>{ e with key:=y,val:=z' })
 | [],ms,i,j,z,h,hf=>by
   simp only [qw] at h;subst h;simp [Instr.findNow] at hf
 | x::xs,ms,i,j,z,h,hf=>by
   obtain ⟨a,b,m,rest,rfl,rfl,q1,q2,q3,q4,q5⟩:=h;have hs:=acF hk q1 h1 q3;cases hb:nK g a with
   | true=>
     rw [hb] at hs;simp only [Instr.findNow,hs,aQ,jc] at hf;obtain ⟨rfl,rfl⟩:=hf;simp only [kS,hb,if_true,xW];exact ⟨g,u, { m with key:=y,val:=z' },rest,rfl,by simp,hk,hu,h1,h2,q5⟩
   | false=>
     rw [hb] at hs;simp only [Instr.findNow,hs] at hf;have hj:i+1<=j:=by
      rcases MZ (i:=i+1) hk h1 q5 with ⟨_,r2⟩ | ⟨_,j',_,_,r2,r3,_⟩
      ·rw [hf] at r2;cases r2
      ·rw [hf] at r2;cases r2;exact r3
     have ih:=abO hk hu h1 h2 q5 hf;have e:j - i=(j - (i+1))+1:=by omega
     rw [e];simp only [kS,hb,eG,if_false,List.modify_succ_cons];exact ⟨a,b,m,_,rfl,rfl,q1,q2,q3,q4,ih⟩
theorem L8 {kt:TypeId} {kk:Option IntKind} {g:GV} {y:Value} (hu:P.underlying kt=some (qV kk)) (hk:wX kk g) (hy:GR η.ro g y) (b:Bool):(Instr.checkKey b 10000 kt y).run P w=.ok () w:=by
 have H:∀n:Nat,(Instr.checkKey b (n+1) kt y).run P w=.ok () w:=λn=>by
  cases kk with
  | some k=>
    obtain ⟨m,rfl⟩:=hk;simp only [GR] at hy;subst hy;simp only [Instr.checkKey,aO,aV hu,aN,qV,aZ]
  | none=>
    obtain ⟨m,rfl⟩:=hk;simp only [GR] at hy;subst hy;simp only [Instr.checkKey,aO,aV hu,aN,qV,aZ]
 exact H 9999
theorem adw {et:TypeId} {v:AV} {n:Nat} {sz:Option Nat} {x:Value} (h:Ku P et v=some (n,sz)) (hx:VR η v x):∃g,aH.val n=some g/\Hu sz g/\GR η.ro g x/\(match nJ P et with
 | some true=>∃k,sizeT P et=some k/\sz=some k
 | some false=>sz=none
 | none=>False):=by
 unfold Ku at h;split at h
 ·next ha=>
  split at h
  ·next n' k hn hk=>
   split at h
   ·next he=>
    cases h;obtain ⟨l,gs,rfl,h1,h2,h3,h4⟩:=Fv hn hx;rw [ha];refine ⟨_,h2,⟨gs,rfl, ?_,h3⟩,h4,k,hk,rfl⟩;rw [h1];exact bn he
   ·cases h
  ·cases h
 ·next ha=>
  obtain ⟨n',hn,e⟩:=aX.1 h;cases e;obtain ⟨g,h1,h2,h3⟩:=kX hn hx;rw [ha];exact ⟨g,h1,h2,h3,rfl⟩
 ·cases h
theorem NM {a b:Option IntKind} (h:Gt a b=true):a=b:=by
 cases a<;>cases b<;>simp only [Gt] at h
 ·rfl
 ·cases h
 ·cases h
 ·rw [NI h]
theorem VT {a b:Option Nat} (h:J9 a b=true):a=b:=by
 cases a<;>cases b<;>simp only [J9] at h
 ·rfl
 ·cases h
 ·cases h
 ·rw [bn h]
theorem Wv {et:TypeId} {z:AV} (h:Kz P et=some z):∃x,(zeroValue et).run P w=.ok x w/\VR η z x:=by
 unfold Kz at h;split at h
 ·next i hi=>
  split at h
  ·next x hx=>
   obtain ⟨h3,h4⟩:=PW (w:=w) (η:=η) hi hx h;exact ⟨x,h3,h4⟩
  ·cases h
 ·cases h
theorem ahH:∀ (cs:List GV) (n:Nat),cs.length=n->takeN (bZ cs) 0 n=some (bZ cs):=by
 intro cs n hn;have hl:(bZ cs).length=n:=by rw [kW,hn]
 simp only [takeN,dF];rw [mG (by omega),ak hl]
theorem Rl (s:ByteArray):∀ (l:List MapEntry) (i:Nat),(∀m∈l,∃t,m.key=.string t)->
 (∃j m,Instr.findNow .string (.string s) l i=some (some (j,m.val))/\m∈l/\m.key=.string s)\/(Instr.findNow .string (.string s) l i=some none/\∀m∈l,m.key≠.string s)
 | [],i,_=>.inr ⟨rfl,λm hm=>by simp at hm⟩
 | m::l,i,h=>by
   obtain ⟨t,ht⟩:=h m (by simp);have hs:Instr.sameNow .string (.string s) m.key=some (s==t):=by rw [ht];rfl
   have hbb:(s==t)=decide (s=t):=by
    obtain ⟨⟨a⟩⟩:=s;obtain ⟨⟨b⟩⟩:=t;rw [Dw];by_cases c:a=b
    ·subst c;simp
    ·rw [Ac (by simpa using c)];simpa using c
   by_cases c:s=t
   ·subst c
    rw [hbb,DT rfl] at hs;exact .inl ⟨i,m,by simp [Instr.findNow,hs],by simp,ht⟩
   ·rw [hbb,Ac c] at hs
    rcases Rl s l (i+1) (λm hm=>h m (by simp [hm])) with ⟨j,m',h1,h2,h3⟩ | ⟨h1,h2⟩
    ·exact .inl ⟨j,m',by simp [Instr.findNow,hs,h1],by simp [h2],h3⟩
    ·refine .inr ⟨by simp [Instr.findNow,hs,h1],λm' hm'=>?_⟩
     simp only [dR] at hm';rcases hm' with rfl | hm'
     ·rw [ht];simpa using λe=>c e.symm
     ·exact h2 m' hm'
theorem Zz (s:ByteArray) {l l':List MapEntry} (hp:l.Perm l') (hk:∀m∈l',∃t,m.key=.string t) (hn:(l'.map (·.key)).Nodup) {r:Option (Nat×Value)} (h:Instr.findNow .string (.string s) l' 0=some r) :
 ∃r',Instr.findNow .string (.string s) l 0=some r'/\(match r,r' with | none,none=>True | some (_,v),some (_,z)=>v=z | _,_=>False):=by
 have hk2:∀m∈l,∃t,m.key=.string t:=λm hm=>hk m (hp.mem_iff.1 hm);have inj:∀m∈l',∀m'∈l',m.key=m'.key->m=m':=by
  clear hp hk h hk2;induction l' with
  | nil=>intro m hm;simp at hm
  | cons a l ih=>
    simp only [jy,Xg,sF,not_exists,not_and] at hn;intro m hm m' hm' e;simp only [dR] at hm hm';rcases hm with rfl | hm<;>rcases hm' with rfl | hm'
    ·rfl
    ·exact absurd e.symm (hn.1 m' hm')
    ·exact absurd e (hn.1 m hm)
    ·exact ih hn.2 m hm m' hm' e
 rcases Rl s l' 0 hk with ⟨j,m,h1,h2,h3⟩ | ⟨h1,h2⟩<;>rcases Rl s l 0 hk2 with ⟨j',m',h4,h5,h6⟩ | ⟨h4,h5⟩
 ·rw [h1] at h;cases h
  refine ⟨_,h4, ?_⟩;have:=inj m h2 m' (hp.mem_iff.1 h5) (by rw [h3,h6]);subst this;rfl
 ·exact absurd h3 (h5 m (hp.mem_iff.2 h2))
 ·exact absurd h6 (h2 m' (hp.mem_iff.1 h5))
 ·rw [h1] at h;cases h
  exact ⟨_,h4,trivial⟩
theorem aqg (h:SR P η σ w) {t:TypeId} {m k v:AV} {x y:Value} {ok:Bool} (hs:Ph P t m k ok σ=some v) (hx:VR η m x) (hy:VR η k y) :
 ∃z,(Instr.lookup t x y ok).run P w=.ok z w/\VR η v z:=by
 unfold Ph at hs;split at hs;rotate_left
 ·cases hs
 next kt et id hu=>
 simp only [VR] at hx;obtain ⟨q,hq,rfl⟩:=hx;split at hs
 ·next n kk es hn hg=>
  obtain ⟨mY,g,g1,g2,g3⟩:=NJ hn hy;obtain ⟨q',hq',ms,clock,hb,hsz,hp⟩:=h.obj _ _ hg rfl;rw [hq] at hq';cases hq';have hmr:vG η es ms.toList:=⟨by simpa using hsz,λk e hk=>by obtain ⟨m,hm,h1,h2⟩:=hp k e hk;exact ⟨m,by simpa using hm,h1,h2⟩⟩
  rw [NZ hu y ok hb];have hck:∀b,(Instr.checkKey b 10000 kt y).run P w=.ok () w:=λb=>L8 mY g2 g3 b;split at hs
  ·next j u hf=>
   cases hs;obtain ⟨r',h1,h2⟩:=Jj g1 g2 g3 hf hmr;cases r' with
   | none=>exact h2.elim
   | some p=>
     obtain ⟨j',z⟩:=p;have hfk:(Instr.findKey kt y ms.toList).run P w=.ok (some (j',z)) w:=by simp only [Instr.findKey,aO,aV mY,aN,h1,aZ]
     refine ⟨if ok then .tuple #[z,.bool true] else z, ?_, ?_⟩
     ·simp only [qB,aO,aN,hck,hfk,aZ]
     ·cases ok
      ·simpa using h2
      ·simp only [VR];exact ⟨[z,.bool true],rfl,aA.cons h2 (aA.cons (by simp [VR]) (by simp [aA]))⟩
  ·next hf=>
   obtain ⟨r',h1,h2⟩:=Jj g1 g2 g3 hf hmr;cases r' with
   | some p=>exact h2.elim
   | none=>
     have hfk:(Instr.findKey kt y ms.toList).run P w=.ok none w:=by simp only [Instr.findKey,aO,aV mY,aN,h1,aZ]
     obtain ⟨a,ha,rfl⟩:=aX.1 hs;obtain ⟨z,h3,h4⟩:=Wv (w:=w) (η:=η) ha;refine ⟨if ok then .tuple #[z,.bool false] else z, ?_, ?_⟩
     ·simp only [qB,aO,aN,hck,hfk,h3,aZ]
     ·cases ok
      ·simpa using h4
      ·simp only [VR];exact ⟨[z,.bool false],rfl,aA.cons h4 (aA.cons (by simp [VR]) (by simp [aA]))⟩
  ·cases hs
 ·next n kk es hn hg=>
  obtain ⟨mY,g,g1,g2,g3⟩:=NJ hn hy;obtain ⟨q',hq',hnd,ms,clock,ms',hb,hpm,hsz,hp⟩:=h.obj _ _ hg rfl;rw [hq] at hq';cases hq';split at hs;rotate_left
  ·cases hs
  next hkk=>
  have:=NM hkk;subst this;have hmr:vG η (es.map λe=>(AV.s e.1,e.2)) ms':=⟨by simpa using hsz,λk e hk=>by
   rw [jw] at hk;obtain ⟨e0,h4,rfl⟩:=aX.1 hk;obtain ⟨m,hm,h1,h2⟩:=hp k e0 h4;exact ⟨m,hm,by simp only [VR];exact h1,h2⟩⟩
  have hkeys:ms'.map (·.key)=es.map λe=>Value.string ⟨⟨e.1⟩⟩:=by
   apply Ia;intro k;rw [jw,jw];cases he:es[k]? with
   | none=>
     have:ms'[k]? = none:=by rw [List.getElem?_eq_none_iff] at he ⊢;omega
     rw [this];rfl
   | some e=>
     obtain ⟨m,hm,h1,_⟩:=hp k e he;rw [hm];simp [h1]
  have hks:∀m∈ms',∃t,m.key=.string t:=λm hm=>by
   have:m.key∈ms'.map (·.key):=List.mem_map_of_mem hm;rw [hkeys] at this;obtain ⟨e,_,h1⟩:=sF.1 this;exact ⟨_,h1.symm⟩
  have aaf:(ms'.map (·.key)).Nodup:=by
   rw [hkeys];have:(es.map λe=>Value.string ⟨⟨e.1⟩⟩)=(es.map (·.1)).map λs=>Value.string ⟨⟨s⟩⟩:=by simp
   rw [this];refine List.Pairwise.map _ (λa b hab hc=>hab ?_) hnd;simpa using hc
  obtain ⟨s,hs1,hs2⟩:∃s,y=.string s/\True:=by
   obtain ⟨s0,rfl⟩:=g2;simp only [GR] at g3;exact ⟨_,g3,trivial⟩
  subst hs1;rw [NZ hu _ ok hb];have hck:∀b,(Instr.checkKey b 10000 kt (.string s)).run P w=.ok () w:=λb=>L8 mY g2 g3 b;split at hs
  ·next j u hf=>
   cases hs;obtain ⟨r',h1,h2⟩:=Jj g1 g2 g3 hf hmr;cases r' with
   | none=>exact h2.elim
   | some p=>
     obtain ⟨j',z⟩:=p;obtain ⟨r2,h3,h4⟩:=Zz s hpm hks aaf h1;cases r2 with
     | none=>exact h4.elim
     | some p2=>
     obtain ⟨j2,z2⟩:=p2;have h4:z=z2:=h4;subst h4;have hfk:(Instr.findKey kt (.string s) ms.toList).run P w=.ok (some (j2,z)) w:=by simp only [Instr.findKey,aO,aV mY,aN,qV,h3,aZ]
     refine ⟨if ok then .tuple #[z,.bool true] else z, ?_, ?_⟩
     ·simp only [qB,aO,aN,hck,hfk,aZ]
     ·cases ok
      ·simpa using h2
      ·simp only [VR];exact ⟨[z,.bool true],rfl,aA.cons h2 (aA.cons (by simp [VR]) (by simp [aA]))⟩
  ·next hf=>
   obtain ⟨r',h1,h2⟩:=Jj g1 g2 g3 hf hmr;cases r' with
   | some p=>exact h2.elim
   | none=>
     obtain ⟨r2,h3,h4⟩:=Zz s hpm hks aaf h1;cases r2 with
     | some p2=>exact h4.elim
     | none=>
     have hfk:(Instr.findKey kt (.string s) ms.toList).run P w=.ok none w:=by simp only [Instr.findKey,aO,aV mY,aN,qV,h3,aZ]
     obtain ⟨a,ha,rfl⟩:=aX.1 hs;obtain ⟨z,h5,h6⟩:=Wv (w:=w) (η:=η) ha;refine ⟨if ok then .tuple #[z,.bool false] else z, ?_, ?_⟩
     ·simp only [qB,aO,aN,hck,hfk,h5,aZ]
     ·cases ok
      ·simpa using h6
      ·simp only [VR];exact ⟨[z,.bool false],rfl,aA.cons h6 (aA.cons (by simp [VR]) (by simp [aA]))⟩
  ·cases hs
 ·next n kk j Au sz hn hg=>
  obtain ⟨mY,g,g1,g2,g3⟩:=NJ hn hy;obtain ⟨q',hq',xs,ms,clock,hv,hb,hp⟩:=h.obj _ _ hg rfl;rw [hq] at hq';cases hq';rw [NZ hu y ok hb];have hck:∀b,(Instr.checkKey b 10000 kt y).run P w=.ok () w:=λb=>L8 mY g2 g3 b;split at hs;rotate_left
  ·cases hs
  next hkk=>
  have:=NM hkk;subst this;split at hs;rotate_left
  ·cases hs
  next zn sz' hz=>
  split at hs;rotate_left
  ·cases hs
  next hsz=>
  have:=VT hsz;subst this;obtain ⟨za,hza,hzn⟩:=uD.1 hz;obtain ⟨zv,z1,z2⟩:=Wv (w:=w) (η:=η) hza;obtain ⟨zg,z3,z4,z5,z6⟩:=adw hzn z2;split at hs;rotate_left
  ·cases hs
  next u hu'=>
  obtain ⟨jn,hj,hpart⟩:=uD.1 hu';obtain ⟨rg,r1,r2⟩:=fG hj;simp only [Nd.den,z3,hv,g1,aQ] at r2;have fin:∀ (z:Value) (b:Bool),Hu sz rg->GR η.ro rg z->(gG g xs).isSome=b->qB kt et y ok ms=qB kt et y ok ms->(qB kt et y ok ms).run P w=.ok (if ok then .tuple #[z,.bool b] else z) w->∃z,(qB kt et y ok ms).run P w=.ok z w/\VR η v z:=by
   intro z b hok hgr hb' _ hrun;have hvu:VR η u z:=by
    obtain ⟨r,q1,q2⟩:=VP (η:=η) r1 hpart;cases hag:nJ P et with
    | none=>rw [hag] at z6;exact z6.elim
    | some ag=>
      rw [hag] at z6 q1;cases ag with
      | true=>
        obtain ⟨kn,k1,k2⟩:=z6;subst k2;obtain ⟨cs,rfl,c1,c2⟩:=hok;simp only [k1,GV.cells,ahH cs kn c1,gy,aQ] at q1;subst q1;apply q2;simp only [GR] at hgr;obtain ⟨vs,rfl,hgs⟩:=hgr;simp only [VR];exact ⟨vs,rfl,(nC _ _).1 hgs⟩
      | false=>
        simp only at z6;subst z6;have hsc:rg.scalar=true:=hok;have hc:rg.cells=[rg]:=by cases rg<;>first | rfl | (simp [GV.scalar] at hsc)
        simp only [hc,Jp,iM,gy,aQ] at q1;subst q1;exact q2 _ ((kU _ _).1 hgr)
   cases ok with
   | false=>
     simp only [eG,if_false,aQ] at hs hrun;subst hs;exact ⟨z,hrun,hvu⟩
   | true=>
     simp only [if_true] at hs hrun;split at hs
     ·next bb hbb=>
      cases hs;obtain ⟨_,gb,_,b2,b3⟩:=lg (η:=η) hbb;simp only [Nd.den,hv,g1,aQ] at b2;subst b2;refine ⟨_,hrun, ?_⟩;simp only [VR];exact ⟨[z,.bool b],rfl,aA.cons hvu (aA.cons (b3 _ rfl (by simp only [GR];rw [hb'])) (by simp [aA]))⟩
     ·cases hs
  rcases MZ (i:=0) g2 g3 hp with ⟨q1,q2⟩ | ⟨u',j',z,q1,q2,_,_,q5,q6⟩
  ·have hfk:(Instr.findKey kt y ms.toList).run P w=.ok none w:=by simp only [Instr.findKey,aO,aV mY,aN,q2,aZ]
   rw [q1,uF] at r2;subst r2;refine fin zv false z4 z5 (by rw [q1];rfl) rfl ?_;simp only [qB,aO,aN,hck,hfk,z1,aZ]
  ·have hfk:(Instr.findKey kt y ms.toList).run P w=.ok (some (j',z)) w:=by simp only [Instr.findKey,aO,aV mY,aN,q2,aZ]
   rw [q1,uG] at r2;subst r2;refine fin z true q5 q6 (by rw [q1];rfl) rfl ?_;simp only [qB,aO,aN,hck,hfk,aZ]
 ·cases hs
theorem aoc {kk:Option IntKind} {g a:GV} {y x:Value} (hk:wX kk g) (hy:GR η.ro g y) (hs:Instr.sameNow (qV kk) y x=some true) (n:Nat):Instr.sameBits (n+1) x y=true:=by
 cases kk with
 | some k=>
   obtain ⟨m,rfl⟩:=hk;simp only [GR] at hy;subst hy;cases x<;>simp only [Instr.sameNow,qV,reduceCtorEq] at hs
   split at hs
   ·next e=>subst e;simp at hs;subst hs;simp [Instr.sameBits]
   ·cases hs
 | none=>
   obtain ⟨m,rfl⟩:=hk;simp only [GR] at hy;subst hy;cases x<;>simp only [Instr.sameNow,qV,reduceCtorEq] at hs
   next s=>
   obtain ⟨⟨l⟩⟩:=s;rw [Dw] at hs;simp only [Instr.sameBits,Dw];simp_all
theorem ac3 (h:SR P η σ w) {t:TypeId} {m k v:AV} {x y z:Value} (hs:Pm P t m k v σ=some σ') (hx:VR η m x) (hy:VR η k y) (hz:VR η v z) :
 ∃w',(Instr.mapUpdate t x y z).run P w=.ok () w'/\St P η σ w η σ' w':=by
 unfold Pm at hs;split at hs;rotate_left
 ·cases hs
 next kt et id hu=>
 simp only [VR] at hx;obtain ⟨q,hq,rfl⟩:=hx;split at hs;rotate_left
 ·cases hs
 next hl=>
 have hl:=qL hl
 have main:∀ (o:bg) (n:Nat) (kk:Option IntKind) (u:Nat) (sz:Option Nat) (j j':Nat) (xs:List GV) (ms:Array MapEntry) (clock:Nat),σ.get id=some o->o.own=true->Jy P kt k=some (n,kk)->Ku P et v=some (u,sz)->
  aH.val j=some (.l xs)->w.heap[q.bl]? = some (.map ms clock)->qw η.ro kk sz xs ms.toList->dS (.vU j n u)=some j'->∃w',(Instr.mapUpdate t (.map (some q.bl)) y z).run P w=.ok () w'/\St P η σ w η (σ.put id (.smap j' kk sz)) w':=by
  intro o n kk u sz j j' xs ms clock hg ho hn hvn hj hb hp hf;obtain ⟨mY,g,g1,g2,g3⟩:=NJ hn hy;obtain ⟨ug,u1,u2,u3,_⟩:=adw hvn hz;obtain ⟨rg,r1,r2⟩:=fG hf;simp only [Nd.den,hj,g1,u1,aQ] at r2;subst r2;have hck:=L8 (w:=w) mY g2 g3 false;have hgo:(getObj q.bl).run P w=.ok (.map ms clock) w:=by simp [getObj,Sem.run,hb]
  rcases MZ (i:=0) g2 g3 hp with ⟨q1,q2⟩ | ⟨u',i,zz,q1,q2,_,⟨m',q3,q4⟩,q5,q6⟩
  ·have hfk:(Instr.findKey kt y ms.toList).run P w=.ok none w:=by simp only [Instr.findKey,aO,aV mY,aN,q2,aZ]
   refine ⟨lN w q.bl (.map (ms.push { key:=y,val:=z,born:=clock }) (clock+1)), ?_,St.write h hg ho hl hq A8 (λk hk=>AZ hk) rfl rfl rfl ?_⟩
   ·simp only [Instr.mapUpdate,aO,aV hu,aN,hgo,hck,hfk]
    exact He hb (by simp)
   ·refine ⟨_,_,clock+1,r1,zA hb, ?_⟩
    rw [Array.toList_push];exact abN g2 u2 g3 u3 hp q1
  ·have hfk:(Instr.findKey kt y ms.toList).run P w=.ok (some (i,zz)) w:=by simp only [Instr.findKey,aO,aV mY,aN,q2,aZ]
   rw [xX,su] at q3;have Sv:(Instr.keyThatStays (((ms[i]?).map (·.key)).getD y) y).run P w=.ok y w:=by
    rw [q3];simp only [gy,uG,Instr.keyThatStays];rw [ak (aoc (a:=g) g2 g3 q4 9999)];rfl
   refine ⟨lN w q.bl (.map (ms.modify i λe=>{ e with key:=y,val:=z }) clock), ?_,St.write h hg ho hl hq A8 (λk hk=>AZ hk) rfl rfl rfl ?_⟩
   ·simp only [Instr.mapUpdate,aO,aV hu,aN,hgo,hck,hfk,Sv]
    exact He hb (by simp)
   ·refine ⟨_,_,clock,r1,zA hb, ?_⟩
    rw [Array.toList_modify];have:=abO (i:=0) g2 u2 g3 u3 hp q2;rwa [xX] at this
 split at hs
 ·next n kk u sz hn hvn hg=>
  split at hs
  ·next j hj=>
   obtain ⟨j',hf,rfl⟩:=aX.1 hs;obtain ⟨q',hq',ms,clock,hb,hsz,hp⟩:=h.obj _ _ hg rfl;rw [hq] at hq';cases hq';obtain ⟨gl,l1,l2⟩:=fG hj;simp only [Nd.den,valsOf,gy,aQ] at l2;subst l2;refine main _ n kk u sz j j' [] ms clock hg rfl hn hvn l1 hb ?_ hf;simp only [qw];have:ms.size=0:=by simpa using hsz
   simpa using Wx this
  ·cases hs
 ·next n kk u sz j Au sz' hn hvn hg=>
  split at hs
  ·next hc=>
   rw [aJ] at hc;have e1:=NM hc.1;have e2:=VT hc.2;subst e1;subst e2;obtain ⟨j',hf,rfl⟩:=aX.1 hs;obtain ⟨q',hq',xs,ms,clock,hv,hb,hp⟩:=h.obj _ _ hg rfl;rw [hq] at hq';cases hq';exact main _ n kk u sz j j' xs ms clock hg rfl hn hvn hv hb hp hf
  ·cases hs
 ·cases hs
theorem ajC {v:AV} {x:Value} (h:mapArg v=true) (hx:VR η v x):∃k n,x=.int k n:=by
 unfold mapArg at h;split at h
 ·next n=>
  split at h
  ·next a hn=>
   obtain ⟨g,h1,h2⟩:=aH.oZ _ _ hn (by simp);simp only [VR] at hx;obtain ⟨g',h3,_,h4⟩:=hx;rw [h1] at h3;cases h3;simp only [Nd.den] at h2;split at h2
   ·cases h2
    simp only [GR] at h4;exact ⟨_,_,h4⟩
   ·cases h2
  ·cases h
 ·next hne=>
  obtain ⟨n,hn⟩:=adP.1 h;obtain ⟨k,hk⟩:=wB hn hx;exact ⟨k,n,hk⟩
theorem aaE {e:TypeId} {size len m:Nat} {cs:List AV} {vs:List Value} (h:NU P e size len cs=some m) (hv:aA η cs vs):0 < size/\0 < len/\cs.length=len * size/\∃gs,aH.val m=some (.l gs)/\gs.length=len/\aA η (bC gs) vs/\∀x∈gs,x.cells.length=size/\x.cells.all GV.scalar=true:=by
 unfold NU at h;split at h;rotate_left
 ·cases h
 split at h;rotate_left
 ·cases h
 next agg ha=>
 split at h;rotate_left
 ·cases h
 next hc=>
 simp only [aJ,mg,iO] at hc;obtain ⟨⟨h1,h2⟩,h3⟩:=hc;have h3:=bn h3;have hpos:0 < size:=by
  rcases h1 with ⟨_,h1⟩ | h1
  ·exact h1
  ·have:=bn h1;omega
 have h11:agg=false->size=1:=by
  intro e;rcases h1 with ⟨h1,_⟩ | h1
  ·rw [e] at h1;cases h1
  ·exact bn h1
 split at h
 ·next ns hns=>
  obtain ⟨gs,k1,k2,k3,_,k5⟩:=BP h11 len hns hv h3;obtain ⟨g,g1,g2⟩:=fG h;simp only [Nd.den,k1,gy,aQ] at g2;subst g2;exact ⟨hpos,h2,h3,gs,g1,k2,k3,k5⟩
 ·cases h
theorem ajo {R:Prop} {t e:TypeId} {size bytes len:Nat} {z:List AV} {ps:List (Nat×AV)} {qs:Array (Nat×Value)} {cs:List AV}
 (fin:∀ (v:AV) (τ:au),NW P σ e size len cs=(some v,τ)->(∃y w' η',(Instr.buildSlice t len qs).run P w=.ok y w'/\St P η σ w η' τ w'/\VR η' v y)->R)
 (h:SR P η σ w) (hi:tq P t=some (e,size,bytes,z)) (hlen:¬ len * size > 2 ^ 24) (hf:yg (λi=>some (i * size,size)) (if len * size=0 then [] else iH len z) ps=some cs) (hp:zO η ps qs.toList):R:=by
 unfold NW at fin;split at fin;rotate_left
 ·exact fin _ _ rfl (aee h hi hlen hf hp)
 next m hm=>
 refine fin _ _ rfl ?_;obtain ⟨hu,_,hz,he,hzl,hn⟩:=yF hi;obtain ⟨zv,nH,hzv⟩:=CV hz;have hpos:0 < size/\0 < len:=by
  unfold NU at hm;split at hm;rotate_left
  ·cases hm
  split at hm;rotate_left
  ·cases hm
  next agg ha=>
  split at hm;rotate_left
  ·cases hm
  next hc=>
  simp only [aJ,mg,iO] at hc;refine ⟨?_,hc.1.2⟩;rcases hc.1.1 with ⟨_,h1⟩ | h1
  ·exact h1
  ·have:=bn h1;omega
 have h0:¬ len * size=0:=by
  have:=Ip hpos.2 hpos.1;omega
 simp only [h0,if_false] at hf;obtain ⟨xs,Js,hxs⟩:=F6 hf hp (KA (hzv η) hzl);have hl:=hxs.length;have hal:=Aa h (c:=cs) (xs:=xs) (elem:=e) (es:=size) (opn:=true) (by rw [hl,pK];exact hxs) (by simpa using E9 hl) (by simp) (λ_=>⟨he,hpos.1,hn⟩);obtain ⟨_,_,hcl,gs,g1,g2,_,g4⟩:=aaE hm hxs;have hsz:xs.size=len * size:=by rw [<- hcl,hl];simp
 have hdiv:xs.size / size=len:=by rw [hsz];exact Xl _ hpos.1
 obtain ⟨q1,q2⟩:=St.uX (f:=false) (size:=size) (y:=.slice (some ⟨w.heap.size,0,none⟩) len len) hal g1 g4 hn (λvs hvs=>by
  obtain ⟨_,_,_,gs',k1,_,k3,_⟩:=aaE hm hvs;rw [g1] at k1;cases k1;exact k3) (by
  simp only [VR];refine ⟨⟨w.heap.size,0,xs.size,size⟩,by simp [Env.put], ?_, ?_⟩
  ·simp only [uF,xX]
   rw [hdiv,g2];simp
  ·simp only [uF,xX,hdiv,g2,mJ]) (by simp)
 refine ⟨_,_,_, ?_,q1,q2⟩;simp only [Instr.buildSlice,aO,aV hu,aN,iC hn,rH,ah hlen,h0,if_false,nH,aZ,Js,newRow,newObj,Sem.run]
end
end Go.aK
namespace Go.aK
set_option linter.unusedSimpArgs false
noncomputable section
variable [aH]
set_option linter.unusedSectionVars false
set_option linter.unusedVariables false
variable {P:Program} {η:Env} {σ σ':au} {w:World}
structure TR (P:Program) (η:Env) (a:aU) (A:Act):Prop where
 gn:a.gn=P.globals.size
 size:A.tmps.size=a.n
 none:A.defers=[]
 slot:∀t v,a.t.get t=some v->∃x,A.tmps[t]? = some x/\VR η v x
theorem TR.mono {η η':Env} {a:aU} {A:Act} (h:TR P η a A) (hle:η.le η'):TR P η' a A:=
 ⟨h.gn,h.size,h.none,λt v hv=>by obtain ⟨x,hx,hr⟩:=h.slot t v hv;exact ⟨x,hx,VR.mono hle _ _ hr⟩⟩
theorem TR.put {a a':aU} {A:Act} {dst:Option Tmp} {r:Option AV} {x:Value} (h:TR P η a A) (hp:a.put dst r=some a') (hr:∀v,r=some v->VR η v x):TR P η a' (A.put dst x):=by
 unfold aU.put at hp;split at hp
 ·cases hp;exact h
 ·next d=>
  split at hp
  ·next hd=>
   cases hp;refine ⟨h.gn,by simp [Act.put,h.size],h.none,λt v hv=>?_⟩;rw [Tr.tH] at hv;show ∃y,(A.tmps.setIfInBounds d x)[t]? = some y/\_
   rw [zH];split at hv
   ·next e=>
    subst e;rw [ak rfl,ak (by rw [h.size];exact hd)];exact ⟨x,rfl,hr v hv⟩
   ·next e=>rw [ah (λe'=>e e'.symm)];exact h.slot t v hv
  ·cases hp
theorem Jh {a:aU} {A:Act} (h:SR P η σ w) (ht:TR P η a A) (x:Operand) (v:AV) (hv:a.eval x=some v):VR η v (A.eval x):=by
 cases x with
 | tmp t=>
   obtain ⟨y,hy,hr⟩:=ht.slot t v hv;simp only [Act.eval];rw [uZ,hy];exact hr
 | const c=>exact AA _ _ _ hv
 | global g=>
   simp only [aU.eval] at hv;split at hv
   ·next hg=>
    cases hv;rw [ht.gn] at hg;obtain ⟨sz,es,h1⟩:=h.mX g (Nat.le_of_lt hg);simp only [VR,Act.eval];exact ⟨_,h1,by simp⟩
   ·cases hv
 | func f=>
   simp only [aU.eval,aQ] at hv;subst hv;simp only [VR,Act.eval];exact ⟨[],[],rfl,by simp [aA],by simp [aA]⟩
def Iq (P:Program) (η:Env) (σ:au) (w:World) (r:Option AV) (σ':au) (s:Sem Next):Prop:=
 ∃nx w' η',s.run P w=.ok nx w'/\St P η σ w η' σ' w'/\(match r with | some v=>∃x,nx=.value x/\VR η' v x | none=>nx=.skip)
theorem dJ {r:AV} {s:Sem Value} (h:∃y w' η',s.run P w=.ok y w'/\St P η σ w η' σ' w'/\VR η' r y):Iq P η σ w (some r) σ' (do pure (.value (<- s))):=by
 obtain ⟨y,w',η',h1,h2,h3⟩:=h;exact ⟨.value y,w',η',by simp only [aO,h1,aN,aZ],h2,y,rfl,h3⟩
theorem GI {s:Sem Unit} (h:∃w' η',s.run P w=.ok () w'/\St P η σ w η' σ' w'):Iq P η σ w none σ' (do s;pure .skip):=by
 obtain ⟨w',η',h1,h2⟩:=h;exact ⟨.skip,w',η',by simp only [aO,h1,aN,aZ],h2,rfl⟩
theorem gW {r:AV} {s:Sem Value} (h:SR P η σ w) (hs:∃y,s.run P w=.ok y w/\VR η r y):∃y w' η',s.run P w=.ok y w'/\St P η σ w η' σ w'/\VR η' r y:=by
 obtain ⟨y,h1,h2⟩:=hs;exact ⟨y,w,η,h1,St.refl h,h2⟩
theorem iU {v:Option AV} {r:Option AV} (h:cu σ v=some (r,σ')):∃u,v=some u/\r=some u/\σ'=σ:=by
 simp only [cu,aX,jc] at h;obtain ⟨u,h1,h2,h3⟩:=h;exact ⟨u,h1,h2.symm,h3.symm⟩
theorem AQ {v:Option (AV×au)} {r:Option AV} (h:qF v=some (r,σ')):∃u,v=some (u,σ')/\r=some u:=by
 simp only [qF,aX,Fe,jc] at h;obtain ⟨u,s,h1,h2,h3⟩:=h;subst h3;exact ⟨u,h1,h2.symm⟩
theorem U2 {v:Option au} {r:Option AV} (h:EF v=some (r,σ')):v=some σ'/\r=none:=by
 simp only [EF,aX,jc] at h;obtain ⟨s,h1,h2,h3⟩:=h;subst h3;exact ⟨h1,h2.symm⟩
theorem ad4 {c:Value} {t:Bool} (h:VR η (.b t) c):(asBool c).run P w=.ok t w:=by
 simp only [VR] at h;subst h;rfl
theorem aeG (h:SR P η σ w) {ts:Array TypeId} {ty t:TypeId} {x v:AV} {u:Value} (ht:ts[0]? = some t) (hs:Qm P t x σ=some (v,σ')) (hu:VR η x u) :
 ∃y w' η',(Builtin.clear_ ts ty #[u]).run P w=.ok y w'/\St P η σ w η' σ' w'/\VR η' v y:=by
 have hun:∀η':Env,VR η' (.dG []) (.tuple #[]):=λη'=>by simp only [VR];exact ⟨[],rfl,by simp [aA]⟩
 unfold Qm at hs;split at hs
 ·next e hut=>
  cases hs;simp only [VR] at hu;subst hu;exact ⟨_,w,η,by simp only [Builtin.clear_,ht,Bl,iM,aO,aV hut,aN,aZ],St.refl h,hun _⟩
 ·next e hut=>
  cases hs;simp only [VR] at hu;rcases hu with ⟨_,pa,rfl⟩ | ⟨bl,off,c,xs,sz,rfl,_⟩
  ·exact ⟨_,w,η,by cases pa<;>simp only [Builtin.clear_,ht,Bl,iM,aO,aV hut,aN,aZ],St.refl h,hun _⟩
  ·exact ⟨_,w,η,by simp only [Builtin.clear_,ht,Bl,iM,aO,aV hut,aN,aZ,xR],St.refl h,hun _⟩
 ·next e id off n cap hut=>
  simp only [VR] at hu;obtain ⟨q,hq,_,rfl⟩:=hu;split at hs
  ·next h0=>
   cases hs;subst h0;exact ⟨_,w,η,by simp only [Builtin.clear_,ht,Bl,iM,aO,aV hut,aN,aZ],St.refl h,hun _⟩
  ·next h0=>
   split at hs
   ·next z c et opn hz hg=>
    split at hs
    ·next hc=>
     simp only [aX] at hs;obtain ⟨c',hr,e1⟩:=hs;cases e1;obtain ⟨zv,nH,hzv⟩:=CV hz;have hzs:=KA (n:=n) (size:=z.length) (hzv η) rfl;have hlen:=(hzv η).length;have hone:(iH n z).all AV.lX=true:=by
      rw [List.all_eq_true];intro a ha;unfold iH at ha;simp only [List.mem_flatten,Xd] at ha;obtain ⟨l,⟨_,rfl⟩,ha⟩:=ha;exact List.all_eq_true.1 hc.2 a ha
     obtain ⟨w',hrun,hst⟩:=PU h hg hc.1 hq hr hzs hone;refine ⟨_,w',η, ?_,hst,hun _⟩;have hzc:(Builtin.zeroCells zv.cells n)=(Array.range (n * z.length)).map (zv.cells[· % zv.cells.size]!):=by
      unfold Builtin.zeroCells;rw [hlen];simp
     obtain ⟨m,rfl⟩:∃m,n=m+1:=⟨n - 1,by omega⟩
     simp only [Builtin.clear_,ht,Bl,iM,aO,aV hut,aN,nH];rw [hzc,hrun];rfl
    ·cases hs
   ·cases hs
 ·next k e hut=>
  cases hs;simp only [VR] at hu;subst hu;exact ⟨_,w,η,by simp only [Builtin.clear_,ht,Bl,iM,aO,aV hut,aN,aZ],St.refl h,hun _⟩
 ·next k e id hut=>
  split at hs
  ·next es hg=>
   split at hs
   ·next hl=>
    cases hs;simp only [VR] at hu;obtain ⟨q,hq,rfl⟩:=hu;obtain ⟨q',hq',ms,clock,hb,hsz,_⟩:=h.obj _ _ hg rfl;rw [hq] at hq';cases hq';refine ⟨.tuple #[],lN w q.bl (.map #[] clock),η, ?_,St.write h hg rfl hl hq A8 (λk hk=>AZ hk) rfl rfl rfl ⟨#[],clock,zA hb,rfl,by simp⟩,hun _⟩;simp only [Builtin.clear_,ht,Bl,iM,aO,aV hut,aN,getObj,Sem.run,hb,He hb (λ_ _ _=>by simp),aZ]
   ·cases hs
  ·cases hs
 ·cases hs
theorem aeg (h:SR P η σ w) {b:Builtin} {ts:Array TypeId} {ty:TypeId} {cs:Array Bool} {args:List AV} {vs:List Value} {r:Option AV} (hs:Dp P b ts args σ=some (r,σ')) (hv:aA η args vs) :
 Iq P η σ w r σ' (builtin b ts ty cs ⟨vs⟩):=by
 unfold Dp at hs;split at hs
 ·next x=>
  simp only [aA] at hv;obtain ⟨u,_,rfl,hu,rfl⟩:=hv;split at hs
  ·next t ht=>
   obtain ⟨v,h1,rfl,rfl⟩:=iU hs;exact dJ (gW h (aaA h ht h1 hu))
  ·cases hs
 ·next s x=>
  simp only [aA] at hv;obtain ⟨u,_,rfl,hu,u',_,rfl,hu',rfl⟩:=hv;obtain ⟨v,h1,rfl⟩:=AQ hs;exact dJ (ad2 h h1 hu hu')
 ·next s x=>
  simp only [aA] at hv;obtain ⟨u,_,rfl,hu,u',_,rfl,hu',rfl⟩:=hv;obtain ⟨v,h1,rfl⟩:=AQ hs;exact dJ (aeS h h1 hu hu')
 ·next x=>
  simp only [aA] at hv;obtain ⟨u,_,rfl,hu,rfl⟩:=hv;split at hs
  ·next t ht=>
   obtain ⟨v,h1,rfl⟩:=AQ hs;exact dJ (aeG h ht h1 hu)
  ·cases hs
 ·next x=>
  simp only [aA] at hv;obtain ⟨u,_,rfl,hu,rfl⟩:=hv;split at hs
  ·next t ht=>
   split at hs
   ·next e hun=>
    obtain ⟨v,h1,rfl,rfl⟩:=iU hs;cases h1;simp only [VR] at hu;subst hu;exact dJ (gW h ⟨.int .i64 0,by simp [Builtin.cap_,ht,aV hun,goInt],by simp [VR]⟩)
   ·next e id off n c hun=>
    obtain ⟨v,h1,rfl,rfl⟩:=iU hs;cases h1;simp only [VR] at hu;obtain ⟨q,hq,_,rfl⟩:=hu;exact dJ (gW h ⟨.int .i64 c,by simp [Builtin.cap_,ht,aV hun,goInt],by simp [VR]⟩)
   ·cases hs
  ·cases hs
 ·simp only [aA] at hv
  obtain ⟨u,_,rfl,hu,rfl⟩:=hv;obtain ⟨v,h1,rfl,rfl⟩:=iU hs;cases h1;simp only [VR] at hu;subst hu;exact dJ (gW h ⟨_,acP,by simp only [VR]⟩)
 ·next id off n cap=>
  split at hs
  ·cases hs
  ·next hc=>
   simp only [aA] at hv;obtain ⟨u,_,rfl,hu,rfl⟩:=hv;obtain ⟨v,h1,rfl,rfl⟩:=iU hs;cases h1;simp only [VR] at hu;obtain ⟨q,hq,hle,rfl⟩:=hu;refine dJ (gW h ⟨_,acQ ?_,by simp only [VR];exact ⟨q,hq,rfl⟩⟩);intro e;rw [e] at hle;have hn:n=0:=by omega
   subst hn;cases cap with
   | none=>exact hc ⟨rfl,.inl rfl⟩
   | some c=>simp only [uG] at e;subst e;exact hc ⟨rfl,.inr rfl⟩
 ·next x n=>
  simp only [aA] at hv;obtain ⟨u,_,rfl,hu,u',_,rfl,hu',rfl⟩:=hv;simp only [VR] at hu';subst hu';split at hs
  ·next t it hts=>
   have:=LK hts;subst this;split at hs
   ·next h0=>
    subst h0;split at hs
    ·obtain ⟨v,h1,rfl,rfl⟩:=iU hs
     cases h1;simp only [VR] at hu;subst hu;exact dJ (gW h ⟨_,V5,by simp only [VR]⟩)
    ·obtain ⟨v,h1,rfl,rfl⟩:=iU hs
     cases h1;simp only [VR] at hu;obtain ⟨q,hq,rfl⟩:=hu;exact dJ (gW h ⟨_,V5,by simp only [VR]⟩)
    ·cases hs
   ·split at hs
    ·next id off=>
     split at hs
     ·next e c et opn hut hg=>
      split at hs
      ·next hc=>
       obtain ⟨rfl,c1,c2,c3,c4,c5⟩:=hc;split at hs
       ·next r' hr=>
        split at hs
        ·next b hb=>
         cases hs;simp only [VR] at hu;obtain ⟨q,hq,rfl⟩:=hu;obtain ⟨y,w',h1,h2,h3⟩:=ads (it:=it) (ty:=ty) h hut hg c1 c2 c3 c4 c5 hr hb hq;exact dJ ⟨y,w',η,h1,h2,h3⟩
        ·cases hs
       ·cases hs
      ·cases hs
     ·cases hs
    ·cases hs
  ·cases hs
 ·next x y=>
  simp only [aA] at hv;obtain ⟨u,_,rfl,hu,u',_,rfl,hu',rfl⟩:=hv;split at hs
  ·next a a' h1 h2=>
   obtain ⟨v,h3,rfl,rfl⟩:=iU hs;simp only [uD] at h3;obtain ⟨z,hz,tX⟩:=h3;rw [zy h1 hu,zy h2 hu'];exact dJ (gW h ⟨z,zx hz w,AA _ _ _ tX⟩)
  ·cases hs
 ·next x y=>
  simp only [aA] at hv;obtain ⟨u,_,rfl,hu,u',_,rfl,hu',rfl⟩:=hv;split at hs
  ·next a a' h1 h2=>
   obtain ⟨v,h3,rfl,rfl⟩:=iU hs;simp only [uD] at h3;obtain ⟨z,hz,tX⟩:=h3;rw [zy h1 hu,zy h2 hu'];exact dJ (gW h ⟨z,zx hz w,AA _ _ _ tX⟩)
  ·cases hs
 ·next x y z=>
  simp only [aA] at hv;obtain ⟨u,_,rfl,hu,u',_,rfl,hu',u'',_,rfl,aiI,rfl⟩:=hv;split at hs
  ·next a a' a'' h1 h2 h4=>
   obtain ⟨v,h3,rfl,rfl⟩:=iU hs;simp only [uD] at h3;obtain ⟨z,hz,tX⟩:=h3;rw [zy h1 hu,zy h2 hu',zy h4 aiI];exact dJ (gW h ⟨z,zx hz w,AA _ _ _ tX⟩)
  ·cases hs
 ·cases hs
end
end Go.aK
namespace Go.aK
set_option linter.unusedSimpArgs false
noncomputable section
variable [aH]
set_option linter.unusedSectionVars false
set_option linter.unusedVariables false
variable {P:Program} {η:Env} {σ σ':au} {w:World}
theorem aq5 {pt it ty:TypeId} (p:Option Addr):(Builtin.unsafeString_ #[pt,it] ty #[.pointer p,.int .i64 0]).run P w=.ok (.string ⟨⟨[]⟩⟩) w:=V5
theorem ap9 (h:SR P η σ w) {b:Builtin} {ts:Array TypeId} {ty:TypeId} {cs:Array Bool} {args:List AV} {vs:List Value} {r:Option AV} (hs:EM P b ts args σ=some (r,σ')) (hv:aA η args vs) :
 Iq P η σ w r σ' (builtin b ts ty cs ⟨vs⟩):=by
 unfold EM at hs;have mm:∀ (big:Bool) {x y:AV} {m n:Nat} {v:AV} {u u':Value},iw x=some m->iw y=some n->jC (.mm big m n)=some v->VR η x u->VR η y u'->∃k a b',u=.int k a/\u'=.int k b'/\VR η v (.int k (if big then (if a < b' then b' else a) else (if b' < a then b' else a))):=by
  intro big x y m n v u u' hm hn hmk hu hu';obtain ⟨g1,a1,a2,a3⟩:=kX hm hu;obtain ⟨g2,b1,b2,b3⟩:=kX hn hu';obtain ⟨_,g,_,c2,c3⟩:=lg (η:=η) hmk;simp only [Nd.den,a1,b1] at c2;split at c2
  ·next k i k' j e1 e2=>
   cases e1;cases e2;split at c2
   ·next hk=>
    subst hk;cases c2;simp only [GR] at a3 b3;exact ⟨k,i,j,a3,b3,c3 _ rfl (by simp only [GR])⟩
   ·cases c2
  ·cases c2
 split at hs
 ·next x=>
  simp only [aA] at hv;obtain ⟨u,_,rfl,hu,rfl⟩:=hv;split at hs
  ·next t ht=>
   obtain ⟨v,h1,e⟩:=aX.1 hs;cases e;exact dJ (gW h (aqe ht h1 hu))
  ·cases hs
 ·next s x=>
  simp only [aA] at hv;obtain ⟨u,_,rfl,hu,u',_,rfl,hu',rfl⟩:=hv;obtain ⟨v,h1,e⟩:=aX.1 hs;cases e;exact dJ (ap7 h h1 hu hu')
 ·next x y=>
  simp only [aA] at hv;obtain ⟨u,_,rfl,hu,u',_,rfl,hu',rfl⟩:=hv;split at hs
  ·next m n hm hn=>
   obtain ⟨v,h1,e⟩:=aX.1 hs;cases e;obtain ⟨k,a,b',rfl,rfl,h2⟩:=mm false hm hn h1 hu hu';refine dJ (gW h ⟨_, ?_,h2⟩);simp [Builtin.min_,Builtin.min2]
  ·cases hs
 ·next x y=>
  simp only [aA] at hv;obtain ⟨u,_,rfl,hu,u',_,rfl,hu',rfl⟩:=hv;split at hs
  ·next m n hm hn=>
   obtain ⟨v,h1,e⟩:=aX.1 hs;cases e;obtain ⟨k,a,b',rfl,rfl,h2⟩:=mm true hm hn h1 hu hu';refine dJ (gW h ⟨_, ?_,h2⟩);simp [Builtin.max_,Builtin.max2]
  ·cases hs
 ·next id n=>
  split at hs
  ·next m et hg=>
   split at hs
   ·next hsl=>
    cases hs;simp only [aA] at hv;obtain ⟨u,_,rfl,hu,rfl⟩:=hv;simp only [VR] at hu;obtain ⟨xs,k1,hu⟩:=hu;rcases hu with ⟨q,hq,hle,rfl⟩ | ⟨hgh,rfl,rfl⟩
    ·have hor:=h.at hg hq
     have hpos:=hor.PI;obtain ⟨_,_,_,_,hes,_⟩:=hor.GH;have hcap:q.sz / q.es≠0:=by
      have:=Nat.div_pos hpos hes;omega
     exact dJ (gW h ⟨_,acQ hcap,by simp only [VR];exact ⟨xs,_,k1,rfl,λ_=>⟨q,hq,rfl⟩⟩⟩)
    ·exact dJ (gW h ⟨_,acP,by simp only [VR];exact ⟨[],_,k1,rfl,λhn=>absurd rfl hn⟩⟩)
   ·cases hs
  ·cases hs
 ·next id n k=>
  split at hs
  ·next t it hts=>
   have:=LK hts;subst this;split at hs
   ·next e m et f hut hg=>
    split at hs
    ·next hc=>
     obtain ⟨rfl,c1,c2,c3⟩:=hc;split at hs
     ·next n' hk=>
      split at hs
      ·next hsl=>
       rw [aJ] at hsl;obtain ⟨v,hm,e⟩:=aX.1 hs;cases e;simp only [aA] at hv;obtain ⟨u,_,rfl,hu,u',_,rfl,hu',rfl⟩:=hv;simp only [VR] at hu hu';obtain ⟨ys,p,k1,rfl,hp⟩:=hu;obtain ⟨gk,j1,_,j3⟩:=hu';obtain ⟨gk',j4,j5⟩:=aH.oZ k _ hk (by simp);rw [j1] at j4;cases j4;obtain ⟨nn,gs,b1,b2,b3⟩:=lg (η:=η) hm;simp only [Nd.den] at b2;split at b2
       ·next xs hv=>
        split at b2
        ·next h48=>
         obtain ⟨b,hb,rfl⟩:=aX.1 b2;simp only [Nd.den] at j5;split at j5
         ·next zs hz=>
          cases j5;have hl1:=vV 100 hsl.1 hv k1;have hl2:=vV 100 hsl.2 hv hz;simp only [GR] at j3;subst j3;have fin:∀ {η':Env} (y:Value),VR η' (.s b) y->VR η' v y:=by
           intro η' y hy;obtain ⟨_,g2,_,d2,d3⟩:=lg (η:=η') hm;simp only [Nd.den,hv,ak h48,hb,gy,aQ] at d2;subst d2;exact d3 y rfl ((kU _ _).2 hy)
          by_cases hx0:xs=[]
          ·subst hx0
           have hz0:zs.length=0:=hl2.symm;have hb0:b=[]:=by simpa [mP] using hb.symm
           subst hb0;rw [hz0];refine dJ ⟨.string ⟨⟨[]⟩⟩,w,η,aq5 p,(St.refl h).NK id,fin _ (by simp only [VR])⟩
          ·have hy0:ys≠[]:=by intro e;rw [e] at hl1;exact hx0 (lq hl1)
           obtain ⟨q,hq,rfl⟩:=hp hy0;obtain ⟨xs',i1,i2,i3,i4,i5,i6,i7,hS⟩:=Ht h hg hq;rw [hv] at i1;cases i1;have hcg:bC xs=bZ xs:=by unfold bC;rw [LV hb]
           have hpos:0 < xs.length:=Bq.2 hx0;have htk:takeN (bC xs) 0 ((xs.length:Nat):Int).toNat=some (bZ xs):=by
            rw [hcg];unfold takeN;rw [dF,mG (by rw [kW];simp),ak (by rw [kW];simp)]
           have hfit:xs.length < 2 ^ 62:=by omega
           obtain ⟨y,w',r1,r2,r3⟩:=ads (it:=it) (ty:=ty) (off:=0) (n:=xs.length) hS hut Bd c1 c2 (by omega) (by omega) c3 htk (IV hb) hq;rw [<- hl2];refine dJ ⟨y,w',η,by simpa using r1, ?_,fin _ r3⟩;refine ((Kr hg r2).NK id).sub (λk o hk=>?_) (dH _) rfl;rw [au.vS] at hk ⊢;split at hk
           ·cases hk
           ·next e1=>
            rw [ah e1];unfold jH;rw [au.get_put,ah e1,au.get_put,ah e1];exact hk
         ·cases j5
        ·cases b2
       ·cases b2
      ·cases hs
     ·cases hs
    ·cases hs
   ·cases hs
  ·cases hs
 ·cases hs
end
end Go.aK
namespace Go.aK
set_option linter.unusedSimpArgs false
noncomputable section
variable [aH]
set_option linter.unusedSectionVars false
set_option linter.unusedVariables false
variable {P:Program} {η:Env} {σ σ':au} {w:World}
def kT (P:Program) (f:FuncId) (args:Array Value) (w:World) (R:Value->World->Prop):Prop:=
 (∃v w',(callFunc f args).run P w=.ok (.value v) w'/\R v w')\/
 ((callFunc f args).run P w=.ok (.enter f args) w/\Calls P f args w λe w'=>∃v,e=.returned v/\R v w')
def qj (P:Program) (call:Caller):Prop:=∀f args σ r σ',call f args σ=some (r,σ')->∀η w vs,SR P η σ w->aA η args vs->
 kT P f ⟨vs⟩ w λv w'=>∃η',St P η σ w η' σ' w'/\VR η' r v
def Ce:Op->Bool
 | .call { callee:=.value _,.. }=>true
 | .call { callee:=.invoke _ _,.. }=>true
 | _=>false
theorem ajy {f:FuncId} {first caps:List AV} {us vs:List Value} (h1:aA η first us) (h2:aA η caps vs):∃y,(Instr.makeFunc (.func f) ⟨us⟩ ⟨vs⟩).run P w=.ok y w/\VR η (.fn f first caps) y:=
 ⟨_,rfl,by simp only [VR];exact ⟨us,vs,rfl,h1,h2⟩⟩
theorem GK {ev:Operand->Option AV} {ρ:Operand->Value} (hρ:∀x a,ev x=some a->VR η a (ρ x)) {o:Option Operand} {r:Option AV} (h:Eo ev o=some r):jT η r (o.map ρ):=by
 cases o with
 | none=>simp [Eo] at h;subst h;trivial
 | some x=>
   simp only [Eo,aX] at h;obtain ⟨a,ha,rfl⟩:=h;exact hρ _ _ ha
theorem Ej {α β:Type} (a:Array α) (f:α->β):a.map f=⟨a.toList.map f⟩:=by
 apply H6;simp
set_option maxHeartbeats 1000000 in
theorem abx (h:SR P η σ w) {call:Caller} {o:Oper} {ev:Operand->Option AV} {ρ:Operand->Value} (hρ:∀x a,ev x=some a->VR η a (ρ x)) (hc:Ce o.op=false) {r:Option AV}
 (hs:pO P call o ev σ=some (r,σ')):Iq P η σ w r σ' (execOp ρ o):=by
 unfold pO at hs;unfold execOp;split at hs
 ·next x he=>rw [he];obtain ⟨v,h1,rfl,rfl⟩:=iU hs;exact ⟨_,w,η,rfl,St.refl h,_,rfl,hρ _ _ h1⟩
 ·next x he=>rw [he];obtain ⟨v,h1,rfl,rfl⟩:=iU hs;exact ⟨_,w,η,rfl,St.refl h,_,rfl,hρ _ _ h1⟩
 ·next c a b he=>
  rw [he];split at hs
  ·next t hcv=>
   obtain ⟨vd,hvd,hcv⟩:=DR hcv;obtain ⟨v,h1,rfl,rfl⟩:=iU hs;refine ⟨.value (if t then ρ a else ρ b),w,η, ?_,St.refl h,_,rfl, ?_⟩
   ·simp only [aO,ad4 (hcv _ _ (hρ _ _ hvd)),aN,aZ]
   ·cases t
    ·exact hρ _ _ h1
    ·exact hρ _ _ h1
  ·cases hs
 ·next t he=>
  rw [he];simp only [aX] at hs;obtain ⟨z,hz,e⟩:=hs;cases e;exact dJ (adY h hz)
 ·next t x he=>
  rw [he];simp only [aX] at hs;obtain ⟨z,hz,e⟩:=hs;cases e;exact dJ (XT h (hρ _ _ hz))
 ·next t parts he=>
  rw [he];split at hs
  ·next ps hps=>
   obtain ⟨v,h1,rfl,rfl⟩:=iU hs;exact dJ (gW h (aef h1 (by rw [Ej];exact Q7 hρ hps)))
  ·cases hs
 ·next t len parts he=>
  rw [he];split at hs
  ·next e size bytes z ps hi hps=>
   split at hs
   ·cases hs
   ·next hlen=>
    split at hs
    ·next cs hf=>
     have e1:=zN hs;refine ajo (t:=t) (qs:=parts.map λ(i,x)=>(i,ρ x)) (λv τ e2 hr=>?_) h hi hlen hf (by rw [Ej];exact Q7 hρ hps);rw [e2] at e1;cases e1;exact dJ hr
    ·cases hs
  ·cases hs
 ·next t a he=>
  rw [he];split at hs
  ·next av hav=>
   obtain ⟨v,h1,rfl,rfl⟩:=iU hs;rcases rW h1 with h1 | h1
   ·exact dJ (gW h (Cm h h1 (hρ _ _ hav)))
   ·exact dJ (gW h (aqf h h1 (hρ _ _ hav)))
  ·cases hs
 ·next t a x he=>
  rw [he];split at hs
  ·next av xv hav hxv=>
   obtain ⟨h1,rfl⟩:=U2 hs;rcases rW h1 with h1 | h1
   ·obtain ⟨w',h2,h3⟩:=O5 h h1 (hρ _ _ hav) (hρ _ _ hxv)
    exact GI ⟨w',η,h2,h3⟩
   ·obtain ⟨w',h2,h3⟩:=aqj h h1 (hρ _ _ hav) (hρ _ _ hxv)
    exact GI ⟨w',η,h2,h3⟩
  ·cases hs
 ·next x he=>
  rw [he];split at hs
  ·next id off hxv=>
   obtain ⟨v,h1,rfl,rfl⟩:=iU hs;cases h1;have hv:=hρ _ _ hxv;simp only [VR] at hv;obtain ⟨q,hq,hv⟩:=hv;exact ⟨.value (ρ x),w,η,by simp only [hv];rfl,St.refl h,_,rfl,hρ _ _ hxv⟩
  ·next b off hxv=>
   obtain ⟨v,h1,rfl,rfl⟩:=iU hs;cases h1;have hv:=hρ _ _ hxv;simp only [VR] at hv;obtain ⟨bl,base,cs,elem,fr,y,_,_,hv,_⟩:=hv;exact ⟨.value (ρ x),w,η,by simp only [hv];rfl,St.refl h,_,rfl,hρ _ _ hxv⟩
  ·next m off hxv=>
   obtain ⟨v,h1,rfl,rfl⟩:=iU hs;cases h1;have hv:=hρ _ _ hxv;simp only [VR] at hv;obtain ⟨g,bl,base,cs,elem,fr,y,_,_,_,hv,_⟩:=hv;exact ⟨.value (ρ x),w,η,by simp only [hv];rfl,St.refl h,_,rfl,hρ _ _ hxv⟩
  ·next id m off hxv=>
   obtain ⟨v,h1,rfl,rfl⟩:=iU hs;cases h1;have hv:=hρ _ _ hxv;simp only [VR] at hv;obtain ⟨q,kk,i,_,_,hv⟩:=hv;exact ⟨.value (ρ x),w,η,by simp only [hv];rfl,St.refl h,_,rfl,hρ _ _ hxv⟩
  ·next f fs cs hxv=>
   obtain ⟨v,h1,rfl,rfl⟩:=iU hs;cases h1;have hv:=hρ _ _ hxv;simp only [VR] at hv;obtain ⟨us,vs,hv,_⟩:=hv;exact ⟨.value (ρ x),w,η,by simp only [hv];rfl,St.refl h,_,rfl,hρ _ _ hxv⟩
  ·cases hs
 ·next op t x y _ he=>
  rw [he];split at hs
  ·next a b ha hb=>
   obtain ⟨v,h1,rfl,rfl⟩:=iU hs;rcases rW h1 with h1 | h1
   ·exact dJ (gW h (aea h h1 (hρ _ _ ha) (hρ _ _ hb)))
   ·exact dJ (gW h (ap8 h1 (hρ _ _ ha) (hρ _ _ hb)))
  ·cases hs
 ·next op t x he=>
  rw [he];split at hs
  ·next a ha=>
   split at hs
   ·next u hu=>
    obtain ⟨v,h1,rfl,rfl⟩:=iU hs;simp only [uD] at h1;obtain ⟨z,hz,tX⟩:=h1;have hrun:(Op.unary op (ρ x)).run P w=.ok z w:=by rw [zy hu (hρ _ _ ha)];exact zx hz w
    exact dJ (gW h ⟨z,hrun,AA _ _ _ tX⟩)
   ·obtain ⟨v,h1,rfl,rfl⟩:=iU hs
    exact dJ (gW h (aqk h1 (hρ _ _ ha)))
  ·cases hs
 ·next src dst x he=>
  rw [he];split at hs
  ·next a ha=>
   obtain ⟨v,h1,rfl⟩:=AQ hs;rcases rW h1 with h1 | h1
   ·exact dJ (Ja h h1 (hρ _ _ ha))
   ·exact dJ (aqa h h1 (hρ _ _ ha))
  ·cases hs
 ·next t x he=>
  rw [he];split at hs
  ·next a ha hi=>
   obtain ⟨v,h1,rfl,rfl⟩:=iU hs;cases h1;exact dJ (gW h (ajz hi (hρ _ _ ha)))
  ·cases hs
 ·next f first caps he=>
  rw [he];split at hs
  ·next fs cs hfs hcs=>
   obtain ⟨v,h1,rfl,rfl⟩:=iU hs;cases h1;simp only [Ej];exact dJ (gW h (ajy (FY hρ hfs) (FY hρ hcs)))
  ·cases hs
 ·next t r' he=>
  rw [he];split at hs
  ·cases hs
   exact dJ (aa0 h (.inl rfl))
  ·next x=>
   split at hs
   ·next a kt et ha hu=>
    split at hs
    ·next hm=>
     cases hs;obtain ⟨k,n,hk⟩:=ajC hm (hρ _ _ ha);exact dJ (aa0 h (.inr ⟨k,n,kt,et,by simp [hk],hu⟩))
    ·cases hs
   ·cases hs
 ·next t l c he=>
  rw [he];split at hs
  ·next a b ha hb=>
   obtain ⟨v,h1,rfl⟩:=AQ hs;rcases rW h1 with h1 | h1
   ·exact dJ (ajA h h1 (hρ _ _ ha) (hρ _ _ hb))
   ·exact dJ (aqh h h1 (hρ _ _ ha) (hρ _ _ hb))
  ·cases hs
 ·next t x lo hi he=>
  rw [he];split at hs
  ·next a lo' hi' ha hlo hhi=>
   rcases rW hs with hs | hs
   ·obtain ⟨v,h1,rfl,rfl⟩:=iU hs
    rcases rW h1 with h1 | h1
    ·exact dJ (gW h (OY h h1 (hρ _ _ ha) (GK hρ hlo) (GK hρ hhi)))
    ·exact dJ (gW h (ac4 h h1 (hρ _ _ ha) (GK hρ hlo) (GK hρ hhi)))
   ·obtain ⟨v,h1,rfl⟩:=AQ hs
    exact dJ (aqi h h1 (hρ _ _ ha) (GK hρ hlo) (GK hρ hhi))
  ·cases hs
 ·next t x f he=>
  rw [he];split at hs
  ·next a ha=>
   obtain ⟨v,h1,rfl,rfl⟩:=iU hs;rcases rW h1 with h1 | h1
   ·exact dJ (gW h (ag6 h1 (hρ _ _ ha)))
   ·exact dJ (gW h (aqb h1 (hρ _ _ ha)))
  ·cases hs
 ·next t x f he=>
  rw [he];split at hs
  ·next a ha=>
   obtain ⟨v,h1,rfl,rfl⟩:=iU hs;exact dJ (gW h (ag7 h1 (hρ _ _ ha)))
  ·cases hs
 ·next t x ix he=>
  rw [he];split at hs
  ·next a k ha hk=>
   obtain ⟨v,h1,rfl,rfl⟩:=iU hs;rcases rW h1 with h1 | h1
   ·exact dJ (gW h (NG h1 (hρ _ _ ha) (hρ _ _ hk)))
   ·exact dJ (gW h (aqc h h1 (hρ _ _ ha) (hρ _ _ hk)))
  ·cases hs
 ·next t x ix he=>
  rw [he];split at hs
  ·next a k ha hk=>
   obtain ⟨v,h1,rfl,rfl⟩:=iU hs;rcases rW h1 with h1 | h1
   ·exact dJ (gW h (SE h1 (hρ _ _ ha) (hρ _ _ hk)))
   ·exact dJ (gW h (aqd h1 (hρ _ _ ha) (hρ _ _ hk)))
  ·cases hs
 ·next t m k ok he=>
  rw [he];split at hs
  ·next a b ha hb=>
   obtain ⟨v,h1,rfl,rfl⟩:=iU hs;rcases rW h1 with h1 | h1
   ·exact dJ (gW h (ajq h h1 (hρ _ _ ha) (hρ _ _ hb)))
   ·exact dJ (gW h (aqg h h1 (hρ _ _ ha) (hρ _ _ hb)))
  ·cases hs
 ·next t m k x he=>
  rw [he];split at hs
  ·next a b c ha hb hc'=>
   obtain ⟨h1,rfl⟩:=U2 hs;rcases rW h1 with h1 | h1
   ·obtain ⟨w',h2,h3⟩:=aa2 h h1 (hρ _ _ ha) (hρ _ _ hb) (hρ _ _ hc')
    exact GI ⟨w',η,h2,h3⟩
   ·obtain ⟨w',h2,h3⟩:=ac3 h h1 (hρ _ _ ha) (hρ _ _ hb) (hρ _ _ hc')
    exact GI ⟨w',η,h2,h3⟩
  ·cases hs
 ·next t m k x he=>
  rw [he];split at hs
  ·next a b c ha hb hc'=>
   obtain ⟨h1,rfl⟩:=U2 hs;rcases rW h1 with h1 | h1
   ·obtain ⟨w',h2,h3⟩:=aa2 h h1 (hρ _ _ ha) (hρ _ _ hb) (hρ _ _ hc')
    exact GI ⟨w',η,h2,h3⟩
   ·obtain ⟨w',h2,h3⟩:=ac3 h h1 (hρ _ _ ha) (hρ _ _ hb) (hρ _ _ hc')
    exact GI ⟨w',η,h2,h3⟩
  ·cases hs
 ·next t x he=>
  rw [he];split at hs
  ·next s hu hx=>
   cases hs;have hv:=hρ _ _ hx;simp only [VR] at hv;simp only [hv];exact dJ (alK h hu)
  ·next k e hu hx=>
   cases hs;have hv:=hρ _ _ hx;simp only [VR] at hv;simp only [hv];exact dJ (alI h hu)
  ·next k e id hu hx=>
   split at hs
   ·next es hg=>
    cases hs;exact dJ (alJ h hu hg (hρ _ _ hx))
   ·cases hs
  ·cases hs
 ·next it he=>
  rw [he];split at hs
  ·next a ha=>
   obtain ⟨v,h1,rfl⟩:=AQ hs;obtain ⟨y,w',h2,h3,h4⟩:=akj (ty:=o.type) h h1 (hρ _ _ ha);exact dJ ⟨y,w',η,h2,h3,h4⟩
  ·cases hs
 ·next it he=>
  rw [he];have hov:VR η (.dG [.b false]) (.tuple #[.bool false]):=by simp only [VR];exact ⟨[_],rfl,aA.cons (by simp only [VR]) (by simp [aA])⟩
  split at hs
  ·next id ha=>
   split at hs
   ·next hg=>
    cases hs;exact dJ (gW h ⟨_,akh (ty:=o.type) h hg (hρ _ _ ha),hov⟩)
   ·next m hg=>
    split at hs
    ·next hm=>
     cases hs;exact dJ (gW h ⟨_,aki (ty:=o.type) h hg hm (hρ _ _ ha),hov⟩)
    ·cases hs
   ·cases hs
  ·cases hs
 ·next x xt t ok he=>
  rw [he];split at hs
  ·next a ha=>
   obtain ⟨v,h1,rfl,rfl⟩:=iU hs;exact dJ (gW h (aqC h1 (hρ _ _ ha)))
  ·cases hs
 ·next x k he=>
  rw [he];split at hs
  ·next l ha=>
   obtain ⟨v,h1,rfl,rfl⟩:=iU hs;exact dJ (gW h (agA h1 (hρ _ _ ha)))
  ·cases hs
 ·next c he=>
  rw [he];split at hs
  ·next args hargs=>
   split at hs
   ·next b hb=>
    have hv:=FY hρ hargs;have hs:Dp P b c.argTypes args σ=some (r,σ')\/EM P b c.argTypes args σ=some (r,σ'):=by
     cases hsf:VN b args with
     | true=>rw [hsf,cond_true] at hs;exact (rW hs).symm
     | false=>rw [hsf,cond_false] at hs;exact rW hs
    rcases hs with hs | hs
    ·have hres:=aeg (cs:=c.args.map fun | .const _=>true | _=>false) (ty:=o.type) h hs hv
     simp only [resolve,hb,Ej,pure_bind,invoke];rw [Ej] at hres;exact hres
    ·have hres:=ap9 (cs:=c.args.map fun | .const _=>true | _=>false) (ty:=o.type) h hs hv
     simp only [resolve,hb,Ej,pure_bind,invoke];rw [Ej] at hres;exact hres
   ·next f hf=>
    rw [he] at hc;exfalso;obtain ⟨callee,args,at'⟩:=c;simp only at hf;subst hf;simp [Ce] at hc
   ·next f name hf=>
    rw [he] at hc;exfalso;obtain ⟨callee,args,at'⟩:=c;simp only at hf;subst hf;simp [Ce] at hc
  ·cases hs
 ·cases hs
end
end Go.aK
namespace Go.aK
set_option linter.unusedSimpArgs false
noncomputable section
variable [aH]
set_option linter.unusedSectionVars false
set_option linter.unusedVariables false
variable {P:Program} {η:Env} {σ σ':au} {w:World}
theorem Yw (r:Value) (l:List Value):(#[r]++(⟨l⟩:Array Value))=⟨r::l⟩:=by apply H6;simp
theorem aiY (name:String) (r:Value) (l:List Value):invoke (.fn (.method name) #[]) (#[r]++(⟨l⟩:Array Value))=callMethod r name ⟨l⟩:=by
 rw [Yw];have e1:(⟨r::l⟩:Array Value)[0]? = some r:=by simp
 have e2:(⟨r::l⟩:Array Value).extract 1 (⟨r::l⟩:Array Value).size=⟨l⟩:=by apply H6;simp
 have:invoke (.fn (.method name) #[]) (⟨r::l⟩:Array Value)=(do
  let some recv:=(⟨r::l⟩:Array Value)[0]? | stuck "call: a method without a receiver"
  callMethod recv name ((⟨r::l⟩:Array Value).extract 1 (⟨r::l⟩:Array Value).size)):=rfl
 rw [this,e1,e2]
theorem aj6 (h:SR P η σ w) {name:String} {a rv:AV} {f:FuncId} {x:Value} (hs:Ll P name σ a=some (f,rv)) (hx:VR η a x) (args:Array Value) :
 ∃y,(callMethod x name args).run P w=(callFunc f (#[y]++args)).run P w/\VR η rv y:=by
 unfold Ll at hs;split at hs
 ·next t v=>
  simp only [VR] at hx;obtain ⟨xv,rfl,hv⟩:=hx;split at hs
  ·next i d hi hd=>
   split at hs
   ·next m hm=>
    split at hs
    ·next f' ptr hp hf=>
     have RX:∀y,(receiverAt t (.val xv) ptr (some ((name.splitOn ".").getLastD name))).run P w=.ok y w->
      (callMethod (.iface t xv) name args).run P w=(callFunc f' (#[y]++args)).run P w:=by
      intro y hr;have hpe:m.path.isEmpty=true:=by simpa using hp
      have:∀n:Nat,(method (n+1) t xv name).run P w=.ok (f',y) w:=by
       intro n;simp only [method,aO,CU hi,aN,hm,hp,follow,aZ,hf,hpe,if_true,hr]
      simp only [callMethod,aO,program,Sem.run,aN];rw [show P.types.size+Made.depth=(P.types.size+Made.depth - 1)+1 by simp [Made.depth],this];rfl
     split at hs
     ·next e=>
      cases hs;exact ⟨xv,RX _ (by simp only [receiverAt,aO,aV hd,aN,Go.Place.get,aZ]),hv⟩
     ·next e=>
      split at hs
      ·next id off=>
       simp only [aX,jc] at hs;obtain ⟨z,hz,rfl,rfl⟩:=hs;obtain ⟨y,hy,rQ⟩:=Cm h hz hv;simp only [VR] at hv;obtain ⟨q,hq,rfl⟩:=hv;refine ⟨y,RX _ ?_,rQ⟩;have hy':(loadVar e ⟨q.bl,q.ba+off,none⟩).run P w=.ok y w:=by simpa [Instr.loadAt,Instr.sureAddr] using hy
       have hwrap:∀nm:String,(Builtin.ssaWrapNilChk_ #[t] t #[.pointer (some ⟨q.bl,q.ba+off,none⟩),strVal "", strVal nm]).run P w=.ok (.pointer (some ⟨q.bl,q.ba+off,none⟩)) w:=λ_=>rfl;have has:(asAddr (.pointer (some ⟨q.bl,q.ba+off,none⟩))).run P w=.ok ⟨q.bl,q.ba+off,none⟩ w:=rfl;simp only [receiverAt,aO,aV hd,aN,Go.Place.get,aZ,hwrap,has,hy']
      ·cases hs
     ·cases hs
     ·next h1 h2 h3=>
      cases hs;refine ⟨xv,RX _ ?_,hv⟩;simp only [receiverAt,aO,aV hd,aN];cases d<;>simp only [Go.Place.get,aZ]
      all_goals simp_all
    ·cases hs
   ·cases hs
  ·cases hs
 ·cases hs
theorem X6 (h:SR P η σ w) {call:Caller} (hcall:qj P call) {o:Oper} {a:aU} {A:Act} (ht:TR P η a A) (hc:Ce o.op=true) {r:Option AV} {K:Act->World->Prop} {Q:Exit->Act->World->Prop}
 (hs:pO P call o a.eval σ=some (r,σ')) (hK:∀v x η' w',r=some v->St P η σ w η' σ' w'->VR η' v x->K (A.put o.dst x) w'):o.wp P A w K Q:=by
 have hρ:∀x v,a.eval x=some v->VR η v (A.eval x):=λx v hv=>Jh h ht x v hv;unfold pO at hs;cases hop:o.op with
 | call c=>
   rw [hop] at hc hs;simp only at hs;split at hs
   ·next args hargs=>
    obtain ⟨callee,DJ,at'⟩:=c;cases callee with
    | builtin b=>simp [Ce] at hc
    | invoke rc name=>
      simp only at hs;split at hs
      ·next f rv hf=>
       simp only [uD] at hf;obtain ⟨iv,hiv,hf⟩:=hf;obtain ⟨u,h1,rfl⟩:=AQ hs;have hav:=FY hρ hargs;obtain ⟨y,hm,hy⟩:=aj6 h hf (hρ _ _ hiv) (⟨DJ.toList.map A.eval⟩);have hcn:=hcall _ _ _ _ _ h1 η w (y::DJ.toList.map A.eval) h (aA.cons hy hav);have RS:(execOp A.eval o).run P w=(callFunc f ⟨y::DJ.toList.map A.eval⟩).run P w:=by
        unfold execOp;rw [hop];have e0:DJ.map A.eval=⟨DJ.toList.map A.eval⟩:=by apply H6;simp
        simp only [resolve,pure_bind,e0];rw [aiY,hm,Yw]
       unfold Oper.wp;rw [RS];rcases hcn with ⟨v,w',hrun,η',hst,hv⟩ | ⟨hrun,RQ⟩
       ·rw [hrun]
        exact hK u v η' w' rfl hst hv
       ·rw [hrun]
        refine Calls.mono RQ ?_;rintro e w' ⟨v,rfl,η',hst,hv⟩
        exact hK u v η' w' rfl hst hv
      ·cases hs
    | value f=>
      simp only at hs;split at hs
      ·next fn fi caps hf=>
       obtain ⟨u,h1,rfl⟩:=AQ hs;have hfv:=hρ _ _ hf;simp only [VR] at hfv;obtain ⟨us,vs,hfe,hfi,aib⟩:=hfv;have hav:=FY hρ hargs;have hcn:=hcall _ _ _ _ _ h1 η w (us++DJ.toList.map A.eval++vs) h ((hfi.append hav).append aib);have RS:(execOp A.eval o).run P w=(callFunc fn ⟨us++DJ.toList.map A.eval++vs⟩).run P w:=by
        unfold execOp;rw [hop];simp only [resolve,hfe,Deferred.ofValue,pure_bind,invoke];congr 2;apply H6;simp
       unfold Oper.wp;rw [RS];rcases hcn with ⟨v,w',hrun,η',hst,hv⟩ | ⟨hrun,RQ⟩
       ·rw [hrun]
        exact hK u v η' w' rfl hst hv
       ·rw [hrun]
        refine Calls.mono RQ ?_;rintro e w' ⟨v,rfl,η',hst,hv⟩
        exact hK u v η' w' rfl hst hv
      ·cases hs
   ·cases hs
 | _=>rw [hop] at hc;simp [Ce] at hc
theorem arA {ops:Array Oper} {j:Nat} {o:Oper} {d:Nat} {a:aU} {A:Act} {x:Bool} (ht:TR P η a A) (ho:ops[j]? = some o) (hd:o.dst=some d) (hx:dB (a.t.get d)=some (.b x)):yielded ops A.tmps j=some x:=by
 obtain ⟨vd,hx,himp⟩:=DR hx;obtain ⟨y,hy,hv⟩:=ht.slot d _ hx;have hv:=himp _ _ hv;simp only [VR] at hv;subst hv;simp only [yielded,ho,zM,hd,hy]
theorem Bg {o:Oper} {ops:Array Oper} {a:aU} {A:Act} {b:Bool} (ht:TR P η a A) (hw:Bf o ops a=some b):Region.wanted o (yielded ops A.tmps)=b:=by
 unfold Bf at hw;unfold Region.wanted;split at hw
 ·next hg=>rw [hg];cases hw;rfl
 ·next j want hg=>
  rw [hg];split at hw
  ·next q hq=>
   split at hw
   ·next d hd=>
    split at hw
    ·next x hx=>
     cases hw;simp only [arA ht hq hd hx];cases x<;>cases want<;>rfl
    ·next l hx=>
     cases hw;obtain ⟨vd,hx,himp⟩:=DR hx;obtain ⟨y,hy,hv⟩:=ht.slot d _ hx;have hv:=himp _ _ hv;simp only [VR] at hv;obtain ⟨vs,rfl,_⟩:=hv;simp only [yielded,hq,zM,hd,hy];cases want<;>rfl
    ·cases hw
   ·cases hw
  ·cases hw
theorem step_ok (h:SR P η σ w) {call:Caller} (hcall:qj P call) {ops:Array Oper} {i:Nat} {a a':aU} {A:Act} (ht:TR P η a A) {K:Act->World->Prop} {Q:Exit->Act->World->Prop}
 (hs:Qp P call ops i a σ=some (a',σ')) (hK:∀η' A' w',St P η σ w η' σ' w'->TR P η' a' A'->K A' w'):wpOp P ops Q i K A w:=by
 unfold Qp at hs;unfold wpOp;split at hs
 ·cases hs
 ·next o ho=>
  rw [ho];simp only;split at hs
  ·cases hs
  ·next hw=>
   rw [Bg ht hw];simp only [eG,if_false];simp only [aX,jc] at hs;obtain ⟨a1,hp,rfl,rfl⟩:=hs;exact hK η _ w (St.refl h) (ht.put hp (by rintro u hu;cases hu;exact ⟨[],rfl,rfl⟩))
  ·next hw=>
   rw [Bg ht hw];simp only [if_true];split at hs
   ·cases hs
   ·next r σ1 hop=>
    rw [rO] at hop;simp only [aX,jc] at hs;obtain ⟨a1,hp,rfl,rfl⟩:=hs;left;cases hc:Ce o.op with
    | true=>
      refine X6 h hcall ht hc hop λv x η' w' hr hst hv=>?_;exact hK η' _ w' hst ((ht.mono hst.ext).put hp (λu hu=>by rw [hr] at hu;cases hu;exact hv))
    | false=>
      obtain ⟨nx,w',η',hrun,hst,hres⟩:=abx h (λx v hv=>Jh h ht x v hv) hc hop;unfold Oper.wp;rw [hrun];cases r with
      | none=>subst hres;exact hK η' _ w' hst ((ht.mono hst.ext).put hp (by simp))
      | some v=>
        obtain ⟨x,rfl,hv⟩:=hres;exact hK η' _ w' hst ((ht.mono hst.ext).put hp (λu hu=>by cases hu;exact hv))
theorem abz {call:Caller} (hcall:qj P call) {ops:Array Oper} {Q:Exit->Act->World->Prop}:∀ (l:List Nat) {η:Env} {σ:au} {w:World} {a a':aU} {A:Act},SR P η σ w->TR P η a A->
 Fq P call ops l a σ=some (a',σ')->(∀η' A' w',St P η σ w η' σ' w'->TR P η' a' A'->Q .normal A' w')->wpOps P ops Q l A w
 | [],η,σ,w,a,a',A,h,ht,hs,hK=>by
   simp only [Fq,aQ,jc] at hs;obtain ⟨rfl,rfl⟩:=hs;exact hK η A w (St.refl h) ht
 | i::l,η,σ,w,a,a',A,h,ht,hs,hK=>by
   rw [wpOps_cons];unfold Fq at hs;split at hs
   ·next a1 σ1 h1=>
    refine step_ok h hcall ht h1 λη1 A1 w1 hst ht1=>?_;exact abz hcall l hst.rel ht1 hs λη' A' w' hst' ht'=>hK η' A' w' (hst.trans hst') ht'
   ·cases hs
def dK.toExit:dK->Exit
 | .normal=>.normal
 | .exit id=>.exit id
 | .ret=>.ret
def H8 (P:Program) (dr:Caller->xM):Prop:=∀call,qj P call->∀ops a σ a' σ',dr call ops a σ=some (a',σ')->∀η w A id Q,SR P η σ w->TR P η a A->
 (∀η' A' w',St P η σ w η' σ' w'->TR P η' a' A'->Q .normal A' w')->(Code.region id ops true).wp P Q A w
def KR (P:Program) (pr:uH):Prop:=∀f g,pr f=some g->∀args σ r σ',g args σ=some (r,σ')->∀η w vs,SR P η σ w->aA η args vs->
 kT P f ⟨vs⟩ w λv w'=>∃η',St P η σ w η' σ' w'/\VR η' r v
def sH (P:Program):Prop:=∀ (f:Nat) fn c,P.funcs[f]? = some fn->fn.body=some c->(fn.name == "runtime.NumGoroutine")=false
def Iy (P:Program) (run:Code->aU->au->Option (dK×aU×au)):Prop:=∀c a σ e a' σ',run c a σ=some (e,a',σ')->∀η w A Q,SR P η σ w->TR P η a A->
 (∀η' A' w',St P η σ w η' σ' w'->TR P η' a' A'->Q e.toExit A' w')->c.wp P Q A w
theorem JW (h:SR P η σ w) {a:aU} {A:Act} (ht:TR P η a A) (F:ResultVar->Sem Value) (hF1:∀t,F (.tmp t)=pure (A.tmps.getD t undef)) (hF2:∀a t,F (.cell a t)=(do loadVar t (<- asAddr (A.tmps.getD a undef)))) :
 ∀ (rs:List ResultVar) (l:List AV),yt P σ a rs=some l->∃vs,(rs.mapM F).run P w=.ok vs w/\aA η l vs
 | [],l,hl=>by simp only [yt,aQ] at hl;subst hl;exact ⟨[],rfl,by simp [aA]⟩
 | .tmp t::rs,l,hl=>by
   unfold yt at hl;split at hl
   ·next v r hv hr=>
    cases hl;obtain ⟨vs,h1,h2⟩:=JW h ht F hF1 hF2 rs r hr;obtain ⟨x,hx,jI⟩:=ht.slot t v hv;refine ⟨x::vs, ?_,aA.cons jI h2⟩;simp only [Xa,hF1,aO,aZ,aN,h1];rw [uZ,hx];rfl
   ·cases hl
 | .cell t ty::rs,l,hl=>by
   unfold yt at hl;split at hl
   ·next v r hv hr=>
    cases hl;obtain ⟨vs,h1,h2⟩:=JW h ht F hF1 hF2 rs r hr;simp only [uD] at hv;obtain ⟨p,hp,hv⟩:=hv;obtain ⟨x,hx,jI⟩:=ht.slot t p hp;obtain ⟨y,hy,rQ⟩:=Cm h hv jI;refine ⟨y::vs, ?_,aA.cons rQ h2⟩;have hxa:∃ad,x=.pointer (some ad):=by
     cases p<;>simp [sO] at hv
     ·simp only [VR] at jI
      obtain ⟨q,_,rfl⟩:=jI;exact ⟨_,rfl⟩
     ·simp only [VR] at jI
      obtain ⟨bl,base,cs,elem,fr,x,_,_,rfl,_⟩:=jI;exact ⟨_,rfl⟩
    obtain ⟨ad,rfl⟩:=hxa;have hg:A.tmps.getD t undef=.pointer (some ad):=by rw [uZ,hx];rfl
    have hy':(loadVar ty ad).run P w=.ok y w:=by simpa [Instr.loadAt,Instr.sureAddr] using hy
    have ah5:(asAddr (A.tmps.getD t undef)).run P w=.ok ad w:=by rw [hg];rfl
    simp only [Xa,hF2,aO,aZ,aN,h1,ah5,hy']
   ·cases hl
theorem aqB {l:List AV} {vs:List Value} (h:aA η l vs):VR η (EO l) (if h:(⟨vs⟩:Array Value).size=1 then (⟨vs⟩:Array Value)[0] else .tuple ⟨vs⟩):=by
 have hl:=h.length;unfold EO;split
 ·next v=>
  simp only [aA] at h;obtain ⟨x,_,rfl,hx,rfl⟩:=h;simpa using hx
 ·next hne=>
  have:(⟨vs⟩:Array Value).size≠1:=by
   intro e;have:l.length=1:=by rw [hl];exact e
   obtain ⟨v,rfl⟩:=Qb.1 this;exact hne v rfl
  rw [dif_neg this];simp only [VR];exact ⟨vs,rfl,h⟩
theorem XF:∀ (args:List AV) (k:Nat) (t:Tr AV) (j:Nat),(wC args k t).get j=if k<=j/\j < k+args.length then args[j - k]? else t.get j
 | [],k,t,j=>by simp [wC];omega
 | v::args,k,t,j=>by
   rw [wC,XF args (k+1)];simp only [pJ];by_cases h1:k+1<=j/\j < k+1+args.length
   ·rw [ak h1,ak (by omega)]
    have:j - k=(j - (k+1))+1:=by omega
    rw [this];simp
   ·rw [ah h1,Tr.tH]
    by_cases h2:j=k
    ·subst h2;rw [ak rfl,ak (by omega)];simp
    ·rw [ah h2,ah (by omega)]
theorem QU {args:List AV} {vs:List Value} {n:Nat} (h:aA η args vs) :
 TR P η { t:=wC args 0 .nil,n:=max args.length n,gn:=P.globals.size } { tmps:=(⟨vs⟩:Array Value)++Array.replicate (n - (⟨vs⟩:Array Value).size) undef,defers:=[] }:=by
 have hl:=h.length;refine ⟨rfl, ?_,rfl,λt v hv=>?_⟩
 ·simp;omega
 ·rw [XF] at hv
  split at hv
  ·next hr=>
   obtain ⟨x,hx,jI⟩:=h.at hv;refine ⟨x, ?_,jI⟩;simp only [xX] at hx;have hlt:=(dN.1 hx).1;rw [adF (by simpa using hlt)];simpa using hx
  ·simp at hv
theorem X5 {pr:uH} {run:Code->aU->au->Option (dK×aU×au)} (hp:KR P pr) (hn:sH P) (hr:Iy P run):qj P (DI P pr run):=by
 intro f args σ r σ' hs η w vs h hv;unfold DI at hs;split at hs
 ·next g hg=>exact hp f g hg args σ r σ' hs η w vs h hv
 ·split at hs
  ·cases hs
  ·next fn hfn=>
   split at hs
   ·cases hs
   ·next c hc=>
    have key:∀ (e:dK) a',(e=.normal\/e=.ret)->run c { t:=wC args 0 .nil,n:=max args.length fn.ntmps,gn:=P.globals.size } σ=some (e,a',σ')->∀l,yt P σ' a' fn.results.toList=some l->r=EO l->
     kT P f ⟨vs⟩ w λv w'=>∃η',St P η σ w η' σ' w'/\VR η' r v:=by
     intro e a' he hrun l hl hrl;right;refine ⟨?_, ?_⟩
     ·have hname:=hn f fn c hfn hc
      simp only [callFunc,aO,program,Sem.run,aN,hfn];simp only [hname,eG,if_false,hc,Fb,aZ]
     ·refine calls_of_wp hfn hc ?_
      refine hr c _ _ _ _ _ hrun η w _ _ h (QU hv) ?_;intro η' A' w' hst ht;have hres:∃us,(results fn A'.tmps).run P w'=.ok (if h:(⟨us⟩:Array Value).size=1 then (⟨us⟩:Array Value)[0] else .tuple ⟨us⟩) w'/\aA η' l us:=by
       unfold results;rw [PX];simp only [aO,Qj];obtain ⟨us,h1,h2⟩:=JW hst.rel ht (fun | .tmp t=>pure (A'.tmps.getD t undef) | .cell a t=>do loadVar t (<- asAddr (A'.tmps.getD a undef))) (λ_=>rfl) (λ_ _=>rfl) _ _ hl;refine ⟨us, ?_,h2⟩;exact wJ (λr:Result (List Value)=>(r.andThen λa w'=>Result.ok a.toArray w').andThen λa w'=>Sem.run P (pure (if h:a.size=1 then a[0] else Value.tuple a)) w') h1
      obtain ⟨us,hres,h2⟩:=hres
      have hpost:A'.defers=[]/\∃v,(results fn A'.tmps).run P w'=.ok v w'/\∃v',Ending.returned v=.returned v'/\∃η',St P η σ w η' σ' w'/\VR η' r v':=
       ⟨ht.none,_,hres,_,rfl,η',hst,by rw [hrl];exact aqB h2⟩
      rcases he with rfl | rfl
      ·exact hpost
      ·exact hpost
    split at hs
    ·next a' σ1 hrun=>
     simp only [aX,jc] at hs;obtain ⟨l,hl,h1,h2⟩:=hs;subst h2;exact key _ a' (.inl rfl) hrun l hl h1.symm
    ·next a' σ1 hrun=>
     simp only [aX,jc] at hs;obtain ⟨l,hl,h1,h2⟩:=hs;subst h2;exact key _ a' (.inr rfl) hrun l hl h1.symm
    ·cases hs
theorem Yq {dr:Caller->xM} {pr:uH} (hd:H8 P dr) (hp:KR P pr) (hn:sH P):∀n:Nat,Iy P (BF P dr pr n)/\
 (∀b a σ e a' σ',BF P dr pr n (.loop b) a σ=some (e,a',σ')->∀η w A Q,SR P η σ w->TR P η a A->(∀η' A' w',St P η σ w η' σ' w'->TR P η' a' A'->Q e.toExit A' w')->Code.rounds P b Q n A w):=by
 intro n;induction n with
 | zero=>exact ⟨λc a σ e a' σ' hs=>by simp [Xv] at hs,λb a σ e a' σ' hs=>by simp [Xv] at hs⟩
 | succ n ih=>
   obtain ⟨ih1,ih2⟩:=ih;have hcall:=X5 hp hn ih1;have aaU:∀b a σ e a' σ',BF P dr pr (n+1) (.loop b) a σ=some (e,a',σ')->∀η w A Q,SR P η σ w->TR P η a A->(∀η' A' w',St P η σ w η' σ' w'->TR P η' a' A'->Q e.toExit A' w')->Code.rounds P b Q (n+1) A w:=by
    intro b a σ e a' σ' hs η w A Q h ht hK;rw [rounds_succ];simp only [sK,qO] at hs;split at hs
    ·next a1 σ1 h1=>
     refine ih1 _ _ _ _ _ _ h1 η w A _ h ht ?_;intro η1 A1 w1 hst ht1;exact ih2 _ _ _ _ _ _ hs η1 w1 A1 Q hst.rel ht1 λη' A' w' hst' ht'=>hK η' A' w' (hst.trans hst') ht'
    ·next hne=>
     refine ih1 _ _ _ _ _ _ hs η w A _ h ht ?_;intro η1 A1 w1 hst ht1;cases e with
     | normal=>exact absurd hs (by intro e';exact hne _ _ e')
     | exit id=>exact hK η1 A1 w1 hst ht1
     | ret=>exact hK η1 A1 w1 hst ht1
   refine ⟨?_,aaU⟩;intro c a σ e a' σ' hs η w A Q h ht hK;cases c with
   | loop b=>exact wp_loop_rounds (n+1) (aaU b a σ e a' σ' hs η w A Q h ht hK)
   | skip=>simp only [sK,qO,aQ,jc] at hs;obtain ⟨rfl,rfl,rfl⟩:=hs;exact wp_skip (hK η A w (St.refl h) ht)
   | region id ops draw=>
     cases draw with
     | false=>
       simp only [sK,qO,aX,jc] at hs;obtain ⟨⟨a1,σ1⟩,h1,rfl,rfl,rfl⟩:=hs;exact wp_region (abz hcall _ h ht h1 hK)
     | true=>
       simp only [sK,qO,aX,jc] at hs;obtain ⟨⟨a1,σ1⟩,h1,rfl,rfl,rfl⟩:=hs;exact hd _ hcall ops a σ _ _ h1 η w A id Q h ht hK
   | seq x y=>
     simp only [sK,qO] at hs;refine wp_seq ?_;split at hs
     ·next a1 σ1 h1=>
      refine ih1 _ _ _ _ _ _ h1 η w A _ h ht ?_;intro η1 A1 w1 hst ht1;exact ih1 _ _ _ _ _ _ hs η1 w1 A1 Q hst.rel ht1 λη' A' w' hst' ht'=>hK η' A' w' (hst.trans hst') ht'
     ·next hne=>
      refine ih1 _ _ _ _ _ _ hs η w A _ h ht ?_;intro η1 A1 w1 hst ht1;cases e with
      | normal=>exact absurd hs (by intro e';exact hne _ _ e')
      | exit id=>exact hK η1 A1 w1 hst ht1
      | ret=>exact hK η1 A1 w1 hst ht1
   | cond x y z=>
     simp only [sK,qO] at hs;split at hs
     ·next t hx=>
      obtain ⟨vd,hx,himp⟩:=DR hx;have hv:=himp _ _ (Jh h ht x _ hx);simp only [VR] at hv;refine wp_cond hv ?_;exact ih1 _ _ _ _ _ _ hs η w A Q h ht hK
     ·cases hs
   | block id b=>
     simp only [sK,qO] at hs;refine wp_block ?_;split at hs
     ·next id' a1 σ1 h1=>
      refine ih1 _ _ _ _ _ _ h1 η w A _ h ht ?_;intro η1 A1 w1 hst ht1;simp only [dK.toExit,Exit.inBlock];split at hs
      ·next e1=>
       cases hs;rw [ak e1];exact hK η1 A1 w1 hst ht1
      ·next e1=>
       cases hs;rw [ah e1];exact hK η1 A1 w1 hst ht1
     ·next hne=>
      refine ih1 _ _ _ _ _ _ hs η w A _ h ht ?_;intro η1 A1 w1 hst ht1;cases e with
      | normal=>exact hK η1 A1 w1 hst ht1
      | exit id'=>exact absurd hs (by intro e';exact hne _ _ _ e')
      | ret=>exact hK η1 A1 w1 hst ht1
   | exit id=>simp only [sK,qO,aQ,jc] at hs;obtain ⟨rfl,rfl,rfl⟩:=hs;exact wp_exit (hK η A w (St.refl h) ht)
   | ret=>simp only [sK,qO,aQ,jc] at hs;obtain ⟨rfl,rfl,rfl⟩:=hs;exact wp_ret (hK η A w (St.refl h) ht)
   | rangeFunc _ _ _ _=>simp [sK,qO] at hs
   | scope _=>simp [sK,qO] at hs
   | label _=>simp [sK,qO] at hs
   | goto _=>simp [sK,qO] at hs
   | refuse _=>simp [sK,qO] at hs
theorem adR {dr:Caller->xM} {pr:uH} (hd:H8 P dr) (hp:KR P pr) (hn:sH P) (n:Nat):qj P (Xu P dr pr n):=
 X5 hp hn (Yq hd hp hn n).1
end
end Go.aK
