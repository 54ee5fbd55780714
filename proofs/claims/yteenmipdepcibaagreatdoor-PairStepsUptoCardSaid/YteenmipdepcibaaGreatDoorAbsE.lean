/- Values that are named by nodes: append, make, conversions, strings.Builder's string. -/
import Derived.Test.YteenmipdepcibaaGreatDoorAbsD
set_option linter.unusedSimpArgs false
set_option linter.unusedSectionVars false
set_option linter.unusedVariables false
namespace Go.aN
noncomputable section
variable[aH]
variable{P:Program}{F:Env}{J J':aA}{w:World}
theorem St.Uk{F':Env}{w':World}(h:St P F J w F' J' w')(id:Nat):St P F J w F' (J'.kill id) w':=
 h.sub (λk o hk=>by rw[aA.yh]at hk;split at hk;cases hk;exact hk) (bV _) rfl
theorem St.xM{F':Env}{τ:aA}{w':World}{m e size:Nat}{f:Bool}{xs:Q1}{c:Q3}{y:Value}(h:St P F J w F' (τ.new (.cells c e true true)) w')(hv:aH.val m=some (.l xs))(hs:∀x∈xs,x.cells.length=size/\x.cells.all GV.scalar=true)(hn:sizeT P e=some size)
 (hc:∀vs,aC F' c vs->aC F' (bI xs) vs) (hy:VR F' (.sl τ.next 0 xs.length none) y) (hf:f=true->xs≠[]):St P F J w F' (τ.new (.vec m e f)) w'/\VR F' (.sv τ.next m) y:=by
 simp only[VR]at hy;obtain⟨q,hq,hle,rfl⟩:=hy;have hg:(τ.new (.cells c e true true)).get τ.next=some (.cells c e true true):=by rw[aA.oK,aj rfl]
 have hor:=h.rel.at hg hq;have hes:q.es=size:=by obtain⟨_,_,_,_,r⟩:=hor;have:=(r.room rfl).2.2;rw[hn]at this;cases this;rfl
 have hpos:f=true->q.es<=q.sz:=λe=>by
  have hne:=hf e;have:0<xs.length:=JI.2 hne;simp only[uD,Gi]at hle;have h1:1<=q.sz/q.es:=by omega
  exact jD (by simpa using rF q.es h1) (Nat.div_mul_le_self q.sz q.es)
 have hnew:OR P F' q w' (.vec m e f):=OR.xM hpos hv (λx hx=>by rw[hes];exact(hs x hx).1) (λx hx=>(hs x hx).2) hor hc;refine⟨h.right ?_ rfl rfl ?_,by simp only[VR];exact⟨xs,hv,.inl ⟨q,hq,by simpa using hle,by simp⟩⟩⟩
 ·refine(h.rel.swap (o':=.vec m e f) hg rfl (.inl ⟨q,hq,hnew⟩)).sub (λk o hk=>?_) (bV _)
  rw[aA.oK]at hk;rw[aA.get_put,aA.oK];split at hk
  ·next e1=>rw[aj e1];exact hk
  ·next e1=>rw[ah e1,ah e1];exact hk
 ·intro k o hk ho;rw[aA.oK]at hk⊢;split at hk
  ·next e1=>rw[aj e1];exact⟨_,rfl,rfl⟩
  ·next e1=>rw[ah e1];exact⟨o,hk,ho⟩
theorem CJ{xs:Q1}{size:Nat}(h:xs.all (GV.fC size)=true):∀x∈xs,x.cells.length=size/\x.cells.all GV.scalar=true:=by intro z hz;have:=List.all_eq_true.1 h z hz;unfold GV.fC at this;rw[aK]at this;exact⟨Nat.eq_of_beq_eq_true this.1,this.2⟩
theorem ak5{xs:Q1}{size:Nat}(h:∀x∈xs,x.cells.length=size/\x.cells.all GV.scalar=true):(bI xs).all AV.nH=true:=by unfold bI;refine YF ?_;rw[List.all_eq_true];intro g hg;obtain⟨z,hz,hgz⟩:=WQ.1 hg;exact List.all_eq_true.1 (h z hz).2 g hgz
theorem adA(xs ys:Q1):bI (xs++ys)=bI xs++bI ys:=by unfold bI;rw[acg,Ht]
theorem GY{xs:Q1}{size:Nat}(h:∀x∈xs,x.cells.length=size):(bI xs).length=xs.length*size:=by rw[bI,lS,Ox h]
def abb(P:Program)(J:aA)(e size:Nat)(t1:TypeId)(x:AV):QR:=
 match P.underlying t1 with
 |some .string=>if size=1 then match iQ x with
   |some n=>fF (.bytes n)
   |none=>none
  else none
 |some (.slice _)=>listOf P J e x
 |_=>none
theorem Vz(h:SR P F J w){e size:Nat}{t1:TypeId}{x:AV}{b:Nat}{u:Value}{xs:Q1}(hs:abb P J e size t1 x=some b)(hx:VR F x u)(hn:sizeT P e=some size)(hv:aH.val b=some (.l xs))(hok:xs.all (GV.fC size)=true):
 ∃ys,Src P size t1 u xs.length ys w/\aC F (bI xs) ys:=by
 unfold abb at hs;split at hs
 ·next ht=>
  split at hs
  ·next h1=>
   subst h1;split at hs
   ·next n hn'=>
    obtain⟨g,g1,g2,g3⟩:=lF hn' hx;obtain⟨g',k1,k2⟩:=gB hs;rw[hv]at k1;cases k1;simp only[Nd.den,g1]at k2;split at k2
    ·next s e1=>
     cases e1;cases k2;have hT:EX P t1=true:=by unfold EX;rw[ht]
     have:=src_ok h hT (size:=1) (n:=s.length) (l:=vT s) (a:=.s s) (x:=u) (by simp[yE]) ((kR (.s s) u).1 g3) (by unfold vT;simp[AV.nH]);rw[adh];have hl:(bT s).length=s.length:=by simp[bT]
     rw[hl];exact this
    ·cases k2
   ·cases hs
  ·cases hs
 ·next ht=>exact as7 h hs hx ht hn hv hok
 ·cases hs
theorem as6{e size id len:Nat}{cap:QR}{a et:Nat}{c:Q3}{um opn:Bool}(hg:J.get id=some (.cells c et um opn))(hl:listOf P J e (.sl id 0 len cap)=some a)(hn:sizeT P e=some size)(hlen:c.length=len*size):
 ∃ns,(∀{F:Env}{vs:Q6},aC F c vs->∃gs,valsOf aH.val ns=some gs/\gs.length=len/\aC F (bI gs) vs/\∀x∈gs,x.cells.length=size/\x.cells.all GV.scalar=true)/\∀gs,valsOf aH.val ns=some gs->aH.val a=some (.l gs):=by
 simp only[listOf,hg,hn]at hl;split at hl
 ·next c' Hf rw' Po size' agg hg' hsz hag=>
  cases hg';cases hsz;split at hl
  ·next hc=>
   rw[aK,nO,aK]at hc;have hagg:agg=false->size=1:=by
    intro e;subst e;rcases hc.2 with h1|h1
    ·simp at h1
    ·exact bD h1
   have htk:takeN c 0 (len*size)=some c:=by unfold takeN;rw[dD,jZ (by omega),aj hlen]
   rw[htk]at hl;simp only at hl;split at hl
   ·next ns hns=>
    refine⟨ns,λ{F vs} hv=>?_,λgs hgs=>?_⟩
    ·obtain⟨gs,k1,k2,k3,_,k5⟩:=EJ (F:=F) hagg len hns hv hlen;exact⟨gs,k1,k2,k3,k5⟩
    ·obtain⟨g,g1,g2⟩:=gB hl;simp only[Nd.den,hgs,gI,aW]at g2;rw[g2];exact g1
   ·cases hl
  ·cases hl
 ·cases hl
set_option maxHeartbeats 1000000 in
theorem azX(h:SR P F J w){ts:Wm}{ty:TypeId}{s x v:AV}{u u':Value}(hs:abk P ts s x J=some (v,J'))(hu:VR F s u)(hx:VR F x u'):
 ∃y w' F',(Builtin.append_ ts ty #[u,u']).run P w=.ok y w'/\St P F J w F' J' w'/\VR F' v y:=by
 unfold abk at hs;split at hs
 ·next t t1 hts=>
  have:=Rj hts;subst this;split at hs
  ·next e size bytes z hi=>
   obtain⟨_,_,_,he,_,hn⟩:=Ar hi;split at hs
   ·cases hs
   ·next h0=>
    split at hs
    ·cases hs
    ·next b hb=>
     have hb':abb P J e size t1 x=some b:=hb;have app:∀{a m:Nat}{xs:Q1},fF (.app size bytes a b)=some m->aH.val a=some (.l xs)->∃ys,aH.val b=some (.l ys)/\aH.val m=some (.l (xs++ys))/\ys.all (GV.fC size)=true/\2*(xs.length+ys.length)*bytes<=2^48/\xs.length+ys.length<=2^48:=by
      intro a m xs hm ha;obtain⟨g,g1,g2⟩:=gB hm;simp only[Nd.den,ha]at g2;split at g2
      ·next xs' ys e1 e2=>
       cases e1;split at g2
       ·next hc=>cases g2;exact⟨ys,e2,g1,hc.1,hc.2.1,hc.2.2⟩
       ·cases g2
      ·cases g2
     have Rh:∀{ys:Q1}{S:AV}{n:Nat},ys.all (GV.fC size)=true->sliceLen S=n->2*(n+ys.length)*bytes<=2^48->n+ys.length<=2^48->¬(size=0\/(bI ys).all AV.nH=false\/¬(2*(sliceLen S+ys.length)*bytes<=2^48/\sliceLen S+ys.length<=2^48)):=by intro ys S n h1 h2 h3 h4;rw[ak5 (CJ h1),h2];simp[h0];omega
     have ml0:∀{a:Nat},fF (.ml [])=some a->aH.val a=some (.l []):=by intro a ha;obtain⟨g,g1,g2⟩:=gB ha;simp only[Nd.den,valsOf,gI,aW]at g2;subst g2;exact g1
     have ag8:∀{a m:Nat}{τ:aA},aH.val a=some (.l [])->fF (.app size bytes a b)=some m->u=.slice none 0 0->τ.lock=J.lock->τ.next=J.next->(∀k o,τ.get k=some o->J.get k=some o)->
      ∀f:Bool,∃y w' F',(Builtin.append_ #[t,t1] ty #[u,u']).run P w=.ok y w'/\St P F J w F' (τ.new (.vec m e f)) w'/\VR F' (.sv J.next m) y:=by
      intro a m τ ha hm hu0 hl hnx hsub f;obtain⟨ys,y1,y2,y3,y4,y5⟩:=app hm ha;obtain⟨zs,z1,z2⟩:=Vz h hb' hx hn y1 y3;have hlen:=GY (λx hx=>(CJ y3 x hx).1);simp only[aV,kT,kH]at y2 y4 y5;have hc:=Rh (S:=.fV) (n:=0) y3 rfl (by simpa using y4) (by simpa using y5);by_cases hz:ys.length=0
      ·have hys:ys=[]:=jw hz;subst hys;have hto:pz e size bytes .fV 0 (bI []) J=some (.fV,J):=by unfold pz;rw[ah (by simpa using hc)];rfl
       obtain⟨y,w',F',r1,r2,r3⟩:=BX (ty:=ty) h hi z1 z2 hlen hto (u:=u) (by simp only[VR];exact hu0);refine⟨y,w',F'.ghost J.next,r1,r2.trans ?_,?_⟩
       ·exact St.ghost r2.rel y2 hl hnx hsub
       ·simp only[VR]at r3⊢;exact⟨[],y2,.inr ⟨by simp[Env.ghost],rfl,r3⟩⟩
      ·have hto:pz e size bytes .fV ys.length (bI ys) J=some (.sl J.next 0 ys.length none,J.new (.cells (bI ys) e true true)):=by unfold pz;rw[ah hc];simp only;rw[ah hz]
       obtain⟨y,w',F',r1,r2,r3⟩:=BX (ty:=ty) h hi z1 z2 hlen hto (u:=u) (by simp only[VR];exact hu0);obtain⟨q1,q2⟩:=St.xM (f:=f) r2 y2 (CJ y3) hn (λ_ h=>h) r3 (λ_ e=>hz (by rw[e];rfl));refine⟨y,w',F',r1,q1.sub (λk o hk=>?_) (by show J.next+1<=τ.next+1;omega) hl,q2⟩;rw[aA.oK]at hk⊢;rw[hnx]at hk;split at hk
       ·next e1=>rw[aj e1];exact hk
       ·next e1=>rw[ah e1];exact hsub k o hk
     split at hs
     ·split at hs
      ·next a ha=>
       obtain⟨m,hm,e1⟩:=aZ.1 hs;cases e1;simp only[VR]at hu;exact ag8 (τ:=J) (ml0 ha) hm hu rfl rfl (λ_ _ h=>h) true
      ·cases hs
     ·next id n=>
      split at hs
      ·next a et f hg=>
       split at hs
       ·next hcnd=>
        rw[aK,aK]at hcnd;obtain⟨⟨het,hsl⟩,hlk⟩:=hcnd;have H7:=bD het;subst H7;have CZ:=sO hlk;obtain⟨m,hm,e1⟩:=aZ.1 hs;cases e1;simp only[VR]at hu;obtain⟨xn,n1,hu⟩:=hu;rcases h.live id _ hg with⟨q,hq,hor⟩|⟨hgh,m0,et0,f0,e0,hv0⟩
        ·obtain⟨xs,x1,x2,x3,x4,x5,x6,x7,hS⟩:=MX h hg hq;have hlen0:=yB 100 hsl x1 n1;rw[hn]at x5;cases x5;rcases hu with⟨q',hq',hle,rfl⟩|⟨hgh,_,_⟩
         ·rw[hq]at hq';cases hq';obtain⟨ys,y1,y2,y3,y4,y5⟩:=app hm x1;have hcl:=GY x2;have hall:∀x∈xs++ys,x.cells.length=q.es/\x.cells.all GV.scalar=true:=by
           intro x hx;rcases kG.1 hx with hx|hx
           ·exact⟨x2 x hx,x7 x hx⟩
           ·exact CJ y3 x hx
          obtain⟨zs,z1,z2⟩:=Vz h hb' hx hn y1 y3;have hlen:=GY (λx hx=>(CJ y3 x hx).1);have hc:=Rh (S:=.sl id 0 xs.length none) (n:=xs.length) y3 rfl y4 y5;rw[<-hlen0]at hle⊢;have hus:VR F (.sl id 0 xs.length none) (.slice (some ⟨q.bl,q.ba,none⟩) xs.length (q.sz/q.es)):=by simp only[VR];exact⟨q,hq,by simpa using hle,by simp⟩
          by_cases hz:ys.length=0
          ·have hys:ys=[]:=jw hz;subst hys;rw[qL]at y2;have hto:pz et q.es bytes (.sl id 0 xs.length none) 0 (bI []) (kE J id xs et)=some (.sl id 0 xs.length none,kE J id xs et):=by unfold pz;rw[ah (by simpa using hc)];rfl
           obtain⟨y,w',F',r1,r2,r3⟩:=BX (ty:=ty) hS hi z1 z2 hlen hto hus;have r2':=Qh hg r2;have hgu:(kE J id xs et).get id=some (.cells (bI xs) et true true):=D6;have hq2:=r2.ext.pl _ _ hq;have hor2:=r2.rel.at hgu hq2;have hv2:OR P (F'.put J.next q) q w' (.vec m et f):=by have hle2:=Env.FD r2.rel q;refine OR.xM (λe=>by subst e;exact hor.Wi) y2 x2 x7 (hor2.mono hle2) (λ_ h=>h)
           have OC:=St.again (q':=q) r2.rel hgu rfl (show(kE J id xs et).lock<=id from CZ) hq2 rfl rfl (λ_ _=>rfl) rfl rfl rfl hv2;refine⟨y,w',F'.put J.next q,r1,(r2'.trans OC).sub (λk o hk=>?_) (bV _) rfl,?_⟩
           ·rw[aA.oK,aA.yh]at hk⊢;split at hk
            ·next e1=>rw[aj (show k=((kE J id xs et).kill id).next from e1)];exact hk
            ·next e1=>
             rw[ah (show ¬k=((kE J id xs et).kill id).next from e1)];split at hk
             ·cases hk
             ·next e2=>rw[ah e2];unfold kE;rw[aA.get_put,ah e2];exact hk
           ·simp only[VR]at r3⊢;obtain⟨q3,hq3,hle3,rfl⟩:=r3;rw[hq2]at hq3;cases hq3;exact⟨xs,y2,.inl ⟨q,by simp[Env.put],by simpa using hle3,by simp⟩⟩
          ·have htk:takeN (bI xs) 0 (xs.length*q.es)=some (bI xs):=by unfold takeN;rw[dD,jZ (by omega),aj hcl]
           have hto:pz et q.es bytes (.sl id 0 xs.length none) ys.length (bI ys) (kE J id xs et)=some (.sl J.next 0 (xs.length+ys.length) none,((kE J id xs et).kill id).new (.cells (bI xs++bI ys) et true true)):=by unfold pz;rw[ah hc];simp only;rw[ah hz,aj (show(kE J id xs et).lock<=id from CZ),D6];simp only[if_true,htk,gI];rfl
           obtain⟨y,w',F',r1,r2,r3⟩:=BX (ty:=ty) hS hi z1 z2 hlen hto hus;obtain⟨q1,q2⟩:=St.xM (size:=q.es) (Qh hg r2) y2 hall hn (λvs hvs=>by rw[adA];exact hvs) (by rw[fU];exact r3) (f:=f) (λ_ e=>hz (by have:=uK List.length e;simp at this;rw[this.2];rfl));refine⟨y,w',F',r1,q1.sub (λk o hk=>?_) (bV _) rfl,q2⟩;rw[aA.oK,aA.yh]at hk⊢;split at hk
           ·next e1=>rw[aj (show k=((kE J id xs et).kill id).next from e1)];exact hk
           ·next e1=>
            rw[ah (show ¬k=((kE J id xs et).kill id).next from e1)];split at hk
            ·cases hk
            ·next e2=>rw[ah e2];unfold kE;rw[aA.get_put,ah e2];exact hk
         ·rw[(h.jH id hgh).1]at hq;cases hq
        ·cases e0;have hlen0:=yB 100 hsl hv0 n1;rcases hu with⟨q',hq',_⟩|⟨_,_,hu⟩
         ·rw[(h.jH id hgh).1]at hq';cases hq'
         ·exact ag8 (τ:=J.kill id) hv0 hm hu rfl rfl (λk o hk=>by rw[aA.yh]at hk;split at hk;cases hk;exact hk) f
       ·cases hs
      ·cases hs
     ·next id=>
      split at hs
      ·next et hg=>
       split at hs
       ·next hcnd=>
        rw[aK]at hcnd;obtain⟨het,hlk⟩:=hcnd;have H7:=bD het;subst H7;have CZ:=sO hlk;split at hs
        ·next a ha=>
         obtain⟨m,hm,e1⟩:=aZ.1 hs;cases e1;obtain⟨ys,y1,y2,y3,y4,y5⟩:=app hm (ml0 ha);simp only[aV,kT,kH]at y2 y4 y5;obtain⟨zs,z1,z2⟩:=Vz h hb' hx hn y1 y3;have hlen:=GY (λx hx=>(CJ y3 x hx).1);have hc:=Rh (S:=.sl id 0 0 (some 0)) (n:=0) y3 rfl (by simpa using y4) (by simpa using y5);have hu0:=hu;simp only[VR]at hu0;obtain⟨q,hq,_,rfl⟩:=hu0;obtain⟨cs,elem,fr,hb0,rr⟩:=h.at hg hq;have hsh:=rr.shut rfl;obtain⟨w1,w2,w3⟩:=rr.whole he;have hba:=w3 rfl;by_cases hz:ys.length=0
         ·have hys:ys=[]:=jw hz;subst hys;have hto:pz et size bytes (.sl id 0 0 (some 0)) 0 (bI []) J=some (.sl id 0 0 (some 0),J):=by unfold pz;rw[ah (by simpa using hc)];rfl
          obtain⟨y,w',F',r1,r2,r3⟩:=BX (ty:=ty) h hi z1 z2 hlen hto hu;have hq2:=r2.ext.pl _ _ hq;obtain⟨cs2,He,Ho,hb2,rr2⟩:=r2.rel.at hg hq2;obtain⟨v1,v2,v3⟩:=rr2.whole he;have hsz0:=rr2.shut rfl;simp only[kT]at hsz0;have hv2:OR P (F'.put J.next ⟨q.bl,q.ba,0,size⟩) ⟨q.bl,q.ba,0,size⟩ w' (.vec m et false):=by refine⟨[],cs2,He,Ho,[],y2,hb2,by simp[aO],by simp,by simp[EC,bY],by simp,{fits:=by have:=rr2.fits;simp;omega,le:=by simp,shut:=by simp,cell:=by simp,free:=by simp,whole:=λ_=>⟨v1,by simp;omega,by simp⟩,room:=λ_=>⟨he,by simp;omega,hn⟩},by simp,by simp⟩
          have OC:=St.again (q':=⟨q.bl,q.ba,0,size⟩) r2.rel hg rfl CZ hq2 rfl rfl (λ_ _=>rfl) rfl rfl rfl hv2;refine⟨y,w',_,r1,r2.trans OC,?_⟩;simp only[VR]at r3⊢;obtain⟨q3,hq3,_,rfl⟩:=r3;rw[hq2]at hq3;cases hq3;exact⟨[],y2,.inl ⟨⟨q.bl,q.ba,0,size⟩,by simp[Env.put],by simp,by simp⟩⟩
         ·have hto:pz et size bytes (.sl id 0 0 (some 0)) ys.length (bI ys) J=some (.sl J.next 0 (0+ys.length) none,J.new (.cells ([]++bI ys) et true true)):=by unfold pz;rw[ah hc];simp only;rw[ah (by omega),hg];simp[takeN]
          obtain⟨y,w',F',r1,r2,r3⟩:=BX (ty:=ty) h hi z1 z2 hlen hto hu;rw[aV]at r2;rw[kH]at r3;obtain⟨q1,q2⟩:=St.xM (f:=false) r2 y2 (CJ y3) hn (λ_ h=>h) r3 (by simp);refine⟨y,w',F',r1,q1.sub (λk o hk=>?_) (bV _) rfl,q2⟩;rw[aA.oK,aA.yh]at hk;rw[aA.oK];split at hk
          ·next e1=>rw[aj (show k=J.next from e1)];exact hk
          ·next e1=>
           rw[ah (show ¬k=J.next from e1)];split at hk
           ·cases hk
           ·exact hk
        ·cases hs
       ·cases hs
      ·cases hs
     ·next id len=>
      split at hs
      ·next c et hg=>
       split at hs
       ·next hcnd=>
        rw[aK,aK]at hcnd;obtain⟨⟨het,hlk⟩,hcl⟩:=hcnd;have H7:=bD het;subst H7;have CZ:=sO hlk;have hcl':=bD hcl;split at hs
        ·next a ha=>
         obtain⟨m,hm,e1⟩:=aZ.1 hs;cases e1;obtain⟨ns,l1,l2⟩:=as6 hg ha hn hcl';have hu0:=hu;simp only[VR]at hu0;obtain⟨q,hq,hle,rfl⟩:=hu0;obtain⟨ws,elem,fr,hb0,rr⟩:=h.at hg hq;have hes:q.es=size:=by have:=(rr.room rfl).2.2;rw[hn]at this;cases this;rfl
         have htk:takeN c 0 (len*size)=some c:=by unfold takeN;rw[dD,jZ (by omega),aj hcl']
         obtain⟨xs,k1,k2,k3,k4⟩:=l1 (rr.yF htk);have hva:=l2 xs k1;have conv:∀{F':Env}(vs:Q6),aC F' c vs->aC F' (bI xs) vs:=by intro F' vs hv;obtain⟨gs,j1,_,j3,_⟩:=l1 hv;rw[k1]at j1;cases j1;exact j3
         obtain⟨ys,y1,y2,y3,y4,y5⟩:=app hm hva;have hall:∀x∈xs++ys,x.cells.length=size/\x.cells.all GV.scalar=true:=by
          intro x hx;rcases kG.1 hx with hx|hx
          ·exact k4 x hx
          ·exact CJ y3 x hx
         obtain⟨zs,z1,z2⟩:=Vz h hb' hx hn y1 y3;have hlen:=GY (λx hx=>(CJ y3 x hx).1);have hc:=Rh (S:=.sl id 0 len none) (n:=xs.length) y3 k2.symm y4 y5;by_cases hz:ys.length=0
         ·have hys:ys=[]:=jw hz;subst hys;rw[qL]at y2;have hto:pz et size bytes (.sl id 0 len none) 0 (bI []) J=some (.sl id 0 len none,J):=by unfold pz;rw[ah (by simpa using hc)];rfl
          obtain⟨y,w',F',r1,r2,r3⟩:=BX (ty:=ty) h hi z1 z2 hlen hto hu;have hq2:=r2.ext.pl _ _ hq;have hor2:=r2.rel.at hg hq2;have hv2:OR P (F'.put J.next q) q w' (.vec m et false):=by have hle2:=Env.FD r2.rel q;refine OR.xM (by simp) y2 (λx hx=>by rw[hes];exact(k4 x hx).1) (λx hx=>(k4 x hx).2) (hor2.mono hle2) (λvs hvs=>conv vs hvs)
          have OC:=St.again (q':=q) r2.rel hg rfl CZ hq2 rfl rfl (λ_ _=>rfl) rfl rfl rfl hv2;refine⟨y,w',F'.put J.next q,r1,r2.trans OC,?_⟩;simp only[VR]at r3⊢;obtain⟨q3,hq3,hle3,rfl⟩:=r3;rw[hq2]at hq3;cases hq3;exact⟨xs,y2,.inl ⟨q,by simp[Env.put],by rw[k2];simpa using hle3,by simp[k2]⟩⟩
         ·have hto:pz et size bytes (.sl id 0 len none) ys.length (bI ys) J=some (.sl J.next 0 (len+ys.length) none,(J.kill id).new (.cells (c++bI ys) et true true)):=by unfold pz;rw[ah hc];simp only;rw[ah hz,aj CZ,hg];simp only[if_true,htk,gI]
          obtain⟨y,w',F',r1,r2,r3⟩:=BX (ty:=ty) h hi z1 z2 hlen hto hu;obtain⟨q1,q2⟩:=St.xM (size:=size) r2 y2 hall hn (λvs hvs=>by obtain⟨us,ts,rfl,v1,v2⟩:=aC.split hvs;rw[adA];exact aC.append (conv us v1) v2) (by rw[fU,k2];exact r3) (f:=false) (by simp)
          exact⟨y,w',F',r1,q1,q2⟩
        ·cases hs
       ·cases hs
      ·cases hs
     ·cases hs
  ·cases hs
 ·cases hs
theorem ah6{x:GV}{z:Q3}(hx:∀us,aC F z us->aC F (dH x.cells) us):∀(n:Nat)(vs:Q6),aC F (jk n z) vs->aC F (bI (List.replicate n x)) vs
 |0,vs,h=>by simpa[jk,bI,dH]using h
 |n+1,vs,h=>by
  have e:jk (n+1) z=z++jk n z:=by simp[jk,Ns]
  rw[e]at h;obtain⟨us,ws,rfl,h1,h2⟩:=aC.split h;have e2:bI (List.replicate (n+1) x)=dH x.cells++bI (List.replicate n x):=by unfold bI;rw[Ns,jC,Ht]
  rw[e2];exact(hx us h1).append (ah6 hx n ws h2)
theorem awM(z:Q3)(n m:Nat)(h:n<=m):(jk m z).take (n*z.length)=jk n z:=by
 induction n generalizing m with
 |zero=>simp[jk]
 |succ n ih=>
  cases m with
  |zero=>omega
  |succ m=>
   have e:∀k,jk (k+1) z=z++jk k z:=λk=>by simp[jk,Ns]
   rw[e,e,<-ih m (by omega),List.take_append,jZ (by rw[qM];omega)];congr 2;rw[qM];omega
theorem az7(h:SR P F J w){t:TypeId}{l c v:AV}{x y:Value}(hs:VP P t l c J=some (v,J'))(hx:VR F l x)(hy:VR F c y):
 ∃z w' F',(Instr.makeSlice t x y).run P w=.ok z w'/\St P F J w F' J' w'/\VR F' v z:=by
 unfold VP at hs;split at hs
 ·next e0 hu0=>
  split at hs
  ·next e size bytes z agg hi hagg=>
   obtain⟨hut,_,_,he,hzl,hn⟩:=Ar hi;rw[hu0]at hut;cases hut;split at hs
   ·cases hs
   ·next h0=>
    split at hs
    ·next zn ln cn hzn hln hcn=>
     obtain⟨m,hm,e1⟩:=aZ.1 hs;cases e1;obtain⟨gl,l1,l2,l3⟩:=lF hln hx;obtain⟨gc,c1,c2,c3⟩:=lF hcn hy;obtain⟨g,g1,g2⟩:=gB hm;simp only[Nd.den,l1,c1]at g2;split at g2
     ·next xz kn n kn' m' e1 e2 e3=>
      cases e2;cases e3;split at g2
      ·next hc=>
       cases g2;obtain⟨b1,b2,b3,b4,b5⟩:=hc;simp only[GR]at l3 c3;subst l3;subst c3;obtain⟨xs,hrun,hsz,hvs⟩:=atj (P:=P) (w:=w) (F:=F) (kd:=kn) (kd':=kn') hi h0 b1 b2 b3 b4;have hzero:∀us,aC F z us->aC F (dH xz.cells) us:=by
        intro us hus;cases agg with
        |true=>simp only[if_true]at hzn;obtain⟨l',gs,e4,_,e5,_,e6⟩:=J3 hzn (by simp only[VR];exact⟨us,rfl,hus⟩:VR F (.agg z) (.agg ⟨us⟩));rw[e1]at e5;cases e5;simp only[GR]at e6;obtain⟨us',e7,e8⟩:=e6;cases e7;exact(ou _ _).1 e8
        |false=>
         simp only[iO,if_false]at hzn;cases hz':z with
         |nil=>rw[hz']at hzn;simp at hzn
         |cons a zr=>
          rw[hz']at hzn hus hzl;simp only[WH,yQ]at hzn;simp only[aC]at hus;obtain⟨u,ur,rfl,hu1,hu2⟩:=hus;obtain⟨gz,k1,k2,k3⟩:=lF hzn hu1;rw[e1]at k1;cases k1;rw[GV.Jd k2];have:size=1:=by unfold GV.fC at b5;rw[aK,GV.Jd k2]at b5;exact(bD b5.1).symm
          rw[this]at hzl;have oN:zr=[]:=by apply jw;simpa using hzl
          subst oN;simp only[aC]at hu2;subst hu2;simp only[dH];exact aC.cons ((kR _ _).1 k3) (by simp[aC])
       have hall:∀x∈List.replicate n.toNat xz,x.cells.length=size/\x.cells.all GV.scalar=true:=by intro x hx;rw[(acr.1 hx).2];unfold GV.fC at b5;rw[aK]at b5;exact⟨Nat.eq_of_beq_eq_true b5.1,b5.2⟩
       have hlm:n.toNat<=m'.toNat:=by omega
       have hpre:aC F (jk n.toNat z) (xs.toList.take (jk n.toNat z).length):=by rw[U8,hzl];have:=hvs.take (n.toNat*size);rw[<-hzl,awM z _ _ hlm,hzl]at this;exact this
       have hal:=Cm h (c:=jk n.toNat z) (xs:=xs) (elem:=_) (es:=size) (opn:=true) hpre (by rw[U8,hzl,hsz];exact rF _ hlm) (by simp) (λ_=>⟨he,Nat.pos_of_ne_zero h0,hn⟩);have hcap:(m'.toNat*size)/size=m'.toNat:=QE _ (Nat.pos_of_ne_zero h0);obtain⟨q1,q2⟩:=St.xM (f:=false) (size:=size) (y:=.slice (some ⟨w.heap.size,0,none⟩) n.toNat m'.toNat) hal g1 hall hn (λvs hvs=>by
        have hz2:∀us,aC (F.put J.next ⟨w.heap.size,0,xs.size,size⟩) z us->aC (F.put J.next ⟨w.heap.size,0,xs.size,size⟩) (dH xz.cells) us:=by
         intro us hus;cases agg with
         |true=>simp only[if_true]at hzn;obtain⟨l',gs,e4,_,e5,_,e6⟩:=J3 hzn (by simp only[VR];exact⟨us,rfl,hus⟩:VR (F.put J.next ⟨w.heap.size,0,xs.size,size⟩) (.agg z) (.agg ⟨us⟩));rw[e1]at e5;cases e5;simp only[GR]at e6;obtain⟨us',e7,e8⟩:=e6;cases e7;exact(ou _ _).1 e8
         |false=>
          simp only[iO,if_false]at hzn;cases hz':z with
          |nil=>rw[hz']at hzn;simp at hzn
          |cons a zr=>
           rw[hz']at hzn hus hzl;simp only[WH,yQ]at hzn;simp only[aC]at hus;obtain⟨u,ur,rfl,hu1,hu2⟩:=hus;obtain⟨gz,k1,k2,k3⟩:=lF hzn hu1;rw[e1]at k1;cases k1;rw[GV.Jd k2];have:size=1:=by unfold GV.fC at b5;rw[aK,GV.Jd k2]at b5;exact(bD b5.1).symm
           rw[this]at hzl;have oN:zr=[]:=by apply jw;simpa using hzl
           subst oN;simp only[aC]at hu2;subst hu2;simp only[dH];exact aC.cons ((kR _ _).1 k3) (by simp[aC])
        exact ah6 hz2 _ _ hvs) (by simp only[VR];exact⟨⟨w.heap.size,0,xs.size,size⟩,by simp[Env.put],by simp[hsz,hcap,hlm],by simp[hsz,hcap]⟩) (by simp)
       exact⟨_,_,_,hrun,q1,q2⟩
      ·cases g2
     ·cases g2
    ·cases hs
  ·cases hs
 ·cases hs
theorem N7:∀{xs:Q1}{b:Q0},mY xs=some b->bytesOf (dH xs)=some b
 |[],b,h=>by simpa[mY,dH,bytesOf]using h
 |x::xs,b,h=>by
  unfold mY at h;split at h
  ·rename_i heq;cases heq
  ·next n rest heq=>
   cases heq;simp only[dH,kC,bytesOf];split at h
   ·next hc=>
    rw[aj hc];obtain⟨b',hb',rfl⟩:=aZ.1 h;rw[N7 hb'];rfl
   ·cases h
  ·cases h
theorem Rq:∀{xs:Q1}{b:Q0},mY xs=some b->xs.flatMap GV.cells=xs
 |[],b,h=>rfl
 |x::xs,b,h=>by
  unfold mY at h;split at h
  ·rename_i heq;cases heq
  ·next n rest heq=>
   cases heq;split at h
   ·obtain⟨b',hb',_⟩:=aZ.1 h;rw[jC,Rq hb'];rfl
   ·cases h
  ·cases h
theorem az0(h:SR P F J w){src dst:TypeId}{a v:AV}{x:Value}(hs:VI P src dst a J=some (v,J'))(hx:VR F a x):
 ∃y w' F',(convert src dst x).run P w=.ok y w'/\St P F J w F' J' w'/\VR F' v y:=by
 unfold VI at hs;split at hs
 ·next d k n h1 h2=>
  obtain⟨v',hm,e1⟩:=aZ.1 hs;cases e1;simp only[VR]at hx;obtain⟨g,a1,a2,a3⟩:=hx;obtain⟨_,g',_,b2,b3⟩:=mF (F:=F) hm;simp only[Nd.den,a1]at b2;split at b2
  ·next kk z e1=>
   cases e1;cases b2;simp only[GR]at a3;subst a3;obtain⟨y,w',F',r1,r2,r3⟩:=Og h (src:=src) (dst:=dst) (a:=.i kk z) (v:=.i k (k.wrap z)) (J':=J) (by simp only[xY,h1,h2]) (by simp only[VR]:VR F (.i kk z) (.int kk z));exact⟨y,w',F',r1,r2,by obtain⟨_,g2,_,c2,c3⟩:=mF (F:=F') hm;simp only[Nd.den,a1,aW]at c2;subst c2;exact c3 y rfl ((kR _ _).2 r3)⟩
  ·cases b2
 ·next n h1 h2=>
  obtain⟨v',hm,e1⟩:=aZ.1 hs;cases e1;simp only[VR]at hx;obtain⟨g,a1,a2,a3⟩:=hx;obtain⟨_,g',_,b2,b3⟩:=mF (F:=F) hm;simp only[Nd.den,a1]at b2;split at b2
  ·next z e1=>
   cases e1;cases b2;simp only[GR]at a3;subst a3;obtain⟨y,w',F',r1,r2,r3⟩:=Og h (src:=src) (dst:=dst) (a:=.s z) (v:=.s z) (J':=J) (by simp only[xY,h1,h2]) (by simp only[VR]:VR F (.s z) (.string ⟨⟨z⟩⟩));exact⟨y,w',F',r1,r2,by obtain⟨_,g2,_,c2,c3⟩:=mF (F:=F') hm;simp only[Nd.den,a1,aW]at c2;subst c2;exact c3 y rfl ((kR _ _).2 r3)⟩
  ·cases b2
 ·next e n h1 h2=>
  split at hs
  ·next h3=>
   split at hs
   ·next hc=>
    split at hs
    ·next m hm=>
     cases hs;simp only[VR]at hx;obtain⟨g,a1,a2,a3⟩:=hx;obtain⟨g',b1,b2⟩:=gB hm;simp only[Nd.den,a1]at b2;split at b2
     ·next z e1=>
      cases e1;cases b2;simp only[GR]at a3;subst a3;obtain⟨y,w',F',r1,r2,r3⟩:=Og h (src:=src) (dst:=dst) (a:=.s z) (v:=.sl J.next 0 z.length none) (J':=J.new (.cells (vT z) e true true)) (by simp only[xY,h1,h2,h3,aj hc]) (by simp only[VR]:VR F (.s z) (.string ⟨⟨z⟩⟩));obtain⟨q1,q2⟩:=St.xM (f:=false) (size:=1) r2 b1 (by intro x hx;obtain⟨c,_,rfl⟩:=qj.1 hx;exact⟨rfl,rfl⟩) hc.2 (λvs hvs=>by rw[adh];exact hvs) (by simpa[bT]using r3) (by simp)
      exact⟨y,w',F',r1,q1,q2⟩
     ·cases b2
    ·cases hs
   ·cases hs
  ·cases hs
 ·next e h1 h2=>
  split at hs
  ·next h3=>
   split at hs
   ·next m hl=>
    obtain⟨v',hm,e1⟩:=aZ.1 hs;cases e1;obtain⟨_,g',_,b2,b3⟩:=mF (F:=F) hm;simp only[Nd.den]at b2;split at b2
    ·next xs hv=>
     split at b2
     ·next h48=>
      obtain⟨b,hb,rfl⟩:=aZ.1 b2;have fin:∀{τ:aA}{A:AV},SR P F τ w->VR F A x->xY P src dst A τ=some (.s b,τ)->(∀{F':Env}{w':World},St P F τ w F' τ w'->St P F J w F' J w')->∃y w' F',(convert src dst x).run P w=.ok y w'/\St P F J w F' J w'/\VR F' v y:=by intro τ A hS hA hA2 hst;obtain⟨y,w',F',r1,r2,r3⟩:=Og hS hA2 hA;refine⟨y,w',F',r1,hst r2,?_⟩;obtain⟨_,g2,_,c2,c3⟩:=mF (F:=F') hm;simp only[Nd.den,hv,aj h48,hb,gI,aW]at c2;subst c2;exact c3 y rfl ((kR _ _).2 r3)
      have hnil:mY xs=some b->xs=[]->b=[]:=by rintro h1 rfl;simpa[mY]using h1.symm
      unfold listOf at hl;split at hl
      ·next n=>
       cases hl;simp only[VR]at hx;obtain⟨g,a1,a2,a3⟩:=hx;rw[hv]at a1;cases a1;exact fin h ((kR (.l xs) x).1 a3) (by simp only[kC,xY,h1,h2,h3,N7 hb,gI]) (λh=>h)
      ·obtain⟨g,g1,g2⟩:=gB hl;rw[hv]at g1;cases g1;simp only[Nd.den,valsOf,gI,aW,GV.l.injEq]at g2;have:=hnil hb g2.symm;subst this;exact fin h hx (by simp only[xY,h1,h2,h3]) (λh=>h)
      ·next id n=>
       split at hl
       ·next m' et _ hg=>
        split at hl
        ·next hc=>
         cases hl;rw[aK]at hc;simp only[VR]at hx;obtain⟨ys,k1,hx⟩:=hx;have hlen:=yB 100 hc.2 hv k1;rcases hx with⟨q,hq,hle,rfl⟩|⟨_,rfl,rfl⟩
         ·obtain⟨xs',j1,j2,j3,j4,j5,j6,j7,hS⟩:=MX h hg hq;rw[hv]at j1;cases j1;have hcg:bI xs=dH xs:=by unfold bI;rw[Rq hb]
          have htk:takeN (bI xs) 0 xs.length=some (dH xs):=by rw[hcg];unfold takeN;rw[dD,jZ (by rw[lS];omega),aj (lS xs)]
          rw[hlen]at htk;refine fin (A:=.sl id 0 ys.length none) hS (by simp only[VR];exact⟨q,hq,by simpa using hle,by simp⟩) ?_ (λhst=>aAG (λe=>by subst e;exact(h.at hg hq).Wi) hg hq hv j2 j7 (Qh hg hst));simp only[xY,h1,h2,h3,D6,htk,N7 hb,gI]
         ·have hxs:xs=[]:=jw (by simpa using hlen);have:=hnil hb hxs;subst this;exact fin h (A:=.fV) (by simp only[VR]) (by simp only[xY,h1,h2,h3]) (λh=>h)
        ·cases hl
       ·cases hl
      ·next id off len cap=>
       split at hl
       ·next c et um opn size agg hg hsz hag=>
        split at hl
        ·next hc=>
         rw[aK,nO,aK]at hc;split at hl
         ·next cs hcs=>
          split at hl
          ·next ns hns=>
           have hagg:agg=false->size=1:=by
            intro e;subst e;rcases hc.2 with h1|h1
            ·simp at h1
            ·exact bD h1
           obtain⟨g,g1,g2⟩:=gB hl;rw[hv]at g1;cases g1;simp only[VR]at hx;obtain⟨q,hq,hle,rfl⟩:=hx;obtain⟨q',hq',ws,elem,fr,hblk,rr⟩:=h.obj _ _ hg rfl;rw[hq]at hq';cases hq';have hlc:=(qV hcs).2.1;obtain⟨gs,k1,k2,k3,_,k5⟩:=EJ (F:=F) hagg len hns (rr.yF hcs) hlc;simp only[Nd.den,k1,gI,aW,GV.l.injEq]at g2;rw[g2]at k2 k3 k5;have hl1:len*size=len:=by
            cases len with
            |zero=>simp
            |succ n=>
             have hx0:xs[0]? =some (xs[0]'(by omega)):=bK (by omega);have h5:=(k5 _ (rC hx0)).1;have h6:(xs[0]'(by omega)).cells.length=1:=by
              cases xs with
              |nil=>simp at k2
              |cons y ys=>
               cases y with
               |i k n=>rfl
               |b=>simp[mY]at hb
               |s=>simp[mY]at hb
               |l=>simp[mY]at hb
               |g=>simp[mY]at hb
             rw[h6]at h5;rw[<-h5];simp
           have hcg:bI xs=dH xs:=by unfold bI;rw[Rq hb]
           rw[hcg]at k3;have hxs:=N8 (N7 hb) k3;rw[hl1]at hcs hxs;refine⟨.string ⟨⟨b⟩⟩,w,F,?_,St.refl h,?_⟩
           ·simp only[convert,aS,aX h1,aX h2,aQ,aX h3,Conv.bytesToString];rw[Dy hblk (rr.take hcs),hxs];simp only[aQ];rw[aaZ _ (λ_ _ _=>rfl)];rfl
           ·obtain⟨_,g2,_,c2,c3⟩:=mF (F:=F) hm;simp only[Nd.den,hv,aj h48,hb,gI,aW]at c2;subst c2;exact c3 _ rfl (by simp only[GR])
          ·cases hl
         ·cases hl
        ·cases hl
       ·cases hl
      ·cases hl
     ·cases b2
    ·cases b2
   ·cases hs
  ·cases hs
 ·cases hs
def FH(ro:Qf)(w:World)(b:Nat):Nat->Option Obj:=λk=>if k=b then w.heap[b]? else ro k
theorem Vb{ro:Qf}{w:World}(h:∀b o,ro b=some o->w.heap[b]? =some o)(b:Nat):∀k o,ro k=some o->FH ro w b k=some o:=by
 intro k o hk;unfold FH;split
 ·next e=>subst e;exact h _ _ hk
 ·exact hk
theorem St.freeze(h:SR P F J w){id:Nat}{o:bn}{q:Place}(hg:J.get id=some o)(ho:o.own=true)(hl:J.lock<=id)(hq:F id=some q):St P F J w ⟨F.pl,FH F.ro w q.bl,F.gh⟩ (J.kill id) w:=by
 have hle:(F:Env).le ⟨F.pl,FH F.ro w q.bl,F.gh⟩:=⟨λ_ _ h=>h,Vb h.iT q.bl,λ_ h=>h⟩
 have sub:∀k u,(J.kill id).get k=some u->k≠id/\J.get k=some u:=by
  intro k u hk;rw[aA.yh]at hk;split at hk
  ·cases hk
  ·next e=>exact⟨e,hk⟩
 refine⟨hle,⟨h.mg,h.dom,λk u hk=>?_,h.jH,λk u k' u' p p' a1 a2 a3 a4 a5 a6=>?_,λb u hb=>?_,λk u p a1 a2 a3=>?_,λp hp=>(h.tabs p hp).mono hle⟩,bV _,λ_ _ _=>rfl,λk u p a1 a2 a3 a4=>?_,rfl,rfl,rfl,rfl,bV _,λ_ h=>.inl h,λb hb=>?_⟩
 ·exact(h.live k u (sub k u hk).2).mono hle
 ·exact h.sep k u k' u' p p' (sub k u a1).2 a2 (sub k' u' a3).2 a4 a5 a6
 ·have hb':(if b=q.bl then w.heap[q.bl]? else F.ro b)=some u:=hb;split at hb'
  ·next e=>rw[e];exact hb'
  ·exact h.iT b u hb'
 ·obtain⟨e1,e2⟩:=sub k u a1;show(if p.bl=q.bl then w.heap[q.bl]? else F.ro p.bl)=none
  have hne:=h.sep k u id o p q e2 a2 hg e1 a3 hq;rw[ah hne];exact h.kN k u p e2 a2 a3
 ·exact .inr ⟨k,u,p,(sub k u a1).2,a2,a3,a4,rfl⟩
 ·have hb':(if b=q.bl then w.heap[q.bl]? else F.ro b)≠none:=hb;split at hb'
  ·next e=>exact .inr (.inr ⟨id,o,q,hg,ho,hl,hq,e.symm⟩)
  ·exact .inl hb'
theorem GR.ZJ{F:Env}{w:World}{q:Place}{c:Q3}{et:TypeId}{um opn:Bool}{ro':Qf}(h:OR P F q w (.cells c et um opn))(hro:∀b o,F.ro b=some o->ro' b=some o)(hq:ro' q.bl=w.heap[q.bl]?){off n size cap:Nat}{cs:Q3}{gs:Q1}(ht:takeN c off (n*size)=some cs)(hn:gs.length=n)(hcap:n<=cap)(h0:0<size)
 (hs:∀x∈gs,x.cells.length=size/\x.cells.all GV.scalar=true) (hc:∀(F':Env) vs,(∀b o,F.ro b=some o->F'.ro b=some o)->aC F cs vs->aC F' (bI gs) vs):GR ro' (.l gs) (.slice (some ⟨q.bl,q.ba+off,none⟩) n cap):=by
 obtain⟨ws,elem,fr,hb,r⟩:=h;have h1:=r.yF ht;have hfit:=r.take ht;obtain⟨e1,e2,e3⟩:=qV ht;have h2:=hc ⟨F.pl,ro',F.gh⟩ _ hro h1;obtain⟨ys,y1,y2,y3⟩:=ungroup gs _ h2 (λx hx=>(hs x hx).2);simp only[GR];right;refine⟨q.bl,q.ba+off,cap,ys,size,by rw[hn],by rw[hn];exact hcap,y1,λy hy=>?_,λhne=>⟨ws,elem,fr,by rw[hq,hb],?_,?_⟩⟩
 ·obtain⟨k,hk⟩:=JH hy;have hkl:k<gs.length:=by rw[y1.length];exact(eU.1 hk).1
  rw[y3 k _ y (bK hkl) hk];exact(hs _ (gK hkl)).1
 ·rw[y2];have hnp:0<gs.length:=JI.2 hne;have hp:0<n*size:=Nw (by omega) h0;rw[kF,eX,Jy];omega
 ·rw[y2];intro k x hk;rw[kS]at hk;split at hk
  ·rw[ru,vC]at hk;exact hk
  ·cases hk
theorem VR.ae4(h:SR P F J w){id n m et:Nat}{f:Bool}{x:Value}{ro':Qf}(hg:J.get id=some (.vec m et f))(hs:uZ 100 m n=true)(hx:VR F (.sv id n) x)(hro:∀b o,F.ro b=some o->ro' b=some o)(hq:∀q,F id=some q->ro' q.bl=w.heap[q.bl]?):
 ∃ys,aH.val m=some (.l ys)/\GR ro' (.l ys) x:=by
 simp only[VR]at hx;obtain⟨ys,k1,hx⟩:=hx;rcases hx with⟨q,hq1,hle,rfl⟩|⟨hgh,rfl,rfl⟩
 ·obtain⟨xs,x1,x2,x3,x4,x5,x6,x7,x8⟩:=(h.at hg hq1).Lr;have hlen:=yB 100 hs x1 k1;refine⟨xs,x1,?_⟩;have hcl:=GY x2;have:=GR.ZJ (ro':=ro') (off:=0) (n:=ys.length) (size:=q.es) (cap:=q.sz/q.es) (cs:=bI xs) (gs:=xs) x8 hro (hq q hq1) (by unfold takeN;rw[dD,<-hlen,jZ (by omega),aj hcl]) hlen hle x4 (λx hx=>⟨x2 x hx,x7 x hx⟩) (λF' vs hro hvs=>by unfold bI at hvs⊢;exact(ou _ _).1 (aO.mono hro _ _ ((ou _ _).2 hvs)))
  simpa using this
 ·rcases h.live id _ hg with⟨q,hq1,_⟩|⟨_,n2,Yg,f2,e2,hv0⟩
  ·rw[(h.jH id hgh).1]at hq1;cases hq1
  ·cases e2;exact⟨[],hv0,by simp[GR]⟩
theorem acA{F':Env}(hle:F.le F'){o:Q4}{v:Wt}(h:kU F o v):kU F' o v:=by cases o<;>cases v<;>first|exact h|exact VR.mono hle _ _ h
theorem St.avY(h:SR P F J w){id m et k:Nat}{f:Bool}(hg:J.get id=some (.vec m et f))(hgh:F.gh id=true)(hv:aH.val k=some (.l [])):St P F J w F (J.put id (.vec k et f)) w:=by
 have get:∀i u,(J.put id (.vec k et f)).get i=some u->(i=id/\u=.vec k et f)\/(i≠id/\J.get i=some u):=by
  intro i u hi;rw[aA.get_put]at hi;split at hi
  ·next e=>cases hi;exact .inl ⟨e,rfl⟩
  ·next e=>exact .inr ⟨e,hi⟩
 have hno:∀q,F id≠some q:=λq hq=>by rw[(h.jH id hgh).1]at hq;cases hq
 refine⟨Env.le.refl _,⟨h.mg,h.dom,λi u hi=>?_,h.jH,λi u i' u' q q' a1 a2 a3 a4 a5 a6=>?_,h.iT,λi u q a1 a2 a3=>?_,h.tabs⟩,bV _,λ_ _ _=>rfl,λi u q a1 a2 a3 a4=>?_,rfl,rfl,rfl,rfl,bV _,λ_ h=>.inl h,λ_ h=>.inl h⟩
 ·rcases get i u hi with⟨rfl,rfl⟩|⟨_,h1⟩
  ·exact .inr ⟨hgh,k,et,f,rfl,hv⟩
  ·exact h.live i u h1
 ·rcases get i u a1 with⟨rfl,_⟩|⟨_,h1⟩
  ·exact absurd a5 (hno q)
  ·rcases get i' u' a3 with⟨rfl,_⟩|⟨_,h2⟩
   ·exact absurd a6 (hno q')
   ·exact h.sep i u i' u' q q' h1 a2 h2 a4 a5 a6
 ·rcases get i u a1 with⟨rfl,_⟩|⟨_,h1⟩
  ·exact absurd a3 (hno q)
  ·exact h.kN i u q h1 a2 a3
 ·rcases get i u a1 with⟨rfl,_⟩|⟨_,h1⟩
  ·exact absurd a4 (hno q)
  ·exact .inr ⟨i,u,q,h1,a2,a3,a4,rfl⟩
theorem az8(h:SR P F J w){t:TypeId}{a v:AV}{x:Value}{lo hi:Q4}{lo' hi':Wt}(hs:VT P t J a lo hi=some (v,J'))(hx:VR F a x)(hlo:kU F lo lo')(hhi:kU F hi hi'):
 ∃y w' F',(Instr.sliceAt t x lo' hi' none).run P w=.ok y w'/\St P F J w F' J' w'/\VR F' v y:=by
 unfold VT at hs;split at hs;rotate_left
 ·cases hs
 next e id n hu=>
 split at hs;rotate_left
 ·cases hs
 next m et f size hg hsz=>
 split at hs;rotate_left
 ·cases hs
 next hc=>
 simp only[aK]at hc;obtain⟨⟨c1,c2⟩,c3⟩:=hc;have e1:=bD c1;subst e1;have hlk:=sO c3;cases lo with
 |some l0=>
  simp only at hs;obtain⟨r,hr,e2⟩:=aZ.1 hs;cases e2;have key:∀F1:Env,SR P F1 (J.kill id) w->St P F J w F1 (J.kill id) w->VR F1 (.nd m) x->∃y w' F',(Instr.sliceAt t x lo' hi' none).run P w=.ok y w'/\St P F J w F' (J.kill id) w'/\VR F' v y:=by intro F1 h1 hst hv;obtain⟨y,k1,k2⟩:=ai5 h1 hr hv (acA hst.ext hlo) (acA hst.ext hhi);exact⟨y,w,F1,k1,hst,k2⟩
  have hx0:=hx;simp only[VR]at hx0;obtain⟨ys,k1,hx0⟩:=hx0;rcases hx0 with⟨q,hq1,hle,_⟩|⟨hgh,_,_⟩
  ·have hst:=St.freeze h hg rfl hlk hq1;obtain⟨zs,z1,z2⟩:=VR.ae4 (ro':=FH F.ro w q.bl) h hg c2 hx (Vb h.iT q.bl) (λq' hq'=>by rw[hq1]at hq';cases hq';unfold FH;rw[aj rfl]);exact key _ hst.rel hst (by simp only[VR];exact⟨_,z1,rfl,z2⟩)
  ·obtain⟨zs,z1,z2⟩:=VR.ae4 (ro':=F.ro) h hg c2 hx (λ_ _ h=>h) (λq' hq'=>by rw[(h.jH id hgh).1]at hq';cases hq');have hst:=(St.refl h).Uk id;exact key F hst.rel hst (by simp only[VR];exact⟨_,z1,rfl,z2⟩)
 |none=>
  simp only at hs;split at hs;rotate_left
  ·cases hs
  next z hh h1 h2=>
  obtain⟨k,hk,e2⟩:=aZ.1 hs;cases e2;obtain⟨g,g1,g2⟩:=gB hk;simp only[Nd.den]at g2;split at g2;rotate_left
  ·cases g2
  next xs kl li kh hi2 e3 e4 e5=>
  split at g2;rotate_left
  ·cases g2
  next hc=>
  cases g2;obtain⟨b1,b2,b3,b4⟩:=hc;have hz:li=0:=by obtain⟨gz,z1,z2⟩:=gB h1;simp only[Nd.den,aW]at z2;subst z2;rw[e4]at z1;cases z1;rfl
  subst hz;have hlt:NW (none:Q4)=some z:=h1;obtain⟨lo2,hi3,d1,d2,d3⟩:=abo (len:=xs.length) hlt h2 hlo hhi e4 e5 (λhd=>by simp only[Nd.den,e3,aW,GV.i.injEq]at hd;exact hd.2.symm) b1 b2 b3;have hlo2:(0:Int).toNat=0:=rfl;simp only[VR]at hx;obtain⟨ys,y1,hx⟩:=hx;have hlen:=yB 100 c2 e3 y1;have hks:(xs.take hi2.toNat).drop (0:Int).toNat=xs.take hi2.toNat:=by simp
  rw[hks]at g1;have OM:hi2.toNat<=xs.length:=by omega
  rcases hx with⟨q,hq1,hle,rfl⟩|⟨hgh,rfl,rfl⟩
  ·have hor:=h.at hg hq1;obtain⟨xs',cs,elem,fr,zs,o1,o2,o3,o4,o5,o6,o7,o8,o9⟩:=hor;rw[e3]at o1;cases o1
   have hB:=Ew (P:=P) (w:=w) (sl:=true) (cap:=q.sz/q.es) d3 (λk hk=>by have:k<=xs.length:=by simpa using hk
                                                                       omega) (by omega) d1 d2
   have hes:0<q.es/\sizeT P e=some q.es:=⟨(o7.room rfl).2.1,(o7.room rfl).2.2⟩
   have hne:size=q.es:=by have:=hes.2;rw[hsz]at this;cases this;rfl
   have hnew:OR P F q w (.vec k e f):=by
    have hz1:=o3.length;refine⟨xs.take hi2.toNat,cs,elem,fr,zs.take hi2.toNat,g1,o2,?_,λy hy=>o4 y (JK hy),?_,?_,o7,λx hx=>o8 x (JK hx),o9⟩
    ·have:∀(xs:Q1)(zs:Q6)(n:Nat),aO F.ro xs zs->aO F.ro (xs.take n) (zs.take n):=by
      intro xs;induction xs with
      |nil=>intro zs n hg;simp only[aO]at hg;subst hg;simp[aO]
      |cons a l ih=>
       intro zs n hg;simp only[aO]at hg;obtain⟨x,us,rfl,a1,a2⟩:=hg;cases n with
       |zero=>simp[aO]
       |succ n=>simp only[BL,aO];exact⟨x,us.take n,rfl,a1,ih us n a2⟩
     exact this _ _ _ o3
    ·intro j x hj;refine o5 j x ?_;have hpre:(bY (zs.take hi2.toNat)) <+: bY zs:=by unfold bY;rw[show zs=zs.take hi2.toNat++zs.drop hi2.toNat from(JL _ _).symm];rw[acg];simp only[JL];exact List.prefix_append _ _
     obtain⟨r,hr⟩:=hpre;rw[<-hr,mP (eU.1 hj).1];exact hj
    ·rw[kF];refine jD (rF _ (Nat.min_le_right _ _)) o6
   have hst:=St.write h hg rfl hlk hq1 (w':=w) (o':=.vec k e f) rfl (λ_ _=>rfl) rfl rfl rfl hnew;refine⟨.slice (some ⟨q.bl,q.ba,none⟩) hi2.toNat (q.sz/q.es),w,F,?_,hst,?_⟩
   ·rw[hlen]at hB;simp only[Instr.sliceAt,Instr.slice,aX hu,aS,aQ,hB.1,iY hsz,bF];by_cases e0:q.sz/q.es=0
    ·simp[e0]
    ·have e1:¬q.sz/q.es=(0:Int).toNat:=e0;rw[ah e1];simp[qw]
   ·simp only[VR];refine⟨xs.take hi2.toNat,g1,.inl ⟨q,hq1,?_,?_⟩⟩
    ·rw[kF];omega
    ·rw[kF,JQ OM]
  ·have hxs:xs=[]:=jw (by simpa using hlen);subst hxs;have hh0:hi2.toNat=0:=by simpa using OM
   have hl:zX P t J .fV lo2 hi3=some .fV:=by simp only[zX,hu,hsz];simp only[kT]at d3;rw[d3];rfl
   obtain⟨y,u1,u2⟩:=Vu h hl (show VR F .fV (.slice none 0 0) by simp only[VR]) d1 d2;simp only[VR]at u2;subst u2;have hvk:aH.val k=some (.l []):=by rw[g1];simp
   refine⟨_,w,F,u1,St.avY h hg hgh hvk,?_⟩;simp only[VR];exact⟨[],hvk,.inr ⟨hgh,by trivial,by trivial⟩⟩
def tX(kk:Wc):TypeDesc:=match kk with
 |some k=>.int k
 |none=>.string
theorem Ui{kt:TypeId}{k:AV}{n:Nat}{kk:Wc}{y:Value}(h:OZ P kt k=some (n,kk))(hy:VR F k y):
 P.underlying kt=some (tX kk)/\∃g,aH.val n=some g/\zx kk g/\GR F.ro g y:=by
 unfold OZ at h;split at h
 ·next Di m hu hn=>
  split at h
  ·next z hz=>
   obtain⟨j,hj,e⟩:=aZ.1 h;cases e;obtain⟨g,h1,_,h3⟩:=lF hn hy;obtain⟨z',h4,h5⟩:=gB hz;simp only[Nd.den,aW]at h5;subst h5;obtain⟨r,_,h7⟩:=gB hj;simp only[Nd.den,h1,h4]at h7;refine⟨hu,g,h1,?_,h3⟩;cases g<;>simp only[gZ,bQ,reduceCtorEq]at h7
   split at h7
   ·next e=>subst e;exact⟨_,rfl⟩
   ·cases h7
  ·cases h
 ·next m hu hn=>
  split at h
  ·next z hz=>
   obtain⟨j,hj,e⟩:=aZ.1 h;cases e;obtain⟨g,h1,_,h3⟩:=lF hn hy;obtain⟨z',h4,h5⟩:=gB hz;simp only[Nd.den,aW]at h5;subst h5;obtain⟨r,_,h7⟩:=gB hj;simp only[Nd.den,h1,h4]at h7;refine⟨hu,g,h1,?_,h3⟩;cases g<;>simp only[gZ,wM,reduceCtorEq]at h7
   exact⟨_,rfl⟩
  ·cases h
 ·cases h
theorem aio{k:IntKind}{a b:Int}:Instr.sameNow (.int k) (.int k a) (.int k b)=some (a==b):=by simp[Instr.sameNow]
theorem aiq{a b:Q0}:Instr.sameNow .string (.string ⟨⟨a⟩⟩) (.string ⟨⟨b⟩⟩)=some (a==b):=by simp[Instr.sameNow,Gu]
theorem afY{kk:Wc}{n:Nat}{e:AV}{g:GV}{x y:Value}{b:Bool}(h:Ze n e=some b)(hg:aH.val n=some g)(hk:zx kk g)(hy:GR F.ro g y)(hx:VR F e x):
 Instr.sameNow (tX kk) y x=some b:=by
 unfold Ze at h;split at h
 ·next m hm=>
  obtain⟨g',h1,_,h3⟩:=lF hm hx;have key:∃r,(Nd.bin .eql n m).den aH.I aH.val=some r/\r=.b b:=by
   split at h
   ·next b' hb=>
    cases h;obtain⟨j,r,q1,q2,q3⟩:=mF (F:=F) hb;refine⟨r,q2,?_⟩;simp only[Nd.den,hg,h1]at q2;have:∃c,r=.b c:=by
     cases g<;>cases g'<;>simp only[gZ,reduceCtorEq]at q2
     ·split at q2
      ·simp only[bQ,aW]at q2;exact⟨_,q2.symm⟩
      ·cases q2
     ·simp only[wM,aW]at q2;exact⟨_,q2.symm⟩
    obtain⟨c,rfl⟩:=this;have:=q3 (.bool c) rfl (by simp only[GR]);simp only[VR]at this;cases this;rfl
   ·next j hb=>
    split at h
    ·next b' hd=>
     cases h;obtain⟨j',r,q1,q2,q3⟩:=mF (F:=F) hb;refine⟨r,q2,?_⟩;simp only[Nd.den,hg,h1]at q2;have:∃c,r=.b c:=by
      cases g<;>cases g'<;>simp only[gZ,reduceCtorEq]at q2
      ·split at q2
       ·simp only[bQ,aW]at q2;exact⟨_,q2.symm⟩
       ·cases q2
      ·simp only[wM,aW]at q2;exact⟨_,q2.symm⟩
     obtain⟨c,rfl⟩:=this;have h8:=q3 (.bool c) rfl (by simp only[GR]);obtain⟨v,hv,q4⟩:=G5 hd;cases hv;have:=q4 F _ h8;simp only[VR]at this;cases this;rfl
    ·cases h
   ·cases h
  obtain⟨r,q2,rfl⟩:=key;simp only[Nd.den,hg,h1]at q2;cases kk with
  |some k=>
   obtain⟨a,rfl⟩:=hk;simp only[GR]at hy;subst hy;cases g'<;>simp only[gZ,reduceCtorEq]at q2
   split at q2
   ·next e=>
    subst e;simp only[bQ,aW,GV.b.injEq]at q2;simp only[GR]at h3;subst h3;show Instr.sameNow (.int _) _ _=_
    rw[aio,q2]
   ·cases q2
  |none=>
   obtain⟨a,rfl⟩:=hk;simp only[GR]at hy;subst hy;cases g'<;>simp only[gZ,wM,reduceCtorEq]at q2
   simp only[aW,GV.b.injEq]at q2;simp only[GR]at h3;subst h3;show Instr.sameNow .string _ _=_
   rw[aiq,q2]
 ·cases h
theorem Ov{kk:Wc}{n:Nat}{g:GV}{y:Value}(hg:aH.val n=some g)(hk:zx kk g)(hy:GR F.ro g y):∀{es:Xs}{ms:List MapEntry}{i:Nat}{r:Option (Nat×AV)},
 KH n es i=some r->zO F es ms->∃r',Instr.findNow (tX kk) y ms i=some r'/\(match r,r' with|none,none=>True|some (_,v),some (_,z)=>VR F v z|_,_=>False)
 |[],ms,i,r,h,hm=>by
  simp only[KH,aW]at h;subst h;have:ms=[]:=by have:=hm.1;cases ms<;>simp_all
  subst this;exact⟨none,rfl,trivial⟩
 |e::es,ms,i,r,h,hm=>by
  obtain⟨m,rest,rfl,h1,h2,h3⟩:=hm.tail;unfold KH at h;split at h
  ·next hs=>
   cases h;have hs:=afY hs hg hk hy h1;exact⟨some (i,m.val),by simp[Instr.findNow,hs],h2⟩
  ·next hs=>
   have hs:=afY hs hg hk hy h1;obtain⟨r',hr,hrel⟩:=Ov hg hk hy h h3;exact⟨r',by simp[Instr.findNow,hs,hr],hrel⟩
  ·cases h
theorem aip{kk:Wc}{g a:GV}{y x:Value}{ro:Qf}(hk:zx kk g)(ha:zx kk a)(hy:GR ro g y)(hx:GR ro a x):Instr.sameNow (tX kk) y x=some (oP g a):=by
 cases kk with
 |some k=>
  obtain⟨m,rfl⟩:=hk;obtain⟨n,rfl⟩:=ha;simp only[GR]at hy hx;subst hy;subst hx;show Instr.sameNow (.int _) _ _=_
  rw[aio];simp[oP]
 |none=>
  obtain⟨m,rfl⟩:=hk;obtain⟨n,rfl⟩:=ha;simp only[GR]at hy hx;subst hy;subst hx;show Instr.sameNow .string _ _=_
  rw[aiq];rfl
theorem SY{ro:Qf}{kk:Wc}{sz:QR}{g:GV}{y:Value}(hk:zx kk g)(hy:GR ro g y):∀{xs:Q1}{ms:List MapEntry}{i:Nat},rD ro kk sz xs ms->
 (iE g xs=none/\Instr.findNow (tX kk) y ms i=some none)\/∃u j z,iE g xs=some u/\Instr.findNow (tX kk) y ms i=some (some (j,z))/\i<=j/\(∃m,ms[j-i]? =some m/\Instr.sameNow (tX kk) y m.key=some true)/\MZ sz u/\GR ro u z
 |[],ms,i,h=>by simp only[rD]at h;subst h;exact .inl ⟨rfl,rfl⟩
 |x::xs,ms,i,h=>by
  obtain⟨a,b,m,rest,rfl,rfl,h1,h2,h3,h4,h5⟩:=h;have hs:=aip hk h1 hy h3;cases hb:oP g a with
  |true=>rw[hb]at hs;exact .inr ⟨b,i,m.val,by simp[iE,hb],by simp[Instr.findNow,hs],bV _,⟨m,by simp,hs⟩,h2,h4⟩
  |false=>
   rw[hb]at hs;rcases SY (i:=i+1) hk hy h5 with⟨q1,q2⟩|⟨u,j,z,q1,q2,q3,⟨m',q4,q5⟩,q6⟩
   ·exact .inl ⟨by simp[iE,hb,q1],by simp[Instr.findNow,hs,q2]⟩
   ·refine .inr ⟨u,j,z,by simp[iE,hb,q1],by simp[Instr.findNow,hs,q2],by omega,⟨m',?_,q5⟩,q6⟩;have:j-i=(j-(i+1))+1:=by omega
    rw[this];simpa using q4
theorem ahY{ro:Qf}{kk:Wc}{sz:QR}{g u:GV}{e:MapEntry}(hk:zx kk g)(hu:MZ sz u)(h1:GR ro g e.key)(h2:GR ro u e.val):∀{xs:Q1}{ms:List MapEntry},rD ro kk sz xs ms->iE g xs=none->
 rD ro kk sz (lI g u xs) (ms++[e])
 |[],ms,h,_=>by simp only[rD]at h;subst h;exact⟨g,u,e,[],rfl,rfl,hk,hu,h1,h2,rfl⟩
 |x::xs,ms,h,hn=>by
  obtain⟨a,b,m,rest,rfl,rfl,q1,q2,q3,q4,q5⟩:=h;simp only[iE]at hn;split at hn
  ·cases hn
  ·next hb=>
   simp only[lI,ah hb];exact⟨a,b,m,rest++[e],rfl,rfl,q1,q2,q3,q4,ahY hk hu h1 h2 q5 hn⟩
theorem ahZ{ro:Qf}{kk:Wc}{sz:QR}{g u:GV}{y z':Value}(hk:zx kk g)(hu:MZ sz u)(h1:GR ro g y)(h2:GR ro u z'):∀{xs:Q1}{ms:List MapEntry}{i j:Nat}{z:Value},rD ro kk sz xs ms->Instr.findNow (tX kk) y ms i=some (some (j,z))->
 rD ro kk sz (lI g u xs) (ms.modify (j-i) λe=>{e with key:=y,val:=z'})
 |[],ms,i,j,z,h,hf=>by simp only[rD]at h;subst h;simp[Instr.findNow]at hf
 |x::xs,ms,i,j,z,h,hf=>by
  obtain⟨a,b,m,rest,rfl,rfl,q1,q2,q3,q4,q5⟩:=h;have hs:=aip hk q1 h1 q3;cases hb:oP g a with
  |true=>rw[hb]at hs;simp only[Instr.findNow,hs,aW,nR]at hf;obtain⟨rfl,rfl⟩:=hf;simp only[lI,hb,if_true,zQ];exact⟨g,u,{m with key:=y,val:=z'},rest,rfl,by simp,hk,hu,h1,h2,q5⟩
  |false=>
   rw[hb]at hs;simp only[Instr.findNow,hs]at hf;have hj:i+1<=j:=by
    rcases SY (i:=i+1) hk h1 q5 with⟨_,r2⟩|⟨_,j',_,_,r2,r3,_⟩
    ·rw[hf]at r2;cases r2
    ·rw[hf]at r2;cases r2;exact r3
   have ih:=ahZ hk hu h1 h2 q5 hf;have e:j-i=(j-(i+1))+1:=by omega
   rw[e];simp only[lI,hb,iO,if_false,List.modify_succ_cons];exact⟨a,b,m,_,rfl,rfl,q1,q2,q3,q4,ih⟩
theorem RU{kt:TypeId}{kk:Wc}{g:GV}{y:Value}(hu:P.underlying kt=some (tX kk))(hk:zx kk g)(hy:GR F.ro g y)(b:Bool):(Instr.checkKey b 10000 kt y).run P w=.ok () w:=by
 have H:∀n:Nat,(Instr.checkKey b (n+1) kt y).run P w=.ok () w:=λn=>by
  cases kk with
  |some k=>obtain⟨m,rfl⟩:=hk;simp only[GR]at hy;subst hy;simp only[Instr.checkKey,aS,aX hu,aQ,tX,bF]
  |none=>obtain⟨m,rfl⟩:=hk;simp only[GR]at hy;subst hy;simp only[Instr.checkKey,aS,aX hu,aQ,tX,bF]
 exact H 9999
theorem ajt{et:TypeId}{v:AV}{n:Nat}{sz:QR}{x:Value}(h:Qj P et v=some (n,sz))(hx:VR F v x):∃g,aH.val n=some g/\MZ sz g/\GR F.ro g x/\(match nI P et with
 |some true=>∃k,sizeT P et=some k/\sz=some k
 |some false=>sz=none
 |none=>False):=by
 unfold Qj at h;split at h
 ·next ha=>
  split at h
  ·next n' k hn hk=>
   split at h
   ·next he=>
    cases h;obtain⟨l,gs,rfl,h1,h2,h3,h4⟩:=J3 hn hx;rw[ha];refine⟨_,h2,⟨gs,rfl,?_,h3⟩,h4,k,hk,rfl⟩;rw[h1];exact bD he
   ·cases h
  ·cases h
 ·next ha=>
  obtain⟨n',hn,e⟩:=aZ.1 h;cases e;obtain⟨g,h1,h2,h3⟩:=lF hn hx;rw[ha];exact⟨g,h1,h2,h3,rfl⟩
 ·cases h
theorem Ul{a b:Wc}(h:Ld a b=true):a=b:=by
 cases a<;>cases b<;>simp only[Ld]at h
 ·rfl
 ·cases h
 ·cases h
 ·rw[Uf h]
theorem abp{a b:QR}(h:Qd a b=true):a=b:=by
 cases a<;>cases b<;>simp only[Qd]at h
 ·rfl
 ·cases h
 ·cases h
 ·rw[bD h]
theorem abO{et:TypeId}{z:AV}(h:Qp P et=some z):∃x,(zeroValue et).run P w=.ok x w/\VR F z x:=by
 unfold Qp at h;split at h
 ·next i hi=>
  split at h
  ·next x hx=>
   obtain⟨h3,h4⟩:=Wu (w:=w) (F:=F) hi hx h;exact⟨x,h3,h4⟩
  ·cases h
 ·cases h
theorem arl:∀(cs:Q1)(n:Nat),cs.length=n->takeN (dH cs) 0 n=some (dH cs):=by
 intro cs n hn;have hl:(dH cs).length=n:=by rw[lS,hn]
 simp only[takeN,dD];rw[jZ (by omega),aj hl]
theorem jG(s:ByteArray):∀(l:List MapEntry)(i:Nat),(∀m∈l,∃t,m.key=.string t)->
 (∃j m,Instr.findNow .string (.string s) l i=some (some (j,m.val))/\m∈l/\m.key=.string s)\/(Instr.findNow .string (.string s) l i=some none/\∀m∈l,m.key≠.string s)
 |[],i,_=>.inr ⟨rfl,λm hm=>by simp at hm⟩
 |m::l,i,h=>by
  obtain⟨t,ht⟩:=h m (by simp);have hs:Instr.sameNow .string (.string s) m.key=some (s==t):=by rw[ht];rfl
  have hbb:(s==t)=decide (s=t):=by
   obtain⟨⟨a⟩⟩:=s;obtain⟨⟨b⟩⟩:=t;rw[Gu];by_cases c:a=b
   ·subst c;simp
   ·rw[G6 (by simpa using c)];simpa using c
  by_cases c:s=t
  ·subst c;rw[hbb,G7 rfl]at hs;exact .inl ⟨i,m,by simp[Instr.findNow,hs],by simp,ht⟩
  ·rw[hbb,G6 c]at hs;rcases jG s l (i+1) (λm hm=>h m (by simp[hm]))with⟨j,m',h1,h2,h3⟩|⟨h1,h2⟩
   ·exact .inl ⟨j,m',by simp[Instr.findNow,hs,h1],by simp[h2],h3⟩
   ·refine .inr ⟨by simp[Instr.findNow,hs,h1],λm' hm'=>?_⟩;simp only[bG]at hm';rcases hm' with rfl|hm'
    ·rw[ht];simpa using λe=>c e.symm
    ·exact h2 m' hm'
theorem aeT(s:ByteArray){l l':List MapEntry}(hp:l.Perm l')(hk:∀m∈l',∃t,m.key=.string t)(hn:(l'.map (·.key)).Nodup){r:Option (Nat×Value)}(h:Instr.findNow .string (.string s) l' 0=some r):
 ∃r',Instr.findNow .string (.string s) l 0=some r'/\(match r,r' with|none,none=>True|some (_,v),some (_,z)=>v=z|_,_=>False):=by
 have hk2:∀m∈l,∃t,m.key=.string t:=λm hm=>hk m (hp.mem_iff.1 hm);have inj:∀m∈l',∀m'∈l',m.key=m'.key->m=m':=by
  clear hp hk h hk2;induction l' with
  |nil=>intro m hm;simp at hm
  |cons a l ih=>
   simp only[iD,List.nodup_cons,qj,not_exists,not_and]at hn;intro m hm m' hm' e;simp only[bG]at hm hm';rcases hm with rfl|hm<;>rcases hm' with rfl|hm'
   ·rfl
   ·exact absurd e.symm (hn.1 m' hm')
   ·exact absurd e (hn.1 m hm)
   ·exact ih hn.2 m hm m' hm' e
 rcases jG s l' 0 hk with⟨j,m,h1,h2,h3⟩|⟨h1,h2⟩<;>rcases jG s l 0 hk2 with⟨j',m',h4,h5,h6⟩|⟨h4,h5⟩
 ·rw[h1]at h;cases h;refine⟨_,h4,?_⟩;have:=inj m h2 m' (hp.mem_iff.1 h5) (by rw[h3,h6]);subst this;rfl
 ·exact absurd h3 (h5 m (hp.mem_iff.2 h2))
 ·exact absurd h6 (h2 m' (hp.mem_iff.1 h5))
 ·rw[h1]at h;cases h;exact⟨_,h4,trivial⟩
theorem az6(h:SR P F J w){t:TypeId}{m k v:AV}{x y:Value}{ok:Bool}(hs:VO P t m k ok J=some v)(hx:VR F m x)(hy:VR F k y):
 ∃z,(Instr.lookup t x y ok).run P w=.ok z w/\VR F v z:=by
 unfold VO at hs;split at hs;rotate_left
 ·cases hs
 next kt et id hu=>
 simp only[VR]at hx;obtain⟨q,hq,rfl⟩:=hx;split at hs
 ·next n kk es hn hg=>
  obtain⟨nY,g,g1,g2,g3⟩:=Ui hn hy;obtain⟨q',hq',ms,clock,hb,hsz,hp⟩:=h.obj _ _ hg rfl;rw[hq]at hq';cases hq';have hmr:zO F es ms.toList:=⟨by simpa using hsz,λk e hk=>by obtain⟨m,hm,h1,h2⟩:=hp k e hk;exact⟨m,by simpa using hm,h1,h2⟩⟩
  rw[Uz hu y ok hb];have hck:∀b,(Instr.checkKey b 10000 kt y).run P w=.ok () w:=λb=>RU nY g2 g3 b;split at hs
  ·next j u hf=>
   cases hs;obtain⟨r',h1,h2⟩:=Ov g1 g2 g3 hf hmr;cases r' with
   |none=>exact h2.elim
   |some p=>
    obtain⟨j',z⟩:=p;have hfk:(Instr.findKey kt y ms.toList).run P w=.ok (some (j',z)) w:=by simp only[Instr.findKey,aS,aX nY,aQ,h1,bF]
    refine⟨if ok then .tuple #[z,.bool true]else z,?_,?_⟩
    ·simp only[rQ,aS,aQ,hck,hfk,bF]
    ·cases ok
     ·simpa using h2
     ·simp only[VR];exact⟨[z,.bool true],rfl,aC.cons h2 (aC.cons (by simp[VR]) (by simp[aC]))⟩
  ·next hf=>
   obtain⟨r',h1,h2⟩:=Ov g1 g2 g3 hf hmr;cases r' with
   |some p=>exact h2.elim
   |none=>
    have hfk:(Instr.findKey kt y ms.toList).run P w=.ok none w:=by simp only[Instr.findKey,aS,aX nY,aQ,h1,bF]
    obtain⟨a,ha,rfl⟩:=aZ.1 hs;obtain⟨z,h3,h4⟩:=abO (w:=w) (F:=F) ha;refine⟨if ok then .tuple #[z,.bool false]else z,?_,?_⟩
    ·simp only[rQ,aS,aQ,hck,hfk,h3,bF]
    ·cases ok
     ·simpa using h4
     ·simp only[VR];exact⟨[z,.bool false],rfl,aC.cons h4 (aC.cons (by simp[VR]) (by simp[aC]))⟩
  ·cases hs
 ·next n kk es hn hg=>
  obtain⟨nY,g,g1,g2,g3⟩:=Ui hn hy;obtain⟨q',hq',hnd,ms,clock,ms',hb,hpm,hsz,hp⟩:=h.obj _ _ hg rfl;rw[hq]at hq';cases hq';split at hs;rotate_left
  ·cases hs
  next hkk=>
  have:=Ul hkk;subst this;have hmr:zO F (es.map λe=>(AV.s e.1,e.2)) ms':=⟨by simpa using hsz,λk e hk=>by rw[iP]at hk;obtain⟨e0,h4,rfl⟩:=aZ.1 hk;obtain⟨m,hm,h1,h2⟩:=hp k e0 h4;exact⟨m,hm,by simp only[VR];exact h1,h2⟩⟩
  have hkeys:ms'.map (·.key)=es.map λe=>Value.string ⟨⟨e.1⟩⟩:=by
   apply JG;intro k;rw[iP,iP];cases he:es[k]? with
   |none=>
    have:ms'[k]? =none:=by rw[List.getElem?_eq_none_iff]at he⊢;omega
    rw[this];rfl
   |some e=>obtain⟨m,hm,h1,_⟩:=hp k e he;rw[hm];simp[h1]
  have hks:∀m∈ms',∃t,m.key=.string t:=λm hm=>by have:m.key∈ms'.map (·.key):=List.mem_map_of_mem hm;rw[hkeys]at this;obtain⟨e,_,h1⟩:=qj.1 this;exact⟨_,h1.symm⟩
  have afG:(ms'.map (·.key)).Nodup:=by
   rw[hkeys];have:(es.map λe=>Value.string ⟨⟨e.1⟩⟩)=(es.map (·.1)).map λs=>Value.string ⟨⟨s⟩⟩:=by simp
   rw[this];refine List.Pairwise.map _ (λa b hab hc=>hab ?_) hnd;simpa using hc
  obtain⟨s,hs1,hs2⟩:∃s,y=.string s/\True:=by obtain⟨s0,rfl⟩:=g2;simp only[GR]at g3;exact⟨_,g3,trivial⟩
  subst hs1;rw[Uz hu _ ok hb];have hck:∀b,(Instr.checkKey b 10000 kt (.string s)).run P w=.ok () w:=λb=>RU nY g2 g3 b;split at hs
  ·next j u hf=>
   cases hs;obtain⟨r',h1,h2⟩:=Ov g1 g2 g3 hf hmr;cases r' with
   |none=>exact h2.elim
   |some p=>
    obtain⟨j',z⟩:=p;obtain⟨r2,h3,h4⟩:=aeT s hpm hks afG h1;cases r2 with
    |none=>exact h4.elim
    |some p2=>
    obtain⟨j2,z2⟩:=p2;have h4:z=z2:=h4;subst h4;have hfk:(Instr.findKey kt (.string s) ms.toList).run P w=.ok (some (j2,z)) w:=by simp only[Instr.findKey,aS,aX nY,aQ,tX,h3,bF]
    refine⟨if ok then .tuple #[z,.bool true]else z,?_,?_⟩
    ·simp only[rQ,aS,aQ,hck,hfk,bF]
    ·cases ok
     ·simpa using h2
     ·simp only[VR];exact⟨[z,.bool true],rfl,aC.cons h2 (aC.cons (by simp[VR]) (by simp[aC]))⟩
  ·next hf=>
   obtain⟨r',h1,h2⟩:=Ov g1 g2 g3 hf hmr;cases r' with
   |some p=>exact h2.elim
   |none=>
    obtain⟨r2,h3,h4⟩:=aeT s hpm hks afG h1;cases r2 with
    |some p2=>exact h4.elim
    |none=>
    have hfk:(Instr.findKey kt (.string s) ms.toList).run P w=.ok none w:=by simp only[Instr.findKey,aS,aX nY,aQ,tX,h3,bF]
    obtain⟨a,ha,rfl⟩:=aZ.1 hs;obtain⟨z,h5,h6⟩:=abO (w:=w) (F:=F) ha;refine⟨if ok then .tuple #[z,.bool false]else z,?_,?_⟩
    ·simp only[rQ,aS,aQ,hck,hfk,h5,bF]
    ·cases ok
     ·simpa using h6
     ·simp only[VR];exact⟨[z,.bool false],rfl,aC.cons h6 (aC.cons (by simp[VR]) (by simp[aC]))⟩
  ·cases hs
 ·next n kk j Di sz hn hg=>
  obtain⟨nY,g,g1,g2,g3⟩:=Ui hn hy;obtain⟨q',hq',xs,ms,clock,hv,hb,hp⟩:=h.obj _ _ hg rfl;rw[hq]at hq';cases hq';rw[Uz hu y ok hb];have hck:∀b,(Instr.checkKey b 10000 kt y).run P w=.ok () w:=λb=>RU nY g2 g3 b;split at hs;rotate_left
  ·cases hs
  next hkk=>
  have:=Ul hkk;subst this;split at hs;rotate_left
  ·cases hs
  next zn sz' hz=>
  split at hs;rotate_left
  ·cases hs
  next hsz=>
  have:=abp hsz;subst this;obtain⟨za,hza,hzn⟩:=vJ.1 hz;obtain⟨zv,z1,z2⟩:=abO (w:=w) (F:=F) hza;obtain⟨zg,z3,z4,z5,z6⟩:=ajt hzn z2;split at hs;rotate_left
  ·cases hs
  next u hu'=>
  obtain⟨jn,hj,hpart⟩:=vJ.1 hu';obtain⟨rg,r1,r2⟩:=gB hj;simp only[Nd.den,z3,hv,g1,aW]at r2;have fin:∀(z:Value)(b:Bool),MZ sz rg->GR F.ro rg z->(iE g xs).isSome=b->rQ kt et y ok ms=rQ kt et y ok ms->(rQ kt et y ok ms).run P w=.ok (if ok then .tuple #[z,.bool b]else z) w->∃z,(rQ kt et y ok ms).run P w=.ok z w/\VR F v z:=by
   intro z b hok hgr hb' _ hrun;have hvu:VR F u z:=by
    obtain⟨r,q1,q2⟩:=abn (F:=F) r1 hpart;cases hag:nI P et with
    |none=>rw[hag]at z6;exact z6.elim
    |some ag=>
     rw[hag]at z6 q1;cases ag with
     |true=>obtain⟨kn,k1,k2⟩:=z6;subst k2;obtain⟨cs,rfl,c1,c2⟩:=hok;simp only[k1,GV.cells,arl cs kn c1,gI,aW]at q1;subst q1;apply q2;simp only[GR]at hgr;obtain⟨vs,rfl,hgs⟩:=hgr;simp only[VR];exact⟨vs,rfl,(ou _ _).1 hgs⟩
     |false=>
      simp only at z6;subst z6;have hsc:rg.scalar=true:=hok;have hc:rg.cells=[rg]:=by cases rg<;>first|rfl|(simp[GV.scalar]at hsc)
      simp only[hc,OB,jS,gI,aW]at q1;subst q1;exact q2 _ ((kR _ _).1 hgr)
   cases ok with
   |false=>simp only[iO,if_false,aW]at hs hrun;subst hs;exact⟨z,hrun,hvu⟩
   |true=>
    simp only[if_true]at hs hrun;split at hs
    ·next bb hbb=>
     cases hs;obtain⟨_,gb,_,b2,b3⟩:=mF (F:=F) hbb;simp only[Nd.den,hv,g1,aW]at b2;subst b2;refine⟨_,hrun,?_⟩;simp only[VR];exact⟨[z,.bool b],rfl,aC.cons hvu (aC.cons (b3 _ rfl (by simp only[GR];rw[hb'])) (by simp[aC]))⟩
    ·cases hs
  rcases SY (i:=0) g2 g3 hp with⟨q1,q2⟩|⟨u',j',z,q1,q2,_,_,q5,q6⟩
  ·have hfk:(Instr.findKey kt y ms.toList).run P w=.ok none w:=by simp only[Instr.findKey,aS,aX nY,aQ,q2,bF]
   rw[q1,uD]at r2;subst r2;refine fin zv false z4 z5 (by rw[q1];rfl) rfl ?_;simp only[rQ,aS,aQ,hck,hfk,z1,bF]
  ·have hfk:(Instr.findKey kt y ms.toList).run P w=.ok (some (j',z)) w:=by simp only[Instr.findKey,aS,aX nY,aQ,q2,bF]
   rw[q1,qN]at r2;subst r2;refine fin z true q5 q6 (by rw[q1];rfl) rfl ?_;simp only[rQ,aS,aQ,hck,hfk,bF]
 ·cases hs
theorem ayT{kk:Wc}{g a:GV}{y x:Value}(hk:zx kk g)(hy:GR F.ro g y)(hs:Instr.sameNow (tX kk) y x=some true)(n:Nat):Instr.sameBits (n+1) x y=true:=by
 cases kk with
 |some k=>
  obtain⟨m,rfl⟩:=hk;simp only[GR]at hy;subst hy;cases x<;>simp only[Instr.sameNow,tX,reduceCtorEq]at hs
  split at hs
  ·next e=>subst e;simp at hs;subst hs;simp[Instr.sameBits]
  ·cases hs
 |none=>
  obtain⟨m,rfl⟩:=hk;simp only[GR]at hy;subst hy;cases x<;>simp only[Instr.sameNow,tX,reduceCtorEq]at hs
  next s=>
  obtain⟨⟨l⟩⟩:=s;rw[Gu]at hs;simp only[Instr.sameBits,Gu];simp_all
theorem ai4(h:SR P F J w){t:TypeId}{m k v:AV}{x y z:Value}(hs:VQ P t m k v J=some J')(hx:VR F m x)(hy:VR F k y)(hz:VR F v z):
 ∃w',(Instr.mapUpdate t x y z).run P w=.ok () w'/\St P F J w F J' w':=by
 unfold VQ at hs;split at hs;rotate_left
 ·cases hs
 next kt et id hu=>
 simp only[VR]at hx;obtain⟨q,hq,rfl⟩:=hx;split at hs;rotate_left
 ·cases hs
 next hl=>
 have hl:=sO hl
 have main:∀(o:bn)(n:Nat)(kk:Wc)(u:Nat)(sz:QR)(j j':Nat)(xs:Q1)(ms:Array MapEntry)(clock:Nat),J.get id=some o->o.own=true->OZ P kt k=some (n,kk)->Qj P et v=some (u,sz)->
  aH.val j=some (.l xs)->w.heap[q.bl]? =some (.map ms clock)->rD F.ro kk sz xs ms.toList->fF (.AY j n u)=some j'->∃w',(Instr.mapUpdate t (.map (some q.bl)) y z).run P w=.ok () w'/\St P F J w F (J.put id (.smap j' kk sz)) w':=by
  intro o n kk u sz j j' xs ms clock hg ho hn hvn hj hb hp hf;obtain⟨nY,g,g1,g2,g3⟩:=Ui hn hy;obtain⟨ug,u1,u2,u3,_⟩:=ajt hvn hz;obtain⟨rg,r1,r2⟩:=gB hf;simp only[Nd.den,hj,g1,u1,aW]at r2;subst r2;have hck:=RU (w:=w) nY g2 g3 false;have hgo:(getObj q.bl).run P w=.ok (.map ms clock) w:=by simp[getObj,Sem.run,hb]
  rcases SY (i:=0) g2 g3 hp with⟨q1,q2⟩|⟨u',i,zz,q1,q2,_,⟨m',q3,q4⟩,q5,q6⟩
  ·have hfk:(Instr.findKey kt y ms.toList).run P w=.ok none w:=by simp only[Instr.findKey,aS,aX nY,aQ,q2,bF]
   refine⟨ng w q.bl (.map (ms.push {key:=y,val:=z,born:=clock}) (clock+1)),?_,St.write h hg ho hl hq DC (λk hk=>Dz hk) rfl rfl rfl ?_⟩
   ·simp only[Instr.mapUpdate,aS,aX hu,aQ,hgo,hck,hfk];exact MB hb (by simp)
   ·refine⟨_,_,clock+1,r1,Bj hb,?_⟩;rw[Array.toList_push];exact ahY g2 u2 g3 u3 hp q1
  ·have hfk:(Instr.findKey kt y ms.toList).run P w=.ok (some (i,zz)) w:=by simp only[Instr.findKey,aS,aX nY,aQ,q2,bF]
   rw[Gi,vC]at q3;have Y1:(Instr.keyThatStays (((ms[i]?).map (·.key)).getD y) y).run P w=.ok y w:=by rw[q3];simp only[gI,qN,Instr.keyThatStays];rw[aj (ayT (a:=g) g2 g3 q4 9999)];rfl
   refine⟨ng w q.bl (.map (ms.modify i λe=>{e with key:=y,val:=z}) clock),?_,St.write h hg ho hl hq DC (λk hk=>Dz hk) rfl rfl rfl ?_⟩
   ·simp only[Instr.mapUpdate,aS,aX hu,aQ,hgo,hck,hfk,Y1];exact MB hb (by simp)
   ·refine⟨_,_,clock,r1,Bj hb,?_⟩;rw[Array.toList_modify];have:=ahZ (i:=0) g2 u2 g3 u3 hp q2;rwa [Gi]at this
 split at hs
 ·next n kk u sz hn hvn hg=>
  split at hs
  ·next j hj=>
   obtain⟨j',hf,rfl⟩:=aZ.1 hs;obtain⟨q',hq',ms,clock,hb,hsz,hp⟩:=h.obj _ _ hg rfl;rw[hq]at hq';cases hq';obtain⟨gl,l1,l2⟩:=gB hj;simp only[Nd.den,valsOf,gI,aW]at l2;subst l2;refine main _ n kk u sz j j' [] ms clock hg rfl hn hvn l1 hb ?_ hf;simp only[rD];have:ms.size=0:=by simpa using hsz
   simpa using abQ this
  ·cases hs
 ·next n kk u sz j Di sz' hn hvn hg=>
  split at hs
  ·next hc=>
   rw[aK]at hc;have e1:=Ul hc.1;have e2:=abp hc.2;subst e1;subst e2;obtain⟨j',hf,rfl⟩:=aZ.1 hs;obtain⟨q',hq',xs,ms,clock,hv,hb,hp⟩:=h.obj _ _ hg rfl;rw[hq]at hq';cases hq';exact main _ n kk u sz j j' xs ms clock hg rfl hn hvn hv hb hp hf
  ·cases hs
 ·cases hs
theorem atl{v:AV}{x:Value}(h:mapArg v=true)(hx:VR F v x):∃k n,x=.int k n:=by
 unfold mapArg at h;split at h
 ·next n=>
  split at h
  ·next a hn=>
   obtain⟨g,h1,h2⟩:=aH.qE _ _ hn (by simp);simp only[VR]at hx;obtain⟨g',h3,_,h4⟩:=hx;rw[h1]at h3;cases h3;simp only[Nd.den]at h2;split at h2
   ·cases h2;simp only[GR]at h4;exact⟨_,_,h4⟩
   ·cases h2
  ·cases h
 ·next hne=>
  obtain⟨n,hn⟩:=ajZ.1 h;obtain⟨k,hk⟩:=yS hn hx;exact⟨k,n,hk⟩
theorem agk{e:TypeId}{size len m:Nat}{cs:Q3}{vs:Q6}(h:Uw P e size len cs=some m)(hv:aC F cs vs):0<size/\0<len/\cs.length=len*size/\∃gs,aH.val m=some (.l gs)/\gs.length=len/\aC F (bI gs) vs/\∀x∈gs,x.cells.length=size/\x.cells.all GV.scalar=true:=by
 unfold Uw at h;split at h;rotate_left
 ·cases h
 split at h;rotate_left
 ·cases h
 next agg ha=>
 split at h;rotate_left
 ·cases h
 next hc=>
 simp only[aK,nO,jd]at hc;obtain⟨⟨h1,h2⟩,h3⟩:=hc;have h3:=bD h3;have hpos:0<size:=by
  rcases h1 with⟨_,h1⟩|h1
  ·exact h1
  ·have:=bD h1;omega
 have h11:agg=false->size=1:=by
  intro e;rcases h1 with⟨h1,_⟩|h1
  ·rw[e]at h1;cases h1
  ·exact bD h1
 split at h
 ·next ns hns=>
  obtain⟨gs,k1,k2,k3,_,k5⟩:=EJ h11 len hns hv h3;obtain⟨g,g1,g2⟩:=gB h;simp only[Nd.den,k1,gI,aW]at g2;subst g2;exact⟨hpos,h2,h3,gs,g1,k2,k3,k5⟩
 ·cases h
theorem as8{R:Prop}{t e:TypeId}{size bytes len:Nat}{z:Q3}{ps:Wf}{qs:Array (Nat×Value)}{cs:Q3}
 (fin:∀(v:AV)(τ:aA),Ux P J e size len cs=(some v,τ)->(∃y w' F',(Instr.buildSlice t len qs).run P w=.ok y w'/\St P F J w F' τ w'/\VR F' v y)->R)
 (h:SR P F J w) (hi:vW P t=some (e,size,bytes,z)) (hlen:¬len*size>2^24) (hf:zU (λi=>some (i*size,size)) (if len*size=0 then[]else jk len z) ps=some cs) (hp:BN F ps qs.toList):R:=by
 unfold Ux at fin;split at fin;rotate_left
 ·exact fin _ _ rfl (akL h hi hlen hf hp)
 next m hm=>
 refine fin _ _ rfl ?_;obtain⟨hu,_,hz,he,hzl,hn⟩:=Ar hi;obtain⟨zv,oN,hzv⟩:=FK hz;have hpos:0<size/\0<len:=by
  unfold Uw at hm;split at hm;rotate_left
  ·cases hm
  split at hm;rotate_left
  ·cases hm
  next agg ha=>
  split at hm;rotate_left
  ·cases hm
  next hc=>
  simp only[aK,nO,jd]at hc;refine⟨?_,hc.1.2⟩;rcases hc.1.1 with⟨_,h1⟩|h1
  ·exact h1
  ·have:=bD h1;omega
 have h0:¬len*size=0:=by have:=Nw hpos.2 hpos.1;omega
 simp only[h0,if_false]at hf;obtain⟨xs,OL,hxs⟩:=KF hf hp (Qq (hzv F) hzl);have hl:=hxs.length;have hal:=Cm h (c:=cs) (xs:=xs) (elem:=e) (es:=size) (opn:=true) (by rw[hl,yO];exact hxs) (by simpa using JO hl) (by simp) (λ_=>⟨he,hpos.1,hn⟩);obtain⟨_,_,hcl,gs,g1,g2,_,g4⟩:=agk hm hxs;have hsz:xs.size=len*size:=by rw[<-hcl,hl];simp
 have hdiv:xs.size/size=len:=by rw[hsz];exact QE _ hpos.1
 obtain⟨q1,q2⟩:=St.xM (f:=false) (size:=size) (y:=.slice (some ⟨w.heap.size,0,none⟩) len len) hal g1 g4 hn (λvs hvs=>by
  obtain⟨_,_,_,gs',k1,_,k3,_⟩:=agk hm hvs;rw[g1]at k1;cases k1;exact k3) (by
  simp only[VR];refine⟨⟨w.heap.size,0,xs.size,size⟩,by simp[Env.put],?_,?_⟩
  ·simp only[uD,Gi];rw[hdiv,g2];simp
  ·simp only[uD,Gi,hdiv,g2,nC]) (by simp)
 refine⟨_,_,_,?_,q1,q2⟩;simp only[Instr.buildSlice,aS,aX hu,aQ,iY hn,uG,ah hlen,h0,if_false,oN,bF,OL,newRow,newObj,Sem.run]
structure TR(P:Program)(F:Env)(a:bg)(A:Act):Prop where
 gn:a.gn=P.globals.size
 size:A.tmps.size=a.n
 none:A.defers=[]
 slot:∀t v,a.t.get t=some v->∃x,A.tmps[t]? =some x/\VR F v x
theorem TR.mono{F F':Env}{a:bg}{A:Act}(h:TR P F a A)(hle:F.le F'):TR P F' a A:=
 ⟨h.gn,h.size,h.none,λt v hv=>by obtain⟨x,hx,hr⟩:=h.slot t v hv;exact⟨x,hx,VR.mono hle _ _ hr⟩⟩
theorem TR.put{a a':bg}{A:Act}{dst:Option Tmp}{r:Q4}{x:Value}(h:TR P F a A)(hp:a.put dst r=some a')(hr:∀v,r=some v->VR F v x):TR P F a' (A.put dst x):=by
 unfold bg.put at hp;split at hp
 ·cases hp;exact h
 ·next d=>
  split at hp
  ·next hd=>
   cases hp;refine⟨h.gn,by simp[Act.put,h.size],h.none,λt v hv=>?_⟩;rw[Tr.vY]at hv;show ∃y,(A.tmps.setIfInBounds d x)[t]? =some y/\_
   rw[BI];split at hv
   ·next e=>
    subst e;rw[aj rfl,aj (by rw[h.size];exact hd)];exact⟨x,rfl,hr v hv⟩
   ·next e=>rw[ah (λe'=>e e'.symm)];exact h.slot t v hv
  ·cases hp
theorem Ot{a:bg}{A:Act}(h:SR P F J w)(ht:TR P F a A)(x:Operand)(v:AV)(hv:a.eval x=some v):VR F v (A.eval x):=by
 cases x with
 |tmp t=>obtain⟨y,hy,hr⟩:=ht.slot t v hv;simp only[Act.eval];rw[yI,hy];exact hr
 |const c=>exact Dq _ _ _ hv
 |global g=>
  simp only[bg.eval]at hv;split at hv
  ·next hg=>
   cases hv;rw[ht.gn]at hg;obtain⟨sz,es,h1⟩:=h.mg g (Nat.le_of_lt hg);simp only[VR,Act.eval];exact⟨_,h1,by simp⟩
  ·cases hv
 |func f=>simp only[bg.eval,aW]at hv;subst hv;simp only[VR,Act.eval];exact⟨[],[],rfl,by simp[aC],by simp[aC]⟩
def Ny(P:Program)(F:Env)(J:aA)(w:World)(r:Q4)(J':aA)(s:Sem Next):Prop:=
 ∃nx w' F',s.run P w=.ok nx w'/\St P F J w F' J' w'/\(match r with|some v=>∃x,nx=.value x/\VR F' v x|none=>nx=.skip)
theorem eG{r:AV}{s:Sem Value}(h:∃y w' F',s.run P w=.ok y w'/\St P F J w F' J' w'/\VR F' r y):Ny P F J w (some r) J' (do pure (.value (<-s))):=by obtain⟨y,w',F',h1,h2,h3⟩:=h;exact⟨.value y,w',F',by simp only[aS,h1,aQ,bF],h2,y,rfl,h3⟩
theorem Lu{s:Sem Unit}(h:∃w' F',s.run P w=.ok () w'/\St P F J w F' J' w'):Ny P F J w none J' (do s;pure .skip):=by obtain⟨w',F',h1,h2⟩:=h;exact⟨.skip,w',F',by simp only[aS,h1,aQ,bF],h2,rfl⟩
theorem iR{r:AV}{s:Sem Value}(h:SR P F J w)(hs:∃y,s.run P w=.ok y w/\VR F r y):∃y w' F',s.run P w=.ok y w'/\St P F J w F' J w'/\VR F' r y:=by obtain⟨y,h1,h2⟩:=hs;exact⟨y,w,F,h1,St.refl h,h2⟩
theorem jA{v:Q4}{r:Q4}(h:dR J v=some (r,J')):∃u,v=some u/\r=some u/\J'=J:=by simp only[dR,aZ,nR]at h;obtain⟨u,h1,h2,h3⟩:=h;exact⟨u,h1,h2.symm,h3.symm⟩
theorem Dw{v:Wb}{r:Q4}(h:rZ v=some (r,J')):∃u,v=some (u,J')/\r=some u:=by simp only[rZ,aZ,JV,nR]at h;obtain⟨u,s,h1,h2,h3⟩:=h;subst h3;exact⟨u,h1,h2.symm⟩
theorem aaT{v:Option aA}{r:Q4}(h:Mc v=some (r,J')):v=some J'/\r=none:=by simp only[Mc,aZ,nR]at h;obtain⟨s,h1,h2,h3⟩:=h;subst h3;exact⟨h1,h2.symm⟩
theorem aky{c:Value}{t:Bool}(h:VR F (.b t) c):(asBool c).run P w=.ok t w:=by simp only[VR]at h;subst h;rfl
theorem alj(h:SR P F J w){ts:Wm}{ty t:TypeId}{x v:AV}{u:Value}(ht:ts[0]? =some t)(hs:Xc P t x J=some (v,J'))(hu:VR F x u):
 ∃y w' F',(Builtin.clear_ ts ty #[u]).run P w=.ok y w'/\St P F J w F' J' w'/\VR F' v y:=by
 have hun:∀F':Env,VR F' (.dP []) (.tuple #[]):=λF'=>by simp only[VR];exact⟨[],rfl,by simp[aC]⟩
 unfold Xc at hs;split at hs
 ·next e hut=>
  cases hs;simp only[VR]at hu;subst hu;exact⟨_,w,F,by simp only[Builtin.clear_,ht,Ec,jS,aS,aX hut,aQ,bF],St.refl h,hun _⟩
 ·next e hut=>
  cases hs;simp only[VR]at hu;rcases hu with⟨_,pa,rfl⟩|⟨bl,off,c,xs,sz,rfl,_⟩
  ·exact⟨_,w,F,by cases pa<;>simp only[Builtin.clear_,ht,Ec,jS,aS,aX hut,aQ,bF],St.refl h,hun _⟩
  ·exact⟨_,w,F,by simp only[Builtin.clear_,ht,Ec,jS,aS,aX hut,aQ,bF,kT],St.refl h,hun _⟩
 ·next e id off n cap hut=>
  simp only[VR]at hu;obtain⟨q,hq,_,rfl⟩:=hu;split at hs
  ·next h0=>
   cases hs;subst h0;exact⟨_,w,F,by simp only[Builtin.clear_,ht,Ec,jS,aS,aX hut,aQ,bF],St.refl h,hun _⟩
  ·next h0=>
   split at hs
   ·next z c et opn hz hg=>
    split at hs
    ·next hc=>
     simp only[aZ]at hs;obtain⟨c',hr,e1⟩:=hs;cases e1;obtain⟨zv,oN,hzv⟩:=FK hz;have hzs:=Qq (n:=n) (size:=z.length) (hzv F) rfl;have hlen:=(hzv F).length;have hone:(jk n z).all AV.nH=true:=by rw[List.all_eq_true];intro a ha;unfold jk at ha;simp only[List.mem_flatten,acr]at ha;obtain⟨l,⟨_,rfl⟩,ha⟩:=ha;exact List.all_eq_true.1 hc.2 a ha
     obtain⟨w',hrun,hst⟩:=Wq h hg hc.1 hq hr hzs hone;refine⟨_,w',F,?_,hst,hun _⟩;have hzc:(Builtin.zeroCells zv.cells n)=(Array.range (n*z.length)).map (zv.cells[· % zv.cells.size]!):=by unfold Builtin.zeroCells;rw[hlen];simp
     obtain⟨m,rfl⟩:∃m,n=m+1:=⟨n-1,by omega⟩
     simp only[Builtin.clear_,ht,Ec,jS,aS,aX hut,aQ,oN];rw[hzc,hrun];rfl
    ·cases hs
   ·cases hs
 ·next k e hut=>
  cases hs;simp only[VR]at hu;subst hu;exact⟨_,w,F,by simp only[Builtin.clear_,ht,Ec,jS,aS,aX hut,aQ,bF],St.refl h,hun _⟩
 ·next k e id hut=>
  split at hs
  ·next es hg=>
   split at hs
   ·next hl=>
    cases hs;simp only[VR]at hu;obtain⟨q,hq,rfl⟩:=hu;obtain⟨q',hq',ms,clock,hb,hsz,_⟩:=h.obj _ _ hg rfl;rw[hq]at hq';cases hq';refine⟨.tuple #[],ng w q.bl (.map #[] clock),F,?_,St.write h hg rfl hl hq DC (λk hk=>Dz hk) rfl rfl rfl ⟨#[],clock,Bj hb,rfl,by simp⟩,hun _⟩;simp only[Builtin.clear_,ht,Ec,jS,aS,aX hut,aQ,getObj,Sem.run,hb,MB hb (λ_ _ _=>by simp),bF]
   ·cases hs
  ·cases hs
 ·cases hs
theorem akN(h:SR P F J w){b:Builtin}{ts:Wm}{ty:TypeId}{cs:Array Bool}{args:Q3}{vs:Q6}{r:Q4}(hs:Gm P b ts args J=some (r,J'))(hv:aC F args vs):
 Ny P F J w r J' (builtin b ts ty cs ⟨vs⟩):=by
 unfold Gm at hs;split at hs
 ·next x=>
  simp only[aC]at hv;obtain⟨u,_,rfl,hu,rfl⟩:=hv;split at hs
  ·next t ht=>
   obtain⟨v,h1,rfl,rfl⟩:=jA hs;exact eG (iR h (agj h ht h1 hu))
  ·cases hs
 ·next s x=>
  simp only[aC]at hv;obtain⟨u,_,rfl,hu,u',_,rfl,hu',rfl⟩:=hv;obtain⟨v,h1,rfl⟩:=Dw hs;exact eG (akt h h1 hu hu')
 ·next s x=>
  simp only[aC]at hv;obtain⟨u,_,rfl,hu,u',_,rfl,hu',rfl⟩:=hv;obtain⟨v,h1,rfl⟩:=Dw hs;exact eG (alX h h1 hu hu')
 ·next x=>
  simp only[aC]at hv;obtain⟨u,_,rfl,hu,rfl⟩:=hv;split at hs
  ·next t ht=>
   obtain⟨v,h1,rfl⟩:=Dw hs;exact eG (alj h ht h1 hu)
  ·cases hs
 ·next x=>
  simp only[aC]at hv;obtain⟨u,_,rfl,hu,rfl⟩:=hv;split at hs
  ·next t ht=>
   split at hs
   ·next e hun=>
    obtain⟨v,h1,rfl,rfl⟩:=jA hs;cases h1;simp only[VR]at hu;subst hu;exact eG (iR h ⟨.int .i64 0,by simp[Builtin.cap_,ht,aX hun,goInt],by simp[VR]⟩)
   ·next e id off n c hun=>
    obtain⟨v,h1,rfl,rfl⟩:=jA hs;cases h1;simp only[VR]at hu;obtain⟨q,hq,_,rfl⟩:=hu;exact eG (iR h ⟨.int .i64 c,by simp[Builtin.cap_,ht,aX hun,goInt],by simp[VR]⟩)
   ·cases hs
  ·cases hs
 ·simp only[aC]at hv;obtain⟨u,_,rfl,hu,rfl⟩:=hv;obtain⟨v,h1,rfl,rfl⟩:=jA hs;cases h1;simp only[VR]at hu;subst hu;exact eG (iR h ⟨_,aiK,by simp only[VR]⟩)
 ·next id off n cap=>
  split at hs
  ·cases hs
  ·next hc=>
   simp only[aC]at hv;obtain⟨u,_,rfl,hu,rfl⟩:=hv;obtain⟨v,h1,rfl,rfl⟩:=jA hs;cases h1;simp only[VR]at hu;obtain⟨q,hq,hle,rfl⟩:=hu;refine eG (iR h ⟨_,aiL ?_,by simp only[VR];exact⟨q,hq,rfl⟩⟩);intro e;rw[e]at hle;have hn:n=0:=by omega
   subst hn;cases cap with
   |none=>exact hc ⟨rfl,.inl rfl⟩
   |some c=>simp only[qN]at e;subst e;exact hc ⟨rfl,.inr rfl⟩
 ·next x n=>
  simp only[aC]at hv;obtain⟨u,_,rfl,hu,u',_,rfl,hu',rfl⟩:=hv;simp only[VR]at hu';subst hu';split at hs
  ·next t it hts=>
   have:=Rj hts;subst this;split at hs
   ·next h0=>
    subst h0;split at hs
    ·obtain⟨v,h1,rfl,rfl⟩:=jA hs;cases h1;simp only[VR]at hu;subst hu;exact eG (iR h ⟨_,abA,by simp only[VR]⟩)
    ·obtain⟨v,h1,rfl,rfl⟩:=jA hs;cases h1;simp only[VR]at hu;obtain⟨q,hq,rfl⟩:=hu;exact eG (iR h ⟨_,abA,by simp only[VR]⟩)
    ·cases hs
   ·split at hs
    ·next id off=>
     split at hs
     ·next e c et opn hut hg=>
      split at hs
      ·next hc=>
       obtain⟨rfl,c1,c2,c3,c4,c5⟩:=hc;split at hs
       ·next r' hr=>
        split at hs
        ·next b hb=>
         cases hs;simp only[VR]at hu;obtain⟨q,hq,rfl⟩:=hu;obtain⟨y,w',h1,h2,h3⟩:=ajq (it:=it) (ty:=ty) h hut hg c1 c2 c3 c4 c5 hr hb hq;exact eG ⟨y,w',F,h1,h2,h3⟩
        ·cases hs
       ·cases hs
      ·cases hs
     ·cases hs
    ·cases hs
  ·cases hs
 ·next x y=>
  simp only[aC]at hv;obtain⟨u,_,rfl,hu,u',_,rfl,hu',rfl⟩:=hv;split at hs
  ·next a a' h1 h2=>
   obtain⟨v,h3,rfl,rfl⟩:=jA hs;simp only[vJ]at h3;obtain⟨z,hz,wo⟩:=h3;rw[Bh h1 hu,Bh h2 hu'];exact eG (iR h ⟨z,Bf hz w,Dq _ _ _ wo⟩)
  ·cases hs
 ·next x y=>
  simp only[aC]at hv;obtain⟨u,_,rfl,hu,u',_,rfl,hu',rfl⟩:=hv;split at hs
  ·next a a' h1 h2=>
   obtain⟨v,h3,rfl,rfl⟩:=jA hs;simp only[vJ]at h3;obtain⟨z,hz,wo⟩:=h3;rw[Bh h1 hu,Bh h2 hu'];exact eG (iR h ⟨z,Bf hz w,Dq _ _ _ wo⟩)
  ·cases hs
 ·next x y z=>
  simp only[aC]at hv;obtain⟨u,_,rfl,hu,u',_,rfl,hu',u'',_,rfl,ar4,rfl⟩:=hv;split at hs
  ·next a a' a'' h1 h2 h4=>
   obtain⟨v,h3,rfl,rfl⟩:=jA hs;simp only[vJ]at h3;obtain⟨z,hz,wo⟩:=h3;rw[Bh h1 hu,Bh h2 hu',Bh h4 ar4];exact eG (iR h ⟨z,Bf hz w,Dq _ _ _ wo⟩)
  ·cases hs
 ·cases hs
theorem aAF{pt it ty:TypeId}(p:Wz):(Builtin.unsafeString_ #[pt,it] ty #[.pointer p,.int .i64 0]).run P w=.ok (.string ⟨⟨[]⟩⟩) w:=abA
theorem azZ(h:SR P F J w){b:Builtin}{ts:Wm}{ty:TypeId}{cs:Array Bool}{args:Q3}{vs:Q6}{r:Q4}(hs:Jh P b ts args J=some (r,J'))(hv:aC F args vs):
 Ny P F J w r J' (builtin b ts ty cs ⟨vs⟩):=by
 unfold Jh at hs;have mm:∀(big:Bool){x y:AV}{m n:Nat}{v:AV}{u u':Value},iQ x=some m->iQ y=some n->jV (.mm big m n)=some v->VR F x u->VR F y u'->∃k a b',u=.int k a/\u'=.int k b'/\VR F v (.int k (if big then(if a<b' then b' else a)else(if b'<a then b' else a))):=by
  intro big x y m n v u u' hm hn hmk hu hu';obtain⟨g1,a1,a2,a3⟩:=lF hm hu;obtain⟨g2,b1,b2,b3⟩:=lF hn hu';obtain⟨_,g,_,c2,c3⟩:=mF (F:=F) hmk;simp only[Nd.den,a1,b1]at c2;split at c2
  ·next k i k' j e1 e2=>
   cases e1;cases e2;split at c2
   ·next hk=>
    subst hk;cases c2;simp only[GR]at a3 b3;exact⟨k,i,j,a3,b3,c3 _ rfl (by simp only[GR])⟩
   ·cases c2
  ·cases c2
 split at hs
 ·next x=>
  simp only[aC]at hv;obtain⟨u,_,rfl,hu,rfl⟩:=hv;split at hs
  ·next t ht=>
   obtain⟨v,h1,e⟩:=aZ.1 hs;cases e;exact eG (iR h (az4 ht h1 hu))
  ·cases hs
 ·next s x=>
  simp only[aC]at hv;obtain⟨u,_,rfl,hu,u',_,rfl,hu',rfl⟩:=hv;obtain⟨v,h1,e⟩:=aZ.1 hs;cases e;exact eG (azX h h1 hu hu')
 ·next x y=>
  simp only[aC]at hv;obtain⟨u,_,rfl,hu,u',_,rfl,hu',rfl⟩:=hv;split at hs
  ·next m n hm hn=>
   obtain⟨v,h1,e⟩:=aZ.1 hs;cases e;obtain⟨k,a,b',rfl,rfl,h2⟩:=mm false hm hn h1 hu hu';refine eG (iR h ⟨_,?_,h2⟩);simp[Builtin.min_,Builtin.min2]
  ·cases hs
 ·next x y=>
  simp only[aC]at hv;obtain⟨u,_,rfl,hu,u',_,rfl,hu',rfl⟩:=hv;split at hs
  ·next m n hm hn=>
   obtain⟨v,h1,e⟩:=aZ.1 hs;cases e;obtain⟨k,a,b',rfl,rfl,h2⟩:=mm true hm hn h1 hu hu';refine eG (iR h ⟨_,?_,h2⟩);simp[Builtin.max_,Builtin.max2]
  ·cases hs
 ·next id n=>
  split at hs
  ·next m et hg=>
   split at hs
   ·next hsl=>
    cases hs;simp only[aC]at hv;obtain⟨u,_,rfl,hu,rfl⟩:=hv;simp only[VR]at hu;obtain⟨xs,k1,hu⟩:=hu;rcases hu with⟨q,hq,hle,rfl⟩|⟨hgh,rfl,rfl⟩
    ·have hor:=h.at hg hq;have hpos:=hor.Wi;obtain⟨_,_,_,_,hes,_⟩:=hor.Lr;have hcap:q.sz/q.es≠0:=by have:=Nat.div_pos hpos hes;omega
     exact eG (iR h ⟨_,aiL hcap,by simp only[VR];exact⟨xs,_,k1,rfl,λ_=>⟨q,hq,rfl⟩⟩⟩)
    ·exact eG (iR h ⟨_,aiK,by simp only[VR];exact⟨[],_,k1,rfl,λhn=>absurd rfl hn⟩⟩)
   ·cases hs
  ·cases hs
 ·next id n k=>
  split at hs
  ·next t it hts=>
   have:=Rj hts;subst this;split at hs
   ·next e m et f hut hg=>
    split at hs
    ·next hc=>
     obtain⟨rfl,c1,c2,c3⟩:=hc;split at hs
     ·next n' hk=>
      split at hs
      ·next hsl=>
       rw[aK]at hsl;obtain⟨v,hm,e⟩:=aZ.1 hs;cases e;simp only[aC]at hv;obtain⟨u,_,rfl,hu,u',_,rfl,hu',rfl⟩:=hv;simp only[VR]at hu hu';obtain⟨ys,p,k1,rfl,hp⟩:=hu;obtain⟨gk,j1,_,j3⟩:=hu';obtain⟨gk',j4,j5⟩:=aH.qE k _ hk (by simp);rw[j1]at j4;cases j4;obtain⟨nn,gs,b1,b2,b3⟩:=mF (F:=F) hm;simp only[Nd.den]at b2;split at b2
       ·next xs hv=>
        split at b2
        ·next h48=>
         obtain⟨b,hb,rfl⟩:=aZ.1 b2;simp only[Nd.den]at j5;split at j5
         ·next zs hz=>
          cases j5;have hl1:=yB 100 hsl.1 hv k1;have hl2:=yB 100 hsl.2 hv hz;simp only[GR]at j3;subst j3;have fin:∀{F':Env}(y:Value),VR F' (.s b) y->VR F' v y:=by intro F' y hy;obtain⟨_,g2,_,d2,d3⟩:=mF (F:=F') hm;simp only[Nd.den,hv,aj h48,hb,gI,aW]at d2;subst d2;exact d3 y rfl ((kR _ _).2 hy)
          by_cases hx0:xs=[]
          ·subst hx0;have hz0:zs.length=0:=hl2.symm;have hb0:b=[]:=by simpa[mY]using hb.symm
           subst hb0;rw[hz0];refine eG ⟨.string ⟨⟨[]⟩⟩,w,F,aAF p,(St.refl h).Uk id,fin _ (by simp only[VR])⟩
          ·have hy0:ys≠[]:=by intro e;rw[e]at hl1;exact hx0 (jw hl1)
           obtain⟨q,hq,rfl⟩:=hp hy0;obtain⟨xs',i1,i2,i3,i4,i5,i6,i7,hS⟩:=MX h hg hq;rw[hv]at i1;cases i1;have hcg:bI xs=dH xs:=by unfold bI;rw[Rq hb]
           have hpos:0<xs.length:=JI.2 hx0;have htk:takeN (bI xs) 0 ((xs.length:Nat):Int).toNat=some (dH xs):=by rw[hcg];unfold takeN;rw[dD,jZ (by rw[lS];simp),aj (by rw[lS];simp)]
           have hfit:xs.length<2^62:=by omega
           obtain⟨y,w',r1,r2,r3⟩:=ajq (it:=it) (ty:=ty) (off:=0) (n:=xs.length) hS hut D6 c1 c2 (by omega) (by omega) c3 htk (N7 hb) hq;rw[<-hl2];refine eG ⟨y,w',F,by simpa using r1,?_,fin _ r3⟩;refine((Qh hg r2).Uk id).sub (λk o hk=>?_) (bV _) rfl;rw[aA.yh]at hk⊢;split at hk
           ·cases hk
           ·next e1=>
            rw[ah e1];unfold kE;rw[aA.get_put,ah e1,aA.get_put,ah e1];exact hk
         ·cases j5
        ·cases b2
       ·cases b2
      ·cases hs
     ·cases hs
    ·cases hs
   ·cases hs
  ·cases hs
 ·cases hs
def kQ(P:Program)(f:FuncId)(args:QQ)(w:World)(R:Value->World->Prop):Prop:=
 (∃v w',(callFunc f args).run P w=.ok (.value v) w'/\R v w')\/
 ((callFunc f args).run P w=.ok (.enter f args) w/\Calls P f args w λe w'=>∃v,e=.returned v/\R v w')
def qH(P:Program)(call:Caller):Prop:=∀f args J r J',call f args J=some (r,J')->∀F w vs,SR P F J w->aC F args vs->
 kQ P f ⟨vs⟩ w λv w'=>∃F',St P F J w F' J' w'/\VR F' r v
def EW:Op->Bool
 |.call {callee:=.value _,..}=>true
 |.call {callee:=.invoke _ _,..}=>true
 |_=>false
theorem atg{f:FuncId}{first caps:Q3}{us vs:Q6}(h1:aC F first us)(h2:aC F caps vs):∃y,(Instr.makeFunc (.func f) ⟨us⟩ ⟨vs⟩).run P w=.ok y w/\VR F (.fn f first caps) y:=
 ⟨_,rfl,by simp only[VR];exact⟨us,vs,rfl,h1,h2⟩⟩
theorem LC{ev:QP}{U:Operand->Value}(hU:∀x a,ev x=some a->VR F a (U x)){o:Option Operand}{r:Q4}(h:IV ev o=some r):kU F r (o.map U):=by
 cases o with
 |none=>simp[IV]at h;subst h;trivial
 |some x=>simp only[IV,aZ]at h;obtain⟨a,ha,rfl⟩:=h;exact hU _ _ ha
theorem Ii{α β:Type}(a:Array α)(f:α->β):a.map f=⟨a.toList.map f⟩:=by apply Nj;simp
set_option maxHeartbeats 1000000 in
theorem ahc(h:SR P F J w){call:Caller}{o:Oper}{ev:QP}{U:Operand->Value}(hU:∀x a,ev x=some a->VR F a (U x))(hc:EW o.op=false){r:Q4}
 (hs:uI P call o ev J=some (r,J')):Ny P F J w r J' (execOp U o):=by
 unfold uI at hs;unfold execOp;split at hs
 ·next x he=>rw[he];obtain⟨v,h1,rfl,rfl⟩:=jA hs;exact⟨_,w,F,rfl,St.refl h,_,rfl,hU _ _ h1⟩
 ·next x he=>rw[he];obtain⟨v,h1,rfl,rfl⟩:=jA hs;exact⟨_,w,F,rfl,St.refl h,_,rfl,hU _ _ h1⟩
 ·next c a b he=>
  rw[he];split at hs
  ·next t hcv=>
   obtain⟨vd,hvd,hcv⟩:=G5 hcv;obtain⟨v,h1,rfl,rfl⟩:=jA hs;refine⟨.value (if t then U a else U b),w,F,?_,St.refl h,_,rfl,?_⟩
   ·simp only[aS,aky (hcv _ _ (hU _ _ hvd)),aQ,bF]
   ·cases t
    ·exact hU _ _ h1
    ·exact hU _ _ h1
  ·cases hs
 ·next t he=>
  rw[he];simp only[aZ]at hs;obtain⟨z,hz,e⟩:=hs;cases e;exact eG (akn h hz)
 ·next t x he=>
  rw[he];simp only[aZ]at hs;obtain⟨z,hz,e⟩:=hs;cases e;exact eG (ada h (hU _ _ hz))
 ·next t parts he=>
  rw[he];split at hs
  ·next ps hps=>
   obtain⟨v,h1,rfl,rfl⟩:=jA hs;exact eG (iR h (akM h1 (by rw[Ii];exact Yh hU hps)))
  ·cases hs
 ·next t len parts he=>
  rw[he];split at hs
  ·next e size bytes z ps hi hps=>
   split at hs
   ·cases hs
   ·next hlen=>
    split at hs
    ·next cs hf=>
     have e1:=Gj hs;refine as8 (t:=t) (qs:=parts.map λ(i,x)=>(i,U x)) (λv τ e2 hr=>?_) h hi hlen hf (by rw[Ii];exact Yh hU hps);rw[e2]at e1;cases e1;exact eG hr
    ·cases hs
  ·cases hs
 ·next t a he=>
  rw[he];split at hs
  ·next av hav=>
   obtain⟨v,h1,rfl,rfl⟩:=jA hs;rcases uX h1 with h1|h1
   ·exact eG (iR h (E5 h h1 (hU _ _ hav)))
   ·exact eG (iR h (az5 h h1 (hU _ _ hav)))
  ·cases hs
 ·next t a x he=>
  rw[he];split at hs
  ·next av xv hav hxv=>
   obtain⟨h1,rfl⟩:=aaT hs;rcases uX h1 with h1|h1
   ·obtain⟨w',h2,h3⟩:=VE h h1 (hU _ _ hav) (hU _ _ hxv);exact Lu ⟨w',F,h2,h3⟩
   ·obtain⟨w',h2,h3⟩:=az9 h h1 (hU _ _ hav) (hU _ _ hxv);exact Lu ⟨w',F,h2,h3⟩
  ·cases hs
 ·next x he=>
  rw[he];split at hs
  ·next id off hxv=>
   obtain⟨v,h1,rfl,rfl⟩:=jA hs;cases h1;have hv:=hU _ _ hxv;simp only[VR]at hv;obtain⟨q,hq,hv⟩:=hv;exact⟨.value (U x),w,F,by simp only[hv];rfl,St.refl h,_,rfl,hU _ _ hxv⟩
  ·next b off hxv=>
   obtain⟨v,h1,rfl,rfl⟩:=jA hs;cases h1;have hv:=hU _ _ hxv;simp only[VR]at hv;obtain⟨bl,base,cs,elem,fr,y,_,_,hv,_⟩:=hv;exact⟨.value (U x),w,F,by simp only[hv];rfl,St.refl h,_,rfl,hU _ _ hxv⟩
  ·next m off hxv=>
   obtain⟨v,h1,rfl,rfl⟩:=jA hs;cases h1;have hv:=hU _ _ hxv;simp only[VR]at hv;obtain⟨g,bl,base,cs,elem,fr,y,_,_,_,hv,_⟩:=hv;exact⟨.value (U x),w,F,by simp only[hv];rfl,St.refl h,_,rfl,hU _ _ hxv⟩
  ·next id m off hxv=>
   obtain⟨v,h1,rfl,rfl⟩:=jA hs;cases h1;have hv:=hU _ _ hxv;simp only[VR]at hv;obtain⟨q,kk,i,_,_,hv⟩:=hv;exact⟨.value (U x),w,F,by simp only[hv];rfl,St.refl h,_,rfl,hU _ _ hxv⟩
  ·next f fs cs hxv=>
   obtain⟨v,h1,rfl,rfl⟩:=jA hs;cases h1;have hv:=hU _ _ hxv;simp only[VR]at hv;obtain⟨us,vs,hv,_⟩:=hv;exact⟨.value (U x),w,F,by simp only[hv];rfl,St.refl h,_,rfl,hU _ _ hxv⟩
  ·cases hs
 ·next op t x y _ he=>
  rw[he];split at hs
  ·next a b ha hb=>
   obtain⟨v,h1,rfl,rfl⟩:=jA hs;rcases uX h1 with h1|h1
   ·exact eG (iR h (akI h h1 (hU _ _ ha) (hU _ _ hb)))
   ·exact eG (iR h (azY h1 (hU _ _ ha) (hU _ _ hb)))
  ·cases hs
 ·next op t x he=>
  rw[he];split at hs
  ·next a ha=>
   split at hs
   ·next u hu=>
    obtain⟨v,h1,rfl,rfl⟩:=jA hs;simp only[vJ]at h1;obtain⟨z,hz,wo⟩:=h1;have hrun:(Op.unary op (U x)).run P w=.ok z w:=by rw[Bh hu (hU _ _ ha)];exact Bf hz w
    exact eG (iR h ⟨z,hrun,Dq _ _ _ wo⟩)
   ·obtain⟨v,h1,rfl,rfl⟩:=jA hs;exact eG (iR h (aAa h1 (hU _ _ ha)))
  ·cases hs
 ·next src dst x he=>
  rw[he];split at hs
  ·next a ha=>
   obtain⟨v,h1,rfl⟩:=Dw hs;rcases uX h1 with h1|h1
   ·exact eG (Og h h1 (hU _ _ ha))
   ·exact eG (az0 h h1 (hU _ _ ha))
  ·cases hs
 ·next t x he=>
  rw[he];split at hs
  ·next a ha hi=>
   obtain⟨v,h1,rfl,rfl⟩:=jA hs;cases h1;exact eG (iR h (ath hi (hU _ _ ha)))
  ·cases hs
 ·next f first caps he=>
  rw[he];split at hs
  ·next fs cs hfs hcs=>
   obtain⟨v,h1,rfl,rfl⟩:=jA hs;cases h1;simp only[Ii];exact eG (iR h (atg (KC hU hfs) (KC hU hcs)))
  ·cases hs
 ·next t r' he=>
  rw[he];split at hs
  ·cases hs;exact eG (agF h (.inl rfl))
  ·next x=>
   split at hs
   ·next a kt et ha hu=>
    split at hs
    ·next hm=>
     cases hs;obtain⟨k,n,hk⟩:=atl hm (hU _ _ ha);exact eG (agF h (.inr ⟨k,n,kt,et,by simp[hk],hu⟩))
    ·cases hs
   ·cases hs
 ·next t l c he=>
  rw[he];split at hs
  ·next a b ha hb=>
   obtain⟨v,h1,rfl⟩:=Dw hs;rcases uX h1 with h1|h1
   ·exact eG (ati h h1 (hU _ _ ha) (hU _ _ hb))
   ·exact eG (az7 h h1 (hU _ _ ha) (hU _ _ hb))
  ·cases hs
 ·next t x lo hi he=>
  rw[he];split at hs
  ·next a lo' hi' ha hlo hhi=>
   rcases uX hs with hs|hs
   ·obtain⟨v,h1,rfl,rfl⟩:=jA hs;rcases uX h1 with h1|h1
    ·exact eG (iR h (Vu h h1 (hU _ _ ha) (LC hU hlo) (LC hU hhi)))
    ·exact eG (iR h (ai5 h h1 (hU _ _ ha) (LC hU hlo) (LC hU hhi)))
   ·obtain⟨v,h1,rfl⟩:=Dw hs;exact eG (az8 h h1 (hU _ _ ha) (LC hU hlo) (LC hU hhi))
  ·cases hs
 ·next t x f he=>
  rw[he];split at hs
  ·next a ha=>
   obtain⟨v,h1,rfl,rfl⟩:=jA hs;rcases uX h1 with h1|h1
   ·exact eG (iR h (ap9 h1 (hU _ _ ha)))
   ·exact eG (iR h (az1 h1 (hU _ _ ha)))
  ·cases hs
 ·next t x f he=>
  rw[he];split at hs
  ·next a ha=>
   obtain⟨v,h1,rfl,rfl⟩:=jA hs;exact eG (iR h (aqa h1 (hU _ _ ha)))
  ·cases hs
 ·next t x ix he=>
  rw[he];split at hs
  ·next a k ha hk=>
   obtain⟨v,h1,rfl,rfl⟩:=jA hs;rcases uX h1 with h1|h1
   ·exact eG (iR h (OX h1 (hU _ _ ha) (hU _ _ hk)))
   ·exact eG (iR h (az2 h h1 (hU _ _ ha) (hU _ _ hk)))
  ·cases hs
 ·next t x ix he=>
  rw[he];split at hs
  ·next a k ha hk=>
   obtain⟨v,h1,rfl,rfl⟩:=jA hs;rcases uX h1 with h1|h1
   ·exact eG (iR h (Y7 h1 (hU _ _ ha) (hU _ _ hk)))
   ·exact eG (iR h (az3 h1 (hU _ _ ha) (hU _ _ hk)))
  ·cases hs
 ·next t m k ok he=>
  rw[he];split at hs
  ·next a b ha hb=>
   obtain⟨v,h1,rfl,rfl⟩:=jA hs;rcases uX h1 with h1|h1
   ·exact eG (iR h (as9 h h1 (hU _ _ ha) (hU _ _ hb)))
   ·exact eG (iR h (az6 h h1 (hU _ _ ha) (hU _ _ hb)))
  ·cases hs
 ·next t m k x he=>
  rw[he];split at hs
  ·next a b c ha hb hc'=>
   obtain⟨h1,rfl⟩:=aaT hs;rcases uX h1 with h1|h1
   ·obtain⟨w',h2,h3⟩:=agH h h1 (hU _ _ ha) (hU _ _ hb) (hU _ _ hc');exact Lu ⟨w',F,h2,h3⟩
   ·obtain⟨w',h2,h3⟩:=ai4 h h1 (hU _ _ ha) (hU _ _ hb) (hU _ _ hc');exact Lu ⟨w',F,h2,h3⟩
  ·cases hs
 ·next t m k x he=>
  rw[he];split at hs
  ·next a b c ha hb hc'=>
   obtain⟨h1,rfl⟩:=aaT hs;rcases uX h1 with h1|h1
   ·obtain⟨w',h2,h3⟩:=agH h h1 (hU _ _ ha) (hU _ _ hb) (hU _ _ hc');exact Lu ⟨w',F,h2,h3⟩
   ·obtain⟨w',h2,h3⟩:=ai4 h h1 (hU _ _ ha) (hU _ _ hb) (hU _ _ hc');exact Lu ⟨w',F,h2,h3⟩
  ·cases hs
 ·next t x he=>
  rw[he];split at hs
  ·next s hu hx=>
   cases hs;have hv:=hU _ _ hx;simp only[VR]at hv;simp only[hv];exact eG (awx h hu)
  ·next k e hu hx=>
   cases hs;have hv:=hU _ _ hx;simp only[VR]at hv;simp only[hv];exact eG (awv h hu)
  ·next k e id hu hx=>
   split at hs
   ·next es hg=>
    cases hs;exact eG (aww h hu hg (hU _ _ hx))
   ·cases hs
  ·cases hs
 ·next it he=>
  rw[he];split at hs
  ·next a ha=>
   obtain⟨v,h1,rfl⟩:=Dw hs;obtain⟨y,w',h2,h3,h4⟩:=auu (ty:=o.type) h h1 (hU _ _ ha);exact eG ⟨y,w',F,h2,h3,h4⟩
  ·cases hs
 ·next it he=>
  rw[he];have hov:VR F (.dP [.b false]) (.tuple #[.bool false]):=by simp only[VR];exact⟨[_],rfl,aC.cons (by simp only[VR]) (by simp[aC])⟩
  split at hs
  ·next id ha=>
   split at hs
   ·next hg=>
    cases hs;exact eG (iR h ⟨_,aus (ty:=o.type) h hg (hU _ _ ha),hov⟩)
   ·next m hg=>
    split at hs
    ·next hm=>
     cases hs;exact eG (iR h ⟨_,aut (ty:=o.type) h hg hm (hU _ _ ha),hov⟩)
    ·cases hs
   ·cases hs
  ·cases hs
 ·next x xt t ok he=>
  rw[he];split at hs
  ·next a ha=>
   obtain⟨v,h1,rfl,rfl⟩:=jA hs;exact eG (iR h (aAz h1 (hU _ _ ha)))
  ·cases hs
 ·next x k he=>
  rw[he];split at hs
  ·next l ha=>
   obtain⟨v,h1,rfl,rfl⟩:=jA hs;exact eG (iR h (apv h1 (hU _ _ ha)))
  ·cases hs
 ·next c he=>
  rw[he];split at hs
  ·next args hargs=>
   split at hs
   ·next b hb=>
    have hv:=KC hU hargs;have hs:Gm P b c.argTypes args J=some (r,J')\/Jh P b c.argTypes args J=some (r,J'):=by
     cases hsf:abl b args with
     |true=>rw[hsf,cond_true]at hs;exact(uX hs).symm
     |false=>rw[hsf,cond_false]at hs;exact uX hs
    rcases hs with hs|hs
    ·have hres:=akN (cs:=c.args.map fun|.const _=>true|_=>false) (ty:=o.type) h hs hv;simp only[resolve,hb,Ii,pure_bind,invoke];rw[Ii]at hres;exact hres
    ·have hres:=azZ (cs:=c.args.map fun|.const _=>true|_=>false) (ty:=o.type) h hs hv;simp only[resolve,hb,Ii,pure_bind,invoke];rw[Ii]at hres;exact hres
   ·next f hf=>
    rw[he]at hc;exfalso;obtain⟨callee,args,at'⟩:=c;simp only at hf;subst hf;simp[EW]at hc
   ·next f name hf=>
    rw[he]at hc;exfalso;obtain⟨callee,args,at'⟩:=c;simp only at hf;subst hf;simp[EW]at hc
  ·cases hs
 ·cases hs
theorem adY(r:Value)(l:Q6):(#[r]++(⟨l⟩:QQ))=⟨r::l⟩:=by apply Nj;simp
theorem asr(name:String)(r:Value)(l:Q6):invoke (.fn (.method name) #[]) (#[r]++(⟨l⟩:QQ))=callMethod r name ⟨l⟩:=by
 rw[adY];have e1:(⟨r::l⟩:QQ)[0]? =some r:=by simp
 have e2:(⟨r::l⟩:QQ).extract 1 (⟨r::l⟩:QQ).size=⟨l⟩:=by apply Nj;simp
 have:invoke (.fn (.method name) #[]) (⟨r::l⟩:QQ)=(do
  let some recv:=(⟨r::l⟩:QQ)[0]? |stuck "call: a method without a receiver"
  callMethod recv name ((⟨r::l⟩:QQ).extract 1 (⟨r::l⟩:QQ).size)):=rfl
 rw[this,e1,e2]
theorem atA(h:SR P F J w){name:String}{a rv:AV}{f:FuncId}{x:Value}(hs:QW P name J a=some (f,rv))(hx:VR F a x)(args:QQ):
 ∃y,(callMethod x name args).run P w=(callFunc f (#[y]++args)).run P w/\VR F rv y:=by
 unfold QW at hs;split at hs
 ·next t v=>
  simp only[VR]at hx;obtain⟨xv,rfl,hv⟩:=hx;split at hs
  ·next i d hi hd=>
   split at hs
   ·next m hm=>
    split at hs
    ·next f' ptr hp hf=>
     have YS:∀y,(receiverAt t (.val xv) ptr (some ((name.splitOn ".").getLastD name))).run P w=.ok y w->
      (callMethod (.iface t xv) name args).run P w=(callFunc f' (#[y]++args)).run P w:=by
      intro y hr;have hpe:m.path.isEmpty=true:=by simpa using hp
      have:∀n:Nat,(method (n+1) t xv name).run P w=.ok (f',y) w:=by intro n;simp only[method,aS,FI hi,aQ,hm,hp,follow,bF,hf,hpe,if_true,hr]
      simp only[callMethod,aS,program,Sem.run,aQ];rw[show P.types.size+Made.depth=(P.types.size+Made.depth-1)+1 by simp[Made.depth],this];rfl
     split at hs
     ·next e=>
      cases hs;exact⟨xv,YS _ (by simp only[receiverAt,aS,aX hd,aQ,Go.Place.get,bF]),hv⟩
     ·next e=>
      split at hs
      ·next id off=>
       simp only[aZ,nR]at hs;obtain⟨z,hz,rfl,rfl⟩:=hs;obtain⟨y,hy,uQ⟩:=E5 h hz hv;simp only[VR]at hv;obtain⟨q,hq,rfl⟩:=hv;refine⟨y,YS _ ?_,uQ⟩;have hy':(loadVar e ⟨q.bl,q.ba+off,none⟩).run P w=.ok y w:=by simpa[Instr.loadAt,Instr.sureAddr]using hy
       have hwrap:∀nm:String,(Builtin.ssaWrapNilChk_ #[t] t #[.pointer (some ⟨q.bl,q.ba+off,none⟩),strVal "",strVal nm]).run P w=.ok (.pointer (some ⟨q.bl,q.ba+off,none⟩)) w:=λ_=>rfl;have has:(asAddr (.pointer (some ⟨q.bl,q.ba+off,none⟩))).run P w=.ok ⟨q.bl,q.ba+off,none⟩ w:=rfl;simp only[receiverAt,aS,aX hd,aQ,Go.Place.get,bF,hwrap,has,hy']
      ·cases hs
     ·cases hs
     ·next h1 h2 h3=>
      cases hs;refine⟨xv,YS _ ?_,hv⟩;simp only[receiverAt,aS,aX hd,aQ];cases d<;>simp only[Go.Place.get,bF]
      all_goals simp_all
    ·cases hs
   ·cases hs
  ·cases hs
 ·cases hs
theorem adw(h:SR P F J w){call:Caller}(hcall:qH P call){o:Oper}{a:bg}{A:Act}(ht:TR P F a A)(hc:EW o.op=true){r:Q4}{K:Act->World->Prop}{Q:Exit->Act->World->Prop}
 (hs:uI P call o a.eval J=some (r,J')) (hK:∀v x F' w',r=some v->St P F J w F' J' w'->VR F' v x->K (A.put o.dst x) w'):o.wp P A w K Q:=by
 have hU:∀x v,a.eval x=some v->VR F v (A.eval x):=λx v hv=>Ot h ht x v hv;unfold uI at hs;cases hop:o.op with
 |call c=>
  rw[hop]at hc hs;simp only at hs;split at hs
  ·next args hargs=>
   obtain⟨callee,GU,at'⟩:=c;cases callee with
   |builtin b=>simp[EW]at hc
   |invoke rc name=>
    simp only at hs;split at hs
    ·next f rv hf=>
     simp only[vJ]at hf;obtain⟨iv,hiv,hf⟩:=hf;obtain⟨u,h1,rfl⟩:=Dw hs;have hav:=KC hU hargs;obtain⟨y,hm,hy⟩:=atA h hf (hU _ _ hiv) (⟨GU.toList.map A.eval⟩);have hcn:=hcall _ _ _ _ _ h1 F w (y::GU.toList.map A.eval) h (aC.cons hy hav);have YQ:(execOp A.eval o).run P w=(callFunc f ⟨y::GU.toList.map A.eval⟩).run P w:=by
      unfold execOp;rw[hop];have e0:GU.map A.eval=⟨GU.toList.map A.eval⟩:=by apply Nj;simp
      simp only[resolve,pure_bind,e0];rw[asr,hm,adY]
     unfold Oper.wp;rw[YQ];rcases hcn with⟨v,w',hrun,F',hst,hv⟩|⟨hrun,YL⟩
     ·rw[hrun];exact hK u v F' w' rfl hst hv
     ·rw[hrun];refine Calls.mono YL ?_;rintro e w' ⟨v,rfl,F',hst,hv⟩
      exact hK u v F' w' rfl hst hv
    ·cases hs
   |value f=>
    simp only at hs;split at hs
    ·next fn fi caps hf=>
     obtain⟨u,h1,rfl⟩:=Dw hs;have hfv:=hU _ _ hf;simp only[VR]at hfv;obtain⟨us,vs,hfe,hfi,arz⟩:=hfv;have hav:=KC hU hargs;have hcn:=hcall _ _ _ _ _ h1 F w (us++GU.toList.map A.eval++vs) h ((hfi.append hav).append arz);have YQ:(execOp A.eval o).run P w=(callFunc fn ⟨us++GU.toList.map A.eval++vs⟩).run P w:=by unfold execOp;rw[hop];simp only[resolve,hfe,Deferred.ofValue,pure_bind,invoke];congr 2;apply Nj;simp
     unfold Oper.wp;rw[YQ];rcases hcn with⟨v,w',hrun,F',hst,hv⟩|⟨hrun,YL⟩
     ·rw[hrun];exact hK u v F' w' rfl hst hv
     ·rw[hrun];refine Calls.mono YL ?_;rintro e w' ⟨v,rfl,F',hst,hv⟩
      exact hK u v F' w' rfl hst hv
    ·cases hs
  ·cases hs
 |_=>rw[hop]at hc;simp[EW]at hc
theorem aBi{ops:W3}{j:Nat}{o:Oper}{d:Nat}{a:bg}{A:Act}{x:Bool}(ht:TR P F a A)(ho:ops[j]? =some o)(hd:o.dst=some d)(hx:dB (a.t.get d)=some (.b x)):yielded ops A.tmps j=some x:=by obtain⟨vd,hx,himp⟩:=G5 hx;obtain⟨y,hy,hv⟩:=ht.slot d _ hx;have hv:=himp _ _ hv;simp only[VR]at hv;subst hv;simp only[yielded,ho,yQ,hd,hy]
theorem FW{o:Oper}{ops:W3}{a:bg}{A:Act}{b:Bool}(ht:TR P F a A)(hw:Jt o ops a=some b):Region.wanted o (yielded ops A.tmps)=b:=by
 unfold Jt at hw;unfold Region.wanted;split at hw
 ·next hg=>rw[hg];cases hw;rfl
 ·next j want hg=>
  rw[hg];split at hw
  ·next q hq=>
   split at hw
   ·next d hd=>
    split at hw
    ·next x hx=>
     cases hw;simp only[aBi ht hq hd hx];cases x<;>cases want<;>rfl
    ·next l hx=>
     cases hw;obtain⟨vd,hx,himp⟩:=G5 hx;obtain⟨y,hy,hv⟩:=ht.slot d _ hx;have hv:=himp _ _ hv;simp only[VR]at hv;obtain⟨vs,rfl,_⟩:=hv;simp only[yielded,hq,yQ,hd,hy];cases want<;>rfl
    ·cases hw
   ·cases hw
  ·cases hw
theorem step_ok(h:SR P F J w){call:Caller}(hcall:qH P call){ops:W3}{i:Nat}{a a':bg}{A:Act}(ht:TR P F a A){K:Act->World->Prop}{Q:Exit->Act->World->Prop}
 (hs:Xh P call ops i a J=some (a',J')) (hK:∀F' A' w',St P F J w F' J' w'->TR P F' a' A'->K A' w'):wpOp P ops Q i K A w:=by
 unfold Xh at hs;unfold wpOp;split at hs
 ·cases hs
 ·next o ho=>
  rw[ho];simp only;split at hs
  ·cases hs
  ·next hw=>
   rw[FW ht hw];simp only[iO,if_false];simp only[aZ,nR]at hs;obtain⟨a1,hp,rfl,rfl⟩:=hs;exact hK F _ w (St.refl h) (ht.put hp (by rintro u hu;cases hu;exact⟨[],rfl,rfl⟩))
  ·next hw=>
   rw[FW ht hw];simp only[if_true];split at hs
   ·cases hs
   ·next r J1 hop=>
    rw[CP]at hop;simp only[aZ,nR]at hs;obtain⟨a1,hp,rfl,rfl⟩:=hs;left;cases hc:EW o.op with
    |true=>refine adw h hcall ht hc hop λv x F' w' hr hst hv=>?_;exact hK F' _ w' hst ((ht.mono hst.ext).put hp (λu hu=>by rw[hr]at hu;cases hu;exact hv))
    |false=>
     obtain⟨nx,w',F',hrun,hst,hres⟩:=ahc h (λx v hv=>Ot h ht x v hv) hc hop;unfold Oper.wp;rw[hrun];cases r with
     |none=>subst hres;exact hK F' _ w' hst ((ht.mono hst.ext).put hp (by simp))
     |some v=>obtain⟨x,rfl,hv⟩:=hres;exact hK F' _ w' hst ((ht.mono hst.ext).put hp (λu hu=>by cases hu;exact hv))
theorem ahe{call:Caller}(hcall:qH P call){ops:W3}{Q:Exit->Act->World->Prop}:∀(l:Q2){F:Env}{J:aA}{w:World}{a a':bg}{A:Act},SR P F J w->TR P F a A->
 JZ P call ops l a J=some (a',J')->(∀F' A' w',St P F J w F' J' w'->TR P F' a' A'->Q .normal A' w')->wpOps P ops Q l A w
 |[],F,J,w,a,a',A,h,ht,hs,hK=>by simp only[JZ,aW,nR]at hs;obtain⟨rfl,rfl⟩:=hs;exact hK F A w (St.refl h) ht
 |i::l,F,J,w,a,a',A,h,ht,hs,hK=>by
  rw[wpOps_cons];unfold JZ at hs;split at hs
  ·next a1 J1 h1=>
   refine step_ok h hcall ht h1 λF1 A1 w1 hst ht1=>?_;exact ahe hcall l hst.rel ht1 hs λF' A' w' hst' ht'=>hK F' A' w' (hst.trans hst') ht'
  ·cases hs
def dZ.toExit:dZ->Exit
 |.normal=>.normal
 |.exit id=>.exit id
 |.ret=>.ret
def Qv(P:Program)(dr:Caller->zK):Prop:=∀call,qH P call->∀ops a J a' J',dr call ops a J=some (a',J')->∀F w A id Q,SR P F J w->TR P F a A->
 (∀F' A' w',St P F J w F' J' w'->TR P F' a' A'->Q .normal A' w')->(Code.region id ops true).wp P Q A w
def QH(P:Program)(pr:xg):Prop:=∀f g,pr f=some g->∀args J r J',g args J=some (r,J')->∀F w vs,SR P F J w->aC F args vs->
 kQ P f ⟨vs⟩ w λv w'=>∃F',St P F J w F' J' w'/\VR F' r v
def vI(P:Program):Prop:=∀(f:Nat) fn c,P.funcs[f]? =some fn->fn.body=some c->(fn.name == "runtime.NumGoroutine")=false
def NG(P:Program)(run:Code->bg->aA->Option (dZ×bg×aA)):Prop:=∀c a J e a' J',run c a J=some (e,a',J')->∀F w A Q,SR P F J w->TR P F a A->
 (∀F' A' w',St P F J w F' J' w'->TR P F' a' A'->Q e.toExit A' w')->c.wp P Q A w
theorem PS(h:SR P F J w){a:bg}{A:Act}(ht:TR P F a A)(Fx:ResultVar->Sem Value)(hF1:∀t,Fx (.tmp t)=pure (A.tmps.getD t undef))(hF2:∀a t,Fx (.cell a t)=(do loadVar t (<-asAddr (A.tmps.getD a undef)))):
 ∀(rs:List ResultVar)(l:Q3),zW P J a rs=some l->∃vs,(rs.mapM Fx).run P w=.ok vs w/\aC F l vs
 |[],l,hl=>by simp only[zW,aW]at hl;subst hl;exact⟨[],rfl,by simp[aC]⟩
 |.tmp t::rs,l,hl=>by
  unfold zW at hl;split at hl
  ·next v r hv hr=>
   cases hl;obtain⟨vs,h1,h2⟩:=PS h ht Fx hF1 hF2 rs r hr;obtain⟨x,hx,kJ⟩:=ht.slot t v hv;refine⟨x::vs,?_,aC.cons kJ h2⟩;simp only[aci,hF1,aS,bF,aQ,h1];rw[yI,hx];rfl
  ·cases hl
 |.cell t ty::rs,l,hl=>by
  unfold zW at hl;split at hl
  ·next v r hv hr=>
   cases hl;obtain⟨vs,h1,h2⟩:=PS h ht Fx hF1 hF2 rs r hr;simp only[vJ]at hv;obtain⟨p,hp,hv⟩:=hv;obtain⟨x,hx,kJ⟩:=ht.slot t p hp;obtain⟨y,hy,uQ⟩:=E5 h hv kJ;refine⟨y::vs,?_,aC.cons uQ h2⟩;have hxa:∃ad,x=.pointer (some ad):=by
    cases p<;>simp[vN]at hv
    ·simp only[VR]at kJ;obtain⟨q,_,rfl⟩:=kJ;exact⟨_,rfl⟩
    ·simp only[VR]at kJ;obtain⟨bl,base,cs,elem,fr,x,_,_,rfl,_⟩:=kJ;exact⟨_,rfl⟩
   obtain⟨ad,rfl⟩:=hxa;have hg:A.tmps.getD t undef=.pointer (some ad):=by rw[yI,hx];rfl
   have hy':(loadVar ty ad).run P w=.ok y w:=by simpa[Instr.loadAt,Instr.sureAddr]using hy
   have arp:(asAddr (A.tmps.getD t undef)).run P w=.ok ad w:=by rw[hg];rfl
   simp only[aci,hF2,aS,bF,aQ,h1,arp,hy']
  ·cases hl
theorem aAx{l:Q3}{vs:Q6}(h:aC F l vs):VR F (Jl l) (if h:(⟨vs⟩:QQ).size=1 then(⟨vs⟩:QQ)[0]else .tuple ⟨vs⟩):=by
 have hl:=h.length;unfold Jl;split
 ·next v=>
  simp only[aC]at h;obtain⟨x,_,rfl,hx,rfl⟩:=h;simpa using hx
 ·next hne=>
  have:(⟨vs⟩:QQ).size≠1:=by
   intro e;have:l.length=1:=by rw[hl];exact e
   obtain⟨v,rfl⟩:=WI.1 this;exact hne v rfl
  rw[dif_neg this];simp only[VR];exact⟨vs,rfl,h⟩
theorem acY:∀(args:Q3)(k:Nat)(t:Tr AV)(j:Nat),(yU args k t).get j=if k<=j/\j<k+args.length then args[j-k]? else t.get j
 |[],k,t,j=>by simp[yU];omega
 |v::args,k,t,j=>by
  rw[yU,acY args (k+1)];simp only[gQ];by_cases h1:k+1<=j/\j<k+1+args.length
  ·rw[aj h1,aj (by omega)];have:j-k=(j-(k+1))+1:=by omega
   rw[this];simp
  ·rw[ah h1,Tr.vY];by_cases h2:j=k
   ·subst h2;rw[aj rfl,aj (by omega)];simp
   ·rw[ah h2,ah (by omega)]
theorem Ye{args:Q3}{vs:Q6}{n:Nat}(h:aC F args vs):
 TR P F {t:=yU args 0 .nil,n:=max args.length n,gn:=P.globals.size} {tmps:=(⟨vs⟩:QQ)++Array.replicate (n-(⟨vs⟩:QQ).size) undef,defers:=[]}:=by
 have hl:=h.length;refine⟨rfl,?_,rfl,λt v hv=>?_⟩
 ·simp;omega
 ·rw[acY]at hv;split at hv
  ·next hr=>
   obtain⟨x,hx,kJ⟩:=h.at hv;refine⟨x,?_,kJ⟩;simp only[Gi]at hx;have hlt:=(eU.1 hx).1;rw[Wv (by simpa using hlt)];simpa using hx
  ·simp at hv
theorem adu{pr:xg}{run:Code->bg->aA->Option (dZ×bg×aA)}(hp:QH P pr)(hn:vI P)(hr:NG P run):qH P (GN P pr run):=by
 intro f args J r J' hs F w vs h hv;unfold GN at hs;split at hs
 ·next g hg=>exact hp f g hg args J r J' hs F w vs h hv
 ·split at hs
  ·cases hs
  ·next fn hfn=>
   split at hs
   ·cases hs
   ·next c hc=>
    have key:∀(e:dZ) a',(e=.normal\/e=.ret)->run c {t:=yU args 0 .nil,n:=max args.length fn.ntmps,gn:=P.globals.size} J=some (e,a',J')->∀l,zW P J' a' fn.results.toList=some l->r=Jl l->
     kQ P f ⟨vs⟩ w λv w'=>∃F',St P F J w F' J' w'/\VR F' r v:=by
     intro e a' he hrun l hl hrl;right;refine⟨?_,?_⟩
     ·have hname:=hn f fn c hfn hc;simp only[callFunc,aS,program,Sem.run,aQ,hfn];simp only[hname,iO,if_false,hc,JU,bF]
     ·refine calls_of_wp hfn hc ?_;refine hr c _ _ _ _ _ hrun F w _ _ h (Ye hv) ?_;intro F' A' w' hst ht;have hres:∃us,(results fn A'.tmps).run P w'=.ok (if h:(⟨us⟩:QQ).size=1 then(⟨us⟩:QQ)[0]else .tuple ⟨us⟩) w'/\aC F' l us:=by unfold results;rw[Wx];simp only[aS,WY];obtain⟨us,h1,h2⟩:=PS hst.rel ht (fun|.tmp t=>pure (A'.tmps.getD t undef)|.cell a t=>do loadVar t (<-asAddr (A'.tmps.getD a undef))) (λ_=>rfl) (λ_ _=>rfl) _ _ hl;refine⟨us,?_,h2⟩;exact uK (λr:Result Q6=>(r.andThen λa w'=>Result.ok a.toArray w').andThen λa w'=>Sem.run P (pure (if h:a.size=1 then a[0]else Value.tuple a)) w') h1
      obtain⟨us,hres,h2⟩:=hres
      have hpost:A'.defers=[]/\∃v,(results fn A'.tmps).run P w'=.ok v w'/\∃v',Ending.returned v=.returned v'/\∃F',St P F J w F' J' w'/\VR F' r v':=
       ⟨ht.none,_,hres,_,rfl,F',hst,by rw[hrl];exact aAx h2⟩
      rcases he with rfl|rfl
      ·exact hpost
      ·exact hpost
    split at hs
    ·next a' J1 hrun=>
     simp only[aZ,nR]at hs;obtain⟨l,hl,h1,h2⟩:=hs;subst h2;exact key _ a' (.inl rfl) hrun l hl h1.symm
    ·next a' J1 hrun=>
     simp only[aZ,nR]at hs;obtain⟨l,hl,h1,h2⟩:=hs;subst h2;exact key _ a' (.inr rfl) hrun l hl h1.symm
    ·cases hs
theorem adR{dr:Caller->zK}{pr:xg}(hd:Qv P dr)(hp:QH P pr)(hn:vI P):∀n:Nat,NG P (Ef P dr pr n)/\
 (∀b a J e a' J',Ef P dr pr n (.loop b) a J=some (e,a',J')->∀F w A Q,SR P F J w->TR P F a A->(∀F' A' w',St P F J w F' J' w'->TR P F' a' A'->Q e.toExit A' w')->Code.rounds P b Q n A w):=by
 intro n;induction n with
 |zero=>exact⟨λc a J e a' J' hs=>by simp[acN]at hs,λb a J e a' J' hs=>by simp[acN]at hs⟩
 |succ n ih=>
  obtain⟨ih1,ih2⟩:=ih;have hcall:=adu hp hn ih1;have agy:∀b a J e a' J',Ef P dr pr (n+1) (.loop b) a J=some (e,a',J')->∀F w A Q,SR P F J w->TR P F a A->(∀F' A' w',St P F J w F' J' w'->TR P F' a' A'->Q e.toExit A' w')->Code.rounds P b Q (n+1) A w:=by
   intro b a J e a' J' hs F w A Q h ht hK;rw[rounds_succ];simp only[vK,tu]at hs;split at hs
   ·next a1 J1 h1=>
    refine ih1 _ _ _ _ _ _ h1 F w A _ h ht ?_;intro F1 A1 w1 hst ht1;exact ih2 _ _ _ _ _ _ hs F1 w1 A1 Q hst.rel ht1 λF' A' w' hst' ht'=>hK F' A' w' (hst.trans hst') ht'
   ·next hne=>
    refine ih1 _ _ _ _ _ _ hs F w A _ h ht ?_;intro F1 A1 w1 hst ht1;cases e with
    |normal=>exact absurd hs (by intro e';exact hne _ _ e')
    |exit id=>exact hK F1 A1 w1 hst ht1
    |ret=>exact hK F1 A1 w1 hst ht1
  refine⟨?_,agy⟩;intro c a J e a' J' hs F w A Q h ht hK;cases c with
  |loop b=>exact wp_loop_rounds (n+1) (agy b a J e a' J' hs F w A Q h ht hK)
  |skip=>simp only[vK,tu,aW,nR]at hs;obtain⟨rfl,rfl,rfl⟩:=hs;exact wp_skip (hK F A w (St.refl h) ht)
  |region id ops draw=>
   cases draw with
   |false=>simp only[vK,tu,aZ,nR]at hs;obtain⟨⟨a1,J1⟩,h1,rfl,rfl,rfl⟩:=hs;exact wp_region (ahe hcall _ h ht h1 hK)
   |true=>simp only[vK,tu,aZ,nR]at hs;obtain⟨⟨a1,J1⟩,h1,rfl,rfl,rfl⟩:=hs;exact hd _ hcall ops a J _ _ h1 F w A id Q h ht hK
  |seq x y=>
   simp only[vK,tu]at hs;refine wp_seq ?_;split at hs
   ·next a1 J1 h1=>
    refine ih1 _ _ _ _ _ _ h1 F w A _ h ht ?_;intro F1 A1 w1 hst ht1;exact ih1 _ _ _ _ _ _ hs F1 w1 A1 Q hst.rel ht1 λF' A' w' hst' ht'=>hK F' A' w' (hst.trans hst') ht'
   ·next hne=>
    refine ih1 _ _ _ _ _ _ hs F w A _ h ht ?_;intro F1 A1 w1 hst ht1;cases e with
    |normal=>exact absurd hs (by intro e';exact hne _ _ e')
    |exit id=>exact hK F1 A1 w1 hst ht1
    |ret=>exact hK F1 A1 w1 hst ht1
  |cond x y z=>
   simp only[vK,tu]at hs;split at hs
   ·next t hx=>
    obtain⟨vd,hx,himp⟩:=G5 hx;have hv:=himp _ _ (Ot h ht x _ hx);simp only[VR]at hv;refine wp_cond hv ?_;exact ih1 _ _ _ _ _ _ hs F w A Q h ht hK
   ·cases hs
  |block id b=>
   simp only[vK,tu]at hs;refine wp_block ?_;split at hs
   ·next id' a1 J1 h1=>
    refine ih1 _ _ _ _ _ _ h1 F w A _ h ht ?_;intro F1 A1 w1 hst ht1;simp only[dZ.toExit,Exit.inBlock];split at hs
    ·next e1=>
     cases hs;rw[aj e1];exact hK F1 A1 w1 hst ht1
    ·next e1=>
     cases hs;rw[ah e1];exact hK F1 A1 w1 hst ht1
   ·next hne=>
    refine ih1 _ _ _ _ _ _ hs F w A _ h ht ?_;intro F1 A1 w1 hst ht1;cases e with
    |normal=>exact hK F1 A1 w1 hst ht1
    |exit id'=>exact absurd hs (by intro e';exact hne _ _ _ e')
    |ret=>exact hK F1 A1 w1 hst ht1
  |exit id=>simp only[vK,tu,aW,nR]at hs;obtain⟨rfl,rfl,rfl⟩:=hs;exact wp_exit (hK F A w (St.refl h) ht)
  |ret=>simp only[vK,tu,aW,nR]at hs;obtain⟨rfl,rfl,rfl⟩:=hs;exact wp_ret (hK F A w (St.refl h) ht)
  |rangeFunc _ _ _ _=>simp[vK,tu]at hs
  |scope _=>simp[vK,tu]at hs
  |label _=>simp[vK,tu]at hs
  |goto _=>simp[vK,tu]at hs
  |refuse _=>simp[vK,tu]at hs
theorem aj7{dr:Caller->zK}{pr:xg}(hd:Qv P dr)(hp:QH P pr)(hn:vI P)(n:Nat):qH P (acM P dr pr n):=
 adu hp hn (adR hd hp hn n).1
