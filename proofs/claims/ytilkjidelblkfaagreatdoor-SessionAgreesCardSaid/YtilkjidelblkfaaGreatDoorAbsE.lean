/- Values that are named by nodes: append, make, conversions, strings.Builder's string. -/
import Derived.Test.YtilkjidelblkfaaGreatDoorAbsD
import Derived.Test.YtilkjidelblkfaaGreatDoorAbsC
namespace Go.aJ
set_option linter.unusedSimpArgs false
noncomputable section
variable [aG]
set_option linter.unusedSectionVars false
set_option linter.unusedVariables false
variable {P:Program} {η:Env} {σ σ':au} {w:World}
theorem St.Qr {η':Env} {w':World} (h:St P η σ w η' σ' w') (id:Nat):St P η σ w η' (σ'.kill id) w':=
 h.sub (λk o hk=>by rw [au.wX] at hk;split at hk;cases hk;exact hk) (dH _) rfl
theorem St.wG {η':Env} {τ:au} {w':World} {m e size:Nat} {f:Bool} {xs:List GV} {c:List AV} {y:Value} (h:St P η σ w η' (τ.new (.cells c e true true)) w') (hv:aG.val m=some (.l xs)) (hs:∀x∈xs,x.cells.length=size/\x.cells.all GV.scalar=true) (hn:sizeT P e=some size)
 (hc:∀vs,aA η' c vs->aA η' (bD xs) vs) (hy:VR η' (.sl τ.next 0 xs.length none) y) (hf:f=true->xs≠[]):St P η σ w η' (τ.new (.vec m e f)) w'/\VR η' (.sv τ.next m) y:=by
 simp only [VR] at hy;obtain ⟨q,hq,hle,rfl⟩:=hy;have hg:(τ.new (.cells c e true true)).get τ.next=some (.cells c e true true):=by rw [au.oQ,aj rfl]
 have hor:=h.rel.at hg hq;have hes:q.es=size:=by
  obtain ⟨_,_,_,_,r⟩:=hor;have:=(r.room rfl).2.2;rw [hn] at this;cases this;rfl
 have hpos:f=true->q.es<=q.sz:=λe=>by
  have hne:=hf e;have:0 < xs.length:=NM.2 hne;simp only [vK,D9] at hle;have h1:1<=q.sz / q.es:=by omega
  exact jw (by simpa using sH q.es h1) (Nat.div_mul_le_self q.sz q.es)
 have hnew:OR P η' q w' (.vec m e f):=OR.wG hpos hv (λx hx=>by rw [hes];exact (hs x hx).1) (λx hx=>(hs x hx).2) hor hc;refine ⟨h.right ?_ rfl rfl ?_,by simp only [VR];exact ⟨xs,hv,.inl ⟨q,hq,by simpa using hle,by simp⟩⟩⟩
 ·refine (h.rel.swap (o':=.vec m e f) hg rfl (.inl ⟨q,hq,hnew⟩)).sub (λk o hk=>?_) (dH _)
  rw [au.oQ] at hk;rw [au.get_put,au.oQ];split at hk
  ·next e1=>rw [aj e1];exact hk
  ·next e1=>rw [ah e1,ah e1];exact hk
 ·intro k o hk ho
  rw [au.oQ] at hk ⊢;split at hk
  ·next e1=>rw [aj e1];exact ⟨_,rfl,rfl⟩
  ·next e1=>rw [ah e1];exact ⟨o,hk,ho⟩
theorem Aw {xs:List GV} {size:Nat} (h:xs.all (GV.fA size)=true):∀x∈xs,x.cells.length=size/\x.cells.all GV.scalar=true:=by
 intro z hz;have:=List.all_eq_true.1 h z hz;unfold GV.fA at this;rw [aI] at this;exact ⟨Nat.eq_of_beq_eq_true this.1,this.2⟩
theorem ahv {xs:List GV} {size:Nat} (h:∀x∈xs,x.cells.length=size/\x.cells.all GV.scalar=true):(bD xs).all AV.lJ=true:=by
 unfold bD;refine Vo ?_;rw [List.all_eq_true];intro g hg;obtain ⟨z,hz,hgz⟩:=Zv.1 hg;exact List.all_eq_true.1 (h z hz).2 g hgz
theorem aaE (xs ys:List GV):bD (xs++ys)=bD xs++bD ys:=by unfold bD;rw [Zq,EI]
theorem Ey {xs:List GV} {size:Nat} (h:∀x∈xs,x.cells.length=size):(bD xs).length=xs.length * size:=by rw [bD,kL,KW h]
def Yv (P:Program) (σ:au) (e size:Nat) (t1:TypeId) (x:AV):Option Nat:=
 match P.underlying t1 with
 | some .string=>if size=1 then match iD x with
    | some n=>eP (.bytes n)
    | none=>none
   else none
 | some (.slice _)=>listOf P σ e x
 | _=>none
theorem RP (h:SR P η σ w) {e size:Nat} {t1:TypeId} {x:AV} {b:Nat} {u:Value} {xs:List GV} (hs:Yv P σ e size t1 x=some b) (hx:VR η x u) (hn:sizeT P e=some size) (hv:aG.val b=some (.l xs)) (hok:xs.all (GV.fA size)=true) :
 ∃ys,Src P size t1 u xs.length ys w/\aA η (bD xs) ys:=by
 unfold Yv at hs;split at hs
 ·next ht=>
  split at hs
  ·next h1=>
   subst h1;split at hs
   ·next n hn'=>
    obtain ⟨g,g1,g2,g3⟩:=kM hn' hx;obtain ⟨g',k1,k2⟩:=fM hs;rw [hv] at k1;cases k1;simp only [Nd.den,g1] at k2;split at k2
    ·next s e1=>
     cases e1;cases k2;have hT:Dv P t1=true:=by unfold Dv;rw [ht]
     have:=src_ok h hT (size:=1) (n:=s.length) (l:=uz s) (a:=.s s) (x:=u) (by simp [xw]) ((kF (.s s) u).1 g3) (by unfold uz;simp [AV.lJ]);rw [aav];have hl:(eU s).length=s.length:=by simp [eU]
     rw [hl];exact this
    ·cases k2
   ·cases hs
  ·cases hs
 ·next ht=>exact amO h hs hx ht hn hv hok
 ·cases hs
theorem amN {e size id len:Nat} {cap:Option Nat} {a et:Nat} {c:List AV} {rZ opn:Bool} (hg:σ.get id=some (.cells c et rZ opn)) (hl:listOf P σ e (.sl id 0 len cap)=some a) (hn:sizeT P e=some size) (hlen:c.length=len * size) :
 ∃ns,(∀ {η:Env} {vs:List Value},aA η c vs->∃gs,valsOf aG.val ns=some gs/\gs.length=len/\aA η (bD gs) vs/\∀x∈gs,x.cells.length=size/\x.cells.all GV.scalar=true)/\∀gs,valsOf aG.val ns=some gs->aG.val a=some (.l gs):=by
 simp only [listOf,hg,hn] at hl;split at hl
 ·next c' EG rw' L8 size' agg hg' hsz hag=>
  cases hg';cases hsz;split at hl
  ·next hc=>
   rw [aI,lU,aI] at hc;have hagg:agg=false->size=1:=by
    intro e;subst e;rcases hc.2 with h1 | h1
    ·simp at h1
    ·exact bf h1
   have htk:takeN c 0 (len * size)=some c:=by
    unfold takeN;rw [dO,lu (by omega),aj hlen]
   rw [htk] at hl;simp only at hl;split at hl
   ·next ns hns=>
    refine ⟨ns,λ{η vs} hv=>?_,λgs hgs=>?_⟩
    ·obtain ⟨gs,k1,k2,k3,_,k5⟩:=Dc (η:=η) hagg len hns hv hlen
     exact ⟨gs,k1,k2,k3,k5⟩
    ·obtain ⟨g,g1,g2⟩:=fM hl
     simp only [Nd.den,hgs,fK,aT] at g2;rw [g2];exact g1
   ·cases hl
  ·cases hl
 ·cases hl
set_option maxHeartbeats 1000000 in
theorem ar2 (h:SR P η σ w) {ts:Array TypeId} {ty:TypeId} {s x v:AV} {u u':Value} (hs:YA P ts s x σ=some (v,σ')) (hu:VR η s u) (hx:VR η x u') :
 ∃y w' η',(Builtin.append_ ts ty #[u,u']).run P w=.ok y w'/\St P η σ w η' σ' w'/\VR η' v y:=by
 unfold YA at hs;split at hs
 ·next t t1 hts=>
  have:=Ox hts;subst this;split at hs
  ·next e size bytes z hi=>
   obtain ⟨_,_,_,he,_,hn⟩:=y7 hi;split at hs
   ·cases hs
   ·next h0=>
    split at hs
    ·cases hs
    ·next b hb=>
     have hb':Yv P σ e size t1 x=some b:=hb;have app:∀ {a m:Nat} {xs:List GV},eP (.app size bytes a b)=some m->aG.val a=some (.l xs)->∃ys,aG.val b=some (.l ys)/\aG.val m=some (.l (xs++ys))/\ys.all (GV.fA size)=true/\2 * (xs.length+ys.length) * bytes<=2 ^ 48/\xs.length+ys.length<=2 ^ 48:=by
      intro a m xs hm ha;obtain ⟨g,g1,g2⟩:=fM hm;simp only [Nd.den,ha] at g2;split at g2
      ·next xs' ys e1 e2=>
       cases e1;split at g2
       ·next hc=>cases g2;exact ⟨ys,e2,g1,hc.1,hc.2.1,hc.2.2⟩
       ·cases g2
      ·cases g2
     have Ou:∀ {ys:List GV} {S:AV} {n:Nat},ys.all (GV.fA size)=true->sliceLen S=n->2 * (n+ys.length) * bytes<=2 ^ 48->n+ys.length<=2 ^ 48->¬ (size=0\/(bD ys).all AV.lJ=false\/¬ (2 * (sliceLen S+ys.length) * bytes<=2 ^ 48/\sliceLen S+ys.length<=2 ^ 48)):=by
      intro ys S n h1 h2 h3 h4;rw [ahv (Aw h1),h2];simp [h0];omega
     have ml0:∀ {a:Nat},eP (.ml [])=some a->aG.val a=some (.l []):=by
      intro a ha;obtain ⟨g,g1,g2⟩:=fM ha;simp only [Nd.den,valsOf,fK,aT] at g2;subst g2;exact g1
     have adY:∀ {a m:Nat} {τ:au},aG.val a=some (.l [])->eP (.app size bytes a b)=some m->u=.slice none 0 0->τ.lock=σ.lock->τ.next=σ.next->(∀k o,τ.get k=some o->σ.get k=some o)->
      ∀f:Bool,∃y w' η',(Builtin.append_ #[t,t1] ty #[u,u']).run P w=.ok y w'/\St P η σ w η' (τ.new (.vec m e f)) w'/\VR η' (.sv σ.next m) y:=by
      intro a m τ ha hm hu0 hl hnx hsub f;obtain ⟨ys,y1,y2,y3,y4,y5⟩:=app hm ha;obtain ⟨zs,z1,z2⟩:=RP h hb' hx hn y1 y3;have hlen:=Ey (λx hx=>(Aw y3 x hx).1);simp only [bn,qy,jk] at y2 y4 y5;have hc:=Ou (S:=.bT) (n:=0) y3 rfl (by simpa using y4) (by simpa using y5);by_cases hz:ys.length=0
      ·have hys:ys=[]:=jh hz
       subst hys;have hto:nP e size bytes .bT 0 (bD []) σ=some (.bT,σ):=by unfold nP;rw [ah (by simpa using hc)];rfl
       obtain ⟨y,w',η',r1,r2,r3⟩:=Aj (ty:=ty) h hi z1 z2 hlen hto (u:=u) (by simp only [VR];exact hu0);refine ⟨y,w',η'.ghost σ.next,r1,r2.trans ?_, ?_⟩
       ·exact St.ghost r2.rel y2 hl hnx hsub
       ·simp only [VR] at r3 ⊢
        exact ⟨[],y2,.inr ⟨by simp [Env.ghost],rfl,r3⟩⟩
      ·have hto:nP e size bytes .bT ys.length (bD ys) σ=some (.sl σ.next 0 ys.length none,σ.new (.cells (bD ys) e true true)):=by
        unfold nP;rw [ah hc];simp only;rw [ah hz]
       obtain ⟨y,w',η',r1,r2,r3⟩:=Aj (ty:=ty) h hi z1 z2 hlen hto (u:=u) (by simp only [VR];exact hu0);obtain ⟨q1,q2⟩:=St.wG (f:=f) r2 y2 (Aw y3) hn (λ_ h=>h) r3 (λ_ e=>hz (by rw [e];rfl));refine ⟨y,w',η',r1,q1.sub (λk o hk=>?_) (by show σ.next+1<=τ.next+1;omega) hl,q2⟩;rw [au.oQ] at hk ⊢;rw [hnx] at hk;split at hk
       ·next e1=>rw [aj e1];exact hk
       ·next e1=>rw [ah e1];exact hsub k o hk
     split at hs
     ·split at hs
      ·next a ha=>
       obtain ⟨m,hm,e1⟩:=aX.1 hs;cases e1;simp only [VR] at hu;exact adY (τ:=σ) (ml0 ha) hm hu rfl rfl (λ_ _ h=>h) true
      ·cases hs
     ·next id n=>
      split at hs
      ·next a et f hg=>
       split at hs
       ·next hcnd=>
        rw [aI,aI] at hcnd;obtain ⟨⟨het,hsl⟩,hlk⟩:=hcnd;have EM:=bf het;subst EM;have AU:=qE hlk;obtain ⟨m,hm,e1⟩:=aX.1 hs;cases e1;simp only [VR] at hu;obtain ⟨xn,n1,hu⟩:=hu;rcases h.live id _ hg with ⟨q,hq,hor⟩ | ⟨hgh,m0,et0,f0,e0,hv0⟩
        ·obtain ⟨xs,x1,x2,x3,x4,x5,x6,x7,hS⟩:=Jy h hg hq
         have hlen0:=xq 100 hsl x1 n1;rw [hn] at x5;cases x5;rcases hu with ⟨q',hq',hle,rfl⟩ | ⟨hgh,_,_⟩
         ·rw [hq] at hq';cases hq'
          obtain ⟨ys,y1,y2,y3,y4,y5⟩:=app hm x1;have hcl:=Ey x2;have hall:∀x∈xs++ys,x.cells.length=q.es/\x.cells.all GV.scalar=true:=by
           intro x hx;rcases jO.1 hx with hx | hx
           ·exact ⟨x2 x hx,x7 x hx⟩
           ·exact Aw y3 x hx
          obtain ⟨zs,z1,z2⟩:=RP h hb' hx hn y1 y3;have hlen:=Ey (λx hx=>(Aw y3 x hx).1);have hc:=Ou (S:=.sl id 0 xs.length none) (n:=xs.length) y3 rfl y4 y5;rw [<- hlen0] at hle ⊢;have hus:VR η (.sl id 0 xs.length none) (.slice (some ⟨q.bl,q.ba,none⟩) xs.length (q.sz / q.es)):=by simp only [VR];exact ⟨q,hq,by simpa using hle,by simp⟩
          by_cases hz:ys.length=0
          ·have hys:ys=[]:=jh hz
           subst hys;rw [pI] at y2;have hto:nP et q.es bytes (.sl id 0 xs.length none) 0 (bD []) (jL σ id xs et)=some (.sl id 0 xs.length none,jL σ id xs et):=by unfold nP;rw [ah (by simpa using hc)];rfl
           obtain ⟨y,w',η',r1,r2,r3⟩:=Aj (ty:=ty) hS hi z1 z2 hlen hto hus;have r2':=Nj hg r2;have hgu:(jL σ id xs et).get id=some (.cells (bD xs) et true true):=BX;have hq2:=r2.ext.pl _ _ hq;have hor2:=r2.rel.at hgu hq2;have hv2:OR P (η'.put σ.next q) q w' (.vec m et f):=by
            have hle2:=Env.FY r2.rel q;refine OR.wG (λe=>by subst e;exact hor.SV) y2 x2 x7 (hor2.mono hle2) (λ_ h=>h)
           have Le:=St.again (q':=q) r2.rel hgu rfl (show (jL σ id xs et).lock<=id from AU) hq2 rfl rfl (λ_ _=>rfl) rfl rfl rfl hv2;refine ⟨y,w',η'.put σ.next q,r1,(r2'.trans Le).sub (λk o hk=>?_) (dH _) rfl, ?_⟩
           ·rw [au.oQ,au.wX] at hk ⊢
            split at hk
            ·next e1=>rw [aj (show k=((jL σ id xs et).kill id).next from e1)];exact hk
            ·next e1=>
             rw [ah (show ¬ k=((jL σ id xs et).kill id).next from e1)];split at hk
             ·cases hk
             ·next e2=>rw [ah e2];unfold jL;rw [au.get_put,ah e2];exact hk
           ·simp only [VR] at r3 ⊢
            obtain ⟨q3,hq3,hle3,rfl⟩:=r3;rw [hq2] at hq3;cases hq3;exact ⟨xs,y2,.inl ⟨q,by simp [Env.put],by simpa using hle3,by simp⟩⟩
          ·have htk:takeN (bD xs) 0 (xs.length * q.es)=some (bD xs):=by
            unfold takeN;rw [dO,lu (by omega),aj hcl]
           have hto:nP et q.es bytes (.sl id 0 xs.length none) ys.length (bD ys) (jL σ id xs et)=some (.sl σ.next 0 (xs.length+ys.length) none,((jL σ id xs et).kill id).new (.cells (bD xs++bD ys) et true true)):=by
            unfold nP;rw [ah hc];simp only;rw [ah hz,aj (show (jL σ id xs et).lock<=id from AU),BX];simp only [if_true,htk,fK];rfl
           obtain ⟨y,w',η',r1,r2,r3⟩:=Aj (ty:=ty) hS hi z1 z2 hlen hto hus;obtain ⟨q1,q2⟩:=St.wG (size:=q.es) (Nj hg r2) y2 hall hn (λvs hvs=>by rw [aaE];exact hvs) (by rw [fG];exact r3) (f:=f) (λ_ e=>hz (by have:=rE List.length e;simp at this;rw [this.2];rfl));refine ⟨y,w',η',r1,q1.sub (λk o hk=>?_) (dH _) rfl,q2⟩;rw [au.oQ,au.wX] at hk ⊢;split at hk
           ·next e1=>rw [aj (show k=((jL σ id xs et).kill id).next from e1)];exact hk
           ·next e1=>
            rw [ah (show ¬ k=((jL σ id xs et).kill id).next from e1)];split at hk
            ·cases hk
            ·next e2=>rw [ah e2];unfold jL;rw [au.get_put,ah e2];exact hk
         ·rw [(h.jq id hgh).1] at hq;cases hq
        ·cases e0
         have hlen0:=xq 100 hsl hv0 n1;rcases hu with ⟨q',hq',_⟩ | ⟨_,_,hu⟩
         ·rw [(h.jq id hgh).1] at hq';cases hq'
         ·exact adY (τ:=σ.kill id) hv0 hm hu rfl rfl (λk o hk=>by rw [au.wX] at hk;split at hk;cases hk;exact hk) f
       ·cases hs
      ·cases hs
     ·next id=>
      split at hs
      ·next et hg=>
       split at hs
       ·next hcnd=>
        rw [aI] at hcnd;obtain ⟨het,hlk⟩:=hcnd;have EM:=bf het;subst EM;have AU:=qE hlk;split at hs
        ·next a ha=>
         obtain ⟨m,hm,e1⟩:=aX.1 hs;cases e1;obtain ⟨ys,y1,y2,y3,y4,y5⟩:=app hm (ml0 ha);simp only [bn,qy,jk] at y2 y4 y5;obtain ⟨zs,z1,z2⟩:=RP h hb' hx hn y1 y3;have hlen:=Ey (λx hx=>(Aw y3 x hx).1);have hc:=Ou (S:=.sl id 0 0 (some 0)) (n:=0) y3 rfl (by simpa using y4) (by simpa using y5);have hu0:=hu;simp only [VR] at hu0;obtain ⟨q,hq,_,rfl⟩:=hu0;obtain ⟨cs,elem,fr,hb0,rr⟩:=h.at hg hq;have hsh:=rr.shut rfl;obtain ⟨w1,w2,w3⟩:=rr.whole he;have hba:=w3 rfl;by_cases hz:ys.length=0
         ·have hys:ys=[]:=jh hz
          subst hys;have hto:nP et size bytes (.sl id 0 0 (some 0)) 0 (bD []) σ=some (.sl id 0 0 (some 0),σ):=by unfold nP;rw [ah (by simpa using hc)];rfl
          obtain ⟨y,w',η',r1,r2,r3⟩:=Aj (ty:=ty) h hi z1 z2 hlen hto hu;have hq2:=r2.ext.pl _ _ hq;obtain ⟨cs2,Ie,Iu,hb2,Ye⟩:=r2.rel.at hg hq2;obtain ⟨v1,v2,v3⟩:=Ye.whole he;have hsz0:=Ye.shut rfl;simp only [qy] at hsz0;have hv2:OR P (η'.put σ.next ⟨q.bl,q.ba,0,size⟩) ⟨q.bl,q.ba,0,size⟩ w' (.vec m et false):=by
           refine ⟨[],cs2,Ie,Iu,[],y2,hb2,by simp [aK],by simp,by simp [CW,dh],by simp, { fits:=by have:=Ye.fits;simp;omega,le:=by simp,shut:=by simp,cell:=by simp,free:=by simp,whole:=λ_=>⟨v1,by simp;omega,by simp⟩,room:=λ_=>⟨he,by simp;omega,hn⟩ },by simp,by simp⟩
          have Le:=St.again (q':=⟨q.bl,q.ba,0,size⟩) r2.rel hg rfl AU hq2 rfl rfl (λ_ _=>rfl) rfl rfl rfl hv2;refine ⟨y,w',_,r1,r2.trans Le, ?_⟩;simp only [VR] at r3 ⊢;obtain ⟨q3,hq3,_,rfl⟩:=r3;rw [hq2] at hq3;cases hq3;exact ⟨[],y2,.inl ⟨⟨q.bl,q.ba,0,size⟩,by simp [Env.put],by simp,by simp⟩⟩
         ·have hto:nP et size bytes (.sl id 0 0 (some 0)) ys.length (bD ys) σ=some (.sl σ.next 0 (0+ys.length) none,σ.new (.cells ([]++bD ys) et true true)):=by
           unfold nP;rw [ah hc];simp only;rw [ah (by omega),hg];simp [takeN]
          obtain ⟨y,w',η',r1,r2,r3⟩:=Aj (ty:=ty) h hi z1 z2 hlen hto hu;rw [bn] at r2;rw [jk] at r3;obtain ⟨q1,q2⟩:=St.wG (f:=false) r2 y2 (Aw y3) hn (λ_ h=>h) r3 (by simp);refine ⟨y,w',η',r1,q1.sub (λk o hk=>?_) (dH _) rfl,q2⟩;rw [au.oQ,au.wX] at hk;rw [au.oQ];split at hk
          ·next e1=>rw [aj (show k=σ.next from e1)];exact hk
          ·next e1=>
           rw [ah (show ¬ k=σ.next from e1)];split at hk
           ·cases hk
           ·exact hk
        ·cases hs
       ·cases hs
      ·cases hs
     ·next id len=>
      split at hs
      ·next c et hg=>
       split at hs
       ·next hcnd=>
        rw [aI,aI] at hcnd;obtain ⟨⟨het,hlk⟩,hcl⟩:=hcnd;have EM:=bf het;subst EM;have AU:=qE hlk;have hcl':=bf hcl;split at hs
        ·next a ha=>
         obtain ⟨m,hm,e1⟩:=aX.1 hs;cases e1;obtain ⟨ns,l1,l2⟩:=amN hg ha hn hcl';have hu0:=hu;simp only [VR] at hu0;obtain ⟨q,hq,hle,rfl⟩:=hu0;obtain ⟨ws,elem,fr,hb0,rr⟩:=h.at hg hq;have hes:q.es=size:=by
          have:=(rr.room rfl).2.2;rw [hn] at this;cases this;rfl
         have htk:takeN c 0 (len * size)=some c:=by
          unfold takeN;rw [dO,lu (by omega),aj hcl']
         obtain ⟨xs,k1,k2,k3,k4⟩:=l1 (rr.xA htk);have hva:=l2 xs k1;have conv:∀ {η':Env} (vs:List Value),aA η' c vs->aA η' (bD xs) vs:=by
          intro η' vs hv;obtain ⟨gs,j1,_,j3,_⟩:=l1 hv;rw [k1] at j1;cases j1;exact j3
         obtain ⟨ys,y1,y2,y3,y4,y5⟩:=app hm hva;have hall:∀x∈xs++ys,x.cells.length=size/\x.cells.all GV.scalar=true:=by
          intro x hx;rcases jO.1 hx with hx | hx
          ·exact k4 x hx
          ·exact Aw y3 x hx
         obtain ⟨zs,z1,z2⟩:=RP h hb' hx hn y1 y3;have hlen:=Ey (λx hx=>(Aw y3 x hx).1);have hc:=Ou (S:=.sl id 0 len none) (n:=xs.length) y3 k2.symm y4 y5;by_cases hz:ys.length=0
         ·have hys:ys=[]:=jh hz
          subst hys;rw [pI] at y2;have hto:nP et size bytes (.sl id 0 len none) 0 (bD []) σ=some (.sl id 0 len none,σ):=by unfold nP;rw [ah (by simpa using hc)];rfl
          obtain ⟨y,w',η',r1,r2,r3⟩:=Aj (ty:=ty) h hi z1 z2 hlen hto hu;have hq2:=r2.ext.pl _ _ hq;have hor2:=r2.rel.at hg hq2;have hv2:OR P (η'.put σ.next q) q w' (.vec m et false):=by
           have hle2:=Env.FY r2.rel q;refine OR.wG (by simp) y2 (λx hx=>by rw [hes];exact (k4 x hx).1) (λx hx=>(k4 x hx).2) (hor2.mono hle2) (λvs hvs=>conv vs hvs)
          have Le:=St.again (q':=q) r2.rel hg rfl AU hq2 rfl rfl (λ_ _=>rfl) rfl rfl rfl hv2;refine ⟨y,w',η'.put σ.next q,r1,r2.trans Le, ?_⟩;simp only [VR] at r3 ⊢;obtain ⟨q3,hq3,hle3,rfl⟩:=r3;rw [hq2] at hq3;cases hq3;exact ⟨xs,y2,.inl ⟨q,by simp [Env.put],by rw [k2];simpa using hle3,by simp [k2]⟩⟩
         ·have hto:nP et size bytes (.sl id 0 len none) ys.length (bD ys) σ=some (.sl σ.next 0 (len+ys.length) none,(σ.kill id).new (.cells (c++bD ys) et true true)):=by
           unfold nP;rw [ah hc];simp only;rw [ah hz,aj AU,hg];simp only [if_true,htk,fK]
          obtain ⟨y,w',η',r1,r2,r3⟩:=Aj (ty:=ty) h hi z1 z2 hlen hto hu;obtain ⟨q1,q2⟩:=St.wG (size:=size) r2 y2 hall hn (λvs hvs=>by
           obtain ⟨us,ts,rfl,v1,v2⟩:=aA.split hvs;rw [aaE];exact aA.append (conv us v1) v2) (by rw [fG,k2];exact r3) (f:=false) (by simp)
          exact ⟨y,w',η',r1,q1,q2⟩
        ·cases hs
       ·cases hs
      ·cases hs
     ·cases hs
  ·cases hs
 ·cases hs
end
end Go.aJ
namespace Go.aJ
set_option linter.unusedSimpArgs false
noncomputable section
variable [aG]
set_option linter.unusedSectionVars false
set_option linter.unusedVariables false
variable {P:Program} {η:Env} {σ σ':au} {w:World}
theorem aeZ {x:GV} {z:List AV} (hx:∀us,aA η z us->aA η (cZ x.cells) us):∀ (n:Nat) (vs:List Value),aA η (iU n z) vs->aA η (bD (List.replicate n x)) vs
 | 0,vs,h=>by simpa [iU,bD,cZ] using h
 | n+1,vs,h=>by
   have e:iU (n+1) z=z++iU n z:=by simp [iU,JL]
   rw [e] at h;obtain ⟨us,ws,rfl,h1,h2⟩:=aA.split h;have e2:bD (List.replicate (n+1) x)=cZ x.cells++bD (List.replicate n x):=by unfold bD;rw [JL,ji,EI]
   rw [e2];exact (hx us h1).append (aeZ hx n ws h2)
theorem apV (z:List AV) (n m:Nat) (h:n<=m):(iU m z).take (n * z.length)=iU n z:=by
 induction n generalizing m with
 | zero=>simp [iU]
 | succ n ih=>
   cases m with
   | zero=>omega
   | succ m=>
     have e:∀k,iU (k+1) z=z++iU k z:=λk=>by simp [iU,JL]
     rw [e,e,<- ih m (by omega),List.take_append,lu (by rw [qC];omega)];congr 2;rw [qC];omega
theorem ase (h:SR P η σ w) {t:TypeId} {l c v:AV} {x y:Value} (hs:Sl P t l c σ=some (v,σ')) (hx:VR η l x) (hy:VR η c y) :
 ∃z w' η',(Instr.makeSlice t x y).run P w=.ok z w'/\St P η σ w η' σ' w'/\VR η' v z:=by
 unfold Sl at hs;split at hs
 ·next e0 hu0=>
  split at hs
  ·next e size bytes z agg hi hagg=>
   obtain ⟨hut,_,_,he,hzl,hn⟩:=y7 hi;rw [hu0] at hut;cases hut;split at hs
   ·cases hs
   ·next h0=>
    split at hs
    ·next zn ln cn hzn hln hcn=>
     obtain ⟨m,hm,e1⟩:=aX.1 hs;cases e1;obtain ⟨gl,l1,l2,l3⟩:=kM hln hx;obtain ⟨gc,c1,c2,c3⟩:=kM hcn hy;obtain ⟨g,g1,g2⟩:=fM hm;simp only [Nd.den,l1,c1] at g2;split at g2
     ·next xz kn n kn' m' e1 e2 e3=>
      cases e2;cases e3;split at g2
      ·next hc=>
       cases g2;obtain ⟨b1,b2,b3,b4,b5⟩:=hc;simp only [GR] at l3 c3;subst l3;subst c3;obtain ⟨xs,hrun,hsz,hvs⟩:=am2 (P:=P) (w:=w) (η:=η) (kd:=kn) (kd':=kn') hi h0 b1 b2 b3 b4;have hzero:∀us,aA η z us->aA η (cZ xz.cells) us:=by
        intro us hus;cases agg with
        | true=>
          simp only [if_true] at hzn;obtain ⟨l',gs,e4,_,e5,_,e6⟩:=Hr hzn (by simp only [VR];exact ⟨us,rfl,hus⟩:VR η (.agg z) (.agg ⟨us⟩));rw [e1] at e5;cases e5;simp only [GR] at e6;obtain ⟨us',e7,e8⟩:=e6;cases e7;exact (mG _ _).1 e8
        | false=>
          simp only [fV,if_false] at hzn;cases hz':z with
          | nil=>rw [hz'] at hzn;simp at hzn
          | cons a zr=>
            rw [hz'] at hzn hus hzl;simp only [TB,Aa] at hzn;simp only [aA] at hus;obtain ⟨u,ur,rfl,hu1,hu2⟩:=hus;obtain ⟨gz,k1,k2,k3⟩:=kM hzn hu1;rw [e1] at k1;cases k1;rw [GV.Gg k2];have:size=1:=by
             unfold GV.fA at b5;rw [aI,GV.Gg k2] at b5;exact (bf b5.1).symm
            rw [this] at hzl;have ny:zr=[]:=by apply jh;simpa using hzl
            subst ny;simp only [aA] at hu2;subst hu2;simp only [cZ];exact aA.cons ((kF _ _).1 k3) (by simp [aA])
       have hall:∀x∈List.replicate n.toNat xz,x.cells.length=size/\x.cells.all GV.scalar=true:=by
        intro x hx;rw [(Zy.1 hx).2];unfold GV.fA at b5;rw [aI] at b5;exact ⟨Nat.eq_of_beq_eq_true b5.1,b5.2⟩
       have hlm:n.toNat<=m'.toNat:=by omega
       have hpre:aA η (iU n.toNat z) (xs.toList.take (iU n.toNat z).length):=by
        rw [Rn,hzl];have:=hvs.take (n.toNat * size);rw [<- hzl,apV z _ _ hlm,hzl] at this;exact this
       have hal:=Au h (c:=iU n.toNat z) (xs:=xs) (elem:=_) (es:=size) (opn:=true) hpre (by rw [Rn,hzl,hsz];exact sH _ hlm) (by simp) (λ_=>⟨he,Nat.pos_of_ne_zero h0,hn⟩);have hcap:(m'.toNat * size) / size=m'.toNat:=ZG _ (Nat.pos_of_ne_zero h0);obtain ⟨q1,q2⟩:=St.wG (f:=false) (size:=size) (y:=.slice (some ⟨w.heap.size,0,none⟩) n.toNat m'.toNat) hal g1 hall hn (λvs hvs=>by
        have hz2:∀us,aA (η.put σ.next ⟨w.heap.size,0,xs.size,size⟩) z us->aA (η.put σ.next ⟨w.heap.size,0,xs.size,size⟩) (cZ xz.cells) us:=by
         intro us hus;cases agg with
         | true=>
           simp only [if_true] at hzn;obtain ⟨l',gs,e4,_,e5,_,e6⟩:=Hr hzn (by simp only [VR];exact ⟨us,rfl,hus⟩:VR (η.put σ.next ⟨w.heap.size,0,xs.size,size⟩) (.agg z) (.agg ⟨us⟩));rw [e1] at e5;cases e5;simp only [GR] at e6;obtain ⟨us',e7,e8⟩:=e6;cases e7;exact (mG _ _).1 e8
         | false=>
           simp only [fV,if_false] at hzn;cases hz':z with
           | nil=>rw [hz'] at hzn;simp at hzn
           | cons a zr=>
             rw [hz'] at hzn hus hzl;simp only [TB,Aa] at hzn;simp only [aA] at hus;obtain ⟨u,ur,rfl,hu1,hu2⟩:=hus;obtain ⟨gz,k1,k2,k3⟩:=kM hzn hu1;rw [e1] at k1;cases k1;rw [GV.Gg k2];have:size=1:=by
              unfold GV.fA at b5;rw [aI,GV.Gg k2] at b5;exact (bf b5.1).symm
             rw [this] at hzl;have ny:zr=[]:=by apply jh;simpa using hzl
             subst ny;simp only [aA] at hu2;subst hu2;simp only [cZ];exact aA.cons ((kF _ _).1 k3) (by simp [aA])
        exact aeZ hz2 _ _ hvs) (by
         simp only [VR];exact ⟨⟨w.heap.size,0,xs.size,size⟩,by simp [Env.put],by simp [hsz,hcap,hlm],by simp [hsz,hcap]⟩) (by simp)
       exact ⟨_,_,_,hrun,q1,q2⟩
      ·cases g2
     ·cases g2
    ·cases hs
  ·cases hs
 ·cases hs
theorem Kw:∀ {xs:List GV} {b:List UInt8},nT xs=some b->bytesOf (cZ xs)=some b
 | [],b,h=>by simpa [nT,cZ,bytesOf] using h
 | x::xs,b,h=>by
   unfold nT at h;split at h
   ·rename_i heq;cases heq
   ·next n rest heq=>
    cases heq;simp only [cZ,jV,bytesOf];split at h
    ·next hc=>
     rw [aj hc];obtain ⟨b',hb',rfl⟩:=aX.1 h;rw [Kw hb'];rfl
    ·cases h
   ·cases h
theorem OH:∀ {xs:List GV} {b:List UInt8},nT xs=some b->xs.flatMap GV.cells=xs
 | [],b,h=>rfl
 | x::xs,b,h=>by
   unfold nT at h;split at h
   ·rename_i heq;cases heq
   ·next n rest heq=>
    cases heq;split at h
    ·obtain ⟨b',hb',_⟩:=aX.1 h
     rw [ji,OH hb'];rfl
    ·cases h
   ·cases h
theorem ar6 (h:SR P η σ w) {src dst:TypeId} {a v:AV} {x:Value} (hs:RV P src dst a σ=some (v,σ')) (hx:VR η a x) :
 ∃y w' η',(convert src dst x).run P w=.ok y w'/\St P η σ w η' σ' w'/\VR η' v y:=by
 unfold RV at hs;split at hs
 ·next d k n h1 h2=>
  obtain ⟨v',hm,e1⟩:=aX.1 hs;cases e1;simp only [VR] at hx;obtain ⟨g,a1,a2,a3⟩:=hx;obtain ⟨_,g',_,b2,b3⟩:=kS (η:=η) hm;simp only [Nd.den,a1] at b2;split at b2
  ·next kk z e1=>
   cases e1;cases b2;simp only [GR] at a3;subst a3;obtain ⟨y,w',η',r1,r2,r3⟩:=KH h (src:=src) (dst:=dst) (a:=.i kk z) (v:=.i k (k.wrap z)) (σ':=σ) (by simp only [wU,h1,h2]) (by simp only [VR]:VR η (.i kk z) (.int kk z));exact ⟨y,w',η',r1,r2,by obtain ⟨_,g2,_,c2,c3⟩:=kS (η:=η') hm;simp only [Nd.den,a1,aT] at c2;subst c2;exact c3 y rfl ((kF _ _).2 r3)⟩
  ·cases b2
 ·next n h1 h2=>
  obtain ⟨v',hm,e1⟩:=aX.1 hs;cases e1;simp only [VR] at hx;obtain ⟨g,a1,a2,a3⟩:=hx;obtain ⟨_,g',_,b2,b3⟩:=kS (η:=η) hm;simp only [Nd.den,a1] at b2;split at b2
  ·next z e1=>
   cases e1;cases b2;simp only [GR] at a3;subst a3;obtain ⟨y,w',η',r1,r2,r3⟩:=KH h (src:=src) (dst:=dst) (a:=.s z) (v:=.s z) (σ':=σ) (by simp only [wU,h1,h2]) (by simp only [VR]:VR η (.s z) (.string ⟨⟨z⟩⟩));exact ⟨y,w',η',r1,r2,by obtain ⟨_,g2,_,c2,c3⟩:=kS (η:=η') hm;simp only [Nd.den,a1,aT] at c2;subst c2;exact c3 y rfl ((kF _ _).2 r3)⟩
  ·cases b2
 ·next e n h1 h2=>
  split at hs
  ·next h3=>
   split at hs
   ·next hc=>
    split at hs
    ·next m hm=>
     cases hs;simp only [VR] at hx;obtain ⟨g,a1,a2,a3⟩:=hx;obtain ⟨g',b1,b2⟩:=fM hm;simp only [Nd.den,a1] at b2;split at b2
     ·next z e1=>
      cases e1;cases b2;simp only [GR] at a3;subst a3;obtain ⟨y,w',η',r1,r2,r3⟩:=KH h (src:=src) (dst:=dst) (a:=.s z) (v:=.sl σ.next 0 z.length none) (σ':=σ.new (.cells (uz z) e true true)) (by simp only [wU,h1,h2,h3,aj hc]) (by simp only [VR]:VR η (.s z) (.string ⟨⟨z⟩⟩));obtain ⟨q1,q2⟩:=St.wG (f:=false) (size:=1) r2 b1 (by
       intro x hx;obtain ⟨c,_,rfl⟩:=nO.1 hx;exact ⟨rfl,rfl⟩) hc.2 (λvs hvs=>by rw [aav];exact hvs) (by simpa [eU] using r3) (by simp)
      exact ⟨y,w',η',r1,q1,q2⟩
     ·cases b2
    ·cases hs
   ·cases hs
  ·cases hs
 ·next e h1 h2=>
  split at hs
  ·next h3=>
   split at hs
   ·next m hl=>
    obtain ⟨v',hm,e1⟩:=aX.1 hs;cases e1;obtain ⟨_,g',_,b2,b3⟩:=kS (η:=η) hm;simp only [Nd.den] at b2;split at b2
    ·next xs hv=>
     split at b2
     ·next h48=>
      obtain ⟨b,hb,rfl⟩:=aX.1 b2;have fin:∀ {τ:au} {A:AV},SR P η τ w->VR η A x->wU P src dst A τ=some (.s b,τ)->(∀ {η':Env} {w':World},St P η τ w η' τ w'->St P η σ w η' σ w')->∃y w' η',(convert src dst x).run P w=.ok y w'/\St P η σ w η' σ w'/\VR η' v y:=by
       intro τ A hS hA hA2 hst;obtain ⟨y,w',η',r1,r2,r3⟩:=KH hS hA2 hA;refine ⟨y,w',η',r1,hst r2, ?_⟩;obtain ⟨_,g2,_,c2,c3⟩:=kS (η:=η') hm;simp only [Nd.den,hv,aj h48,hb,fK,aT] at c2;subst c2;exact c3 y rfl ((kF _ _).2 r3)
      have hnil:nT xs=some b->xs=[]->b=[]:=by rintro h1 rfl;simpa [nT] using h1.symm
      unfold listOf at hl;split at hl
      ·next n=>
       cases hl;simp only [VR] at hx;obtain ⟨g,a1,a2,a3⟩:=hx;rw [hv] at a1;cases a1;exact fin h ((kF (.l xs) x).1 a3) (by simp only [jV,wU,h1,h2,h3,Kw hb,fK]) (λh=>h)
      ·obtain ⟨g,g1,g2⟩:=fM hl
       rw [hv] at g1;cases g1;simp only [Nd.den,valsOf,fK,aT,GV.l.injEq] at g2;have:=hnil hb g2.symm;subst this;exact fin h hx (by simp only [wU,h1,h2,h3]) (λh=>h)
      ·next id n=>
       split at hl
       ·next m' et _ hg=>
        split at hl
        ·next hc=>
         cases hl;rw [aI] at hc;simp only [VR] at hx;obtain ⟨ys,k1,hx⟩:=hx;have hlen:=xq 100 hc.2 hv k1;rcases hx with ⟨q,hq,hle,rfl⟩ | ⟨_,rfl,rfl⟩
         ·obtain ⟨xs',j1,j2,j3,j4,j5,j6,j7,hS⟩:=Jy h hg hq
          rw [hv] at j1;cases j1;have hcg:bD xs=cZ xs:=by unfold bD;rw [OH hb]
          have htk:takeN (bD xs) 0 xs.length=some (cZ xs):=by
           rw [hcg];unfold takeN;rw [dO,lu (by rw [kL];omega),aj (kL xs)]
          rw [hlen] at htk;refine fin (A:=.sl id 0 ys.length none) hS (by simp only [VR];exact ⟨q,hq,by simpa using hle,by simp⟩) ?_ (λhst=>asR (λe=>by subst e;exact (h.at hg hq).SV) hg hq hv j2 j7 (Nj hg hst));simp only [wU,h1,h2,h3,BX,htk,Kw hb,fK]
         ·have hxs:xs=[]:=jh (by simpa using hlen)
          have:=hnil hb hxs;subst this;exact fin h (A:=.bT) (by simp only [VR]) (by simp only [wU,h1,h2,h3]) (λh=>h)
        ·cases hl
       ·cases hl
      ·next id off len cap=>
       split at hl
       ·next c et rZ opn size agg hg hsz hag=>
        split at hl
        ·next hc=>
         rw [aI,lU,aI] at hc;split at hl
         ·next cs hcs=>
          split at hl
          ·next ns hns=>
           have hagg:agg=false->size=1:=by
            intro e;subst e;rcases hc.2 with h1 | h1
            ·simp at h1
            ·exact bf h1
           obtain ⟨g,g1,g2⟩:=fM hl;rw [hv] at g1;cases g1;simp only [VR] at hx;obtain ⟨q,hq,hle,rfl⟩:=hx;obtain ⟨q',hq',ws,elem,fr,hblk,rr⟩:=h.obj _ _ hg rfl;rw [hq] at hq';cases hq';have hlc:=(qg hcs).2.1;obtain ⟨gs,k1,k2,k3,_,k5⟩:=Dc (η:=η) hagg len hns (rr.xA hcs) hlc;simp only [Nd.den,k1,fK,aT,GV.l.injEq] at g2;rw [g2] at k2 k3 k5;have hl1:len * size=len:=by
            cases len with
            | zero=>simp
            | succ n=>
              have hx0:xs[0]? = some (xs[0]'(by omega)):=bM (by omega);have h5:=(k5 _ (oL hx0)).1;have h6:(xs[0]'(by omega)).cells.length=1:=by
               cases xs with
               | nil=>simp at k2
               | cons y ys=>
                 cases y with
                 | i k n=>rfl
                 | b=>simp [nT] at hb
                 | s=>simp [nT] at hb
                 | l=>simp [nT] at hb
                 | g=>simp [nT] at hb
              rw [h6] at h5;rw [<- h5];simp
           have hcg:bD xs=cZ xs:=by unfold bD;rw [OH hb]
           rw [hcg] at k3;have hxs:=Ky (Kw hb) k3;rw [hl1] at hcs hxs;refine ⟨.string ⟨⟨b⟩⟩,w,η, ?_,St.refl h, ?_⟩
           ·simp only [convert,aO,aW h1,aW h2,aN,aW h3,Conv.bytesToString]
            rw [BA hblk (rr.take hcs),hxs];simp only [aN];rw [Yj _ (λ_ _ _=>rfl)];rfl
           ·obtain ⟨_,g2,_,c2,c3⟩:=kS (η:=η) hm
            simp only [Nd.den,hv,aj h48,hb,fK,aT] at c2;subst c2;exact c3 _ rfl (by simp only [GR])
          ·cases hl
         ·cases hl
        ·cases hl
       ·cases hl
      ·cases hl
     ·cases b2
    ·cases b2
   ·cases hs
  ·cases hs
 ·cases hs
end
end Go.aJ
namespace Go.aJ
set_option linter.unusedSimpArgs false
noncomputable section
variable [aG]
set_option linter.unusedSectionVars false
set_option linter.unusedVariables false
variable {P:Program} {η:Env} {σ σ':au} {w:World}
def DL (ro:Nat->Option Obj) (w:World) (b:Nat):Nat->Option Obj:=λk=>if k=b then w.heap[b]? else ro k
theorem Ro {ro:Nat->Option Obj} {w:World} (h:∀b o,ro b=some o->w.heap[b]? = some o) (b:Nat):∀k o,ro k=some o->DL ro w b k=some o:=by
 intro k o hk;unfold DL;split
 ·next e=>subst e;exact h _ _ hk
 ·exact hk
theorem St.freeze (h:SR P η σ w) {id:Nat} {o:aY} {q:Place} (hg:σ.get id=some o) (ho:o.own=true) (hl:σ.lock<=id) (hq:η id=some q):St P η σ w ⟨η.pl,DL η.ro w q.bl,η.gh⟩ (σ.kill id) w:=by
 have hle:(η:Env).le ⟨η.pl,DL η.ro w q.bl,η.gh⟩:=⟨λ_ _ h=>h,Ro h.iP q.bl,λ_ h=>h⟩
 have sub:∀k u,(σ.kill id).get k=some u->k≠id/\σ.get k=some u:=by
  intro k u hk;rw [au.wX] at hk;split at hk
  ·cases hk
  ·next e=>exact ⟨e,hk⟩
 refine ⟨hle,⟨h.kY,h.dom,λk u hk=>?_,h.jq,λk u k' u' p p' a1 a2 a3 a4 a5 a6=>?_,λb u hb=>?_,λk u p a1 a2 a3=>?_,λp hp=>(h.tabs p hp).mono hle⟩,dH _,λ_ _ _=>rfl,λk u p a1 a2 a3 a4=>?_,rfl,rfl,rfl,rfl,dH _,λ_ h=>.inl h,λb hb=>?_⟩
 ·exact (h.live k u (sub k u hk).2).mono hle
 ·exact h.sep k u k' u' p p' (sub k u a1).2 a2 (sub k' u' a3).2 a4 a5 a6
 ·have hb':(if b=q.bl then w.heap[q.bl]? else η.ro b)=some u:=hb
  split at hb'
  ·next e=>rw [e];exact hb'
  ·exact h.iP b u hb'
 ·obtain ⟨e1,e2⟩:=sub k u a1
  show (if p.bl=q.bl then w.heap[q.bl]? else η.ro p.bl)=none
  have hne:=h.sep k u id o p q e2 a2 hg e1 a3 hq;rw [ah hne];exact h.ku k u p e2 a2 a3
 ·exact .inr ⟨k,u,p,(sub k u a1).2,a2,a3,a4,rfl⟩
 ·have hb':(if b=q.bl then w.heap[q.bl]? else η.ro b)≠none:=hb
  split at hb'
  ·next e=>exact .inr (.inr ⟨id,o,q,hg,ho,hl,hq,e.symm⟩)
  ·exact .inl hb'
theorem GR.WX {η:Env} {w:World} {q:Place} {c:List AV} {et:TypeId} {rZ opn:Bool} {ro':Nat->Option Obj} (h:OR P η q w (.cells c et rZ opn)) (hro:∀b o,η.ro b=some o->ro' b=some o) (hq:ro' q.bl=w.heap[q.bl]?) {off n size cap:Nat} {cs:List AV} {gs:List GV} (ht:takeN c off (n * size)=some cs) (hn:gs.length=n) (hcap:n<=cap) (h0:0 < size)
 (hs:∀x∈gs,x.cells.length=size/\x.cells.all GV.scalar=true) (hc:∀ (η':Env) vs,(∀b o,η.ro b=some o->η'.ro b=some o)->aA η cs vs->aA η' (bD gs) vs):GR ro' (.l gs) (.slice (some ⟨q.bl,q.ba+off,none⟩) n cap):=by
 obtain ⟨ws,elem,fr,hb,r⟩:=h;have h1:=r.xA ht;have hfit:=r.take ht;obtain ⟨e1,e2,e3⟩:=qg ht;have h2:=hc ⟨η.pl,ro',η.gh⟩ _ hro h1;obtain ⟨ys,y1,y2,y3⟩:=ungroup gs _ h2 (λx hx=>(hs x hx).2);simp only [GR];right;refine ⟨q.bl,q.ba+off,cap,ys,size,by rw [hn],by rw [hn];exact hcap,y1,λy hy=>?_,λhne=>⟨ws,elem,fr,by rw [hq,hb], ?_, ?_⟩⟩
 ·obtain ⟨k,hk⟩:=JJ hy
  have hkl:k < gs.length:=by rw [y1.length];exact (dX.1 hk).1
  rw [y3 k _ y (bM hkl) hk];exact (hs _ (gU hkl)).1
 ·rw [y2]
  have hnp:0 < gs.length:=NM.2 hne;have hp:0 < n * size:=JU (by omega) h0;rw [mM,eH,GI];omega
 ·rw [y2]
  intro k x hk;rw [kQ] at hk;split at hk
  ·rw [qw,tX] at hk;exact hk
  ·cases hk
theorem VR.abW (h:SR P η σ w) {id n m et:Nat} {f:Bool} {x:Value} {ro':Nat->Option Obj} (hg:σ.get id=some (.vec m et f)) (hs:tJ 100 m n=true) (hx:VR η (.sv id n) x) (hro:∀b o,η.ro b=some o->ro' b=some o) (hq:∀q,η id=some q->ro' q.bl=w.heap[q.bl]?) :
 ∃ys,aG.val m=some (.l ys)/\GR ro' (.l ys) x:=by
 simp only [VR] at hx;obtain ⟨ys,k1,hx⟩:=hx;rcases hx with ⟨q,hq1,hle,rfl⟩ | ⟨hgh,rfl,rfl⟩
 ·obtain ⟨xs,x1,x2,x3,x4,x5,x6,x7,x8⟩:=(h.at hg hq1).I9
  have hlen:=xq 100 hs x1 k1;refine ⟨xs,x1, ?_⟩;have hcl:=Ey x2;have:=GR.WX (ro':=ro') (off:=0) (n:=ys.length) (size:=q.es) (cap:=q.sz / q.es) (cs:=bD xs) (gs:=xs) x8 hro (hq q hq1) (by
   unfold takeN;rw [dO,<- hlen,lu (by omega),aj hcl]) hlen hle x4 (λx hx=>⟨x2 x hx,x7 x hx⟩) (λη' vs hro hvs=>by
    unfold bD at hvs ⊢;exact (mG _ _).1 (aK.mono hro _ _ ((mG _ _).2 hvs)))
  simpa using this
 ·rcases h.live id _ hg with ⟨q,hq1,_⟩ | ⟨_,n2,U0,f2,e2,hv0⟩
  ·rw [(h.jq id hgh).1] at hq1;cases hq1
  ·cases e2
   exact ⟨[],hv0,by simp [GR]⟩
theorem ZI {η':Env} (hle:η.le η') {o:Option AV} {v:Option Value} (h:jS η o v):jS η' o v:=by
 cases o<;>cases v<;>first | exact h | exact VR.mono hle _ _ h
theorem St.apd (h:SR P η σ w) {id m et k:Nat} {f:Bool} (hg:σ.get id=some (.vec m et f)) (hgh:η.gh id=true) (hv:aG.val k=some (.l [])):St P η σ w η (σ.put id (.vec k et f)) w:=by
 have get:∀i u,(σ.put id (.vec k et f)).get i=some u->(i=id/\u=.vec k et f)\/(i≠id/\σ.get i=some u):=by
  intro i u hi;rw [au.get_put] at hi;split at hi
  ·next e=>cases hi;exact .inl ⟨e,rfl⟩
  ·next e=>exact .inr ⟨e,hi⟩
 have hno:∀q,η id≠some q:=λq hq=>by rw [(h.jq id hgh).1] at hq;cases hq
 refine ⟨Env.le.refl _,⟨h.kY,h.dom,λi u hi=>?_,h.jq,λi u i' u' q q' a1 a2 a3 a4 a5 a6=>?_,h.iP,λi u q a1 a2 a3=>?_,h.tabs⟩,dH _,λ_ _ _=>rfl,λi u q a1 a2 a3 a4=>?_,rfl,rfl,rfl,rfl,dH _,λ_ h=>.inl h,λ_ h=>.inl h⟩
 ·rcases get i u hi with ⟨rfl,rfl⟩ | ⟨_,h1⟩
  ·exact .inr ⟨hgh,k,et,f,rfl,hv⟩
  ·exact h.live i u h1
 ·rcases get i u a1 with ⟨rfl,_⟩ | ⟨_,h1⟩
  ·exact absurd a5 (hno q)
  ·rcases get i' u' a3 with ⟨rfl,_⟩ | ⟨_,h2⟩
   ·exact absurd a6 (hno q')
   ·exact h.sep i u i' u' q q' h1 a2 h2 a4 a5 a6
 ·rcases get i u a1 with ⟨rfl,_⟩ | ⟨_,h1⟩
  ·exact absurd a3 (hno q)
  ·exact h.ku i u q h1 a2 a3
 ·rcases get i u a1 with ⟨rfl,_⟩ | ⟨_,h1⟩
  ·exact absurd a4 (hno q)
  ·exact .inr ⟨i,u,q,h1,a2,a3,a4,rfl⟩
theorem asf (h:SR P η σ w) {t:TypeId} {a v:AV} {x:Value} {lo hi:Option AV} {lo' hi':Option Value} (hs:Sr P t σ a lo hi=some (v,σ')) (hx:VR η a x) (hlo:jS η lo lo') (hhi:jS η hi hi') :
 ∃y w' η',(Instr.sliceAt t x lo' hi' none).run P w=.ok y w'/\St P η σ w η' σ' w'/\VR η' v y:=by
 unfold Sr at hs;split at hs;rotate_left
 ·cases hs
 next e id n hu=>
 split at hs;rotate_left
 ·cases hs
 next m et f size hg hsz=>
 split at hs;rotate_left
 ·cases hs
 next hc=>
 simp only [aI] at hc;obtain ⟨⟨c1,c2⟩,c3⟩:=hc;have e1:=bf c1;subst e1;have hlk:=qE c3;cases lo with
 | some l0=>
   simp only at hs;obtain ⟨r,hr,e2⟩:=aX.1 hs;cases e2;have key:∀η1:Env,SR P η1 (σ.kill id) w->St P η σ w η1 (σ.kill id) w->VR η1 (.nd m) x->∃y w' η',(Instr.sliceAt t x lo' hi' none).run P w=.ok y w'/\St P η σ w η' (σ.kill id) w'/\VR η' v y:=by
    intro η1 h1 hst hv;obtain ⟨y,k1,k2⟩:=afE h1 hr hv (ZI hst.ext hlo) (ZI hst.ext hhi);exact ⟨y,w,η1,k1,hst,k2⟩
   have hx0:=hx;simp only [VR] at hx0;obtain ⟨ys,k1,hx0⟩:=hx0;rcases hx0 with ⟨q,hq1,hle,_⟩ | ⟨hgh,_,_⟩
   ·have hst:=St.freeze h hg rfl hlk hq1
    obtain ⟨zs,z1,z2⟩:=VR.abW (ro':=DL η.ro w q.bl) h hg c2 hx (Ro h.iP q.bl) (λq' hq'=>by rw [hq1] at hq';cases hq';unfold DL;rw [aj rfl]);exact key _ hst.rel hst (by simp only [VR];exact ⟨_,z1,rfl,z2⟩)
   ·obtain ⟨zs,z1,z2⟩:=VR.abW (ro':=η.ro) h hg c2 hx (λ_ _ h=>h) (λq' hq'=>by rw [(h.jq id hgh).1] at hq';cases hq')
    have hst:=(St.refl h).Qr id;exact key η hst.rel hst (by simp only [VR];exact ⟨_,z1,rfl,z2⟩)
 | none=>
   simp only at hs;split at hs;rotate_left
   ·cases hs
   next z hh h1 h2=>
   obtain ⟨k,hk,e2⟩:=aX.1 hs;cases e2;obtain ⟨g,g1,g2⟩:=fM hk;simp only [Nd.den] at g2;split at g2;rotate_left
   ·cases g2
   next xs kl li kh hi2 e3 e4 e5=>
   split at g2;rotate_left
   ·cases g2
   next hc=>
   cases g2;obtain ⟨b1,b2,b3,b4⟩:=hc;have hz:li=0:=by
    obtain ⟨gz,z1,z2⟩:=fM h1;simp only [Nd.den,aT] at z2;subst z2;rw [e4] at z1;cases z1;rfl
   subst hz;have hlt:Ku (none:Option AV)=some z:=h1;obtain ⟨lo2,hi3,d1,d2,d3⟩:=YE (len:=xs.length) hlt h2 hlo hhi e4 e5 (λhd=>by simp only [Nd.den,e3,aT,GV.i.injEq] at hd;exact hd.2.symm) b1 b2 b3;have hlo2:(0:Int).toNat=0:=rfl;simp only [VR] at hx;obtain ⟨ys,y1,hx⟩:=hx;have hlen:=xq 100 c2 e3 y1;have hks:(xs.take hi2.toNat).drop (0:Int).toNat=xs.take hi2.toNat:=by simp
   rw [hks] at g1;have Lr:hi2.toNat<=xs.length:=by omega
   rcases hx with ⟨q,hq1,hle,rfl⟩ | ⟨hgh,rfl,rfl⟩
   ·have hor:=h.at hg hq1
    obtain ⟨xs',cs,elem,fr,zs,o1,o2,o3,o4,o5,o6,o7,o8,o9⟩:=hor;rw [e3] at o1;cases o1
    have hB:=CV (P:=P) (w:=w) (sl:=true) (cap:=q.sz / q.es) d3 (λk hk=>by have:k<=xs.length:=by simpa using hk
                                                                          omega) (by omega) d1 d2
    have hes:0 < q.es/\sizeT P e=some q.es:=⟨(o7.room rfl).2.1,(o7.room rfl).2.2⟩
    have hne:size=q.es:=by have:=hes.2;rw [hsz] at this;cases this;rfl
    have hnew:OR P η q w (.vec k e f):=by
     have hz1:=o3.length;refine ⟨xs.take hi2.toNat,cs,elem,fr,zs.take hi2.toNat,g1,o2, ?_,λy hy=>o4 y (GZ hy), ?_, ?_,o7,λx hx=>o8 x (GZ hx),o9⟩
     ·have:∀ (xs:List GV) (zs:List Value) (n:Nat),aK η.ro xs zs->aK η.ro (xs.take n) (zs.take n):=by
       intro xs;induction xs with
       | nil=>intro zs n hg;simp only [aK] at hg;subst hg;simp [aK]
       | cons a l ih=>
         intro zs n hg;simp only [aK] at hg;obtain ⟨x,us,rfl,a1,a2⟩:=hg;cases n with
         | zero=>simp [aK]
         | succ n=>simp only [zZ,aK];exact ⟨x,us.take n,rfl,a1,ih us n a2⟩
      exact this _ _ _ o3
     ·intro j x hj
      refine o5 j x ?_;have hpre:(dh (zs.take hi2.toNat)) <+: dh zs:=by
       unfold dh;rw [show zs=zs.take hi2.toNat++zs.drop hi2.toNat from (G5 _ _).symm];rw [Zq];simp only [G5];exact List.prefix_append _ _
      obtain ⟨r,hr⟩:=hpre;rw [<- hr,lV (dX.1 hj).1];exact hj
     ·rw [mM]
      refine jw (sH _ (Nat.min_le_right _ _)) o6
    have hst:=St.write h hg rfl hlk hq1 (w':=w) (o':=.vec k e f) rfl (λ_ _=>rfl) rfl rfl rfl hnew;refine ⟨.slice (some ⟨q.bl,q.ba,none⟩) hi2.toNat (q.sz / q.es),w,η, ?_,hst, ?_⟩
    ·rw [hlen] at hB
     simp only [Instr.sliceAt,Instr.slice,aW hu,aO,aN,hB.1,iI hsz,aZ];by_cases e0:q.sz / q.es=0
     ·simp [e0]
     ·have e1:¬ q.sz / q.es=(0:Int).toNat:=e0
      rw [ah e1];simp [oO]
    ·simp only [VR]
     refine ⟨xs.take hi2.toNat,g1,.inl ⟨q,hq1, ?_, ?_⟩⟩
     ·rw [mM];omega
     ·rw [mM,JR Lr]
   ·have hxs:xs=[]:=jh (by simpa using hlen)
    subst hxs;have hh0:hi2.toNat=0:=by simpa using Lr
    have hl:yP P t σ .bT lo2 hi3=some .bT:=by
     simp only [yP,hu,hsz];simp only [qy] at d3;rw [d3];rfl
    obtain ⟨y,u1,u2⟩:=RD h hl (show VR η .bT (.slice none 0 0) by simp only [VR]) d1 d2;simp only [VR] at u2;subst u2;have hvk:aG.val k=some (.l []):=by rw [g1];simp
    refine ⟨_,w,η,u1,St.apd h hg hgh hvk, ?_⟩;simp only [VR];exact ⟨[],hvk,.inr ⟨hgh,by trivial,by trivial⟩⟩
end
end Go.aJ
namespace Go.aJ
set_option linter.unusedSimpArgs false
noncomputable section
variable [aG]
set_option linter.unusedSectionVars false
set_option linter.unusedVariables false
variable {P:Program} {η:Env} {σ σ':au} {w:World}
def rU (kk:Option IntKind):TypeDesc:=match kk with
 | some k=>.int k
 | none=>.string
theorem Qp {kt:TypeId} {k:AV} {n:Nat} {kk:Option IntKind} {y:Value} (h:LG P kt k=some (n,kk)) (hy:VR η k y) :
 P.underlying kt=some (rU kk)/\∃g,aG.val n=some g/\yg kk g/\GR η.ro g y:=by
 unfold LG at h;split at h
 ·next A8 m hu hn=>
  split at h
  ·next z hz=>
   obtain ⟨j,hj,e⟩:=aX.1 h;cases e;obtain ⟨g,h1,_,h3⟩:=kM hn hy;obtain ⟨z',h4,h5⟩:=fM hz;simp only [Nd.den,aT] at h5;subst h5;obtain ⟨r,_,h7⟩:=fM hj;simp only [Nd.den,h1,h4] at h7;refine ⟨hu,g,h1, ?_,h3⟩;cases g<;>simp only [gG,fO,reduceCtorEq] at h7
   split at h7
   ·next e=>subst e;exact ⟨_,rfl⟩
   ·cases h7
  ·cases h
 ·next m hu hn=>
  split at h
  ·next z hz=>
   obtain ⟨j,hj,e⟩:=aX.1 h;cases e;obtain ⟨g,h1,_,h3⟩:=kM hn hy;obtain ⟨z',h4,h5⟩:=fM hz;simp only [Nd.den,aT] at h5;subst h5;obtain ⟨r,_,h7⟩:=fM hj;simp only [Nd.den,h1,h4] at h7;refine ⟨hu,g,h1, ?_,h3⟩;cases g<;>simp only [gG,vg,reduceCtorEq] at h7
   exact ⟨_,rfl⟩
  ·cases h
 ·cases h
theorem afb {k:IntKind} {a b:Int}:Instr.sameNow (.int k) (.int k a) (.int k b)=some (a==b):=by simp [Instr.sameNow]
theorem afd {a b:List UInt8}:Instr.sameNow .string (.string ⟨⟨a⟩⟩) (.string ⟨⟨b⟩⟩)=some (a==b):=by simp [Instr.sameNow,Eh]
theorem acK {kk:Option IntKind} {n:Nat} {e:AV} {g:GV} {x y:Value} {b:Bool} (h:V8 n e=some b) (hg:aG.val n=some g) (hk:yg kk g) (hy:GR η.ro g y) (hx:VR η e x) :
 Instr.sameNow (rU kk) y x=some b:=by
 unfold V8 at h;split at h
 ·next m hm=>
  obtain ⟨g',h1,_,h3⟩:=kM hm hx;have key:∃r,(Nd.bin .eql n m).den aG.I aG.val=some r/\r=.b b:=by
   split at h
   ·next b' hb=>
    cases h;obtain ⟨j,r,q1,q2,q3⟩:=kS (η:=η) hb;refine ⟨r,q2, ?_⟩;simp only [Nd.den,hg,h1] at q2;have:∃c,r=.b c:=by
     cases g<;>cases g'<;>simp only [gG,reduceCtorEq] at q2
     ·split at q2
      ·simp only [fO,aT] at q2;exact ⟨_,q2.symm⟩
      ·cases q2
     ·simp only [vg,aT] at q2;exact ⟨_,q2.symm⟩
    obtain ⟨c,rfl⟩:=this;have:=q3 (.bool c) rfl (by simp only [GR]);simp only [VR] at this;cases this;rfl
   ·next j hb=>
    split at h
    ·next b' hd=>
     cases h;obtain ⟨j',r,q1,q2,q3⟩:=kS (η:=η) hb;refine ⟨r,q2, ?_⟩;simp only [Nd.den,hg,h1] at q2;have:∃c,r=.b c:=by
      cases g<;>cases g'<;>simp only [gG,reduceCtorEq] at q2
      ·split at q2
       ·simp only [fO,aT] at q2;exact ⟨_,q2.symm⟩
       ·cases q2
      ·simp only [vg,aT] at q2;exact ⟨_,q2.symm⟩
     obtain ⟨c,rfl⟩:=this;have h8:=q3 (.bool c) rfl (by simp only [GR]);obtain ⟨v,hv,q4⟩:=ED hd;cases hv;have:=q4 η _ h8;simp only [VR] at this;cases this;rfl
    ·cases h
   ·cases h
  obtain ⟨r,q2,rfl⟩:=key;simp only [Nd.den,hg,h1] at q2;cases kk with
  | some k=>
    obtain ⟨a,rfl⟩:=hk;simp only [GR] at hy;subst hy;cases g'<;>simp only [gG,reduceCtorEq] at q2
    split at q2
    ·next e=>
     subst e;simp only [fO,aT,GV.b.injEq] at q2;simp only [GR] at h3;subst h3;show Instr.sameNow (.int _) _ _=_
     rw [afb,q2]
    ·cases q2
  | none=>
    obtain ⟨a,rfl⟩:=hk;simp only [GR] at hy;subst hy;cases g'<;>simp only [gG,vg,reduceCtorEq] at q2
    simp only [aT,GV.b.injEq] at q2;simp only [GR] at h3;subst h3;show Instr.sameNow .string _ _=_
    rw [afd,q2]
 ·cases h
theorem KU {kk:Option IntKind} {n:Nat} {g:GV} {y:Value} (hg:aG.val n=some g) (hk:yg kk g) (hy:GR η.ro g y):∀ {es:List (AV×AV)} {ms:List MapEntry} {i:Nat} {r:Option (Nat×AV)},
 Il n es i=some r->wO η es ms->∃r',Instr.findNow (rU kk) y ms i=some r'/\(match r,r' with | none,none=>True | some (_,v),some (_,z)=>VR η v z | _,_=>False)
 | [],ms,i,r,h,hm=>by
   simp only [Il,aT] at h;subst h;have:ms=[]:=by have:=hm.1;cases ms<;>simp_all
   subst this;exact ⟨none,rfl,trivial⟩
 | e::es,ms,i,r,h,hm=>by
   obtain ⟨m,rest,rfl,h1,h2,h3⟩:=hm.tail;unfold Il at h;split at h
   ·next hs=>
    cases h;have hs:=acK hs hg hk hy h1;exact ⟨some (i,m.val),by simp [Instr.findNow,hs],h2⟩
   ·next hs=>
    have hs:=acK hs hg hk hy h1;obtain ⟨r',hr,hrel⟩:=KU hg hk hy h h3;exact ⟨r',by simp [Instr.findNow,hs,hr],hrel⟩
   ·cases h
theorem afc {kk:Option IntKind} {g a:GV} {y x:Value} {ro:Nat->Option Obj} (hk:yg kk g) (ha:yg kk a) (hy:GR ro g y) (hx:GR ro a x):Instr.sameNow (rU kk) y x=some (nG g a):=by
 cases kk with
 | some k=>
   obtain ⟨m,rfl⟩:=hk;obtain ⟨n,rfl⟩:=ha;simp only [GR] at hy hx;subst hy;subst hx;show Instr.sameNow (.int _) _ _=_
   rw [afb];simp [nG]
 | none=>
   obtain ⟨m,rfl⟩:=hk;obtain ⟨n,rfl⟩:=ha;simp only [GR] at hy hx;subst hy;subst hx;show Instr.sameNow .string _ _=_
   rw [afd];rfl
theorem PD {ro:Nat->Option Obj} {kk:Option IntKind} {sz:Option Nat} {g:GV} {y:Value} (hk:yg kk g) (hy:GR ro g y):∀ {xs:List GV} {ms:List MapEntry} {i:Nat},qA ro kk sz xs ms->
 (ig g xs=none/\Instr.findNow (rU kk) y ms i=some none)\/∃u j z,ig g xs=some u/\Instr.findNow (rU kk) y ms i=some (some (j,z))/\i<=j/\(∃m,ms[j - i]? = some m/\Instr.sameNow (rU kk) y m.key=some true)/\Jz sz u/\GR ro u z
 | [],ms,i,h=>by
   simp only [qA] at h;subst h;exact .inl ⟨rfl,rfl⟩
 | x::xs,ms,i,h=>by
   obtain ⟨a,b,m,rest,rfl,rfl,h1,h2,h3,h4,h5⟩:=h;have hs:=afc hk h1 hy h3;cases hb:nG g a with
   | true=>
     rw [hb] at hs;exact .inr ⟨b,i,m.val,by simp [ig,hb],by simp [Instr.findNow,hs],dH _,⟨m,by simp,hs⟩,h2,h4⟩
   | false=>
     rw [hb] at hs;rcases PD (i:=i+1) hk hy h5 with ⟨q1,q2⟩ | ⟨u,j,z,q1,q2,q3,⟨m',q4,q5⟩,q6⟩
     ·exact .inl ⟨by simp [ig,hb,q1],by simp [Instr.findNow,hs,q2]⟩
     ·refine .inr ⟨u,j,z,by simp [ig,hb,q1],by simp [Instr.findNow,hs,q2],by omega,⟨m', ?_,q5⟩,q6⟩
      have:j - i=(j - (i+1))+1:=by omega
      rw [this];simpa using q4
theorem aeM {ro:Nat->Option Obj} {kk:Option IntKind} {sz:Option Nat} {g u:GV} {e:MapEntry} (hk:yg kk g) (hu:Jz sz u) (h1:GR ro g e.key) (h2:GR ro u e.val):∀ {xs:List GV} {ms:List MapEntry},qA ro kk sz xs ms->ig g xs=none->
 qA ro kk sz (jZ g u xs) (ms++[e])
 | [],ms,h,_=>by
   simp only [qA] at h;subst h;exact ⟨g,u,e,[],rfl,rfl,hk,hu,h1,h2,rfl⟩
 | x::xs,ms,h,hn=>by
   obtain ⟨a,b,m,rest,rfl,rfl,q1,q2,q3,q4,q5⟩:=h;simp only [ig] at hn;split at hn
   ·cases hn
   ·next hb=>
    simp only [jZ,ah hb];exact ⟨a,b,m,rest++[e],rfl,rfl,q1,q2,q3,q4,aeM hk hu h1 h2 q5 hn⟩
theorem aeN {ro:Nat->Option Obj} {kk:Option IntKind} {sz:Option Nat} {g u:GV} {y z':Value} (hk:yg kk g) (hu:Jz sz u) (h1:GR ro g y) (h2:GR ro u z'):∀ {xs:List GV} {ms:List MapEntry} {i j:Nat} {z:Value},qA ro kk sz xs ms->Instr.findNow (rU kk) y ms i=some (some (j,z))->
 qA ro kk sz (jZ g u xs) (ms.modify (j - i) λe=>{ e with key:=y,val:=z' })
 | [],ms,i,j,z,h,hf=>by
   simp only [qA] at h;subst h;simp [Instr.findNow] at hf
 | x::xs,ms,i,j,z,h,hf=>by
   obtain ⟨a,b,m,rest,rfl,rfl,q1,q2,q3,q4,q5⟩:=h;have hs:=afc hk q1 h1 q3;cases hb:nG g a with
   | true=>
     rw [hb] at hs;simp only [Instr.findNow,hs,aT,kH] at hf;obtain ⟨rfl,rfl⟩:=hf;simp only [jZ,hb,if_true,yI];exact ⟨g,u, { m with key:=y,val:=z' },rest,rfl,by simp,hk,hu,h1,h2,q5⟩
   | false=>
     rw [hb] at hs;simp only [Instr.findNow,hs] at hf;have hj:i+1<=j:=by
      rcases PD (i:=i+1) hk h1 q5 with ⟨_,r2⟩ | ⟨_,j',_,_,r2,r3,_⟩
      ·rw [hf] at r2;cases r2
      ·rw [hf] at r2;cases r2;exact r3
     have ih:=aeN hk hu h1 h2 q5 hf;have e:j - i=(j - (i+1))+1:=by omega
     rw [e];simp only [jZ,hb,fV,if_false,List.modify_succ_cons];exact ⟨a,b,m,_,rfl,rfl,q1,q2,q3,q4,ih⟩
theorem OU {kt:TypeId} {kk:Option IntKind} {g:GV} {y:Value} (hu:P.underlying kt=some (rU kk)) (hk:yg kk g) (hy:GR η.ro g y) (b:Bool):(Instr.checkKey b 10000 kt y).run P w=.ok () w:=by
 have H:∀n:Nat,(Instr.checkKey b (n+1) kt y).run P w=.ok () w:=λn=>by
  cases kk with
  | some k=>
    obtain ⟨m,rfl⟩:=hk;simp only [GR] at hy;subst hy;simp only [Instr.checkKey,aO,aW hu,aN,rU,aZ]
  | none=>
    obtain ⟨m,rfl⟩:=hk;simp only [GR] at hy;subst hy;simp only [Instr.checkKey,aO,aW hu,aN,rU,aZ]
 exact H 9999
theorem af2 {et:TypeId} {v:AV} {n:Nat} {sz:Option Nat} {x:Value} (h:Nl P et v=some (n,sz)) (hx:VR η v x):∃g,aG.val n=some g/\Jz sz g/\GR η.ro g x/\(match nD P et with
 | some true=>∃k,sizeT P et=some k/\sz=some k
 | some false=>sz=none
 | none=>False):=by
 unfold Nl at h;split at h
 ·next ha=>
  split at h
  ·next n' k hn hk=>
   split at h
   ·next he=>
    cases h;obtain ⟨l,gs,rfl,h1,h2,h3,h4⟩:=Hr hn hx;rw [ha];refine ⟨_,h2,⟨gs,rfl, ?_,h3⟩,h4,k,hk,rfl⟩;rw [h1];exact bf he
   ·cases h
  ·cases h
 ·next ha=>
  obtain ⟨n',hn,e⟩:=aX.1 h;cases e;obtain ⟨g,h1,h2,h3⟩:=kM hn hx;rw [ha];exact ⟨g,h1,h2,h3,rfl⟩
 ·cases h
theorem Qs {a b:Option IntKind} (h:IY a b=true):a=b:=by
 cases a<;>cases b<;>simp only [IY] at h
 ·rfl
 ·cases h
 ·cases h
 ·rw [Qm h]
theorem YF {a b:Option Nat} (h:Nb a b=true):a=b:=by
 cases a<;>cases b<;>simp only [Nb] at h
 ·rfl
 ·cases h
 ·cases h
 ·rw [bf h]
theorem Y2 {et:TypeId} {z:AV} (h:Ns P et=some z):∃x,(zeroValue et).run P w=.ok x w/\VR η z x:=by
 unfold Ns at h;split at h
 ·next i hi=>
  split at h
  ·next x hx=>
   obtain ⟨h3,h4⟩:=Tf (w:=w) (η:=η) hi hx h;exact ⟨x,h3,h4⟩
  ·cases h
 ·cases h
theorem alc:∀ (cs:List GV) (n:Nat),cs.length=n->takeN (cZ cs) 0 n=some (cZ cs):=by
 intro cs n hn;have hl:(cZ cs).length=n:=by rw [kL,hn]
 simp only [takeN,dO];rw [lu (by omega),aj hl]
theorem je (s:ByteArray):∀ (l:List MapEntry) (i:Nat),(∀m∈l,∃t,m.key=.string t)->
 (∃j m,Instr.findNow .string (.string s) l i=some (some (j,m.val))/\m∈l/\m.key=.string s)\/(Instr.findNow .string (.string s) l i=some none/\∀m∈l,m.key≠.string s)
 | [],i,_=>.inr ⟨rfl,λm hm=>by simp at hm⟩
 | m::l,i,h=>by
   obtain ⟨t,ht⟩:=h m (by simp);have hs:Instr.sameNow .string (.string s) m.key=some (s==t):=by rw [ht];rfl
   have hbb:(s==t)=decide (s=t):=by
    obtain ⟨⟨a⟩⟩:=s;obtain ⟨⟨b⟩⟩:=t;rw [Eh];by_cases c:a=b
    ·subst c;simp
    ·rw [Ib (by simpa using c)];simpa using c
   by_cases c:s=t
   ·subst c
    rw [hbb,Ic rfl] at hs;exact .inl ⟨i,m,by simp [Instr.findNow,hs],by simp,ht⟩
   ·rw [hbb,Ib c] at hs
    rcases je s l (i+1) (λm hm=>h m (by simp [hm])) with ⟨j,m',h1,h2,h3⟩ | ⟨h1,h2⟩
    ·exact .inl ⟨j,m',by simp [Instr.findNow,hs,h1],by simp [h2],h3⟩
    ·refine .inr ⟨by simp [Instr.findNow,hs,h1],λm' hm'=>?_⟩
     simp only [bC] at hm';rcases hm' with rfl | hm'
     ·rw [ht];simpa using λe=>c e.symm
     ·exact h2 m' hm'
theorem abL (s:ByteArray) {l l':List MapEntry} (hp:l.Perm l') (hk:∀m∈l',∃t,m.key=.string t) (hn:(l'.map (·.key)).Nodup) {r:Option (Nat×Value)} (h:Instr.findNow .string (.string s) l' 0=some r) :
 ∃r',Instr.findNow .string (.string s) l 0=some r'/\(match r,r' with | none,none=>True | some (_,v),some (_,z)=>v=z | _,_=>False):=by
 have hk2:∀m∈l,∃t,m.key=.string t:=λm hm=>hk m (hp.mem_iff.1 hm);have inj:∀m∈l',∀m'∈l',m.key=m'.key->m=m':=by
  clear hp hk h hk2;induction l' with
  | nil=>intro m hm;simp at hm
  | cons a l ih=>
    simp only [gV,ZA,nO,not_exists,not_and] at hn;intro m hm m' hm' e;simp only [bC] at hm hm';rcases hm with rfl | hm<;>rcases hm' with rfl | hm'
    ·rfl
    ·exact absurd e.symm (hn.1 m' hm')
    ·exact absurd e (hn.1 m hm)
    ·exact ih hn.2 m hm m' hm' e
 rcases je s l' 0 hk with ⟨j,m,h1,h2,h3⟩ | ⟨h1,h2⟩<;>rcases je s l 0 hk2 with ⟨j',m',h4,h5,h6⟩ | ⟨h4,h5⟩
 ·rw [h1] at h;cases h
  refine ⟨_,h4, ?_⟩;have:=inj m h2 m' (hp.mem_iff.1 h5) (by rw [h3,h6]);subst this;rfl
 ·exact absurd h3 (h5 m (hp.mem_iff.2 h2))
 ·exact absurd h6 (h2 m' (hp.mem_iff.1 h5))
 ·rw [h1] at h;cases h
  exact ⟨_,h4,trivial⟩
theorem asc (h:SR P η σ w) {t:TypeId} {m k v:AV} {x y:Value} {ok:Bool} (hs:Sj P t m k ok σ=some v) (hx:VR η m x) (hy:VR η k y) :
 ∃z,(Instr.lookup t x y ok).run P w=.ok z w/\VR η v z:=by
 unfold Sj at hs;split at hs;rotate_left
 ·cases hs
 next kt et id hu=>
 simp only [VR] at hx;obtain ⟨q,hq,rfl⟩:=hx;split at hs
 ·next n kk es hn hg=>
  obtain ⟨mD,g,g1,g2,g3⟩:=Qp hn hy;obtain ⟨q',hq',ms,clock,hb,hsz,hp⟩:=h.obj _ _ hg rfl;rw [hq] at hq';cases hq';have hmr:wO η es ms.toList:=⟨by simpa using hsz,λk e hk=>by obtain ⟨m,hm,h1,h2⟩:=hp k e hk;exact ⟨m,by simpa using hm,h1,h2⟩⟩
  rw [QG hu y ok hb];have hck:∀b,(Instr.checkKey b 10000 kt y).run P w=.ok () w:=λb=>OU mD g2 g3 b;split at hs
  ·next j u hf=>
   cases hs;obtain ⟨r',h1,h2⟩:=KU g1 g2 g3 hf hmr;cases r' with
   | none=>exact h2.elim
   | some p=>
     obtain ⟨j',z⟩:=p;have hfk:(Instr.findKey kt y ms.toList).run P w=.ok (some (j',z)) w:=by simp only [Instr.findKey,aO,aW mD,aN,h1,aZ]
     refine ⟨if ok then .tuple #[z,.bool true] else z, ?_, ?_⟩
     ·simp only [qJ,aO,aN,hck,hfk,aZ]
     ·cases ok
      ·simpa using h2
      ·simp only [VR];exact ⟨[z,.bool true],rfl,aA.cons h2 (aA.cons (by simp [VR]) (by simp [aA]))⟩
  ·next hf=>
   obtain ⟨r',h1,h2⟩:=KU g1 g2 g3 hf hmr;cases r' with
   | some p=>exact h2.elim
   | none=>
     have hfk:(Instr.findKey kt y ms.toList).run P w=.ok none w:=by simp only [Instr.findKey,aO,aW mD,aN,h1,aZ]
     obtain ⟨a,ha,rfl⟩:=aX.1 hs;obtain ⟨z,h3,h4⟩:=Y2 (w:=w) (η:=η) ha;refine ⟨if ok then .tuple #[z,.bool false] else z, ?_, ?_⟩
     ·simp only [qJ,aO,aN,hck,hfk,h3,aZ]
     ·cases ok
      ·simpa using h4
      ·simp only [VR];exact ⟨[z,.bool false],rfl,aA.cons h4 (aA.cons (by simp [VR]) (by simp [aA]))⟩
  ·cases hs
 ·next n kk es hn hg=>
  obtain ⟨mD,g,g1,g2,g3⟩:=Qp hn hy;obtain ⟨q',hq',hnd,ms,clock,ms',hb,hpm,hsz,hp⟩:=h.obj _ _ hg rfl;rw [hq] at hq';cases hq';split at hs;rotate_left
  ·cases hs
  next hkk=>
  have:=Qs hkk;subst this;have hmr:wO η (es.map λe=>(AV.s e.1,e.2)) ms':=⟨by simpa using hsz,λk e hk=>by
   rw [iF] at hk;obtain ⟨e0,h4,rfl⟩:=aX.1 hk;obtain ⟨m,hm,h1,h2⟩:=hp k e0 h4;exact ⟨m,hm,by simp only [VR];exact h1,h2⟩⟩
  have hkeys:ms'.map (·.key)=es.map λe=>Value.string ⟨⟨e.1⟩⟩:=by
   apply GX;intro k;rw [iF,iF];cases he:es[k]? with
   | none=>
     have:ms'[k]? = none:=by rw [List.getElem?_eq_none_iff] at he ⊢;omega
     rw [this];rfl
   | some e=>
     obtain ⟨m,hm,h1,_⟩:=hp k e he;rw [hm];simp [h1]
  have hks:∀m∈ms',∃t,m.key=.string t:=λm hm=>by
   have:m.key∈ms'.map (·.key):=List.mem_map_of_mem hm;rw [hkeys] at this;obtain ⟨e,_,h1⟩:=nO.1 this;exact ⟨_,h1.symm⟩
  have acw:(ms'.map (·.key)).Nodup:=by
   rw [hkeys];have:(es.map λe=>Value.string ⟨⟨e.1⟩⟩)=(es.map (·.1)).map λs=>Value.string ⟨⟨s⟩⟩:=by simp
   rw [this];refine List.Pairwise.map _ (λa b hab hc=>hab ?_) hnd;simpa using hc
  obtain ⟨s,hs1,hs2⟩:∃s,y=.string s/\True:=by
   obtain ⟨s0,rfl⟩:=g2;simp only [GR] at g3;exact ⟨_,g3,trivial⟩
  subst hs1;rw [QG hu _ ok hb];have hck:∀b,(Instr.checkKey b 10000 kt (.string s)).run P w=.ok () w:=λb=>OU mD g2 g3 b;split at hs
  ·next j u hf=>
   cases hs;obtain ⟨r',h1,h2⟩:=KU g1 g2 g3 hf hmr;cases r' with
   | none=>exact h2.elim
   | some p=>
     obtain ⟨j',z⟩:=p;obtain ⟨r2,h3,h4⟩:=abL s hpm hks acw h1;cases r2 with
     | none=>exact h4.elim
     | some p2=>
     obtain ⟨j2,z2⟩:=p2;have h4:z=z2:=h4;subst h4;have hfk:(Instr.findKey kt (.string s) ms.toList).run P w=.ok (some (j2,z)) w:=by simp only [Instr.findKey,aO,aW mD,aN,rU,h3,aZ]
     refine ⟨if ok then .tuple #[z,.bool true] else z, ?_, ?_⟩
     ·simp only [qJ,aO,aN,hck,hfk,aZ]
     ·cases ok
      ·simpa using h2
      ·simp only [VR];exact ⟨[z,.bool true],rfl,aA.cons h2 (aA.cons (by simp [VR]) (by simp [aA]))⟩
  ·next hf=>
   obtain ⟨r',h1,h2⟩:=KU g1 g2 g3 hf hmr;cases r' with
   | some p=>exact h2.elim
   | none=>
     obtain ⟨r2,h3,h4⟩:=abL s hpm hks acw h1;cases r2 with
     | some p2=>exact h4.elim
     | none=>
     have hfk:(Instr.findKey kt (.string s) ms.toList).run P w=.ok none w:=by simp only [Instr.findKey,aO,aW mD,aN,rU,h3,aZ]
     obtain ⟨a,ha,rfl⟩:=aX.1 hs;obtain ⟨z,h5,h6⟩:=Y2 (w:=w) (η:=η) ha;refine ⟨if ok then .tuple #[z,.bool false] else z, ?_, ?_⟩
     ·simp only [qJ,aO,aN,hck,hfk,h5,aZ]
     ·cases ok
      ·simpa using h6
      ·simp only [VR];exact ⟨[z,.bool false],rfl,aA.cons h6 (aA.cons (by simp [VR]) (by simp [aA]))⟩
  ·cases hs
 ·next n kk j A8 sz hn hg=>
  obtain ⟨mD,g,g1,g2,g3⟩:=Qp hn hy;obtain ⟨q',hq',xs,ms,clock,hv,hb,hp⟩:=h.obj _ _ hg rfl;rw [hq] at hq';cases hq';rw [QG hu y ok hb];have hck:∀b,(Instr.checkKey b 10000 kt y).run P w=.ok () w:=λb=>OU mD g2 g3 b;split at hs;rotate_left
  ·cases hs
  next hkk=>
  have:=Qs hkk;subst this;split at hs;rotate_left
  ·cases hs
  next zn sz' hz=>
  split at hs;rotate_left
  ·cases hs
  next hsz=>
  have:=YF hsz;subst this;obtain ⟨za,hza,hzn⟩:=vJ.1 hz;obtain ⟨zv,z1,z2⟩:=Y2 (w:=w) (η:=η) hza;obtain ⟨zg,z3,z4,z5,z6⟩:=af2 hzn z2;split at hs;rotate_left
  ·cases hs
  next u hu'=>
  obtain ⟨jn,hj,hpart⟩:=vJ.1 hu';obtain ⟨rg,r1,r2⟩:=fM hj;simp only [Nd.den,z3,hv,g1,aT] at r2;have fin:∀ (z:Value) (b:Bool),Jz sz rg->GR η.ro rg z->(ig g xs).isSome=b->qJ kt et y ok ms=qJ kt et y ok ms->(qJ kt et y ok ms).run P w=.ok (if ok then .tuple #[z,.bool b] else z) w->∃z,(qJ kt et y ok ms).run P w=.ok z w/\VR η v z:=by
   intro z b hok hgr hb' _ hrun;have hvu:VR η u z:=by
    obtain ⟨r,q1,q2⟩:=YD (η:=η) r1 hpart;cases hag:nD P et with
    | none=>rw [hag] at z6;exact z6.elim
    | some ag=>
      rw [hag] at z6 q1;cases ag with
      | true=>
        obtain ⟨kn,k1,k2⟩:=z6;subst k2;obtain ⟨cs,rfl,c1,c2⟩:=hok;simp only [k1,GV.cells,alc cs kn c1,fK,aT] at q1;subst q1;apply q2;simp only [GR] at hgr;obtain ⟨vs,rfl,hgs⟩:=hgr;simp only [VR];exact ⟨vs,rfl,(mG _ _).1 hgs⟩
      | false=>
        simp only at z6;subst z6;have hsc:rg.scalar=true:=hok;have hc:rg.cells=[rg]:=by cases rg<;>first | rfl | (simp [GV.scalar] at hsc)
        simp only [hc,Lc,iQ,fK,aT] at q1;subst q1;exact q2 _ ((kF _ _).1 hgr)
   cases ok with
   | false=>
     simp only [fV,if_false,aT] at hs hrun;subst hs;exact ⟨z,hrun,hvu⟩
   | true=>
     simp only [if_true] at hs hrun;split at hs
     ·next bb hbb=>
      cases hs;obtain ⟨_,gb,_,b2,b3⟩:=kS (η:=η) hbb;simp only [Nd.den,hv,g1,aT] at b2;subst b2;refine ⟨_,hrun, ?_⟩;simp only [VR];exact ⟨[z,.bool b],rfl,aA.cons hvu (aA.cons (b3 _ rfl (by simp only [GR];rw [hb'])) (by simp [aA]))⟩
     ·cases hs
  rcases PD (i:=0) g2 g3 hp with ⟨q1,q2⟩ | ⟨u',j',z,q1,q2,_,_,q5,q6⟩
  ·have hfk:(Instr.findKey kt y ms.toList).run P w=.ok none w:=by simp only [Instr.findKey,aO,aW mD,aN,q2,aZ]
   rw [q1,vK] at r2;subst r2;refine fin zv false z4 z5 (by rw [q1];rfl) rfl ?_;simp only [qJ,aO,aN,hck,hfk,z1,aZ]
  ·have hfk:(Instr.findKey kt y ms.toList).run P w=.ok (some (j',z)) w:=by simp only [Instr.findKey,aO,aW mD,aN,q2,aZ]
   rw [q1,pJ] at r2;subst r2;refine fin z true q5 q6 (by rw [q1];rfl) rfl ?_;simp only [qJ,aO,aN,hck,hfk,aZ]
 ·cases hs
theorem arp {kk:Option IntKind} {g a:GV} {y x:Value} (hk:yg kk g) (hy:GR η.ro g y) (hs:Instr.sameNow (rU kk) y x=some true) (n:Nat):Instr.sameBits (n+1) x y=true:=by
 cases kk with
 | some k=>
   obtain ⟨m,rfl⟩:=hk;simp only [GR] at hy;subst hy;cases x<;>simp only [Instr.sameNow,rU,reduceCtorEq] at hs
   split at hs
   ·next e=>subst e;simp at hs;subst hs;simp [Instr.sameBits]
   ·cases hs
 | none=>
   obtain ⟨m,rfl⟩:=hk;simp only [GR] at hy;subst hy;cases x<;>simp only [Instr.sameNow,rU,reduceCtorEq] at hs
   next s=>
   obtain ⟨⟨l⟩⟩:=s;rw [Eh] at hs;simp only [Instr.sameBits,Eh];simp_all
theorem afD (h:SR P η σ w) {t:TypeId} {m k v:AV} {x y z:Value} (hs:Sm P t m k v σ=some σ') (hx:VR η m x) (hy:VR η k y) (hz:VR η v z) :
 ∃w',(Instr.mapUpdate t x y z).run P w=.ok () w'/\St P η σ w η σ' w':=by
 unfold Sm at hs;split at hs;rotate_left
 ·cases hs
 next kt et id hu=>
 simp only [VR] at hx;obtain ⟨q,hq,rfl⟩:=hx;split at hs;rotate_left
 ·cases hs
 next hl=>
 have hl:=qE hl
 have main:∀ (o:aY) (n:Nat) (kk:Option IntKind) (u:Nat) (sz:Option Nat) (j j':Nat) (xs:List GV) (ms:Array MapEntry) (clock:Nat),σ.get id=some o->o.own=true->LG P kt k=some (n,kk)->Nl P et v=some (u,sz)->
  aG.val j=some (.l xs)->w.heap[q.bl]? = some (.map ms clock)->qA η.ro kk sz xs ms.toList->eP (.yj j n u)=some j'->∃w',(Instr.mapUpdate t (.map (some q.bl)) y z).run P w=.ok () w'/\St P η σ w η (σ.put id (.smap j' kk sz)) w':=by
  intro o n kk u sz j j' xs ms clock hg ho hn hvn hj hb hp hf;obtain ⟨mD,g,g1,g2,g3⟩:=Qp hn hy;obtain ⟨ug,u1,u2,u3,_⟩:=af2 hvn hz;obtain ⟨rg,r1,r2⟩:=fM hf;simp only [Nd.den,hj,g1,u1,aT] at r2;subst r2;have hck:=OU (w:=w) mD g2 g3 false;have hgo:(getObj q.bl).run P w=.ok (.map ms clock) w:=by simp [getObj,Sem.run,hb]
  rcases PD (i:=0) g2 g3 hp with ⟨q1,q2⟩ | ⟨u',i,zz,q1,q2,_,⟨m',q3,q4⟩,q5,q6⟩
  ·have hfk:(Instr.findKey kt y ms.toList).run P w=.ok none w:=by simp only [Instr.findKey,aO,aW mD,aN,q2,aZ]
   refine ⟨lg w q.bl (.map (ms.push { key:=y,val:=z,born:=clock }) (clock+1)), ?_,St.write h hg ho hl hq BG (λk hk=>BD hk) rfl rfl rfl ?_⟩
   ·simp only [Instr.mapUpdate,aO,aW hu,aN,hgo,hck,hfk]
    exact Jr hb (by simp)
   ·refine ⟨_,_,clock+1,r1,zI hb, ?_⟩
    rw [Array.toList_push];exact aeM g2 u2 g3 u3 hp q1
  ·have hfk:(Instr.findKey kt y ms.toList).run P w=.ok (some (i,zz)) w:=by simp only [Instr.findKey,aO,aW mD,aN,q2,aZ]
   rw [D9,tX] at q3;have VP:(Instr.keyThatStays (((ms[i]?).map (·.key)).getD y) y).run P w=.ok y w:=by
    rw [q3];simp only [fK,pJ,Instr.keyThatStays];rw [aj (arp (a:=g) g2 g3 q4 9999)];rfl
   refine ⟨lg w q.bl (.map (ms.modify i λe=>{ e with key:=y,val:=z }) clock), ?_,St.write h hg ho hl hq BG (λk hk=>BD hk) rfl rfl rfl ?_⟩
   ·simp only [Instr.mapUpdate,aO,aW hu,aN,hgo,hck,hfk,VP]
    exact Jr hb (by simp)
   ·refine ⟨_,_,clock,r1,zI hb, ?_⟩
    rw [Array.toList_modify];have:=aeN (i:=0) g2 u2 g3 u3 hp q2;rwa [D9] at this
 split at hs
 ·next n kk u sz hn hvn hg=>
  split at hs
  ·next j hj=>
   obtain ⟨j',hf,rfl⟩:=aX.1 hs;obtain ⟨q',hq',ms,clock,hb,hsz,hp⟩:=h.obj _ _ hg rfl;rw [hq] at hq';cases hq';obtain ⟨gl,l1,l2⟩:=fM hj;simp only [Nd.den,valsOf,fK,aT] at l2;subst l2;refine main _ n kk u sz j j' [] ms clock hg rfl hn hvn l1 hb ?_ hf;simp only [qA];have:ms.size=0:=by simpa using hsz
   simpa using Y6 this
  ·cases hs
 ·next n kk u sz j A8 sz' hn hvn hg=>
  split at hs
  ·next hc=>
   rw [aI] at hc;have e1:=Qs hc.1;have e2:=YF hc.2;subst e1;subst e2;obtain ⟨j',hf,rfl⟩:=aX.1 hs;obtain ⟨q',hq',xs,ms,clock,hv,hb,hp⟩:=h.obj _ _ hg rfl;rw [hq] at hq';cases hq';exact main _ n kk u sz j j' xs ms clock hg rfl hn hvn hv hb hp hf
  ·cases hs
 ·cases hs
theorem am3 {v:AV} {x:Value} (h:mapArg v=true) (hx:VR η v x):∃k n,x=.int k n:=by
 unfold mapArg at h;split at h
 ·next n=>
  split at h
  ·next a hn=>
   obtain ⟨g,h1,h2⟩:=aG.oV _ _ hn (by simp);simp only [VR] at hx;obtain ⟨g',h3,_,h4⟩:=hx;rw [h1] at h3;cases h3;simp only [Nd.den] at h2;split at h2
   ·cases h2
    simp only [GR] at h4;exact ⟨_,_,h4⟩
   ·cases h2
  ·cases h
 ·next hne=>
  obtain ⟨n,hn⟩:=agA.1 h;obtain ⟨k,hk⟩:=xH hn hx;exact ⟨k,n,hk⟩
theorem ac3 {e:TypeId} {size len m:Nat} {cs:List AV} {vs:List Value} (h:QC P e size len cs=some m) (hv:aA η cs vs):0 < size/\0 < len/\cs.length=len * size/\∃gs,aG.val m=some (.l gs)/\gs.length=len/\aA η (bD gs) vs/\∀x∈gs,x.cells.length=size/\x.cells.all GV.scalar=true:=by
 unfold QC at h;split at h;rotate_left
 ·cases h
 split at h;rotate_left
 ·cases h
 next agg ha=>
 split at h;rotate_left
 ·cases h
 next hc=>
 simp only [aI,lU,iK] at hc;obtain ⟨⟨h1,h2⟩,h3⟩:=hc;have h3:=bf h3;have hpos:0 < size:=by
  rcases h1 with ⟨_,h1⟩ | h1
  ·exact h1
  ·have:=bf h1;omega
 have h11:agg=false->size=1:=by
  intro e;rcases h1 with ⟨h1,_⟩ | h1
  ·rw [e] at h1;cases h1
  ·exact bf h1
 split at h
 ·next ns hns=>
  obtain ⟨gs,k1,k2,k3,_,k5⟩:=Dc h11 len hns hv h3;obtain ⟨g,g1,g2⟩:=fM h;simp only [Nd.den,k1,fK,aT] at g2;subst g2;exact ⟨hpos,h2,h3,gs,g1,k2,k3,k5⟩
 ·cases h
theorem amS {R:Prop} {t e:TypeId} {size bytes len:Nat} {z:List AV} {ps:List (Nat×AV)} {qs:Array (Nat×Value)} {cs:List AV}
 (fin:∀ (v:AV) (τ:au),QE P σ e size len cs=(some v,τ)->(∃y w' η',(Instr.buildSlice t len qs).run P w=.ok y w'/\St P η σ w η' τ w'/\VR η' v y)->R)
 (h:SR P η σ w) (hi:uG P t=some (e,size,bytes,z)) (hlen:¬ len * size > 2 ^ 24) (hf:yM (λi=>some (i * size,size)) (if len * size=0 then [] else iU len z) ps=some cs) (hp:Ad η ps qs.toList):R:=by
 unfold QE at fin;split at fin;rotate_left
 ·exact fin _ _ rfl (ahh h hi hlen hf hp)
 next m hm=>
 refine fin _ _ rfl ?_;obtain ⟨hu,_,hz,he,hzl,hn⟩:=y7 hi;obtain ⟨zv,ny,hzv⟩:=DR hz;have hpos:0 < size/\0 < len:=by
  unfold QC at hm;split at hm;rotate_left
  ·cases hm
  split at hm;rotate_left
  ·cases hm
  next agg ha=>
  split at hm;rotate_left
  ·cases hm
  next hc=>
  simp only [aI,lU,iK] at hc;refine ⟨?_,hc.1.2⟩;rcases hc.1.1 with ⟨_,h1⟩ | h1
  ·exact h1
  ·have:=bf h1;omega
 have h0:¬ len * size=0:=by
  have:=JU hpos.2 hpos.1;omega
 simp only [h0,if_false] at hf;obtain ⟨xs,Lp,hxs⟩:=Ik hf hp (Nu (hzv η) hzl);have hl:=hxs.length;have hal:=Au h (c:=cs) (xs:=xs) (elem:=e) (es:=size) (opn:=true) (by rw [hl,yH];exact hxs) (by simpa using G6 hl) (by simp) (λ_=>⟨he,hpos.1,hn⟩);obtain ⟨_,_,hcl,gs,g1,g2,_,g4⟩:=ac3 hm hxs;have hsz:xs.size=len * size:=by rw [<- hcl,hl];simp
 have hdiv:xs.size / size=len:=by rw [hsz];exact ZG _ hpos.1
 obtain ⟨q1,q2⟩:=St.wG (f:=false) (size:=size) (y:=.slice (some ⟨w.heap.size,0,none⟩) len len) hal g1 g4 hn (λvs hvs=>by
  obtain ⟨_,_,_,gs',k1,_,k3,_⟩:=ac3 hm hvs;rw [g1] at k1;cases k1;exact k3) (by
  simp only [VR];refine ⟨⟨w.heap.size,0,xs.size,size⟩,by simp [Env.put], ?_, ?_⟩
  ·simp only [vK,D9]
   rw [hdiv,g2];simp
  ·simp only [vK,D9,hdiv,g2,jR]) (by simp)
 refine ⟨_,_,_, ?_,q1,q2⟩;simp only [Instr.buildSlice,aO,aW hu,aN,iI hn,sK,ah hlen,h0,if_false,ny,aZ,Lp,newRow,newObj,Sem.run]
end
end Go.aJ
namespace Go.aJ
set_option linter.unusedSimpArgs false
noncomputable section
variable [aG]
set_option linter.unusedSectionVars false
set_option linter.unusedVariables false
variable {P:Program} {η:Env} {σ σ':au} {w:World}
structure TR (P:Program) (η:Env) (a:aV) (A:Act):Prop where
 gn:a.gn=P.globals.size
 size:A.tmps.size=a.n
 none:A.defers=[]
 slot:∀t v,a.t.get t=some v->∃x,A.tmps[t]? = some x/\VR η v x
theorem TR.mono {η η':Env} {a:aV} {A:Act} (h:TR P η a A) (hle:η.le η'):TR P η' a A:=
 ⟨h.gn,h.size,h.none,λt v hv=>by obtain ⟨x,hx,hr⟩:=h.slot t v hv;exact ⟨x,hx,VR.mono hle _ _ hr⟩⟩
theorem TR.put {a a':aV} {A:Act} {dst:Option Tmp} {r:Option AV} {x:Value} (h:TR P η a A) (hp:a.put dst r=some a') (hr:∀v,r=some v->VR η v x):TR P η a' (A.put dst x):=by
 unfold aV.put at hp;split at hp
 ·cases hp;exact h
 ·next d=>
  split at hp
  ·next hd=>
   cases hp;refine ⟨h.gn,by simp [Act.put,h.size],h.none,λt v hv=>?_⟩;rw [Tr.uM] at hv;show ∃y,(A.tmps.setIfInBounds d x)[t]? = some y/\_
   rw [zU];split at hv
   ·next e=>
    subst e;rw [aj rfl,aj (by rw [h.size];exact hd)];exact ⟨x,rfl,hr v hv⟩
   ·next e=>rw [ah (λe'=>e e'.symm)];exact h.slot t v hv
  ·cases hp
theorem KQ {a:aV} {A:Act} (h:SR P η σ w) (ht:TR P η a A) (x:Operand) (v:AV) (hv:a.eval x=some v):VR η v (A.eval x):=by
 cases x with
 | tmp t=>
   obtain ⟨y,hy,hr⟩:=ht.slot t v hv;simp only [Act.eval];rw [wJ,hy];exact hr
 | const c=>exact Bj _ _ _ hv
 | global g=>
   simp only [aV.eval] at hv;split at hv
   ·next hg=>
    cases hv;rw [ht.gn] at hg;obtain ⟨sz,es,h1⟩:=h.kY g (Nat.le_of_lt hg);simp only [VR,Act.eval];exact ⟨_,h1,by simp⟩
   ·cases hv
 | func f=>
   simp only [aV.eval,aT] at hv;subst hv;simp only [VR,Act.eval];exact ⟨[],[],rfl,by simp [aA],by simp [aA]⟩
def JV (P:Program) (η:Env) (σ:au) (w:World) (r:Option AV) (σ':au) (s:Sem Next):Prop:=
 ∃nx w' η',s.run P w=.ok nx w'/\St P η σ w η' σ' w'/\(match r with | some v=>∃x,nx=.value x/\VR η' v x | none=>nx=.skip)
theorem dU {r:AV} {s:Sem Value} (h:∃y w' η',s.run P w=.ok y w'/\St P η σ w η' σ' w'/\VR η' r y):JV P η σ w (some r) σ' (do pure (.value (<- s))):=by
 obtain ⟨y,w',η',h1,h2,h3⟩:=h;exact ⟨.value y,w',η',by simp only [aO,h1,aN,aZ],h2,y,rfl,h3⟩
theorem Ja {s:Sem Unit} (h:∃w' η',s.run P w=.ok () w'/\St P η σ w η' σ' w'):JV P η σ w none σ' (do s;pure .skip):=by
 obtain ⟨w',η',h1,h2⟩:=h;exact ⟨.skip,w',η',by simp only [aO,h1,aN,aZ],h2,rfl⟩
theorem iw {r:AV} {s:Sem Value} (h:SR P η σ w) (hs:∃y,s.run P w=.ok y w/\VR η r y):∃y w' η',s.run P w=.ok y w'/\St P η σ w η' σ w'/\VR η' r y:=by
 obtain ⟨y,h1,h2⟩:=hs;exact ⟨y,w,η,h1,St.refl h,h2⟩
theorem jg {v:Option AV} {r:Option AV} (h:dn σ v=some (r,σ')):∃u,v=some u/\r=some u/\σ'=σ:=by
 simp only [dn,aX,kH] at h;obtain ⟨u,h1,h2,h3⟩:=h;exact ⟨u,h1,h2.symm,h3.symm⟩
theorem Bv {v:Option (AV×au)} {r:Option AV} (h:qP v=some (r,σ')):∃u,v=some (u,σ')/\r=some u:=by
 simp only [qP,aX,G9,kH] at h;obtain ⟨u,s,h1,h2,h3⟩:=h;subst h3;exact ⟨u,h1,h2.symm⟩
theorem Yc {v:Option au} {r:Option AV} (h:F7 v=some (r,σ')):v=some σ'/\r=none:=by
 simp only [F7,aX,kH] at h;obtain ⟨s,h1,h2,h3⟩:=h;subst h3;exact ⟨h1,h2.symm⟩
theorem ag5 {c:Value} {t:Bool} (h:VR η (.b t) c):(asBool c).run P w=.ok t w:=by
 simp only [VR] at h;subst h;rfl
theorem ahK (h:SR P η σ w) {ts:Array TypeId} {ty t:TypeId} {x v:AV} {u:Value} (ht:ts[0]? = some t) (hs:TY P t x σ=some (v,σ')) (hu:VR η x u) :
 ∃y w' η',(Builtin.clear_ ts ty #[u]).run P w=.ok y w'/\St P η σ w η' σ' w'/\VR η' v y:=by
 have hun:∀η':Env,VR η' (.bY []) (.tuple #[]):=λη'=>by simp only [VR];exact ⟨[],rfl,by simp [aA]⟩
 unfold TY at hs;split at hs
 ·next e hut=>
  cases hs;simp only [VR] at hu;subst hu;exact ⟨_,w,η,by simp only [Builtin.clear_,ht,Ci,iQ,aO,aW hut,aN,aZ],St.refl h,hun _⟩
 ·next e hut=>
  cases hs;simp only [VR] at hu;rcases hu with ⟨_,pa,rfl⟩ | ⟨bl,off,c,xs,sz,rfl,_⟩
  ·exact ⟨_,w,η,by cases pa<;>simp only [Builtin.clear_,ht,Ci,iQ,aO,aW hut,aN,aZ],St.refl h,hun _⟩
  ·exact ⟨_,w,η,by simp only [Builtin.clear_,ht,Ci,iQ,aO,aW hut,aN,aZ,qy],St.refl h,hun _⟩
 ·next e id off n cap hut=>
  simp only [VR] at hu;obtain ⟨q,hq,_,rfl⟩:=hu;split at hs
  ·next h0=>
   cases hs;subst h0;exact ⟨_,w,η,by simp only [Builtin.clear_,ht,Ci,iQ,aO,aW hut,aN,aZ],St.refl h,hun _⟩
  ·next h0=>
   split at hs
   ·next z c et opn hz hg=>
    split at hs
    ·next hc=>
     simp only [aX] at hs;obtain ⟨c',hr,e1⟩:=hs;cases e1;obtain ⟨zv,ny,hzv⟩:=DR hz;have hzs:=Nu (n:=n) (size:=z.length) (hzv η) rfl;have hlen:=(hzv η).length;have hone:(iU n z).all AV.lJ=true:=by
      rw [List.all_eq_true];intro a ha;unfold iU at ha;simp only [List.mem_flatten,Zy] at ha;obtain ⟨l,⟨_,rfl⟩,ha⟩:=ha;exact List.all_eq_true.1 hc.2 a ha
     obtain ⟨w',hrun,hst⟩:=Td h hg hc.1 hq hr hzs hone;refine ⟨_,w',η, ?_,hst,hun _⟩;have hzc:(Builtin.zeroCells zv.cells n)=(Array.range (n * z.length)).map (zv.cells[· % zv.cells.size]!):=by
      unfold Builtin.zeroCells;rw [hlen];simp
     obtain ⟨m,rfl⟩:∃m,n=m+1:=⟨n - 1,by omega⟩
     simp only [Builtin.clear_,ht,Ci,iQ,aO,aW hut,aN,ny];rw [hzc,hrun];rfl
    ·cases hs
   ·cases hs
 ·next k e hut=>
  cases hs;simp only [VR] at hu;subst hu;exact ⟨_,w,η,by simp only [Builtin.clear_,ht,Ci,iQ,aO,aW hut,aN,aZ],St.refl h,hun _⟩
 ·next k e id hut=>
  split at hs
  ·next es hg=>
   split at hs
   ·next hl=>
    cases hs;simp only [VR] at hu;obtain ⟨q,hq,rfl⟩:=hu;obtain ⟨q',hq',ms,clock,hb,hsz,_⟩:=h.obj _ _ hg rfl;rw [hq] at hq';cases hq';refine ⟨.tuple #[],lg w q.bl (.map #[] clock),η, ?_,St.write h hg rfl hl hq BG (λk hk=>BD hk) rfl rfl rfl ⟨#[],clock,zI hb,rfl,by simp⟩,hun _⟩;simp only [Builtin.clear_,ht,Ci,iQ,aO,aW hut,aN,getObj,Sem.run,hb,Jr hb (λ_ _ _=>by simp),aZ]
   ·cases hs
  ·cases hs
 ·cases hs
theorem ahj (h:SR P η σ w) {b:Builtin} {ts:Array TypeId} {ty:TypeId} {cs:Array Bool} {args:List AV} {vs:List Value} {r:Option AV} (hs:Eb P b ts args σ=some (r,σ')) (hv:aA η args vs) :
 JV P η σ w r σ' (builtin b ts ty cs ⟨vs⟩):=by
 unfold Eb at hs;split at hs
 ·next x=>
  simp only [aA] at hv;obtain ⟨u,_,rfl,hu,rfl⟩:=hv;split at hs
  ·next t ht=>
   obtain ⟨v,h1,rfl,rfl⟩:=jg hs;exact dU (iw h (ac1 h ht h1 hu))
  ·cases hs
 ·next s x=>
  simp only [aA] at hv;obtain ⟨u,_,rfl,hu,u',_,rfl,hu',rfl⟩:=hv;obtain ⟨v,h1,rfl⟩:=Bv hs;exact dU (ag1 h h1 hu hu')
 ·next s x=>
  simp only [aA] at hv;obtain ⟨u,_,rfl,hu,u',_,rfl,hu',rfl⟩:=hv;obtain ⟨v,h1,rfl⟩:=Bv hs;exact dU (ah8 h h1 hu hu')
 ·next x=>
  simp only [aA] at hv;obtain ⟨u,_,rfl,hu,rfl⟩:=hv;split at hs
  ·next t ht=>
   obtain ⟨v,h1,rfl⟩:=Bv hs;exact dU (ahK h ht h1 hu)
  ·cases hs
 ·next x=>
  simp only [aA] at hv;obtain ⟨u,_,rfl,hu,rfl⟩:=hv;split at hs
  ·next t ht=>
   split at hs
   ·next e hun=>
    obtain ⟨v,h1,rfl,rfl⟩:=jg hs;cases h1;simp only [VR] at hu;subst hu;exact dU (iw h ⟨.int .i64 0,by simp [Builtin.cap_,ht,aW hun,goInt],by simp [VR]⟩)
   ·next e id off n c hun=>
    obtain ⟨v,h1,rfl,rfl⟩:=jg hs;cases h1;simp only [VR] at hu;obtain ⟨q,hq,_,rfl⟩:=hu;exact dU (iw h ⟨.int .i64 c,by simp [Builtin.cap_,ht,aW hun,goInt],by simp [VR]⟩)
   ·cases hs
  ·cases hs
 ·simp only [aA] at hv
  obtain ⟨u,_,rfl,hu,rfl⟩:=hv;obtain ⟨v,h1,rfl,rfl⟩:=jg hs;cases h1;simp only [VR] at hu;subst hu;exact dU (iw h ⟨_,afo,by simp only [VR]⟩)
 ·next id off n cap=>
  split at hs
  ·cases hs
  ·next hc=>
   simp only [aA] at hv;obtain ⟨u,_,rfl,hu,rfl⟩:=hv;obtain ⟨v,h1,rfl,rfl⟩:=jg hs;cases h1;simp only [VR] at hu;obtain ⟨q,hq,hle,rfl⟩:=hu;refine dU (iw h ⟨_,afp ?_,by simp only [VR];exact ⟨q,hq,rfl⟩⟩);intro e;rw [e] at hle;have hn:n=0:=by omega
   subst hn;cases cap with
   | none=>exact hc ⟨rfl,.inl rfl⟩
   | some c=>simp only [pJ] at e;subst e;exact hc ⟨rfl,.inr rfl⟩
 ·next x n=>
  simp only [aA] at hv;obtain ⟨u,_,rfl,hu,u',_,rfl,hu',rfl⟩:=hv;simp only [VR] at hu';subst hu';split at hs
  ·next t it hts=>
   have:=Ox hts;subst this;split at hs
   ·next h0=>
    subst h0;split at hs
    ·obtain ⟨v,h1,rfl,rfl⟩:=jg hs
     cases h1;simp only [VR] at hu;subst hu;exact dU (iw h ⟨_,YO,by simp only [VR]⟩)
    ·obtain ⟨v,h1,rfl,rfl⟩:=jg hs
     cases h1;simp only [VR] at hu;obtain ⟨q,hq,rfl⟩:=hu;exact dU (iw h ⟨_,YO,by simp only [VR]⟩)
    ·cases hs
   ·split at hs
    ·next id off=>
     split at hs
     ·next e c et opn hut hg=>
      split at hs
      ·next hc=>
       obtain ⟨rfl,c1,c2,c3,c4,c5⟩:=hc;split at hs
       ·next r' hr=>
        split at hs
        ·next b hb=>
         cases hs;simp only [VR] at hu;obtain ⟨q,hq,rfl⟩:=hu;obtain ⟨y,w',h1,h2,h3⟩:=af0 (it:=it) (ty:=ty) h hut hg c1 c2 c3 c4 c5 hr hb hq;exact dU ⟨y,w',η,h1,h2,h3⟩
        ·cases hs
       ·cases hs
      ·cases hs
     ·cases hs
    ·cases hs
  ·cases hs
 ·next x y=>
  simp only [aA] at hv;obtain ⟨u,_,rfl,hu,u',_,rfl,hu',rfl⟩:=hv;split at hs
  ·next a a' h1 h2=>
   obtain ⟨v,h3,rfl,rfl⟩:=jg hs;simp only [vJ] at h3;obtain ⟨z,hz,uP⟩:=h3;rw [zH h1 hu,zH h2 hu'];exact dU (iw h ⟨z,zF hz w,Bj _ _ _ uP⟩)
  ·cases hs
 ·next x y=>
  simp only [aA] at hv;obtain ⟨u,_,rfl,hu,u',_,rfl,hu',rfl⟩:=hv;split at hs
  ·next a a' h1 h2=>
   obtain ⟨v,h3,rfl,rfl⟩:=jg hs;simp only [vJ] at h3;obtain ⟨z,hz,uP⟩:=h3;rw [zH h1 hu,zH h2 hu'];exact dU (iw h ⟨z,zF hz w,Bj _ _ _ uP⟩)
  ·cases hs
 ·next x y z=>
  simp only [aA] at hv;obtain ⟨u,_,rfl,hu,u',_,rfl,hu',u'',_,rfl,alV,rfl⟩:=hv;split at hs
  ·next a a' a'' h1 h2 h4=>
   obtain ⟨v,h3,rfl,rfl⟩:=jg hs;simp only [vJ] at h3;obtain ⟨z,hz,uP⟩:=h3;rw [zH h1 hu,zH h2 hu',zH h4 alV];exact dU (iw h ⟨z,zF hz w,Bj _ _ _ uP⟩)
  ·cases hs
 ·cases hs
end
end Go.aJ
namespace Go.aJ
set_option linter.unusedSimpArgs false
noncomputable section
variable [aG]
set_option linter.unusedSectionVars false
set_option linter.unusedVariables false
variable {P:Program} {η:Env} {σ σ':au} {w:World}
theorem asQ {pt it ty:TypeId} (p:Option Addr):(Builtin.unsafeString_ #[pt,it] ty #[.pointer p,.int .i64 0]).run P w=.ok (.string ⟨⟨[]⟩⟩) w:=YO
theorem ar5 (h:SR P η σ w) {b:Builtin} {ts:Array TypeId} {ty:TypeId} {cs:Array Bool} {args:List AV} {vs:List Value} {r:Option AV} (hs:Gi P b ts args σ=some (r,σ')) (hv:aA η args vs) :
 JV P η σ w r σ' (builtin b ts ty cs ⟨vs⟩):=by
 unfold Gi at hs;have mm:∀ (big:Bool) {x y:AV} {m n:Nat} {v:AV} {u u':Value},iD x=some m->iD y=some n->jH (.mm big m n)=some v->VR η x u->VR η y u'->∃k a b',u=.int k a/\u'=.int k b'/\VR η v (.int k (if big then (if a < b' then b' else a) else (if b' < a then b' else a))):=by
  intro big x y m n v u u' hm hn hmk hu hu';obtain ⟨g1,a1,a2,a3⟩:=kM hm hu;obtain ⟨g2,b1,b2,b3⟩:=kM hn hu';obtain ⟨_,g,_,c2,c3⟩:=kS (η:=η) hmk;simp only [Nd.den,a1,b1] at c2;split at c2
  ·next k i k' j e1 e2=>
   cases e1;cases e2;split at c2
   ·next hk=>
    subst hk;cases c2;simp only [GR] at a3 b3;exact ⟨k,i,j,a3,b3,c3 _ rfl (by simp only [GR])⟩
   ·cases c2
  ·cases c2
 split at hs
 ·next x=>
  simp only [aA] at hv;obtain ⟨u,_,rfl,hu,rfl⟩:=hv;split at hs
  ·next t ht=>
   obtain ⟨v,h1,e⟩:=aX.1 hs;cases e;exact dU (iw h (asa ht h1 hu))
  ·cases hs
 ·next s x=>
  simp only [aA] at hv;obtain ⟨u,_,rfl,hu,u',_,rfl,hu',rfl⟩:=hv;obtain ⟨v,h1,e⟩:=aX.1 hs;cases e;exact dU (ar2 h h1 hu hu')
 ·next x y=>
  simp only [aA] at hv;obtain ⟨u,_,rfl,hu,u',_,rfl,hu',rfl⟩:=hv;split at hs
  ·next m n hm hn=>
   obtain ⟨v,h1,e⟩:=aX.1 hs;cases e;obtain ⟨k,a,b',rfl,rfl,h2⟩:=mm false hm hn h1 hu hu';refine dU (iw h ⟨_, ?_,h2⟩);simp [Builtin.min_,Builtin.min2]
  ·cases hs
 ·next x y=>
  simp only [aA] at hv;obtain ⟨u,_,rfl,hu,u',_,rfl,hu',rfl⟩:=hv;split at hs
  ·next m n hm hn=>
   obtain ⟨v,h1,e⟩:=aX.1 hs;cases e;obtain ⟨k,a,b',rfl,rfl,h2⟩:=mm true hm hn h1 hu hu';refine dU (iw h ⟨_, ?_,h2⟩);simp [Builtin.max_,Builtin.max2]
  ·cases hs
 ·next id n=>
  split at hs
  ·next m et hg=>
   split at hs
   ·next hsl=>
    cases hs;simp only [aA] at hv;obtain ⟨u,_,rfl,hu,rfl⟩:=hv;simp only [VR] at hu;obtain ⟨xs,k1,hu⟩:=hu;rcases hu with ⟨q,hq,hle,rfl⟩ | ⟨hgh,rfl,rfl⟩
    ·have hor:=h.at hg hq
     have hpos:=hor.SV;obtain ⟨_,_,_,_,hes,_⟩:=hor.I9;have hcap:q.sz / q.es≠0:=by
      have:=Nat.div_pos hpos hes;omega
     exact dU (iw h ⟨_,afp hcap,by simp only [VR];exact ⟨xs,_,k1,rfl,λ_=>⟨q,hq,rfl⟩⟩⟩)
    ·exact dU (iw h ⟨_,afo,by simp only [VR];exact ⟨[],_,k1,rfl,λhn=>absurd rfl hn⟩⟩)
   ·cases hs
  ·cases hs
 ·next id n k=>
  split at hs
  ·next t it hts=>
   have:=Ox hts;subst this;split at hs
   ·next e m et f hut hg=>
    split at hs
    ·next hc=>
     obtain ⟨rfl,c1,c2,c3⟩:=hc;split at hs
     ·next n' hk=>
      split at hs
      ·next hsl=>
       rw [aI] at hsl;obtain ⟨v,hm,e⟩:=aX.1 hs;cases e;simp only [aA] at hv;obtain ⟨u,_,rfl,hu,u',_,rfl,hu',rfl⟩:=hv;simp only [VR] at hu hu';obtain ⟨ys,p,k1,rfl,hp⟩:=hu;obtain ⟨gk,j1,_,j3⟩:=hu';obtain ⟨gk',j4,j5⟩:=aG.oV k _ hk (by simp);rw [j1] at j4;cases j4;obtain ⟨nn,gs,b1,b2,b3⟩:=kS (η:=η) hm;simp only [Nd.den] at b2;split at b2
       ·next xs hv=>
        split at b2
        ·next h48=>
         obtain ⟨b,hb,rfl⟩:=aX.1 b2;simp only [Nd.den] at j5;split at j5
         ·next zs hz=>
          cases j5;have hl1:=xq 100 hsl.1 hv k1;have hl2:=xq 100 hsl.2 hv hz;simp only [GR] at j3;subst j3;have fin:∀ {η':Env} (y:Value),VR η' (.s b) y->VR η' v y:=by
           intro η' y hy;obtain ⟨_,g2,_,d2,d3⟩:=kS (η:=η') hm;simp only [Nd.den,hv,aj h48,hb,fK,aT] at d2;subst d2;exact d3 y rfl ((kF _ _).2 hy)
          by_cases hx0:xs=[]
          ·subst hx0
           have hz0:zs.length=0:=hl2.symm;have hb0:b=[]:=by simpa [nT] using hb.symm
           subst hb0;rw [hz0];refine dU ⟨.string ⟨⟨[]⟩⟩,w,η,asQ p,(St.refl h).Qr id,fin _ (by simp only [VR])⟩
          ·have hy0:ys≠[]:=by intro e;rw [e] at hl1;exact hx0 (jh hl1)
           obtain ⟨q,hq,rfl⟩:=hp hy0;obtain ⟨xs',i1,i2,i3,i4,i5,i6,i7,hS⟩:=Jy h hg hq;rw [hv] at i1;cases i1;have hcg:bD xs=cZ xs:=by unfold bD;rw [OH hb]
           have hpos:0 < xs.length:=NM.2 hx0;have htk:takeN (bD xs) 0 ((xs.length:Nat):Int).toNat=some (cZ xs):=by
            rw [hcg];unfold takeN;rw [dO,lu (by rw [kL];simp),aj (by rw [kL];simp)]
           have hfit:xs.length < 2 ^ 62:=by omega
           obtain ⟨y,w',r1,r2,r3⟩:=af0 (it:=it) (ty:=ty) (off:=0) (n:=xs.length) hS hut BX c1 c2 (by omega) (by omega) c3 htk (Kw hb) hq;rw [<- hl2];refine dU ⟨y,w',η,by simpa using r1, ?_,fin _ r3⟩;refine ((Nj hg r2).Qr id).sub (λk o hk=>?_) (dH _) rfl;rw [au.wX] at hk ⊢;split at hk
           ·cases hk
           ·next e1=>
            rw [ah e1];unfold jL;rw [au.get_put,ah e1,au.get_put,ah e1];exact hk
         ·cases j5
        ·cases b2
       ·cases b2
      ·cases hs
     ·cases hs
    ·cases hs
   ·cases hs
  ·cases hs
 ·cases hs
end
end Go.aJ
namespace Go.aJ
set_option linter.unusedSimpArgs false
noncomputable section
variable [aG]
set_option linter.unusedSectionVars false
set_option linter.unusedVariables false
variable {P:Program} {η:Env} {σ σ':au} {w:World}
def kE (P:Program) (f:FuncId) (args:Array Value) (w:World) (R:Value->World->Prop):Prop:=
 (∃v w',(callFunc f args).run P w=.ok (.value v) w'/\R v w')\/
 ((callFunc f args).run P w=.ok (.enter f args) w/\Calls P f args w λe w'=>∃v,e=.returned v/\R v w')
def qj (P:Program) (call:Caller):Prop:=∀f args σ r σ',call f args σ=some (r,σ')->∀η w vs,SR P η σ w->aA η args vs->
 kE P f ⟨vs⟩ w λv w'=>∃η',St P η σ w η' σ' w'/\VR η' r v
def Du:Op->Bool
 | .call { callee:=.value _,.. }=>true
 | .call { callee:=.invoke _ _,.. }=>true
 | _=>false
theorem amZ {f:FuncId} {first caps:List AV} {us vs:List Value} (h1:aA η first us) (h2:aA η caps vs):∃y,(Instr.makeFunc (.func f) ⟨us⟩ ⟨vs⟩).run P w=.ok y w/\VR η (.fn f first caps) y:=
 ⟨_,rfl,by simp only [VR];exact ⟨us,vs,rfl,h1,h2⟩⟩
theorem Jb {ev:Operand->Option AV} {ρ:Operand->Value} (hρ:∀x a,ev x=some a->VR η a (ρ x)) {o:Option Operand} {r:Option AV} (h:FM ev o=some r):jS η r (o.map ρ):=by
 cases o with
 | none=>simp [FM] at h;subst h;trivial
 | some x=>
   simp only [FM,aX] at h;obtain ⟨a,ha,rfl⟩:=h;exact hρ _ _ ha
theorem EY {α β:Type} (a:Array α) (f:α->β):a.map f=⟨a.toList.map f⟩:=by
 apply JE;simp
set_option maxHeartbeats 1000000 in
theorem ad2 (h:SR P η σ w) {call:Caller} {o:Oper} {ev:Operand->Option AV} {ρ:Operand->Value} (hρ:∀x a,ev x=some a->VR η a (ρ x)) (hc:Du o.op=false) {r:Option AV}
 (hs:pO P call o ev σ=some (r,σ')):JV P η σ w r σ' (execOp ρ o):=by
 unfold pO at hs;unfold execOp;split at hs
 ·next x he=>rw [he];obtain ⟨v,h1,rfl,rfl⟩:=jg hs;exact ⟨_,w,η,rfl,St.refl h,_,rfl,hρ _ _ h1⟩
 ·next x he=>rw [he];obtain ⟨v,h1,rfl,rfl⟩:=jg hs;exact ⟨_,w,η,rfl,St.refl h,_,rfl,hρ _ _ h1⟩
 ·next c a b he=>
  rw [he];split at hs
  ·next t hcv=>
   obtain ⟨vd,hvd,hcv⟩:=ED hcv;obtain ⟨v,h1,rfl,rfl⟩:=jg hs;refine ⟨.value (if t then ρ a else ρ b),w,η, ?_,St.refl h,_,rfl, ?_⟩
   ·simp only [aO,ag5 (hcv _ _ (hρ _ _ hvd)),aN,aZ]
   ·cases t
    ·exact hρ _ _ h1
    ·exact hρ _ _ h1
  ·cases hs
 ·next t he=>
  rw [he];simp only [aX] at hs;obtain ⟨z,hz,e⟩:=hs;cases e;exact dU (agY h hz)
 ·next t x he=>
  rw [he];simp only [aX] at hs;obtain ⟨z,hz,e⟩:=hs;cases e;exact dU (aat h (hρ _ _ hz))
 ·next t parts he=>
  rw [he];split at hs
  ·next ps hps=>
   obtain ⟨v,h1,rfl,rfl⟩:=jg hs;exact dU (iw h (ahi h1 (by rw [EY];exact U1 hρ hps)))
  ·cases hs
 ·next t len parts he=>
  rw [he];split at hs
  ·next e size bytes z ps hi hps=>
   split at hs
   ·cases hs
   ·next hlen=>
    split at hs
    ·next cs hf=>
     have e1:=Ea hs;refine amS (t:=t) (qs:=parts.map λ(i,x)=>(i,ρ x)) (λv τ e2 hr=>?_) h hi hlen hf (by rw [EY];exact U1 hρ hps);rw [e2] at e1;cases e1;exact dU hr
    ·cases hs
  ·cases hs
 ·next t a he=>
  rw [he];split at hs
  ·next av hav=>
   obtain ⟨v,h1,rfl,rfl⟩:=jg hs;rcases tH h1 with h1 | h1
   ·exact dU (iw h (Dy h h1 (hρ _ _ hav)))
   ·exact dU (iw h (asb h h1 (hρ _ _ hav)))
  ·cases hs
 ·next t a x he=>
  rw [he];split at hs
  ·next av xv hav hxv=>
   obtain ⟨h1,rfl⟩:=Yc hs;rcases tH h1 with h1 | h1
   ·obtain ⟨w',h2,h3⟩:=RS h h1 (hρ _ _ hav) (hρ _ _ hxv)
    exact Ja ⟨w',η,h2,h3⟩
   ·obtain ⟨w',h2,h3⟩:=asg h h1 (hρ _ _ hav) (hρ _ _ hxv)
    exact Ja ⟨w',η,h2,h3⟩
  ·cases hs
 ·next x he=>
  rw [he];split at hs
  ·next id off hxv=>
   obtain ⟨v,h1,rfl,rfl⟩:=jg hs;cases h1;have hv:=hρ _ _ hxv;simp only [VR] at hv;obtain ⟨q,hq,hv⟩:=hv;exact ⟨.value (ρ x),w,η,by simp only [hv];rfl,St.refl h,_,rfl,hρ _ _ hxv⟩
  ·next b off hxv=>
   obtain ⟨v,h1,rfl,rfl⟩:=jg hs;cases h1;have hv:=hρ _ _ hxv;simp only [VR] at hv;obtain ⟨bl,base,cs,elem,fr,y,_,_,hv,_⟩:=hv;exact ⟨.value (ρ x),w,η,by simp only [hv];rfl,St.refl h,_,rfl,hρ _ _ hxv⟩
  ·next m off hxv=>
   obtain ⟨v,h1,rfl,rfl⟩:=jg hs;cases h1;have hv:=hρ _ _ hxv;simp only [VR] at hv;obtain ⟨g,bl,base,cs,elem,fr,y,_,_,_,hv,_⟩:=hv;exact ⟨.value (ρ x),w,η,by simp only [hv];rfl,St.refl h,_,rfl,hρ _ _ hxv⟩
  ·next id m off hxv=>
   obtain ⟨v,h1,rfl,rfl⟩:=jg hs;cases h1;have hv:=hρ _ _ hxv;simp only [VR] at hv;obtain ⟨q,kk,i,_,_,hv⟩:=hv;exact ⟨.value (ρ x),w,η,by simp only [hv];rfl,St.refl h,_,rfl,hρ _ _ hxv⟩
  ·next f fs cs hxv=>
   obtain ⟨v,h1,rfl,rfl⟩:=jg hs;cases h1;have hv:=hρ _ _ hxv;simp only [VR] at hv;obtain ⟨us,vs,hv,_⟩:=hv;exact ⟨.value (ρ x),w,η,by simp only [hv];rfl,St.refl h,_,rfl,hρ _ _ hxv⟩
  ·cases hs
 ·next op t x y _ he=>
  rw [he];split at hs
  ·next a b ha hb=>
   obtain ⟨v,h1,rfl,rfl⟩:=jg hs;rcases tH h1 with h1 | h1
   ·exact dU (iw h (ahe h h1 (hρ _ _ ha) (hρ _ _ hb)))
   ·exact dU (iw h (ar4 h1 (hρ _ _ ha) (hρ _ _ hb)))
  ·cases hs
 ·next op t x he=>
  rw [he];split at hs
  ·next a ha=>
   split at hs
   ·next u hu=>
    obtain ⟨v,h1,rfl,rfl⟩:=jg hs;simp only [vJ] at h1;obtain ⟨z,hz,uP⟩:=h1;have hrun:(Op.unary op (ρ x)).run P w=.ok z w:=by rw [zH hu (hρ _ _ ha)];exact zF hz w
    exact dU (iw h ⟨z,hrun,Bj _ _ _ uP⟩)
   ·obtain ⟨v,h1,rfl,rfl⟩:=jg hs
    exact dU (iw h (ash h1 (hρ _ _ ha)))
  ·cases hs
 ·next src dst x he=>
  rw [he];split at hs
  ·next a ha=>
   obtain ⟨v,h1,rfl⟩:=Bv hs;rcases tH h1 with h1 | h1
   ·exact dU (KH h h1 (hρ _ _ ha))
   ·exact dU (ar6 h h1 (hρ _ _ ha))
  ·cases hs
 ·next t x he=>
  rw [he];split at hs
  ·next a ha hi=>
   obtain ⟨v,h1,rfl,rfl⟩:=jg hs;cases h1;exact dU (iw h (am0 hi (hρ _ _ ha)))
  ·cases hs
 ·next f first caps he=>
  rw [he];split at hs
  ·next fs cs hfs hcs=>
   obtain ⟨v,h1,rfl,rfl⟩:=jg hs;cases h1;simp only [EY];exact dU (iw h (amZ (Ii hρ hfs) (Ii hρ hcs)))
  ·cases hs
 ·next t r' he=>
  rw [he];split at hs
  ·cases hs
   exact dU (adq h (.inl rfl))
  ·next x=>
   split at hs
   ·next a kt et ha hu=>
    split at hs
    ·next hm=>
     cases hs;obtain ⟨k,n,hk⟩:=am3 hm (hρ _ _ ha);exact dU (adq h (.inr ⟨k,n,kt,et,by simp [hk],hu⟩))
    ·cases hs
   ·cases hs
 ·next t l c he=>
  rw [he];split at hs
  ·next a b ha hb=>
   obtain ⟨v,h1,rfl⟩:=Bv hs;rcases tH h1 with h1 | h1
   ·exact dU (am1 h h1 (hρ _ _ ha) (hρ _ _ hb))
   ·exact dU (ase h h1 (hρ _ _ ha) (hρ _ _ hb))
  ·cases hs
 ·next t x lo hi he=>
  rw [he];split at hs
  ·next a lo' hi' ha hlo hhi=>
   rcases tH hs with hs | hs
   ·obtain ⟨v,h1,rfl,rfl⟩:=jg hs
    rcases tH h1 with h1 | h1
    ·exact dU (iw h (RD h h1 (hρ _ _ ha) (Jb hρ hlo) (Jb hρ hhi)))
    ·exact dU (iw h (afE h h1 (hρ _ _ ha) (Jb hρ hlo) (Jb hρ hhi)))
   ·obtain ⟨v,h1,rfl⟩:=Bv hs
    exact dU (asf h h1 (hρ _ _ ha) (Jb hρ hlo) (Jb hρ hhi))
  ·cases hs
 ·next t x f he=>
  rw [he];split at hs
  ·next a ha=>
   obtain ⟨v,h1,rfl,rfl⟩:=jg hs;rcases tH h1 with h1 | h1
   ·exact dU (iw h (akv h1 (hρ _ _ ha)))
   ·exact dU (iw h (ar7 h1 (hρ _ _ ha)))
  ·cases hs
 ·next t x f he=>
  rw [he];split at hs
  ·next a ha=>
   obtain ⟨v,h1,rfl,rfl⟩:=jg hs;exact dU (iw h (akw h1 (hρ _ _ ha)))
  ·cases hs
 ·next t x ix he=>
  rw [he];split at hs
  ·next a k ha hk=>
   obtain ⟨v,h1,rfl,rfl⟩:=jg hs;rcases tH h1 with h1 | h1
   ·exact dU (iw h (LD h1 (hρ _ _ ha) (hρ _ _ hk)))
   ·exact dU (iw h (ar8 h h1 (hρ _ _ ha) (hρ _ _ hk)))
  ·cases hs
 ·next t x ix he=>
  rw [he];split at hs
  ·next a k ha hk=>
   obtain ⟨v,h1,rfl,rfl⟩:=jg hs;rcases tH h1 with h1 | h1
   ·exact dU (iw h (VZ h1 (hρ _ _ ha) (hρ _ _ hk)))
   ·exact dU (iw h (ar9 h1 (hρ _ _ ha) (hρ _ _ hk)))
  ·cases hs
 ·next t m k ok he=>
  rw [he];split at hs
  ·next a b ha hb=>
   obtain ⟨v,h1,rfl,rfl⟩:=jg hs;rcases tH h1 with h1 | h1
   ·exact dU (iw h (amU h h1 (hρ _ _ ha) (hρ _ _ hb)))
   ·exact dU (iw h (asc h h1 (hρ _ _ ha) (hρ _ _ hb)))
  ·cases hs
 ·next t m k x he=>
  rw [he];split at hs
  ·next a b c ha hb hc'=>
   obtain ⟨h1,rfl⟩:=Yc hs;rcases tH h1 with h1 | h1
   ·obtain ⟨w',h2,h3⟩:=ads h h1 (hρ _ _ ha) (hρ _ _ hb) (hρ _ _ hc')
    exact Ja ⟨w',η,h2,h3⟩
   ·obtain ⟨w',h2,h3⟩:=afD h h1 (hρ _ _ ha) (hρ _ _ hb) (hρ _ _ hc')
    exact Ja ⟨w',η,h2,h3⟩
  ·cases hs
 ·next t m k x he=>
  rw [he];split at hs
  ·next a b c ha hb hc'=>
   obtain ⟨h1,rfl⟩:=Yc hs;rcases tH h1 with h1 | h1
   ·obtain ⟨w',h2,h3⟩:=ads h h1 (hρ _ _ ha) (hρ _ _ hb) (hρ _ _ hc')
    exact Ja ⟨w',η,h2,h3⟩
   ·obtain ⟨w',h2,h3⟩:=afD h h1 (hρ _ _ ha) (hρ _ _ hb) (hρ _ _ hc')
    exact Ja ⟨w',η,h2,h3⟩
  ·cases hs
 ·next t x he=>
  rw [he];split at hs
  ·next s hu hx=>
   cases hs;have hv:=hρ _ _ hx;simp only [VR] at hv;simp only [hv];exact dU (apI h hu)
  ·next k e hu hx=>
   cases hs;have hv:=hρ _ _ hx;simp only [VR] at hv;simp only [hv];exact dU (apG h hu)
  ·next k e id hu hx=>
   split at hs
   ·next es hg=>
    cases hs;exact dU (apH h hu hg (hρ _ _ hx))
   ·cases hs
  ·cases hs
 ·next it he=>
  rw [he];split at hs
  ·next a ha=>
   obtain ⟨v,h1,rfl⟩:=Bv hs;obtain ⟨y,w',h2,h3,h4⟩:=an3 (ty:=o.type) h h1 (hρ _ _ ha);exact dU ⟨y,w',η,h2,h3,h4⟩
  ·cases hs
 ·next it he=>
  rw [he];have hov:VR η (.bY [.b false]) (.tuple #[.bool false]):=by simp only [VR];exact ⟨[_],rfl,aA.cons (by simp only [VR]) (by simp [aA])⟩
  split at hs
  ·next id ha=>
   split at hs
   ·next hg=>
    cases hs;exact dU (iw h ⟨_,an1 (ty:=o.type) h hg (hρ _ _ ha),hov⟩)
   ·next m hg=>
    split at hs
    ·next hm=>
     cases hs;exact dU (iw h ⟨_,an2 (ty:=o.type) h hg hm (hρ _ _ ha),hov⟩)
    ·cases hs
   ·cases hs
  ·cases hs
 ·next x xt t ok he=>
  rw [he];split at hs
  ·next a ha=>
   obtain ⟨v,h1,rfl,rfl⟩:=jg hs;exact dU (iw h (asK h1 (hρ _ _ ha)))
  ·cases hs
 ·next x k he=>
  rw [he];split at hs
  ·next l ha=>
   obtain ⟨v,h1,rfl,rfl⟩:=jg hs;exact dU (iw h (ajU h1 (hρ _ _ ha)))
  ·cases hs
 ·next c he=>
  rw [he];split at hs
  ·next args hargs=>
   split at hs
   ·next b hb=>
    have hv:=Ii hρ hargs;have hs:Eb P b c.argTypes args σ=some (r,σ')\/Gi P b c.argTypes args σ=some (r,σ'):=by
     cases hsf:YB b args with
     | true=>rw [hsf,cond_true] at hs;exact (tH hs).symm
     | false=>rw [hsf,cond_false] at hs;exact tH hs
    rcases hs with hs | hs
    ·have hres:=ahj (cs:=c.args.map fun | .const _=>true | _=>false) (ty:=o.type) h hs hv
     simp only [resolve,hb,EY,pure_bind,invoke];rw [EY] at hres;exact hres
    ·have hres:=ar5 (cs:=c.args.map fun | .const _=>true | _=>false) (ty:=o.type) h hs hv
     simp only [resolve,hb,EY,pure_bind,invoke];rw [EY] at hres;exact hres
   ·next f hf=>
    rw [he] at hc;exfalso;obtain ⟨callee,args,at'⟩:=c;simp only at hf;subst hf;simp [Du] at hc
   ·next f name hf=>
    rw [he] at hc;exfalso;obtain ⟨callee,args,at'⟩:=c;simp only at hf;subst hf;simp [Du] at hc
  ·cases hs
 ·cases hs
end
end Go.aJ
namespace Go.aJ
set_option linter.unusedSimpArgs false
noncomputable section
variable [aG]
set_option linter.unusedSectionVars false
set_option linter.unusedVariables false
variable {P:Program} {η:Env} {σ σ':au} {w:World}
theorem aa0 (r:Value) (l:List Value):(#[r]++(⟨l⟩:Array Value))=⟨r::l⟩:=by apply JE;simp
theorem ame (name:String) (r:Value) (l:List Value):invoke (.fn (.method name) #[]) (#[r]++(⟨l⟩:Array Value))=callMethod r name ⟨l⟩:=by
 rw [aa0];have e1:(⟨r::l⟩:Array Value)[0]? = some r:=by simp
 have e2:(⟨r::l⟩:Array Value).extract 1 (⟨r::l⟩:Array Value).size=⟨l⟩:=by apply JE;simp
 have:invoke (.fn (.method name) #[]) (⟨r::l⟩:Array Value)=(do
  let some recv:=(⟨r::l⟩:Array Value)[0]? | stuck "call: a method without a receiver"
  callMethod recv name ((⟨r::l⟩:Array Value).extract 1 (⟨r::l⟩:Array Value).size)):=rfl
 rw [this,e1,e2]
theorem ang (h:SR P η σ w) {name:String} {a rv:AV} {f:FuncId} {x:Value} (hs:Oe P name σ a=some (f,rv)) (hx:VR η a x) (args:Array Value) :
 ∃y,(callMethod x name args).run P w=(callFunc f (#[y]++args)).run P w/\VR η rv y:=by
 unfold Oe at hs;split at hs
 ·next t v=>
  simp only [VR] at hx;obtain ⟨xv,rfl,hv⟩:=hx;split at hs
  ·next i d hi hd=>
   split at hs
   ·next m hm=>
    split at hs
    ·next f' ptr hp hf=>
     have VH:∀y,(receiverAt t (.val xv) ptr (some ((name.splitOn ".").getLastD name))).run P w=.ok y w->
      (callMethod (.iface t xv) name args).run P w=(callFunc f' (#[y]++args)).run P w:=by
      intro y hr;have hpe:m.path.isEmpty=true:=by simpa using hp
      have:∀n:Nat,(method (n+1) t xv name).run P w=.ok (f',y) w:=by
       intro n;simp only [method,aO,DN hi,aN,hm,hp,follow,aZ,hf,hpe,if_true,hr]
      simp only [callMethod,aO,program,Sem.run,aN];rw [show P.types.size+Made.depth=(P.types.size+Made.depth - 1)+1 by simp [Made.depth],this];rfl
     split at hs
     ·next e=>
      cases hs;exact ⟨xv,VH _ (by simp only [receiverAt,aO,aW hd,aN,Go.Place.get,aZ]),hv⟩
     ·next e=>
      split at hs
      ·next id off=>
       simp only [aX,kH] at hs;obtain ⟨z,hz,rfl,rfl⟩:=hs;obtain ⟨y,hy,sW⟩:=Dy h hz hv;simp only [VR] at hv;obtain ⟨q,hq,rfl⟩:=hv;refine ⟨y,VH _ ?_,sW⟩;have hy':(loadVar e ⟨q.bl,q.ba+off,none⟩).run P w=.ok y w:=by simpa [Instr.loadAt,Instr.sureAddr] using hy
       have hwrap:∀nm:String,(Builtin.ssaWrapNilChk_ #[t] t #[.pointer (some ⟨q.bl,q.ba+off,none⟩),strVal "", strVal nm]).run P w=.ok (.pointer (some ⟨q.bl,q.ba+off,none⟩)) w:=λ_=>rfl;have has:(asAddr (.pointer (some ⟨q.bl,q.ba+off,none⟩))).run P w=.ok ⟨q.bl,q.ba+off,none⟩ w:=rfl;simp only [receiverAt,aO,aW hd,aN,Go.Place.get,aZ,hwrap,has,hy']
      ·cases hs
     ·cases hs
     ·next h1 h2 h3=>
      cases hs;refine ⟨xv,VH _ ?_,hv⟩;simp only [receiverAt,aO,aW hd,aN];cases d<;>simp only [Go.Place.get,aZ]
      all_goals simp_all
    ·cases hs
   ·cases hs
  ·cases hs
 ·cases hs
theorem aaB (h:SR P η σ w) {call:Caller} (hcall:qj P call) {o:Oper} {a:aV} {A:Act} (ht:TR P η a A) (hc:Du o.op=true) {r:Option AV} {K:Act->World->Prop} {Q:Exit->Act->World->Prop}
 (hs:pO P call o a.eval σ=some (r,σ')) (hK:∀v x η' w',r=some v->St P η σ w η' σ' w'->VR η' v x->K (A.put o.dst x) w'):o.wp P A w K Q:=by
 have hρ:∀x v,a.eval x=some v->VR η v (A.eval x):=λx v hv=>KQ h ht x v hv;unfold pO at hs;cases hop:o.op with
 | call c=>
   rw [hop] at hc hs;simp only at hs;split at hs
   ·next args hargs=>
    obtain ⟨callee,Eu,at'⟩:=c;cases callee with
    | builtin b=>simp [Du] at hc
    | invoke rc name=>
      simp only at hs;split at hs
      ·next f rv hf=>
       simp only [vJ] at hf;obtain ⟨iv,hiv,hf⟩:=hf;obtain ⟨u,h1,rfl⟩:=Bv hs;have hav:=Ii hρ hargs;obtain ⟨y,hm,hy⟩:=ang h hf (hρ _ _ hiv) (⟨Eu.toList.map A.eval⟩);have hcn:=hcall _ _ _ _ _ h1 η w (y::Eu.toList.map A.eval) h (aA.cons hy hav);have VE:(execOp A.eval o).run P w=(callFunc f ⟨y::Eu.toList.map A.eval⟩).run P w:=by
        unfold execOp;rw [hop];have e0:Eu.map A.eval=⟨Eu.toList.map A.eval⟩:=by apply JE;simp
        simp only [resolve,pure_bind,e0];rw [ame,hm,aa0]
       unfold Oper.wp;rw [VE];rcases hcn with ⟨v,w',hrun,η',hst,hv⟩ | ⟨hrun,Vx⟩
       ·rw [hrun]
        exact hK u v η' w' rfl hst hv
       ·rw [hrun]
        refine Calls.mono Vx ?_;rintro e w' ⟨v,rfl,η',hst,hv⟩
        exact hK u v η' w' rfl hst hv
      ·cases hs
    | value f=>
      simp only at hs;split at hs
      ·next fn fi caps hf=>
       obtain ⟨u,h1,rfl⟩:=Bv hs;have hfv:=hρ _ _ hf;simp only [VR] at hfv;obtain ⟨us,vs,hfe,hfi,alm⟩:=hfv;have hav:=Ii hρ hargs;have hcn:=hcall _ _ _ _ _ h1 η w (us++Eu.toList.map A.eval++vs) h ((hfi.append hav).append alm);have VE:(execOp A.eval o).run P w=(callFunc fn ⟨us++Eu.toList.map A.eval++vs⟩).run P w:=by
        unfold execOp;rw [hop];simp only [resolve,hfe,Deferred.ofValue,pure_bind,invoke];congr 2;apply JE;simp
       unfold Oper.wp;rw [VE];rcases hcn with ⟨v,w',hrun,η',hst,hv⟩ | ⟨hrun,Vx⟩
       ·rw [hrun]
        exact hK u v η' w' rfl hst hv
       ·rw [hrun]
        refine Calls.mono Vx ?_;rintro e w' ⟨v,rfl,η',hst,hv⟩
        exact hK u v η' w' rfl hst hv
      ·cases hs
   ·cases hs
 | _=>rw [hop] at hc;simp [Du] at hc
theorem atv {ops:Array Oper} {j:Nat} {o:Oper} {d:Nat} {a:aV} {A:Act} {x:Bool} (ht:TR P η a A) (ho:ops[j]? = some o) (hd:o.dst=some d) (hx:dB (a.t.get d)=some (.b x)):yielded ops A.tmps j=some x:=by
 obtain ⟨vd,hx,himp⟩:=ED hx;obtain ⟨y,hy,hv⟩:=ht.slot d _ hx;have hv:=himp _ _ hv;simp only [VR] at hv;subst hv;simp only [yielded,ho,Aa,hd,hy]
theorem Cb {o:Oper} {ops:Array Oper} {a:aV} {A:Act} {b:Bool} (ht:TR P η a A) (hw:BZ o ops a=some b):Region.wanted o (yielded ops A.tmps)=b:=by
 unfold BZ at hw;unfold Region.wanted;split at hw
 ·next hg=>rw [hg];cases hw;rfl
 ·next j want hg=>
  rw [hg];split at hw
  ·next q hq=>
   split at hw
   ·next d hd=>
    split at hw
    ·next x hx=>
     cases hw;simp only [atv ht hq hd hx];cases x<;>cases want<;>rfl
    ·next l hx=>
     cases hw;obtain ⟨vd,hx,himp⟩:=ED hx;obtain ⟨y,hy,hv⟩:=ht.slot d _ hx;have hv:=himp _ _ hv;simp only [VR] at hv;obtain ⟨vs,rfl,_⟩:=hv;simp only [yielded,hq,Aa,hd,hy];cases want<;>rfl
    ·cases hw
   ·cases hw
  ·cases hw
theorem step_ok (h:SR P η σ w) {call:Caller} (hcall:qj P call) {ops:Array Oper} {i:Nat} {a a':aV} {A:Act} (ht:TR P η a A) {K:Act->World->Prop} {Q:Exit->Act->World->Prop}
 (hs:Uc P call ops i a σ=some (a',σ')) (hK:∀η' A' w',St P η σ w η' σ' w'->TR P η' a' A'->K A' w'):wpOp P ops Q i K A w:=by
 unfold Uc at hs;unfold wpOp;split at hs
 ·cases hs
 ·next o ho=>
  rw [ho];simp only;split at hs
  ·cases hs
  ·next hw=>
   rw [Cb ht hw];simp only [fV,if_false];simp only [aX,kH] at hs;obtain ⟨a1,hp,rfl,rfl⟩:=hs;exact hK η _ w (St.refl h) (ht.put hp (by rintro u hu;cases hu;exact ⟨[],rfl,rfl⟩))
  ·next hw=>
   rw [Cb ht hw];simp only [if_true];split at hs
   ·cases hs
   ·next r σ1 hop=>
    rw [sU] at hop;simp only [aX,kH] at hs;obtain ⟨a1,hp,rfl,rfl⟩:=hs;left;cases hc:Du o.op with
    | true=>
      refine aaB h hcall ht hc hop λv x η' w' hr hst hv=>?_;exact hK η' _ w' hst ((ht.mono hst.ext).put hp (λu hu=>by rw [hr] at hu;cases hu;exact hv))
    | false=>
      obtain ⟨nx,w',η',hrun,hst,hres⟩:=ad2 h (λx v hv=>KQ h ht x v hv) hc hop;unfold Oper.wp;rw [hrun];cases r with
      | none=>subst hres;exact hK η' _ w' hst ((ht.mono hst.ext).put hp (by simp))
      | some v=>
        obtain ⟨x,rfl,hv⟩:=hres;exact hK η' _ w' hst ((ht.mono hst.ext).put hp (λu hu=>by cases hu;exact hv))
theorem ad4 {call:Caller} (hcall:qj P call) {ops:Array Oper} {Q:Exit->Act->World->Prop}:∀ (l:List Nat) {η:Env} {σ:au} {w:World} {a a':aV} {A:Act},SR P η σ w->TR P η a A->
 Ho P call ops l a σ=some (a',σ')->(∀η' A' w',St P η σ w η' σ' w'->TR P η' a' A'->Q .normal A' w')->wpOps P ops Q l A w
 | [],η,σ,w,a,a',A,h,ht,hs,hK=>by
   simp only [Ho,aT,kH] at hs;obtain ⟨rfl,rfl⟩:=hs;exact hK η A w (St.refl h) ht
 | i::l,η,σ,w,a,a',A,h,ht,hs,hK=>by
   rw [wpOps_cons];unfold Ho at hs;split at hs
   ·next a1 σ1 h1=>
    refine step_ok h hcall ht h1 λη1 A1 w1 hst ht1=>?_;exact ad4 hcall l hst.rel ht1 hs λη' A' w' hst' ht'=>hK η' A' w' (hst.trans hst') ht'
   ·cases hs
def dW.toExit:dW->Exit
 | .normal=>.normal
 | .exit id=>.exit id
 | .ret=>.ret
def JG (P:Program) (dr:Caller->yC):Prop:=∀call,qj P call->∀ops a σ a' σ',dr call ops a σ=some (a',σ')->∀η w A id Q,SR P η σ w->TR P η a A->
 (∀η' A' w',St P η σ w η' σ' w'->TR P η' a' A'->Q .normal A' w')->(Code.region id ops true).wp P Q A w
def NU (P:Program) (pr:vM):Prop:=∀f g,pr f=some g->∀args σ r σ',g args σ=some (r,σ')->∀η w vs,SR P η σ w->aA η args vs->
 kE P f ⟨vs⟩ w λv w'=>∃η',St P η σ w η' σ' w'/\VR η' r v
def uh (P:Program):Prop:=∀ (f:Nat) fn c,P.funcs[f]? = some fn->fn.body=some c->(fn.name == "runtime.NumGoroutine")=false
def JZ (P:Program) (run:Code->aV->au->Option (dW×aV×au)):Prop:=∀c a σ e a' σ',run c a σ=some (e,a',σ')->∀η w A Q,SR P η σ w->TR P η a A->
 (∀η' A' w',St P η σ w η' σ' w'->TR P η' a' A'->Q e.toExit A' w')->c.wp P Q A w
theorem MJ (h:SR P η σ w) {a:aV} {A:Act} (ht:TR P η a A) (F:ResultVar->Sem Value) (hF1:∀t,F (.tmp t)=pure (A.tmps.getD t undef)) (hF2:∀a t,F (.cell a t)=(do loadVar t (<- asAddr (A.tmps.getD a undef)))) :
 ∀ (rs:List ResultVar) (l:List AV),yO P σ a rs=some l->∃vs,(rs.mapM F).run P w=.ok vs w/\aA η l vs
 | [],l,hl=>by simp only [yO,aT] at hl;subst hl;exact ⟨[],rfl,by simp [aA]⟩
 | .tmp t::rs,l,hl=>by
   unfold yO at hl;split at hl
   ·next v r hv hr=>
    cases hl;obtain ⟨vs,h1,h2⟩:=MJ h ht F hF1 hF2 rs r hr;obtain ⟨x,hx,jP⟩:=ht.slot t v hv;refine ⟨x::vs, ?_,aA.cons jP h2⟩;simp only [Zu,hF1,aO,aZ,aN,h1];rw [wJ,hx];rfl
   ·cases hl
 | .cell t ty::rs,l,hl=>by
   unfold yO at hl;split at hl
   ·next v r hv hr=>
    cases hl;obtain ⟨vs,h1,h2⟩:=MJ h ht F hF1 hF2 rs r hr;simp only [vJ] at hv;obtain ⟨p,hp,hv⟩:=hv;obtain ⟨x,hx,jP⟩:=ht.slot t p hp;obtain ⟨y,hy,sW⟩:=Dy h hv jP;refine ⟨y::vs, ?_,aA.cons sW h2⟩;have hxa:∃ad,x=.pointer (some ad):=by
     cases p<;>simp [uq] at hv
     ·simp only [VR] at jP
      obtain ⟨q,_,rfl⟩:=jP;exact ⟨_,rfl⟩
     ·simp only [VR] at jP
      obtain ⟨bl,base,cs,elem,fr,x,_,_,rfl,_⟩:=jP;exact ⟨_,rfl⟩
    obtain ⟨ad,rfl⟩:=hxa;have hg:A.tmps.getD t undef=.pointer (some ad):=by rw [wJ,hx];rfl
    have hy':(loadVar ty ad).run P w=.ok y w:=by simpa [Instr.loadAt,Instr.sureAddr] using hy
    have ale:(asAddr (A.tmps.getD t undef)).run P w=.ok ad w:=by rw [hg];rfl
    simp only [Zu,hF2,aO,aZ,aN,h1,ale,hy']
   ·cases hl
theorem asJ {l:List AV} {vs:List Value} (h:aA η l vs):VR η (Gn l) (if h:(⟨vs⟩:Array Value).size=1 then (⟨vs⟩:Array Value)[0] else .tuple ⟨vs⟩):=by
 have hl:=h.length;unfold Gn;split
 ·next v=>
  simp only [aA] at h;obtain ⟨x,_,rfl,hx,rfl⟩:=h;simpa using hx
 ·next hne=>
  have:(⟨vs⟩:Array Value).size≠1:=by
   intro e;have:l.length=1:=by rw [hl];exact e
   obtain ⟨v,rfl⟩:=TD.1 this;exact hne v rfl
  rw [dif_neg this];simp only [VR];exact ⟨vs,rfl,h⟩
theorem aai:∀ (args:List AV) (k:Nat) (t:Tr AV) (j:Nat),(xK args k t).get j=if k<=j/\j < k+args.length then args[j - k]? else t.get j
 | [],k,t,j=>by simp [xK];omega
 | v::args,k,t,j=>by
   rw [xK,aai args (k+1)];simp only [jK];by_cases h1:k+1<=j/\j < k+1+args.length
   ·rw [aj h1,aj (by omega)]
    have:j - k=(j - (k+1))+1:=by omega
    rw [this];simp
   ·rw [ah h1,Tr.uM]
    by_cases h2:j=k
    ·subst h2;rw [aj rfl,aj (by omega)];simp
    ·rw [ah h2,ah (by omega)]
theorem UR {args:List AV} {vs:List Value} {n:Nat} (h:aA η args vs) :
 TR P η { t:=xK args 0 .nil,n:=max args.length n,gn:=P.globals.size } { tmps:=(⟨vs⟩:Array Value)++Array.replicate (n - (⟨vs⟩:Array Value).size) undef,defers:=[] }:=by
 have hl:=h.length;refine ⟨rfl, ?_,rfl,λt v hv=>?_⟩
 ·simp;omega
 ·rw [aai] at hv
  split at hv
  ·next hr=>
   obtain ⟨x,hx,jP⟩:=h.at hv;refine ⟨x, ?_,jP⟩;simp only [D9] at hx;have hlt:=(dX.1 hx).1;rw [Tn (by simpa using hlt)];simpa using hx
  ·simp at hv
theorem aaA {pr:vM} {run:Code->aV->au->Option (dW×aV×au)} (hp:NU P pr) (hn:uh P) (hr:JZ P run):qj P (Et P pr run):=by
 intro f args σ r σ' hs η w vs h hv;unfold Et at hs;split at hs
 ·next g hg=>exact hp f g hg args σ r σ' hs η w vs h hv
 ·split at hs
  ·cases hs
  ·next fn hfn=>
   split at hs
   ·cases hs
   ·next c hc=>
    have key:∀ (e:dW) a',(e=.normal\/e=.ret)->run c { t:=xK args 0 .nil,n:=max args.length fn.ntmps,gn:=P.globals.size } σ=some (e,a',σ')->∀l,yO P σ' a' fn.results.toList=some l->r=Gn l->
     kE P f ⟨vs⟩ w λv w'=>∃η',St P η σ w η' σ' w'/\VR η' r v:=by
     intro e a' he hrun l hl hrl;right;refine ⟨?_, ?_⟩
     ·have hname:=hn f fn c hfn hc
      simp only [callFunc,aO,program,Sem.run,aN,hfn];simp only [hname,fV,if_false,hc,G8,aZ]
     ·refine calls_of_wp hfn hc ?_
      refine hr c _ _ _ _ _ hrun η w _ _ h (UR hv) ?_;intro η' A' w' hst ht;have hres:∃us,(results fn A'.tmps).run P w'=.ok (if h:(⟨us⟩:Array Value).size=1 then (⟨us⟩:Array Value)[0] else .tuple ⟨us⟩) w'/\aA η' l us:=by
       unfold results;rw [Tq];simp only [aO,TQ];obtain ⟨us,h1,h2⟩:=MJ hst.rel ht (fun | .tmp t=>pure (A'.tmps.getD t undef) | .cell a t=>do loadVar t (<- asAddr (A'.tmps.getD a undef))) (λ_=>rfl) (λ_ _=>rfl) _ _ hl;refine ⟨us, ?_,h2⟩;exact rE (λr:Result (List Value)=>(r.andThen λa w'=>Result.ok a.toArray w').andThen λa w'=>Sem.run P (pure (if h:a.size=1 then a[0] else Value.tuple a)) w') h1
      obtain ⟨us,hres,h2⟩:=hres
      have hpost:A'.defers=[]/\∃v,(results fn A'.tmps).run P w'=.ok v w'/\∃v',Ending.returned v=.returned v'/\∃η',St P η σ w η' σ' w'/\VR η' r v':=
       ⟨ht.none,_,hres,_,rfl,η',hst,by rw [hrl];exact asJ h2⟩
      rcases he with rfl | rfl
      ·exact hpost
      ·exact hpost
    split at hs
    ·next a' σ1 hrun=>
     simp only [aX,kH] at hs;obtain ⟨l,hl,h1,h2⟩:=hs;subst h2;exact key _ a' (.inl rfl) hrun l hl h1.symm
    ·next a' σ1 hrun=>
     simp only [aX,kH] at hs;obtain ⟨l,hl,h1,h2⟩:=hs;subst h2;exact key _ a' (.inr rfl) hrun l hl h1.symm
    ·cases hs
theorem aaT {dr:Caller->yC} {pr:vM} (hd:JG P dr) (hp:NU P pr) (hn:uh P):∀n:Nat,JZ P (CJ P dr pr n)/\
 (∀b a σ e a' σ',CJ P dr pr n (.loop b) a σ=some (e,a',σ')->∀η w A Q,SR P η σ w->TR P η a A->(∀η' A' w',St P η σ w η' σ' w'->TR P η' a' A'->Q e.toExit A' w')->Code.rounds P b Q n A w):=by
 intro n;induction n with
 | zero=>exact ⟨λc a σ e a' σ' hs=>by simp [ZV] at hs,λb a σ e a' σ' hs=>by simp [ZV] at hs⟩
 | succ n ih=>
   obtain ⟨ih1,ih2⟩:=ih;have hcall:=aaA hp hn ih1;have adi:∀b a σ e a' σ',CJ P dr pr (n+1) (.loop b) a σ=some (e,a',σ')->∀η w A Q,SR P η σ w->TR P η a A->(∀η' A' w',St P η σ w η' σ' w'->TR P η' a' A'->Q e.toExit A' w')->Code.rounds P b Q (n+1) A w:=by
    intro b a σ e a' σ' hs η w A Q h ht hK;rw [rounds_succ];simp only [um,rD] at hs;split at hs
    ·next a1 σ1 h1=>
     refine ih1 _ _ _ _ _ _ h1 η w A _ h ht ?_;intro η1 A1 w1 hst ht1;exact ih2 _ _ _ _ _ _ hs η1 w1 A1 Q hst.rel ht1 λη' A' w' hst' ht'=>hK η' A' w' (hst.trans hst') ht'
    ·next hne=>
     refine ih1 _ _ _ _ _ _ hs η w A _ h ht ?_;intro η1 A1 w1 hst ht1;cases e with
     | normal=>exact absurd hs (by intro e';exact hne _ _ e')
     | exit id=>exact hK η1 A1 w1 hst ht1
     | ret=>exact hK η1 A1 w1 hst ht1
   refine ⟨?_,adi⟩;intro c a σ e a' σ' hs η w A Q h ht hK;cases c with
   | loop b=>exact wp_loop_rounds (n+1) (adi b a σ e a' σ' hs η w A Q h ht hK)
   | skip=>simp only [um,rD,aT,kH] at hs;obtain ⟨rfl,rfl,rfl⟩:=hs;exact wp_skip (hK η A w (St.refl h) ht)
   | region id ops draw=>
     cases draw with
     | false=>
       simp only [um,rD,aX,kH] at hs;obtain ⟨⟨a1,σ1⟩,h1,rfl,rfl,rfl⟩:=hs;exact wp_region (ad4 hcall _ h ht h1 hK)
     | true=>
       simp only [um,rD,aX,kH] at hs;obtain ⟨⟨a1,σ1⟩,h1,rfl,rfl,rfl⟩:=hs;exact hd _ hcall ops a σ _ _ h1 η w A id Q h ht hK
   | seq x y=>
     simp only [um,rD] at hs;refine wp_seq ?_;split at hs
     ·next a1 σ1 h1=>
      refine ih1 _ _ _ _ _ _ h1 η w A _ h ht ?_;intro η1 A1 w1 hst ht1;exact ih1 _ _ _ _ _ _ hs η1 w1 A1 Q hst.rel ht1 λη' A' w' hst' ht'=>hK η' A' w' (hst.trans hst') ht'
     ·next hne=>
      refine ih1 _ _ _ _ _ _ hs η w A _ h ht ?_;intro η1 A1 w1 hst ht1;cases e with
      | normal=>exact absurd hs (by intro e';exact hne _ _ e')
      | exit id=>exact hK η1 A1 w1 hst ht1
      | ret=>exact hK η1 A1 w1 hst ht1
   | cond x y z=>
     simp only [um,rD] at hs;split at hs
     ·next t hx=>
      obtain ⟨vd,hx,himp⟩:=ED hx;have hv:=himp _ _ (KQ h ht x _ hx);simp only [VR] at hv;refine wp_cond hv ?_;exact ih1 _ _ _ _ _ _ hs η w A Q h ht hK
     ·cases hs
   | block id b=>
     simp only [um,rD] at hs;refine wp_block ?_;split at hs
     ·next id' a1 σ1 h1=>
      refine ih1 _ _ _ _ _ _ h1 η w A _ h ht ?_;intro η1 A1 w1 hst ht1;simp only [dW.toExit,Exit.inBlock];split at hs
      ·next e1=>
       cases hs;rw [aj e1];exact hK η1 A1 w1 hst ht1
      ·next e1=>
       cases hs;rw [ah e1];exact hK η1 A1 w1 hst ht1
     ·next hne=>
      refine ih1 _ _ _ _ _ _ hs η w A _ h ht ?_;intro η1 A1 w1 hst ht1;cases e with
      | normal=>exact hK η1 A1 w1 hst ht1
      | exit id'=>exact absurd hs (by intro e';exact hne _ _ _ e')
      | ret=>exact hK η1 A1 w1 hst ht1
   | exit id=>simp only [um,rD,aT,kH] at hs;obtain ⟨rfl,rfl,rfl⟩:=hs;exact wp_exit (hK η A w (St.refl h) ht)
   | ret=>simp only [um,rD,aT,kH] at hs;obtain ⟨rfl,rfl,rfl⟩:=hs;exact wp_ret (hK η A w (St.refl h) ht)
   | rangeFunc _ _ _ _=>simp [um,rD] at hs
   | scope _=>simp [um,rD] at hs
   | label _=>simp [um,rD] at hs
   | goto _=>simp [um,rD] at hs
   | refuse _=>simp [um,rD] at hs
theorem agG {dr:Caller->yC} {pr:vM} (hd:JG P dr) (hp:NU P pr) (hn:uh P) (n:Nat):qj P (ZU P dr pr n):=
 aaA hp hn (aaT hd hp hn n).1
end
end Go.aJ
