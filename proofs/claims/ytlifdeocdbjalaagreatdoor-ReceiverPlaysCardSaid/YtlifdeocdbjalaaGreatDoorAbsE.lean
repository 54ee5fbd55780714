/- Values that are named by nodes: append, make, conversions, strings.Builder's string. -/
import Derived.Test.YtlifdeocdbjalaaGreatDoorAbsD
import Derived.Test.YtlifdeocdbjalaaGreatDoorAbsC
namespace Go.aN
noncomputable section
variable [aC]
set_option linter.unusedSectionVars false
set_option linter.unusedVariables false
set_option linter.unusedSimpArgs false
variable {P:Program} {η:Env} {σ σ':ah} {w:World}
theorem St.IW {η':Env} {w':World} (h:St P η σ w η' σ' w') (id:Nat):St P η σ w η' (σ'.kill id) w':=
 h.sub (fun k o hk=>by rw [ah.qJ] at hk;split at hk;cases hk;exact hk) (Nat.le_refl _) rfl
theorem St.qC {η':Env} {τ:ah} {w':World} {m e size:Nat} {f:Bool} {xs:List GV} {c:List AV} {y:Value} (h:St P η σ w η' (τ.new (.cells c e true true)) w') (hv:aC.val m=some (.l xs)) (hs:∀x∈xs,x.cells.length=size∧x.cells.all GV.scalar=true) (hn:sizeT P e=some size)
 (hc:∀vs,aj η' c vs→aj η' (aX xs) vs) (hy:VR η' (.sl τ.next 0 xs.length none) y) (hf:f=true→xs≠[]):St P η σ w η' (τ.new (.vec m e f)) w'∧VR η' (.sv τ.next m) y:=by
 simp only [VR] at hy
 obtain ⟨q,hq,hle,rfl⟩:=hy
 have hg:(τ.new (.cells c e true true)).get τ.next=some (.cells c e true true):=by rw [ah.nD,if_pos rfl]
 have hor:=h.rel.at hg hq
 have hes:q.es=size:=by
  obtain ⟨_,_,_,_,r⟩:=hor
  have:=(r.room rfl).2.2
  rw [hn] at this;cases this;rfl
 have hpos:f=true→q.es≤q.sz:=fun e=>by
  have hne:=hf e
  have:0 < xs.length:=List.length_pos_iff.2 hne
  simp only [Option.getD_none,Nat.sub_zero] at hle
  have h1:1≤q.sz / q.es:=by omega
  exact Nat.le_trans (by simpa using Nat.mul_le_mul_right q.es h1) (Nat.div_mul_le_self q.sz q.es)
 have hnew:OR P η' q w' (.vec m e f):=OR.qC hpos hv (fun x hx=>by rw [hes];exact (hs x hx).1) (fun x hx=>(hs x hx).2) hor hc
 refine ⟨h.right ?_ rfl rfl ?_,by simp only [VR];exact ⟨xs,hv,.inl ⟨q,hq,by simpa using hle,by simp⟩⟩⟩
 ·refine (h.rel.swap (o':=.vec m e f) hg rfl (.inl ⟨q,hq,hnew⟩)).sub (fun k o hk=>?_) (Nat.le_refl _)
  rw [ah.nD] at hk
  rw [ah.get_put,ah.nD]
  split at hk
  ·next e1=>rw [if_pos e1];exact hk
  ·next e1=>rw [if_neg e1,if_neg e1];exact hk
 ·intro k o hk ho
  rw [ah.nD] at hk ⊢
  split at hk
  ·next e1=>rw [if_pos e1];exact ⟨_,rfl,rfl⟩
  ·next e1=>rw [if_neg e1];exact ⟨o,hk,ho⟩
theorem uY {xs:List GV} {size:Nat} (h:xs.all (GV.fD size)=true):∀x∈xs,x.cells.length=size∧x.cells.all GV.scalar=true:=by
 intro z hz
 have:=List.all_eq_true.1 h z hz
 unfold GV.fD at this
 rw [Bool.and_eq_true] at this
 exact ⟨Nat.eq_of_beq_eq_true this.1,this.2⟩
theorem afy {xs:List GV} {size:Nat} (h:∀x∈xs,x.cells.length=size∧x.cells.all GV.scalar=true):(aX xs).all AV.jC=true:=by
 unfold aX
 refine Oz ?_
 rw [List.all_eq_true]
 intro g hg
 obtain ⟨z,hz,hgz⟩:=List.mem_flatMap.1 hg
 exact List.all_eq_true.1 (h z hz).2 g hgz
theorem WC (xs ys:List GV):aX (xs++ys)=aX xs++aX ys:=by unfold aX;rw [List.flatMap_append,yV]
theorem yO {xs:List GV} {size:Nat} (h:∀x∈xs,x.cells.length=size):(aX xs).length=xs.length * size:=by rw [aX,jc,EF h]
def Ru (P:Program) (σ:ah) (e size:Nat) (t1:TypeId) (x:AV):Option Nat:=
 match P.underlying t1 with
 | some .string=>if size=1 then match fF x with
    | some n=>dH (.bytes n)
    | none=>none
   else none
 | some (.slice _)=>listOf P σ e x
 | _=>none
theorem La (h:SR P η σ w) {e size:Nat} {t1:TypeId} {x:AV} {b:Nat} {u:Value} {xs:List GV} (hs:Ru P σ e size t1 x=some b) (hx:VR η x u) (hn:sizeT P e=some size) (hv:aC.val b=some (.l xs)) (hok:xs.all (GV.fD size)=true) :
 ∃ys,Src P size t1 u xs.length ys w∧aj η (aX xs) ys:=by
 unfold Ru at hs
 split at hs
 ·next ht=>
  split at hs
  ·next h1=>
   subst h1
   split at hs
   ·next n hn'=>
    obtain ⟨g,g1,g2,g3⟩:=jm hn' hx
    obtain ⟨g',k1,k2⟩:=dV hs
    rw [hv] at k1;cases k1
    simp only [Nd.den,g1] at k2
    split at k2
    ·next s e1=>
     cases e1;cases k2
     have hT:xE P t1=true:=by unfold xE;rw [ht]
     have:=src_ok h hT (size:=1) (n:=s.length) (l:=pz s) (a:=.s s) (x:=u) (by simp [qM]) ((iW (.s s) u).1 g3) (by unfold pz;simp [AV.jC])
     rw [Um]
     have hl:(kM s).length=s.length:=by simp [kM]
     rw [hl];exact this
    ·cases k2
   ·cases hs
  ·cases hs
 ·next ht=>exact ajC h hs hx ht hn hv hok
 ·cases hs
theorem ajB {e size id len:Nat} {cap:Option Nat} {a et:Nat} {c:List AV} {og opn:Bool} (hg:σ.get id=some (.cells c et og opn)) (hl:listOf P σ e (.sl id 0 len cap)=some a) (hn:sizeT P e=some size) (hlen:c.length=len * size) :
 ∃ns,(∀ {η:Env} {vs:List Value},aj η c vs→∃gs,valsOf aC.val ns=some gs∧gs.length=len∧aj η (aX gs) vs∧∀x∈gs,x.cells.length=size∧x.cells.all GV.scalar=true)∧∀gs,valsOf aC.val ns=some gs→aC.val a=some (.l gs):=by
 simp only [listOf,hg,hn] at hl
 split at hl
 ·next c' yQ rw' Je size' agg hg' hsz hag=>
  cases hg';cases hsz
  split at hl
  ·next hc=>
   rw [Bool.and_eq_true,Bool.or_eq_true,Bool.and_eq_true] at hc
   have hagg:agg=false→size=1:=by
    intro e;subst e
    rcases hc.2 with h1 | h1
    ·simp at h1
    ·exact Nat.eq_of_beq_eq_true h1
   have htk:takeN c 0 (len * size)=some c:=by
    unfold takeN;rw [List.drop_zero,List.take_of_length_le (by omega),if_pos hlen]
   rw [htk] at hl
   simp only at hl
   split at hl
   ·next ns hns=>
    refine ⟨ns,fun {η vs} hv=>?_,fun gs hgs=>?_⟩
    ·obtain ⟨gs,k1,k2,k3,_,k5⟩:=wY (η:=η) hagg len hns hv hlen
     exact ⟨gs,k1,k2,k3,k5⟩
    ·obtain ⟨g,g1,g2⟩:=dV hl
     simp only [Nd.den,hgs,Option.map_some,Option.some.injEq] at g2
     rw [g2];exact g1
   ·cases hl
  ·cases hl
 ·cases hl
set_option maxHeartbeats 1000000 in
theorem aoU (h:SR P η σ w) {ts:Array TypeId} {ty:TypeId} {s x v:AV} {u u':Value} (hs:Rz P ts s x σ=some (v,σ')) (hu:VR η s u) (hx:VR η x u') :
 ∃y w' η',(Builtin.append_ ts ty #[u,u']).run P w=.ok y w'∧St P η σ w η' σ' w'∧VR η' v y:=by
 unfold Rz at hs
 split at hs
 ·next t t1 hts=>
  have:=GY hts;subst this
  split at hs
  ·next e size bytes z hi=>
   obtain ⟨_,_,_,he,_,hn⟩:=tH hi
   split at hs
   ·cases hs
   ·next h0=>
    split at hs
    ·cases hs
    ·next b hb=>
     have hb':Ru P σ e size t1 x=some b:=hb
     have app:∀ {a m:Nat} {xs:List GV},dH (.app size bytes a b)=some m→aC.val a=some (.l xs)→∃ys,aC.val b=some (.l ys)∧aC.val m=some (.l (xs++ys))∧ys.all (GV.fD size)=true∧2 * (xs.length+ys.length) * bytes≤2 ^ 48∧xs.length+ys.length≤2 ^ 48:=by
      intro a m xs hm ha
      obtain ⟨g,g1,g2⟩:=dV hm
      simp only [Nd.den,ha] at g2
      split at g2
      ·next xs' ys e1 e2=>
       cases e1
       split at g2
       ·next hc=>cases g2;exact ⟨ys,e2,g1,hc.1,hc.2.1,hc.2.2⟩
       ·cases g2
      ·cases g2
     have GX:∀ {ys:List GV} {S:AV} {n:Nat},ys.all (GV.fD size)=true→sliceLen S=n→2 * (n+ys.length) * bytes≤2 ^ 48→n+ys.length≤2 ^ 48→¬ (size=0∨(aX ys).all AV.jC=false∨¬ (2 * (sliceLen S+ys.length) * bytes≤2 ^ 48∧sliceLen S+ys.length≤2 ^ 48)):=by
      intro ys S n h1 h2 h3 h4
      rw [afy (uY h1),h2]
      simp [h0];omega
     have ml0:∀ {a:Nat},dH (.ml [])=some a→aC.val a=some (.l []):=by
      intro a ha
      obtain ⟨g,g1,g2⟩:=dV ha
      simp only [Nd.den,valsOf,Option.map_some,Option.some.injEq] at g2
      subst g2;exact g1
     have acI:∀ {a m:Nat} {τ:ah},aC.val a=some (.l [])→dH (.app size bytes a b)=some m→u=.slice none 0 0→τ.lock=σ.lock→τ.next=σ.next→(∀k o,τ.get k=some o→σ.get k=some o)→
      ∀f:Bool,∃y w' η',(Builtin.append_ #[t,t1] ty #[u,u']).run P w=.ok y w'∧St P η σ w η' (τ.new (.vec m e f)) w'∧VR η' (.sv σ.next m) y:=by
      intro a m τ ha hm hu0 hl hnx hsub f
      obtain ⟨ys,y1,y2,y3,y4,y5⟩:=app hm ha
      obtain ⟨zs,z1,z2⟩:=La h hb' hx hn y1 y3
      have hlen:=yO (fun x hx=>(uY y3 x hx).1)
      simp only [List.nil_append,List.length_nil,Nat.zero_add] at y2 y4 y5
      have hc:=GX (S:=.cZ) (n:=0) y3 rfl (by simpa using y4) (by simpa using y5)
      by_cases hz:ys.length=0
      ·have hys:ys=[]:=List.eq_nil_of_length_eq_zero hz
       subst hys
       have hto:kK e size bytes .cZ 0 (aX []) σ=some (.cZ,σ):=by unfold kK;rw [if_neg (by simpa using hc)];rfl
       obtain ⟨y,w',η',r1,r2,r3⟩:=uQ (ty:=ty) h hi z1 z2 hlen hto (u:=u) (by simp only [VR];exact hu0)
       refine ⟨y,w',η'.ghost σ.next,r1,r2.trans ?_, ?_⟩
       ·exact St.ghost r2.rel y2 hl hnx hsub
       ·simp only [VR] at r3 ⊢
        exact ⟨[],y2,.inr ⟨by simp [Env.ghost],rfl,r3⟩⟩
      ·have hto:kK e size bytes .cZ ys.length (aX ys) σ=some (.sl σ.next 0 ys.length none,σ.new (.cells (aX ys) e true true)):=by
        unfold kK;rw [if_neg hc];simp only;rw [if_neg hz]
       obtain ⟨y,w',η',r1,r2,r3⟩:=uQ (ty:=ty) h hi z1 z2 hlen hto (u:=u) (by simp only [VR];exact hu0)
       obtain ⟨q1,q2⟩:=St.qC (f:=f) r2 y2 (uY y3) hn (fun _ h=>h) r3 (fun _ e=>hz (by rw [e];rfl))
       refine ⟨y,w',η',r1,q1.sub (fun k o hk=>?_) (by show σ.next+1≤τ.next+1;omega) hl,q2⟩
       rw [ah.nD] at hk ⊢
       rw [hnx] at hk
       split at hk
       ·next e1=>rw [if_pos e1];exact hk
       ·next e1=>rw [if_neg e1];exact hsub k o hk
     split at hs
     ·split at hs
      ·next a ha=>
       obtain ⟨m,hm,e1⟩:=Option.map_eq_some_iff.1 hs
       cases e1
       simp only [VR] at hu
       exact acI (τ:=σ) (ml0 ha) hm hu rfl rfl (fun _ _ h=>h) true
      ·cases hs
     ·next id n=>
      split at hs
      ·next a et f hg=>
       split at hs
       ·next hcnd=>
        rw [Bool.and_eq_true,Bool.and_eq_true] at hcnd
        obtain ⟨⟨het,hsl⟩,hlk⟩:=hcnd
        have yZ:=Nat.eq_of_beq_eq_true het
        subst yZ
        have vP:=Nat.le_of_ble_eq_true hlk
        obtain ⟨m,hm,e1⟩:=Option.map_eq_some_iff.1 hs
        cases e1
        simp only [VR] at hu
        obtain ⟨xn,n1,hu⟩:=hu
        rcases h.live id _ hg with ⟨q,hq,hor⟩ | ⟨hgh,m0,et0,f0,e0,hv0⟩
        ·obtain ⟨xs,x1,x2,x3,x4,x5,x6,x7,hS⟩:=Dv h hg hq
         have hlen0:=rZ 100 hsl x1 n1
         rw [hn] at x5;cases x5
         rcases hu with ⟨q',hq',hle,rfl⟩ | ⟨hgh,_,_⟩
         ·rw [hq] at hq';cases hq'
          obtain ⟨ys,y1,y2,y3,y4,y5⟩:=app hm x1
          have hcl:=yO x2
          have hall:∀x∈xs++ys,x.cells.length=q.es∧x.cells.all GV.scalar=true:=by
           intro x hx
           rcases List.mem_append.1 hx with hx | hx
           ·exact ⟨x2 x hx,x7 x hx⟩
           ·exact uY y3 x hx
          obtain ⟨zs,z1,z2⟩:=La h hb' hx hn y1 y3
          have hlen:=yO (fun x hx=>(uY y3 x hx).1)
          have hc:=GX (S:=.sl id 0 xs.length none) (n:=xs.length) y3 rfl y4 y5
          rw [← hlen0] at hle ⊢
          have hus:VR η (.sl id 0 xs.length none) (.slice (some ⟨q.bl,q.ba,none⟩) xs.length (q.sz / q.es)):=by simp only [VR];exact ⟨q,hq,by simpa using hle,by simp⟩
          by_cases hz:ys.length=0
          ·have hys:ys=[]:=List.eq_nil_of_length_eq_zero hz
           subst hys
           rw [List.append_nil] at y2
           have hto:kK et q.es bytes (.sl id 0 xs.length none) 0 (aX []) (iq σ id xs et)=some (.sl id 0 xs.length none,iq σ id xs et):=by unfold kK;rw [if_neg (by simpa using hc)];rfl
           obtain ⟨y,w',η',r1,r2,r3⟩:=uQ (ty:=ty) hS hi z1 z2 hlen hto hus
           have r2':=F6 hg r2
           have hgu:(iq σ id xs et).get id=some (.cells (aX xs) et true true):=wJ
           have hq2:=r2.ext.pl _ _ hq
           have hor2:=r2.rel.at hgu hq2
           have hv2:OR P (η'.put σ.next q) q w' (.vec m et f):=by
            have hle2:=Env.zN r2.rel q
            refine OR.qC (fun e=>by subst e;exact hor.LX) y2 x2 x7 (hor2.mono hle2) (fun _ h=>h)
           have EJ:=St.again (q':=q) r2.rel hgu rfl (show (iq σ id xs et).lock≤id from vP) hq2 rfl rfl (fun _ _=>rfl) rfl rfl rfl hv2
           refine ⟨y,w',η'.put σ.next q,r1,(r2'.trans EJ).sub (fun k o hk=>?_) (Nat.le_refl _) rfl, ?_⟩
           ·rw [ah.nD,ah.qJ] at hk ⊢
            split at hk
            ·next e1=>rw [if_pos (show k=((iq σ id xs et).kill id).next from e1)];exact hk
            ·next e1=>
             rw [if_neg (show ¬ k=((iq σ id xs et).kill id).next from e1)]
             split at hk
             ·cases hk
             ·next e2=>rw [if_neg e2];unfold iq;rw [ah.get_put,if_neg e2];exact hk
           ·simp only [VR] at r3 ⊢
            obtain ⟨q3,hq3,hle3,rfl⟩:=r3
            rw [hq2] at hq3;cases hq3
            exact ⟨xs,y2,.inl ⟨q,by simp [Env.put],by simpa using hle3,by simp⟩⟩
          ·have htk:takeN (aX xs) 0 (xs.length * q.es)=some (aX xs):=by
            unfold takeN;rw [List.drop_zero,List.take_of_length_le (by omega),if_pos hcl]
           have hto:kK et q.es bytes (.sl id 0 xs.length none) ys.length (aX ys) (iq σ id xs et)=some (.sl σ.next 0 (xs.length+ys.length) none,((iq σ id xs et).kill id).new (.cells (aX xs++aX ys) et true true)):=by
            unfold kK;rw [if_neg hc];simp only;rw [if_neg hz,if_pos (show (iq σ id xs et).lock≤id from vP),wJ]
            simp only [if_true,htk,Option.map_some]
            rfl
           obtain ⟨y,w',η',r1,r2,r3⟩:=uQ (ty:=ty) hS hi z1 z2 hlen hto hus
           obtain ⟨q1,q2⟩:=St.qC (size:=q.es) (F6 hg r2) y2 hall hn (fun vs hvs=>by rw [WC];exact hvs) (by rw [List.length_append];exact r3) (f:=f) (fun _ e=>hz (by have:=congrArg List.length e;simp at this;rw [this.2];rfl))
           refine ⟨y,w',η',r1,q1.sub (fun k o hk=>?_) (Nat.le_refl _) rfl,q2⟩
           rw [ah.nD,ah.qJ] at hk ⊢
           split at hk
           ·next e1=>rw [if_pos (show k=((iq σ id xs et).kill id).next from e1)];exact hk
           ·next e1=>
            rw [if_neg (show ¬ k=((iq σ id xs et).kill id).next from e1)]
            split at hk
            ·cases hk
            ·next e2=>rw [if_neg e2];unfold iq;rw [ah.get_put,if_neg e2];exact hk
         ·rw [(h.gU id hgh).1] at hq;cases hq
        ·cases e0
         have hlen0:=rZ 100 hsl hv0 n1
         rcases hu with ⟨q',hq',_⟩ | ⟨_,_,hu⟩
         ·rw [(h.gU id hgh).1] at hq';cases hq'
         ·exact acI (τ:=σ.kill id) hv0 hm hu rfl rfl (fun k o hk=>by rw [ah.qJ] at hk;split at hk;cases hk;exact hk) f
       ·cases hs
      ·cases hs
     ·next id=>
      split at hs
      ·next et hg=>
       split at hs
       ·next hcnd=>
        rw [Bool.and_eq_true] at hcnd
        obtain ⟨het,hlk⟩:=hcnd
        have yZ:=Nat.eq_of_beq_eq_true het
        subst yZ
        have vP:=Nat.le_of_ble_eq_true hlk
        split at hs
        ·next a ha=>
         obtain ⟨m,hm,e1⟩:=Option.map_eq_some_iff.1 hs
         cases e1
         obtain ⟨ys,y1,y2,y3,y4,y5⟩:=app hm (ml0 ha)
         simp only [List.nil_append,List.length_nil,Nat.zero_add] at y2 y4 y5
         obtain ⟨zs,z1,z2⟩:=La h hb' hx hn y1 y3
         have hlen:=yO (fun x hx=>(uY y3 x hx).1)
         have hc:=GX (S:=.sl id 0 0 (some 0)) (n:=0) y3 rfl (by simpa using y4) (by simpa using y5)
         have hu0:=hu
         simp only [VR] at hu0
         obtain ⟨q,hq,_,rfl⟩:=hu0
         obtain ⟨cs,elem,fr,hb0,rr⟩:=h.at hg hq
         have hsh:=rr.shut rfl
         obtain ⟨w1,w2,w3⟩:=rr.whole he
         have hba:=w3 rfl
         by_cases hz:ys.length=0
         ·have hys:ys=[]:=List.eq_nil_of_length_eq_zero hz
          subst hys
          have hto:kK et size bytes (.sl id 0 0 (some 0)) 0 (aX []) σ=some (.sl id 0 0 (some 0),σ):=by unfold kK;rw [if_neg (by simpa using hc)];rfl
          obtain ⟨y,w',η',r1,r2,r3⟩:=uQ (ty:=ty) h hi z1 z2 hlen hto hu
          have hq2:=r2.ext.pl _ _ hq
          obtain ⟨cs2,aaE,fr2,hb2,Q5⟩:=r2.rel.at hg hq2
          obtain ⟨v1,v2,v3⟩:=Q5.whole he
          have hsz0:=Q5.shut rfl
          simp only [List.length_nil] at hsz0
          have hv2:OR P (η'.put σ.next ⟨q.bl,q.ba,0,size⟩) ⟨q.bl,q.ba,0,size⟩ w' (.vec m et false):=by
           refine ⟨[],cs2,aaE,fr2,[],y2,hb2,by simp [aO],by simp,by simp [yN,dJ],by simp, { fits:=by have:=Q5.fits;simp;omega,le:=by simp,shut:=by simp,cell:=by simp,free:=by simp,whole:=fun _=>⟨v1,by simp;omega,by simp⟩,room:=fun _=>⟨he,by simp;omega,hn⟩ },by simp,by simp⟩
          have EJ:=St.again (q':=⟨q.bl,q.ba,0,size⟩) r2.rel hg rfl vP hq2 rfl rfl (fun _ _=>rfl) rfl rfl rfl hv2
          refine ⟨y,w',_,r1,r2.trans EJ, ?_⟩
          simp only [VR] at r3 ⊢
          obtain ⟨q3,hq3,_,rfl⟩:=r3
          rw [hq2] at hq3;cases hq3
          exact ⟨[],y2,.inl ⟨⟨q.bl,q.ba,0,size⟩,by simp [Env.put],by simp,by simp⟩⟩
         ·have hto:kK et size bytes (.sl id 0 0 (some 0)) ys.length (aX ys) σ=some (.sl σ.next 0 (0+ys.length) none,σ.new (.cells ([]++aX ys) et true true)):=by
           unfold kK;rw [if_neg hc];simp only;rw [if_neg (by omega),hg]
           simp [takeN]
          obtain ⟨y,w',η',r1,r2,r3⟩:=uQ (ty:=ty) h hi z1 z2 hlen hto hu
          rw [List.nil_append] at r2
          rw [Nat.zero_add] at r3
          obtain ⟨q1,q2⟩:=St.qC (f:=false) r2 y2 (uY y3) hn (fun _ h=>h) r3 (by simp)
          refine ⟨y,w',η',r1,q1.sub (fun k o hk=>?_) (Nat.le_refl _) rfl,q2⟩
          rw [ah.nD,ah.qJ] at hk
          rw [ah.nD]
          split at hk
          ·next e1=>rw [if_pos (show k=σ.next from e1)];exact hk
          ·next e1=>
           rw [if_neg (show ¬ k=σ.next from e1)]
           split at hk
           ·cases hk
           ·exact hk
        ·cases hs
       ·cases hs
      ·cases hs
     ·next id len=>
      split at hs
      ·next c et hg=>
       split at hs
       ·next hcnd=>
        rw [Bool.and_eq_true,Bool.and_eq_true] at hcnd
        obtain ⟨⟨het,hlk⟩,hcl⟩:=hcnd
        have yZ:=Nat.eq_of_beq_eq_true het
        subst yZ
        have vP:=Nat.le_of_ble_eq_true hlk
        have hcl':=Nat.eq_of_beq_eq_true hcl
        split at hs
        ·next a ha=>
         obtain ⟨m,hm,e1⟩:=Option.map_eq_some_iff.1 hs
         cases e1
         obtain ⟨ns,l1,l2⟩:=ajB hg ha hn hcl'
         have hu0:=hu
         simp only [VR] at hu0
         obtain ⟨q,hq,hle,rfl⟩:=hu0
         obtain ⟨ws,elem,fr,hb0,rr⟩:=h.at hg hq
         have hes:q.es=size:=by
          have:=(rr.room rfl).2.2
          rw [hn] at this;cases this;rfl
         have htk:takeN c 0 (len * size)=some c:=by
          unfold takeN;rw [List.drop_zero,List.take_of_length_le (by omega),if_pos hcl']
         obtain ⟨xs,k1,k2,k3,k4⟩:=l1 (rr.qN htk)
         have hva:=l2 xs k1
         have conv:∀ {η':Env} (vs:List Value),aj η' c vs→aj η' (aX xs) vs:=by
          intro η' vs hv
          obtain ⟨gs,j1,_,j3,_⟩:=l1 hv
          rw [k1] at j1;cases j1;exact j3
         obtain ⟨ys,y1,y2,y3,y4,y5⟩:=app hm hva
         have hall:∀x∈xs++ys,x.cells.length=size∧x.cells.all GV.scalar=true:=by
          intro x hx
          rcases List.mem_append.1 hx with hx | hx
          ·exact k4 x hx
          ·exact uY y3 x hx
         obtain ⟨zs,z1,z2⟩:=La h hb' hx hn y1 y3
         have hlen:=yO (fun x hx=>(uY y3 x hx).1)
         have hc:=GX (S:=.sl id 0 len none) (n:=xs.length) y3 k2.symm y4 y5
         by_cases hz:ys.length=0
         ·have hys:ys=[]:=List.eq_nil_of_length_eq_zero hz
          subst hys
          rw [List.append_nil] at y2
          have hto:kK et size bytes (.sl id 0 len none) 0 (aX []) σ=some (.sl id 0 len none,σ):=by unfold kK;rw [if_neg (by simpa using hc)];rfl
          obtain ⟨y,w',η',r1,r2,r3⟩:=uQ (ty:=ty) h hi z1 z2 hlen hto hu
          have hq2:=r2.ext.pl _ _ hq
          have hor2:=r2.rel.at hg hq2
          have hv2:OR P (η'.put σ.next q) q w' (.vec m et false):=by
           have hle2:=Env.zN r2.rel q
           refine OR.qC (by simp) y2 (fun x hx=>by rw [hes];exact (k4 x hx).1) (fun x hx=>(k4 x hx).2) (hor2.mono hle2) (fun vs hvs=>conv vs hvs)
          have EJ:=St.again (q':=q) r2.rel hg rfl vP hq2 rfl rfl (fun _ _=>rfl) rfl rfl rfl hv2
          refine ⟨y,w',η'.put σ.next q,r1,r2.trans EJ, ?_⟩
          simp only [VR] at r3 ⊢
          obtain ⟨q3,hq3,hle3,rfl⟩:=r3
          rw [hq2] at hq3;cases hq3
          exact ⟨xs,y2,.inl ⟨q,by simp [Env.put],by rw [k2];simpa using hle3,by simp [k2]⟩⟩
         ·have hto:kK et size bytes (.sl id 0 len none) ys.length (aX ys) σ=some (.sl σ.next 0 (len+ys.length) none,(σ.kill id).new (.cells (c++aX ys) et true true)):=by
           unfold kK;rw [if_neg hc];simp only;rw [if_neg hz,if_pos vP,hg]
           simp only [if_true,htk,Option.map_some]
          obtain ⟨y,w',η',r1,r2,r3⟩:=uQ (ty:=ty) h hi z1 z2 hlen hto hu
          obtain ⟨q1,q2⟩:=St.qC (size:=size) r2 y2 hall hn (fun vs hvs=>by
           obtain ⟨us,ts,rfl,v1,v2⟩:=aj.split hvs
           rw [WC]
           exact aj.append (conv us v1) v2) (by rw [List.length_append,k2];exact r3) (f:=false) (by simp)
          exact ⟨y,w',η',r1,q1,q2⟩
        ·cases hs
       ·cases hs
      ·cases hs
     ·cases hs
  ·cases hs
 ·cases hs
end
end Go.aN
namespace Go.aN
noncomputable section
variable [aC]
set_option linter.unusedSectionVars false
set_option linter.unusedVariables false
set_option linter.unusedSimpArgs false
variable {P:Program} {η:Env} {σ σ':ah} {w:World}
theorem ac8 {x:GV} {z:List AV} (hx:∀us,aj η z us→aj η (bI x.cells) us):∀ (n:Nat) (vs:List Value),aj η (fO n z) vs→aj η (aX (List.replicate n x)) vs
 | 0,vs,h=>by simpa [fO,aX,bI] using h
 | n+1,vs,h=>by
   have e:fO (n+1) z=z++fO n z:=by simp [fO,List.replicate_succ]
   rw [e] at h
   obtain ⟨us,ws,rfl,h1,h2⟩:=aj.split h
   have e2:aX (List.replicate (n+1) x)=bI x.cells++aX (List.replicate n x):=by unfold aX;rw [List.replicate_succ,List.flatMap_cons,yV]
   rw [e2]
   exact (hx us h1).append (ac8 hx n ws h2)
theorem alT (z:List AV) (n m:Nat) (h:n≤m):(fO m z).take (n * z.length)=fO n z:=by
 induction n generalizing m with
 | zero=>simp [fO]
 | succ n ih=>
   cases m with
   | zero=>omega
   | succ m=>
     have e:∀k,fO (k+1) z=z++fO k z:=fun k=>by simp [fO,List.replicate_succ]
     rw [e,e,← ih m (by omega),List.take_append,List.take_of_length_le (by rw [Nat.add_mul];omega)]
     congr 2;rw [Nat.add_mul];omega
theorem ao4 (h:SR P η σ w) {t:TypeId} {l c v:AV} {x y:Value} (hs:Lr P t l c σ=some (v,σ')) (hx:VR η l x) (hy:VR η c y) :
 ∃z w' η',(Instr.makeSlice t x y).run P w=.ok z w'∧St P η σ w η' σ' w'∧VR η' v z:=by
 unfold Lr at hs
 split at hs
 ·next e0 hu0=>
  split at hs
  ·next e size bytes z agg hi hagg=>
   obtain ⟨hut,_,_,he,hzl,hn⟩:=tH hi
   rw [hu0] at hut;cases hut
   split at hs
   ·cases hs
   ·next h0=>
    split at hs
    ·next zn ln cn hzn hln hcn=>
     obtain ⟨m,hm,e1⟩:=Option.map_eq_some_iff.1 hs
     cases e1
     obtain ⟨gl,l1,l2,l3⟩:=jm hln hx
     obtain ⟨gc,c1,c2,c3⟩:=jm hcn hy
     obtain ⟨g,g1,g2⟩:=dV hm
     simp only [Nd.den,l1,c1] at g2
     split at g2
     ·next xz kn n kn' m' e1 e2 e3=>
      cases e2;cases e3
      split at g2
      ·next hc=>
       cases g2
       obtain ⟨b1,b2,b3,b4,b5⟩:=hc
       simp only [GR] at l3 c3
       subst l3;subst c3
       obtain ⟨xs,hrun,hsz,hvs⟩:=ajT (P:=P) (w:=w) (η:=η) (kd:=kn) (kd':=kn') hi h0 b1 b2 b3 b4
       have hzero:∀us,aj η z us→aj η (bI xz.cells) us:=by
        intro us hus
        cases agg with
        | true=>
          simp only [if_true] at hzn
          obtain ⟨l',gs,e4,_,e5,_,e6⟩:=Ar hzn (by simp only [VR];exact ⟨us,rfl,hus⟩:VR η (.agg z) (.agg ⟨us⟩))
          rw [e1] at e5;cases e5
          simp only [GR] at e6
          obtain ⟨us',e7,e8⟩:=e6
          cases e7
          exact (jX _ _).1 e8
        | false=>
          simp only [Bool.false_eq_true,if_false] at hzn
          cases hz':z with
          | nil=>rw [hz'] at hzn;simp at hzn
          | cons a zr=>
            rw [hz'] at hzn hus hzl
            simp only [List.head?_cons,Option.bind_some] at hzn
            simp only [aj] at hus
            obtain ⟨u,ur,rfl,hu1,hu2⟩:=hus
            obtain ⟨gz,k1,k2,k3⟩:=jm hzn hu1
            rw [e1] at k1;cases k1
            rw [GV.zX k2]
            have:size=1:=by
             unfold GV.fD at b5
             rw [Bool.and_eq_true,GV.zX k2] at b5
             exact (Nat.eq_of_beq_eq_true b5.1).symm
            rw [this] at hzl
            have ku:zr=[]:=by apply List.eq_nil_of_length_eq_zero;simpa using hzl
            subst ku
            simp only [aj] at hu2
            subst hu2
            simp only [bI]
            exact aj.cons ((iW _ _).1 k3) (by simp [aj])
       have hall:∀x∈List.replicate n.toNat xz,x.cells.length=size∧x.cells.all GV.scalar=true:=by
        intro x hx
        rw [(List.mem_replicate.1 hx).2]
        unfold GV.fD at b5
        rw [Bool.and_eq_true] at b5
        exact ⟨Nat.eq_of_beq_eq_true b5.1,b5.2⟩
       have hlm:n.toNat≤m'.toNat:=by omega
       have hpre:aj η (fO n.toNat z) (xs.toList.take (fO n.toNat z).length):=by
        rw [Jo,hzl]
        have:=hvs.take (n.toNat * size)
        rw [← hzl,alT z _ _ hlm,hzl] at this
        exact this
       have hal:=uX h (c:=fO n.toNat z) (xs:=xs) (elem:=_) (es:=size) (opn:=true) hpre (by rw [Jo,hzl,hsz];exact Nat.mul_le_mul_right _ hlm) (by simp) (fun _=>⟨he,Nat.pos_of_ne_zero h0,hn⟩)
       have hcap:(m'.toNat * size) / size=m'.toNat:=Nat.mul_div_cancel _ (Nat.pos_of_ne_zero h0)
       obtain ⟨q1,q2⟩:=St.qC (f:=false) (size:=size) (y:=.slice (some ⟨w.heap.size,0,none⟩) n.toNat m'.toNat) hal g1 hall hn (fun vs hvs=>by
        have hz2:∀us,aj (η.put σ.next ⟨w.heap.size,0,xs.size,size⟩) z us→aj (η.put σ.next ⟨w.heap.size,0,xs.size,size⟩) (bI xz.cells) us:=by
         intro us hus
         cases agg with
         | true=>
           simp only [if_true] at hzn
           obtain ⟨l',gs,e4,_,e5,_,e6⟩:=Ar hzn (by simp only [VR];exact ⟨us,rfl,hus⟩:VR (η.put σ.next ⟨w.heap.size,0,xs.size,size⟩) (.agg z) (.agg ⟨us⟩))
           rw [e1] at e5;cases e5
           simp only [GR] at e6
           obtain ⟨us',e7,e8⟩:=e6
           cases e7
           exact (jX _ _).1 e8
         | false=>
           simp only [Bool.false_eq_true,if_false] at hzn
           cases hz':z with
           | nil=>rw [hz'] at hzn;simp at hzn
           | cons a zr=>
             rw [hz'] at hzn hus hzl
             simp only [List.head?_cons,Option.bind_some] at hzn
             simp only [aj] at hus
             obtain ⟨u,ur,rfl,hu1,hu2⟩:=hus
             obtain ⟨gz,k1,k2,k3⟩:=jm hzn hu1
             rw [e1] at k1;cases k1
             rw [GV.zX k2]
             have:size=1:=by
              unfold GV.fD at b5
              rw [Bool.and_eq_true,GV.zX k2] at b5
              exact (Nat.eq_of_beq_eq_true b5.1).symm
             rw [this] at hzl
             have ku:zr=[]:=by apply List.eq_nil_of_length_eq_zero;simpa using hzl
             subst ku
             simp only [aj] at hu2
             subst hu2
             simp only [bI]
             exact aj.cons ((iW _ _).1 k3) (by simp [aj])
        exact ac8 hz2 _ _ hvs) (by
         simp only [VR]
         exact ⟨⟨w.heap.size,0,xs.size,size⟩,by simp [Env.put],by simp [hsz,hcap,hlm],by simp [hsz,hcap]⟩) (by simp)
       exact ⟨_,_,_,hrun,q1,q2⟩
      ·cases g2
     ·cases g2
    ·cases hs
  ·cases hs
 ·cases hs
theorem D8:∀ {xs:List GV} {b:List UInt8},jJ xs=some b→bytesOf (bI xs)=some b
 | [],b,h=>by simpa [jJ,bI,bytesOf] using h
 | x::xs,b,h=>by
   unfold jJ at h
   split at h
   ·rename_i heq;cases heq
   ·next n rest heq=>
    cases heq
    simp only [bI,iP,bytesOf]
    split at h
    ·next hc=>
     rw [if_pos hc]
     obtain ⟨b',hb',rfl⟩:=Option.map_eq_some_iff.1 h
     rw [D8 hb'];rfl
    ·cases h
   ·cases h
theorem Hf:∀ {xs:List GV} {b:List UInt8},jJ xs=some b→xs.flatMap GV.cells=xs
 | [],b,h=>rfl
 | x::xs,b,h=>by
   unfold jJ at h
   split at h
   ·rename_i heq;cases heq
   ·next n rest heq=>
    cases heq
    split at h
    ·obtain ⟨b',hb',_⟩:=Option.map_eq_some_iff.1 h
     rw [List.flatMap_cons,Hf hb'];rfl
    ·cases h
   ·cases h
theorem aoX (h:SR P η σ w) {src dst:TypeId} {a v:AV} {x:Value} (hs:Le P src dst a σ=some (v,σ')) (hx:VR η a x) :
 ∃y w' η',(convert src dst x).run P w=.ok y w'∧St P η σ w η' σ' w'∧VR η' v y:=by
 unfold Le at hs
 split at hs
 ·next d k n h1 h2=>
  obtain ⟨v',hm,e1⟩:=Option.map_eq_some_iff.1 hs
  cases e1
  simp only [VR] at hx
  obtain ⟨g,a1,a2,a3⟩:=hx
  obtain ⟨_,g',_,b2,b3⟩:=jl (η:=η) hm
  simp only [Nd.den,a1] at b2
  split at b2
  ·next kk z e1=>
   cases e1;cases b2
   simp only [GR] at a3;subst a3
   obtain ⟨y,w',η',r1,r2,r3⟩:=Es h (src:=src) (dst:=dst) (a:=.i kk z) (v:=.i k (k.wrap z)) (σ':=σ) (by simp only [qH,h1,h2]) (by simp only [VR]:VR η (.i kk z) (.int kk z))
   exact ⟨y,w',η',r1,r2,by obtain ⟨_,g2,_,c2,c3⟩:=jl (η:=η') hm;simp only [Nd.den,a1,Option.some.injEq] at c2;subst c2;exact c3 y rfl ((iW _ _).2 r3)⟩
  ·cases b2
 ·next n h1 h2=>
  obtain ⟨v',hm,e1⟩:=Option.map_eq_some_iff.1 hs
  cases e1
  simp only [VR] at hx
  obtain ⟨g,a1,a2,a3⟩:=hx
  obtain ⟨_,g',_,b2,b3⟩:=jl (η:=η) hm
  simp only [Nd.den,a1] at b2
  split at b2
  ·next z e1=>
   cases e1;cases b2
   simp only [GR] at a3;subst a3
   obtain ⟨y,w',η',r1,r2,r3⟩:=Es h (src:=src) (dst:=dst) (a:=.s z) (v:=.s z) (σ':=σ) (by simp only [qH,h1,h2]) (by simp only [VR]:VR η (.s z) (.string ⟨⟨z⟩⟩))
   exact ⟨y,w',η',r1,r2,by obtain ⟨_,g2,_,c2,c3⟩:=jl (η:=η') hm;simp only [Nd.den,a1,Option.some.injEq] at c2;subst c2;exact c3 y rfl ((iW _ _).2 r3)⟩
  ·cases b2
 ·next e n h1 h2=>
  split at hs
  ·next h3=>
   split at hs
   ·next hc=>
    split at hs
    ·next m hm=>
     cases hs
     simp only [VR] at hx
     obtain ⟨g,a1,a2,a3⟩:=hx
     obtain ⟨g',b1,b2⟩:=dV hm
     simp only [Nd.den,a1] at b2
     split at b2
     ·next z e1=>
      cases e1;cases b2
      simp only [GR] at a3;subst a3
      obtain ⟨y,w',η',r1,r2,r3⟩:=Es h (src:=src) (dst:=dst) (a:=.s z) (v:=.sl σ.next 0 z.length none) (σ':=σ.new (.cells (pz z) e true true)) (by simp only [qH,h1,h2,h3,if_pos hc]) (by simp only [VR]:VR η (.s z) (.string ⟨⟨z⟩⟩))
      obtain ⟨q1,q2⟩:=St.qC (f:=false) (size:=1) r2 b1 (by
       intro x hx
       obtain ⟨c,_,rfl⟩:=List.mem_map.1 hx
       exact ⟨rfl,rfl⟩) hc.2 (fun vs hvs=>by rw [Um];exact hvs) (by simpa [kM] using r3) (by simp)
      exact ⟨y,w',η',r1,q1,q2⟩
     ·cases b2
    ·cases hs
   ·cases hs
  ·cases hs
 ·next e h1 h2=>
  split at hs
  ·next h3=>
   split at hs
   ·next m hl=>
    obtain ⟨v',hm,e1⟩:=Option.map_eq_some_iff.1 hs
    cases e1
    obtain ⟨_,g',_,b2,b3⟩:=jl (η:=η) hm
    simp only [Nd.den] at b2
    split at b2
    ·next xs hv=>
     split at b2
     ·next h48=>
      obtain ⟨b,hb,rfl⟩:=Option.map_eq_some_iff.1 b2
      have fin:∀ {τ:ah} {A:AV},SR P η τ w→VR η A x→qH P src dst A τ=some (.s b,τ)→(∀ {η':Env} {w':World},St P η τ w η' τ w'→St P η σ w η' σ w')→∃y w' η',(convert src dst x).run P w=.ok y w'∧St P η σ w η' σ w'∧VR η' v y:=by
       intro τ A hS hA hA2 hst
       obtain ⟨y,w',η',r1,r2,r3⟩:=Es hS hA2 hA
       refine ⟨y,w',η',r1,hst r2, ?_⟩
       obtain ⟨_,g2,_,c2,c3⟩:=jl (η:=η') hm
       simp only [Nd.den,hv,if_pos h48,hb,Option.map_some,Option.some.injEq] at c2
       subst c2;exact c3 y rfl ((iW _ _).2 r3)
      have hnil:jJ xs=some b→xs=[]→b=[]:=by rintro h1 rfl;simpa [jJ] using h1.symm
      unfold listOf at hl
      split at hl
      ·next n=>
       cases hl
       simp only [VR] at hx
       obtain ⟨g,a1,a2,a3⟩:=hx
       rw [hv] at a1;cases a1
       exact fin h ((iW (.l xs) x).1 a3) (by simp only [iP,qH,h1,h2,h3,D8 hb,Option.map_some]) (fun h=>h)
      ·obtain ⟨g,g1,g2⟩:=dV hl
       rw [hv] at g1;cases g1
       simp only [Nd.den,valsOf,Option.map_some,Option.some.injEq,GV.l.injEq] at g2
       have:=hnil hb g2.symm;subst this
       exact fin h hx (by simp only [qH,h1,h2,h3]) (fun h=>h)
      ·next id n=>
       split at hl
       ·next m' et _ hg=>
        split at hl
        ·next hc=>
         cases hl
         rw [Bool.and_eq_true] at hc
         simp only [VR] at hx
         obtain ⟨ys,k1,hx⟩:=hx
         have hlen:=rZ 100 hc.2 hv k1
         rcases hx with ⟨q,hq,hle,rfl⟩ | ⟨_,rfl,rfl⟩
         ·obtain ⟨xs',j1,j2,j3,j4,j5,j6,j7,hS⟩:=Dv h hg hq
          rw [hv] at j1;cases j1
          have hcg:aX xs=bI xs:=by unfold aX;rw [Hf hb]
          have htk:takeN (aX xs) 0 xs.length=some (bI xs):=by
           rw [hcg];unfold takeN
           rw [List.drop_zero,List.take_of_length_le (by rw [jc];omega),if_pos (jc xs)]
          rw [hlen] at htk
          refine fin (A:=.sl id 0 ys.length none) hS (by simp only [VR];exact ⟨q,hq,by simpa using hle,by simp⟩) ?_ (fun hst=>aqy (fun e=>by subst e;exact (h.at hg hq).LX) hg hq hv j2 j7 (F6 hg hst))
          simp only [qH,h1,h2,h3,wJ,htk,D8 hb,Option.map_some]
         ·have hxs:xs=[]:=List.eq_nil_of_length_eq_zero (by simpa using hlen)
          have:=hnil hb hxs;subst this
          exact fin h (A:=.cZ) (by simp only [VR]) (by simp only [qH,h1,h2,h3]) (fun h=>h)
        ·cases hl
       ·cases hl
      ·next id off len cap=>
       split at hl
       ·next c et og opn size agg hg hsz hag=>
        split at hl
        ·next hc=>
         rw [Bool.and_eq_true,Bool.or_eq_true,Bool.and_eq_true] at hc
         split at hl
         ·next cs hcs=>
          split at hl
          ·next ns hns=>
           have hagg:agg=false→size=1:=by
            intro e;subst e
            rcases hc.2 with h1 | h1
            ·simp at h1
            ·exact Nat.eq_of_beq_eq_true h1
           obtain ⟨g,g1,g2⟩:=dV hl
           rw [hv] at g1;cases g1
           simp only [VR] at hx
           obtain ⟨q,hq,hle,rfl⟩:=hx
           obtain ⟨q',hq',ws,elem,fr,hblk,rr⟩:=h.obj _ _ hg rfl
           rw [hq] at hq';cases hq'
           have hlc:=(mP hcs).2.1
           obtain ⟨gs,k1,k2,k3,_,k5⟩:=wY (η:=η) hagg len hns (rr.qN hcs) hlc
           simp only [Nd.den,k1,Option.map_some,Option.some.injEq,GV.l.injEq] at g2
           rw [g2] at k2 k3 k5
           have hl1:len * size=len:=by
            cases len with
            | zero=>simp
            | succ n=>
              have hx0:xs[0]? = some (xs[0]'(by omega)):=List.getElem?_eq_getElem (by omega)
              have h5:=(k5 _ (List.mem_of_getElem? hx0)).1
              have h6:(xs[0]'(by omega)).cells.length=1:=by
               cases xs with
               | nil=>simp at k2
               | cons y ys=>
                 cases y with
                 | i k n=>rfl
                 | b=>simp [jJ] at hb
                 | s=>simp [jJ] at hb
                 | l=>simp [jJ] at hb
                 | g=>simp [jJ] at hb
              rw [h6] at h5;rw [← h5];simp
           have hcg:aX xs=bI xs:=by unfold aX;rw [Hf hb]
           rw [hcg] at k3
           have hxs:=D9 (D8 hb) k3
           rw [hl1] at hcs hxs
           refine ⟨.string ⟨⟨b⟩⟩,w,η, ?_,St.refl h, ?_⟩
           ·simp only [convert,Sem.run_bind,aQ h1,aQ h2,Result.andThen_ok,aQ h3,Conv.bytesToString]
            rw [wE hblk (rr.take hcs),hxs]
            simp only [Result.andThen_ok]
            rw [Rh _ (fun _ _ _=>rfl)]
            rfl
           ·obtain ⟨_,g2,_,c2,c3⟩:=jl (η:=η) hm
            simp only [Nd.den,hv,if_pos h48,hb,Option.map_some,Option.some.injEq] at c2
            subst c2;exact c3 _ rfl (by simp only [GR])
          ·cases hl
         ·cases hl
        ·cases hl
       ·cases hl
      ·cases hl
     ·cases b2
    ·cases b2
   ·cases hs
  ·cases hs
 ·cases hs
end
end Go.aN
namespace Go.aN
noncomputable section
variable [aC]
set_option linter.unusedSectionVars false
set_option linter.unusedVariables false
set_option linter.unusedSimpArgs false
variable {P:Program} {η:Env} {σ σ':ah} {w:World}
def xR (ro:Nat→Option Obj) (w:World) (b:Nat):Nat→Option Obj:=fun k=>if k=b then w.heap[b]? else ro k
theorem Jp {ro:Nat→Option Obj} {w:World} (h:∀b o,ro b=some o→w.heap[b]? = some o) (b:Nat):∀k o,ro k=some o→xR ro w b k=some o:=by
 intro k o hk
 unfold xR
 split
 ·next e=>subst e;exact h _ _ hk
 ·exact hk
theorem St.freeze (h:SR P η σ w) {id:Nat} {o:aV} {q:Place} (hg:σ.get id=some o) (ho:o.own=true) (hl:σ.lock≤id) (hq:η id=some q):St P η σ w ⟨η.pl,xR η.ro w q.bl,η.gh⟩ (σ.kill id) w:=by
 have hle:(η:Env).le ⟨η.pl,xR η.ro w q.bl,η.gh⟩:=⟨fun _ _ h=>h,Jp h.fV q.bl,fun _ h=>h⟩
 have sub:∀k u,(σ.kill id).get k=some u→k≠id∧σ.get k=some u:=by
  intro k u hk
  rw [ah.qJ] at hk
  split at hk
  ·cases hk
  ·next e=>exact ⟨e,hk⟩
 refine ⟨hle,⟨h.jM,h.dom,fun k u hk=>?_,h.gU,fun k u k' u' p p' a1 a2 a3 a4 a5 a6=>?_,fun b u hb=>?_,fun k u p a1 a2 a3=>?_,fun p hp=>(h.tabs p hp).mono hle⟩,Nat.le_refl _,fun _ _ _=>rfl,fun k u p a1 a2 a3 a4=>?_,rfl,rfl,rfl,rfl,Nat.le_refl _,fun _ h=>.inl h,fun b hb=>?_⟩
 ·exact (h.live k u (sub k u hk).2).mono hle
 ·exact h.sep k u k' u' p p' (sub k u a1).2 a2 (sub k' u' a3).2 a4 a5 a6
 ·have hb':(if b=q.bl then w.heap[q.bl]? else η.ro b)=some u:=hb
  split at hb'
  ·next e=>rw [e];exact hb'
  ·exact h.fV b u hb'
 ·obtain ⟨e1,e2⟩:=sub k u a1
  show (if p.bl=q.bl then w.heap[q.bl]? else η.ro p.bl)=none
  have hne:=h.sep k u id o p q e2 a2 hg e1 a3 hq
  rw [if_neg hne]
  exact h.jH k u p e2 a2 a3
 ·exact .inr ⟨k,u,p,(sub k u a1).2,a2,a3,a4,rfl⟩
 ·have hb':(if b=q.bl then w.heap[q.bl]? else η.ro b)≠none:=hb
  split at hb'
  ·next e=>exact .inr (.inr ⟨id,o,q,hg,ho,hl,hq,e.symm⟩)
  ·exact .inl hb'
theorem GR.PW {η:Env} {w:World} {q:Place} {c:List AV} {et:TypeId} {og opn:Bool} {ro':Nat→Option Obj} (h:OR P η q w (.cells c et og opn)) (hro:∀b o,η.ro b=some o→ro' b=some o) (hq:ro' q.bl=w.heap[q.bl]?) {off n size cap:Nat} {cs:List AV} {gs:List GV} (ht:takeN c off (n * size)=some cs) (hn:gs.length=n) (hcap:n≤cap) (h0:0 < size)
 (hs:∀x∈gs,x.cells.length=size∧x.cells.all GV.scalar=true) (hc:∀ (η':Env) vs,(∀b o,η.ro b=some o→η'.ro b=some o)→aj η cs vs→aj η' (aX gs) vs):GR ro' (.l gs) (.slice (some ⟨q.bl,q.ba+off,none⟩) n cap):=by
 obtain ⟨ws,elem,fr,hb,r⟩:=h
 have h1:=r.qN ht
 have hfit:=r.take ht
 obtain ⟨e1,e2,e3⟩:=mP ht
 have h2:=hc ⟨η.pl,ro',η.gh⟩ _ hro h1
 obtain ⟨ys,y1,y2,y3⟩:=ungroup gs _ h2 (fun x hx=>(hs x hx).2)
 simp only [GR]
 right
 refine ⟨q.bl,q.ba+off,cap,ys,size,by rw [hn],by rw [hn];exact hcap,y1,fun y hy=>?_,fun hne=>⟨ws,elem,fr,by rw [hq,hb], ?_, ?_⟩⟩
 ·obtain ⟨k,hk⟩:=List.getElem?_of_mem hy
  have hkl:k < gs.length:=by rw [y1.length];exact (List.getElem?_eq_some_iff.1 hk).1
  rw [y3 k _ y (List.getElem?_eq_getElem hkl) hk]
  exact (hs _ (List.getElem_mem hkl)).1
 ·rw [y2]
  have hnp:0 < gs.length:=List.length_pos_iff.2 hne
  have hp:0 < n * size:=Nat.mul_pos (by omega) h0
  rw [List.length_take,List.length_drop,Array.length_toList]
  omega
 ·rw [y2]
  intro k x hk
  rw [List.getElem?_take] at hk
  split at hk
  ·rw [List.getElem?_drop,Array.getElem?_toList] at hk;exact hk
  ·cases hk
theorem VR.aa3 (h:SR P η σ w) {id n m et:Nat} {f:Bool} {x:Value} {ro':Nat→Option Obj} (hg:σ.get id=some (.vec m et f)) (hs:qg 100 m n=true) (hx:VR η (.sv id n) x) (hro:∀b o,η.ro b=some o→ro' b=some o) (hq:∀q,η id=some q→ro' q.bl=w.heap[q.bl]?) :
 ∃ys,aC.val m=some (.l ys)∧GR ro' (.l ys) x:=by
 simp only [VR] at hx
 obtain ⟨ys,k1,hx⟩:=hx
 rcases hx with ⟨q,hq1,hle,rfl⟩ | ⟨hgh,rfl,rfl⟩
 ·obtain ⟨xs,x1,x2,x3,x4,x5,x6,x7,x8⟩:=(h.at hg hq1).BQ
  have hlen:=rZ 100 hs x1 k1
  refine ⟨xs,x1, ?_⟩
  have hcl:=yO x2
  have:=GR.PW (ro':=ro') (off:=0) (n:=ys.length) (size:=q.es) (cap:=q.sz / q.es) (cs:=aX xs) (gs:=xs) x8 hro (hq q hq1) (by
   unfold takeN
   rw [List.drop_zero,← hlen,List.take_of_length_le (by omega),if_pos hcl]) hlen hle x4 (fun x hx=>⟨x2 x hx,x7 x hx⟩) (fun η' vs hro hvs=>by
    unfold aX at hvs ⊢
    exact (jX _ _).1 (aO.mono hro _ _ ((jX _ _).2 hvs)))
  simpa using this
 ·rcases h.live id _ hg with ⟨q,hq1,_⟩ | ⟨_,n2,N7,f2,e2,hv0⟩
  ·rw [(h.gU id hgh).1] at hq1;cases hq1
  ·cases e2
   exact ⟨[],hv0,by simp [GR]⟩
theorem SA {η':Env} (hle:η.le η') {o:Option AV} {v:Option Value} (h:iL η o v):iL η' o v:=by
 cases o<;>cases v<;>first | exact h | exact VR.mono hle _ _ h
theorem St.aly (h:SR P η σ w) {id m et k:Nat} {f:Bool} (hg:σ.get id=some (.vec m et f)) (hgh:η.gh id=true) (hv:aC.val k=some (.l [])):St P η σ w η (σ.put id (.vec k et f)) w:=by
 have get:∀i u,(σ.put id (.vec k et f)).get i=some u→(i=id∧u=.vec k et f)∨(i≠id∧σ.get i=some u):=by
  intro i u hi
  rw [ah.get_put] at hi
  split at hi
  ·next e=>cases hi;exact .inl ⟨e,rfl⟩
  ·next e=>exact .inr ⟨e,hi⟩
 have hno:∀q,η id≠some q:=fun q hq=>by rw [(h.gU id hgh).1] at hq;cases hq
 refine ⟨Env.le.refl _,⟨h.jM,h.dom,fun i u hi=>?_,h.gU,fun i u i' u' q q' a1 a2 a3 a4 a5 a6=>?_,h.fV,fun i u q a1 a2 a3=>?_,h.tabs⟩,Nat.le_refl _,fun _ _ _=>rfl,fun i u q a1 a2 a3 a4=>?_,rfl,rfl,rfl,rfl,Nat.le_refl _,fun _ h=>.inl h,fun _ h=>.inl h⟩
 ·rcases get i u hi with ⟨rfl,rfl⟩ | ⟨_,h1⟩
  ·exact .inr ⟨hgh,k,et,f,rfl,hv⟩
  ·exact h.live i u h1
 ·rcases get i u a1 with ⟨rfl,_⟩ | ⟨_,h1⟩
  ·exact absurd a5 (hno q)
  ·rcases get i' u' a3 with ⟨rfl,_⟩ | ⟨_,h2⟩
   ·exact absurd a6 (hno q')
   ·exact h.sep i u i' u' q q' h1 a2 h2 a4 a5 a6
 ·rcases get i u a1 with ⟨rfl,_⟩ | ⟨_,h1⟩
  ·exact absurd a3 (hno q)
  ·exact h.jH i u q h1 a2 a3
 ·rcases get i u a1 with ⟨rfl,_⟩ | ⟨_,h1⟩
  ·exact absurd a4 (hno q)
  ·exact .inr ⟨i,u,q,h1,a2,a3,a4,rfl⟩
theorem ao5 (h:SR P η σ w) {t:TypeId} {a v:AV} {x:Value} {lo hi:Option AV} {lo' hi':Option Value} (hs:Lu P t σ a lo hi=some (v,σ')) (hx:VR η a x) (hlo:iL η lo lo') (hhi:iL η hi hi') :
 ∃y w' η',(Instr.sliceAt t x lo' hi' none).run P w=.ok y w'∧St P η σ w η' σ' w'∧VR η' v y:=by
 unfold Lu at hs
 split at hs
 rotate_left
 ·cases hs
 next e id n hu=>
 split at hs
 rotate_left
 ·cases hs
 next m et f size hg hsz=>
 split at hs
 rotate_left
 ·cases hs
 next hc=>
 simp only [Bool.and_eq_true] at hc
 obtain ⟨⟨c1,c2⟩,c3⟩:=hc
 have e1:=Nat.eq_of_beq_eq_true c1
 subst e1
 have hlk:=Nat.le_of_ble_eq_true c3
 cases lo with
 | some l0=>
   simp only at hs
   obtain ⟨r,hr,e2⟩:=Option.map_eq_some_iff.1 hs
   cases e2
   have key:∀η1:Env,SR P η1 (σ.kill id) w→St P η σ w η1 (σ.kill id) w→VR η1 (.nd m) x→∃y w' η',(Instr.sliceAt t x lo' hi' none).run P w=.ok y w'∧St P η σ w η' (σ.kill id) w'∧VR η' v y:=by
    intro η1 h1 hst hv
    obtain ⟨y,k1,k2⟩:=aej h1 hr hv (SA hst.ext hlo) (SA hst.ext hhi)
    exact ⟨y,w,η1,k1,hst,k2⟩
   have hx0:=hx
   simp only [VR] at hx0
   obtain ⟨ys,k1,hx0⟩:=hx0
   rcases hx0 with ⟨q,hq1,hle,_⟩ | ⟨hgh,_,_⟩
   ·have hst:=St.freeze h hg rfl hlk hq1
    obtain ⟨zs,z1,z2⟩:=VR.aa3 (ro':=xR η.ro w q.bl) h hg c2 hx (Jp h.fV q.bl) (fun q' hq'=>by rw [hq1] at hq';cases hq';unfold xR;rw [if_pos rfl])
    exact key _ hst.rel hst (by simp only [VR];exact ⟨_,z1,rfl,z2⟩)
   ·obtain ⟨zs,z1,z2⟩:=VR.aa3 (ro':=η.ro) h hg c2 hx (fun _ _ h=>h) (fun q' hq'=>by rw [(h.gU id hgh).1] at hq';cases hq')
    have hst:=(St.refl h).IW id
    exact key η hst.rel hst (by simp only [VR];exact ⟨_,z1,rfl,z2⟩)
 | none=>
   simp only at hs
   split at hs
   rotate_left
   ·cases hs
   next z hh h1 h2=>
   obtain ⟨k,hk,e2⟩:=Option.map_eq_some_iff.1 hs
   cases e2
   obtain ⟨g,g1,g2⟩:=dV hk
   simp only [Nd.den] at g2
   split at g2
   rotate_left
   ·cases g2
   next xs kl li kh hi2 e3 e4 e5=>
   split at g2
   rotate_left
   ·cases g2
   next hc=>
   cases g2
   obtain ⟨b1,b2,b3,b4⟩:=hc
   have hz:li=0:=by
    obtain ⟨gz,z1,z2⟩:=dV h1
    simp only [Nd.den,Option.some.injEq] at z2
    subst z2
    rw [e4] at z1;cases z1;rfl
   subst hz
   have hlt:D6 (none:Option AV)=some z:=h1
   obtain ⟨lo2,hi3,d1,d2,d3⟩:=RH (len:=xs.length) hlt h2 hlo hhi e4 e5 (fun hd=>by simp only [Nd.den,e3,Option.some.injEq,GV.i.injEq] at hd;exact hd.2.symm) b1 b2 b3
   have hlo2:(0:Int).toNat=0:=rfl
   simp only [VR] at hx
   obtain ⟨ys,y1,hx⟩:=hx
   have hlen:=rZ 100 c2 e3 y1
   have hks:(xs.take hi2.toNat).drop (0:Int).toNat=xs.take hi2.toNat:=by simp
   rw [hks] at g1
   have EN:hi2.toNat≤xs.length:=by omega
   rcases hx with ⟨q,hq1,hle,rfl⟩ | ⟨hgh,rfl,rfl⟩
   ·have hor:=h.at hg hq1
    obtain ⟨xs',cs,elem,fr,zs,o1,o2,o3,o4,o5,o6,o7,o8,o9⟩:=hor
    rw [e3] at o1;cases o1
    have hB:=wW (P:=P) (w:=w) (sl:=true) (cap:=q.sz / q.es) d3 (fun k hk=>by have:k≤xs.length:=by simpa using hk
                                                                             omega) (by omega) d1 d2
    have hes:0 < q.es∧sizeT P e=some q.es:=⟨(o7.room rfl).2.1,(o7.room rfl).2.2⟩
    have hne:size=q.es:=by have:=hes.2;rw [hsz] at this;cases this;rfl
    have hnew:OR P η q w (.vec k e f):=by
     have hz1:=o3.length
     refine ⟨xs.take hi2.toNat,cs,elem,fr,zs.take hi2.toNat,g1,o2, ?_,fun y hy=>o4 y (List.mem_of_mem_take hy), ?_, ?_,o7,fun x hx=>o8 x (List.mem_of_mem_take hx),o9⟩
     ·have:∀ (xs:List GV) (zs:List Value) (n:Nat),aO η.ro xs zs→aO η.ro (xs.take n) (zs.take n):=by
       intro xs
       induction xs with
       | nil=>intro zs n hg;simp only [aO] at hg;subst hg;simp [aO]
       | cons a l ih=>
         intro zs n hg
         simp only [aO] at hg
         obtain ⟨x,us,rfl,a1,a2⟩:=hg
         cases n with
         | zero=>simp [aO]
         | succ n=>simp only [List.take_succ_cons,aO];exact ⟨x,us.take n,rfl,a1,ih us n a2⟩
      exact this _ _ _ o3
     ·intro j x hj
      refine o5 j x ?_
      have hpre:(dJ (zs.take hi2.toNat)) <+: dJ zs:=by
       unfold dJ
       rw [show zs=zs.take hi2.toNat++zs.drop hi2.toNat from (List.take_append_drop _ _).symm]
       rw [List.flatMap_append]
       simp only [List.take_append_drop]
       exact List.prefix_append _ _
      obtain ⟨r,hr⟩:=hpre
      rw [← hr,List.getElem?_append_left (List.getElem?_eq_some_iff.1 hj).1]
      exact hj
     ·rw [List.length_take]
      refine Nat.le_trans (Nat.mul_le_mul_right _ (Nat.min_le_right _ _)) o6
    have hst:=St.write h hg rfl hlk hq1 (w':=w) (o':=.vec k e f) rfl (fun _ _=>rfl) rfl rfl rfl hnew
    refine ⟨.slice (some ⟨q.bl,q.ba,none⟩) hi2.toNat (q.sz / q.es),w,η, ?_,hst, ?_⟩
    ·rw [hlen] at hB
     simp only [Instr.sliceAt,Instr.slice,aQ hu,Sem.run_bind,Result.andThen_ok,hB.1,fA hsz,Sem.run_pure]
     by_cases e0:q.sz / q.es=0
     ·simp [e0]
     ·have e1:¬ q.sz / q.es=(0:Int).toNat:=e0
      rw [if_neg e1]
      simp [lu]
    ·simp only [VR]
     refine ⟨xs.take hi2.toNat,g1,.inl ⟨q,hq1, ?_, ?_⟩⟩
     ·rw [List.length_take];omega
     ·rw [List.length_take,Nat.min_eq_left EN]
   ·have hxs:xs=[]:=List.eq_nil_of_length_eq_zero (by simpa using hlen)
    subst hxs
    have hh0:hi2.toNat=0:=by simpa using EN
    have hl:sV P t σ .cZ lo2 hi3=some .cZ:=by
     simp only [sV,hu,hsz]
     simp only [List.length_nil] at d3
     rw [d3];rfl
    obtain ⟨y,u1,u2⟩:=KY h hl (show VR η .cZ (.slice none 0 0) by simp only [VR]) d1 d2
    simp only [VR] at u2
    subst u2
    have hvk:aC.val k=some (.l []):=by rw [g1];simp
    refine ⟨_,w,η,u1,St.aly h hg hgh hvk, ?_⟩
    simp only [VR]
    exact ⟨[],hvk,.inr ⟨hgh,by trivial,by trivial⟩⟩
end
end Go.aN
namespace Go.aN
noncomputable section
variable [aC]
set_option linter.unusedSectionVars false
set_option linter.unusedVariables false
set_option linter.unusedSimpArgs false
variable {P:Program} {η:Env} {σ σ':ah} {w:World}
def pW (kk:Option IntKind):TypeDesc:=match kk with
 | some k=>.int k
 | none=>.string
theorem O3 {kt:TypeId} {k:AV} {n:Nat} {kk:Option IntKind} {y:Value} (h:ES P kt k=some (n,kk)) (hy:VR η k y) :
 P.underlying kt=some (pW kk)∧∃g,aC.val n=some g∧rQ kk g∧GR η.ro g y:=by
 unfold ES at h
 split at h
 ·next vT m hu hn=>
  split at h
  ·next z hz=>
   obtain ⟨j,hj,e⟩:=Option.map_eq_some_iff.1 h
   cases e
   obtain ⟨g,h1,_,h3⟩:=jm hn hy
   obtain ⟨z',h4,h5⟩:=dV hz
   simp only [Nd.den,Option.some.injEq] at h5
   subst h5
   obtain ⟨r,_,h7⟩:=dV hj
   simp only [Nd.den,h1,h4] at h7
   refine ⟨hu,g,h1, ?_,h3⟩
   cases g<;>simp only [dY,gK,reduceCtorEq] at h7
   split at h7
   ·next e=>subst e;exact ⟨_,rfl⟩
   ·cases h7
  ·cases h
 ·next m hu hn=>
  split at h
  ·next z hz=>
   obtain ⟨j,hj,e⟩:=Option.map_eq_some_iff.1 h
   cases e
   obtain ⟨g,h1,_,h3⟩:=jm hn hy
   obtain ⟨z',h4,h5⟩:=dV hz
   simp only [Nd.den,Option.some.injEq] at h5
   subst h5
   obtain ⟨r,_,h7⟩:=dV hj
   simp only [Nd.den,h1,h4] at h7
   refine ⟨hu,g,h1, ?_,h3⟩
   cases g<;>simp only [dY,qj,reduceCtorEq] at h7
   exact ⟨_,rfl⟩
  ·cases h
 ·cases h
theorem adT {k:IntKind} {a b:Int}:Instr.sameNow (.int k) (.int k a) (.int k b)=some (a==b):=by simp [Instr.sameNow]
theorem adV {a b:List UInt8}:Instr.sameNow .string (.string ⟨⟨a⟩⟩) (.string ⟨⟨b⟩⟩)=some (a==b):=by simp [Instr.sameNow,Az]
theorem abw {kk:Option IntKind} {n:Nat} {e:AV} {g:GV} {x y:Value} {b:Bool} (h:O5 n e=some b) (hg:aC.val n=some g) (hk:rQ kk g) (hy:GR η.ro g y) (hx:VR η e x) :
 Instr.sameNow (pW kk) y x=some b:=by
 unfold O5 at h
 split at h
 ·next m hm=>
  obtain ⟨g',h1,_,h3⟩:=jm hm hx
  have key:∃r,(Nd.bin .eql n m).den aC.I aC.val=some r∧r=.b b:=by
   split at h
   ·next b' hb=>
    cases h
    obtain ⟨j,r,q1,q2,q3⟩:=jl (η:=η) hb
    refine ⟨r,q2, ?_⟩
    simp only [Nd.den,hg,h1] at q2
    have:∃c,r=.b c:=by
     cases g<;>cases g'<;>simp only [dY,reduceCtorEq] at q2
     ·split at q2
      ·simp only [gK,Option.some.injEq] at q2;exact ⟨_,q2.symm⟩
      ·cases q2
     ·simp only [qj,Option.some.injEq] at q2;exact ⟨_,q2.symm⟩
    obtain ⟨c,rfl⟩:=this
    have:=q3 (.bool c) rfl (by simp only [GR])
    simp only [VR] at this
    cases this;rfl
   ·next j hb=>
    split at h
    ·next b' hd=>
     cases h
     obtain ⟨j',r,q1,q2,q3⟩:=jl (η:=η) hb
     refine ⟨r,q2, ?_⟩
     simp only [Nd.den,hg,h1] at q2
     have:∃c,r=.b c:=by
      cases g<;>cases g'<;>simp only [dY,reduceCtorEq] at q2
      ·split at q2
       ·simp only [gK,Option.some.injEq] at q2;exact ⟨_,q2.symm⟩
       ·cases q2
      ·simp only [qj,Option.some.injEq] at q2;exact ⟨_,q2.symm⟩
     obtain ⟨c,rfl⟩:=this
     have h8:=q3 (.bool c) rfl (by simp only [GR])
     obtain ⟨v,hv,q4⟩:=AX hd
     cases hv
     have:=q4 η _ h8
     simp only [VR] at this
     cases this;rfl
    ·cases h
   ·cases h
  obtain ⟨r,q2,rfl⟩:=key
  simp only [Nd.den,hg,h1] at q2
  cases kk with
  | some k=>
    obtain ⟨a,rfl⟩:=hk
    simp only [GR] at hy;subst hy
    cases g'<;>simp only [dY,reduceCtorEq] at q2
    split at q2
    ·next e=>
     subst e
     simp only [gK,Option.some.injEq,GV.b.injEq] at q2
     simp only [GR] at h3;subst h3
     show Instr.sameNow (.int _) _ _=_
     rw [adT,q2]
    ·cases q2
  | none=>
    obtain ⟨a,rfl⟩:=hk
    simp only [GR] at hy;subst hy
    cases g'<;>simp only [dY,qj,reduceCtorEq] at q2
    simp only [Option.some.injEq,GV.b.injEq] at q2
    simp only [GR] at h3;subst h3
    show Instr.sameNow .string _ _=_
    rw [adV,q2]
 ·cases h
theorem Oh {kk:Option IntKind} {n:Nat} {g:GV} {y:Value} (hg:aC.val n=some g) (hk:rQ kk g) (hy:GR η.ro g y):∀ {es:List (AV×AV)} {ms:List MapEntry} {i:Nat} {r:Option (Nat×AV)},
 ED n es i=some r→uM η es ms→∃r',Instr.findNow (pW kk) y ms i=some r'∧(match r,r' with | none,none=>True | some (_,v),some (_,z)=>VR η v z | _,_=>False)
 | [],ms,i,r,h,hm=>by
   simp only [ED,Option.some.injEq] at h;subst h
   have:ms=[]:=by have:=hm.1;cases ms<;>simp_all
   subst this
   exact ⟨none,rfl,trivial⟩
 | e::es,ms,i,r,h,hm=>by
   obtain ⟨m,rest,rfl,h1,h2,h3⟩:=hm.tail
   unfold ED at h
   split at h
   ·next hs=>
    cases h
    have hs:=abw hs hg hk hy h1
    exact ⟨some (i,m.val),by simp [Instr.findNow,hs],h2⟩
   ·next hs=>
    have hs:=abw hs hg hk hy h1
    obtain ⟨r',hr,hrel⟩:=Oh hg hk hy h h3
    exact ⟨r',by simp [Instr.findNow,hs,hr],hrel⟩
   ·cases h
theorem adU {kk:Option IntKind} {g a:GV} {y x:Value} {ro:Nat→Option Obj} (hk:rQ kk g) (ha:rQ kk a) (hy:GR ro g y) (hx:GR ro a x):Instr.sameNow (pW kk) y x=some (xF g a):=by
 cases kk with
 | some k=>
   obtain ⟨m,rfl⟩:=hk
   obtain ⟨n,rfl⟩:=ha
   simp only [GR] at hy hx;subst hy;subst hx
   show Instr.sameNow (.int _) _ _=_
   rw [adT]
   simp [xF]
 | none=>
   obtain ⟨m,rfl⟩:=hk
   obtain ⟨n,rfl⟩:=ha
   simp only [GR] at hy hx;subst hy;subst hx
   show Instr.sameNow .string _ _=_
   rw [adV]
   rfl
theorem Ie {ro:Nat→Option Obj} {kk:Option IntKind} {sz:Option Nat} {g:GV} {y:Value} (hk:rQ kk g) (hy:GR ro g y):∀ {xs:List GV} {ms:List MapEntry} {i:Nat},mZ ro kk sz xs ms→
 (iZ g xs=none∧Instr.findNow (pW kk) y ms i=some none)∨∃u j z,iZ g xs=some u∧Instr.findNow (pW kk) y ms i=some (some (j,z))∧i≤j∧(∃m,ms[j - i]? = some m∧Instr.sameNow (pW kk) y m.key=some true)∧Dw sz u∧GR ro u z
 | [],ms,i,h=>by
   simp only [mZ] at h;subst h
   exact .inl ⟨rfl,rfl⟩
 | x::xs,ms,i,h=>by
   obtain ⟨a,b,m,rest,rfl,rfl,h1,h2,h3,h4,h5⟩:=h
   have hs:=adU hk h1 hy h3
   cases hb:xF g a with
   | true=>
     rw [hb] at hs
     exact .inr ⟨b,i,m.val,by simp [iZ,hb],by simp [Instr.findNow,hs],Nat.le_refl _,⟨m,by simp,hs⟩,h2,h4⟩
   | false=>
     rw [hb] at hs
     rcases Ie (i:=i+1) hk hy h5 with ⟨q1,q2⟩ | ⟨u,j,z,q1,q2,q3,⟨m',q4,q5⟩,q6⟩
     ·exact .inl ⟨by simp [iZ,hb,q1],by simp [Instr.findNow,hs,q2]⟩
     ·refine .inr ⟨u,j,z,by simp [iZ,hb,q1],by simp [Instr.findNow,hs,q2],by omega,⟨m', ?_,q5⟩,q6⟩
      have:j - i=(j - (i+1))+1:=by omega
      rw [this];simpa using q4
theorem acU {ro:Nat→Option Obj} {kk:Option IntKind} {sz:Option Nat} {g u:GV} {e:MapEntry} (hk:rQ kk g) (hu:Dw sz u) (h1:GR ro g e.key) (h2:GR ro u e.val):∀ {xs:List GV} {ms:List MapEntry},mZ ro kk sz xs ms→iZ g xs=none→
 mZ ro kk sz (qL g u xs) (ms++[e])
 | [],ms,h,_=>by
   simp only [mZ] at h;subst h
   exact ⟨g,u,e,[],rfl,rfl,hk,hu,h1,h2,rfl⟩
 | x::xs,ms,h,hn=>by
   obtain ⟨a,b,m,rest,rfl,rfl,q1,q2,q3,q4,q5⟩:=h
   simp only [iZ] at hn
   split at hn
   ·cases hn
   ·next hb=>
    simp only [qL,if_neg hb]
    exact ⟨a,b,m,rest++[e],rfl,rfl,q1,q2,q3,q4,acU hk hu h1 h2 q5 hn⟩
theorem acV {ro:Nat→Option Obj} {kk:Option IntKind} {sz:Option Nat} {g u:GV} {y z':Value} (hk:rQ kk g) (hu:Dw sz u) (h1:GR ro g y) (h2:GR ro u z'):∀ {xs:List GV} {ms:List MapEntry} {i j:Nat} {z:Value},mZ ro kk sz xs ms→Instr.findNow (pW kk) y ms i=some (some (j,z))→
 mZ ro kk sz (qL g u xs) (ms.modify (j - i) fun e=>{ e with key:=y,val:=z' })
 | [],ms,i,j,z,h,hf=>by
   simp only [mZ] at h;subst h
   simp [Instr.findNow] at hf
 | x::xs,ms,i,j,z,h,hf=>by
   obtain ⟨a,b,m,rest,rfl,rfl,q1,q2,q3,q4,q5⟩:=h
   have hs:=adU hk q1 h1 q3
   cases hb:xF g a with
   | true=>
     rw [hb] at hs
     simp only [Instr.findNow,hs,Option.some.injEq,Prod.mk.injEq] at hf
     obtain ⟨rfl,rfl⟩:=hf
     simp only [qL,hb,if_true,Nat.sub_self]
     exact ⟨g,u, { m with key:=y,val:=z' },rest,rfl,by simp,hk,hu,h1,h2,q5⟩
   | false=>
     rw [hb] at hs
     simp only [Instr.findNow,hs] at hf
     have hj:i+1≤j:=by
      rcases Ie (i:=i+1) hk h1 q5 with ⟨_,r2⟩ | ⟨_,j',_,_,r2,r3,_⟩
      ·rw [hf] at r2;cases r2
      ·rw [hf] at r2;cases r2;exact r3
     have ih:=acV hk hu h1 h2 q5 hf
     have e:j - i=(j - (i+1))+1:=by omega
     rw [e]
     simp only [qL,hb,Bool.false_eq_true,if_false,List.modify_succ_cons]
     exact ⟨a,b,m,_,rfl,rfl,q1,q2,q3,q4,ih⟩
theorem ND {kt:TypeId} {kk:Option IntKind} {g:GV} {y:Value} (hu:P.underlying kt=some (pW kk)) (hk:rQ kk g) (hy:GR η.ro g y) (b:Bool):(Instr.checkKey b 10000 kt y).run P w=.ok () w:=by
 have H:∀n:Nat,(Instr.checkKey b (n+1) kt y).run P w=.ok () w:=fun n=>by
  cases kk with
  | some k=>
    obtain ⟨m,rfl⟩:=hk
    simp only [GR] at hy;subst hy
    simp only [Instr.checkKey,Sem.run_bind,aQ hu,Result.andThen_ok,pW,Sem.run_pure]
  | none=>
    obtain ⟨m,rfl⟩:=hk
    simp only [GR] at hy;subst hy
    simp only [Instr.checkKey,Sem.run_bind,aQ hu,Result.andThen_ok,pW,Sem.run_pure]
 exact H 9999
theorem aeG {et:TypeId} {v:AV} {n:Nat} {sz:Option Nat} {x:Value} (h:F9 P et v=some (n,sz)) (hx:VR η v x):∃g,aC.val n=some g∧Dw sz g∧GR η.ro g x∧(match kD P et with
 | some true=>∃k,sizeT P et=some k∧sz=some k
 | some false=>sz=none
 | none=>False):=by
 unfold F9 at h
 split at h
 ·next ha=>
  split at h
  ·next n' k hn hk=>
   split at h
   ·next he=>
    cases h
    obtain ⟨l,gs,rfl,h1,h2,h3,h4⟩:=Ar hn hx
    rw [ha]
    refine ⟨_,h2,⟨gs,rfl, ?_,h3⟩,h4,k,hk,rfl⟩
    rw [h1];exact Nat.eq_of_beq_eq_true he
   ·cases h
  ·cases h
 ·next ha=>
  obtain ⟨n',hn,e⟩:=Option.map_eq_some_iff.1 h
  cases e
  obtain ⟨g,h1,h2,h3⟩:=jm hn hx
  rw [ha]
  exact ⟨g,h1,h2,h3,rfl⟩
 ·cases h
theorem O7 {a b:Option IntKind} (h:ET a b=true):a=b:=by
 cases a<;>cases b<;>simp only [ET] at h
 ·rfl
 ·cases h
 ·cases h
 ·rw [IL h]
theorem RI {a b:Option Nat} (h:FX a b=true):a=b:=by
 cases a<;>cases b<;>simp only [FX] at h
 ·rfl
 ·cases h
 ·cases h
 ·rw [Nat.eq_of_beq_eq_true h]
theorem aeM {et:TypeId} {z:AV} (h:Md P et=some z):∃x,(zeroValue et).run P w=.ok x w∧VR η z x:=by
 unfold Md at h
 split at h
 ·next i hi=>
  split at h
  ·next x hx=>
   obtain ⟨h3,h4⟩:=Me (w:=w) (η:=η) hi hx h
   exact ⟨x,h3,h4⟩
  ·cases h
 ·cases h
theorem ah6:∀ (cs:List GV) (n:Nat),cs.length=n→takeN (bI cs) 0 n=some (bI cs):=by
 intro cs n hn
 have hl:(bI cs).length=n:=by rw [jc,hn]
 simp only [takeN,List.drop_zero]
 rw [List.take_of_length_le (by omega),if_pos hl]
theorem ao3 (h:SR P η σ w) {t:TypeId} {m k v:AV} {x y:Value} {ok:Bool} (hs:Lp P t m k ok σ=some v) (hx:VR η m x) (hy:VR η k y) :
 ∃z,(Instr.lookup t x y ok).run P w=.ok z w∧VR η v z:=by
 unfold Lp at hs
 split at hs
 rotate_left
 ·cases hs
 next kt et id hu=>
 simp only [VR] at hx
 obtain ⟨q,hq,rfl⟩:=hx
 split at hs
 ·next n kk es hn hg=>
  obtain ⟨mM,g,g1,g2,g3⟩:=O3 hn hy
  obtain ⟨q',hq',ms,clock,hb,hsz,hp⟩:=h.obj _ _ hg rfl
  rw [hq] at hq';cases hq'
  have hmr:uM η es ms.toList:=⟨by simpa using hsz,fun k e hk=>by obtain ⟨m,hm,h1,h2⟩:=hp k e hk;exact ⟨m,by simpa using hm,h1,h2⟩⟩
  rw [Pm hu y ok hb]
  have hck:∀b,(Instr.checkKey b 10000 kt y).run P w=.ok () w:=fun b=>ND mM g2 g3 b
  split at hs
  ·next j u hf=>
   cases hs
   obtain ⟨r',h1,h2⟩:=Oh g1 g2 g3 hf hmr
   cases r' with
   | none=>exact h2.elim
   | some p=>
     obtain ⟨j',z⟩:=p
     have hfk:(Instr.findKey kt y ms.toList).run P w=.ok (some (j',z)) w:=by simp only [Instr.findKey,Sem.run_bind,aQ mM,Result.andThen_ok,h1,Sem.run_pure]
     refine ⟨if ok then .tuple #[z,.bool true] else z, ?_, ?_⟩
     ·simp only [oK,Sem.run_bind,Result.andThen_ok,hck,hfk,Sem.run_pure]
     ·cases ok
      ·simpa using h2
      ·simp only [VR];exact ⟨[z,.bool true],rfl,aj.cons h2 (aj.cons (by simp [VR]) (by simp [aj]))⟩
  ·next hf=>
   obtain ⟨r',h1,h2⟩:=Oh g1 g2 g3 hf hmr
   cases r' with
   | some p=>exact h2.elim
   | none=>
     have hfk:(Instr.findKey kt y ms.toList).run P w=.ok none w:=by simp only [Instr.findKey,Sem.run_bind,aQ mM,Result.andThen_ok,h1,Sem.run_pure]
     obtain ⟨a,ha,rfl⟩:=Option.map_eq_some_iff.1 hs
     obtain ⟨z,h3,h4⟩:=aeM (w:=w) (η:=η) ha
     refine ⟨if ok then .tuple #[z,.bool false] else z, ?_, ?_⟩
     ·simp only [oK,Sem.run_bind,Result.andThen_ok,hck,hfk,h3,Sem.run_pure]
     ·cases ok
      ·simpa using h4
      ·simp only [VR];exact ⟨[z,.bool false],rfl,aj.cons h4 (aj.cons (by simp [VR]) (by simp [aj]))⟩
  ·cases hs
 ·next n kk j vT sz hn hg=>
  obtain ⟨mM,g,g1,g2,g3⟩:=O3 hn hy
  obtain ⟨q',hq',xs,ms,clock,hv,hb,hp⟩:=h.obj _ _ hg rfl
  rw [hq] at hq';cases hq'
  rw [Pm hu y ok hb]
  have hck:∀b,(Instr.checkKey b 10000 kt y).run P w=.ok () w:=fun b=>ND mM g2 g3 b
  split at hs
  rotate_left
  ·cases hs
  next hkk=>
  have:=O7 hkk
  subst this
  split at hs
  rotate_left
  ·cases hs
  next zn sz' hz=>
  split at hs
  rotate_left
  ·cases hs
  next hsz=>
  have:=RI hsz
  subst this
  obtain ⟨za,hza,hzn⟩:=Option.bind_eq_some_iff.1 hz
  obtain ⟨zv,z1,z2⟩:=aeM (w:=w) (η:=η) hza
  obtain ⟨zg,z3,z4,z5,z6⟩:=aeG hzn z2
  split at hs
  rotate_left
  ·cases hs
  next u hu'=>
  obtain ⟨jn,hj,hpart⟩:=Option.bind_eq_some_iff.1 hu'
  obtain ⟨rg,r1,r2⟩:=dV hj
  simp only [Nd.den,z3,hv,g1,Option.some.injEq] at r2
  have fin:∀ (z:Value) (b:Bool),Dw sz rg→GR η.ro rg z→(iZ g xs).isSome=b→oK kt et y ok ms=oK kt et y ok ms→(oK kt et y ok ms).run P w=.ok (if ok then .tuple #[z,.bool b] else z) w→∃z,(oK kt et y ok ms).run P w=.ok z w∧VR η v z:=by
   intro z b hok hgr hb' _ hrun
   have hvu:VR η u z:=by
    obtain ⟨r,q1,q2⟩:=RG (η:=η) r1 hpart
    cases hag:kD P et with
    | none=>rw [hag] at z6;exact z6.elim
    | some ag=>
      rw [hag] at z6 q1
      cases ag with
      | true=>
        obtain ⟨kn,k1,k2⟩:=z6
        subst k2
        obtain ⟨cs,rfl,c1,c2⟩:=hok
        simp only [k1,GV.cells,ah6 cs kn c1,Option.map_some,Option.some.injEq] at q1
        subst q1
        apply q2
        simp only [GR] at hgr
        obtain ⟨vs,rfl,hgs⟩:=hgr
        simp only [VR]
        exact ⟨vs,rfl,(jX _ _).1 hgs⟩
      | false=>
        simp only at z6
        subst z6
        have hsc:rg.scalar=true:=hok
        have hc:rg.cells=[rg]:=by cases rg<;>first | rfl | (simp [GV.scalar] at hsc)
        simp only [hc,EI,List.getElem?_cons_zero,Option.map_some,Option.some.injEq] at q1
        subst q1
        exact q2 _ ((iW _ _).1 hgr)
   cases ok with
   | false=>
     simp only [Bool.false_eq_true,if_false,Option.some.injEq] at hs hrun
     subst hs
     exact ⟨z,hrun,hvu⟩
   | true=>
     simp only [if_true] at hs hrun
     split at hs
     ·next bb hbb=>
      cases hs
      obtain ⟨_,gb,_,b2,b3⟩:=jl (η:=η) hbb
      simp only [Nd.den,hv,g1,Option.some.injEq] at b2
      subst b2
      refine ⟨_,hrun, ?_⟩
      simp only [VR]
      exact ⟨[z,.bool b],rfl,aj.cons hvu (aj.cons (b3 _ rfl (by simp only [GR];rw [hb'])) (by simp [aj]))⟩
     ·cases hs
  rcases Ie (i:=0) g2 g3 hp with ⟨q1,q2⟩ | ⟨u',j',z,q1,q2,_,_,q5,q6⟩
  ·have hfk:(Instr.findKey kt y ms.toList).run P w=.ok none w:=by simp only [Instr.findKey,Sem.run_bind,aQ mM,Result.andThen_ok,q2,Sem.run_pure]
   rw [q1,Option.getD_none] at r2
   subst r2
   refine fin zv false z4 z5 (by rw [q1];rfl) rfl ?_
   simp only [oK,Sem.run_bind,Result.andThen_ok,hck,hfk,z1,Sem.run_pure]
  ·have hfk:(Instr.findKey kt y ms.toList).run P w=.ok (some (j',z)) w:=by simp only [Instr.findKey,Sem.run_bind,aQ mM,Result.andThen_ok,q2,Sem.run_pure]
   rw [q1,Option.getD_some] at r2
   subst r2
   refine fin z true q5 q6 (by rw [q1];rfl) rfl ?_
   simp only [oK,Sem.run_bind,Result.andThen_ok,hck,hfk,Sem.run_pure]
 ·cases hs
theorem anl {kk:Option IntKind} {g a:GV} {y x:Value} (hk:rQ kk g) (hy:GR η.ro g y) (hs:Instr.sameNow (pW kk) y x=some true) (n:Nat):Instr.sameBits (n+1) x y=true:=by
 cases kk with
 | some k=>
   obtain ⟨m,rfl⟩:=hk
   simp only [GR] at hy;subst hy
   cases x<;>simp only [Instr.sameNow,pW,reduceCtorEq] at hs
   split at hs
   ·next e=>subst e;simp at hs;subst hs;simp [Instr.sameBits]
   ·cases hs
 | none=>
   obtain ⟨m,rfl⟩:=hk
   simp only [GR] at hy;subst hy
   cases x<;>simp only [Instr.sameNow,pW,reduceCtorEq] at hs
   next s=>
   obtain ⟨⟨l⟩⟩:=s
   rw [Az] at hs
   simp only [Instr.sameBits,Az]
   simp_all
theorem aei (h:SR P η σ w) {t:TypeId} {m k v:AV} {x y z:Value} (hs:Ls P t m k v σ=some σ') (hx:VR η m x) (hy:VR η k y) (hz:VR η v z) :
 ∃w',(Instr.mapUpdate t x y z).run P w=.ok () w'∧St P η σ w η σ' w':=by
 unfold Ls at hs
 split at hs
 rotate_left
 ·cases hs
 next kt et id hu=>
 simp only [VR] at hx
 obtain ⟨q,hq,rfl⟩:=hx
 split at hs
 rotate_left
 ·cases hs
 next hl=>
 have hl:=Nat.le_of_ble_eq_true hl
 have main:∀ (o:aV) (n:Nat) (kk:Option IntKind) (u:Nat) (sz:Option Nat) (j j':Nat) (xs:List GV) (ms:Array MapEntry) (clock:Nat),σ.get id=some o→o.own=true→ES P kt k=some (n,kk)→F9 P et v=some (u,sz)→
  aC.val j=some (.l xs)→w.heap[q.bl]? = some (.map ms clock)→mZ η.ro kk sz xs ms.toList→dH (.xK j n u)=some j'→∃w',(Instr.mapUpdate t (.map (some q.bl)) y z).run P w=.ok () w'∧St P η σ w η (σ.put id (.smap j' kk sz)) w':=by
  intro o n kk u sz j j' xs ms clock hg ho hn hvn hj hb hp hf
  obtain ⟨mM,g,g1,g2,g3⟩:=O3 hn hy
  obtain ⟨ug,u1,u2,u3,_⟩:=aeG hvn hz
  obtain ⟨rg,r1,r2⟩:=dV hf
  simp only [Nd.den,hj,g1,u1,Option.some.injEq] at r2
  subst r2
  have hck:=ND (w:=w) mM g2 g3 false
  have hgo:(getObj q.bl).run P w=.ok (.map ms clock) w:=by simp [getObj,Sem.run,hb]
  rcases Ie (i:=0) g2 g3 hp with ⟨q1,q2⟩ | ⟨u',i,zz,q1,q2,_,⟨m',q3,q4⟩,q5,q6⟩
  ·have hfk:(Instr.findKey kt y ms.toList).run P w=.ok none w:=by simp only [Instr.findKey,Sem.run_bind,aQ mM,Result.andThen_ok,q2,Sem.run_pure]
   refine ⟨jq w q.bl (.map (ms.push { key:=y,val:=z,born:=clock }) (clock+1)), ?_,St.write h hg ho hl hq wG (fun k hk=>wF hk) rfl rfl rfl ?_⟩
   ·simp only [Instr.mapUpdate,Sem.run_bind,aQ hu,Result.andThen_ok,hgo,hck,hfk]
    exact Dn hb (by simp)
   ·refine ⟨_,_,clock+1,r1,uj hb, ?_⟩
    rw [Array.toList_push]
    exact acU g2 u2 g3 u3 hp q1
  ·have hfk:(Instr.findKey kt y ms.toList).run P w=.ok (some (i,zz)) w:=by simp only [Instr.findKey,Sem.run_bind,aQ mM,Result.andThen_ok,q2,Sem.run_pure]
   rw [Nat.sub_zero,Array.getElem?_toList] at q3
   have OY:(Instr.keyThatStays (((ms[i]?).map (·.key)).getD y) y).run P w=.ok y w:=by
    rw [q3]
    simp only [Option.map_some,Option.getD_some,Instr.keyThatStays]
    rw [if_pos (anl (a:=g) g2 g3 q4 9999)];rfl
   refine ⟨jq w q.bl (.map (ms.modify i fun e=>{ e with key:=y,val:=z }) clock), ?_,St.write h hg ho hl hq wG (fun k hk=>wF hk) rfl rfl rfl ?_⟩
   ·simp only [Instr.mapUpdate,Sem.run_bind,aQ hu,Result.andThen_ok,hgo,hck,hfk,OY]
    exact Dn hb (by simp)
   ·refine ⟨_,_,clock,r1,uj hb, ?_⟩
    rw [Array.toList_modify]
    have:=acV (i:=0) g2 u2 g3 u3 hp q2
    rwa [Nat.sub_zero] at this
 split at hs
 ·next n kk u sz hn hvn hg=>
  split at hs
  ·next j hj=>
   obtain ⟨j',hf,rfl⟩:=Option.map_eq_some_iff.1 hs
   obtain ⟨q',hq',ms,clock,hb,hsz,hp⟩:=h.obj _ _ hg rfl
   rw [hq] at hq';cases hq'
   obtain ⟨gl,l1,l2⟩:=dV hj
   simp only [Nd.den,valsOf,Option.map_some,Option.some.injEq] at l2
   subst l2
   refine main _ n kk u sz j j' [] ms clock hg rfl hn hvn l1 hb ?_ hf
   simp only [mZ]
   have:ms.size=0:=by simpa using hsz
   simpa using Array.eq_empty_of_size_eq_zero this
  ·cases hs
 ·next n kk u sz j vT sz' hn hvn hg=>
  split at hs
  ·next hc=>
   rw [Bool.and_eq_true] at hc
   have e1:=O7 hc.1
   have e2:=RI hc.2
   subst e1;subst e2
   obtain ⟨j',hf,rfl⟩:=Option.map_eq_some_iff.1 hs
   obtain ⟨q',hq',xs,ms,clock,hv,hb,hp⟩:=h.obj _ _ hg rfl
   rw [hq] at hq';cases hq'
   exact main _ n kk u sz j j' xs ms clock hg rfl hn hvn hv hb hp hf
  ·cases hs
 ·cases hs
theorem ajU {v:AV} {x:Value} (h:mapArg v=true) (hx:VR η v x):∃k n,x=.int k n:=by
 unfold mapArg at h
 split at h
 ·next n=>
  split at h
  ·next a hn=>
   obtain ⟨g,h1,h2⟩:=aC.nK _ _ hn (by simp)
   simp only [VR] at hx
   obtain ⟨g',h3,_,h4⟩:=hx
   rw [h1] at h3;cases h3
   simp only [Nd.den] at h2
   split at h2
   ·cases h2
    simp only [GR] at h4
    exact ⟨_,_,h4⟩
   ·cases h2
  ·cases h
 ·next hne=>
  obtain ⟨n,hn⟩:=Option.isSome_iff_exists.1 h
  obtain ⟨k,hk⟩:=qR hn hx
  exact ⟨k,n,hk⟩
theorem abH {e:TypeId} {size len m:Nat} {cs:List AV} {vs:List Value} (h:IX P e size len cs=some m) (hv:aj η cs vs):0 < size∧0 < len∧cs.length=len * size∧∃gs,aC.val m=some (.l gs)∧gs.length=len∧aj η (aX gs) vs∧∀x∈gs,x.cells.length=size∧x.cells.all GV.scalar=true:=by
 unfold IX at h
 split at h
 rotate_left
 ·cases h
 split at h
 rotate_left
 ·cases h
 next agg ha=>
 split at h
 rotate_left
 ·cases h
 next hc=>
 simp only [Bool.and_eq_true,Bool.or_eq_true,Nat.blt_eq] at hc
 obtain ⟨⟨h1,h2⟩,h3⟩:=hc
 have h3:=Nat.eq_of_beq_eq_true h3
 have hpos:0 < size:=by
  rcases h1 with ⟨_,h1⟩ | h1
  ·exact h1
  ·have:=Nat.eq_of_beq_eq_true h1;omega
 have h11:agg=false→size=1:=by
  intro e
  rcases h1 with ⟨h1,_⟩ | h1
  ·rw [e] at h1;cases h1
  ·exact Nat.eq_of_beq_eq_true h1
 split at h
 ·next ns hns=>
  obtain ⟨gs,k1,k2,k3,_,k5⟩:=wY h11 len hns hv h3
  obtain ⟨g,g1,g2⟩:=dV h
  simp only [Nd.den,k1,Option.map_some,Option.some.injEq] at g2
  subst g2
  exact ⟨hpos,h2,h3,gs,g1,k2,k3,k5⟩
 ·cases h
theorem ajD {R:Prop} {t e:TypeId} {size bytes len:Nat} {z:List AV} {ps:List (Nat×AV)} {qs:Array (Nat×Value)} {cs:List AV}
 (fin:∀ (v:AV) (τ:ah),IY P σ e size len cs=(some v,τ)→(∃y w' η',(Instr.buildSlice t len qs).run P w=.ok y w'∧St P η σ w η' τ w'∧VR η' v y)→R)
 (h:SR P η σ w) (hi:pF P t=some (e,size,bytes,z)) (hlen:¬ len * size > 2 ^ 24) (hf:sQ (fun i=>some (i * size,size)) (if len * size=0 then [] else fO len z) ps=some cs) (hp:uN η ps qs.toList):R:=by
 unfold IY at fin
 split at fin
 rotate_left
 ·exact fin _ _ rfl (afl h hi hlen hf hp)
 next m hm=>
 refine fin _ _ rfl ?_
 obtain ⟨hu,_,hz,he,hzl,hn⟩:=tH hi
 obtain ⟨zv,ku,hzv⟩:=xX hz
 have hpos:0 < size∧0 < len:=by
  unfold IX at hm
  split at hm
  rotate_left
  ·cases hm
  split at hm
  rotate_left
  ·cases hm
  next agg ha=>
  split at hm
  rotate_left
  ·cases hm
  next hc=>
  simp only [Bool.and_eq_true,Bool.or_eq_true,Nat.blt_eq] at hc
  refine ⟨?_,hc.1.2⟩
  rcases hc.1.1 with ⟨_,h1⟩ | h1
  ·exact h1
  ·have:=Nat.eq_of_beq_eq_true h1;omega
 have h0:¬ len * size=0:=by
  have:=Nat.mul_pos hpos.2 hpos.1
  omega
 simp only [h0,if_false] at hf
 obtain ⟨xs,EM,hxs⟩:=Ba hf hp (Gi (hzv η) hzl)
 have hl:=hxs.length
 have hal:=uX h (c:=cs) (xs:=xs) (elem:=e) (es:=size) (opn:=true) (by rw [hl,List.take_length];exact hxs) (by simpa using Nat.le_of_eq hl) (by simp) (fun _=>⟨he,hpos.1,hn⟩)
 obtain ⟨_,_,hcl,gs,g1,g2,_,g4⟩:=abH hm hxs
 have hsz:xs.size=len * size:=by rw [← hcl,hl];simp
 have hdiv:xs.size / size=len:=by rw [hsz];exact Nat.mul_div_cancel _ hpos.1
 obtain ⟨q1,q2⟩:=St.qC (f:=false) (size:=size) (y:=.slice (some ⟨w.heap.size,0,none⟩) len len) hal g1 g4 hn (fun vs hvs=>by
  obtain ⟨_,_,_,gs',k1,_,k3,_⟩:=abH hm hvs
  rw [g1] at k1;cases k1
  exact k3) (by
  simp only [VR]
  refine ⟨⟨w.heap.size,0,xs.size,size⟩,by simp [Env.put], ?_, ?_⟩
  ·simp only [Option.getD_none,Nat.sub_zero]
   rw [hdiv,g2];simp
  ·simp only [Option.getD_none,Nat.sub_zero,hdiv,g2,Nat.add_zero]) (by simp)
 refine ⟨_,_,_, ?_,q1,q2⟩
 simp only [Instr.buildSlice,Sem.run_bind,aQ hu,Result.andThen_ok,fA hn,Sem.run_ite,if_neg hlen,h0,if_false,ku,Sem.run_pure,EM,newRow,newObj,Sem.run]
end
end Go.aN
namespace Go.aN
noncomputable section
variable [aC]
set_option linter.unusedSectionVars false
set_option linter.unusedVariables false
set_option linter.unusedSimpArgs false
variable {P:Program} {η:Env} {σ σ':ah} {w:World}
structure TR (P:Program) (η:Env) (a:aU) (A:Act):Prop where
 gn:a.gn=P.globals.size
 size:A.tmps.size=a.n
 none:A.defers=[]
 slot:∀t v,a.t.get t=some v→∃x,A.tmps[t]? = some x∧VR η v x
theorem TR.mono {η η':Env} {a:aU} {A:Act} (h:TR P η a A) (hle:η.le η'):TR P η' a A:=
 ⟨h.gn,h.size,h.none,fun t v hv=>by obtain ⟨x,hx,hr⟩:=h.slot t v hv;exact ⟨x,hx,VR.mono hle _ _ hr⟩⟩
theorem TR.put {a a':aU} {A:Act} {dst:Option Tmp} {r:Option AV} {x:Value} (h:TR P η a A) (hp:a.put dst r=some a') (hr:∀v,r=some v→VR η v x):TR P η a' (A.put dst x):=by
 unfold aU.put at hp
 split at hp
 ·cases hp;exact h
 ·next d=>
  split at hp
  ·next hd=>
   cases hp
   refine ⟨h.gn,by simp [Act.put,h.size],h.none,fun t v hv=>?_⟩
   rw [Tr.pG] at hv
   show ∃y,(A.tmps.setIfInBounds d x)[t]? = some y∧_
   rw [Array.getElem?_setIfInBounds]
   split at hv
   ·next e=>
    subst e
    rw [if_pos rfl,if_pos (by rw [h.size];exact hd)]
    exact ⟨x,rfl,hr v hv⟩
   ·next e=>rw [if_neg (fun e'=>e e'.symm)];exact h.slot t v hv
  ·cases hp
theorem Ez {a:aU} {A:Act} (h:SR P η σ w) (ht:TR P η a A) (x:Operand) (v:AV) (hv:a.eval x=some v):VR η v (A.eval x):=by
 cases x with
 | tmp t=>
   obtain ⟨y,hy,hr⟩:=ht.slot t v hv
   simp only [Act.eval]
   rw [Array.getD_eq_getD_getElem?,hy];exact hr
 | const c=>exact vW _ _ _ hv
 | global g=>
   simp only [aU.eval] at hv
   split at hv
   ·next hg=>
    cases hv
    rw [ht.gn] at hg
    obtain ⟨sz,es,h1⟩:=h.jM g (Nat.le_of_lt hg)
    simp only [VR,Act.eval]
    exact ⟨_,h1,by simp⟩
   ·cases hv
 | func f=>
   simp only [aU.eval,Option.some.injEq] at hv;subst hv
   simp only [VR,Act.eval]
   exact ⟨[],[],rfl,by simp [aj],by simp [aj]⟩
def DC (P:Program) (η:Env) (σ:ah) (w:World) (r:Option AV) (σ':ah) (s:Sem Next):Prop:=
 ∃nx w' η',s.run P w=.ok nx w'∧St P η σ w η' σ' w'∧(match r with | some v=>∃x,nx=.value x∧VR η' v x | none=>nx=.skip)
theorem bZ {r:AV} {s:Sem Value} (h:∃y w' η',s.run P w=.ok y w'∧St P η σ w η' σ' w'∧VR η' r y):DC P η σ w (some r) σ' (do pure (.value (← s))):=by
 obtain ⟨y,w',η',h1,h2,h3⟩:=h
 exact ⟨.value y,w',η',by simp only [Sem.run_bind,h1,Result.andThen_ok,Sem.run_pure],h2,y,rfl,h3⟩
theorem BR {s:Sem Unit} (h:∃w' η',s.run P w=.ok () w'∧St P η σ w η' σ' w'):DC P η σ w none σ' (do s;pure .skip):=by
 obtain ⟨w',η',h1,h2⟩:=h
 exact ⟨.skip,w',η',by simp only [Sem.run_bind,h1,Result.andThen_ok,Sem.run_pure],h2,rfl⟩
theorem eP {r:AV} {s:Sem Value} (h:SR P η σ w) (hs:∃y,s.run P w=.ok y w∧VR η r y):∃y w' η',s.run P w=.ok y w'∧St P η σ w η' σ w'∧VR η' r y:=by
 obtain ⟨y,h1,h2⟩:=hs
 exact ⟨y,w,η,h1,St.refl h,h2⟩
theorem gu {v:Option AV} {r:Option AV} (h:bQ σ v=some (r,σ')):∃u,v=some u∧r=some u∧σ'=σ:=by
 simp only [bQ,Option.map_eq_some_iff,Prod.mk.injEq] at h
 obtain ⟨u,h1,h2,h3⟩:=h
 exact ⟨u,h1,h2.symm,h3.symm⟩
theorem wB {v:Option (AV×ah)} {r:Option AV} (h:nM v=some (r,σ')):∃u,v=some (u,σ')∧r=some u:=by
 simp only [nM,Option.map_eq_some_iff,Prod.exists,Prod.mk.injEq] at h
 obtain ⟨u,s,h1,h2,h3⟩:=h
 subst h3
 exact ⟨u,h1,h2.symm⟩
theorem QV {v:Option ah} {r:Option AV} (h:Di v=some (r,σ')):v=some σ'∧r=none:=by
 simp only [Di,Option.map_eq_some_iff,Prod.mk.injEq] at h
 obtain ⟨s,h1,h2,h3⟩:=h
 subst h3
 exact ⟨h1,h2.symm⟩
theorem afa {c:Value} {t:Bool} (h:VR η (.b t) c):(asBool c).run P w=.ok t w:=by
 simp only [VR] at h;subst h;rfl
theorem afL (h:SR P η σ w) {ts:Array TypeId} {ty t:TypeId} {x v:AV} {u:Value} (ht:ts[0]? = some t) (hs:MH P t x σ=some (v,σ')) (hu:VR η x u) :
 ∃y w' η',(Builtin.clear_ ts ty #[u]).run P w=.ok y w'∧St P η σ w η' σ' w'∧VR η' v y:=by
 have hun:∀η':Env,VR η' (.bH []) (.tuple #[]):=fun η'=>by simp only [VR];exact ⟨[],rfl,by simp [aj]⟩
 unfold MH at hs
 split at hs
 ·next e hut=>
  cases hs
  simp only [VR] at hu;subst hu
  exact ⟨_,w,η,by simp only [Builtin.clear_,ht,List.getElem?_toArray,List.getElem?_cons_zero,Sem.run_bind,aQ hut,Result.andThen_ok,Sem.run_pure],St.refl h,hun _⟩
 ·next e hut=>
  cases hs
  simp only [VR] at hu
  rcases hu with ⟨_,pa,rfl⟩ | ⟨bl,off,c,xs,sz,rfl,_⟩
  ·exact ⟨_,w,η,by cases pa<;>simp only [Builtin.clear_,ht,List.getElem?_toArray,List.getElem?_cons_zero,Sem.run_bind,aQ hut,Result.andThen_ok,Sem.run_pure],St.refl h,hun _⟩
  ·exact ⟨_,w,η,by simp only [Builtin.clear_,ht,List.getElem?_toArray,List.getElem?_cons_zero,Sem.run_bind,aQ hut,Result.andThen_ok,Sem.run_pure,List.length_nil],St.refl h,hun _⟩
 ·next e id off n cap hut=>
  simp only [VR] at hu
  obtain ⟨q,hq,_,rfl⟩:=hu
  split at hs
  ·next h0=>
   cases hs;subst h0
   exact ⟨_,w,η,by simp only [Builtin.clear_,ht,List.getElem?_toArray,List.getElem?_cons_zero,Sem.run_bind,aQ hut,Result.andThen_ok,Sem.run_pure],St.refl h,hun _⟩
  ·next h0=>
   split at hs
   ·next z c et opn hz hg=>
    split at hs
    ·next hc=>
     simp only [Option.map_eq_some_iff] at hs
     obtain ⟨c',hr,e1⟩:=hs
     cases e1
     obtain ⟨zv,ku,hzv⟩:=xX hz
     have hzs:=Gi (n:=n) (size:=z.length) (hzv η) rfl
     have hlen:=(hzv η).length
     have hone:(fO n z).all AV.jC=true:=by
      rw [List.all_eq_true]
      intro a ha
      unfold fO at ha
      simp only [List.mem_flatten,List.mem_replicate] at ha
      obtain ⟨l,⟨_,rfl⟩,ha⟩:=ha
      exact List.all_eq_true.1 hc.2 a ha
     obtain ⟨w',hrun,hst⟩:=Mc h hg hc.1 hq hr hzs hone
     refine ⟨_,w',η, ?_,hst,hun _⟩
     have hzc:(Builtin.zeroCells zv.cells n)=(Array.range (n * z.length)).map (zv.cells[· % zv.cells.size]!):=by
      unfold Builtin.zeroCells
      rw [hlen];simp
     obtain ⟨m,rfl⟩:∃m,n=m+1:=⟨n - 1,by omega⟩
     simp only [Builtin.clear_,ht,List.getElem?_toArray,List.getElem?_cons_zero,Sem.run_bind,aQ hut,Result.andThen_ok,ku]
     rw [hzc,hrun]
     rfl
    ·cases hs
   ·cases hs
 ·next k e hut=>
  cases hs
  simp only [VR] at hu;subst hu
  exact ⟨_,w,η,by simp only [Builtin.clear_,ht,List.getElem?_toArray,List.getElem?_cons_zero,Sem.run_bind,aQ hut,Result.andThen_ok,Sem.run_pure],St.refl h,hun _⟩
 ·next k e id hut=>
  split at hs
  ·next es hg=>
   split at hs
   ·next hl=>
    cases hs
    simp only [VR] at hu
    obtain ⟨q,hq,rfl⟩:=hu
    obtain ⟨q',hq',ms,clock,hb,hsz,_⟩:=h.obj _ _ hg rfl
    rw [hq] at hq';cases hq'
    refine ⟨.tuple #[],jq w q.bl (.map #[] clock),η, ?_,St.write h hg rfl hl hq wG (fun k hk=>wF hk) rfl rfl rfl ⟨#[],clock,uj hb,rfl,by simp⟩,hun _⟩
    simp only [Builtin.clear_,ht,List.getElem?_toArray,List.getElem?_cons_zero,Sem.run_bind,aQ hut,Result.andThen_ok,getObj,Sem.run,hb,Dn hb (fun _ _ _=>by simp),Sem.run_pure]
   ·cases hs
  ·cases hs
 ·cases hs
theorem afn (h:SR P η σ w) {b:Builtin} {ts:Array TypeId} {ty:TypeId} {cs:Array Bool} {args:List AV} {vs:List Value} {r:Option AV} (hs:yB P b ts args σ=some (r,σ')) (hv:aj η args vs) :
 DC P η σ w r σ' (builtin b ts ty cs ⟨vs⟩):=by
 unfold yB at hs
 split at hs
 ·next x=>
  simp only [aj] at hv
  obtain ⟨u,_,rfl,hu,rfl⟩:=hv
  split at hs
  ·next t ht=>
   obtain ⟨v,h1,rfl,rfl⟩:=gu hs
   exact bZ (eP h (abD h ht h1 hu))
  ·cases hs
 ·next s x=>
  simp only [aj] at hv
  obtain ⟨u,_,rfl,hu,u',_,rfl,hu',rfl⟩:=hv
  obtain ⟨v,h1,rfl⟩:=wB hs
  exact bZ (ae6 h h1 hu hu')
 ·next s x=>
  simp only [aj] at hv
  obtain ⟨u,_,rfl,hu,u',_,rfl,hu',rfl⟩:=hv
  obtain ⟨v,h1,rfl⟩:=wB hs
  exact bZ (agV h h1 hu hu')
 ·next x=>
  simp only [aj] at hv
  obtain ⟨u,_,rfl,hu,rfl⟩:=hv
  split at hs
  ·next t ht=>
   obtain ⟨v,h1,rfl⟩:=wB hs
   exact bZ (afL h ht h1 hu)
  ·cases hs
 ·next x=>
  simp only [aj] at hv
  obtain ⟨u,_,rfl,hu,rfl⟩:=hv
  split at hs
  ·next t ht=>
   split at hs
   ·next e hun=>
    obtain ⟨v,h1,rfl,rfl⟩:=gu hs
    cases h1
    simp only [VR] at hu;subst hu
    exact bZ (eP h ⟨.int .i64 0,by simp [Builtin.cap_,ht,aQ hun,goInt],by simp [VR]⟩)
   ·next e id off n c hun=>
    obtain ⟨v,h1,rfl,rfl⟩:=gu hs
    cases h1
    simp only [VR] at hu
    obtain ⟨q,hq,_,rfl⟩:=hu
    exact bZ (eP h ⟨.int .i64 c,by simp [Builtin.cap_,ht,aQ hun,goInt],by simp [VR]⟩)
   ·cases hs
  ·cases hs
 ·simp only [aj] at hv
  obtain ⟨u,_,rfl,hu,rfl⟩:=hv
  obtain ⟨v,h1,rfl,rfl⟩:=gu hs
  cases h1
  simp only [VR] at hu;subst hu
  exact bZ (eP h ⟨_,ad3,by simp only [VR]⟩)
 ·next id off n cap=>
  split at hs
  ·cases hs
  ·next hc=>
   simp only [aj] at hv
   obtain ⟨u,_,rfl,hu,rfl⟩:=hv
   obtain ⟨v,h1,rfl,rfl⟩:=gu hs
   cases h1
   simp only [VR] at hu
   obtain ⟨q,hq,hle,rfl⟩:=hu
   refine bZ (eP h ⟨_,ad4 ?_,by simp only [VR];exact ⟨q,hq,rfl⟩⟩)
   intro e
   rw [e] at hle
   have hn:n=0:=by omega
   subst hn
   cases cap with
   | none=>exact hc ⟨rfl,.inl rfl⟩
   | some c=>simp only [Option.getD_some] at e;subst e;exact hc ⟨rfl,.inr rfl⟩
 ·next x n=>
  simp only [aj] at hv
  obtain ⟨u,_,rfl,hu,u',_,rfl,hu',rfl⟩:=hv
  simp only [VR] at hu';subst hu'
  split at hs
  ·next t it hts=>
   have:=GY hts;subst this
   split at hs
   ·next h0=>
    subst h0
    split at hs
    ·obtain ⟨v,h1,rfl,rfl⟩:=gu hs
     cases h1
     simp only [VR] at hu;subst hu
     exact bZ (eP h ⟨_,RU,by simp only [VR]⟩)
    ·obtain ⟨v,h1,rfl,rfl⟩:=gu hs
     cases h1
     simp only [VR] at hu
     obtain ⟨q,hq,rfl⟩:=hu
     exact bZ (eP h ⟨_,RU,by simp only [VR]⟩)
    ·cases hs
   ·split at hs
    ·next id off=>
     split at hs
     ·next e c et opn hut hg=>
      split at hs
      ·next hc=>
       obtain ⟨rfl,c1,c2,c3,c4,c5⟩:=hc
       split at hs
       ·next r' hr=>
        split at hs
        ·next b hb=>
         cases hs
         simp only [VR] at hu
         obtain ⟨q,hq,rfl⟩:=hu
         obtain ⟨y,w',h1,h2,h3⟩:=aeD (it:=it) (ty:=ty) h hut hg c1 c2 c3 c4 c5 hr hb hq
         exact bZ ⟨y,w',η,h1,h2,h3⟩
        ·cases hs
       ·cases hs
      ·cases hs
     ·cases hs
    ·cases hs
  ·cases hs
 ·next x y=>
  simp only [aj] at hv
  obtain ⟨u,_,rfl,hu,u',_,rfl,hu',rfl⟩:=hv
  split at hs
  ·next a a' h1 h2=>
   obtain ⟨v,h3,rfl,rfl⟩:=gu hs
   simp only [Option.bind_eq_some_iff] at h3
   obtain ⟨z,hz,pV⟩:=h3
   rw [uh h1 hu,uh h2 hu']
   exact bZ (eP h ⟨z,uf hz w,vW _ _ _ pV⟩)
  ·cases hs
 ·next x y=>
  simp only [aj] at hv
  obtain ⟨u,_,rfl,hu,u',_,rfl,hu',rfl⟩:=hv
  split at hs
  ·next a a' h1 h2=>
   obtain ⟨v,h3,rfl,rfl⟩:=gu hs
   simp only [Option.bind_eq_some_iff] at h3
   obtain ⟨z,hz,pV⟩:=h3
   rw [uh h1 hu,uh h2 hu']
   exact bZ (eP h ⟨z,uf hz w,vW _ _ _ pV⟩)
  ·cases hs
 ·next x y z=>
  simp only [aj] at hv
  obtain ⟨u,_,rfl,hu,u',_,rfl,hu',u'',_,rfl,ai5,rfl⟩:=hv
  split at hs
  ·next a a' a'' h1 h2 h4=>
   obtain ⟨v,h3,rfl,rfl⟩:=gu hs
   simp only [Option.bind_eq_some_iff] at h3
   obtain ⟨z,hz,pV⟩:=h3
   rw [uh h1 hu,uh h2 hu',uh h4 ai5]
   exact bZ (eP h ⟨z,uf hz w,vW _ _ _ pV⟩)
  ·cases hs
 ·cases hs
end
end Go.aN
namespace Go.aN
noncomputable section
variable [aC]
set_option linter.unusedSectionVars false
set_option linter.unusedVariables false
set_option linter.unusedSimpArgs false
variable {P:Program} {η:Env} {σ σ':ah} {w:World}
theorem aqx {pt it ty:TypeId} (p:Option Addr):(Builtin.unsafeString_ #[pt,it] ty #[.pointer p,.int .i64 0]).run P w=.ok (.string ⟨⟨[]⟩⟩) w:=RU
theorem aoW (h:SR P η σ w) {b:Builtin} {ts:Array TypeId} {ty:TypeId} {cs:Array Bool} {args:List AV} {vs:List Value} {r:Option AV} (hs:Aa P b ts args σ=some (r,σ')) (hv:aj η args vs) :
 DC P η σ w r σ' (builtin b ts ty cs ⟨vs⟩):=by
 unfold Aa at hs
 have mm:∀ (big:Bool) {x y:AV} {m n:Nat} {v:AV} {u u':Value},fF x=some m→fF y=some n→iR (.mm big m n)=some v→VR η x u→VR η y u'→∃k a b',u=.int k a∧u'=.int k b'∧VR η v (.int k (if big then (if a < b' then b' else a) else (if b' < a then b' else a))):=by
  intro big x y m n v u u' hm hn hmk hu hu'
  obtain ⟨g1,a1,a2,a3⟩:=jm hm hu
  obtain ⟨g2,b1,b2,b3⟩:=jm hn hu'
  obtain ⟨_,g,_,c2,c3⟩:=jl (η:=η) hmk
  simp only [Nd.den,a1,b1] at c2
  split at c2
  ·next k i k' j e1 e2=>
   cases e1;cases e2
   split at c2
   ·next hk=>
    subst hk;cases c2
    simp only [GR] at a3 b3
    exact ⟨k,i,j,a3,b3,c3 _ rfl (by simp only [GR])⟩
   ·cases c2
  ·cases c2
 split at hs
 ·next x=>
  simp only [aj] at hv
  obtain ⟨u,_,rfl,hu,rfl⟩:=hv
  split at hs
  ·next t ht=>
   obtain ⟨v,h1,e⟩:=Option.map_eq_some_iff.1 hs
   cases e
   exact bZ (eP h (ao1 ht h1 hu))
  ·cases hs
 ·next s x=>
  simp only [aj] at hv
  obtain ⟨u,_,rfl,hu,u',_,rfl,hu',rfl⟩:=hv
  obtain ⟨v,h1,e⟩:=Option.map_eq_some_iff.1 hs
  cases e
  exact bZ (aoU h h1 hu hu')
 ·next x y=>
  simp only [aj] at hv
  obtain ⟨u,_,rfl,hu,u',_,rfl,hu',rfl⟩:=hv
  split at hs
  ·next m n hm hn=>
   obtain ⟨v,h1,e⟩:=Option.map_eq_some_iff.1 hs
   cases e
   obtain ⟨k,a,b',rfl,rfl,h2⟩:=mm false hm hn h1 hu hu'
   refine bZ (eP h ⟨_, ?_,h2⟩)
   simp [Builtin.min_,Builtin.min2]
  ·cases hs
 ·next x y=>
  simp only [aj] at hv
  obtain ⟨u,_,rfl,hu,u',_,rfl,hu',rfl⟩:=hv
  split at hs
  ·next m n hm hn=>
   obtain ⟨v,h1,e⟩:=Option.map_eq_some_iff.1 hs
   cases e
   obtain ⟨k,a,b',rfl,rfl,h2⟩:=mm true hm hn h1 hu hu'
   refine bZ (eP h ⟨_, ?_,h2⟩)
   simp [Builtin.max_,Builtin.max2]
  ·cases hs
 ·next id n=>
  split at hs
  ·next m et hg=>
   split at hs
   ·next hsl=>
    cases hs
    simp only [aj] at hv
    obtain ⟨u,_,rfl,hu,rfl⟩:=hv
    simp only [VR] at hu
    obtain ⟨xs,k1,hu⟩:=hu
    rcases hu with ⟨q,hq,hle,rfl⟩ | ⟨hgh,rfl,rfl⟩
    ·have hor:=h.at hg hq
     have hpos:=hor.LX
     obtain ⟨_,_,_,_,hes,_⟩:=hor.BQ
     have hcap:q.sz / q.es≠0:=by
      have:=Nat.div_pos hpos hes
      omega
     exact bZ (eP h ⟨_,ad4 hcap,by simp only [VR];exact ⟨xs,_,k1,rfl,fun _=>⟨q,hq,rfl⟩⟩⟩)
    ·exact bZ (eP h ⟨_,ad3,by simp only [VR];exact ⟨[],_,k1,rfl,fun hn=>absurd rfl hn⟩⟩)
   ·cases hs
  ·cases hs
 ·next id n k=>
  split at hs
  ·next t it hts=>
   have:=GY hts;subst this
   split at hs
   ·next e m et f hut hg=>
    split at hs
    ·next hc=>
     obtain ⟨rfl,c1,c2,c3⟩:=hc
     split at hs
     ·next n' hk=>
      split at hs
      ·next hsl=>
       rw [Bool.and_eq_true] at hsl
       obtain ⟨v,hm,e⟩:=Option.map_eq_some_iff.1 hs
       cases e
       simp only [aj] at hv
       obtain ⟨u,_,rfl,hu,u',_,rfl,hu',rfl⟩:=hv
       simp only [VR] at hu hu'
       obtain ⟨ys,p,k1,rfl,hp⟩:=hu
       obtain ⟨gk,j1,_,j3⟩:=hu'
       obtain ⟨gk',j4,j5⟩:=aC.nK k _ hk (by simp)
       rw [j1] at j4;cases j4
       obtain ⟨nn,gs,b1,b2,b3⟩:=jl (η:=η) hm
       simp only [Nd.den] at b2
       split at b2
       ·next xs hv=>
        split at b2
        ·next h48=>
         obtain ⟨b,hb,rfl⟩:=Option.map_eq_some_iff.1 b2
         simp only [Nd.den] at j5
         split at j5
         ·next zs hz=>
          cases j5
          have hl1:=rZ 100 hsl.1 hv k1
          have hl2:=rZ 100 hsl.2 hv hz
          simp only [GR] at j3
          subst j3
          have fin:∀ {η':Env} (y:Value),VR η' (.s b) y→VR η' v y:=by
           intro η' y hy
           obtain ⟨_,g2,_,d2,d3⟩:=jl (η:=η') hm
           simp only [Nd.den,hv,if_pos h48,hb,Option.map_some,Option.some.injEq] at d2
           subst d2
           exact d3 y rfl ((iW _ _).2 hy)
          by_cases hx0:xs=[]
          ·subst hx0
           have hz0:zs.length=0:=hl2.symm
           have hb0:b=[]:=by simpa [jJ] using hb.symm
           subst hb0
           rw [hz0]
           refine bZ ⟨.string ⟨⟨[]⟩⟩,w,η,aqx p,(St.refl h).IW id,fin _ (by simp only [VR])⟩
          ·have hy0:ys≠[]:=by intro e;rw [e] at hl1;exact hx0 (List.eq_nil_of_length_eq_zero hl1)
           obtain ⟨q,hq,rfl⟩:=hp hy0
           obtain ⟨xs',i1,i2,i3,i4,i5,i6,i7,hS⟩:=Dv h hg hq
           rw [hv] at i1;cases i1
           have hcg:aX xs=bI xs:=by unfold aX;rw [Hf hb]
           have hpos:0 < xs.length:=List.length_pos_iff.2 hx0
           have htk:takeN (aX xs) 0 ((xs.length:Nat):Int).toNat=some (bI xs):=by
            rw [hcg];unfold takeN
            rw [List.drop_zero,List.take_of_length_le (by rw [jc];simp),if_pos (by rw [jc];simp)]
           have hfit:xs.length < 2 ^ 62:=by omega
           obtain ⟨y,w',r1,r2,r3⟩:=aeD (it:=it) (ty:=ty) (off:=0) (n:=xs.length) hS hut wJ c1 c2 (by omega) (by omega) c3 htk (D8 hb) hq
           rw [← hl2]
           refine bZ ⟨y,w',η,by simpa using r1, ?_,fin _ r3⟩
           refine ((F6 hg r2).IW id).sub (fun k o hk=>?_) (Nat.le_refl _) rfl
           rw [ah.qJ] at hk ⊢
           split at hk
           ·cases hk
           ·next e1=>
            rw [if_neg e1]
            unfold iq
            rw [ah.get_put,if_neg e1,ah.get_put,if_neg e1];exact hk
         ·cases j5
        ·cases b2
       ·cases b2
      ·cases hs
     ·cases hs
    ·cases hs
   ·cases hs
  ·cases hs
 ·cases hs
end
end Go.aN
namespace Go.aN
noncomputable section
variable [aC]
set_option linter.unusedSectionVars false
set_option linter.unusedVariables false
set_option linter.unusedSimpArgs false
variable {P:Program} {η:Env} {σ σ':ah} {w:World}
def iV (P:Program) (f:FuncId) (args:Array Value) (w:World) (R:Value→World→Prop):Prop:=
 (∃v w',(callFunc f args).run P w=.ok (.value v) w'∧R v w')∨
 ((callFunc f args).run P w=.ok (.enter f args) w∧Calls P f args w fun e w'=>∃v,e=.returned v∧R v w')
def mX (P:Program) (call:Caller):Prop:=∀f args σ r σ',call f args σ=some (r,σ')→∀η w vs,SR P η σ w→aj η args vs→
 iV P f ⟨vs⟩ w fun v w'=>∃η',St P η σ w η' σ' w'∧VR η' r v
def xC:Op→Bool
 | .call { callee:=.value _,.. }=>true
 | .call { callee:=.invoke _ _,.. }=>true
 | _=>false
theorem ajQ {f:FuncId} {first caps:List AV} {us vs:List Value} (h1:aj η first us) (h2:aj η caps vs):∃y,(Instr.makeFunc (.func f) ⟨us⟩ ⟨vs⟩).run P w=.ok y w∧VR η (.fn f first caps) y:=
 ⟨_,rfl,by simp only [VR];exact ⟨us,vs,rfl,h1,h2⟩⟩
theorem BU {ev:Operand→Option AV} {ρ:Operand→Value} (hρ:∀x a,ev x=some a→VR η a (ρ x)) {o:Option Operand} {r:Option AV} (h:zx ev o=some r):iL η r (o.map ρ):=by
 cases o with
 | none=>simp [zx] at h;subst h;trivial
 | some x=>
   simp only [zx,Option.map_eq_some_iff] at h
   obtain ⟨a,ha,rfl⟩:=h
   exact hρ _ _ ha
theorem zo {α β:Type} (a:Array α) (f:α→β):a.map f=⟨a.toList.map f⟩:=by
 apply Array.ext';simp
set_option maxHeartbeats 1000000 in
theorem acL (h:SR P η σ w) {call:Caller} {o:Oper} {ev:Operand→Option AV} {ρ:Operand→Value} (hρ:∀x a,ev x=some a→VR η a (ρ x)) (hc:xC o.op=false) {r:Option AV}
 (hs:oC P call o ev σ=some (r,σ')):DC P η σ w r σ' (execOp ρ o):=by
 unfold oC at hs
 unfold execOp
 split at hs
 ·next x he=>rw [he];obtain ⟨v,h1,rfl,rfl⟩:=gu hs;exact ⟨_,w,η,rfl,St.refl h,_,rfl,hρ _ _ h1⟩
 ·next x he=>rw [he];obtain ⟨v,h1,rfl,rfl⟩:=gu hs;exact ⟨_,w,η,rfl,St.refl h,_,rfl,hρ _ _ h1⟩
 ·next c a b he=>
  rw [he]
  split at hs
  ·next t hcv=>
   obtain ⟨vd,hvd,hcv⟩:=AX hcv
   obtain ⟨v,h1,rfl,rfl⟩:=gu hs
   refine ⟨.value (if t then ρ a else ρ b),w,η, ?_,St.refl h,_,rfl, ?_⟩
   ·simp only [Sem.run_bind,afa (hcv _ _ (hρ _ _ hvd)),Result.andThen_ok,Sem.run_pure]
   ·cases t
    ·exact hρ _ _ h1
    ·exact hρ _ _ h1
  ·cases hs
 ·next t he=>
  rw [he]
  simp only [Option.map_eq_some_iff] at hs
  obtain ⟨z,hz,e⟩:=hs
  cases e
  exact bZ (ae1 h hz)
 ·next t x he=>
  rw [he]
  simp only [Option.map_eq_some_iff] at hs
  obtain ⟨z,hz,e⟩:=hs
  cases e
  exact bZ (Uk h (hρ _ _ hz))
 ·next t parts he=>
  rw [he]
  split at hs
  ·next ps hps=>
   obtain ⟨v,h1,rfl,rfl⟩:=gu hs
   exact bZ (eP h (afm h1 (by rw [zo];exact N8 hρ hps)))
  ·cases hs
 ·next t len parts he=>
  rw [he]
  split at hs
  ·next e size bytes z ps hi hps=>
   split at hs
   ·cases hs
   ·next hlen=>
    split at hs
    ·next cs hf=>
     have e1:=Option.some.inj hs
     refine ajD (t:=t) (qs:=parts.map fun (i,x)=>(i,ρ x)) (fun v τ e2 hr=>?_) h hi hlen hf (by rw [zo];exact N8 hρ hps)
     rw [e2] at e1
     cases e1
     exact bZ hr
    ·cases hs
  ·cases hs
 ·next t a he=>
  rw [he]
  split at hs
  ·next av hav=>
   obtain ⟨v,h1,rfl,rfl⟩:=gu hs
   rcases oN h1 with h1 | h1
   ·exact bZ (eP h (xH h h1 (hρ _ _ hav)))
   ·exact bZ (eP h (ao2 h h1 (hρ _ _ hav)))
  ·cases hs
 ·next t a x he=>
  rw [he]
  split at hs
  ·next av xv hav hxv=>
   obtain ⟨h1,rfl⟩:=QV hs
   rcases oN h1 with h1 | h1
   ·obtain ⟨w',h2,h3⟩:=Lc h h1 (hρ _ _ hav) (hρ _ _ hxv)
    exact BR ⟨w',η,h2,h3⟩
   ·obtain ⟨w',h2,h3⟩:=ao6 h h1 (hρ _ _ hav) (hρ _ _ hxv)
    exact BR ⟨w',η,h2,h3⟩
  ·cases hs
 ·next x he=>
  rw [he]
  split at hs
  ·next id off hxv=>
   obtain ⟨v,h1,rfl,rfl⟩:=gu hs
   cases h1
   have hv:=hρ _ _ hxv
   simp only [VR] at hv
   obtain ⟨q,hq,hv⟩:=hv
   exact ⟨.value (ρ x),w,η,by simp only [hv];rfl,St.refl h,_,rfl,hρ _ _ hxv⟩
  ·next b off hxv=>
   obtain ⟨v,h1,rfl,rfl⟩:=gu hs
   cases h1
   have hv:=hρ _ _ hxv
   simp only [VR] at hv
   obtain ⟨bl,base,cs,elem,fr,y,_,_,hv,_⟩:=hv
   exact ⟨.value (ρ x),w,η,by simp only [hv];rfl,St.refl h,_,rfl,hρ _ _ hxv⟩
  ·next m off hxv=>
   obtain ⟨v,h1,rfl,rfl⟩:=gu hs
   cases h1
   have hv:=hρ _ _ hxv
   simp only [VR] at hv
   obtain ⟨g,bl,base,cs,elem,fr,y,_,_,_,hv,_⟩:=hv
   exact ⟨.value (ρ x),w,η,by simp only [hv];rfl,St.refl h,_,rfl,hρ _ _ hxv⟩
  ·next id m off hxv=>
   obtain ⟨v,h1,rfl,rfl⟩:=gu hs
   cases h1
   have hv:=hρ _ _ hxv
   simp only [VR] at hv
   obtain ⟨q,kk,i,_,_,hv⟩:=hv
   exact ⟨.value (ρ x),w,η,by simp only [hv];rfl,St.refl h,_,rfl,hρ _ _ hxv⟩
  ·next f fs cs hxv=>
   obtain ⟨v,h1,rfl,rfl⟩:=gu hs
   cases h1
   have hv:=hρ _ _ hxv
   simp only [VR] at hv
   obtain ⟨us,vs,hv,_⟩:=hv
   exact ⟨.value (ρ x),w,η,by simp only [hv];rfl,St.refl h,_,rfl,hρ _ _ hxv⟩
  ·cases hs
 ·next op t x y _ he=>
  rw [he]
  split at hs
  ·next a b ha hb=>
   obtain ⟨v,h1,rfl,rfl⟩:=gu hs
   rcases oN h1 with h1 | h1
   ·exact bZ (eP h (afi h h1 (hρ _ _ ha) (hρ _ _ hb)))
   ·exact bZ (eP h (aoV h1 (hρ _ _ ha) (hρ _ _ hb)))
  ·cases hs
 ·next op t x he=>
  rw [he]
  split at hs
  ·next a ha=>
   split at hs
   ·next u hu=>
    obtain ⟨v,h1,rfl,rfl⟩:=gu hs
    simp only [Option.bind_eq_some_iff] at h1
    obtain ⟨z,hz,pV⟩:=h1
    have hrun:(Op.unary op (ρ x)).run P w=.ok z w:=by rw [uh hu (hρ _ _ ha)];exact uf hz w
    exact bZ (eP h ⟨z,hrun,vW _ _ _ pV⟩)
   ·obtain ⟨v,h1,rfl,rfl⟩:=gu hs
    exact bZ (eP h (ao7 h1 (hρ _ _ ha)))
  ·cases hs
 ·next src dst x he=>
  rw [he]
  split at hs
  ·next a ha=>
   obtain ⟨v,h1,rfl⟩:=wB hs
   rcases oN h1 with h1 | h1
   ·exact bZ (Es h h1 (hρ _ _ ha))
   ·exact bZ (aoX h h1 (hρ _ _ ha))
  ·cases hs
 ·next t x he=>
  rw [he]
  split at hs
  ·next a ha hi=>
   obtain ⟨v,h1,rfl,rfl⟩:=gu hs
   cases h1
   exact bZ (eP h (ajR hi (hρ _ _ ha)))
  ·cases hs
 ·next f first caps he=>
  rw [he]
  split at hs
  ·next fs cs hfs hcs=>
   obtain ⟨v,h1,rfl,rfl⟩:=gu hs
   cases h1
   simp only [zo]
   exact bZ (eP h (ajQ (AZ hρ hfs) (AZ hρ hcs)))
  ·cases hs
 ·next t r' he=>
  rw [he]
  split at hs
  ·cases hs
   exact bZ (acf h (.inl rfl))
  ·next x=>
   split at hs
   ·next a kt et ha hu=>
    split at hs
    ·next hm=>
     cases hs
     obtain ⟨k,n,hk⟩:=ajU hm (hρ _ _ ha)
     exact bZ (acf h (.inr ⟨k,n,kt,et,by simp [hk],hu⟩))
    ·cases hs
   ·cases hs
 ·next t l c he=>
  rw [he]
  split at hs
  ·next a b ha hb=>
   obtain ⟨v,h1,rfl⟩:=wB hs
   rcases oN h1 with h1 | h1
   ·exact bZ (ajS h h1 (hρ _ _ ha) (hρ _ _ hb))
   ·exact bZ (ao4 h h1 (hρ _ _ ha) (hρ _ _ hb))
  ·cases hs
 ·next t x lo hi he=>
  rw [he]
  split at hs
  ·next a lo' hi' ha hlo hhi=>
   rcases oN hs with hs | hs
   ·obtain ⟨v,h1,rfl,rfl⟩:=gu hs
    rcases oN h1 with h1 | h1
    ·exact bZ (eP h (KY h h1 (hρ _ _ ha) (BU hρ hlo) (BU hρ hhi)))
    ·exact bZ (eP h (aej h h1 (hρ _ _ ha) (BU hρ hlo) (BU hρ hhi)))
   ·obtain ⟨v,h1,rfl⟩:=wB hs
    exact bZ (ao5 h h1 (hρ _ _ ha) (BU hρ hlo) (BU hρ hhi))
  ·cases hs
 ·next t x f he=>
  rw [he]
  split at hs
  ·next a ha=>
   obtain ⟨v,h1,rfl,rfl⟩:=gu hs
   rcases oN h1 with h1 | h1
   ·exact bZ (eP h (ahL h1 (hρ _ _ ha)))
   ·exact bZ (eP h (aoY h1 (hρ _ _ ha)))
  ·cases hs
 ·next t x f he=>
  rw [he]
  split at hs
  ·next a ha=>
   obtain ⟨v,h1,rfl,rfl⟩:=gu hs
   exact bZ (eP h (ahM h1 (hρ _ _ ha)))
  ·cases hs
 ·next t x ix he=>
  rw [he]
  split at hs
  ·next a k ha hk=>
   obtain ⟨v,h1,rfl,rfl⟩:=gu hs
   rcases oN h1 with h1 | h1
   ·exact bZ (eP h (O0 h1 (hρ _ _ ha) (hρ _ _ hk)))
   ·exact bZ (eP h (aoZ h h1 (hρ _ _ ha) (hρ _ _ hk)))
  ·cases hs
 ·next t x ix he=>
  rw [he]
  split at hs
  ·next a k ha hk=>
   obtain ⟨v,h1,rfl,rfl⟩:=gu hs
   rcases oN h1 with h1 | h1
   ·exact bZ (eP h (abt h1 (hρ _ _ ha) (hρ _ _ hk)))
   ·exact bZ (eP h (ao0 h1 (hρ _ _ ha) (hρ _ _ hk)))
  ·cases hs
 ·next t m k ok he=>
  rw [he]
  split at hs
  ·next a b ha hb=>
   obtain ⟨v,h1,rfl,rfl⟩:=gu hs
   rcases oN h1 with h1 | h1
   ·exact bZ (eP h (ajE h h1 (hρ _ _ ha) (hρ _ _ hb)))
   ·exact bZ (eP h (ao3 h h1 (hρ _ _ ha) (hρ _ _ hb)))
  ·cases hs
 ·next t m k x he=>
  rw [he]
  split at hs
  ·next a b c ha hb hc'=>
   obtain ⟨h1,rfl⟩:=QV hs
   rcases oN h1 with h1 | h1
   ·obtain ⟨w',h2,h3⟩:=ach h h1 (hρ _ _ ha) (hρ _ _ hb) (hρ _ _ hc')
    exact BR ⟨w',η,h2,h3⟩
   ·obtain ⟨w',h2,h3⟩:=aei h h1 (hρ _ _ ha) (hρ _ _ hb) (hρ _ _ hc')
    exact BR ⟨w',η,h2,h3⟩
  ·cases hs
 ·next t m k x he=>
  rw [he]
  split at hs
  ·next a b c ha hb hc'=>
   obtain ⟨h1,rfl⟩:=QV hs
   rcases oN h1 with h1 | h1
   ·obtain ⟨w',h2,h3⟩:=ach h h1 (hρ _ _ ha) (hρ _ _ hb) (hρ _ _ hc')
    exact BR ⟨w',η,h2,h3⟩
   ·obtain ⟨w',h2,h3⟩:=aei h h1 (hρ _ _ ha) (hρ _ _ hb) (hρ _ _ hc')
    exact BR ⟨w',η,h2,h3⟩
  ·cases hs
 ·next t x he=>
  rw [he]
  split at hs
  ·next s hu hx=>
   cases hs
   have hv:=hρ _ _ hx
   simp only [VR] at hv
   simp only [hv]
   exact bZ (alH h hu)
  ·next k e hu hx=>
   cases hs
   have hv:=hρ _ _ hx
   simp only [VR] at hv
   simp only [hv]
   exact bZ (alF h hu)
  ·next k e id hu hx=>
   split at hs
   ·next es hg=>
    cases hs
    exact bZ (alG h hu hg (hρ _ _ hx))
   ·cases hs
  ·cases hs
 ·next it he=>
  rw [he]
  split at hs
  ·next a ha=>
   obtain ⟨v,h1,rfl⟩:=wB hs
   obtain ⟨y,w',h2,h3,h4⟩:=akC (ty:=o.type) h h1 (hρ _ _ ha)
   exact bZ ⟨y,w',η,h2,h3,h4⟩
  ·cases hs
 ·next it he=>
  rw [he]
  have hov:VR η (.bH [.b false]) (.tuple #[.bool false]):=by simp only [VR];exact ⟨[_],rfl,aj.cons (by simp only [VR]) (by simp [aj])⟩
  split at hs
  ·next id ha=>
   split at hs
   ·next hg=>
    cases hs
    exact bZ (eP h ⟨_,akA (ty:=o.type) h hg (hρ _ _ ha),hov⟩)
   ·next m hg=>
    split at hs
    ·next hm=>
     cases hs
     exact bZ (eP h ⟨_,akB (ty:=o.type) h hg hm (hρ _ _ ha),hov⟩)
    ·cases hs
   ·cases hs
  ·cases hs
 ·next x xt t ok he=>
  rw [he]
  split at hs
  ·next a ha=>
   obtain ⟨v,h1,rfl,rfl⟩:=gu hs
   exact bZ (eP h (ap3 h1 (hρ _ _ ha)))
  ·cases hs
 ·next x k he=>
  rw [he]
  split at hs
  ·next l ha=>
   obtain ⟨v,h1,rfl,rfl⟩:=gu hs
   exact bZ (eP h (ahc h1 (hρ _ _ ha)))
  ·cases hs
 ·next c he=>
  rw [he]
  split at hs
  ·next args hargs=>
   split at hs
   ·next b hb=>
    have hv:=AZ hρ hargs
    have hs:yB P b c.argTypes args σ=some (r,σ')∨Aa P b c.argTypes args σ=some (r,σ'):=by
     cases hsf:RD b args with
     | true=>rw [hsf,cond_true] at hs;exact (oN hs).symm
     | false=>rw [hsf,cond_false] at hs;exact oN hs
    rcases hs with hs | hs
    ·have hres:=afn (cs:=c.args.map fun | .const _=>true | _=>false) (ty:=o.type) h hs hv
     simp only [resolve,hb,zo,pure_bind,invoke]
     rw [zo] at hres
     exact hres
    ·have hres:=aoW (cs:=c.args.map fun | .const _=>true | _=>false) (ty:=o.type) h hs hv
     simp only [resolve,hb,zo,pure_bind,invoke]
     rw [zo] at hres
     exact hres
   ·next f hf=>
    rw [he] at hc
    exfalso
    obtain ⟨callee,args,at'⟩:=c
    simp only at hf
    subst hf
    simp [xC] at hc
   ·next f name hf=>
    rw [he] at hc
    exfalso
    obtain ⟨callee,args,at'⟩:=c
    simp only at hf
    subst hf
    simp [xC] at hc
  ·cases hs
 ·cases hs
end
end Go.aN
namespace Go.aN
noncomputable section
variable [aC]
set_option linter.unusedSectionVars false
set_option linter.unusedVariables false
set_option linter.unusedSimpArgs false
variable {P:Program} {η:Env} {σ σ':ah} {w:World}
theorem XF (r:Value) (l:List Value):(#[r]++(⟨l⟩:Array Value))=⟨r::l⟩:=by apply Array.ext';simp
theorem ajg (name:String) (r:Value) (l:List Value):invoke (.fn (.method name) #[]) (#[r]++(⟨l⟩:Array Value))=callMethod r name ⟨l⟩:=by
 rw [XF]
 have e1:(⟨r::l⟩:Array Value)[0]? = some r:=by simp
 have e2:(⟨r::l⟩:Array Value).extract 1 (⟨r::l⟩:Array Value).size=⟨l⟩:=by apply Array.ext';simp
 have:invoke (.fn (.method name) #[]) (⟨r::l⟩:Array Value)=(do
  let some recv:=(⟨r::l⟩:Array Value)[0]? | stuck "call: a method without a receiver"
  callMethod recv name ((⟨r::l⟩:Array Value).extract 1 (⟨r::l⟩:Array Value).size)):=rfl
 rw [this,e1,e2]
theorem akq (h:SR P η σ w) {name:String} {a rv:AV} {f:FuncId} {x:Value} (hs:Gx P name σ a=some (f,rv)) (hx:VR η a x) (args:Array Value) :
 ∃y,(callMethod x name args).run P w=(callFunc f (#[y]++args)).run P w∧VR η rv y:=by
 unfold Gx at hs
 split at hs
 ·next t v=>
  simp only [VR] at hx
  obtain ⟨xv,rfl,hv⟩:=hx
  split at hs
  ·next i d hi hd=>
   split at hs
   ·next m hm=>
    split at hs
    ·next f' ptr hp hf=>
     have OO:∀y,(receiverAt t (.val xv) ptr (some ((name.splitOn ".").getLastD name))).run P w=.ok y w→
      (callMethod (.iface t xv) name args).run P w=(callFunc f' (#[y]++args)).run P w:=by
      intro y hr
      have hpe:m.path.isEmpty=true:=by simpa using hp
      have:∀n:Nat,(method (n+1) t xv name).run P w=.ok (f',y) w:=by
       intro n
       simp only [method,Sem.run_bind,xW hi,Result.andThen_ok,hm,hp,follow,Sem.run_pure,hf,hpe,if_true,hr]
      simp only [callMethod,Sem.run_bind,program,Sem.run,Result.andThen_ok]
      rw [show P.types.size+Made.depth=(P.types.size+Made.depth - 1)+1 by simp [Made.depth],this]
      rfl
     split at hs
     ·next e=>
      cases hs
      exact ⟨xv,OO _ (by simp only [receiverAt,Sem.run_bind,aQ hd,Result.andThen_ok,Go.Place.get,Sem.run_pure]),hv⟩
     ·next e=>
      split at hs
      ·next id off=>
       simp only [Option.map_eq_some_iff,Prod.mk.injEq] at hs
       obtain ⟨z,hz,rfl,rfl⟩:=hs
       obtain ⟨y,hy,oJ⟩:=xH h hz hv
       simp only [VR] at hv
       obtain ⟨q,hq,rfl⟩:=hv
       refine ⟨y,OO _ ?_,oJ⟩
       have hy':(loadVar e ⟨q.bl,q.ba+off,none⟩).run P w=.ok y w:=by simpa [Instr.loadAt,Instr.sureAddr] using hy
       have hwrap:∀nm:String,(Builtin.ssaWrapNilChk_ #[t] t #[.pointer (some ⟨q.bl,q.ba+off,none⟩),strVal "", strVal nm]).run P w=.ok (.pointer (some ⟨q.bl,q.ba+off,none⟩)) w:=fun _=>rfl
       have has:(asAddr (.pointer (some ⟨q.bl,q.ba+off,none⟩))).run P w=.ok ⟨q.bl,q.ba+off,none⟩ w:=rfl
       simp only [receiverAt,Sem.run_bind,aQ hd,Result.andThen_ok,Go.Place.get,Sem.run_pure,hwrap,has,hy']
      ·cases hs
     ·cases hs
     ·next h1 h2 h3=>
      cases hs
      refine ⟨xv,OO _ ?_,hv⟩
      simp only [receiverAt,Sem.run_bind,aQ hd,Result.andThen_ok]
      cases d<;>simp only [Go.Place.get,Sem.run_pure]
      all_goals simp_all
    ·cases hs
   ·cases hs
  ·cases hs
 ·cases hs
theorem WA (h:SR P η σ w) {call:Caller} (hcall:mX P call) {o:Oper} {a:aU} {A:Act} (ht:TR P η a A) (hc:xC o.op=true) {r:Option AV} {K:Act→World→Prop} {Q:Exit→Act→World→Prop}
 (hs:oC P call o a.eval σ=some (r,σ')) (hK:∀v x η' w',r=some v→St P η σ w η' σ' w'→VR η' v x→K (A.put o.dst x) w'):o.wp P A w K Q:=by
 have hρ:∀x v,a.eval x=some v→VR η v (A.eval x):=fun x v hv=>Ez h ht x v hv
 unfold oC at hs
 cases hop:o.op with
 | call c=>
   rw [hop] at hc hs
   simp only at hs
   split at hs
   ·next args hargs=>
    obtain ⟨callee,yL,at'⟩:=c
    cases callee with
    | builtin b=>simp [xC] at hc
    | invoke rc name=>
      simp only at hs
      split at hs
      ·next f rv hf=>
       simp only [Option.bind_eq_some_iff] at hf
       obtain ⟨iv,hiv,hf⟩:=hf
       obtain ⟨u,h1,rfl⟩:=wB hs
       have hav:=AZ hρ hargs
       obtain ⟨y,hm,hy⟩:=akq h hf (hρ _ _ hiv) (⟨yL.toList.map A.eval⟩)
       have hcn:=hcall _ _ _ _ _ h1 η w (y::yL.toList.map A.eval) h (aj.cons hy hav)
       have OJ:(execOp A.eval o).run P w=(callFunc f ⟨y::yL.toList.map A.eval⟩).run P w:=by
        unfold execOp
        rw [hop]
        have e0:yL.map A.eval=⟨yL.toList.map A.eval⟩:=by apply Array.ext';simp
        simp only [resolve,pure_bind,e0]
        rw [ajg,hm,XF]
       unfold Oper.wp
       rw [OJ]
       rcases hcn with ⟨v,w',hrun,η',hst,hv⟩ | ⟨hrun,OI⟩
       ·rw [hrun]
        exact hK u v η' w' rfl hst hv
       ·rw [hrun]
        refine Calls.mono OI ?_
        rintro e w' ⟨v,rfl,η',hst,hv⟩
        exact hK u v η' w' rfl hst hv
      ·cases hs
    | value f=>
      simp only at hs
      split at hs
      ·next fn fi caps hf=>
       obtain ⟨u,h1,rfl⟩:=wB hs
       have hfv:=hρ _ _ hf
       simp only [VR] at hfv
       obtain ⟨us,vs,hfe,hfi,aiH⟩:=hfv
       have hav:=AZ hρ hargs
       have hcn:=hcall _ _ _ _ _ h1 η w (us++yL.toList.map A.eval++vs) h ((hfi.append hav).append aiH)
       have OJ:(execOp A.eval o).run P w=(callFunc fn ⟨us++yL.toList.map A.eval++vs⟩).run P w:=by
        unfold execOp
        rw [hop]
        simp only [resolve,hfe,Deferred.ofValue,pure_bind,invoke]
        congr 2
        apply Array.ext'
        simp
       unfold Oper.wp
       rw [OJ]
       rcases hcn with ⟨v,w',hrun,η',hst,hv⟩ | ⟨hrun,OI⟩
       ·rw [hrun]
        exact hK u v η' w' rfl hst hv
       ·rw [hrun]
        refine Calls.mono OI ?_
        rintro e w' ⟨v,rfl,η',hst,hv⟩
        exact hK u v η' w' rfl hst hv
      ·cases hs
   ·cases hs
 | _=>rw [hop] at hc;simp [xC] at hc
theorem ar5 {ops:Array Oper} {j:Nat} {o:Oper} {d:Nat} {a:aU} {A:Act} {x:Bool} (ht:TR P η a A) (ho:ops[j]? = some o) (hd:o.dst=some d) (hx:dB (a.t.get d)=some (.b x)):yielded ops A.tmps j=some x:=by
 obtain ⟨vd,hx,himp⟩:=AX hx
 obtain ⟨y,hy,hv⟩:=ht.slot d _ hx
 have hv:=himp _ _ hv
 simp only [VR] at hv;subst hv
 simp only [yielded,ho,Option.bind_some,hd,hy]
theorem yx {o:Oper} {ops:Array Oper} {a:aU} {A:Act} {b:Bool} (ht:TR P η a A) (hw:Af o ops a=some b):Region.wanted o (yielded ops A.tmps)=b:=by
 unfold Af at hw
 unfold Region.wanted
 split at hw
 ·next hg=>rw [hg];cases hw;rfl
 ·next j want hg=>
  rw [hg]
  split at hw
  ·next q hq=>
   split at hw
   ·next d hd=>
    split at hw
    ·next x hx=>
     cases hw
     simp only [ar5 ht hq hd hx]
     cases x<;>cases want<;>rfl
    ·next l hx=>
     cases hw
     obtain ⟨vd,hx,himp⟩:=AX hx
     obtain ⟨y,hy,hv⟩:=ht.slot d _ hx
     have hv:=himp _ _ hv
     simp only [VR] at hv
     obtain ⟨vs,rfl,_⟩:=hv
     simp only [yielded,hq,Option.bind_some,hd,hy]
     cases want<;>rfl
    ·cases hw
   ·cases hw
  ·cases hw
theorem step_ok (h:SR P η σ w) {call:Caller} (hcall:mX P call) {ops:Array Oper} {i:Nat} {a a':aU} {A:Act} (ht:TR P η a A) {K:Act→World→Prop} {Q:Exit→Act→World→Prop}
 (hs:MK P call ops i a σ=some (a',σ')) (hK:∀η' A' w',St P η σ w η' σ' w'→TR P η' a' A'→K A' w'):wpOp P ops Q i K A w:=by
 unfold MK at hs
 unfold wpOp
 split at hs
 ·cases hs
 ·next o ho=>
  rw [ho]
  simp only
  split at hs
  ·cases hs
  ·next hw=>
   rw [yx ht hw]
   simp only [Bool.false_eq_true,if_false]
   simp only [Option.map_eq_some_iff,Prod.mk.injEq] at hs
   obtain ⟨a1,hp,rfl,rfl⟩:=hs
   exact hK η _ w (St.refl h) (ht.put hp (by rintro u hu;cases hu;exact ⟨[],rfl,rfl⟩))
  ·next hw=>
   rw [yx ht hw]
   simp only [if_true]
   split at hs
   ·cases hs
   ·next r σ1 hop=>
    rw [vk] at hop
    simp only [Option.map_eq_some_iff,Prod.mk.injEq] at hs
    obtain ⟨a1,hp,rfl,rfl⟩:=hs
    left
    cases hc:xC o.op with
    | true=>
      refine WA h hcall ht hc hop fun v x η' w' hr hst hv=>?_
      exact hK η' _ w' hst ((ht.mono hst.ext).put hp (fun u hu=>by rw [hr] at hu;cases hu;exact hv))
    | false=>
      obtain ⟨nx,w',η',hrun,hst,hres⟩:=acL h (fun x v hv=>Ez h ht x v hv) hc hop
      unfold Oper.wp
      rw [hrun]
      cases r with
      | none=>subst hres;exact hK η' _ w' hst ((ht.mono hst.ext).put hp (by simp))
      | some v=>
        obtain ⟨x,rfl,hv⟩:=hres
        exact hK η' _ w' hst ((ht.mono hst.ext).put hp (fun u hu=>by cases hu;exact hv))
theorem acN {call:Caller} (hcall:mX P call) {ops:Array Oper} {Q:Exit→Act→World→Prop}:∀ (l:List Nat) {η:Env} {σ:ah} {w:World} {a a':aU} {A:Act},SR P η σ w→TR P η a A→
 Aq P call ops l a σ=some (a',σ')→(∀η' A' w',St P η σ w η' σ' w'→TR P η' a' A'→Q .normal A' w')→wpOps P ops Q l A w
 | [],η,σ,w,a,a',A,h,ht,hs,hK=>by
   simp only [Aq,Option.some.injEq,Prod.mk.injEq] at hs
   obtain ⟨rfl,rfl⟩:=hs
   exact hK η A w (St.refl h) ht
 | i::l,η,σ,w,a,a',A,h,ht,hs,hK=>by
   rw [wpOps_cons]
   unfold Aq at hs
   split at hs
   ·next a1 σ1 h1=>
    refine step_ok h hcall ht h1 fun η1 A1 w1 hst ht1=>?_
    exact acN hcall l hst.rel ht1 hs fun η' A' w' hst' ht'=>hK η' A' w' (hst.trans hst') ht'
   ·cases hs
def cu.toExit:cu→Exit
 | .normal=>.normal
 | .exit id=>.exit id
 | .ret=>.ret
def MB (P:Program) (dr:Caller→sG):Prop:=∀call,mX P call→∀ops a σ a' σ',dr call ops a σ=some (a',σ')→∀η w A id Q,SR P η σ w→TR P η a A→
 (∀η' A' w',St P η σ w η' σ' w'→TR P η' a' A'→Q .normal A' w')→(Code.region id ops true).wp P Q A w
def Gl (P:Program) (pr:ql):Prop:=∀f g,pr f=some g→∀args σ r σ',g args σ=some (r,σ')→∀η w vs,SR P η σ w→aj η args vs→
 iV P f ⟨vs⟩ w fun v w'=>∃η',St P η σ w η' σ' w'∧VR η' r v
def qG (P:Program):Prop:=∀ (f:Nat) fn c,P.funcs[f]? = some fn→fn.body=some c→(fn.name == "runtime.NumGoroutine")=false
def DI (P:Program) (run:Code→aU→ah→Option (cu×aU×ah)):Prop:=∀c a σ e a' σ',run c a σ=some (e,a',σ')→∀η w A Q,SR P η σ w→TR P η a A→
 (∀η' A' w',St P η σ w η' σ' w'→TR P η' a' A'→Q e.toExit A' w')→c.wp P Q A w
theorem FB (h:SR P η σ w) {a:aU} {A:Act} (ht:TR P η a A) (F:ResultVar→Sem Value) (hF1:∀t,F (.tmp t)=pure (A.tmps.getD t undef)) (hF2:∀a t,F (.cell a t)=(do loadVar t (← asAddr (A.tmps.getD a undef)))) :
 ∀ (rs:List ResultVar) (l:List AV),sU P σ a rs=some l→∃vs,(rs.mapM F).run P w=.ok vs w∧aj η l vs
 | [],l,hl=>by simp only [sU,Option.some.injEq] at hl;subst hl;exact ⟨[],rfl,by simp [aj]⟩
 | .tmp t::rs,l,hl=>by
   unfold sU at hl
   split at hl
   ·next v r hv hr=>
    cases hl
    obtain ⟨vs,h1,h2⟩:=FB h ht F hF1 hF2 rs r hr
    obtain ⟨x,hx,iF⟩:=ht.slot t v hv
    refine ⟨x::vs, ?_,aj.cons iF h2⟩
    simp only [List.mapM_cons,hF1,Sem.run_bind,Sem.run_pure,Result.andThen_ok,h1]
    rw [Array.getD_eq_getD_getElem?,hx];rfl
   ·cases hl
 | .cell t ty::rs,l,hl=>by
   unfold sU at hl
   split at hl
   ·next v r hv hr=>
    cases hl
    obtain ⟨vs,h1,h2⟩:=FB h ht F hF1 hF2 rs r hr
    simp only [Option.bind_eq_some_iff] at hv
    obtain ⟨p,hp,hv⟩:=hv
    obtain ⟨x,hx,iF⟩:=ht.slot t p hp
    obtain ⟨y,hy,oJ⟩:=xH h hv iF
    refine ⟨y::vs, ?_,aj.cons oJ h2⟩
    have hxa:∃ad,x=.pointer (some ad):=by
     cases p<;>simp [oW] at hv
     ·simp only [VR] at iF
      obtain ⟨q,_,rfl⟩:=iF
      exact ⟨_,rfl⟩
     ·simp only [VR] at iF
      obtain ⟨bl,base,cs,elem,fr,x,_,_,rfl,_⟩:=iF
      exact ⟨_,rfl⟩
    obtain ⟨ad,rfl⟩:=hxa
    have hg:A.tmps.getD t undef=.pointer (some ad):=by rw [Array.getD_eq_getD_getElem?,hx];rfl
    have hy':(loadVar ty ad).run P w=.ok y w:=by simpa [Instr.loadAt,Instr.sureAddr] using hy
    have aiy:(asAddr (A.tmps.getD t undef)).run P w=.ok ad w:=by rw [hg];rfl
    simp only [List.mapM_cons,hF2,Sem.run_bind,Sem.run_pure,Result.andThen_ok,h1,aiy,hy']
   ·cases hl
theorem ap2 {l:List AV} {vs:List Value} (h:aj η l vs):VR η (Ac l) (if h:(⟨vs⟩:Array Value).size=1 then (⟨vs⟩:Array Value)[0] else .tuple ⟨vs⟩):=by
 have hl:=h.length
 unfold Ac
 split
 ·next v=>
  simp only [aj] at h
  obtain ⟨x,_,rfl,hx,rfl⟩:=h
  simpa using hx
 ·next hne=>
  have:(⟨vs⟩:Array Value).size≠1:=by
   intro e
   have:l.length=1:=by rw [hl];exact e
   obtain ⟨v,rfl⟩:=List.length_eq_one_iff.1 this
   exact hne v rfl
  rw [dif_neg this]
  simp only [VR];exact ⟨vs,rfl,h⟩
theorem SS:∀ (args:List AV) (k:Nat) (t:Tr AV) (j:Nat),(qU args k t).get j=if k≤j∧j < k+args.length then args[j - k]? else t.get j
 | [],k,t,j=>by simp [qU];omega
 | v::args,k,t,j=>by
   rw [qU,SS args (k+1)]
   simp only [List.length_cons]
   by_cases h1:k+1≤j∧j < k+1+args.length
   ·rw [if_pos h1,if_pos (by omega)]
    have:j - k=(j - (k+1))+1:=by omega
    rw [this];simp
   ·rw [if_neg h1,Tr.pG]
    by_cases h2:j=k
    ·subst h2;rw [if_pos rfl,if_pos (by omega)];simp
    ·rw [if_neg h2,if_neg (by omega)]
theorem NZ {args:List AV} {vs:List Value} {n:Nat} (h:aj η args vs) :
 TR P η { t:=qU args 0 .nil,n:=max args.length n,gn:=P.globals.size } { tmps:=(⟨vs⟩:Array Value)++Array.replicate (n - (⟨vs⟩:Array Value).size) undef,defers:=[] }:=by
 have hl:=h.length
 refine ⟨rfl, ?_,rfl,fun t v hv=>?_⟩
 ·simp;omega
 ·rw [SS] at hv
  split at hv
  ·next hr=>
   obtain ⟨x,hx,iF⟩:=h.at hv
   refine ⟨x, ?_,iF⟩
   simp only [Nat.sub_zero] at hx
   have hlt:=(List.getElem?_eq_some_iff.1 hx).1
   rw [Array.getElem?_append_left (by simpa using hlt)]
   simpa using hx
  ·simp at hv
theorem Wy {pr:ql} {run:Code→aU→ah→Option (cu×aU×ah)} (hp:Gl P pr) (hn:qG P) (hr:DI P run):mX P (yK P pr run):=by
 intro f args σ r σ' hs η w vs h hv
 unfold yK at hs
 split at hs
 ·next g hg=>exact hp f g hg args σ r σ' hs η w vs h hv
 ·split at hs
  ·cases hs
  ·next fn hfn=>
   split at hs
   ·cases hs
   ·next c hc=>
    have key:∀ (e:cu) a',(e=.normal∨e=.ret)→run c { t:=qU args 0 .nil,n:=max args.length fn.ntmps,gn:=P.globals.size } σ=some (e,a',σ')→∀l,sU P σ' a' fn.results.toList=some l→r=Ac l→
     iV P f ⟨vs⟩ w fun v w'=>∃η',St P η σ w η' σ' w'∧VR η' r v:=by
     intro e a' he hrun l hl hrl
     right
     refine ⟨?_, ?_⟩
     ·have hname:=hn f fn c hfn hc
      simp only [callFunc,Sem.run_bind,program,Sem.run,Result.andThen_ok,hfn]
      simp only [hname,Bool.false_eq_true,if_false,hc,Option.isNone_some,Sem.run_pure]
     ·refine calls_of_wp hfn hc ?_
      refine hr c _ _ _ _ _ hrun η w _ _ h (NZ hv) ?_
      intro η' A' w' hst ht
      have hres:∃us,(results fn A'.tmps).run P w'=.ok (if h:(⟨us⟩:Array Value).size=1 then (⟨us⟩:Array Value)[0] else .tuple ⟨us⟩) w'∧aj η' l us:=by
       unfold results
       rw [Array.mapM_eq_mapM_toList]
       simp only [Sem.run_bind,Sem.run_map]
       obtain ⟨us,h1,h2⟩:=FB hst.rel ht (fun | .tmp t=>pure (A'.tmps.getD t undef) | .cell a t=>do loadVar t (← asAddr (A'.tmps.getD a undef))) (fun _=>rfl) (fun _ _=>rfl) _ _ hl
       refine ⟨us, ?_,h2⟩
       exact congrArg (fun r:Result (List Value)=>(r.andThen fun a w'=>Result.ok a.toArray w').andThen fun a w'=>Sem.run P (pure (if h:a.size=1 then a[0] else Value.tuple a)) w') h1
      obtain ⟨us,hres,h2⟩:=hres
      have hpost:A'.defers=[]∧∃v,(results fn A'.tmps).run P w'=.ok v w'∧∃v',Ending.returned v=.returned v'∧∃η',St P η σ w η' σ' w'∧VR η' r v':=
       ⟨ht.none,_,hres,_,rfl,η',hst,by rw [hrl];exact ap2 h2⟩
      rcases he with rfl | rfl
      ·exact hpost
      ·exact hpost
    split at hs
    ·next a' σ1 hrun=>
     simp only [Option.map_eq_some_iff,Prod.mk.injEq] at hs
     obtain ⟨l,hl,h1,h2⟩:=hs
     subst h2
     exact key _ a' (.inl rfl) hrun l hl h1.symm
    ·next a' σ1 hrun=>
     simp only [Option.map_eq_some_iff,Prod.mk.injEq] at hs
     obtain ⟨l,hl,h1,h2⟩:=hs
     subst h2
     exact key _ a' (.inr rfl) hrun l hl h1.symm
    ·cases hs
theorem XC {dr:Caller→sG} {pr:ql} (hd:MB P dr) (hp:Gl P pr) (hn:qG P):∀n:Nat,DI P (wP P dr pr n)∧
 (∀b a σ e a' σ',wP P dr pr n (.loop b) a σ=some (e,a',σ')→∀η w A Q,SR P η σ w→TR P η a A→(∀η' A' w',St P η σ w η' σ' w'→TR P η' a' A'→Q e.toExit A' w')→Code.rounds P b Q n A w):=by
 intro n
 induction n with
 | zero=>exact ⟨fun c a σ e a' σ' hs=>by simp [SH] at hs,fun b a σ e a' σ' hs=>by simp [SH] at hs⟩
 | succ n ih=>
   obtain ⟨ih1,ih2⟩:=ih
   have hcall:=Wy hp hn ih1
   have ab7:∀b a σ e a' σ',wP P dr pr (n+1) (.loop b) a σ=some (e,a',σ')→∀η w A Q,SR P η σ w→TR P η a A→(∀η' A' w',St P η σ w η' σ' w'→TR P η' a' A'→Q e.toExit A' w')→Code.rounds P b Q (n+1) A w:=by
    intro b a σ e a' σ' hs η w A Q h ht hK
    rw [rounds_succ]
    simp only [oU,nT] at hs
    split at hs
    ·next a1 σ1 h1=>
     refine ih1 _ _ _ _ _ _ h1 η w A _ h ht ?_
     intro η1 A1 w1 hst ht1
     exact ih2 _ _ _ _ _ _ hs η1 w1 A1 Q hst.rel ht1 fun η' A' w' hst' ht'=>hK η' A' w' (hst.trans hst') ht'
    ·next hne=>
     refine ih1 _ _ _ _ _ _ hs η w A _ h ht ?_
     intro η1 A1 w1 hst ht1
     cases e with
     | normal=>exact absurd hs (by intro e';exact hne _ _ e')
     | exit id=>exact hK η1 A1 w1 hst ht1
     | ret=>exact hK η1 A1 w1 hst ht1
   refine ⟨?_,ab7⟩
   intro c a σ e a' σ' hs η w A Q h ht hK
   cases c with
   | loop b=>exact wp_loop_rounds (n+1) (ab7 b a σ e a' σ' hs η w A Q h ht hK)
   | skip=>simp only [oU,nT,Option.some.injEq,Prod.mk.injEq] at hs;obtain ⟨rfl,rfl,rfl⟩:=hs;exact wp_skip (hK η A w (St.refl h) ht)
   | region id ops draw=>
     cases draw with
     | false=>
       simp only [oU,nT,Option.map_eq_some_iff,Prod.mk.injEq] at hs
       obtain ⟨⟨a1,σ1⟩,h1,rfl,rfl,rfl⟩:=hs
       exact wp_region (acN hcall _ h ht h1 hK)
     | true=>
       simp only [oU,nT,Option.map_eq_some_iff,Prod.mk.injEq] at hs
       obtain ⟨⟨a1,σ1⟩,h1,rfl,rfl,rfl⟩:=hs
       exact hd _ hcall ops a σ _ _ h1 η w A id Q h ht hK
   | seq x y=>
     simp only [oU,nT] at hs
     refine wp_seq ?_
     split at hs
     ·next a1 σ1 h1=>
      refine ih1 _ _ _ _ _ _ h1 η w A _ h ht ?_
      intro η1 A1 w1 hst ht1
      exact ih1 _ _ _ _ _ _ hs η1 w1 A1 Q hst.rel ht1 fun η' A' w' hst' ht'=>hK η' A' w' (hst.trans hst') ht'
     ·next hne=>
      refine ih1 _ _ _ _ _ _ hs η w A _ h ht ?_
      intro η1 A1 w1 hst ht1
      cases e with
      | normal=>exact absurd hs (by intro e';exact hne _ _ e')
      | exit id=>exact hK η1 A1 w1 hst ht1
      | ret=>exact hK η1 A1 w1 hst ht1
   | cond x y z=>
     simp only [oU,nT] at hs
     split at hs
     ·next t hx=>
      obtain ⟨vd,hx,himp⟩:=AX hx
      have hv:=himp _ _ (Ez h ht x _ hx)
      simp only [VR] at hv
      refine wp_cond hv ?_
      exact ih1 _ _ _ _ _ _ hs η w A Q h ht hK
     ·cases hs
   | block id b=>
     simp only [oU,nT] at hs
     refine wp_block ?_
     split at hs
     ·next id' a1 σ1 h1=>
      refine ih1 _ _ _ _ _ _ h1 η w A _ h ht ?_
      intro η1 A1 w1 hst ht1
      simp only [cu.toExit,Exit.inBlock]
      split at hs
      ·next e1=>
       cases hs
       rw [if_pos e1]
       exact hK η1 A1 w1 hst ht1
      ·next e1=>
       cases hs
       rw [if_neg e1]
       exact hK η1 A1 w1 hst ht1
     ·next hne=>
      refine ih1 _ _ _ _ _ _ hs η w A _ h ht ?_
      intro η1 A1 w1 hst ht1
      cases e with
      | normal=>exact hK η1 A1 w1 hst ht1
      | exit id'=>exact absurd hs (by intro e';exact hne _ _ _ e')
      | ret=>exact hK η1 A1 w1 hst ht1
   | exit id=>simp only [oU,nT,Option.some.injEq,Prod.mk.injEq] at hs;obtain ⟨rfl,rfl,rfl⟩:=hs;exact wp_exit (hK η A w (St.refl h) ht)
   | ret=>simp only [oU,nT,Option.some.injEq,Prod.mk.injEq] at hs;obtain ⟨rfl,rfl,rfl⟩:=hs;exact wp_ret (hK η A w (St.refl h) ht)
   | rangeFunc _ _ _ _=>simp [oU,nT] at hs
   | scope _=>simp [oU,nT] at hs
   | label _=>simp [oU,nT] at hs
   | goto _=>simp [oU,nT] at hs
   | refuse _=>simp [oU,nT] at hs
theorem aeQ {dr:Caller→sG} {pr:ql} (hd:MB P dr) (hp:Gl P pr) (hn:qG P) (n:Nat):mX P (SG P dr pr n):=
 Wy hp hn (XC hd hp hn n).1
end
end Go.aN
