/- Values that are named by nodes: append, make, conversions, strings.Builder's string. -/
import Derived.Test.YtpkihgnabejkkaaGreatDoorAbsD
import Derived.Test.YtpkihgnabejkkaaGreatDoorAbsC
namespace Go.aJ
noncomputable section
variable [aB]
set_option linter.unusedSectionVars false
set_option linter.unusedVariables false
set_option linter.unusedSimpArgs false
variable {P:Program} {η:Env} {σ σ':ah} {w:World}
theorem St.G5 {η':Env} {w':World} (h:St P η σ w η' σ' w') (id:Nat):St P η σ w η' (σ'.kill id) w':=
 h.sub (fun k o hk=>by rw [ah.qw] at hk;split at hk;cases hk;exact hk) (Nat.le_refl _) rfl
theorem St.pW {η':Env} {τ:ah} {w':World} {m e size:Nat} {f:Bool} {xs:List GV} {c:List AV} {y:Value} (h:St P η σ w η' (τ.new (.cells c e true true)) w') (hv:aB.val m=some (.l xs)) (hs:∀x∈xs,x.cells.length=size∧x.cells.all GV.scalar=true) (hn:sizeT P e=some size)
 (hc:∀vs,aj η' c vs→aj η' (aY xs) vs) (hy:VR η' (.sl τ.next 0 xs.length none) y) (hf:f=true→xs≠[]):St P η σ w η' (τ.new (.vec m e f)) w'∧VR η' (.sv τ.next m) y:=by
 simp only [VR] at hy
 obtain ⟨q,hq,hle,rfl⟩:=hy
 have hg:(τ.new (.cells c e true true)).get τ.next=some (.cells c e true true):=by rw [ah.mG,if_pos rfl]
 have hor:=h.rel.at hg hq
 have hes:q.es=size:=by
  obtain ⟨_,_,_,_,r⟩:=hor
  have:=(r.room rfl).2.2
  rw [hn] at this;cases this;rfl
 have hpos:f=true→q.es≤q.sz:=fun e=>by
  have hne:=hf e
  have:0 < xs.length:=List.length_pos_iff.2 hne
  simp only [Option.getD_none,Nat.sub_zero] at hle
  have h1:1≤q.sz / q.es:=by omega
  exact Nat.le_trans (by simpa using Nat.mul_le_mul_right q.es h1) (Nat.div_mul_le_self q.sz q.es)
 have hnew:OR P η' q w' (.vec m e f):=OR.pW hpos hv (fun x hx=>by rw [hes];exact (hs x hx).1) (fun x hx=>(hs x hx).2) hor hc
 refine ⟨h.right ?_ rfl rfl ?_,by simp only [VR];exact ⟨xs,hv,.inl ⟨q,hq,by simpa using hle,by simp⟩⟩⟩
 ·refine (h.rel.swap (o':=.vec m e f) hg rfl (.inl ⟨q,hq,hnew⟩)).sub (fun k o hk=>?_) (Nat.le_refl _)
  rw [ah.mG] at hk
  rw [ah.get_put,ah.mG]
  split at hk
  ·next e1=>rw [if_pos e1];exact hk
  ·next e1=>rw [if_neg e1,if_neg e1];exact hk
 ·intro k o hk ho
  rw [ah.mG] at hk ⊢
  split at hk
  ·next e1=>rw [if_pos e1];exact ⟨_,rfl,rfl⟩
  ·next e1=>rw [if_neg e1];exact ⟨o,hk,ho⟩
theorem uD {xs:List GV} {size:Nat} (h:xs.all (GV.fA size)=true):∀x∈xs,x.cells.length=size∧x.cells.all GV.scalar=true:=by
 intro z hz
 have:=List.all_eq_true.1 h z hz
 unfold GV.fA at this
 rw [Bool.and_eq_true] at this
 exact ⟨Nat.eq_of_beq_eq_true this.1,this.2⟩
theorem ac7 {xs:List GV} {size:Nat} (h:∀x∈xs,x.cells.length=size∧x.cells.all GV.scalar=true):(aY xs).all AV.jr=true:=by
 unfold aY
 refine L6 ?_
 rw [List.all_eq_true]
 intro g hg
 obtain ⟨z,hz,hgz⟩:=List.mem_flatMap.1 hg
 exact List.all_eq_true.1 (h z hz).2 g hgz
theorem Ud (xs ys:List GV):aY (xs++ys)=aY xs++aY ys:=by unfold aY;rw [List.flatMap_append,yK]
theorem yE {xs:List GV} {size:Nat} (h:∀x∈xs,x.cells.length=size):(aY xs).length=xs.length * size:=by rw [aY,jd,DI h]
def O9 (P:Program) (σ:ah) (e size:Nat) (t1:TypeId) (x:AV):Option Nat:=
 match P.underlying t1 with
 | some .string=>if size=1 then match fQ x with
    | some n=>dL (.bytes n)
    | none=>none
   else none
 | some (.slice _)=>listOf P σ e x
 | _=>none
theorem Jv (h:SR P η σ w) {e size:Nat} {t1:TypeId} {x:AV} {b:Nat} {u:Value} {xs:List GV} (hs:O9 P σ e size t1 x=some b) (hx:VR η x u) (hn:sizeT P e=some size) (hv:aB.val b=some (.l xs)) (hok:xs.all (GV.fA size)=true) :
 ∃ys,Src P size t1 u xs.length ys w∧aj η (aY xs) ys:=by
 unfold O9 at hs
 split at hs
 ·next ht=>
  split at hs
  ·next h1=>
   subst h1
   split at hs
   ·next n hn'=>
    obtain ⟨g,g1,g2,g3⟩:=jm hn' hx
    obtain ⟨g',k1,k2⟩:=dY hs
    rw [hv] at k1;cases k1
    simp only [Nd.den,g1] at k2
    split at k2
    ·next s e1=>
     cases e1;cases k2
     have hT:wM P t1=true:=by unfold wM;rw [ht]
     have:=src_ok h hT (size:=1) (n:=s.length) (l:=oJ s) (a:=.s s) (x:=u) (by simp [qE]) ((jc (.s s) u).1 g3) (by unfold oJ;simp [AV.jr])
     rw [Ro]
     have hl:(kS s).length=s.length:=by simp [kS]
     rw [hl];exact this
    ·cases k2
   ·cases hs
  ·cases hs
 ·next ht=>exact ag2 h hs hx ht hn hv hok
 ·cases hs
theorem ag1 {e size id len:Nat} {cap:Option Nat} {a et:Nat} {c:List AV} {nN opn:Bool} (hg:σ.get id=some (.cells c et nN opn)) (hl:listOf P σ e (.sl id 0 len cap)=some a) (hn:sizeT P e=some size) (hlen:c.length=len * size) :
 ∃ns,(∀ {η:Env} {vs:List Value},aj η c vs→∃gs,valsOf aB.val ns=some gs∧gs.length=len∧aj η (aY gs) vs∧∀x∈gs,x.cells.length=size∧x.cells.all GV.scalar=true)∧∀gs,valsOf aB.val ns=some gs→aB.val a=some (.l gs):=by
 simp only [listOf,hg,hn] at hl
 split at hl
 ·next c' yG rw' Ef size' agg hg' hsz hag=>
  cases hg';cases hsz
  split at hl
  ·next hc=>
   rw [Bool.and_eq_true,Bool.or_eq_true,Bool.and_eq_true] at hc
   have hagg:agg=false→size=1:=by
    intro e;subst e
    rcases hc.2 with h1 | h1
    ·simp at h1
    ·exact Nat.eq_of_beq_eq_true h1
   have htk:takeN c 0 (len * size)=some c:=by
    unfold takeN;rw [List.drop_zero,List.take_of_length_le (by omega),if_pos hlen]
   rw [htk] at hl
   simp only at hl
   split at hl
   ·next ns hns=>
    refine ⟨ns,fun {η vs} hv=>?_,fun gs hgs=>?_⟩
    ·obtain ⟨gs,k1,k2,k3,_,k5⟩:=wB (η:=η) hagg len hns hv hlen
     exact ⟨gs,k1,k2,k3,k5⟩
    ·obtain ⟨g,g1,g2⟩:=dY hl
     simp only [Nd.den,hgs,Option.map_some,Option.some.injEq] at g2
     rw [g2];exact g1
   ·cases hl
  ·cases hl
 ·cases hl
set_option maxHeartbeats 1000000 in
theorem alD (h:SR P η σ w) {ts:Array TypeId} {ty:TypeId} {s x v:AV} {u u':Value} (hs:Pm P ts s x σ=some (v,σ')) (hu:VR η s u) (hx:VR η x u') :
 ∃y w' η',(Builtin.append_ ts ty #[u,u']).run P w=.ok y w'∧St P η σ w η' σ' w'∧VR η' v y:=by
 unfold Pm at hs
 split at hs
 ·next t t1 hts=>
  have:=FB hts;subst this
  split at hs
  ·next e size bytes z hi=>
   obtain ⟨_,_,_,he,_,hn⟩:=sG hi
   split at hs
   ·cases hs
   ·next h0=>
    split at hs
    ·cases hs
    ·next b hb=>
     have hb':O9 P σ e size t1 x=some b:=hb
     have app:∀ {a m:Nat} {xs:List GV},dL (.app size bytes a b)=some m→aB.val a=some (.l xs)→∃ys,aB.val b=some (.l ys)∧aB.val m=some (.l (xs++ys))∧ys.all (GV.fA size)=true∧2 * (xs.length+ys.length) * bytes≤2 ^ 48∧xs.length+ys.length≤2 ^ 48:=by
      intro a m xs hm ha
      obtain ⟨g,g1,g2⟩:=dY hm
      simp only [Nd.den,ha] at g2
      split at g2
      ·next xs' ys e1 e2=>
       cases e1
       split at g2
       ·next hc=>cases g2;exact ⟨ys,e2,g1,hc.1,hc.2.1,hc.2.2⟩
       ·cases g2
      ·cases g2
     have Fz:∀ {ys:List GV} {S:AV} {n:Nat},ys.all (GV.fA size)=true→sliceLen S=n→2 * (n+ys.length) * bytes≤2 ^ 48→n+ys.length≤2 ^ 48→¬ (size=0∨(aY ys).all AV.jr=false∨¬ (2 * (sliceLen S+ys.length) * bytes≤2 ^ 48∧sliceLen S+ys.length≤2 ^ 48)):=by
      intro ys S n h1 h2 h3 h4
      rw [ac7 (uD h1),h2]
      simp [h0];omega
     have ml0:∀ {a:Nat},dL (.ml [])=some a→aB.val a=some (.l []):=by
      intro a ha
      obtain ⟨g,g1,g2⟩:=dY ha
      simp only [Nd.den,valsOf,Option.map_some,Option.some.injEq] at g2
      subst g2;exact g1
     have aap:∀ {a m:Nat} {τ:ah},aB.val a=some (.l [])→dL (.app size bytes a b)=some m→u=.slice none 0 0→τ.lock=σ.lock→τ.next=σ.next→(∀k o,τ.get k=some o→σ.get k=some o)→
      ∀f:Bool,∃y w' η',(Builtin.append_ #[t,t1] ty #[u,u']).run P w=.ok y w'∧St P η σ w η' (τ.new (.vec m e f)) w'∧VR η' (.sv σ.next m) y:=by
      intro a m τ ha hm hu0 hl hnx hsub f
      obtain ⟨ys,y1,y2,y3,y4,y5⟩:=app hm ha
      obtain ⟨zs,z1,z2⟩:=Jv h hb' hx hn y1 y3
      have hlen:=yE (fun x hx=>(uD y3 x hx).1)
      simp only [List.nil_append,List.length_nil,Nat.zero_add] at y2 y4 y5
      have hc:=Fz (S:=.dH) (n:=0) y3 rfl (by simpa using y4) (by simpa using y5)
      by_cases hz:ys.length=0
      ·have hys:ys=[]:=List.eq_nil_of_length_eq_zero hz
       subst hys
       have hto:kQ e size bytes .dH 0 (aY []) σ=some (.dH,σ):=by unfold kQ;rw [if_neg (by simpa using hc)];rfl
       obtain ⟨y,w',η',r1,r2,r3⟩:=uo (ty:=ty) h hi z1 z2 hlen hto (u:=u) (by simp only [VR];exact hu0)
       refine ⟨y,w',η'.ghost σ.next,r1,r2.trans ?_, ?_⟩
       ·exact St.ghost r2.rel y2 hl hnx hsub
       ·simp only [VR] at r3 ⊢
        exact ⟨[],y2,.inr ⟨by simp [Env.ghost],rfl,r3⟩⟩
      ·have hto:kQ e size bytes .dH ys.length (aY ys) σ=some (.sl σ.next 0 ys.length none,σ.new (.cells (aY ys) e true true)):=by
        unfold kQ;rw [if_neg hc];simp only;rw [if_neg hz]
       obtain ⟨y,w',η',r1,r2,r3⟩:=uo (ty:=ty) h hi z1 z2 hlen hto (u:=u) (by simp only [VR];exact hu0)
       obtain ⟨q1,q2⟩:=St.pW (f:=f) r2 y2 (uD y3) hn (fun _ h=>h) r3 (fun _ e=>hz (by rw [e];rfl))
       refine ⟨y,w',η',r1,q1.sub (fun k o hk=>?_) (by show σ.next+1≤τ.next+1;omega) hl,q2⟩
       rw [ah.mG] at hk ⊢
       rw [hnx] at hk
       split at hk
       ·next e1=>rw [if_pos e1];exact hk
       ·next e1=>rw [if_neg e1];exact hsub k o hk
     split at hs
     ·split at hs
      ·next a ha=>
       obtain ⟨m,hm,e1⟩:=Option.map_eq_some_iff.1 hs
       cases e1
       simp only [VR] at hu
       exact aap (τ:=σ) (ml0 ha) hm hu rfl rfl (fun _ _ h=>h) true
      ·cases hs
     ·next id n=>
      split at hs
      ·next a et f hg=>
       split at hs
       ·next hcnd=>
        rw [Bool.and_eq_true,Bool.and_eq_true] at hcnd
        obtain ⟨⟨het,hsl⟩,hlk⟩:=hcnd
        have yM:=Nat.eq_of_beq_eq_true het
        subst yM
        have uN:=Nat.le_of_ble_eq_true hlk
        obtain ⟨m,hm,e1⟩:=Option.map_eq_some_iff.1 hs
        cases e1
        simp only [VR] at hu
        obtain ⟨xn,n1,hu⟩:=hu
        rcases h.live id _ hg with ⟨q,hq,hor⟩ | ⟨hgh,m0,et0,f0,e0,hv0⟩
        ·obtain ⟨xs,x1,x2,x3,x4,x5,x6,x7,hS⟩:=BU h hg hq
         have hlen0:=qB 100 hsl x1 n1
         rw [hn] at x5;cases x5
         rcases hu with ⟨q',hq',hle,rfl⟩ | ⟨hgh,_,_⟩
         ·rw [hq] at hq';cases hq'
          obtain ⟨ys,y1,y2,y3,y4,y5⟩:=app hm x1
          have hcl:=yE x2
          have hall:∀x∈xs++ys,x.cells.length=q.es∧x.cells.all GV.scalar=true:=by
           intro x hx
           rcases List.mem_append.1 hx with hx | hx
           ·exact ⟨x2 x hx,x7 x hx⟩
           ·exact uD y3 x hx
          obtain ⟨zs,z1,z2⟩:=Jv h hb' hx hn y1 y3
          have hlen:=yE (fun x hx=>(uD y3 x hx).1)
          have hc:=Fz (S:=.sl id 0 xs.length none) (n:=xs.length) y3 rfl y4 y5
          rw [← hlen0] at hle ⊢
          have hus:VR η (.sl id 0 xs.length none) (.slice (some ⟨q.bl,q.ba,none⟩) xs.length (q.sz / q.es)):=by simp only [VR];exact ⟨q,hq,by simpa using hle,by simp⟩
          by_cases hz:ys.length=0
          ·have hys:ys=[]:=List.eq_nil_of_length_eq_zero hz
           subst hys
           rw [List.append_nil] at y2
           have hto:kQ et q.es bytes (.sl id 0 xs.length none) 0 (aY []) (iJ σ id xs et)=some (.sl id 0 xs.length none,iJ σ id xs et):=by unfold kQ;rw [if_neg (by simpa using hc)];rfl
           obtain ⟨y,w',η',r1,r2,r3⟩:=uo (ty:=ty) hS hi z1 z2 hlen hto hus
           have r2':=EI hg r2
           have hgu:(iJ σ id xs et).get id=some (.cells (aY xs) et true true):=vK
           have hq2:=r2.ext.pl _ _ hq
           have hor2:=r2.rel.at hgu hq2
           have hv2:OR P (η'.put σ.next q) q w' (.vec m et f):=by
            have hle2:=Env.zu r2.rel q
            refine OR.pW (fun e=>by subst e;exact hor.JW) y2 x2 x7 (hor2.mono hle2) (fun _ h=>h)
           have DL:=St.again (q':=q) r2.rel hgu rfl (show (iJ σ id xs et).lock≤id from uN) hq2 rfl rfl (fun _ _=>rfl) rfl rfl rfl hv2
           refine ⟨y,w',η'.put σ.next q,r1,(r2'.trans DL).sub (fun k o hk=>?_) (Nat.le_refl _) rfl, ?_⟩
           ·rw [ah.mG,ah.qw] at hk ⊢
            split at hk
            ·next e1=>rw [if_pos (show k=((iJ σ id xs et).kill id).next from e1)];exact hk
            ·next e1=>
             rw [if_neg (show ¬ k=((iJ σ id xs et).kill id).next from e1)]
             split at hk
             ·cases hk
             ·next e2=>rw [if_neg e2];unfold iJ;rw [ah.get_put,if_neg e2];exact hk
           ·simp only [VR] at r3 ⊢
            obtain ⟨q3,hq3,hle3,rfl⟩:=r3
            rw [hq2] at hq3;cases hq3
            exact ⟨xs,y2,.inl ⟨q,by simp [Env.put],by simpa using hle3,by simp⟩⟩
          ·have htk:takeN (aY xs) 0 (xs.length * q.es)=some (aY xs):=by
            unfold takeN;rw [List.drop_zero,List.take_of_length_le (by omega),if_pos hcl]
           have hto:kQ et q.es bytes (.sl id 0 xs.length none) ys.length (aY ys) (iJ σ id xs et)=some (.sl σ.next 0 (xs.length+ys.length) none,((iJ σ id xs et).kill id).new (.cells (aY xs++aY ys) et true true)):=by
            unfold kQ;rw [if_neg hc];simp only;rw [if_neg hz,if_pos (show (iJ σ id xs et).lock≤id from uN),vK]
            simp only [if_true,htk,Option.map_some]
            rfl
           obtain ⟨y,w',η',r1,r2,r3⟩:=uo (ty:=ty) hS hi z1 z2 hlen hto hus
           obtain ⟨q1,q2⟩:=St.pW (size:=q.es) (EI hg r2) y2 hall hn (fun vs hvs=>by rw [Ud];exact hvs) (by rw [List.length_append];exact r3) (f:=f) (fun _ e=>hz (by have:=congrArg List.length e;simp at this;rw [this.2];rfl))
           refine ⟨y,w',η',r1,q1.sub (fun k o hk=>?_) (Nat.le_refl _) rfl,q2⟩
           rw [ah.mG,ah.qw] at hk ⊢
           split at hk
           ·next e1=>rw [if_pos (show k=((iJ σ id xs et).kill id).next from e1)];exact hk
           ·next e1=>
            rw [if_neg (show ¬ k=((iJ σ id xs et).kill id).next from e1)]
            split at hk
            ·cases hk
            ·next e2=>rw [if_neg e2];unfold iJ;rw [ah.get_put,if_neg e2];exact hk
         ·rw [(h.iF id hgh).1] at hq;cases hq
        ·cases e0
         have hlen0:=qB 100 hsl hv0 n1
         rcases hu with ⟨q',hq',_⟩ | ⟨_,_,hu⟩
         ·rw [(h.iF id hgh).1] at hq';cases hq'
         ·exact aap (τ:=σ.kill id) hv0 hm hu rfl rfl (fun k o hk=>by rw [ah.qw] at hk;split at hk;cases hk;exact hk) f
       ·cases hs
      ·cases hs
     ·next id=>
      split at hs
      ·next et hg=>
       split at hs
       ·next hcnd=>
        rw [Bool.and_eq_true] at hcnd
        obtain ⟨het,hlk⟩:=hcnd
        have yM:=Nat.eq_of_beq_eq_true het
        subst yM
        have uN:=Nat.le_of_ble_eq_true hlk
        split at hs
        ·next a ha=>
         obtain ⟨m,hm,e1⟩:=Option.map_eq_some_iff.1 hs
         cases e1
         obtain ⟨ys,y1,y2,y3,y4,y5⟩:=app hm (ml0 ha)
         simp only [List.nil_append,List.length_nil,Nat.zero_add] at y2 y4 y5
         obtain ⟨zs,z1,z2⟩:=Jv h hb' hx hn y1 y3
         have hlen:=yE (fun x hx=>(uD y3 x hx).1)
         have hc:=Fz (S:=.sl id 0 0 (some 0)) (n:=0) y3 rfl (by simpa using y4) (by simpa using y5)
         have hu0:=hu
         simp only [VR] at hu0
         obtain ⟨q,hq,_,rfl⟩:=hu0
         obtain ⟨cs,elem,fr,hb0,rr⟩:=h.at hg hq
         have hsh:=rr.shut rfl
         obtain ⟨w1,w2,w3⟩:=rr.whole he
         have hba:=w3 rfl
         by_cases hz:ys.length=0
         ·have hys:ys=[]:=List.eq_nil_of_length_eq_zero hz
          subst hys
          have hto:kQ et size bytes (.sl id 0 0 (some 0)) 0 (aY []) σ=some (.sl id 0 0 (some 0),σ):=by unfold kQ;rw [if_neg (by simpa using hc)];rfl
          obtain ⟨y,w',η',r1,r2,r3⟩:=uo (ty:=ty) h hi z1 z2 hlen hto hu
          have hq2:=r2.ext.pl _ _ hq
          obtain ⟨cs2,Yh,YJ,hb2,OV⟩:=r2.rel.at hg hq2
          obtain ⟨v1,v2,v3⟩:=OV.whole he
          have hsz0:=OV.shut rfl
          simp only [List.length_nil] at hsz0
          have hv2:OR P (η'.put σ.next ⟨q.bl,q.ba,0,size⟩) ⟨q.bl,q.ba,0,size⟩ w' (.vec m et false):=by
           refine ⟨[],cs2,Yh,YJ,[],y2,hb2,by simp [aN],by simp,by simp [yD,cu],by simp, { fits:=by have:=OV.fits;simp;omega,le:=by simp,shut:=by simp,cell:=by simp,free:=by simp,whole:=fun _=>⟨v1,by simp;omega,by simp⟩,room:=fun _=>⟨he,by simp;omega,hn⟩ },by simp,by simp⟩
          have DL:=St.again (q':=⟨q.bl,q.ba,0,size⟩) r2.rel hg rfl uN hq2 rfl rfl (fun _ _=>rfl) rfl rfl rfl hv2
          refine ⟨y,w',_,r1,r2.trans DL, ?_⟩
          simp only [VR] at r3 ⊢
          obtain ⟨q3,hq3,_,rfl⟩:=r3
          rw [hq2] at hq3;cases hq3
          exact ⟨[],y2,.inl ⟨⟨q.bl,q.ba,0,size⟩,by simp [Env.put],by simp,by simp⟩⟩
         ·have hto:kQ et size bytes (.sl id 0 0 (some 0)) ys.length (aY ys) σ=some (.sl σ.next 0 (0+ys.length) none,σ.new (.cells ([]++aY ys) et true true)):=by
           unfold kQ;rw [if_neg hc];simp only;rw [if_neg (by omega),hg]
           simp [takeN]
          obtain ⟨y,w',η',r1,r2,r3⟩:=uo (ty:=ty) h hi z1 z2 hlen hto hu
          rw [List.nil_append] at r2
          rw [Nat.zero_add] at r3
          obtain ⟨q1,q2⟩:=St.pW (f:=false) r2 y2 (uD y3) hn (fun _ h=>h) r3 (by simp)
          refine ⟨y,w',η',r1,q1.sub (fun k o hk=>?_) (Nat.le_refl _) rfl,q2⟩
          rw [ah.mG,ah.qw] at hk
          rw [ah.mG]
          split at hk
          ·next e1=>rw [if_pos (show k=σ.next from e1)];exact hk
          ·next e1=>
           rw [if_neg (show ¬ k=σ.next from e1)]
           split at hk
           ·cases hk
           ·exact hk
        ·cases hs
       ·cases hs
      ·cases hs
     ·next id len=>
      split at hs
      ·next c et hg=>
       split at hs
       ·next hcnd=>
        rw [Bool.and_eq_true,Bool.and_eq_true] at hcnd
        obtain ⟨⟨het,hlk⟩,hcl⟩:=hcnd
        have yM:=Nat.eq_of_beq_eq_true het
        subst yM
        have uN:=Nat.le_of_ble_eq_true hlk
        have hcl':=Nat.eq_of_beq_eq_true hcl
        split at hs
        ·next a ha=>
         obtain ⟨m,hm,e1⟩:=Option.map_eq_some_iff.1 hs
         cases e1
         obtain ⟨ns,l1,l2⟩:=ag1 hg ha hn hcl'
         have hu0:=hu
         simp only [VR] at hu0
         obtain ⟨q,hq,hle,rfl⟩:=hu0
         obtain ⟨ws,elem,fr,hb0,rr⟩:=h.at hg hq
         have hes:q.es=size:=by
          have:=(rr.room rfl).2.2
          rw [hn] at this;cases this;rfl
         have htk:takeN c 0 (len * size)=some c:=by
          unfold takeN;rw [List.drop_zero,List.take_of_length_le (by omega),if_pos hcl']
         obtain ⟨xs,k1,k2,k3,k4⟩:=l1 (rr.qF htk)
         have hva:=l2 xs k1
         have conv:∀ {η':Env} (vs:List Value),aj η' c vs→aj η' (aY xs) vs:=by
          intro η' vs hv
          obtain ⟨gs,j1,_,j3,_⟩:=l1 hv
          rw [k1] at j1;cases j1;exact j3
         obtain ⟨ys,y1,y2,y3,y4,y5⟩:=app hm hva
         have hall:∀x∈xs++ys,x.cells.length=size∧x.cells.all GV.scalar=true:=by
          intro x hx
          rcases List.mem_append.1 hx with hx | hx
          ·exact k4 x hx
          ·exact uD y3 x hx
         obtain ⟨zs,z1,z2⟩:=Jv h hb' hx hn y1 y3
         have hlen:=yE (fun x hx=>(uD y3 x hx).1)
         have hc:=Fz (S:=.sl id 0 len none) (n:=xs.length) y3 k2.symm y4 y5
         by_cases hz:ys.length=0
         ·have hys:ys=[]:=List.eq_nil_of_length_eq_zero hz
          subst hys
          rw [List.append_nil] at y2
          have hto:kQ et size bytes (.sl id 0 len none) 0 (aY []) σ=some (.sl id 0 len none,σ):=by unfold kQ;rw [if_neg (by simpa using hc)];rfl
          obtain ⟨y,w',η',r1,r2,r3⟩:=uo (ty:=ty) h hi z1 z2 hlen hto hu
          have hq2:=r2.ext.pl _ _ hq
          have hor2:=r2.rel.at hg hq2
          have hv2:OR P (η'.put σ.next q) q w' (.vec m et false):=by
           have hle2:=Env.zu r2.rel q
           refine OR.pW (by simp) y2 (fun x hx=>by rw [hes];exact (k4 x hx).1) (fun x hx=>(k4 x hx).2) (hor2.mono hle2) (fun vs hvs=>conv vs hvs)
          have DL:=St.again (q':=q) r2.rel hg rfl uN hq2 rfl rfl (fun _ _=>rfl) rfl rfl rfl hv2
          refine ⟨y,w',η'.put σ.next q,r1,r2.trans DL, ?_⟩
          simp only [VR] at r3 ⊢
          obtain ⟨q3,hq3,hle3,rfl⟩:=r3
          rw [hq2] at hq3;cases hq3
          exact ⟨xs,y2,.inl ⟨q,by simp [Env.put],by rw [k2];simpa using hle3,by simp [k2]⟩⟩
         ·have hto:kQ et size bytes (.sl id 0 len none) ys.length (aY ys) σ=some (.sl σ.next 0 (len+ys.length) none,(σ.kill id).new (.cells (c++aY ys) et true true)):=by
           unfold kQ;rw [if_neg hc];simp only;rw [if_neg hz,if_pos uN,hg]
           simp only [if_true,htk,Option.map_some]
          obtain ⟨y,w',η',r1,r2,r3⟩:=uo (ty:=ty) h hi z1 z2 hlen hto hu
          obtain ⟨q1,q2⟩:=St.pW (size:=size) r2 y2 hall hn (fun vs hvs=>by
           obtain ⟨us,ts,rfl,v1,v2⟩:=aj.split hvs
           rw [Ud]
           exact aj.append (conv us v1) v2) (by rw [List.length_append,k2];exact r3) (f:=false) (by simp)
          exact ⟨y,w',η',r1,q1,q2⟩
        ·cases hs
       ·cases hs
      ·cases hs
     ·cases hs
  ·cases hs
 ·cases hs
end
end Go.aJ
namespace Go.aJ
noncomputable section
variable [aB]
set_option linter.unusedSectionVars false
set_option linter.unusedVariables false
set_option linter.unusedSimpArgs false
variable {P:Program} {η:Env} {σ σ':ah} {w:World}
theorem aaO {x:GV} {z:List AV} (hx:∀us,aj η z us→aj η (bW x.cells) us):∀ (n:Nat) (vs:List Value),aj η (fZ n z) vs→aj η (aY (List.replicate n x)) vs
 | 0,vs,h=>by simpa [fZ,aY,bW] using h
 | n+1,vs,h=>by
   have e:fZ (n+1) z=z++fZ n z:=by simp [fZ,List.replicate_succ]
   rw [e] at h
   obtain ⟨us,ws,rfl,h1,h2⟩:=aj.split h
   have e2:aY (List.replicate (n+1) x)=bW x.cells++aY (List.replicate n x):=by unfold aY;rw [List.replicate_succ,List.flatMap_cons,yK]
   rw [e2]
   exact (hx us h1).append (aaO hx n ws h2)
theorem ajo (z:List AV) (n m:Nat) (h:n≤m):(fZ m z).take (n * z.length)=fZ n z:=by
 induction n generalizing m with
 | zero=>simp [fZ]
 | succ n ih=>
   cases m with
   | zero=>omega
   | succ m=>
     have e:∀k,fZ (k+1) z=z++fZ k z:=fun k=>by simp [fZ,List.replicate_succ]
     rw [e,e,← ih m (by omega),List.take_append,List.take_of_length_le (by rw [Nat.add_mul];omega)]
     congr 2;rw [Nat.add_mul];omega
theorem alN (h:SR P η σ w) {t:TypeId} {l c v:AV} {x y:Value} (hs:JF P t l c σ=some (v,σ')) (hx:VR η l x) (hy:VR η c y) :
 ∃z w' η',(Instr.makeSlice t x y).run P w=.ok z w'∧St P η σ w η' σ' w'∧VR η' v z:=by
 unfold JF at hs
 split at hs
 ·next e0 hu0=>
  split at hs
  ·next e size bytes z agg hi hagg=>
   obtain ⟨hut,_,_,he,hzl,hn⟩:=sG hi
   rw [hu0] at hut;cases hut
   split at hs
   ·cases hs
   ·next h0=>
    split at hs
    ·next zn ln cn hzn hln hcn=>
     obtain ⟨m,hm,e1⟩:=Option.map_eq_some_iff.1 hs
     cases e1
     obtain ⟨gl,l1,l2,l3⟩:=jm hln hx
     obtain ⟨gc,c1,c2,c3⟩:=jm hcn hy
     obtain ⟨g,g1,g2⟩:=dY hm
     simp only [Nd.den,l1,c1] at g2
     split at g2
     ·next xz kn n kn' m' e1 e2 e3=>
      cases e2;cases e3
      split at g2
      ·next hc=>
       cases g2
       obtain ⟨b1,b2,b3,b4,b5⟩:=hc
       simp only [GR] at l3 c3
       subst l3;subst c3
       obtain ⟨xs,hrun,hsz,hvs⟩:=ahh (P:=P) (w:=w) (η:=η) (kd:=kn) (kd':=kn') hi h0 b1 b2 b3 b4
       have hzero:∀us,aj η z us→aj η (bW xz.cells) us:=by
        intro us hus
        cases agg with
        | true=>
          simp only [if_true] at hzn
          obtain ⟨l',gs,e4,_,e5,_,e6⟩:=zX hzn (by simp only [VR];exact ⟨us,rfl,hus⟩:VR η (.agg z) (.agg ⟨us⟩))
          rw [e1] at e5;cases e5
          simp only [GR] at e6
          obtain ⟨us',e7,e8⟩:=e6
          cases e7
          exact (jZ _ _).1 e8
        | false=>
          simp only [Bool.false_eq_true,if_false] at hzn
          cases hz':z with
          | nil=>rw [hz'] at hzn;simp at hzn
          | cons a zr=>
            rw [hz'] at hzn hus hzl
            simp only [List.head?_cons,Option.bind_some] at hzn
            simp only [aj] at hus
            obtain ⟨u,ur,rfl,hu1,hu2⟩:=hus
            obtain ⟨gz,k1,k2,k3⟩:=jm hzn hu1
            rw [e1] at k1;cases k1
            rw [GV.zC k2]
            have:size=1:=by
             unfold GV.fA at b5
             rw [Bool.and_eq_true,GV.zC k2] at b5
             exact (Nat.eq_of_beq_eq_true b5.1).symm
            rw [this] at hzl
            have kF:zr=[]:=by apply List.eq_nil_of_length_eq_zero;simpa using hzl
            subst kF
            simp only [aj] at hu2
            subst hu2
            simp only [bW]
            exact aj.cons ((jc _ _).1 k3) (by simp [aj])
       have hall:∀x∈List.replicate n.toNat xz,x.cells.length=size∧x.cells.all GV.scalar=true:=by
        intro x hx
        rw [(List.mem_replicate.1 hx).2]
        unfold GV.fA at b5
        rw [Bool.and_eq_true] at b5
        exact ⟨Nat.eq_of_beq_eq_true b5.1,b5.2⟩
       have hlm:n.toNat≤m'.toNat:=by omega
       have hpre:aj η (fZ n.toNat z) (xs.toList.take (fZ n.toNat z).length):=by
        rw [Ih,hzl]
        have:=hvs.take (n.toNat * size)
        rw [← hzl,ajo z _ _ hlm,hzl] at this
        exact this
       have hal:=uz h (c:=fZ n.toNat z) (xs:=xs) (elem:=_) (es:=size) (opn:=true) hpre (by rw [Ih,hzl,hsz];exact Nat.mul_le_mul_right _ hlm) (by simp) (fun _=>⟨he,Nat.pos_of_ne_zero h0,hn⟩)
       have hcap:(m'.toNat * size) / size=m'.toNat:=Nat.mul_div_cancel _ (Nat.pos_of_ne_zero h0)
       obtain ⟨q1,q2⟩:=St.pW (f:=false) (size:=size) (y:=.slice (some ⟨w.heap.size,0,none⟩) n.toNat m'.toNat) hal g1 hall hn (fun vs hvs=>by
        have hz2:∀us,aj (η.put σ.next ⟨w.heap.size,0,xs.size,size⟩) z us→aj (η.put σ.next ⟨w.heap.size,0,xs.size,size⟩) (bW xz.cells) us:=by
         intro us hus
         cases agg with
         | true=>
           simp only [if_true] at hzn
           obtain ⟨l',gs,e4,_,e5,_,e6⟩:=zX hzn (by simp only [VR];exact ⟨us,rfl,hus⟩:VR (η.put σ.next ⟨w.heap.size,0,xs.size,size⟩) (.agg z) (.agg ⟨us⟩))
           rw [e1] at e5;cases e5
           simp only [GR] at e6
           obtain ⟨us',e7,e8⟩:=e6
           cases e7
           exact (jZ _ _).1 e8
         | false=>
           simp only [Bool.false_eq_true,if_false] at hzn
           cases hz':z with
           | nil=>rw [hz'] at hzn;simp at hzn
           | cons a zr=>
             rw [hz'] at hzn hus hzl
             simp only [List.head?_cons,Option.bind_some] at hzn
             simp only [aj] at hus
             obtain ⟨u,ur,rfl,hu1,hu2⟩:=hus
             obtain ⟨gz,k1,k2,k3⟩:=jm hzn hu1
             rw [e1] at k1;cases k1
             rw [GV.zC k2]
             have:size=1:=by
              unfold GV.fA at b5
              rw [Bool.and_eq_true,GV.zC k2] at b5
              exact (Nat.eq_of_beq_eq_true b5.1).symm
             rw [this] at hzl
             have kF:zr=[]:=by apply List.eq_nil_of_length_eq_zero;simpa using hzl
             subst kF
             simp only [aj] at hu2
             subst hu2
             simp only [bW]
             exact aj.cons ((jc _ _).1 k3) (by simp [aj])
        exact aaO hz2 _ _ hvs) (by
         simp only [VR]
         exact ⟨⟨w.heap.size,0,xs.size,size⟩,by simp [Env.put],by simp [hsz,hcap,hlm],by simp [hsz,hcap]⟩) (by simp)
       exact ⟨_,_,_,hrun,q1,q2⟩
      ·cases g2
     ·cases g2
    ·cases hs
  ·cases hs
 ·cases hs
theorem CZ:∀ {xs:List GV} {b:List UInt8},lF xs=some b→bytesOf (bW xs)=some b
 | [],b,h=>by simpa [lF,bW,bytesOf] using h
 | x::xs,b,h=>by
   unfold lF at h
   split at h
   ·rename_i heq;cases heq
   ·next n rest heq=>
    cases heq
    simp only [bW,iU,bytesOf]
    split at h
    ·next hc=>
     rw [if_pos hc]
     obtain ⟨b',hb',rfl⟩:=Option.map_eq_some_iff.1 h
     rw [CZ hb'];rfl
    ·cases h
   ·cases h
theorem FM:∀ {xs:List GV} {b:List UInt8},lF xs=some b→xs.flatMap GV.cells=xs
 | [],b,h=>rfl
 | x::xs,b,h=>by
   unfold lF at h
   split at h
   ·rename_i heq;cases heq
   ·next n rest heq=>
    cases heq
    split at h
    ·obtain ⟨b',hb',_⟩:=Option.map_eq_some_iff.1 h
     rw [List.flatMap_cons,FM hb'];rfl
    ·cases h
   ·cases h
theorem alG (h:SR P η σ w) {src dst:TypeId} {a v:AV} {x:Value} (hs:Jz P src dst a σ=some (v,σ')) (hx:VR η a x) :
 ∃y w' η',(convert src dst x).run P w=.ok y w'∧St P η σ w η' σ' w'∧VR η' v y:=by
 unfold Jz at hs
 split at hs
 ·next d k n h1 h2=>
  obtain ⟨v',hm,e1⟩:=Option.map_eq_some_iff.1 hs
  cases e1
  simp only [VR] at hx
  obtain ⟨g,a1,a2,a3⟩:=hx
  obtain ⟨_,g',_,b2,b3⟩:=jl (η:=η) hm
  simp only [Nd.den,a1] at b2
  split at b2
  ·next kk z e1=>
   cases e1;cases b2
   simp only [GR] at a3;subst a3
   obtain ⟨y,w',η',r1,r2,r3⟩:=Dq h (src:=src) (dst:=dst) (a:=.i kk z) (v:=.i k (k.wrap z)) (σ':=σ) (by simp only [qh,h1,h2]) (by simp only [VR]:VR η (.i kk z) (.int kk z))
   exact ⟨y,w',η',r1,r2,by obtain ⟨_,g2,_,c2,c3⟩:=jl (η:=η') hm;simp only [Nd.den,a1,Option.some.injEq] at c2;subst c2;exact c3 y rfl ((jc _ _).2 r3)⟩
  ·cases b2
 ·next n h1 h2=>
  obtain ⟨v',hm,e1⟩:=Option.map_eq_some_iff.1 hs
  cases e1
  simp only [VR] at hx
  obtain ⟨g,a1,a2,a3⟩:=hx
  obtain ⟨_,g',_,b2,b3⟩:=jl (η:=η) hm
  simp only [Nd.den,a1] at b2
  split at b2
  ·next z e1=>
   cases e1;cases b2
   simp only [GR] at a3;subst a3
   obtain ⟨y,w',η',r1,r2,r3⟩:=Dq h (src:=src) (dst:=dst) (a:=.s z) (v:=.s z) (σ':=σ) (by simp only [qh,h1,h2]) (by simp only [VR]:VR η (.s z) (.string ⟨⟨z⟩⟩))
   exact ⟨y,w',η',r1,r2,by obtain ⟨_,g2,_,c2,c3⟩:=jl (η:=η') hm;simp only [Nd.den,a1,Option.some.injEq] at c2;subst c2;exact c3 y rfl ((jc _ _).2 r3)⟩
  ·cases b2
 ·next e n h1 h2=>
  split at hs
  ·next h3=>
   split at hs
   ·next hc=>
    split at hs
    ·next m hm=>
     cases hs
     simp only [VR] at hx
     obtain ⟨g,a1,a2,a3⟩:=hx
     obtain ⟨g',b1,b2⟩:=dY hm
     simp only [Nd.den,a1] at b2
     split at b2
     ·next z e1=>
      cases e1;cases b2
      simp only [GR] at a3;subst a3
      obtain ⟨y,w',η',r1,r2,r3⟩:=Dq h (src:=src) (dst:=dst) (a:=.s z) (v:=.sl σ.next 0 z.length none) (σ':=σ.new (.cells (oJ z) e true true)) (by simp only [qh,h1,h2,h3,if_pos hc]) (by simp only [VR]:VR η (.s z) (.string ⟨⟨z⟩⟩))
      obtain ⟨q1,q2⟩:=St.pW (f:=false) (size:=1) r2 b1 (by
       intro x hx
       obtain ⟨c,_,rfl⟩:=List.mem_map.1 hx
       exact ⟨rfl,rfl⟩) hc.2 (fun vs hvs=>by rw [Ro];exact hvs) (by simpa [kS] using r3) (by simp)
      exact ⟨y,w',η',r1,q1,q2⟩
     ·cases b2
    ·cases hs
   ·cases hs
  ·cases hs
 ·next e h1 h2=>
  split at hs
  ·next h3=>
   split at hs
   ·next m hl=>
    obtain ⟨v',hm,e1⟩:=Option.map_eq_some_iff.1 hs
    cases e1
    obtain ⟨_,g',_,b2,b3⟩:=jl (η:=η) hm
    simp only [Nd.den] at b2
    split at b2
    ·next xs hv=>
     split at b2
     ·next h48=>
      obtain ⟨b,hb,rfl⟩:=Option.map_eq_some_iff.1 b2
      have fin:∀ {τ:ah} {A:AV},SR P η τ w→VR η A x→qh P src dst A τ=some (.s b,τ)→(∀ {η':Env} {w':World},St P η τ w η' τ w'→St P η σ w η' σ w')→∃y w' η',(convert src dst x).run P w=.ok y w'∧St P η σ w η' σ w'∧VR η' v y:=by
       intro τ A hS hA hA2 hst
       obtain ⟨y,w',η',r1,r2,r3⟩:=Dq hS hA2 hA
       refine ⟨y,w',η',r1,hst r2, ?_⟩
       obtain ⟨_,g2,_,c2,c3⟩:=jl (η:=η') hm
       simp only [Nd.den,hv,if_pos h48,hb,Option.map_some,Option.some.injEq] at c2
       subst c2;exact c3 y rfl ((jc _ _).2 r3)
      have hnil:lF xs=some b→xs=[]→b=[]:=by rintro h1 rfl;simpa [lF] using h1.symm
      unfold listOf at hl
      split at hl
      ·next n=>
       cases hl
       simp only [VR] at hx
       obtain ⟨g,a1,a2,a3⟩:=hx
       rw [hv] at a1;cases a1
       exact fin h ((jc (.l xs) x).1 a3) (by simp only [iU,qh,h1,h2,h3,CZ hb,Option.map_some]) (fun h=>h)
      ·obtain ⟨g,g1,g2⟩:=dY hl
       rw [hv] at g1;cases g1
       simp only [Nd.den,valsOf,Option.map_some,Option.some.injEq,GV.l.injEq] at g2
       have:=hnil hb g2.symm;subst this
       exact fin h hx (by simp only [qh,h1,h2,h3]) (fun h=>h)
      ·next id n=>
       split at hl
       ·next m' et _ hg=>
        split at hl
        ·next hc=>
         cases hl
         rw [Bool.and_eq_true] at hc
         simp only [VR] at hx
         obtain ⟨ys,k1,hx⟩:=hx
         have hlen:=qB 100 hc.2 hv k1
         rcases hx with ⟨q,hq,hle,rfl⟩ | ⟨_,rfl,rfl⟩
         ·obtain ⟨xs',j1,j2,j3,j4,j5,j6,j7,hS⟩:=BU h hg hq
          rw [hv] at j1;cases j1
          have hcg:aY xs=bW xs:=by unfold aY;rw [FM hb]
          have htk:takeN (aY xs) 0 xs.length=some (bW xs):=by
           rw [hcg];unfold takeN
           rw [List.drop_zero,List.take_of_length_le (by rw [jd];omega),if_pos (jd xs)]
          rw [hlen] at htk
          refine fin (A:=.sl id 0 ys.length none) hS (by simp only [VR];exact ⟨q,hq,by simpa using hle,by simp⟩) ?_ (fun hst=>amP (fun e=>by subst e;exact (h.at hg hq).JW) hg hq hv j2 j7 (EI hg hst))
          simp only [qh,h1,h2,h3,vK,htk,CZ hb,Option.map_some]
         ·have hxs:xs=[]:=List.eq_nil_of_length_eq_zero (by simpa using hlen)
          have:=hnil hb hxs;subst this
          exact fin h (A:=.dH) (by simp only [VR]) (by simp only [qh,h1,h2,h3]) (fun h=>h)
        ·cases hl
       ·cases hl
      ·next id off len cap=>
       split at hl
       ·next c et nN opn size agg hg hsz hag=>
        split at hl
        ·next hc=>
         rw [Bool.and_eq_true,Bool.or_eq_true,Bool.and_eq_true] at hc
         split at hl
         ·next cs hcs=>
          split at hl
          ·next ns hns=>
           have hagg:agg=false→size=1:=by
            intro e;subst e
            rcases hc.2 with h1 | h1
            ·simp at h1
            ·exact Nat.eq_of_beq_eq_true h1
           obtain ⟨g,g1,g2⟩:=dY hl
           rw [hv] at g1;cases g1
           simp only [VR] at hx
           obtain ⟨q,hq,hle,rfl⟩:=hx
           obtain ⟨q',hq',ws,elem,fr,hblk,rr⟩:=h.obj _ _ hg rfl
           rw [hq] at hq';cases hq'
           have hlc:=(lY hcs).2.1
           obtain ⟨gs,k1,k2,k3,_,k5⟩:=wB (η:=η) hagg len hns (rr.qF hcs) hlc
           simp only [Nd.den,k1,Option.map_some,Option.some.injEq,GV.l.injEq] at g2
           rw [g2] at k2 k3 k5
           have hl1:len * size=len:=by
            cases len with
            | zero=>simp
            | succ n=>
              have hx0:xs[0]? = some (xs[0]'(by omega)):=List.getElem?_eq_getElem (by omega)
              have h5:=(k5 _ (List.mem_of_getElem? hx0)).1
              have h6:(xs[0]'(by omega)).cells.length=1:=by
               cases xs with
               | nil=>simp at k2
               | cons y ys=>
                 cases y with
                 | i k n=>rfl
                 | b=>simp [lF] at hb
                 | s=>simp [lF] at hb
                 | l=>simp [lF] at hb
                 | g=>simp [lF] at hb
              rw [h6] at h5;rw [← h5];simp
           have hcg:aY xs=bW xs:=by unfold aY;rw [FM hb]
           rw [hcg] at k3
           have hxs:=C9 (CZ hb) k3
           rw [hl1] at hcs hxs
           refine ⟨.string ⟨⟨b⟩⟩,w,η, ?_,St.refl h, ?_⟩
           ·simp only [convert,Sem.run_bind,aT h1,aT h2,Result.andThen_ok,aT h3,Conv.bytesToString]
            rw [vF hblk (rr.take hcs),hxs]
            simp only [Result.andThen_ok]
            rw [O0 _ (fun _ _ _=>rfl)]
            rfl
           ·obtain ⟨_,g2,_,c2,c3⟩:=jl (η:=η) hm
            simp only [Nd.den,hv,if_pos h48,hb,Option.map_some,Option.some.injEq] at c2
            subst c2;exact c3 _ rfl (by simp only [GR])
          ·cases hl
         ·cases hl
        ·cases hl
       ·cases hl
      ·cases hl
     ·cases b2
    ·cases b2
   ·cases hs
  ·cases hs
 ·cases hs
end
end Go.aJ
namespace Go.aJ
noncomputable section
variable [aB]
set_option linter.unusedSectionVars false
set_option linter.unusedVariables false
set_option linter.unusedSimpArgs false
variable {P:Program} {η:Env} {σ σ':ah} {w:World}
def xM (ro:Nat→Option Obj) (w:World) (b:Nat):Nat→Option Obj:=fun k=>if k=b then w.heap[b]? else ro k
theorem Ii {ro:Nat→Option Obj} {w:World} (h:∀b o,ro b=some o→w.heap[b]? = some o) (b:Nat):∀k o,ro k=some o→xM ro w b k=some o:=by
 intro k o hk
 unfold xM
 split
 ·next e=>subst e;exact h _ _ hk
 ·exact hk
theorem St.freeze (h:SR P η σ w) {id:Nat} {o:aX} {q:Place} (hg:σ.get id=some o) (ho:o.own=true) (hl:σ.lock≤id) (hq:η id=some q):St P η σ w ⟨η.pl,xM η.ro w q.bl,η.gh⟩ (σ.kill id) w:=by
 have hle:(η:Env).le ⟨η.pl,xM η.ro w q.bl,η.gh⟩:=⟨fun _ _ h=>h,Ii h.gI q.bl,fun _ h=>h⟩
 have sub:∀k u,(σ.kill id).get k=some u→k≠id∧σ.get k=some u:=by
  intro k u hk
  rw [ah.qw] at hk
  split at hk
  ·cases hk
  ·next e=>exact ⟨e,hk⟩
 refine ⟨hle,⟨h.jW,h.dom,fun k u hk=>?_,h.iF,fun k u k' u' p p' a1 a2 a3 a4 a5 a6=>?_,fun b u hb=>?_,fun k u p a1 a2 a3=>?_,fun p hp=>(h.tabs p hp).mono hle⟩,Nat.le_refl _,fun _ _ _=>rfl,fun k u p a1 a2 a3 a4=>?_,rfl,rfl,rfl,rfl,Nat.le_refl _,fun _ h=>.inl h,fun b hb=>?_⟩
 ·exact (h.live k u (sub k u hk).2).mono hle
 ·exact h.sep k u k' u' p p' (sub k u a1).2 a2 (sub k' u' a3).2 a4 a5 a6
 ·have hb':(if b=q.bl then w.heap[q.bl]? else η.ro b)=some u:=hb
  split at hb'
  ·next e=>rw [e];exact hb'
  ·exact h.gI b u hb'
 ·obtain ⟨e1,e2⟩:=sub k u a1
  show (if p.bl=q.bl then w.heap[q.bl]? else η.ro p.bl)=none
  have hne:=h.sep k u id o p q e2 a2 hg e1 a3 hq
  rw [if_neg hne]
  exact h.jT k u p e2 a2 a3
 ·exact .inr ⟨k,u,p,(sub k u a1).2,a2,a3,a4,rfl⟩
 ·have hb':(if b=q.bl then w.heap[q.bl]? else η.ro b)≠none:=hb
  split at hb'
  ·next e=>exact .inr (.inr ⟨id,o,q,hg,ho,hl,hq,e.symm⟩)
  ·exact .inl hb'
theorem GR.NQ {η:Env} {w:World} {q:Place} {c:List AV} {et:TypeId} {nN opn:Bool} {ro':Nat→Option Obj} (h:OR P η q w (.cells c et nN opn)) (hro:∀b o,η.ro b=some o→ro' b=some o) (hq:ro' q.bl=w.heap[q.bl]?) {off n size cap:Nat} {cs:List AV} {gs:List GV} (ht:takeN c off (n * size)=some cs) (hn:gs.length=n) (hcap:n≤cap) (h0:0 < size)
 (hs:∀x∈gs,x.cells.length=size∧x.cells.all GV.scalar=true) (hc:∀ (η':Env) vs,(∀b o,η.ro b=some o→η'.ro b=some o)→aj η cs vs→aj η' (aY gs) vs):GR ro' (.l gs) (.slice (some ⟨q.bl,q.ba+off,none⟩) n cap):=by
 obtain ⟨ws,elem,fr,hb,r⟩:=h
 have h1:=r.qF ht
 have hfit:=r.take ht
 obtain ⟨e1,e2,e3⟩:=lY ht
 have h2:=hc ⟨η.pl,ro',η.gh⟩ _ hro h1
 obtain ⟨ys,y1,y2,y3⟩:=ungroup gs _ h2 (fun x hx=>(hs x hx).2)
 simp only [GR]
 right
 refine ⟨q.bl,q.ba+off,cap,ys,size,by rw [hn],by rw [hn];exact hcap,y1,fun y hy=>?_,fun hne=>⟨ws,elem,fr,by rw [hq,hb], ?_, ?_⟩⟩
 ·obtain ⟨k,hk⟩:=List.getElem?_of_mem hy
  have hkl:k < gs.length:=by rw [y1.length];exact (List.getElem?_eq_some_iff.1 hk).1
  rw [y3 k _ y (List.getElem?_eq_getElem hkl) hk]
  exact (hs _ (List.getElem_mem hkl)).1
 ·rw [y2]
  have hnp:0 < gs.length:=List.length_pos_iff.2 hne
  have hp:0 < n * size:=Nat.mul_pos (by omega) h0
  rw [List.length_take,List.length_drop,Array.length_toList]
  omega
 ·rw [y2]
  intro k x hk
  rw [List.getElem?_take] at hk
  split at hk
  ·rw [List.getElem?_drop,Array.getElem?_toList] at hk;exact hk
  ·cases hk
theorem VR.YN (h:SR P η σ w) {id n m et:Nat} {f:Bool} {x:Value} {ro':Nat→Option Obj} (hg:σ.get id=some (.vec m et f)) (hs:nY 100 m n=true) (hx:VR η (.sv id n) x) (hro:∀b o,η.ro b=some o→ro' b=some o) (hq:∀q,η id=some q→ro' q.bl=w.heap[q.bl]?) :
 ∃ys,aB.val m=some (.l ys)∧GR ro' (.l ys) x:=by
 simp only [VR] at hx
 obtain ⟨ys,k1,hx⟩:=hx
 rcases hx with ⟨q,hq1,hle,rfl⟩ | ⟨hgh,rfl,rfl⟩
 ·obtain ⟨xs,x1,x2,x3,x4,x5,x6,x7,x8⟩:=(h.at hg hq1).Bj
  have hlen:=qB 100 hs x1 k1
  refine ⟨xs,x1, ?_⟩
  have hcl:=yE x2
  have:=GR.NQ (ro':=ro') (off:=0) (n:=ys.length) (size:=q.es) (cap:=q.sz / q.es) (cs:=aY xs) (gs:=xs) x8 hro (hq q hq1) (by
   unfold takeN
   rw [List.drop_zero,← hlen,List.take_of_length_le (by omega),if_pos hcl]) hlen hle x4 (fun x hx=>⟨x2 x hx,x7 x hx⟩) (fun η' vs hro hvs=>by
    unfold aY at hvs ⊢
    exact (jZ _ _).1 (aN.mono hro _ _ ((jZ _ _).2 hvs)))
  simpa using this
 ·rcases h.live id _ hg with ⟨q,hq1,_⟩ | ⟨_,n2,Lj,f2,e2,hv0⟩
  ·rw [(h.iF id hgh).1] at hq1;cases hq1
  ·cases e2
   exact ⟨[],hv0,by simp [GR]⟩
theorem Qg {η':Env} (hle:η.le η') {o:Option AV} {v:Option Value} (h:iP η o v):iP η' o v:=by
 cases o<;>cases v<;>first | exact h | exact VR.mono hle _ _ h
theorem St.aiM (h:SR P η σ w) {id m et k:Nat} {f:Bool} (hg:σ.get id=some (.vec m et f)) (hgh:η.gh id=true) (hv:aB.val k=some (.l [])):St P η σ w η (σ.put id (.vec k et f)) w:=by
 have get:∀i u,(σ.put id (.vec k et f)).get i=some u→(i=id∧u=.vec k et f)∨(i≠id∧σ.get i=some u):=by
  intro i u hi
  rw [ah.get_put] at hi
  split at hi
  ·next e=>cases hi;exact .inl ⟨e,rfl⟩
  ·next e=>exact .inr ⟨e,hi⟩
 have hno:∀q,η id≠some q:=fun q hq=>by rw [(h.iF id hgh).1] at hq;cases hq
 refine ⟨Env.le.refl _,⟨h.jW,h.dom,fun i u hi=>?_,h.iF,fun i u i' u' q q' a1 a2 a3 a4 a5 a6=>?_,h.gI,fun i u q a1 a2 a3=>?_,h.tabs⟩,Nat.le_refl _,fun _ _ _=>rfl,fun i u q a1 a2 a3 a4=>?_,rfl,rfl,rfl,rfl,Nat.le_refl _,fun _ h=>.inl h,fun _ h=>.inl h⟩
 ·rcases get i u hi with ⟨rfl,rfl⟩ | ⟨_,h1⟩
  ·exact .inr ⟨hgh,k,et,f,rfl,hv⟩
  ·exact h.live i u h1
 ·rcases get i u a1 with ⟨rfl,_⟩ | ⟨_,h1⟩
  ·exact absurd a5 (hno q)
  ·rcases get i' u' a3 with ⟨rfl,_⟩ | ⟨_,h2⟩
   ·exact absurd a6 (hno q')
   ·exact h.sep i u i' u' q q' h1 a2 h2 a4 a5 a6
 ·rcases get i u a1 with ⟨rfl,_⟩ | ⟨_,h1⟩
  ·exact absurd a3 (hno q)
  ·exact h.jT i u q h1 a2 a3
 ·rcases get i u a1 with ⟨rfl,_⟩ | ⟨_,h1⟩
  ·exact absurd a4 (hno q)
  ·exact .inr ⟨i,u,q,h1,a2,a3,a4,rfl⟩
theorem alO (h:SR P η σ w) {t:TypeId} {a v:AV} {x:Value} {lo hi:Option AV} {lo' hi':Option Value} (hs:JH P t σ a lo hi=some (v,σ')) (hx:VR η a x) (hlo:iP η lo lo') (hhi:iP η hi hi') :
 ∃y w' η',(Instr.sliceAt t x lo' hi' none).run P w=.ok y w'∧St P η σ w η' σ' w'∧VR η' v y:=by
 unfold JH at hs
 split at hs
 rotate_left
 ·cases hs
 next e id n hu=>
 split at hs
 rotate_left
 ·cases hs
 next m et f size hg hsz=>
 split at hs
 rotate_left
 ·cases hs
 next hc=>
 simp only [Bool.and_eq_true] at hc
 obtain ⟨⟨c1,c2⟩,c3⟩:=hc
 have e1:=Nat.eq_of_beq_eq_true c1
 subst e1
 have hlk:=Nat.le_of_ble_eq_true c3
 cases lo with
 | some l0=>
   simp only at hs
   obtain ⟨r,hr,e2⟩:=Option.map_eq_some_iff.1 hs
   cases e2
   have key:∀η1:Env,SR P η1 (σ.kill id) w→St P η σ w η1 (σ.kill id) w→VR η1 (.nd m) x→∃y w' η',(Instr.sliceAt t x lo' hi' none).run P w=.ok y w'∧St P η σ w η' (σ.kill id) w'∧VR η' v y:=by
    intro η1 h1 hst hv
    obtain ⟨y,k1,k2⟩:=abP h1 hr hv (Qg hst.ext hlo) (Qg hst.ext hhi)
    exact ⟨y,w,η1,k1,hst,k2⟩
   have hx0:=hx
   simp only [VR] at hx0
   obtain ⟨ys,k1,hx0⟩:=hx0
   rcases hx0 with ⟨q,hq1,hle,_⟩ | ⟨hgh,_,_⟩
   ·have hst:=St.freeze h hg rfl hlk hq1
    obtain ⟨zs,z1,z2⟩:=VR.YN (ro':=xM η.ro w q.bl) h hg c2 hx (Ii h.gI q.bl) (fun q' hq'=>by rw [hq1] at hq';cases hq';unfold xM;rw [if_pos rfl])
    exact key _ hst.rel hst (by simp only [VR];exact ⟨_,z1,rfl,z2⟩)
   ·obtain ⟨zs,z1,z2⟩:=VR.YN (ro':=η.ro) h hg c2 hx (fun _ _ h=>h) (fun q' hq'=>by rw [(h.iF id hgh).1] at hq';cases hq')
    have hst:=(St.refl h).G5 id
    exact key η hst.rel hst (by simp only [VR];exact ⟨_,z1,rfl,z2⟩)
 | none=>
   simp only at hs
   split at hs
   rotate_left
   ·cases hs
   next z hh h1 h2=>
   obtain ⟨k,hk,e2⟩:=Option.map_eq_some_iff.1 hs
   cases e2
   obtain ⟨g,g1,g2⟩:=dY hk
   simp only [Nd.den] at g2
   split at g2
   rotate_left
   ·cases g2
   next xs kl li kh hi2 e3 e4 e5=>
   split at g2
   rotate_left
   ·cases g2
   next hc=>
   cases g2
   obtain ⟨b1,b2,b3,b4⟩:=hc
   have hz:li=0:=by
    obtain ⟨gz,z1,z2⟩:=dY h1
    simp only [Nd.den,Option.some.injEq] at z2
    subst z2
    rw [e4] at z1;cases z1;rfl
   subst hz
   have hlt:CY (none:Option AV)=some z:=h1
   obtain ⟨lo2,hi3,d1,d2,d3⟩:=Pv (len:=xs.length) hlt h2 hlo hhi e4 e5 (fun hd=>by simp only [Nd.den,e3,Option.some.injEq,GV.i.injEq] at hd;exact hd.2.symm) b1 b2 b3
   have hlo2:(0:Int).toNat=0:=rfl
   simp only [VR] at hx
   obtain ⟨ys,y1,hx⟩:=hx
   have hlen:=qB 100 c2 e3 y1
   have hks:(xs.take hi2.toNat).drop (0:Int).toNat=xs.take hi2.toNat:=by simp
   rw [hks] at g1
   have DV:hi2.toNat≤xs.length:=by omega
   rcases hx with ⟨q,hq1,hle,rfl⟩ | ⟨hgh,rfl,rfl⟩
   ·have hor:=h.at hg hq1
    obtain ⟨xs',cs,elem,fr,zs,o1,o2,o3,o4,o5,o6,o7,o8,o9⟩:=hor
    rw [e3] at o1;cases o1
    have hB:=vX (P:=P) (w:=w) (sl:=true) (cap:=q.sz / q.es) d3 (fun k hk=>by have:k≤xs.length:=by simpa using hk
                                                                             omega) (by omega) d1 d2
    have hes:0 < q.es∧sizeT P e=some q.es:=⟨(o7.room rfl).2.1,(o7.room rfl).2.2⟩
    have hne:size=q.es:=by have:=hes.2;rw [hsz] at this;cases this;rfl
    have hnew:OR P η q w (.vec k e f):=by
     have hz1:=o3.length
     refine ⟨xs.take hi2.toNat,cs,elem,fr,zs.take hi2.toNat,g1,o2, ?_,fun y hy=>o4 y (List.mem_of_mem_take hy), ?_, ?_,o7,fun x hx=>o8 x (List.mem_of_mem_take hx),o9⟩
     ·have:∀ (xs:List GV) (zs:List Value) (n:Nat),aN η.ro xs zs→aN η.ro (xs.take n) (zs.take n):=by
       intro xs
       induction xs with
       | nil=>intro zs n hg;simp only [aN] at hg;subst hg;simp [aN]
       | cons a l ih=>
         intro zs n hg
         simp only [aN] at hg
         obtain ⟨x,us,rfl,a1,a2⟩:=hg
         cases n with
         | zero=>simp [aN]
         | succ n=>simp only [List.take_succ_cons,aN];exact ⟨x,us.take n,rfl,a1,ih us n a2⟩
      exact this _ _ _ o3
     ·intro j x hj
      refine o5 j x ?_
      have hpre:(cu (zs.take hi2.toNat)) <+: cu zs:=by
       unfold cu
       rw [show zs=zs.take hi2.toNat++zs.drop hi2.toNat from (List.take_append_drop _ _).symm]
       rw [List.flatMap_append]
       simp only [List.take_append_drop]
       exact List.prefix_append _ _
      obtain ⟨r,hr⟩:=hpre
      rw [← hr,List.getElem?_append_left (List.getElem?_eq_some_iff.1 hj).1]
      exact hj
     ·rw [List.length_take]
      refine Nat.le_trans (Nat.mul_le_mul_right _ (Nat.min_le_right _ _)) o6
    have hst:=St.write h hg rfl hlk hq1 (w':=w) (o':=.vec k e f) rfl (fun _ _=>rfl) rfl rfl rfl hnew
    refine ⟨.slice (some ⟨q.bl,q.ba,none⟩) hi2.toNat (q.sz / q.es),w,η, ?_,hst, ?_⟩
    ·rw [hlen] at hB
     simp only [Instr.sliceAt,Instr.slice,aT hu,Sem.run_bind,Result.andThen_ok,hB.1,fK hsz,Sem.run_pure]
     by_cases e0:q.sz / q.es=0
     ·simp [e0]
     ·have e1:¬ q.sz / q.es=(0:Int).toNat:=e0
      rw [if_neg e1]
      simp [lD]
    ·simp only [VR]
     refine ⟨xs.take hi2.toNat,g1,.inl ⟨q,hq1, ?_, ?_⟩⟩
     ·rw [List.length_take];omega
     ·rw [List.length_take,Nat.min_eq_left DV]
   ·have hxs:xs=[]:=List.eq_nil_of_length_eq_zero (by simpa using hlen)
    subst hxs
    have hh0:hi2.toNat=0:=by simpa using DV
    have hl:rY P t σ .dH lo2 hi3=some .dH:=by
     simp only [rY,hu,hsz]
     simp only [List.length_nil] at d3
     rw [d3];rfl
    obtain ⟨y,u1,u2⟩:=Jm h hl (show VR η .dH (.slice none 0 0) by simp only [VR]) d1 d2
    simp only [VR] at u2
    subst u2
    have hvk:aB.val k=some (.l []):=by rw [g1];simp
    refine ⟨_,w,η,u1,St.aiM h hg hgh hvk, ?_⟩
    simp only [VR]
    exact ⟨[],hvk,.inr ⟨hgh,by trivial,by trivial⟩⟩
end
end Go.aJ
namespace Go.aJ
noncomputable section
variable [aB]
set_option linter.unusedSectionVars false
set_option linter.unusedVariables false
set_option linter.unusedSimpArgs false
variable {P:Program} {η:Env} {σ σ':ah} {w:World}
def oQ (kk:Option IntKind):TypeDesc:=match kk with
 | some k=>.int k
 | none=>.string
theorem Na {kt:TypeId} {k:AV} {n:Nat} {kk:Option IntKind} {y:Value} (h:DZ P kt k=some (n,kk)) (hy:VR η k y) :
 P.underlying kt=some (oQ kk)∧∃g,aB.val n=some g∧qY kk g∧GR η.ro g y:=by
 unfold DZ at h
 split at h
 ·next uQ m hu hn=>
  split at h
  ·next z hz=>
   obtain ⟨j,hj,e⟩:=Option.map_eq_some_iff.1 h
   cases e
   obtain ⟨g,h1,_,h3⟩:=jm hn hy
   obtain ⟨z',h4,h5⟩:=dY hz
   simp only [Nd.den,Option.some.injEq] at h5
   subst h5
   obtain ⟨r,_,h7⟩:=dY hj
   simp only [Nd.den,h1,h4] at h7
   refine ⟨hu,g,h1, ?_,h3⟩
   cases g<;>simp only [eH,fF,reduceCtorEq] at h7
   split at h7
   ·next e=>subst e;exact ⟨_,rfl⟩
   ·cases h7
  ·cases h
 ·next m hu hn=>
  split at h
  ·next z hz=>
   obtain ⟨j,hj,e⟩:=Option.map_eq_some_iff.1 h
   cases e
   obtain ⟨g,h1,_,h3⟩:=jm hn hy
   obtain ⟨z',h4,h5⟩:=dY hz
   simp only [Nd.den,Option.some.injEq] at h5
   subst h5
   obtain ⟨r,_,h7⟩:=dY hj
   simp only [Nd.den,h1,h4] at h7
   refine ⟨hu,g,h1, ?_,h3⟩
   cases g<;>simp only [eH,pq,reduceCtorEq] at h7
   exact ⟨_,rfl⟩
  ·cases h
 ·cases h
theorem abq {k:IntKind} {a b:Int}:Instr.sameNow (.int k) (.int k a) (.int k b)=some (a==b):=by simp [Instr.sameNow]
theorem abt {a b:List UInt8}:Instr.sameNow .string (.string ⟨⟨a⟩⟩) (.string ⟨⟨b⟩⟩)=some (a==b):=by simp [Instr.sameNow,Aa]
theorem Zo {kk:Option IntKind} {n:Nat} {e:AV} {g:GV} {x y:Value} {b:Bool} (h:Nc n e=some b) (hg:aB.val n=some g) (hk:qY kk g) (hy:GR η.ro g y) (hx:VR η e x) :
 Instr.sameNow (oQ kk) y x=some b:=by
 unfold Nc at h
 split at h
 ·next m hm=>
  obtain ⟨g',h1,_,h3⟩:=jm hm hx
  have key:∃r,(Nd.bin .eql n m).den aB.I aB.val=some r∧r=.b b:=by
   split at h
   ·next b' hb=>
    cases h
    obtain ⟨j,r,q1,q2,q3⟩:=jl (η:=η) hb
    refine ⟨r,q2, ?_⟩
    simp only [Nd.den,hg,h1] at q2
    have:∃c,r=.b c:=by
     cases g<;>cases g'<;>simp only [eH,reduceCtorEq] at q2
     ·split at q2
      ·simp only [fF,Option.some.injEq] at q2;exact ⟨_,q2.symm⟩
      ·cases q2
     ·simp only [pq,Option.some.injEq] at q2;exact ⟨_,q2.symm⟩
    obtain ⟨c,rfl⟩:=this
    have:=q3 (.bool c) rfl (by simp only [GR])
    simp only [VR] at this
    cases this;rfl
   ·next j hb=>
    split at h
    ·next b' hd=>
     cases h
     obtain ⟨j',r,q1,q2,q3⟩:=jl (η:=η) hb
     refine ⟨r,q2, ?_⟩
     simp only [Nd.den,hg,h1] at q2
     have:∃c,r=.b c:=by
      cases g<;>cases g'<;>simp only [eH,reduceCtorEq] at q2
      ·split at q2
       ·simp only [fF,Option.some.injEq] at q2;exact ⟨_,q2.symm⟩
       ·cases q2
      ·simp only [pq,Option.some.injEq] at q2;exact ⟨_,q2.symm⟩
     obtain ⟨c,rfl⟩:=this
     have h8:=q3 (.bool c) rfl (by simp only [GR])
     obtain ⟨v,hv,q4⟩:=Am hd
     cases hv
     have:=q4 η _ h8
     simp only [VR] at this
     cases this;rfl
    ·cases h
   ·cases h
  obtain ⟨r,q2,rfl⟩:=key
  simp only [Nd.den,hg,h1] at q2
  cases kk with
  | some k=>
    obtain ⟨a,rfl⟩:=hk
    simp only [GR] at hy;subst hy
    cases g'<;>simp only [eH,reduceCtorEq] at q2
    split at q2
    ·next e=>
     subst e
     simp only [fF,Option.some.injEq,GV.b.injEq] at q2
     simp only [GR] at h3;subst h3
     show Instr.sameNow (.int _) _ _=_
     rw [abq,q2]
    ·cases q2
  | none=>
    obtain ⟨a,rfl⟩:=hk
    simp only [GR] at hy;subst hy
    cases g'<;>simp only [eH,pq,reduceCtorEq] at q2
    simp only [Option.some.injEq,GV.b.injEq] at q2
    simp only [GR] at h3;subst h3
    show Instr.sameNow .string _ _=_
    rw [abt,q2]
 ·cases h
theorem LD {kk:Option IntKind} {n:Nat} {g:GV} {y:Value} (hg:aB.val n=some g) (hk:qY kk g) (hy:GR η.ro g y):∀ {es:List (AV×AV)} {ms:List MapEntry} {i:Nat} {r:Option (Nat×AV)},
 DF n es i=some r→tZ η es ms→∃r',Instr.findNow (oQ kk) y ms i=some r'∧(match r,r' with | none,none=>True | some (_,v),some (_,z)=>VR η v z | _,_=>False)
 | [],ms,i,r,h,hm=>by
   simp only [DF,Option.some.injEq] at h;subst h
   have:ms=[]:=by have:=hm.1;cases ms<;>simp_all
   subst this
   exact ⟨none,rfl,trivial⟩
 | e::es,ms,i,r,h,hm=>by
   obtain ⟨m,rest,rfl,h1,h2,h3⟩:=hm.tail
   unfold DF at h
   split at h
   ·next hs=>
    cases h
    have hs:=Zo hs hg hk hy h1
    exact ⟨some (i,m.val),by simp [Instr.findNow,hs],h2⟩
   ·next hs=>
    have hs:=Zo hs hg hk hy h1
    obtain ⟨r',hr,hrel⟩:=LD hg hk hy h h3
    exact ⟨r',by simp [Instr.findNow,hs,hr],hrel⟩
   ·cases h
theorem abr {kk:Option IntKind} {g a:GV} {y x:Value} {ro:Nat→Option Obj} (hk:qY kk g) (ha:qY kk a) (hy:GR ro g y) (hx:GR ro a x):Instr.sameNow (oQ kk) y x=some (Ba g a):=by
 cases kk with
 | some k=>
   obtain ⟨m,rfl⟩:=hk
   obtain ⟨n,rfl⟩:=ha
   simp only [GR] at hy hx;subst hy;subst hx
   show Instr.sameNow (.int _) _ _=_
   rw [abq]
   simp [Ba]
 | none=>
   obtain ⟨m,rfl⟩:=hk
   obtain ⟨n,rfl⟩:=ha
   simp only [GR] at hy hx;subst hy;subst hx
   show Instr.sameNow .string _ _=_
   rw [abt]
   rfl
theorem Gf {ro:Nat→Option Obj} {kk:Option IntKind} {sz:Option Nat} {g:GV} {y:Value} (hk:qY kk g) (hy:GR ro g y):∀ {xs:List GV} {ms:List MapEntry} {i:Nat},mg ro kk sz xs ms→
 (ng g xs=none∧Instr.findNow (oQ kk) y ms i=some none)∨∃u j z,ng g xs=some u∧Instr.findNow (oQ kk) y ms i=some (some (j,z))∧i≤j∧(∃m,ms[j - i]? = some m∧Instr.sameNow (oQ kk) y m.key=some true)∧BX sz u∧GR ro u z
 | [],ms,i,h=>by
   simp only [mg] at h;subst h
   exact .inl ⟨rfl,rfl⟩
 | x::xs,ms,i,h=>by
   obtain ⟨a,b,m,rest,rfl,rfl,h1,h2,h3,h4,h5⟩:=h
   have hs:=abr hk h1 hy h3
   cases hb:Ba g a with
   | true=>
     rw [hb] at hs
     exact .inr ⟨b,i,m.val,by simp [ng,hb],by simp [Instr.findNow,hs],Nat.le_refl _,⟨m,by simp,hs⟩,h2,h4⟩
   | false=>
     rw [hb] at hs
     rcases Gf (i:=i+1) hk hy h5 with ⟨q1,q2⟩ | ⟨u,j,z,q1,q2,q3,⟨m',q4,q5⟩,q6⟩
     ·exact .inl ⟨by simp [ng,hb,q1],by simp [Instr.findNow,hs,q2]⟩
     ·refine .inr ⟨u,j,z,by simp [ng,hb,q1],by simp [Instr.findNow,hs,q2],by omega,⟨m', ?_,q5⟩,q6⟩
      have:j - i=(j - (i+1))+1:=by omega
      rw [this];simpa using q4
theorem aaD {ro:Nat→Option Obj} {kk:Option IntKind} {sz:Option Nat} {g u:GV} {e:MapEntry} (hk:qY kk g) (hu:BX sz u) (h1:GR ro g e.key) (h2:GR ro u e.val):∀ {xs:List GV} {ms:List MapEntry},mg ro kk sz xs ms→ng g xs=none→
 mg ro kk sz (tq g u xs) (ms++[e])
 | [],ms,h,_=>by
   simp only [mg] at h;subst h
   exact ⟨g,u,e,[],rfl,rfl,hk,hu,h1,h2,rfl⟩
 | x::xs,ms,h,hn=>by
   obtain ⟨a,b,m,rest,rfl,rfl,q1,q2,q3,q4,q5⟩:=h
   simp only [ng] at hn
   split at hn
   ·cases hn
   ·next hb=>
    simp only [tq,if_neg hb]
    exact ⟨a,b,m,rest++[e],rfl,rfl,q1,q2,q3,q4,aaD hk hu h1 h2 q5 hn⟩
theorem aaE {ro:Nat→Option Obj} {kk:Option IntKind} {sz:Option Nat} {g u:GV} {y z':Value} (hk:qY kk g) (hu:BX sz u) (h1:GR ro g y) (h2:GR ro u z'):∀ {xs:List GV} {ms:List MapEntry} {i j:Nat} {z:Value},mg ro kk sz xs ms→Instr.findNow (oQ kk) y ms i=some (some (j,z))→
 mg ro kk sz (tq g u xs) (ms.modify (j - i) fun e=>{ e with key:=y,val:=z' })
 | [],ms,i,j,z,h,hf=>by
   simp only [mg] at h;subst h
   simp [Instr.findNow] at hf
 | x::xs,ms,i,j,z,h,hf=>by
   obtain ⟨a,b,m,rest,rfl,rfl,q1,q2,q3,q4,q5⟩:=h
   have hs:=abr hk q1 h1 q3
   cases hb:Ba g a with
   | true=>
     rw [hb] at hs
     simp only [Instr.findNow,hs,Option.some.injEq,Prod.mk.injEq] at hf
     obtain ⟨rfl,rfl⟩:=hf
     simp only [tq,hb,if_true,Nat.sub_self]
     exact ⟨g,u, { m with key:=y,val:=z' },rest,rfl,by simp,hk,hu,h1,h2,q5⟩
   | false=>
     rw [hb] at hs
     simp only [Instr.findNow,hs] at hf
     have hj:i+1≤j:=by
      rcases Gf (i:=i+1) hk h1 q5 with ⟨_,r2⟩ | ⟨_,j',_,_,r2,r3,_⟩
      ·rw [hf] at r2;cases r2
      ·rw [hf] at r2;cases r2;exact r3
     have ih:=aaE hk hu h1 h2 q5 hf
     have e:j - i=(j - (i+1))+1:=by omega
     rw [e]
     simp only [tq,hb,Bool.false_eq_true,if_false,List.modify_succ_cons]
     exact ⟨a,b,m,_,rfl,rfl,q1,q2,q3,q4,ih⟩
theorem KP {kt:TypeId} {kk:Option IntKind} {g:GV} {y:Value} (hu:P.underlying kt=some (oQ kk)) (hk:qY kk g) (hy:GR η.ro g y) (b:Bool):(Instr.checkKey b 10000 kt y).run P w=.ok () w:=by
 have H:∀n:Nat,(Instr.checkKey b (n+1) kt y).run P w=.ok () w:=fun n=>by
  cases kk with
  | some k=>
    obtain ⟨m,rfl⟩:=hk
    simp only [GR] at hy;subst hy
    simp only [Instr.checkKey,Sem.run_bind,aT hu,Result.andThen_ok,oQ,Sem.run_pure]
  | none=>
    obtain ⟨m,rfl⟩:=hk
    simp only [GR] at hy;subst hy
    simp only [Instr.checkKey,Sem.run_bind,aT hu,Result.andThen_ok,oQ,Sem.run_pure]
 exact H 9999
theorem ach {et:TypeId} {v:AV} {n:Nat} {sz:Option Nat} {x:Value} (h:EK P et v=some (n,sz)) (hx:VR η v x):∃g,aB.val n=some g∧BX sz g∧GR η.ro g x∧(match kH P et with
 | some true=>∃k,sizeT P et=some k∧sz=some k
 | some false=>sz=none
 | none=>False):=by
 unfold EK at h
 split at h
 ·next ha=>
  split at h
  ·next n' k hn hk=>
   split at h
   ·next he=>
    cases h
    obtain ⟨l,gs,rfl,h1,h2,h3,h4⟩:=zX hn hx
    rw [ha]
    refine ⟨_,h2,⟨gs,rfl, ?_,h3⟩,h4,k,hk,rfl⟩
    rw [h1];exact Nat.eq_of_beq_eq_true he
   ·cases h
  ·cases h
 ·next ha=>
  obtain ⟨n',hn,e⟩:=Option.map_eq_some_iff.1 h
  cases e
  obtain ⟨g,h1,h2,h3⟩:=jm hn hx
  rw [ha]
  exact ⟨g,h1,h2,h3,rfl⟩
 ·cases h
theorem Nj {a b:Option IntKind} (h:D5 a b=true):a=b:=by
 cases a<;>cases b<;>simp only [D5] at h
 ·rfl
 ·cases h
 ·cases h
 ·rw [GZ h]
theorem Px {a b:Option Nat} (h:EG a b=true):a=b:=by
 cases a<;>cases b<;>simp only [EG] at h
 ·rfl
 ·cases h
 ·cases h
 ·rw [Nat.eq_of_beq_eq_true h]
theorem acv {et:TypeId} {z:AV} (h:J5 P et=some z):∃x,(zeroValue et).run P w=.ok x w∧VR η z x:=by
 unfold J5 at h
 split at h
 ·next i hi=>
  split at h
  ·next x hx=>
   obtain ⟨h3,h4⟩:=J6 (w:=w) (η:=η) hi hx h
   exact ⟨x,h3,h4⟩
  ·cases h
 ·cases h
theorem afw:∀ (cs:List GV) (n:Nat),cs.length=n→takeN (bW cs) 0 n=some (bW cs):=by
 intro cs n hn
 have hl:(bW cs).length=n:=by rw [jd,hn]
 simp only [takeN,List.drop_zero]
 rw [List.take_of_length_le (by omega),if_pos hl]
theorem alM (h:SR P η σ w) {t:TypeId} {m k v:AV} {x y:Value} {ok:Bool} (hs:JE P t m k ok σ=some v) (hx:VR η m x) (hy:VR η k y) :
 ∃z,(Instr.lookup t x y ok).run P w=.ok z w∧VR η v z:=by
 unfold JE at hs
 split at hs
 rotate_left
 ·cases hs
 next kt et id hu=>
 simp only [VR] at hx
 obtain ⟨q,hq,rfl⟩:=hx
 split at hs
 ·next n kk es hn hg=>
  obtain ⟨lW,g,g1,g2,g3⟩:=Na hn hy
  obtain ⟨q',hq',ms,clock,hb,hsz,hp⟩:=h.obj _ _ hg rfl
  rw [hq] at hq';cases hq'
  have hmr:tZ η es ms.toList:=⟨by simpa using hsz,fun k e hk=>by obtain ⟨m,hm,h1,h2⟩:=hp k e hk;exact ⟨m,by simpa using hm,h1,h2⟩⟩
  rw [Nu hu y ok hb]
  have hck:∀b,(Instr.checkKey b 10000 kt y).run P w=.ok () w:=fun b=>KP lW g2 g3 b
  split at hs
  ·next j u hf=>
   cases hs
   obtain ⟨r',h1,h2⟩:=LD g1 g2 g3 hf hmr
   cases r' with
   | none=>exact h2.elim
   | some p=>
     obtain ⟨j',z⟩:=p
     have hfk:(Instr.findKey kt y ms.toList).run P w=.ok (some (j',z)) w:=by simp only [Instr.findKey,Sem.run_bind,aT lW,Result.andThen_ok,h1,Sem.run_pure]
     refine ⟨if ok then .tuple #[z,.bool true] else z, ?_, ?_⟩
     ·simp only [nU,Sem.run_bind,Result.andThen_ok,hck,hfk,Sem.run_pure]
     ·cases ok
      ·simpa using h2
      ·simp only [VR];exact ⟨[z,.bool true],rfl,aj.cons h2 (aj.cons (by simp [VR]) (by simp [aj]))⟩
  ·next hf=>
   obtain ⟨r',h1,h2⟩:=LD g1 g2 g3 hf hmr
   cases r' with
   | some p=>exact h2.elim
   | none=>
     have hfk:(Instr.findKey kt y ms.toList).run P w=.ok none w:=by simp only [Instr.findKey,Sem.run_bind,aT lW,Result.andThen_ok,h1,Sem.run_pure]
     obtain ⟨a,ha,rfl⟩:=Option.map_eq_some_iff.1 hs
     obtain ⟨z,h3,h4⟩:=acv (w:=w) (η:=η) ha
     refine ⟨if ok then .tuple #[z,.bool false] else z, ?_, ?_⟩
     ·simp only [nU,Sem.run_bind,Result.andThen_ok,hck,hfk,h3,Sem.run_pure]
     ·cases ok
      ·simpa using h4
      ·simp only [VR];exact ⟨[z,.bool false],rfl,aj.cons h4 (aj.cons (by simp [VR]) (by simp [aj]))⟩
  ·cases hs
 ·next n kk j uQ sz hn hg=>
  obtain ⟨lW,g,g1,g2,g3⟩:=Na hn hy
  obtain ⟨q',hq',xs,ms,clock,hv,hb,hp⟩:=h.obj _ _ hg rfl
  rw [hq] at hq';cases hq'
  rw [Nu hu y ok hb]
  have hck:∀b,(Instr.checkKey b 10000 kt y).run P w=.ok () w:=fun b=>KP lW g2 g3 b
  split at hs
  rotate_left
  ·cases hs
  next hkk=>
  have:=Nj hkk
  subst this
  split at hs
  rotate_left
  ·cases hs
  next zn sz' hz=>
  split at hs
  rotate_left
  ·cases hs
  next hsz=>
  have:=Px hsz
  subst this
  obtain ⟨za,hza,hzn⟩:=Option.bind_eq_some_iff.1 hz
  obtain ⟨zv,z1,z2⟩:=acv (w:=w) (η:=η) hza
  obtain ⟨zg,z3,z4,z5,z6⟩:=ach hzn z2
  split at hs
  rotate_left
  ·cases hs
  next u hu'=>
  obtain ⟨jn,hj,hpart⟩:=Option.bind_eq_some_iff.1 hu'
  obtain ⟨rg,r1,r2⟩:=dY hj
  simp only [Nd.den,z3,hv,g1,Option.some.injEq] at r2
  have fin:∀ (z:Value) (b:Bool),BX sz rg→GR η.ro rg z→(ng g xs).isSome=b→nU kt et y ok ms=nU kt et y ok ms→(nU kt et y ok ms).run P w=.ok (if ok then .tuple #[z,.bool b] else z) w→∃z,(nU kt et y ok ms).run P w=.ok z w∧VR η v z:=by
   intro z b hok hgr hb' _ hrun
   have hvu:VR η u z:=by
    obtain ⟨r,q1,q2⟩:=Pq (η:=η) r1 hpart
    cases hag:kH P et with
    | none=>rw [hag] at z6;exact z6.elim
    | some ag=>
      rw [hag] at z6 q1
      cases ag with
      | true=>
        obtain ⟨kn,k1,k2⟩:=z6
        subst k2
        obtain ⟨cs,rfl,c1,c2⟩:=hok
        simp only [k1,GV.cells,afw cs kn c1,Option.map_some,Option.some.injEq] at q1
        subst q1
        apply q2
        simp only [GR] at hgr
        obtain ⟨vs,rfl,hgs⟩:=hgr
        simp only [VR]
        exact ⟨vs,rfl,(jZ _ _).1 hgs⟩
      | false=>
        simp only at z6
        subst z6
        have hsc:rg.scalar=true:=hok
        have hc:rg.cells=[rg]:=by cases rg<;>first | rfl | (simp [GV.scalar] at hsc)
        simp only [hc,DK,List.getElem?_cons_zero,Option.map_some,Option.some.injEq] at q1
        subst q1
        exact q2 _ ((jc _ _).1 hgr)
   cases ok with
   | false=>
     simp only [Bool.false_eq_true,if_false,Option.some.injEq] at hs hrun
     subst hs
     exact ⟨z,hrun,hvu⟩
   | true=>
     simp only [if_true] at hs hrun
     split at hs
     ·next bb hbb=>
      cases hs
      obtain ⟨_,gb,_,b2,b3⟩:=jl (η:=η) hbb
      simp only [Nd.den,hv,g1,Option.some.injEq] at b2
      subst b2
      refine ⟨_,hrun, ?_⟩
      simp only [VR]
      exact ⟨[z,.bool b],rfl,aj.cons hvu (aj.cons (b3 _ rfl (by simp only [GR];rw [hb'])) (by simp [aj]))⟩
     ·cases hs
  rcases Gf (i:=0) g2 g3 hp with ⟨q1,q2⟩ | ⟨u',j',z,q1,q2,_,_,q5,q6⟩
  ·have hfk:(Instr.findKey kt y ms.toList).run P w=.ok none w:=by simp only [Instr.findKey,Sem.run_bind,aT lW,Result.andThen_ok,q2,Sem.run_pure]
   rw [q1,Option.getD_none] at r2
   subst r2
   refine fin zv false z4 z5 (by rw [q1];rfl) rfl ?_
   simp only [nU,Sem.run_bind,Result.andThen_ok,hck,hfk,z1,Sem.run_pure]
  ·have hfk:(Instr.findKey kt y ms.toList).run P w=.ok (some (j',z)) w:=by simp only [Instr.findKey,Sem.run_bind,aT lW,Result.andThen_ok,q2,Sem.run_pure]
   rw [q1,Option.getD_some] at r2
   subst r2
   refine fin z true q5 q6 (by rw [q1];rfl) rfl ?_
   simp only [nU,Sem.run_bind,Result.andThen_ok,hck,hfk,Sem.run_pure]
 ·cases hs
theorem akM {kk:Option IntKind} {g a:GV} {y x:Value} (hk:qY kk g) (hy:GR η.ro g y) (hs:Instr.sameNow (oQ kk) y x=some true) (n:Nat):Instr.sameBits (n+1) x y=true:=by
 cases kk with
 | some k=>
   obtain ⟨m,rfl⟩:=hk
   simp only [GR] at hy;subst hy
   cases x<;>simp only [Instr.sameNow,oQ,reduceCtorEq] at hs
   split at hs
   ·next e=>subst e;simp at hs;subst hs;simp [Instr.sameBits]
   ·cases hs
 | none=>
   obtain ⟨m,rfl⟩:=hk
   simp only [GR] at hy;subst hy
   cases x<;>simp only [Instr.sameNow,oQ,reduceCtorEq] at hs
   next s=>
   obtain ⟨⟨l⟩⟩:=s
   rw [Aa] at hs
   simp only [Instr.sameBits,Aa]
   simp_all
theorem abO (h:SR P η σ w) {t:TypeId} {m k v:AV} {x y z:Value} (hs:JG P t m k v σ=some σ') (hx:VR η m x) (hy:VR η k y) (hz:VR η v z) :
 ∃w',(Instr.mapUpdate t x y z).run P w=.ok () w'∧St P η σ w η σ' w':=by
 unfold JG at hs
 split at hs
 rotate_left
 ·cases hs
 next kt et id hu=>
 simp only [VR] at hx
 obtain ⟨q,hq,rfl⟩:=hx
 split at hs
 rotate_left
 ·cases hs
 next hl=>
 have hl:=Nat.le_of_ble_eq_true hl
 have main:∀ (o:aX) (n:Nat) (kk:Option IntKind) (u:Nat) (sz:Option Nat) (j j':Nat) (xs:List GV) (ms:Array MapEntry) (clock:Nat),σ.get id=some o→o.own=true→DZ P kt k=some (n,kk)→EK P et v=some (u,sz)→
  aB.val j=some (.l xs)→w.heap[q.bl]? = some (.map ms clock)→mg η.ro kk sz xs ms.toList→dL (.uT j n u)=some j'→∃w',(Instr.mapUpdate t (.map (some q.bl)) y z).run P w=.ok () w'∧St P η σ w η (σ.put id (.smap j' kk sz)) w':=by
  intro o n kk u sz j j' xs ms clock hg ho hn hvn hj hb hp hf
  obtain ⟨lW,g,g1,g2,g3⟩:=Na hn hy
  obtain ⟨ug,u1,u2,u3,_⟩:=ach hvn hz
  obtain ⟨rg,r1,r2⟩:=dY hf
  simp only [Nd.den,hj,g1,u1,Option.some.injEq] at r2
  subst r2
  have hck:=KP (w:=w) lW g2 g3 false
  have hgo:(getObj q.bl).run P w=.ok (.map ms clock) w:=by simp [getObj,Sem.run,hb]
  rcases Gf (i:=0) g2 g3 hp with ⟨q1,q2⟩ | ⟨u',i,zz,q1,q2,_,⟨m',q3,q4⟩,q5,q6⟩
  ·have hfk:(Instr.findKey kt y ms.toList).run P w=.ok none w:=by simp only [Instr.findKey,Sem.run_bind,aT lW,Result.andThen_ok,q2,Sem.run_pure]
   refine ⟨jo w q.bl (.map (ms.push { key:=y,val:=z,born:=clock }) (clock+1)), ?_,St.write h hg ho hl hq vH (fun k hk=>vG hk) rfl rfl rfl ?_⟩
   ·simp only [Instr.mapUpdate,Sem.run_bind,aT hu,Result.andThen_ok,hgo,hck,hfk]
    exact BM hb (by simp)
   ·refine ⟨_,_,clock+1,r1,tH hb, ?_⟩
    rw [Array.toList_push]
    exact aaD g2 u2 g3 u3 hp q1
  ·have hfk:(Instr.findKey kt y ms.toList).run P w=.ok (some (i,zz)) w:=by simp only [Instr.findKey,Sem.run_bind,aT lW,Result.andThen_ok,q2,Sem.run_pure]
   rw [Nat.sub_zero,Array.getElem?_toList] at q3
   have MP:(Instr.keyThatStays (((ms[i]?).map (·.key)).getD y) y).run P w=.ok y w:=by
    rw [q3]
    simp only [Option.map_some,Option.getD_some,Instr.keyThatStays]
    rw [if_pos (akM (a:=g) g2 g3 q4 9999)];rfl
   refine ⟨jo w q.bl (.map (ms.modify i fun e=>{ e with key:=y,val:=z }) clock), ?_,St.write h hg ho hl hq vH (fun k hk=>vG hk) rfl rfl rfl ?_⟩
   ·simp only [Instr.mapUpdate,Sem.run_bind,aT hu,Result.andThen_ok,hgo,hck,hfk,MP]
    exact BM hb (by simp)
   ·refine ⟨_,_,clock,r1,tH hb, ?_⟩
    rw [Array.toList_modify]
    have:=aaE (i:=0) g2 u2 g3 u3 hp q2
    rwa [Nat.sub_zero] at this
 split at hs
 ·next n kk u sz hn hvn hg=>
  split at hs
  ·next j hj=>
   obtain ⟨j',hf,rfl⟩:=Option.map_eq_some_iff.1 hs
   obtain ⟨q',hq',ms,clock,hb,hsz,hp⟩:=h.obj _ _ hg rfl
   rw [hq] at hq';cases hq'
   obtain ⟨gl,l1,l2⟩:=dY hj
   simp only [Nd.den,valsOf,Option.map_some,Option.some.injEq] at l2
   subst l2
   refine main _ n kk u sz j j' [] ms clock hg rfl hn hvn l1 hb ?_ hf
   simp only [mg]
   have:ms.size=0:=by simpa using hsz
   simpa using Array.eq_empty_of_size_eq_zero this
  ·cases hs
 ·next n kk u sz j uQ sz' hn hvn hg=>
  split at hs
  ·next hc=>
   rw [Bool.and_eq_true] at hc
   have e1:=Nj hc.1
   have e2:=Px hc.2
   subst e1;subst e2
   obtain ⟨j',hf,rfl⟩:=Option.map_eq_some_iff.1 hs
   obtain ⟨q',hq',xs,ms,clock,hv,hb,hp⟩:=h.obj _ _ hg rfl
   rw [hq] at hq';cases hq'
   exact main _ n kk u sz j j' xs ms clock hg rfl hn hvn hv hb hp hf
  ·cases hs
 ·cases hs
theorem ahi {v:AV} {x:Value} (h:mapArg v=true) (hx:VR η v x):∃k n,x=.int k n:=by
 unfold mapArg at h
 split at h
 ·next n=>
  split at h
  ·next a hn=>
   obtain ⟨g,h1,h2⟩:=aB.lJ _ _ hn (by simp)
   simp only [VR] at hx
   obtain ⟨g',h3,_,h4⟩:=hx
   rw [h1] at h3;cases h3
   simp only [Nd.den] at h2
   split at h2
   ·cases h2
    simp only [GR] at h4
    exact ⟨_,_,h4⟩
   ·cases h2
  ·cases h
 ·next hne=>
  obtain ⟨n,hn⟩:=Option.isSome_iff_exists.1 h
  obtain ⟨k,hk⟩:=qK hn hx
  exact ⟨k,n,hk⟩
theorem Zz {e:TypeId} {size len m:Nat} {cs:List AV} {vs:List Value} (h:G6 P e size len cs=some m) (hv:aj η cs vs):0 < size∧0 < len∧cs.length=len * size∧∃gs,aB.val m=some (.l gs)∧gs.length=len∧aj η (aY gs) vs∧∀x∈gs,x.cells.length=size∧x.cells.all GV.scalar=true:=by
 unfold G6 at h
 split at h
 rotate_left
 ·cases h
 split at h
 rotate_left
 ·cases h
 next agg ha=>
 split at h
 rotate_left
 ·cases h
 next hc=>
 simp only [Bool.and_eq_true,Bool.or_eq_true,Nat.blt_eq] at hc
 obtain ⟨⟨h1,h2⟩,h3⟩:=hc
 have h3:=Nat.eq_of_beq_eq_true h3
 have hpos:0 < size:=by
  rcases h1 with ⟨_,h1⟩ | h1
  ·exact h1
  ·have:=Nat.eq_of_beq_eq_true h1;omega
 have h11:agg=false→size=1:=by
  intro e
  rcases h1 with ⟨h1,_⟩ | h1
  ·rw [e] at h1;cases h1
  ·exact Nat.eq_of_beq_eq_true h1
 split at h
 ·next ns hns=>
  obtain ⟨gs,k1,k2,k3,_,k5⟩:=wB h11 len hns hv h3
  obtain ⟨g,g1,g2⟩:=dY h
  simp only [Nd.den,k1,Option.map_some,Option.some.injEq] at g2
  subst g2
  exact ⟨hpos,h2,h3,gs,g1,k2,k3,k5⟩
 ·cases h
theorem ag3 {R:Prop} {t e:TypeId} {size bytes len:Nat} {z:List AV} {ps:List (Nat×AV)} {qs:Array (Nat×Value)} {cs:List AV}
 (fin:∀ (v:AV) (τ:ah),G7 P σ e size len cs=(some v,τ)→(∃y w' η',(Instr.buildSlice t len qs).run P w=.ok y w'∧St P η σ w η' τ w'∧VR η' v y)→R)
 (h:SR P η σ w) (hi:oL P t=some (e,size,bytes,z)) (hlen:¬ len * size > 2 ^ 24) (hf:rV (fun i=>some (i * size,size)) (if len * size=0 then [] else fZ len z) ps=some cs) (hp:uf η ps qs.toList):R:=by
 unfold G7 at fin
 split at fin
 rotate_left
 ·exact fin _ _ rfl (acU h hi hlen hf hp)
 next m hm=>
 refine fin _ _ rfl ?_
 obtain ⟨hu,_,hz,he,hzl,hn⟩:=sG hi
 obtain ⟨zv,kF,hzv⟩:=xP hz
 have hpos:0 < size∧0 < len:=by
  unfold G6 at hm
  split at hm
  rotate_left
  ·cases hm
  split at hm
  rotate_left
  ·cases hm
  next agg ha=>
  split at hm
  rotate_left
  ·cases hm
  next hc=>
  simp only [Bool.and_eq_true,Bool.or_eq_true,Nat.blt_eq] at hc
  refine ⟨?_,hc.1.2⟩
  rcases hc.1.1 with ⟨_,h1⟩ | h1
  ·exact h1
  ·have:=Nat.eq_of_beq_eq_true h1;omega
 have h0:¬ len * size=0:=by
  have:=Nat.mul_pos hpos.2 hpos.1
  omega
 simp only [h0,if_false] at hf
 obtain ⟨xs,DU,hxs⟩:=Az hf hp (EP (hzv η) hzl)
 have hl:=hxs.length
 have hal:=uz h (c:=cs) (xs:=xs) (elem:=e) (es:=size) (opn:=true) (by rw [hl,List.take_length];exact hxs) (by simpa using Nat.le_of_eq hl) (by simp) (fun _=>⟨he,hpos.1,hn⟩)
 obtain ⟨_,_,hcl,gs,g1,g2,_,g4⟩:=Zz hm hxs
 have hsz:xs.size=len * size:=by rw [← hcl,hl];simp
 have hdiv:xs.size / size=len:=by rw [hsz];exact Nat.mul_div_cancel _ hpos.1
 obtain ⟨q1,q2⟩:=St.pW (f:=false) (size:=size) (y:=.slice (some ⟨w.heap.size,0,none⟩) len len) hal g1 g4 hn (fun vs hvs=>by
  obtain ⟨_,_,_,gs',k1,_,k3,_⟩:=Zz hm hvs
  rw [g1] at k1;cases k1
  exact k3) (by
  simp only [VR]
  refine ⟨⟨w.heap.size,0,xs.size,size⟩,by simp [Env.put], ?_, ?_⟩
  ·simp only [Option.getD_none,Nat.sub_zero]
   rw [hdiv,g2];simp
  ·simp only [Option.getD_none,Nat.sub_zero,hdiv,g2,Nat.add_zero]) (by simp)
 refine ⟨_,_,_, ?_,q1,q2⟩
 simp only [Instr.buildSlice,Sem.run_bind,aT hu,Result.andThen_ok,fK hn,Sem.run_ite,if_neg hlen,h0,if_false,kF,Sem.run_pure,DU,newRow,newObj,Sem.run]
end
end Go.aJ
namespace Go.aJ
noncomputable section
variable [aB]
set_option linter.unusedSectionVars false
set_option linter.unusedVariables false
set_option linter.unusedSimpArgs false
variable {P:Program} {η:Env} {σ σ':ah} {w:World}
structure TR (P:Program) (η:Env) (a:aW) (A:Act):Prop where
 gn:a.gn=P.globals.size
 size:A.tmps.size=a.n
 none:A.defers=[]
 slot:∀t v,a.t.get t=some v→∃x,A.tmps[t]? = some x∧VR η v x
theorem TR.mono {η η':Env} {a:aW} {A:Act} (h:TR P η a A) (hle:η.le η'):TR P η' a A:=
 ⟨h.gn,h.size,h.none,fun t v hv=>by obtain ⟨x,hx,hr⟩:=h.slot t v hv;exact ⟨x,hx,VR.mono hle _ _ hr⟩⟩
theorem TR.put {a a':aW} {A:Act} {dst:Option Tmp} {r:Option AV} {x:Value} (h:TR P η a A) (hp:a.put dst r=some a') (hr:∀v,r=some v→VR η v x):TR P η a' (A.put dst x):=by
 unfold aW.put at hp
 split at hp
 ·cases hp;exact h
 ·next d=>
  split at hp
  ·next hd=>
   cases hp
   refine ⟨h.gn,by simp [Act.put,h.size],h.none,fun t v hv=>?_⟩
   rw [Tr.oN] at hv
   show ∃y,(A.tmps.setIfInBounds d x)[t]? = some y∧_
   rw [Array.getElem?_setIfInBounds]
   split at hv
   ·next e=>
    subst e
    rw [if_pos rfl,if_pos (by rw [h.size];exact hd)]
    exact ⟨x,rfl,hr v hv⟩
   ·next e=>rw [if_neg (fun e'=>e e'.symm)];exact h.slot t v hv
  ·cases hp
theorem Dz {a:aW} {A:Act} (h:SR P η σ w) (ht:TR P η a A) (x:Operand) (v:AV) (hv:a.eval x=some v):VR η v (A.eval x):=by
 cases x with
 | tmp t=>
   obtain ⟨y,hy,hr⟩:=ht.slot t v hv
   simp only [Act.eval]
   rw [Array.getD_eq_getD_getElem?,hy];exact hr
 | const c=>exact uU _ _ _ hv
 | global g=>
   simp only [aW.eval] at hv
   split at hv
   ·next hg=>
    cases hv
    rw [ht.gn] at hg
    obtain ⟨sz,es,h1⟩:=h.jW g (Nat.le_of_lt hg)
    simp only [VR,Act.eval]
    exact ⟨_,h1,by simp⟩
   ·cases hv
 | func f=>
   simp only [aW.eval,Option.some.injEq] at hv;subst hv
   simp only [VR,Act.eval]
   exact ⟨[],[],rfl,by simp [aj],by simp [aj]⟩
def Ci (P:Program) (η:Env) (σ:ah) (w:World) (r:Option AV) (σ':ah) (s:Sem Next):Prop:=
 ∃nx w' η',s.run P w=.ok nx w'∧St P η σ w η' σ' w'∧(match r with | some v=>∃x,nx=.value x∧VR η' v x | none=>nx=.skip)
theorem dA {r:AV} {s:Sem Value} (h:∃y w' η',s.run P w=.ok y w'∧St P η σ w η' σ' w'∧VR η' r y):Ci P η σ w (some r) σ' (do pure (.value (← s))):=by
 obtain ⟨y,w',η',h1,h2,h3⟩:=h
 exact ⟨.value y,w',η',by simp only [Sem.run_bind,h1,Result.andThen_ok,Sem.run_pure],h2,y,rfl,h3⟩
theorem Bl {s:Sem Unit} (h:∃w' η',s.run P w=.ok () w'∧St P η σ w η' σ' w'):Ci P η σ w none σ' (do s;pure .skip):=by
 obtain ⟨w',η',h1,h2⟩:=h
 exact ⟨.skip,w',η',by simp only [Sem.run_bind,h1,Result.andThen_ok,Sem.run_pure],h2,rfl⟩
theorem fG {r:AV} {s:Sem Value} (h:SR P η σ w) (hs:∃y,s.run P w=.ok y w∧VR η r y):∃y w' η',s.run P w=.ok y w'∧St P η σ w η' σ w'∧VR η' r y:=by
 obtain ⟨y,h1,h2⟩:=hs
 exact ⟨y,w,η,h1,St.refl h,h2⟩
theorem gX {v:Option AV} {r:Option AV} (h:dh σ v=some (r,σ')):∃u,v=some u∧r=some u∧σ'=σ:=by
 simp only [dh,Option.map_eq_some_iff,Prod.mk.injEq] at h
 obtain ⟨u,h1,h2,h3⟩:=h
 exact ⟨u,h1,h2.symm,h3.symm⟩
theorem vw {v:Option (AV×ah)} {r:Option AV} (h:mQ v=some (r,σ')):∃u,v=some (u,σ')∧r=some u:=by
 simp only [mQ,Option.map_eq_some_iff,Prod.exists,Prod.mk.injEq] at h
 obtain ⟨u,s,h1,h2,h3⟩:=h
 subst h3
 exact ⟨u,h1,h2.symm⟩
theorem OU {v:Option ah} {r:Option AV} (h:BI v=some (r,σ')):v=some σ'∧r=none:=by
 simp only [BI,Option.map_eq_some_iff,Prod.mk.injEq] at h
 obtain ⟨s,h1,h2,h3⟩:=h
 subst h3
 exact ⟨h1,h2.symm⟩
theorem acK {c:Value} {t:Bool} (h:VR η (.b t) c):(asBool c).run P w=.ok t w:=by
 simp only [VR] at h;subst h;rfl
theorem adg (h:SR P η σ w) {ts:Array TypeId} {ty t:TypeId} {x v:AV} {u:Value} (ht:ts[0]? = some t) (hs:Kq P t x σ=some (v,σ')) (hu:VR η x u) :
 ∃y w' η',(Builtin.clear_ ts ty #[u]).run P w=.ok y w'∧St P η σ w η' σ' w'∧VR η' v y:=by
 have hun:∀η':Env,VR η' (.dG []) (.tuple #[]):=fun η'=>by simp only [VR];exact ⟨[],rfl,by simp [aj]⟩
 unfold Kq at hs
 split at hs
 ·next e hut=>
  cases hs
  simp only [VR] at hu;subst hu
  exact ⟨_,w,η,by simp only [Builtin.clear_,ht,List.getElem?_toArray,List.getElem?_cons_zero,Sem.run_bind,aT hut,Result.andThen_ok,Sem.run_pure],St.refl h,hun _⟩
 ·next e hut=>
  cases hs
  simp only [VR] at hu
  rcases hu with ⟨_,pa,rfl⟩ | ⟨bl,off,c,xs,sz,rfl,_⟩
  ·exact ⟨_,w,η,by cases pa<;>simp only [Builtin.clear_,ht,List.getElem?_toArray,List.getElem?_cons_zero,Sem.run_bind,aT hut,Result.andThen_ok,Sem.run_pure],St.refl h,hun _⟩
  ·exact ⟨_,w,η,by simp only [Builtin.clear_,ht,List.getElem?_toArray,List.getElem?_cons_zero,Sem.run_bind,aT hut,Result.andThen_ok,Sem.run_pure,List.length_nil],St.refl h,hun _⟩
 ·next e id off n cap hut=>
  simp only [VR] at hu
  obtain ⟨q,hq,_,rfl⟩:=hu
  split at hs
  ·next h0=>
   cases hs;subst h0
   exact ⟨_,w,η,by simp only [Builtin.clear_,ht,List.getElem?_toArray,List.getElem?_cons_zero,Sem.run_bind,aT hut,Result.andThen_ok,Sem.run_pure],St.refl h,hun _⟩
  ·next h0=>
   split at hs
   ·next z c et opn hz hg=>
    split at hs
    ·next hc=>
     simp only [Option.map_eq_some_iff] at hs
     obtain ⟨c',hr,e1⟩:=hs
     cases e1
     obtain ⟨zv,kF,hzv⟩:=xP hz
     have hzs:=EP (n:=n) (size:=z.length) (hzv η) rfl
     have hlen:=(hzv η).length
     have hone:(fZ n z).all AV.jr=true:=by
      rw [List.all_eq_true]
      intro a ha
      unfold fZ at ha
      simp only [List.mem_flatten,List.mem_replicate] at ha
      obtain ⟨l,⟨_,rfl⟩,ha⟩:=ha
      exact List.all_eq_true.1 hc.2 a ha
     obtain ⟨w',hrun,hst⟩:=J4 h hg hc.1 hq hr hzs hone
     refine ⟨_,w',η, ?_,hst,hun _⟩
     have hzc:(Builtin.zeroCells zv.cells n)=(Array.range (n * z.length)).map (zv.cells[· % zv.cells.size]!):=by
      unfold Builtin.zeroCells
      rw [hlen];simp
     obtain ⟨m,rfl⟩:∃m,n=m+1:=⟨n - 1,by omega⟩
     simp only [Builtin.clear_,ht,List.getElem?_toArray,List.getElem?_cons_zero,Sem.run_bind,aT hut,Result.andThen_ok,kF]
     rw [hzc,hrun]
     rfl
    ·cases hs
   ·cases hs
 ·next k e hut=>
  cases hs
  simp only [VR] at hu;subst hu
  exact ⟨_,w,η,by simp only [Builtin.clear_,ht,List.getElem?_toArray,List.getElem?_cons_zero,Sem.run_bind,aT hut,Result.andThen_ok,Sem.run_pure],St.refl h,hun _⟩
 ·next k e id hut=>
  split at hs
  ·next es hg=>
   split at hs
   ·next hl=>
    cases hs
    simp only [VR] at hu
    obtain ⟨q,hq,rfl⟩:=hu
    obtain ⟨q',hq',ms,clock,hb,hsz,_⟩:=h.obj _ _ hg rfl
    rw [hq] at hq';cases hq'
    refine ⟨.tuple #[],jo w q.bl (.map #[] clock),η, ?_,St.write h hg rfl hl hq vH (fun k hk=>vG hk) rfl rfl rfl ⟨#[],clock,tH hb,rfl,by simp⟩,hun _⟩
    simp only [Builtin.clear_,ht,List.getElem?_toArray,List.getElem?_cons_zero,Sem.run_bind,aT hut,Result.andThen_ok,getObj,Sem.run,hb,BM hb (fun _ _ _=>by simp),Sem.run_pure]
   ·cases hs
  ·cases hs
 ·cases hs
theorem acW (h:SR P η σ w) {b:Builtin} {ts:Array TypeId} {ty:TypeId} {cs:Array Bool} {args:List AV} {vs:List Value} {r:Option AV} (hs:xZ P b ts args σ=some (r,σ')) (hv:aj η args vs) :
 Ci P η σ w r σ' (builtin b ts ty cs ⟨vs⟩):=by
 unfold xZ at hs
 split at hs
 ·next x=>
  simp only [aj] at hv
  obtain ⟨u,_,rfl,hu,rfl⟩:=hv
  split at hs
  ·next t ht=>
   obtain ⟨v,h1,rfl,rfl⟩:=gX hs
   exact dA (fG h (Zx h ht h1 hu))
  ·cases hs
 ·next s x=>
  simp only [aj] at hv
  obtain ⟨u,_,rfl,hu,u',_,rfl,hu',rfl⟩:=hv
  obtain ⟨v,h1,rfl⟩:=vw hs
  exact dA (acJ h h1 hu hu')
 ·next s x=>
  simp only [aj] at hv
  obtain ⟨u,_,rfl,hu,u',_,rfl,hu',rfl⟩:=hv
  obtain ⟨v,h1,rfl⟩:=vw hs
  exact dA (aea h h1 hu hu')
 ·next x=>
  simp only [aj] at hv
  obtain ⟨u,_,rfl,hu,rfl⟩:=hv
  split at hs
  ·next t ht=>
   obtain ⟨v,h1,rfl⟩:=vw hs
   exact dA (adg h ht h1 hu)
  ·cases hs
 ·next x=>
  simp only [aj] at hv
  obtain ⟨u,_,rfl,hu,rfl⟩:=hv
  split at hs
  ·next t ht=>
   split at hs
   ·next e hun=>
    obtain ⟨v,h1,rfl,rfl⟩:=gX hs
    cases h1
    simp only [VR] at hu;subst hu
    exact dA (fG h ⟨.int .i64 0,by simp [Builtin.cap_,ht,aT hun,goInt],by simp [VR]⟩)
   ·next e id off n c hun=>
    obtain ⟨v,h1,rfl,rfl⟩:=gX hs
    cases h1
    simp only [VR] at hu
    obtain ⟨q,hq,_,rfl⟩:=hu
    exact dA (fG h ⟨.int .i64 c,by simp [Builtin.cap_,ht,aT hun,goInt],by simp [VR]⟩)
   ·cases hs
  ·cases hs
 ·simp only [aj] at hv
  obtain ⟨u,_,rfl,hu,rfl⟩:=hv
  obtain ⟨v,h1,rfl,rfl⟩:=gX hs
  cases h1
  simp only [VR] at hu;subst hu
  exact dA (fG h ⟨_,abB,by simp only [VR]⟩)
 ·next id off n cap=>
  split at hs
  ·cases hs
  ·next hc=>
   simp only [aj] at hv
   obtain ⟨u,_,rfl,hu,rfl⟩:=hv
   obtain ⟨v,h1,rfl,rfl⟩:=gX hs
   cases h1
   simp only [VR] at hu
   obtain ⟨q,hq,hle,rfl⟩:=hu
   refine dA (fG h ⟨_,abC ?_,by simp only [VR];exact ⟨q,hq,rfl⟩⟩)
   intro e
   rw [e] at hle
   have hn:n=0:=by omega
   subst hn
   cases cap with
   | none=>exact hc ⟨rfl,.inl rfl⟩
   | some c=>simp only [Option.getD_some] at e;subst e;exact hc ⟨rfl,.inr rfl⟩
 ·next x n=>
  simp only [aj] at hv
  obtain ⟨u,_,rfl,hu,u',_,rfl,hu',rfl⟩:=hv
  simp only [VR] at hu';subst hu'
  split at hs
  ·next t it hts=>
   have:=FB hts;subst this
   split at hs
   ·next h0=>
    subst h0
    split at hs
    ·obtain ⟨v,h1,rfl,rfl⟩:=gX hs
     cases h1
     simp only [VR] at hu;subst hu
     exact dA (fG h ⟨_,PN,by simp only [VR]⟩)
    ·obtain ⟨v,h1,rfl,rfl⟩:=gX hs
     cases h1
     simp only [VR] at hu
     obtain ⟨q,hq,rfl⟩:=hu
     exact dA (fG h ⟨_,PN,by simp only [VR]⟩)
    ·cases hs
   ·split at hs
    ·next id off=>
     split at hs
     ·next e c et opn hut hg=>
      split at hs
      ·next hc=>
       obtain ⟨rfl,c1,c2,c3,c4,c5⟩:=hc
       split at hs
       ·next r' hr=>
        split at hs
        ·next b hb=>
         cases hs
         simp only [VR] at hu
         obtain ⟨q,hq,rfl⟩:=hu
         obtain ⟨y,w',h1,h2,h3⟩:=acd (it:=it) (ty:=ty) h hut hg c1 c2 c3 c4 c5 hr hb hq
         exact dA ⟨y,w',η,h1,h2,h3⟩
        ·cases hs
       ·cases hs
      ·cases hs
     ·cases hs
    ·cases hs
  ·cases hs
 ·next x y=>
  simp only [aj] at hv
  obtain ⟨u,_,rfl,hu,u',_,rfl,hu',rfl⟩:=hv
  split at hs
  ·next a a' h1 h2=>
   obtain ⟨v,h3,rfl,rfl⟩:=gX hs
   simp only [Option.bind_eq_some_iff] at h3
   obtain ⟨z,hz,oP⟩:=h3
   rw [tC h1 hu,tC h2 hu']
   exact dA (fG h ⟨z,sZ hz w,uU _ _ _ oP⟩)
  ·cases hs
 ·next x y=>
  simp only [aj] at hv
  obtain ⟨u,_,rfl,hu,u',_,rfl,hu',rfl⟩:=hv
  split at hs
  ·next a a' h1 h2=>
   obtain ⟨v,h3,rfl,rfl⟩:=gX hs
   simp only [Option.bind_eq_some_iff] at h3
   obtain ⟨z,hz,oP⟩:=h3
   rw [tC h1 hu,tC h2 hu']
   exact dA (fG h ⟨z,sZ hz w,uU _ _ _ oP⟩)
  ·cases hs
 ·next x y z=>
  simp only [aj] at hv
  obtain ⟨u,_,rfl,hu,u',_,rfl,hu',u'',_,rfl,agt,rfl⟩:=hv
  split at hs
  ·next a a' a'' h1 h2 h4=>
   obtain ⟨v,h3,rfl,rfl⟩:=gX hs
   simp only [Option.bind_eq_some_iff] at h3
   obtain ⟨z,hz,oP⟩:=h3
   rw [tC h1 hu,tC h2 hu',tC h4 agt]
   exact dA (fG h ⟨z,sZ hz w,uU _ _ _ oP⟩)
  ·cases hs
 ·cases hs
end
end Go.aJ
namespace Go.aJ
noncomputable section
variable [aB]
set_option linter.unusedSectionVars false
set_option linter.unusedVariables false
set_option linter.unusedSimpArgs false
variable {P:Program} {η:Env} {σ σ':ah} {w:World}
theorem amO {pt it ty:TypeId} (p:Option Addr):(Builtin.unsafeString_ #[pt,it] ty #[.pointer p,.int .i64 0]).run P w=.ok (.string ⟨⟨[]⟩⟩) w:=PN
theorem alF (h:SR P η σ w) {b:Builtin} {ts:Array TypeId} {ty:TypeId} {cs:Array Bool} {args:List AV} {vs:List Value} {r:Option AV} (hs:zG P b ts args σ=some (r,σ')) (hv:aj η args vs) :
 Ci P η σ w r σ' (builtin b ts ty cs ⟨vs⟩):=by
 unfold zG at hs
 have mm:∀ (big:Bool) {x y:AV} {m n:Nat} {v:AV} {u u':Value},fQ x=some m→fQ y=some n→iW (.mm big m n)=some v→VR η x u→VR η y u'→∃k a b',u=.int k a∧u'=.int k b'∧VR η v (.int k (if big then (if a < b' then b' else a) else (if b' < a then b' else a))):=by
  intro big x y m n v u u' hm hn hmk hu hu'
  obtain ⟨g1,a1,a2,a3⟩:=jm hm hu
  obtain ⟨g2,b1,b2,b3⟩:=jm hn hu'
  obtain ⟨_,g,_,c2,c3⟩:=jl (η:=η) hmk
  simp only [Nd.den,a1,b1] at c2
  split at c2
  ·next k i k' j e1 e2=>
   cases e1;cases e2
   split at c2
   ·next hk=>
    subst hk;cases c2
    simp only [GR] at a3 b3
    exact ⟨k,i,j,a3,b3,c3 _ rfl (by simp only [GR])⟩
   ·cases c2
  ·cases c2
 split at hs
 ·next x=>
  simp only [aj] at hv
  obtain ⟨u,_,rfl,hu,rfl⟩:=hv
  split at hs
  ·next t ht=>
   obtain ⟨v,h1,e⟩:=Option.map_eq_some_iff.1 hs
   cases e
   exact dA (fG h (alK ht h1 hu))
  ·cases hs
 ·next s x=>
  simp only [aj] at hv
  obtain ⟨u,_,rfl,hu,u',_,rfl,hu',rfl⟩:=hv
  obtain ⟨v,h1,e⟩:=Option.map_eq_some_iff.1 hs
  cases e
  exact dA (alD h h1 hu hu')
 ·next x y=>
  simp only [aj] at hv
  obtain ⟨u,_,rfl,hu,u',_,rfl,hu',rfl⟩:=hv
  split at hs
  ·next m n hm hn=>
   obtain ⟨v,h1,e⟩:=Option.map_eq_some_iff.1 hs
   cases e
   obtain ⟨k,a,b',rfl,rfl,h2⟩:=mm false hm hn h1 hu hu'
   refine dA (fG h ⟨_, ?_,h2⟩)
   simp [Builtin.min_,Builtin.min2]
  ·cases hs
 ·next x y=>
  simp only [aj] at hv
  obtain ⟨u,_,rfl,hu,u',_,rfl,hu',rfl⟩:=hv
  split at hs
  ·next m n hm hn=>
   obtain ⟨v,h1,e⟩:=Option.map_eq_some_iff.1 hs
   cases e
   obtain ⟨k,a,b',rfl,rfl,h2⟩:=mm true hm hn h1 hu hu'
   refine dA (fG h ⟨_, ?_,h2⟩)
   simp [Builtin.max_,Builtin.max2]
  ·cases hs
 ·next id n=>
  split at hs
  ·next m et hg=>
   split at hs
   ·next hsl=>
    cases hs
    simp only [aj] at hv
    obtain ⟨u,_,rfl,hu,rfl⟩:=hv
    simp only [VR] at hu
    obtain ⟨xs,k1,hu⟩:=hu
    rcases hu with ⟨q,hq,hle,rfl⟩ | ⟨hgh,rfl,rfl⟩
    ·have hor:=h.at hg hq
     have hpos:=hor.JW
     obtain ⟨_,_,_,_,hes,_⟩:=hor.Bj
     have hcap:q.sz / q.es≠0:=by
      have:=Nat.div_pos hpos hes
      omega
     exact dA (fG h ⟨_,abC hcap,by simp only [VR];exact ⟨xs,_,k1,rfl,fun _=>⟨q,hq,rfl⟩⟩⟩)
    ·exact dA (fG h ⟨_,abB,by simp only [VR];exact ⟨[],_,k1,rfl,fun hn=>absurd rfl hn⟩⟩)
   ·cases hs
  ·cases hs
 ·next id n k=>
  split at hs
  ·next t it hts=>
   have:=FB hts;subst this
   split at hs
   ·next e m et f hut hg=>
    split at hs
    ·next hc=>
     obtain ⟨rfl,c1,c2,c3⟩:=hc
     split at hs
     ·next n' hk=>
      split at hs
      ·next hsl=>
       rw [Bool.and_eq_true] at hsl
       obtain ⟨v,hm,e⟩:=Option.map_eq_some_iff.1 hs
       cases e
       simp only [aj] at hv
       obtain ⟨u,_,rfl,hu,u',_,rfl,hu',rfl⟩:=hv
       simp only [VR] at hu hu'
       obtain ⟨ys,p,k1,rfl,hp⟩:=hu
       obtain ⟨gk,j1,_,j3⟩:=hu'
       obtain ⟨gk',j4,j5⟩:=aB.lJ k _ hk (by simp)
       rw [j1] at j4;cases j4
       obtain ⟨nn,gs,b1,b2,b3⟩:=jl (η:=η) hm
       simp only [Nd.den] at b2
       split at b2
       ·next xs hv=>
        split at b2
        ·next h48=>
         obtain ⟨b,hb,rfl⟩:=Option.map_eq_some_iff.1 b2
         simp only [Nd.den] at j5
         split at j5
         ·next zs hz=>
          cases j5
          have hl1:=qB 100 hsl.1 hv k1
          have hl2:=qB 100 hsl.2 hv hz
          simp only [GR] at j3
          subst j3
          have fin:∀ {η':Env} (y:Value),VR η' (.s b) y→VR η' v y:=by
           intro η' y hy
           obtain ⟨_,g2,_,d2,d3⟩:=jl (η:=η') hm
           simp only [Nd.den,hv,if_pos h48,hb,Option.map_some,Option.some.injEq] at d2
           subst d2
           exact d3 y rfl ((jc _ _).2 hy)
          by_cases hx0:xs=[]
          ·subst hx0
           have hz0:zs.length=0:=hl2.symm
           have hb0:b=[]:=by simpa [lF] using hb.symm
           subst hb0
           rw [hz0]
           refine dA ⟨.string ⟨⟨[]⟩⟩,w,η,amO p,(St.refl h).G5 id,fin _ (by simp only [VR])⟩
          ·have hy0:ys≠[]:=by intro e;rw [e] at hl1;exact hx0 (List.eq_nil_of_length_eq_zero hl1)
           obtain ⟨q,hq,rfl⟩:=hp hy0
           obtain ⟨xs',i1,i2,i3,i4,i5,i6,i7,hS⟩:=BU h hg hq
           rw [hv] at i1;cases i1
           have hcg:aY xs=bW xs:=by unfold aY;rw [FM hb]
           have hpos:0 < xs.length:=List.length_pos_iff.2 hx0
           have htk:takeN (aY xs) 0 ((xs.length:Nat):Int).toNat=some (bW xs):=by
            rw [hcg];unfold takeN
            rw [List.drop_zero,List.take_of_length_le (by rw [jd];simp),if_pos (by rw [jd];simp)]
           have hfit:xs.length < 2 ^ 62:=by omega
           obtain ⟨y,w',r1,r2,r3⟩:=acd (it:=it) (ty:=ty) (off:=0) (n:=xs.length) hS hut vK c1 c2 (by omega) (by omega) c3 htk (CZ hb) hq
           rw [← hl2]
           refine dA ⟨y,w',η,by simpa using r1, ?_,fin _ r3⟩
           refine ((EI hg r2).G5 id).sub (fun k o hk=>?_) (Nat.le_refl _) rfl
           rw [ah.qw] at hk ⊢
           split at hk
           ·cases hk
           ·next e1=>
            rw [if_neg e1]
            unfold iJ
            rw [ah.get_put,if_neg e1,ah.get_put,if_neg e1];exact hk
         ·cases j5
        ·cases b2
       ·cases b2
      ·cases hs
     ·cases hs
    ·cases hs
   ·cases hs
  ·cases hs
 ·cases hs
end
end Go.aJ
namespace Go.aJ
noncomputable section
variable [aB]
set_option linter.unusedSectionVars false
set_option linter.unusedVariables false
set_option linter.unusedSimpArgs false
variable {P:Program} {η:Env} {σ σ':ah} {w:World}
def iZ (P:Program) (f:FuncId) (args:Array Value) (w:World) (R:Value→World→Prop):Prop:=
 (∃v w',(callFunc f args).run P w=.ok (.value v) w'∧R v w')∨
 ((callFunc f args).run P w=.ok (.enter f args) w∧Calls P f args w fun e w'=>∃v,e=.returned v∧R v w')
def l7 (P:Program) (call:Caller):Prop:=∀f args σ r σ',call f args σ=some (r,σ')→∀η w vs,SR P η σ w→aj η args vs→
 iZ P f ⟨vs⟩ w fun v w'=>∃η',St P η σ w η' σ' w'∧VR η' r v
def wL:Op→Bool
 | .call { callee:=.value _,.. }=>true
 | .call { callee:=.invoke _ _,.. }=>true
 | _=>false
theorem ahe {f:FuncId} {first caps:List AV} {us vs:List Value} (h1:aj η first us) (h2:aj η caps vs):∃y,(Instr.makeFunc (.func f) ⟨us⟩ ⟨vs⟩).run P w=.ok y w∧VR η (.fn f first caps) y:=
 ⟨_,rfl,by simp only [VR];exact ⟨us,vs,rfl,h1,h2⟩⟩
theorem Bo {ev:Operand→Option AV} {ρ:Operand→Value} (hρ:∀x a,ev x=some a→VR η a (ρ x)) {o:Option Operand} {r:Option AV} (h:y7 ev o=some r):iP η r (o.map ρ):=by
 cases o with
 | none=>simp [y7] at h;subst h;trivial
 | some x=>
   simp only [y7,Option.map_eq_some_iff] at h
   obtain ⟨a,ha,rfl⟩:=h
   exact hρ _ _ ha
theorem yV {α β:Type} (a:Array α) (f:α→β):a.map f=⟨a.toList.map f⟩:=by
 apply Array.ext';simp
set_option maxHeartbeats 1000000 in
theorem aar (h:SR P η σ w) {call:Caller} {o:Oper} {ev:Operand→Option AV} {ρ:Operand→Value} (hρ:∀x a,ev x=some a→VR η a (ρ x)) (hc:wL o.op=false) {r:Option AV}
 (hs:nR P call o ev σ=some (r,σ')):Ci P η σ w r σ' (execOp ρ o):=by
 unfold nR at hs
 unfold execOp
 split at hs
 ·next x he=>rw [he];obtain ⟨v,h1,rfl,rfl⟩:=gX hs;exact ⟨_,w,η,rfl,St.refl h,_,rfl,hρ _ _ h1⟩
 ·next x he=>rw [he];obtain ⟨v,h1,rfl,rfl⟩:=gX hs;exact ⟨_,w,η,rfl,St.refl h,_,rfl,hρ _ _ h1⟩
 ·next c a b he=>
  rw [he]
  split at hs
  ·next t hcv=>
   obtain ⟨vd,hvd,hcv⟩:=Am hcv
   obtain ⟨v,h1,rfl,rfl⟩:=gX hs
   refine ⟨.value (if t then ρ a else ρ b),w,η, ?_,St.refl h,_,rfl, ?_⟩
   ·simp only [Sem.run_bind,acK (hcv _ _ (hρ _ _ hvd)),Result.andThen_ok,Sem.run_pure]
   ·cases t
    ·exact hρ _ _ h1
    ·exact hρ _ _ h1
  ·cases hs
 ·next t he=>
  rw [he]
  simp only [Option.map_eq_some_iff] at hs
  obtain ⟨z,hz,e⟩:=hs
  cases e
  exact dA (acG h hz)
 ·next t x he=>
  rw [he]
  simp only [Option.map_eq_some_iff] at hs
  obtain ⟨z,hz,e⟩:=hs
  cases e
  exact dA (Rl h (hρ _ _ hz))
 ·next t parts he=>
  rw [he]
  split at hs
  ·next ps hps=>
   obtain ⟨v,h1,rfl,rfl⟩:=gX hs
   exact dA (fG h (acV h1 (by rw [yV];exact Ll hρ hps)))
  ·cases hs
 ·next t len parts he=>
  rw [he]
  split at hs
  ·next e size bytes z ps hi hps=>
   split at hs
   ·cases hs
   ·next hlen=>
    split at hs
    ·next cs hf=>
     have e1:=Option.some.inj hs
     refine ag3 (t:=t) (qs:=parts.map fun (i,x)=>(i,ρ x)) (fun v τ e2 hr=>?_) h hi hlen hf (by rw [yV];exact Ll hρ hps)
     rw [e2] at e1
     cases e1
     exact dA hr
    ·cases hs
  ·cases hs
 ·next t a he=>
  rw [he]
  split at hs
  ·next av hav=>
   obtain ⟨v,h1,rfl,rfl⟩:=gX hs
   rcases nX h1 with h1 | h1
   ·exact dA (fG h (wO h h1 (hρ _ _ hav)))
   ·exact dA (fG h (alL h h1 (hρ _ _ hav)))
  ·cases hs
 ·next t a x he=>
  rw [he]
  split at hs
  ·next av xv hav hxv=>
   obtain ⟨h1,rfl⟩:=OU hs
   rcases nX h1 with h1 | h1
   ·obtain ⟨w',h2,h3⟩:=Jw h h1 (hρ _ _ hav) (hρ _ _ hxv)
    exact Bl ⟨w',η,h2,h3⟩
   ·obtain ⟨w',h2,h3⟩:=alP h h1 (hρ _ _ hav) (hρ _ _ hxv)
    exact Bl ⟨w',η,h2,h3⟩
  ·cases hs
 ·next x he=>
  rw [he]
  split at hs
  ·next id off hxv=>
   obtain ⟨v,h1,rfl,rfl⟩:=gX hs
   cases h1
   have hv:=hρ _ _ hxv
   simp only [VR] at hv
   obtain ⟨q,hq,hv⟩:=hv
   exact ⟨.value (ρ x),w,η,by simp only [hv];rfl,St.refl h,_,rfl,hρ _ _ hxv⟩
  ·next b off hxv=>
   obtain ⟨v,h1,rfl,rfl⟩:=gX hs
   cases h1
   have hv:=hρ _ _ hxv
   simp only [VR] at hv
   obtain ⟨bl,base,cs,elem,fr,y,_,_,hv,_⟩:=hv
   exact ⟨.value (ρ x),w,η,by simp only [hv];rfl,St.refl h,_,rfl,hρ _ _ hxv⟩
  ·next m off hxv=>
   obtain ⟨v,h1,rfl,rfl⟩:=gX hs
   cases h1
   have hv:=hρ _ _ hxv
   simp only [VR] at hv
   obtain ⟨g,bl,base,cs,elem,fr,y,_,_,_,hv,_⟩:=hv
   exact ⟨.value (ρ x),w,η,by simp only [hv];rfl,St.refl h,_,rfl,hρ _ _ hxv⟩
  ·next id m off hxv=>
   obtain ⟨v,h1,rfl,rfl⟩:=gX hs
   cases h1
   have hv:=hρ _ _ hxv
   simp only [VR] at hv
   obtain ⟨q,kk,i,_,_,hv⟩:=hv
   exact ⟨.value (ρ x),w,η,by simp only [hv];rfl,St.refl h,_,rfl,hρ _ _ hxv⟩
  ·next f fs cs hxv=>
   obtain ⟨v,h1,rfl,rfl⟩:=gX hs
   cases h1
   have hv:=hρ _ _ hxv
   simp only [VR] at hv
   obtain ⟨us,vs,hv,_⟩:=hv
   exact ⟨.value (ρ x),w,η,by simp only [hv];rfl,St.refl h,_,rfl,hρ _ _ hxv⟩
  ·cases hs
 ·next op t x y _ he=>
  rw [he]
  split at hs
  ·next a b ha hb=>
   obtain ⟨v,h1,rfl,rfl⟩:=gX hs
   rcases nX h1 with h1 | h1
   ·exact dA (fG h (acR h h1 (hρ _ _ ha) (hρ _ _ hb)))
   ·exact dA (fG h (alE h1 (hρ _ _ ha) (hρ _ _ hb)))
  ·cases hs
 ·next op t x he=>
  rw [he]
  split at hs
  ·next a ha=>
   split at hs
   ·next u hu=>
    obtain ⟨v,h1,rfl,rfl⟩:=gX hs
    simp only [Option.bind_eq_some_iff] at h1
    obtain ⟨z,hz,oP⟩:=h1
    have hrun:(Op.unary op (ρ x)).run P w=.ok z w:=by rw [tC hu (hρ _ _ ha)];exact sZ hz w
    exact dA (fG h ⟨z,hrun,uU _ _ _ oP⟩)
   ·obtain ⟨v,h1,rfl,rfl⟩:=gX hs
    exact dA (fG h (alQ h1 (hρ _ _ ha)))
  ·cases hs
 ·next src dst x he=>
  rw [he]
  split at hs
  ·next a ha=>
   obtain ⟨v,h1,rfl⟩:=vw hs
   rcases nX h1 with h1 | h1
   ·exact dA (Dq h h1 (hρ _ _ ha))
   ·exact dA (alG h h1 (hρ _ _ ha))
  ·cases hs
 ·next t x he=>
  rw [he]
  split at hs
  ·next a ha hi=>
   obtain ⟨v,h1,rfl,rfl⟩:=gX hs
   cases h1
   exact dA (fG h (ahf hi (hρ _ _ ha)))
  ·cases hs
 ·next f first caps he=>
  rw [he]
  split at hs
  ·next fs cs hfs hcs=>
   obtain ⟨v,h1,rfl,rfl⟩:=gX hs
   cases h1
   simp only [yV]
   exact dA (fG h (ahe (Ar hρ hfs) (Ar hρ hcs)))
  ·cases hs
 ·next t r' he=>
  rw [he]
  split at hs
  ·cases hs
   exact dA (ZY h (.inl rfl))
  ·next x=>
   split at hs
   ·next a kt et ha hu=>
    split at hs
    ·next hm=>
     cases hs
     obtain ⟨k,n,hk⟩:=ahi hm (hρ _ _ ha)
     exact dA (ZY h (.inr ⟨k,n,kt,et,by simp [hk],hu⟩))
    ·cases hs
   ·cases hs
 ·next t l c he=>
  rw [he]
  split at hs
  ·next a b ha hb=>
   obtain ⟨v,h1,rfl⟩:=vw hs
   rcases nX h1 with h1 | h1
   ·exact dA (ahg h h1 (hρ _ _ ha) (hρ _ _ hb))
   ·exact dA (alN h h1 (hρ _ _ ha) (hρ _ _ hb))
  ·cases hs
 ·next t x lo hi he=>
  rw [he]
  split at hs
  ·next a lo' hi' ha hlo hhi=>
   rcases nX hs with hs | hs
   ·obtain ⟨v,h1,rfl,rfl⟩:=gX hs
    rcases nX h1 with h1 | h1
    ·exact dA (fG h (Jm h h1 (hρ _ _ ha) (Bo hρ hlo) (Bo hρ hhi)))
    ·exact dA (fG h (abP h h1 (hρ _ _ ha) (Bo hρ hlo) (Bo hρ hhi)))
   ·obtain ⟨v,h1,rfl⟩:=vw hs
    exact dA (alO h h1 (hρ _ _ ha) (Bo hρ hlo) (Bo hρ hhi))
  ·cases hs
 ·next t x f he=>
  rw [he]
  split at hs
  ·next a ha=>
   obtain ⟨v,h1,rfl,rfl⟩:=gX hs
   rcases nX h1 with h1 | h1
   ·exact dA (fG h (ae9 h1 (hρ _ _ ha)))
   ·exact dA (fG h (alH h1 (hρ _ _ ha)))
  ·cases hs
 ·next t x f he=>
  rw [he]
  split at hs
  ·next a ha=>
   obtain ⟨v,h1,rfl,rfl⟩:=gX hs
   exact dA (fG h (afa h1 (hρ _ _ ha)))
  ·cases hs
 ·next t x ix he=>
  rw [he]
  split at hs
  ·next a k ha hk=>
   obtain ⟨v,h1,rfl,rfl⟩:=gX hs
   rcases nX h1 with h1 | h1
   ·exact dA (fG h (MV h1 (hρ _ _ ha) (hρ _ _ hk)))
   ·exact dA (fG h (alI h h1 (hρ _ _ ha) (hρ _ _ hk)))
  ·cases hs
 ·next t x ix he=>
  rw [he]
  split at hs
  ·next a k ha hk=>
   obtain ⟨v,h1,rfl,rfl⟩:=gX hs
   rcases nX h1 with h1 | h1
   ·exact dA (fG h (Zk h1 (hρ _ _ ha) (hρ _ _ hk)))
   ·exact dA (fG h (alJ h1 (hρ _ _ ha) (hρ _ _ hk)))
  ·cases hs
 ·next t m k ok he=>
  rw [he]
  split at hs
  ·next a b ha hb=>
   obtain ⟨v,h1,rfl,rfl⟩:=gX hs
   rcases nX h1 with h1 | h1
   ·exact dA (fG h (ag4 h h1 (hρ _ _ ha) (hρ _ _ hb)))
   ·exact dA (fG h (alM h h1 (hρ _ _ ha) (hρ _ _ hb)))
  ·cases hs
 ·next t m k x he=>
  rw [he]
  split at hs
  ·next a b c ha hb hc'=>
   obtain ⟨h1,rfl⟩:=OU hs
   rcases nX h1 with h1 | h1
   ·obtain ⟨w',h2,h3⟩:=Z5 h h1 (hρ _ _ ha) (hρ _ _ hb) (hρ _ _ hc')
    exact Bl ⟨w',η,h2,h3⟩
   ·obtain ⟨w',h2,h3⟩:=abO h h1 (hρ _ _ ha) (hρ _ _ hb) (hρ _ _ hc')
    exact Bl ⟨w',η,h2,h3⟩
  ·cases hs
 ·next t m k x he=>
  rw [he]
  split at hs
  ·next a b c ha hb hc'=>
   obtain ⟨h1,rfl⟩:=OU hs
   rcases nX h1 with h1 | h1
   ·obtain ⟨w',h2,h3⟩:=Z5 h h1 (hρ _ _ ha) (hρ _ _ hb) (hρ _ _ hc')
    exact Bl ⟨w',η,h2,h3⟩
   ·obtain ⟨w',h2,h3⟩:=abO h h1 (hρ _ _ ha) (hρ _ _ hb) (hρ _ _ hc')
    exact Bl ⟨w',η,h2,h3⟩
  ·cases hs
 ·next t x he=>
  rw [he]
  split at hs
  ·next s hu hx=>
   cases hs
   have hv:=hρ _ _ hx
   simp only [VR] at hv
   simp only [hv]
   exact dA (ajf h hu)
  ·next k e hu hx=>
   cases hs
   have hv:=hρ _ _ hx
   simp only [VR] at hv
   simp only [hv]
   exact dA (ajd h hu)
  ·next k e id hu hx=>
   split at hs
   ·next es hg=>
    cases hs
    exact dA (aje h hu hg (hρ _ _ hx))
   ·cases hs
  ·cases hs
 ·next it he=>
  rw [he]
  split at hs
  ·next a ha=>
   obtain ⟨v,h1,rfl⟩:=vw hs
   obtain ⟨y,w',h2,h3,h4⟩:=ahV (ty:=o.type) h h1 (hρ _ _ ha)
   exact dA ⟨y,w',η,h2,h3,h4⟩
  ·cases hs
 ·next it he=>
  rw [he]
  have hov:VR η (.dG [.b false]) (.tuple #[.bool false]):=by simp only [VR];exact ⟨[_],rfl,aj.cons (by simp only [VR]) (by simp [aj])⟩
  split at hs
  ·next id ha=>
   split at hs
   ·next hg=>
    cases hs
    exact dA (fG h ⟨_,ahT (ty:=o.type) h hg (hρ _ _ ha),hov⟩)
   ·next m hg=>
    split at hs
    ·next hm=>
     cases hs
     exact dA (fG h ⟨_,ahU (ty:=o.type) h hg hm (hρ _ _ ha),hov⟩)
    ·cases hs
   ·cases hs
  ·cases hs
 ·next x xt t ok he=>
  rw [he]
  split at hs
  ·next a ha=>
   obtain ⟨v,h1,rfl,rfl⟩:=gX hs
   exact dA (fG h (amj h1 (hρ _ _ ha)))
  ·cases hs
 ·next x k he=>
  rw [he]
  split at hs
  ·next l ha=>
   obtain ⟨v,h1,rfl,rfl⟩:=gX hs
   exact dA (fG h (aex h1 (hρ _ _ ha)))
  ·cases hs
 ·next c he=>
  rw [he]
  split at hs
  ·next args hargs=>
   split at hs
   ·next b hb=>
    have hv:=Ar hρ hargs
    have hs:xZ P b c.argTypes args σ=some (r,σ')∨zG P b c.argTypes args σ=some (r,σ'):=by
     cases hsf:Pn b args with
     | true=>rw [hsf,cond_true] at hs;exact (nX hs).symm
     | false=>rw [hsf,cond_false] at hs;exact nX hs
    rcases hs with hs | hs
    ·have hres:=acW (cs:=c.args.map fun | .const _=>true | _=>false) (ty:=o.type) h hs hv
     simp only [resolve,hb,yV,pure_bind,invoke]
     rw [yV] at hres
     exact hres
    ·have hres:=alF (cs:=c.args.map fun | .const _=>true | _=>false) (ty:=o.type) h hs hv
     simp only [resolve,hb,yV,pure_bind,invoke]
     rw [yV] at hres
     exact hres
   ·next f hf=>
    rw [he] at hc
    exfalso
    obtain ⟨callee,args,at'⟩:=c
    simp only at hf
    subst hf
    simp [wL] at hc
   ·next f name hf=>
    rw [he] at hc
    exfalso
    obtain ⟨callee,args,at'⟩:=c
    simp only at hf
    subst hf
    simp [wL] at hc
  ·cases hs
 ·cases hs
end
end Go.aJ
namespace Go.aJ
noncomputable section
variable [aB]
set_option linter.unusedSectionVars false
set_option linter.unusedVariables false
set_option linter.unusedSimpArgs false
variable {P:Program} {η:Env} {σ σ':ah} {w:World}
theorem Ve (r:Value) (l:List Value):(#[r]++(⟨l⟩:Array Value))=⟨r::l⟩:=by apply Array.ext';simp
theorem agI (name:String) (r:Value) (l:List Value):invoke (.fn (.method name) #[]) (#[r]++(⟨l⟩:Array Value))=callMethod r name ⟨l⟩:=by
 rw [Ve]
 have e1:(⟨r::l⟩:Array Value)[0]? = some r:=by simp
 have e2:(⟨r::l⟩:Array Value).extract 1 (⟨r::l⟩:Array Value).size=⟨l⟩:=by apply Array.ext';simp
 have:invoke (.fn (.method name) #[]) (⟨r::l⟩:Array Value)=(do
  let some recv:=(⟨r::l⟩:Array Value)[0]? | stuck "call: a method without a receiver"
  callMethod recv name ((⟨r::l⟩:Array Value).extract 1 (⟨r::l⟩:Array Value).size)):=rfl
 rw [this,e1,e2]
theorem ahk (h:SR P η σ w) {name:String} {a rv:AV} {f:FuncId} {x:Value} (hs:Fa P name σ a=some (f,rv)) (hx:VR η a x) (args:Array Value) :
 ∃y,(callMethod x name args).run P w=(callFunc f (#[y]++args)).run P w∧VR η rv y:=by
 unfold Fa at hs
 split at hs
 ·next t v=>
  simp only [VR] at hx
  obtain ⟨xv,rfl,hv⟩:=hx
  split at hs
  ·next i d hi hd=>
   split at hs
   ·next m hm=>
    split at hs
    ·next f' ptr hp hf=>
     have MF:∀y,(receiverAt t (.val xv) ptr (some ((name.splitOn ".").getLastD name))).run P w=.ok y w→
      (callMethod (.iface t xv) name args).run P w=(callFunc f' (#[y]++args)).run P w:=by
      intro y hr
      have hpe:m.path.isEmpty=true:=by simpa using hp
      have:∀n:Nat,(method (n+1) t xv name).run P w=.ok (f',y) w:=by
       intro n
       simp only [method,Sem.run_bind,xO hi,Result.andThen_ok,hm,hp,follow,Sem.run_pure,hf,hpe,if_true,hr]
      simp only [callMethod,Sem.run_bind,program,Sem.run,Result.andThen_ok]
      rw [show P.types.size+Made.depth=(P.types.size+Made.depth - 1)+1 by simp [Made.depth],this]
      rfl
     split at hs
     ·next e=>
      cases hs
      exact ⟨xv,MF _ (by simp only [receiverAt,Sem.run_bind,aT hd,Result.andThen_ok,Go.Place.get,Sem.run_pure]),hv⟩
     ·next e=>
      split at hs
      ·next id off=>
       simp only [Option.map_eq_some_iff,Prod.mk.injEq] at hs
       obtain ⟨z,hz,rfl,rfl⟩:=hs
       obtain ⟨y,hy,nT⟩:=wO h hz hv
       simp only [VR] at hv
       obtain ⟨q,hq,rfl⟩:=hv
       refine ⟨y,MF _ ?_,nT⟩
       have hy':(loadVar e ⟨q.bl,q.ba+off,none⟩).run P w=.ok y w:=by simpa [Instr.loadAt,Instr.sureAddr] using hy
       have hwrap:∀nm:String,(Builtin.ssaWrapNilChk_ #[t] t #[.pointer (some ⟨q.bl,q.ba+off,none⟩),strVal "", strVal nm]).run P w=.ok (.pointer (some ⟨q.bl,q.ba+off,none⟩)) w:=fun _=>rfl
       have has:(asAddr (.pointer (some ⟨q.bl,q.ba+off,none⟩))).run P w=.ok ⟨q.bl,q.ba+off,none⟩ w:=rfl
       simp only [receiverAt,Sem.run_bind,aT hd,Result.andThen_ok,Go.Place.get,Sem.run_pure,hwrap,has,hy']
      ·cases hs
     ·cases hs
     ·next h1 h2 h3=>
      cases hs
      refine ⟨xv,MF _ ?_,hv⟩
      simp only [receiverAt,Sem.run_bind,aT hd,Result.andThen_ok]
      cases d<;>simp only [Go.Place.get,Sem.run_pure]
      all_goals simp_all
    ·cases hs
   ·cases hs
  ·cases hs
 ·cases hs
theorem Ub (h:SR P η σ w) {call:Caller} (hcall:l7 P call) {o:Oper} {a:aW} {A:Act} (ht:TR P η a A) (hc:wL o.op=true) {r:Option AV} {K:Act→World→Prop} {Q:Exit→Act→World→Prop}
 (hs:nR P call o a.eval σ=some (r,σ')) (hK:∀v x η' w',r=some v→St P η σ w η' σ' w'→VR η' v x→K (A.put o.dst x) w'):o.wp P A w K Q:=by
 have hρ:∀x v,a.eval x=some v→VR η v (A.eval x):=fun x v hv=>Dz h ht x v hv
 unfold nR at hs
 cases hop:o.op with
 | call c=>
   rw [hop] at hc hs
   simp only at hs
   split at hs
   ·next args hargs=>
    obtain ⟨callee,yB,at'⟩:=c
    cases callee with
    | builtin b=>simp [wL] at hc
    | invoke rc name=>
      simp only at hs
      split at hs
      ·next f rv hf=>
       simp only [Option.bind_eq_some_iff] at hf
       obtain ⟨iv,hiv,hf⟩:=hf
       obtain ⟨u,h1,rfl⟩:=vw hs
       have hav:=Ar hρ hargs
       obtain ⟨y,hm,hy⟩:=ahk h hf (hρ _ _ hiv) (⟨yB.toList.map A.eval⟩)
       have hcn:=hcall _ _ _ _ _ h1 η w (y::yB.toList.map A.eval) h (aj.cons hy hav)
       have MB:(execOp A.eval o).run P w=(callFunc f ⟨y::yB.toList.map A.eval⟩).run P w:=by
        unfold execOp
        rw [hop]
        have e0:yB.map A.eval=⟨yB.toList.map A.eval⟩:=by apply Array.ext';simp
        simp only [resolve,pure_bind,e0]
        rw [agI,hm,Ve]
       unfold Oper.wp
       rw [MB]
       rcases hcn with ⟨v,w',hrun,η',hst,hv⟩ | ⟨hrun,Me⟩
       ·rw [hrun]
        exact hK u v η' w' rfl hst hv
       ·rw [hrun]
        refine Calls.mono Me ?_
        rintro e w' ⟨v,rfl,η',hst,hv⟩
        exact hK u v η' w' rfl hst hv
      ·cases hs
    | value f=>
      simp only at hs
      split at hs
      ·next fn fi caps hf=>
       obtain ⟨u,h1,rfl⟩:=vw hs
       have hfv:=hρ _ _ hf
       simp only [VR] at hfv
       obtain ⟨us,vs,hfe,hfi,af0⟩:=hfv
       have hav:=Ar hρ hargs
       have hcn:=hcall _ _ _ _ _ h1 η w (us++yB.toList.map A.eval++vs) h ((hfi.append hav).append af0)
       have MB:(execOp A.eval o).run P w=(callFunc fn ⟨us++yB.toList.map A.eval++vs⟩).run P w:=by
        unfold execOp
        rw [hop]
        simp only [resolve,hfe,Deferred.ofValue,pure_bind,invoke]
        congr 2
        apply Array.ext'
        simp
       unfold Oper.wp
       rw [MB]
       rcases hcn with ⟨v,w',hrun,η',hst,hv⟩ | ⟨hrun,Me⟩
       ·rw [hrun]
        exact hK u v η' w' rfl hst hv
       ·rw [hrun]
        refine Calls.mono Me ?_
        rintro e w' ⟨v,rfl,η',hst,hv⟩
        exact hK u v η' w' rfl hst hv
      ·cases hs
   ·cases hs
 | _=>rw [hop] at hc;simp [wL] at hc
theorem am9 {ops:Array Oper} {j:Nat} {o:Oper} {d:Nat} {a:aW} {A:Act} {x:Bool} (ht:TR P η a A) (ho:ops[j]? = some o) (hd:o.dst=some d) (hx:dB (a.t.get d)=some (.b x)):yielded ops A.tmps j=some x:=by
 obtain ⟨vd,hx,himp⟩:=Am hx
 obtain ⟨y,hy,hv⟩:=ht.slot d _ hx
 have hv:=himp _ _ hv
 simp only [VR] at hv;subst hv
 simp only [yielded,ho,Option.bind_some,hd,hy]
theorem xX {o:Oper} {ops:Array Oper} {a:aW} {A:Act} {b:Bool} (ht:TR P η a A) (hw:zK o ops a=some b):Region.wanted o (yielded ops A.tmps)=b:=by
 unfold zK at hw
 unfold Region.wanted
 split at hw
 ·next hg=>rw [hg];cases hw;rfl
 ·next j want hg=>
  rw [hg]
  split at hw
  ·next q hq=>
   split at hw
   ·next d hd=>
    split at hw
    ·next x hx=>
     cases hw
     simp only [am9 ht hq hd hx]
     cases x<;>cases want<;>rfl
    ·next l hx=>
     cases hw
     obtain ⟨vd,hx,himp⟩:=Am hx
     obtain ⟨y,hy,hv⟩:=ht.slot d _ hx
     have hv:=himp _ _ hv
     simp only [VR] at hv
     obtain ⟨vs,rfl,_⟩:=hv
     simp only [yielded,hq,Option.bind_some,hd,hy]
     cases want<;>rfl
    ·cases hw
   ·cases hw
  ·cases hw
theorem step_ok (h:SR P η σ w) {call:Caller} (hcall:l7 P call) {ops:Array Oper} {i:Nat} {a a':aW} {A:Act} (ht:TR P η a A) {K:Act→World→Prop} {Q:Exit→Act→World→Prop}
 (hs:Ku P call ops i a σ=some (a',σ')) (hK:∀η' A' w',St P η σ w η' σ' w'→TR P η' a' A'→K A' w'):wpOp P ops Q i K A w:=by
 unfold Ku at hs
 unfold wpOp
 split at hs
 ·cases hs
 ·next o ho=>
  rw [ho]
  simp only
  split at hs
  ·cases hs
  ·next hw=>
   rw [xX ht hw]
   simp only [Bool.false_eq_true,if_false]
   simp only [Option.map_eq_some_iff,Prod.mk.injEq] at hs
   obtain ⟨a1,hp,rfl,rfl⟩:=hs
   exact hK η _ w (St.refl h) (ht.put hp (by rintro u hu;cases hu;exact ⟨[],rfl,rfl⟩))
  ·next hw=>
   rw [xX ht hw]
   simp only [if_true]
   split at hs
   ·cases hs
   ·next r σ1 hop=>
    rw [uG] at hop
    simp only [Option.map_eq_some_iff,Prod.mk.injEq] at hs
    obtain ⟨a1,hp,rfl,rfl⟩:=hs
    left
    cases hc:wL o.op with
    | true=>
      refine Ub h hcall ht hc hop fun v x η' w' hr hst hv=>?_
      exact hK η' _ w' hst ((ht.mono hst.ext).put hp (fun u hu=>by rw [hr] at hu;cases hu;exact hv))
    | false=>
      obtain ⟨nx,w',η',hrun,hst,hres⟩:=aar h (fun x v hv=>Dz h ht x v hv) hc hop
      unfold Oper.wp
      rw [hrun]
      cases r with
      | none=>subst hres;exact hK η' _ w' hst ((ht.mono hst.ext).put hp (by simp))
      | some v=>
        obtain ⟨x,rfl,hv⟩:=hres
        exact hK η' _ w' hst ((ht.mono hst.ext).put hp (fun u hu=>by cases hu;exact hv))
theorem aat {call:Caller} (hcall:l7 P call) {ops:Array Oper} {Q:Exit→Act→World→Prop}:∀ (l:List Nat) {η:Env} {σ:ah} {w:World} {a a':aW} {A:Act},SR P η σ w→TR P η a A→
 zW P call ops l a σ=some (a',σ')→(∀η' A' w',St P η σ w η' σ' w'→TR P η' a' A'→Q .normal A' w')→wpOps P ops Q l A w
 | [],η,σ,w,a,a',A,h,ht,hs,hK=>by
   simp only [zW,Option.some.injEq,Prod.mk.injEq] at hs
   obtain ⟨rfl,rfl⟩:=hs
   exact hK η A w (St.refl h) ht
 | i::l,η,σ,w,a,a',A,h,ht,hs,hK=>by
   rw [wpOps_cons]
   unfold zW at hs
   split at hs
   ·next a1 σ1 h1=>
    refine step_ok h hcall ht h1 fun η1 A1 w1 hst ht1=>?_
    exact aat hcall l hst.rel ht1 hs fun η' A' w' hst' ht'=>hK η' A' w' (hst.trans hst') ht'
   ·cases hs
def dD.toExit:dD→Exit
 | .normal=>.normal
 | .exit id=>.exit id
 | .ret=>.ret
def J7 (P:Program) (dr:Caller→rJ):Prop:=∀call,l7 P call→∀ops a σ a' σ',dr call ops a σ=some (a',σ')→∀η w A id Q,SR P η σ w→TR P η a A→
 (∀η' A' w',St P η σ w η' σ' w'→TR P η' a' A'→Q .normal A' w')→(Code.region id ops true).wp P Q A w
def ES (P:Program) (pr:pz):Prop:=∀f g,pr f=some g→∀args σ r σ',g args σ=some (r,σ')→∀η w vs,SR P η σ w→aj η args vs→
 iZ P f ⟨vs⟩ w fun v w'=>∃η',St P η σ w η' σ' w'∧VR η' r v
def pY (P:Program):Prop:=∀ (f:Nat) fn c,P.funcs[f]? = some fn→fn.body=some c→(fn.name == "runtime.NumGoroutine")=false
def CG (P:Program) (run:Code→aW→ah→Option (dD×aW×ah)):Prop:=∀c a σ e a' σ',run c a σ=some (e,a',σ')→∀η w A Q,SR P η σ w→TR P η a A→
 (∀η' A' w',St P η σ w η' σ' w'→TR P η' a' A'→Q e.toExit A' w')→c.wp P Q A w
theorem Es (h:SR P η σ w) {a:aW} {A:Act} (ht:TR P η a A) (F:ResultVar→Sem Value) (hF1:∀t,F (.tmp t)=pure (A.tmps.getD t undef)) (hF2:∀a t,F (.cell a t)=(do loadVar t (← asAddr (A.tmps.getD a undef)))) :
 ∀ (rs:List ResultVar) (l:List AV),rX P σ a rs=some l→∃vs,(rs.mapM F).run P w=.ok vs w∧aj η l vs
 | [],l,hl=>by simp only [rX,Option.some.injEq] at hl;subst hl;exact ⟨[],rfl,by simp [aj]⟩
 | .tmp t::rs,l,hl=>by
   unfold rX at hl
   split at hl
   ·next v r hv hr=>
    cases hl
    obtain ⟨vs,h1,h2⟩:=Es h ht F hF1 hF2 rs r hr
    obtain ⟨x,hx,iL⟩:=ht.slot t v hv
    refine ⟨x::vs, ?_,aj.cons iL h2⟩
    simp only [List.mapM_cons,hF1,Sem.run_bind,Sem.run_pure,Result.andThen_ok,h1]
    rw [Array.getD_eq_getD_getElem?,hx];rfl
   ·cases hl
 | .cell t ty::rs,l,hl=>by
   unfold rX at hl
   split at hl
   ·next v r hv hr=>
    cases hl
    obtain ⟨vs,h1,h2⟩:=Es h ht F hF1 hF2 rs r hr
    simp only [Option.bind_eq_some_iff] at hv
    obtain ⟨p,hp,hv⟩:=hv
    obtain ⟨x,hx,iL⟩:=ht.slot t p hp
    obtain ⟨y,hy,nT⟩:=wO h hv iL
    refine ⟨y::vs, ?_,aj.cons nT h2⟩
    have hxa:∃ad,x=.pointer (some ad):=by
     cases p<;>simp [oD] at hv
     ·simp only [VR] at iL
      obtain ⟨q,_,rfl⟩:=iL
      exact ⟨_,rfl⟩
     ·simp only [VR] at iL
      obtain ⟨bl,base,cs,elem,fr,x,_,_,rfl,_⟩:=iL
      exact ⟨_,rfl⟩
    obtain ⟨ad,rfl⟩:=hxa
    have hg:A.tmps.getD t undef=.pointer (some ad):=by rw [Array.getD_eq_getD_getElem?,hx];rfl
    have hy':(loadVar ty ad).run P w=.ok y w:=by simpa [Instr.loadAt,Instr.sureAddr] using hy
    have afU:(asAddr (A.tmps.getD t undef)).run P w=.ok ad w:=by rw [hg];rfl
    simp only [List.mapM_cons,hF2,Sem.run_bind,Sem.run_pure,Result.andThen_ok,h1,afU,hy']
   ·cases hl
theorem ami {l:List AV} {vs:List Value} (h:aj η l vs):VR η (zI l) (if h:(⟨vs⟩:Array Value).size=1 then (⟨vs⟩:Array Value)[0] else .tuple ⟨vs⟩):=by
 have hl:=h.length
 unfold zI
 split
 ·next v=>
  simp only [aj] at h
  obtain ⟨x,_,rfl,hx,rfl⟩:=h
  simpa using hx
 ·next hne=>
  have:(⟨vs⟩:Array Value).size≠1:=by
   intro e
   have:l.length=1:=by rw [hl];exact e
   obtain ⟨v,rfl⟩:=List.length_eq_one_iff.1 this
   exact hne v rfl
  rw [dif_neg this]
  simp only [VR];exact ⟨vs,rfl,h⟩
theorem Qu:∀ (args:List AV) (k:Nat) (t:Tr AV) (j:Nat),(qL args k t).get j=if k≤j∧j < k+args.length then args[j - k]? else t.get j
 | [],k,t,j=>by simp [qL];omega
 | v::args,k,t,j=>by
   rw [qL,Qu args (k+1)]
   simp only [List.length_cons]
   by_cases h1:k+1≤j∧j < k+1+args.length
   ·rw [if_pos h1,if_pos (by omega)]
    have:j - k=(j - (k+1))+1:=by omega
    rw [this];simp
   ·rw [if_neg h1,Tr.oN]
    by_cases h2:j=k
    ·subst h2;rw [if_pos rfl,if_pos (by omega)];simp
    ·rw [if_neg h2,if_neg (by omega)]
theorem Lh {args:List AV} {vs:List Value} {n:Nat} (h:aj η args vs) :
 TR P η { t:=qL args 0 .nil,n:=max args.length n,gn:=P.globals.size } { tmps:=(⟨vs⟩:Array Value)++Array.replicate (n - (⟨vs⟩:Array Value).size) undef,defers:=[] }:=by
 have hl:=h.length
 refine ⟨rfl, ?_,rfl,fun t v hv=>?_⟩
 ·simp;omega
 ·rw [Qu] at hv
  split at hv
  ·next hr=>
   obtain ⟨x,hx,iL⟩:=h.at hv
   refine ⟨x, ?_,iL⟩
   simp only [Nat.sub_zero] at hx
   have hlt:=(List.getElem?_eq_some_iff.1 hx).1
   rw [Array.getElem?_append_left (by simpa using hlt)]
   simpa using hx
  ·simp at hv
theorem Ua {pr:pz} {run:Code→aW→ah→Option (dD×aW×ah)} (hp:ES P pr) (hn:pY P) (hr:CG P run):l7 P (yA P pr run):=by
 intro f args σ r σ' hs η w vs h hv
 unfold yA at hs
 split at hs
 ·next g hg=>exact hp f g hg args σ r σ' hs η w vs h hv
 ·split at hs
  ·cases hs
  ·next fn hfn=>
   split at hs
   ·cases hs
   ·next c hc=>
    have key:∀ (e:dD) a',(e=.normal∨e=.ret)→run c { t:=qL args 0 .nil,n:=max args.length fn.ntmps,gn:=P.globals.size } σ=some (e,a',σ')→∀l,rX P σ' a' fn.results.toList=some l→r=zI l→
     iZ P f ⟨vs⟩ w fun v w'=>∃η',St P η σ w η' σ' w'∧VR η' r v:=by
     intro e a' he hrun l hl hrl
     right
     refine ⟨?_, ?_⟩
     ·have hname:=hn f fn c hfn hc
      simp only [callFunc,Sem.run_bind,program,Sem.run,Result.andThen_ok,hfn]
      simp only [hname,Bool.false_eq_true,if_false,hc,Option.isNone_some,Sem.run_pure]
     ·refine calls_of_wp hfn hc ?_
      refine hr c _ _ _ _ _ hrun η w _ _ h (Lh hv) ?_
      intro η' A' w' hst ht
      have hres:∃us,(results fn A'.tmps).run P w'=.ok (if h:(⟨us⟩:Array Value).size=1 then (⟨us⟩:Array Value)[0] else .tuple ⟨us⟩) w'∧aj η' l us:=by
       unfold results
       rw [Array.mapM_eq_mapM_toList]
       simp only [Sem.run_bind,Sem.run_map]
       obtain ⟨us,h1,h2⟩:=Es hst.rel ht (fun | .tmp t=>pure (A'.tmps.getD t undef) | .cell a t=>do loadVar t (← asAddr (A'.tmps.getD a undef))) (fun _=>rfl) (fun _ _=>rfl) _ _ hl
       refine ⟨us, ?_,h2⟩
       exact congrArg (fun r:Result (List Value)=>(r.andThen fun a w'=>Result.ok a.toArray w').andThen fun a w'=>Sem.run P (pure (if h:a.size=1 then a[0] else Value.tuple a)) w') h1
      obtain ⟨us,hres,h2⟩:=hres
      have hpost:A'.defers=[]∧∃v,(results fn A'.tmps).run P w'=.ok v w'∧∃v',Ending.returned v=.returned v'∧∃η',St P η σ w η' σ' w'∧VR η' r v':=
       ⟨ht.none,_,hres,_,rfl,η',hst,by rw [hrl];exact ami h2⟩
      rcases he with rfl | rfl
      ·exact hpost
      ·exact hpost
    split at hs
    ·next a' σ1 hrun=>
     simp only [Option.map_eq_some_iff,Prod.mk.injEq] at hs
     obtain ⟨l,hl,h1,h2⟩:=hs
     subst h2
     exact key _ a' (.inl rfl) hrun l hl h1.symm
    ·next a' σ1 hrun=>
     simp only [Option.map_eq_some_iff,Prod.mk.injEq] at hs
     obtain ⟨l,hl,h1,h2⟩:=hs
     subst h2
     exact key _ a' (.inr rfl) hrun l hl h1.symm
    ·cases hs
theorem U8 {dr:Caller→rJ} {pr:pz} (hd:J7 P dr) (hp:ES P pr) (hn:pY P):∀n:Nat,CG P (vP P dr pr n)∧
 (∀b a σ e a' σ',vP P dr pr n (.loop b) a σ=some (e,a',σ')→∀η w A Q,SR P η σ w→TR P η a A→(∀η' A' w',St P η σ w η' σ' w'→TR P η' a' A'→Q e.toExit A' w')→Code.rounds P b Q n A w):=by
 intro n
 induction n with
 | zero=>exact ⟨fun c a σ e a' σ' hs=>by simp [Ql] at hs,fun b a σ e a' σ' hs=>by simp [Ql] at hs⟩
 | succ n ih=>
   obtain ⟨ih1,ih2⟩:=ih
   have hcall:=Ua hp hn ih1
   have ZP:∀b a σ e a' σ',vP P dr pr (n+1) (.loop b) a σ=some (e,a',σ')→∀η w A Q,SR P η σ w→TR P η a A→(∀η' A' w',St P η σ w η' σ' w'→TR P η' a' A'→Q e.toExit A' w')→Code.rounds P b Q (n+1) A w:=by
    intro b a σ e a' σ' hs η w A Q h ht hK
    rw [rounds_succ]
    simp only [oz,nC] at hs
    split at hs
    ·next a1 σ1 h1=>
     refine ih1 _ _ _ _ _ _ h1 η w A _ h ht ?_
     intro η1 A1 w1 hst ht1
     exact ih2 _ _ _ _ _ _ hs η1 w1 A1 Q hst.rel ht1 fun η' A' w' hst' ht'=>hK η' A' w' (hst.trans hst') ht'
    ·next hne=>
     refine ih1 _ _ _ _ _ _ hs η w A _ h ht ?_
     intro η1 A1 w1 hst ht1
     cases e with
     | normal=>exact absurd hs (by intro e';exact hne _ _ e')
     | exit id=>exact hK η1 A1 w1 hst ht1
     | ret=>exact hK η1 A1 w1 hst ht1
   refine ⟨?_,ZP⟩
   intro c a σ e a' σ' hs η w A Q h ht hK
   cases c with
   | loop b=>exact wp_loop_rounds (n+1) (ZP b a σ e a' σ' hs η w A Q h ht hK)
   | skip=>simp only [oz,nC,Option.some.injEq,Prod.mk.injEq] at hs;obtain ⟨rfl,rfl,rfl⟩:=hs;exact wp_skip (hK η A w (St.refl h) ht)
   | region id ops draw=>
     cases draw with
     | false=>
       simp only [oz,nC,Option.map_eq_some_iff,Prod.mk.injEq] at hs
       obtain ⟨⟨a1,σ1⟩,h1,rfl,rfl,rfl⟩:=hs
       exact wp_region (aat hcall _ h ht h1 hK)
     | true=>
       simp only [oz,nC,Option.map_eq_some_iff,Prod.mk.injEq] at hs
       obtain ⟨⟨a1,σ1⟩,h1,rfl,rfl,rfl⟩:=hs
       exact hd _ hcall ops a σ _ _ h1 η w A id Q h ht hK
   | seq x y=>
     simp only [oz,nC] at hs
     refine wp_seq ?_
     split at hs
     ·next a1 σ1 h1=>
      refine ih1 _ _ _ _ _ _ h1 η w A _ h ht ?_
      intro η1 A1 w1 hst ht1
      exact ih1 _ _ _ _ _ _ hs η1 w1 A1 Q hst.rel ht1 fun η' A' w' hst' ht'=>hK η' A' w' (hst.trans hst') ht'
     ·next hne=>
      refine ih1 _ _ _ _ _ _ hs η w A _ h ht ?_
      intro η1 A1 w1 hst ht1
      cases e with
      | normal=>exact absurd hs (by intro e';exact hne _ _ e')
      | exit id=>exact hK η1 A1 w1 hst ht1
      | ret=>exact hK η1 A1 w1 hst ht1
   | cond x y z=>
     simp only [oz,nC] at hs
     split at hs
     ·next t hx=>
      obtain ⟨vd,hx,himp⟩:=Am hx
      have hv:=himp _ _ (Dz h ht x _ hx)
      simp only [VR] at hv
      refine wp_cond hv ?_
      exact ih1 _ _ _ _ _ _ hs η w A Q h ht hK
     ·cases hs
   | block id b=>
     simp only [oz,nC] at hs
     refine wp_block ?_
     split at hs
     ·next id' a1 σ1 h1=>
      refine ih1 _ _ _ _ _ _ h1 η w A _ h ht ?_
      intro η1 A1 w1 hst ht1
      simp only [dD.toExit,Exit.inBlock]
      split at hs
      ·next e1=>
       cases hs
       rw [if_pos e1]
       exact hK η1 A1 w1 hst ht1
      ·next e1=>
       cases hs
       rw [if_neg e1]
       exact hK η1 A1 w1 hst ht1
     ·next hne=>
      refine ih1 _ _ _ _ _ _ hs η w A _ h ht ?_
      intro η1 A1 w1 hst ht1
      cases e with
      | normal=>exact hK η1 A1 w1 hst ht1
      | exit id'=>exact absurd hs (by intro e';exact hne _ _ _ e')
      | ret=>exact hK η1 A1 w1 hst ht1
   | exit id=>simp only [oz,nC,Option.some.injEq,Prod.mk.injEq] at hs;obtain ⟨rfl,rfl,rfl⟩:=hs;exact wp_exit (hK η A w (St.refl h) ht)
   | ret=>simp only [oz,nC,Option.some.injEq,Prod.mk.injEq] at hs;obtain ⟨rfl,rfl,rfl⟩:=hs;exact wp_ret (hK η A w (St.refl h) ht)
   | rangeFunc _ _ _ _=>simp [oz,nC] at hs
   | scope _=>simp [oz,nC] at hs
   | label _=>simp [oz,nC] at hs
   | goto _=>simp [oz,nC] at hs
   | refuse _=>simp [oz,nC] at hs
theorem acz {dr:Caller→rJ} {pr:pz} (hd:J7 P dr) (hp:ES P pr) (hn:pY P) (n:Nat):l7 P (Qk P dr pr n):=
 Ua hp hn (U8 hd hp hn n).1
end
end Go.aJ
