/- Values that are named by nodes: append, make, conversions, strings.Builder's string. -/
import Derived.Test.YtogfeeabnklegaaGreatDoorAbsD
set_option linter.all false
namespace Go.aP
noncomputable section
variable[aJ]
variable{P:Program}{F:Env}{J J':aC}{w:World}
def St.Xd{F':Env}{w':World}(h:St P F J w F' J' w')(id:Nat):St P F J w F' (J'.kill id) w':=
 h.sub (λk o a=>by rw[aC.AL]at a;split at a;cases a;exact a) (dP _) rfl
def St.Ae{F':Env}{τ:aC}{w':World}{m e size:Nat}{f:Bool}{xs:Q1}{c:Q3}{y:Value}(h:St P F J w F' (τ.new (.cells c e true true)) w')(t:aJ.val m=some (.l xs))(u:∀x∈xs,x.cells.length=size/\x.cells.all GV.scalar=true)(A:sizeT P e=some size)
 (D:∀vs,aG F' c vs->aG F' (bW xs) vs) (v:VR F' (.sl τ.next 0 xs.length none) y) (E:f=true->xs≠[]):St P F J w F' (τ.new (.vec m e f)) w'/\VR F' (.sv τ.next m) y:=by
 simp only[VR]at v;obtain⟨q,l,d,rfl⟩:=v;have z:(τ.new (.cells c e true true)).get τ.next=some (.cells c e true true):=by rw[aC.rD,au rfl]
 have g:=h.rel.at z l;have n:q.es=size:=by obtain⟨_,_,_,_,r⟩:=g;have:=(r.room rfl).2.2;rw[A]at this;cases this;rfl
 have i:f=true->q.es<=q.sz:=λe=>by have p:=E e;have:0<xs.length:=MO.2 p;simp only[xC,Jm]at d;have G:1<=q.sz/q.es:=ah;exact kW (by simpa using wC q.es G) (Nat.div_mul_le_self q.sz q.es)
 have j:OR P F' q w' (.vec m e f):=OR.Ae i t (λx s=>by rw[n];exact(u x s).1) (λx s=>(u x s).2) g D;refine⟨h.right ?_ rfl rfl ?_,by simp only[VR];exact⟨xs,t,.inl ⟨q,l,by simpa using d,aA⟩⟩⟩
 ·refine(h.rel.swap (o':=.vec m e f) z rfl (.inl ⟨q,l,j⟩)).sub (λk o a=>?_) (dP _)
  rw[aC.rD]at a;rw[aC.get_put,aC.rD];split at a
  ·next b=>rw[au b];exact a
  ·next b=>rw[aj b,aj b];exact a
 ·intro k o a H;rw[aC.rD]at a⊢;split at a
  ·next b=>rw[au b];exact⟨_,rfl,rfl⟩
  ·next b=>rw[aj b];exact⟨o,a,H⟩
def ET{xs:Q1}{size:Nat}(h:xs.all (GV.gQ size)=true):∀x∈xs,x.cells.length=size/\x.cells.all GV.scalar=true:=by intro z a;have:=List.all_eq_true.1 h z a;unfold GV.gQ at this;rw[aO]at this;exact⟨Nat.eq_of_beq_eq_true this.1,this.2⟩
def aoH{xs:Q1}{size:Nat}(h:∀x∈xs,x.cells.length=size/\x.cells.all GV.scalar=true):(bW xs).all AV.ql=true:=by unfold bW;refine aa1 ?_;rw[List.all_eq_true];intro g b;obtain⟨z,c,a⟩:=aeV.1 b;exact List.all_eq_true.1 (h z c).2 g a
def af4(xs a:Q1):bW (xs++a)=bW xs++bW a:=by unfold bW;rw[aeP,J7]
def JK{xs:Q1}{size:Nat}(h:∀x∈xs,x.cells.length=size):(bW xs).length=xs.length*size:=by rw[bW,oG,Q5 h]
def adI(P:Program)(J:aC)(e size:Nat)(a:TypeId)(x:AV):W2:=
 match P.underlying a with
 |some .string=>if size=1 then match jD x with
   |some n=>gI (.bytes n)
   |none=>none
  else none
 |some (.slice _)=>listOf P J e x
 |_=>none
def Yw(h:SR P F J w){e size:Nat}{f:TypeId}{x:AV}{b:Nat}{u:Value}{xs:Q1}(c:adI P J e size f x=some b)(m:VR F x u)(r:sizeT P e=some size)(o:aJ.val b=some (.l xs))(i:xs.all (GV.gQ size)=true):
 ∃p,Src P size f u xs.length p w/\aG F (bW xs) p:=by
 unfold adI at c;split at c
 ·next j=>
  split at c
  ·next t=>
   subst t;split at c
   ·next n k=>
    obtain⟨g,v,g2,g3⟩:=nV k m;obtain⟨D,q,d⟩:=iG c;rw[o]at q;cases q;simp only[Nd.den,v]at d;split at d
    ·next s y=>
     cases y;cases d;have z:Il P f=true:=by unfold Il;rw[j]
     have:=src_ok h z (size:=1) (n:=s.length) (l:=yK s) (a:=.s s) (x:=u) (by simp[Bd]) ((nH (.s s) u).1 g3) (by unfold yK;simp[AV.ql]);rw[afP];have A:(dK s).length=s.length:=by simp[dK]
     rw[A];exact this
    ·cases d
   ·cases c
  ·cases c
 ·next j=>exact axe h c m j r o i
 ·cases c
def axd{e size id len:Nat}{cap:W2}{a et:Nat}{c:Q3}{q opn:Bool}(r:J.get id=some (.cells c et q opn))(b:listOf P J e (.sl id 0 len cap)=some a)(s:sizeT P e=some size)(d:c.length=len*size):
 ∃h,(∀{F:Env}{vs:Q6},aG F c vs->∃gs,valsOf aJ.val h=some gs/\gs.length=len/\aG F (bW gs) vs/\∀x∈gs,x.cells.length=size/\x.cells.all GV.scalar=true)/\∀gs,valsOf aJ.val h=some gs->aJ.val a=some (.l gs):=by
 simp only[listOf,r,s]at b;split at b
 ·next G H t I i j k l u=>
  cases k;cases l;split at b
  ·next p=>
   rw[aO,qF,aO]at p;have f:j=false->size=1:=by
    intro e;subst e;rcases p.2 with h1|h1
    ·simp at h1
    ·exact bV h1
   have m:takeN c 0 (len*size)=some c:=by unfold takeN;rw[dY,mg ah,au d]
   rw[m]at b;simp only at b;split at b
   ·next h n=>
    refine⟨h,λ{F vs} v=>?_,λgs o=>?_⟩
    ·obtain⟨gs,y,z,A,_,D⟩:=Hz (F:=F) f len n v d;exact⟨gs,y,z,A,D⟩
    ·obtain⟨g,E,g2⟩:=iG b;simp only[Nd.den,o,iJ,bF]at g2;rw[g2];exact E
   ·cases b
  ·cases b
 ·cases b
set_option maxHeartbeats 1000000 in
def aEA(h:SR P F J w){ts:Ww}{ty:TypeId}{s x v:AV}{u u':Value}(p:adQ P ts s x J=some (v,J'))(Q:VR F s u)(D:VR F x u'):
 ∃y w' F',(Builtin.append_ ts ty #[u,u']).run P w=.ok y w'/\St P F J w F' J' w'/\VR F' v y:=by
 unfold adQ at p;split at p
 ·next t t1 a2=>
  have:=U8 a2;subst this;split at p
  ·next e d bytes z hi=>
   obtain⟨_,_,_,he,_,V⟩:=DC hi;split at p
   ·cases p
   ·next h0=>
    split at p
    ·cases p
    ·next b hb=>
     have am:adI P J e d t1 x=some b:=hb;have an:∀{a m:Nat}{j:Q1},gI (.app d bytes a b)=some m->aJ.val a=some (.l j)->∃i,aJ.val b=some (.l i)/\aJ.val m=some (.l (j++i))/\i.all (GV.gQ d)=true/\2*(j.length+i.length)*bytes<=2^48/\j.length+i.length<=2^48:=by
      intro a m j W Z;obtain⟨g,g1,g2⟩:=iG W;simp only[Nd.den,Z]at g2;split at g2
      ·next ba i H e2=>
       cases H;split at g2
       ·next R=>cases g2;exact⟨i,e2,g1,R.1,R.2.1,R.2.2⟩
       ·cases g2
      ·cases g2
     have U6:∀{i:Q1}{S:AV}{n:Nat},i.all (GV.gQ d)=true->sliceLen S=n->2*(n+i.length)*bytes<=2^48->n+i.length<=2^48->¬(d=0\/(bW i).all AV.ql=false\/¬(2*(sliceLen S+i.length)*bytes<=2^48/\sliceLen S+i.length<=2^48)):=by intro i S n h1 h2 h3 h4;rw[aoH (ET h1),h2];simp[h0];omega
     have ay:∀{a:Nat},gI (.ml [])=some a->aJ.val a=some (.l []):=by intro a Z;obtain⟨g,g1,g2⟩:=iG Z;simp only[Nd.den,valsOf,iJ,bF]at g2;subst g2;exact g1
     have az:∀{a m:Nat}{τ:aC},aJ.val a=some (.l [])->gI (.app d bytes a b)=some m->u=.slice none 0 0->τ.lock=J.lock->τ.next=J.next->(∀k o,τ.get k=some o->J.get k=some o)->
      ∀f:Bool,∃y w' F',(Builtin.append_ #[t,t1] ty #[u,u']).run P w=.ok y w'/\St P F J w F' (τ.new (.vec m e f)) w'/\VR F' (.sv J.next m) y:=by
      intro a m τ Z W N hl aD ap f;obtain⟨i,y1,L,M,y4,y5⟩:=an W Z;obtain⟨zs,z1,z2⟩:=Yw h am D V y1 M;have l:=JK (λx D=>(ET M x D).1);simp only[aX,lK,mQ]at L y4 y5;have R:=U6 (S:=.iq) (n:=0) M rfl (by simpa using y4) (by simpa using y5);by_cases X:i.length=0
      ·have T:i=[]:=kK X;subst T;have r:su e d bytes .iq 0 (bW []) J=some (.iq,J):=by unfold su;rw[aj (by simpa using R)];rfl
       obtain⟨y,w',F',r1,r2,r3⟩:=EH (ty:=ty) h hi z1 z2 l r (u:=u) (by simp only[VR];exact N);refine⟨y,w',F'.ghost J.next,r1,r2.trans ?_,?_⟩
       ·exact St.ghost r2.rel L hl aD ap
       ·simp only[VR]at r3⊢;exact⟨[],L,.inr ⟨by simp[Env.ghost],rfl,r3⟩⟩
      ·have r:su e d bytes .iq i.length (bW i) J=some (.sl J.next 0 i.length none,J.new (.cells (bW i) e true true)):=by unfold su;rw[aj R];simp only;rw[aj X]
       obtain⟨y,w',F',r1,r2,r3⟩:=EH (ty:=ty) h hi z1 z2 l r (u:=u) (by simp only[VR];exact N);obtain⟨q1,q2⟩:=St.Ae (f:=f) r2 L (ET M) V (λ_ h=>h) r3 (λ_ e=>X (by rw[e];rfl));refine⟨y,w',F',r1,q1.sub (λk o A=>?_) (by show J.next+1<=τ.next+1;omega) hl,q2⟩;rw[aC.rD]at A⊢;rw[aD]at A;split at A
       ·next H=>rw[au H];exact A
       ·next H=>rw[aj H];exact ap k o A
     split at p
     ·split at p
      ·next a Z=>
       obtain⟨m,W,H⟩:=bJ.1 p;cases H;simp only[VR]at Q;exact az (τ:=J) (ay Z) W Q rfl rfl (λ_ _ h=>h) true
      ·cases p
     ·next id n=>
      split at p
      ·next a E f U=>
       split at p
       ·next G=>
        rw[aO,aO]at G;obtain⟨⟨aa,aE⟩,ab⟩:=G;have Kt:=bV aa;subst Kt;have Fg:=wB ab;obtain⟨m,W,H⟩:=bJ.1 p;cases H;simp only[VR]at Q;obtain⟨xn,n1,Q⟩:=Q;rcases h.live id _ U with⟨q,Y,a3⟩|⟨ar,m0,bb,f0,e0,aL⟩
        ·obtain⟨j,x1,x2,x3,x4,x5,x6,x7,hS⟩:=PU h U Y;have ac:=Ba 100 aE x1 n1;rw[V]at x5;cases x5;rcases Q with⟨q',ad,av,rfl⟩|⟨ar,_,_⟩
         ·rw[Y]at ad;cases ad;obtain⟨i,y1,L,M,y4,y5⟩:=an W x1;have aw:=JK x2;have ae:∀x∈j++i,x.cells.length=q.es/\x.cells.all GV.scalar=true:=by
           intro x D;rcases jP.1 D with D|D
           ·exact⟨x2 x D,x7 x D⟩
           ·exact ET M x D
          obtain⟨zs,z1,z2⟩:=Yw h am D V y1 M;have l:=JK (λx D=>(ET M x D).1);have R:=U6 (S:=.sl id 0 j.length none) (n:=j.length) M rfl y4 y5;rw[<-ac]at av⊢;have aM:VR F (.sl id 0 j.length none) (.slice (some ⟨q.bl,q.ba,none⟩) j.length (q.sz/q.es)):=by simp only[VR];exact⟨q,Y,by simpa using av,aA⟩
          by_cases X:i.length=0
          ·have T:i=[]:=kK X;subst T;rw[pX]at L;have r:su E q.es bytes (.sl id 0 j.length none) 0 (bW []) (mJ J id j E)=some (.sl id 0 j.length none,mJ J id j E):=by unfold su;rw[aj (by simpa using R)];rfl
           obtain⟨y,w',F',r1,r2,r3⟩:=EH (ty:=ty) hS hi z1 z2 l r aM;have a4:=TW U r2;have aR:(mJ J id j E).get id=some (.cells (bW j) E true true):=Gq;have I:=r2.ext.pl _ _ Y;have af:=r2.rel.at aR I;have ag:OR P (F'.put J.next q) q w' (.vec m E f):=by have ai:=Env.IK r2.rel q;refine OR.Ae (λe=>by subst e;exact a3.Y0) L x2 x7 (af.mono ai) (λ_ h=>h)
           have Rh:=St.again (q':=q) r2.rel aR rfl (show(mJ J id j E).lock<=id from Fg) I rfl rfl (λ_ _=>rfl) rfl rfl rfl ag;refine⟨y,w',F'.put J.next q,r1,(a4.trans Rh).sub (λk o A=>?_) (dP _) rfl,?_⟩
           ·rw[aC.rD,aC.AL]at A⊢;split at A
            ·next H=>rw[au (show k=((mJ J id j E).kill id).next from H)];exact A
            ·next H=>
             rw[aj (show ¬k=((mJ J id j E).kill id).next from H)];split at A
             ·cases A
             ·next e2=>rw[aj e2];unfold mJ;rw[aC.get_put,aj e2];exact A
           ·simp only[VR]at r3⊢;obtain⟨q3,O,ak,rfl⟩:=r3;rw[I]at O;cases O;exact⟨j,L,.inl ⟨q,by simp[Env.put],by simpa using ak,aA⟩⟩
          ·have ao:takeN (bW j) 0 (j.length*q.es)=some (bW j):=by unfold takeN;rw[dY,mg ah,au aw]
           have r:su E q.es bytes (.sl id 0 j.length none) i.length (bW i) (mJ J id j E)=some (.sl J.next 0 (j.length+i.length) none,((mJ J id j E).kill id).new (.cells (bW j++bW i) E true true)):=by unfold su;rw[aj R];simp only;rw[aj X,au (show(mJ J id j E).lock<=id from Fg),Gq];simp only[if_true,ao,iJ];rfl
           obtain⟨y,w',F',r1,r2,r3⟩:=EH (ty:=ty) hS hi z1 z2 l r aM;obtain⟨q1,q2⟩:=St.Ae (size:=q.es) (TW U r2) L ae V (λvs al=>by rw[af4];exact al) (by rw[eH];exact r3) (f:=f) (λ_ e=>X (by have:=uS List.length e;simp at this;rw[this.2];rfl));refine⟨y,w',F',r1,q1.sub (λk o A=>?_) (dP _) rfl,q2⟩;rw[aC.rD,aC.AL]at A⊢;split at A
           ·next H=>rw[au (show k=((mJ J id j E).kill id).next from H)];exact A
           ·next H=>
            rw[aj (show ¬k=((mJ J id j E).kill id).next from H)];split at A
            ·cases A
            ·next e2=>rw[aj e2];unfold mJ;rw[aC.get_put,aj e2];exact A
         ·rw[(h.kZ id ar).1]at Y;cases Y
        ·cases e0;have ac:=Ba 100 aE aL n1;rcases Q with⟨q',ad,_⟩|⟨_,_,Q⟩
         ·rw[(h.kZ id ar).1]at ad;cases ad
         ·exact az (τ:=J.kill id) aL W Q rfl rfl (λk o A=>by rw[aC.AL]at A;split at A;cases A;exact A) f
       ·cases p
      ·cases p
     ·next id=>
      split at p
      ·next E U=>
       split at p
       ·next G=>
        rw[aO]at G;obtain⟨aa,ab⟩:=G;have Kt:=bV aa;subst Kt;have Fg:=wB ab;split at p
        ·next a Z=>
         obtain⟨m,W,H⟩:=bJ.1 p;cases H;obtain⟨i,y1,L,M,y4,y5⟩:=an W (ay Z);simp only[aX,lK,mQ]at L y4 y5;obtain⟨zs,z1,z2⟩:=Yw h am D V y1 M;have l:=JK (λx D=>(ET M x D).1);have R:=U6 (S:=.sl id 0 0 (some 0)) (n:=0) M rfl (by simpa using y4) (by simpa using y5);have N:=Q;simp only[VR]at N;obtain⟨q,Y,_,rfl⟩:=N;obtain⟨cs,a0,fr,a5,rr⟩:=h.at U Y;have bc:=rr.shut rfl;obtain⟨w1,w2,w3⟩:=rr.whole he;have bd:=w3 rfl;by_cases X:i.length=0
         ·have T:i=[]:=kK X;subst T;have r:su E d bytes (.sl id 0 0 (some 0)) 0 (bW []) J=some (.sl id 0 0 (some 0),J):=by unfold su;rw[aj (by simpa using R)];rfl
          obtain⟨y,w',F',r1,r2,r3⟩:=EH (ty:=ty) h hi z1 z2 l r Q;have I:=r2.ext.pl _ _ Y;obtain⟨a6,NT,Oc,a7,ax⟩:=r2.rel.at U I;obtain⟨v1,v2,v3⟩:=ax.whole he;have a1:=ax.shut rfl;simp only[lK]at a1;have ag:OR P (F'.put J.next ⟨q.bl,q.ba,0,d⟩) ⟨q.bl,q.ba,0,d⟩ w' (.vec m E false):=by refine⟨[],a6,NT,Oc,[],L,a7,by simp[aU],aA,by simp[Hq,eP],aA,{fits:=by have:=ax.fits;simp;omega,le:=aA,shut:=aA,cell:=aA,free:=aA,whole:=λ_=>⟨v1,by simp;omega,aA⟩,room:=λ_=>⟨he,by simp;omega,V⟩},aA,aA⟩
          have Rh:=St.again (q':=⟨q.bl,q.ba,0,d⟩) r2.rel U rfl Fg I rfl rfl (λ_ _=>rfl) rfl rfl rfl ag;refine⟨y,w',_,r1,r2.trans Rh,?_⟩;simp only[VR]at r3⊢;obtain⟨q3,O,_,rfl⟩:=r3;rw[I]at O;cases O;exact⟨[],L,.inl ⟨⟨q.bl,q.ba,0,d⟩,by simp[Env.put],aA,aA⟩⟩
         ·have r:su E d bytes (.sl id 0 0 (some 0)) i.length (bW i) J=some (.sl J.next 0 (0+i.length) none,J.new (.cells ([]++bW i) E true true)):=by unfold su;rw[aj R];simp only;rw[aj ah,U];simp[takeN]
          obtain⟨y,w',F',r1,r2,r3⟩:=EH (ty:=ty) h hi z1 z2 l r Q;rw[aX]at r2;rw[mQ]at r3;obtain⟨q1,q2⟩:=St.Ae (f:=false) r2 L (ET M) V (λ_ h=>h) r3 aA;refine⟨y,w',F',r1,q1.sub (λk o A=>?_) (dP _) rfl,q2⟩;rw[aC.rD,aC.AL]at A;rw[aC.rD];split at A
          ·next H=>rw[au (show k=J.next from H)];exact A
          ·next H=>
           rw[aj (show ¬k=J.next from H)];split at A
           ·cases A
           ·exact A
        ·cases p
       ·cases p
      ·cases p
     ·next id len=>
      split at p
      ·next c E U=>
       split at p
       ·next G=>
        rw[aO,aO]at G;obtain⟨⟨aa,ab⟩,aw⟩:=G;have Kt:=bV aa;subst Kt;have Fg:=wB ab;have aq:=bV aw;split at p
        ·next a Z=>
         obtain⟨m,W,H⟩:=bJ.1 p;cases H;obtain⟨ns,l1,l2⟩:=axd U Z V aq;have N:=Q;simp only[VR]at N;obtain⟨q,Y,av,rfl⟩:=N;obtain⟨ws,a0,fr,a5,rr⟩:=h.at U Y;have a8:q.es=d:=by have:=(rr.room rfl).2.2;rw[V]at this;cases this;rfl
         have ao:takeN c 0 (len*d)=some c:=by unfold takeN;rw[dY,mg ah,au aq]
         obtain⟨j,k1,k2,k3,k4⟩:=l1 (rr.Bf ao);have a9:=l2 j k1;have conv:∀{F':Env}(vs:Q6),aG F' c vs->aG F' (bW j) vs:=by intro F' vs hv;obtain⟨gs,j1,_,j3,_⟩:=l1 hv;rw[k1]at j1;cases j1;exact j3
         obtain⟨i,y1,L,M,y4,y5⟩:=an W a9;have ae:∀x∈j++i,x.cells.length=d/\x.cells.all GV.scalar=true:=by
          intro x D;rcases jP.1 D with D|D
          ·exact k4 x D
          ·exact ET M x D
         obtain⟨zs,z1,z2⟩:=Yw h am D V y1 M;have l:=JK (λx D=>(ET M x D).1);have R:=U6 (S:=.sl id 0 len none) (n:=j.length) M k2.symm y4 y5;by_cases X:i.length=0
         ·have T:i=[]:=kK X;subst T;rw[pX]at L;have r:su E d bytes (.sl id 0 len none) 0 (bW []) J=some (.sl id 0 len none,J):=by unfold su;rw[aj (by simpa using R)];rfl
          obtain⟨y,w',F',r1,r2,r3⟩:=EH (ty:=ty) h hi z1 z2 l r Q;have I:=r2.ext.pl _ _ Y;have af:=r2.rel.at U I;have ag:OR P (F'.put J.next q) q w' (.vec m E false):=by have ai:=Env.IK r2.rel q;refine OR.Ae aA L (λx D=>by rw[a8];exact(k4 x D).1) (λx D=>(k4 x D).2) (af.mono ai) (λvs al=>conv vs al)
          have Rh:=St.again (q':=q) r2.rel U rfl Fg I rfl rfl (λ_ _=>rfl) rfl rfl rfl ag;refine⟨y,w',F'.put J.next q,r1,r2.trans Rh,?_⟩;simp only[VR]at r3⊢;obtain⟨q3,O,ak,rfl⟩:=r3;rw[I]at O;cases O;exact⟨j,L,.inl ⟨q,by simp[Env.put],by rw[k2];simpa using ak,by simp[k2]⟩⟩
         ·have r:su E d bytes (.sl id 0 len none) i.length (bW i) J=some (.sl J.next 0 (len+i.length) none,(J.kill id).new (.cells (c++bW i) E true true)):=by unfold su;rw[aj R];simp only;rw[aj X,au Fg,U];simp only[if_true,ao,iJ]
          obtain⟨y,w',F',r1,r2,r3⟩:=EH (ty:=ty) h hi z1 z2 l r Q;obtain⟨q1,q2⟩:=St.Ae (size:=d) r2 L ae V (λvs al=>by obtain⟨us,ts,rfl,v1,v2⟩:=aG.split al;rw[af4];exact aG.append (conv us v1) v2) (by rw[eH,k2];exact r3) (f:=false) aA
          exact⟨y,w',F',r1,q1,q2⟩
        ·cases p
       ·cases p
      ·cases p
     ·cases p
  ·cases p
 ·cases p
def alq{x:GV}{z:Q3}(b:∀a,aG F z a->aG F (eY x.cells) a):∀(n:Nat)(vs:Q6),aG F (ku n z) vs->aG F (bW (List.replicate n x)) vs
 |0,vs,h=>by simpa[ku,bW,eY]using h
 |n+1,vs,h=>by
  have e:ku (n+1) z=z++ku n z:=by simp[ku,Qb]
  rw[e]at h;obtain⟨a,c,rfl,d,f⟩:=aG.split h;have g:bW (List.replicate (n+1) x)=eY x.cells++bW (List.replicate n x):=by unfold bW;rw[Qb,kV,J7]
  rw[g];exact(b a d).append (alq b n c f)
def aA1(z:Q3)(n m:Nat)(h:n<=m):(ku m z).take (n*z.length)=ku n z:=by
 induction n generalizing m with
 |zero=>simp[ku]
 |succ n a=>
  cases m with
  |zero=>omega
  |succ m=>
   have e:∀k,ku (k+1) z=z++ku k z:=λk=>by simp[ku,Qb]
   rw[e,e,<-a m ah,List.take_append,mg (by rw[uJ];omega)];congr 2;rw[uJ];omega
def aEK(h:SR P F J w){t:TypeId}{l c v:AV}{x y:Value}(q:YI P t l c J=some (v,J'))(W:VR F l x)(hy:VR F c y):
 ∃z w' F',(Instr.makeSlice t x y).run P w=.ok z w'/\St P F J w F' J' w'/\VR F' v z:=by
 unfold YI at q;split at q
 ·next e0 X=>
  split at q
  ·next e b bytes z L hi ag=>
   obtain⟨M,_,_,he,i,hn⟩:=DC hi;rw[X]at M;cases M;split at q
   ·cases q
   ·next Y=>
    split at q
    ·next zn ln cn d Z aa=>
     obtain⟨m,hm,I⟩:=bJ.1 q;cases I;obtain⟨gl,l1,l2,l3⟩:=nV Z W;obtain⟨gc,c1,c2,c3⟩:=nV aa hy;obtain⟨g,g1,g2⟩:=iG hm;simp only[Nd.den,l1,c1]at g2;split at g2
     ·next xz kn n ab V I e2 e3=>
      cases e2;cases e3;split at g2
      ·next hc=>
       cases g2;obtain⟨b1,b2,b3,b4,r⟩:=hc;simp only[GR]at l3 c3;subst l3;subst c3;obtain⟨A,N,D,E⟩:=axq (P:=P) (w:=w) (F:=F) (kd:=kn) (kd':=ab) hi Y b1 b2 b3 b4;have ac:∀k,aG F z k->aG F (eY xz.cells) k:=by
        intro k j;cases L with
        |true=>simp only[if_true]at d;obtain⟨l',gs,e4,_,O,_,Q⟩:=Np d (by simp only[VR];exact⟨k,rfl,j⟩:VR F (.agg z) (.agg ⟨k⟩));rw[I]at O;cases O;simp only[GR]at Q;obtain⟨ad,e7,e8⟩:=Q;cases e7;exact(qX _ _).1 e8
        |false=>
         simp only[iZ,if_false]at d;cases o:z with
         |nil=>rw[o]at d;simp at d
         |cons a zr=>
          rw[o]at d j i;simp only[Zi,BD]at d;simp only[aG]at j;obtain⟨u,ur,rfl,G,p⟩:=j;obtain⟨gz,R,S,k3⟩:=nV d G;rw[I]at R;cases R;rw[GV.LK S];have:b=1:=by unfold GV.gQ at r;rw[aO,GV.LK S]at r;exact(bV r.1).symm
          rw[this]at i;have rG:zr=[]:=by apply kK;simpa using i
          subst rG;simp only[aG]at p;subst p;simp only[eY];exact aG.cons ((nH _ _).1 k3) (by simp[aG])
       have T:∀x∈List.replicate n.toNat xz,x.cells.length=b/\x.cells.all GV.scalar=true:=by intro x W;rw[(aeX.1 W).2];unfold GV.gQ at r;rw[aO]at r;exact⟨Nat.eq_of_beq_eq_true r.1,r.2⟩
       have H:n.toNat<=V.toNat:=ah;have U:aG F (ku n.toNat z) (A.toList.take (ku n.toNat z).length):=by rw[XV,i];have:=E.take (n.toNat*b);rw[<-i,aA1 z _ _ H,i]at this;exact this
       have ae:=EO h (c:=ku n.toNat z) (xs:=A) (elem:=_) (es:=b) (opn:=true) U (by rw[XV,i,D];exact wC _ H) aA (λ_=>⟨he,Nat.pos_of_ne_zero Y,hn⟩);have s:(V.toNat*b)/b=V.toNat:=Zq _ (Nat.pos_of_ne_zero Y);obtain⟨q1,q2⟩:=St.Ae (f:=false) (size:=b) (y:=.slice (some ⟨w.heap.size,0,none⟩) n.toNat V.toNat) ae g1 T hn (λvs E=>by
        have af:∀k,aG (F.put J.next ⟨w.heap.size,0,A.size,b⟩) z k->aG (F.put J.next ⟨w.heap.size,0,A.size,b⟩) (eY xz.cells) k:=by
         intro k j;cases L with
         |true=>simp only[if_true]at d;obtain⟨l',gs,e4,_,O,_,Q⟩:=Np d (by simp only[VR];exact⟨k,rfl,j⟩:VR (F.put J.next ⟨w.heap.size,0,A.size,b⟩) (.agg z) (.agg ⟨k⟩));rw[I]at O;cases O;simp only[GR]at Q;obtain⟨ad,e7,e8⟩:=Q;cases e7;exact(qX _ _).1 e8
         |false=>
          simp only[iZ,if_false]at d;cases o:z with
          |nil=>rw[o]at d;simp at d
          |cons a zr=>
           rw[o]at d j i;simp only[Zi,BD]at d;simp only[aG]at j;obtain⟨u,ur,rfl,G,p⟩:=j;obtain⟨gz,R,S,k3⟩:=nV d G;rw[I]at R;cases R;rw[GV.LK S];have:b=1:=by unfold GV.gQ at r;rw[aO,GV.LK S]at r;exact(bV r.1).symm
           rw[this]at i;have rG:zr=[]:=by apply kK;simpa using i
           subst rG;simp only[aG]at p;subst p;simp only[eY];exact aG.cons ((nH _ _).1 k3) (by simp[aG])
        exact alq af _ _ E) (by simp only[VR];exact⟨⟨w.heap.size,0,A.size,b⟩,by simp[Env.put],by simp[D,s,H],by simp[D,s]⟩) aA
       exact⟨_,_,_,N,q1,q2⟩
      ·cases g2
     ·cases g2
    ·cases q
  ·cases q
 ·cases q
def QB:∀{xs:Q1}{b:Q0},pR xs=some b->bytesOf (eY xs)=some b
 |[],b,h=>by simpa[pR,eY,bytesOf]using h
 |x::xs,b,h=>by
  unfold pR at h;split at h
  ·rename_i a;cases a
  ·next n rest a=>
   cases a;simp only[eY,mD,bytesOf];split at h
   ·next d=>
    rw[au d];obtain⟨e,c,rfl⟩:=bJ.1 h;rw[QB c];rfl
   ·cases h
  ·cases h
def Vd:∀{xs:Q1}{b:Q0},pR xs=some b->xs.flatMap GV.cells=xs
 |[],b,h=>rfl
 |x::xs,b,h=>by
  unfold pR at h;split at h
  ·rename_i a;cases a
  ·next n rest a=>
   cases a;split at h
   ·obtain⟨d,c,_⟩:=bJ.1 h;rw[kV,Vd c];rfl
   ·cases h
  ·cases h
def aED(h:SR P F J w){src dst:TypeId}{a v:AV}{x:Value}(p:YC P src dst a J=some (v,J'))(r:VR F a x):
 ∃y w' F',(convert src dst x).run P w=.ok y w'/\St P F J w F' J' w'/\VR F' v y:=by
 unfold YC at p;split at p
 ·next d k n h1 D=>
  obtain⟨v',E,G⟩:=bJ.1 p;cases G;simp only[VR]at r;obtain⟨g,L,a2,M⟩:=r;obtain⟨_,g',_,j,b3⟩:=oU (F:=F) E;simp only[Nd.den,L]at j;split at j
  ·next kk z G=>
   cases G;cases j;simp only[GR]at M;subst M;obtain⟨y,w',F',r1,r2,r3⟩:=QL h (src:=src) (dst:=dst) (a:=.i kk z) (v:=.i k (k.wrap z)) (J':=J) (by simp only[Aq,h1,D]) (by simp only[VR]:VR F (.i kk z) (.int kk z));exact⟨y,w',F',r1,r2,by obtain⟨_,g2,_,H,U⟩:=oU (F:=F') E;simp only[Nd.den,L,bF]at H;subst H;exact U y rfl ((nH _ _).2 r3)⟩
  ·cases j
 ·next n h1 D=>
  obtain⟨v',E,G⟩:=bJ.1 p;cases G;simp only[VR]at r;obtain⟨g,L,a2,M⟩:=r;obtain⟨_,g',_,j,b3⟩:=oU (F:=F) E;simp only[Nd.den,L]at j;split at j
  ·next z G=>
   cases G;cases j;simp only[GR]at M;subst M;obtain⟨y,w',F',r1,r2,r3⟩:=QL h (src:=src) (dst:=dst) (a:=.s z) (v:=.s z) (J':=J) (by simp only[Aq,h1,D]) (by simp only[VR]:VR F (.s z) (.string ⟨⟨z⟩⟩));exact⟨y,w',F',r1,r2,by obtain⟨_,g2,_,H,U⟩:=oU (F:=F') E;simp only[Nd.den,L,bF]at H;subst H;exact U y rfl ((nH _ _).2 r3)⟩
  ·cases j
 ·next e n h1 D=>
  split at p
  ·next V=>
   split at p
   ·next Q=>
    split at p
    ·next m E=>
     cases p;simp only[VR]at r;obtain⟨g,L,a2,M⟩:=r;obtain⟨g',b1,j⟩:=iG E;simp only[Nd.den,L]at j;split at j
     ·next z G=>
      cases G;cases j;simp only[GR]at M;subst M;obtain⟨y,w',F',r1,r2,r3⟩:=QL h (src:=src) (dst:=dst) (a:=.s z) (v:=.sl J.next 0 z.length none) (J':=J.new (.cells (yK z) e true true)) (by simp only[Aq,h1,D,V,au Q]) (by simp only[VR]:VR F (.s z) (.string ⟨⟨z⟩⟩));obtain⟨q1,q2⟩:=St.Ae (f:=false) (size:=1) r2 b1 (by intro x r;obtain⟨c,_,rfl⟩:=rZ.1 r;exact⟨rfl,rfl⟩) Q.2 (λvs ag=>by rw[afP];exact ag) (by simpa[dK]using r3) aA
      exact⟨y,w',F',r1,q1,q2⟩
     ·cases j
    ·cases p
   ·cases p
  ·cases p
 ·next e h1 D=>
  split at p
  ·next V=>
   split at p
   ·next m o=>
    obtain⟨v',E,G⟩:=bJ.1 p;cases G;obtain⟨_,g',_,j,b3⟩:=oU (F:=F) E;simp only[Nd.den]at j;split at j
    ·next t R=>
     split at j
     ·next aa=>
      obtain⟨b,u,rfl⟩:=bJ.1 j;have fin:∀{τ:aC}{A:AV},SR P F τ w->VR F A x->Aq P src dst A τ=some (.s b,τ)->(∀{F':Env}{w':World},St P F τ w F' τ w'->St P F J w F' J w')->∃y w' F',(convert src dst x).run P w=.ok y w'/\St P F J w F' J w'/\VR F' v y:=by intro τ A hS hA ai W;obtain⟨y,w',F',r1,r2,r3⟩:=QL hS ai hA;refine⟨y,w',F',r1,W r2,?_⟩;obtain⟨_,g2,_,H,U⟩:=oU (F:=F') E;simp only[Nd.den,R,au aa,u,iJ,bF]at H;subst H;exact U y rfl ((nH _ _).2 r3)
      have S:pR t=some b->t=[]->b=[]:=by rintro h1 rfl;simpa[pR]using h1.symm
      unfold listOf at o;split at o
      ·next n=>
       cases o;simp only[VR]at r;obtain⟨g,L,a2,M⟩:=r;rw[R]at L;cases L;exact fin h ((nH (.l t) x).1 M) (by simp only[mD,Aq,h1,D,V,QB u,iJ]) (λh=>h)
      ·obtain⟨g,g1,g2⟩:=iG o;rw[R]at g1;cases g1;simp only[Nd.den,valsOf,iJ,bF,GV.l.injEq]at g2;have:=S u g2.symm;subst this;exact fin h r (by simp only[Aq,h1,D,V]) (λh=>h)
      ·next id n=>
       split at o
       ·next m' et _ Y=>
        split at o
        ·next Q=>
         cases o;rw[aO]at Q;simp only[VR]at r;obtain⟨ys,k1,r⟩:=r;have T:=Ba 100 Q.2 R k1;rcases r with⟨q,Z,ab,rfl⟩|⟨_,rfl,rfl⟩
         ·obtain⟨aq,j1,j2,j3,j4,j5,j6,j7,hS⟩:=PU h Y Z;rw[R]at j1;cases j1;have X:bW t=eY t:=by unfold bW;rw[Vd u]
          have ac:takeN (bW t) 0 t.length=some (eY t):=by rw[X];unfold takeN;rw[dY,mg (by rw[oG];omega),au (oG t)]
          rw[T]at ac;refine fin (A:=.sl id 0 ys.length none) hS (by simp only[VR];exact⟨q,Z,by simpa using ab,aA⟩) ?_ (λW=>aFl (λe=>by subst e;exact(h.at Y Z).Y0) Y Z R j2 j7 (TW Y W));simp only[Aq,h1,D,V,Gq,ac,QB u,iJ]
         ·have N:t=[]:=kK (by simpa using T);have:=S u N;subst this;exact fin h (A:=.iq) (by simp only[VR]) (by simp only[Aq,h1,D,V]) (λh=>h)
        ·cases o
       ·cases o
      ·next id ar len av=>
       split at o
       ·next c et xk aw I ak Y ax ay=>
        split at o
        ·next Q=>
         rw[aO,qF,aO]at Q;split at o
         ·next cs O=>
          split at o
          ·next ns al=>
           have ad:ak=false->I=1:=by
            intro e;subst e;rcases Q.2 with h1|h1
            ·simp at h1
            ·exact bV h1
           obtain⟨g,g1,g2⟩:=iG o;rw[R]at g1;cases g1;simp only[VR]at r;obtain⟨q,Z,ab,rfl⟩:=r;obtain⟨q',ae,ws,ap,fr,af,rr⟩:=h.obj _ _ Y rfl;rw[Z]at ae;cases ae;have am:=(vg O).2.1;obtain⟨gs,k1,k2,k3,_,k5⟩:=Hz (F:=F) ad len al (rr.Bf O) am;simp only[Nd.den,k1,iJ,bF,GV.l.injEq]at g2;rw[g2]at k2 k3 k5;have an:len*I=len:=by
            cases len with
            |zero=>simp
            |succ n=>
             have ao:t[0]? =some (t[0]'(by omega)):=bZ ah;have h5:=(k5 _ (tN ao)).1;have h6:(t[0]'(by omega)).cells.length=1:=by
              cases t with
              |nil=>simp at k2
              |cons y ys=>
               cases y with
               |i k n=>rfl
               |b=>simp[pR]at u
               |s=>simp[pR]at u
               |l=>simp[pR]at u
               |g=>simp[pR]at u
             rw[h6]at h5;rw[<-h5];simp
           have X:bW t=eY t:=by unfold bW;rw[Vd u]
           rw[X]at k3;have N:=QC (QB u) k3;rw[an]at O N;refine⟨.string ⟨⟨b⟩⟩,w,F,?_,St.refl h,?_⟩
           ·simp only[convert,aZ,bG h1,bG D,aY,bG V,Conv.bytesToString];rw[FY af (rr.take O),N];simp only[aY];rw[adw _ (λ_ _ _=>rfl)];rfl
           ·obtain⟨_,g2,_,H,U⟩:=oU (F:=F) E;simp only[Nd.den,R,au aa,u,iJ,bF]at H;subst H;exact U _ rfl (by simp only[GR])
          ·cases o
         ·cases o
        ·cases o
       ·cases o
      ·cases o
     ·cases j
    ·cases j
   ·cases p
  ·cases p
 ·cases p
def IL(ro:Qf)(w:World)(b:Nat):Nat->Option Obj:=λk=>if k=b then w.heap[b]? else ro k
def X0{ro:Qf}{w:World}(h:∀b o,ro b=some o->w.heap[b]? =some o)(b:Nat):∀k o,ro k=some o->IL ro w b k=some o:=by
 intro k o a;unfold IL;split
 ·next e=>subst e;exact h _ _ a
 ·exact a
def St.freeze(h:SR P F J w){id:Nat}{o:bP}{q:Place}(n:J.get id=some o)(x:o.own=true)(y:J.lock<=id)(r:F id=some q):St P F J w ⟨F.pl,IL F.ro w q.bl,F.gh⟩ (J.kill id) w:=by
 have c:(F:Env).le ⟨F.pl,IL F.ro w q.bl,F.gh⟩:=⟨λ_ _ h=>h,X0 h.jF q.bl,λ_ h=>h⟩
 have sub:∀k u,(J.kill id).get k=some u->k≠id/\J.get k=some u:=by
  intro k u d;rw[aC.AL]at d;split at d
  ·cases d
  ·next e=>exact⟨e,d⟩
 refine⟨c,⟨h.oO,h.dom,λk u d=>?_,h.kZ,λk u s t p z i f g j A D=>?_,λb u l=>?_,λk u p i f g=>?_,λp E=>(h.tabs p E).mono c⟩,dP _,λ_ _ _=>rfl,λk u p i f g j=>?_,rfl,rfl,rfl,rfl,dP _,λ_ h=>.inl h,λb l=>?_⟩
 ·exact(h.live k u (sub k u d).2).mono c
 ·exact h.sep k u s t p z (sub k u i).2 f (sub s t g).2 j A D
 ·have a:(if b=q.bl then w.heap[q.bl]? else F.ro b)=some u:=l;split at a
  ·next e=>rw[e];exact a
  ·exact h.jF b u a
 ·obtain⟨G,v⟩:=sub k u i;show(if p.bl=q.bl then w.heap[q.bl]? else F.ro p.bl)=none
  have m:=h.sep k u id o p q v f n G g r;rw[aj m];exact h.ng k u p v f g
 ·exact .inr ⟨k,u,p,(sub k u i).2,f,g,j,rfl⟩
 ·have a:(if b=q.bl then w.heap[q.bl]? else F.ro b)≠none:=l;split at a
  ·next e=>exact .inr (.inr ⟨id,o,q,n,x,y,r,e.symm⟩)
  ·exact .inl a
def GR.ab8{F:Env}{w:World}{q:Place}{c:Q3}{et:TypeId}{u opn:Bool}{ro':Qf}(h:OR P F q w (.cells c et u opn))(g:∀b o,F.ro b=some o->ro' b=some o)(v:ro' q.bl=w.heap[q.bl]?){off n size cap:Nat}{cs:Q3}{gs:Q1}(i:takeN c off (n*size)=some cs)(l:gs.length=n)(d:n<=cap)(h0:0<size)
 (m:∀x∈gs,x.cells.length=size/\x.cells.all GV.scalar=true) (z:∀(F':Env) vs,(∀b o,F.ro b=some o->F'.ro b=some o)->aG F cs vs->aG F' (bW gs) vs):GR ro' (.l gs) (.slice (some ⟨q.bl,q.ba+off,none⟩) n cap):=by
 obtain⟨A,e,D,E,r⟩:=h;have G:=r.Bf i;have p:=r.take i;obtain⟨Q,R,S⟩:=vg i;have H:=z ⟨F.pl,ro',F.gh⟩ _ g G;obtain⟨I,s,t,L⟩:=ungroup gs _ H (λx M=>(m x M).2);simp only[GR];right;refine⟨q.bl,q.ba+off,cap,I,size,by rw[l],by rw[l];exact d,s,λy N=>?_,λj=>⟨A,e,D,by rw[v,E],?_,?_⟩⟩
 ·obtain⟨k,a⟩:=P9 N;have f:k<gs.length:=by rw[s.length];exact(gu.1 a).1
  rw[L k _ y (bZ f) a];exact(m _ (iT f)).1
 ·rw[t];have O:0<gs.length:=MO.2 j;have T:0<n*size:=Qd ah h0;rw[mP,fU,MF];omega
 ·rw[t];intro k x a;rw[oh]at a;split at a
  ·rw[uI,yw]at a;exact a
  ·cases a
def VR.ahJ(h:SR P F J w){id n m et:Nat}{f:Bool}{x:Value}{ro':Qf}(s:J.get id=some (.vec m et f))(v:x9 100 m n=true)(d:VR F (.sv id n) x)(e:∀b o,F.ro b=some o->ro' b=some o)(y:∀q,F id=some q->ro' q.bl=w.heap[q.bl]?):
 ∃i,aJ.val m=some (.l i)/\GR ro' (.l i) x:=by
 simp only[VR]at d;obtain⟨i,z,d⟩:=d;rcases d with⟨q,a,j,rfl⟩|⟨k,rfl,rfl⟩
 ·obtain⟨l,t,u,I,A,L,M,D,E⟩:=(h.at s a).OJ;have c:=Ba 100 v t z;refine⟨l,t,?_⟩;have p:=JK u;have:=GR.ab8 (ro':=ro') (off:=0) (n:=i.length) (size:=q.es) (cap:=q.sz/q.es) (cs:=bW l) (gs:=l) E e (y q a) (by unfold takeN;rw[dY,<-c,mg ah,au p]) c j A (λx d=>⟨u x d,D x d⟩) (λN O e g=>by unfold bW at g⊢;exact(qX _ _).1 (aU.mono e _ _ ((qX _ _).2 g)))
  simpa using this
 ·rcases h.live id _ s with⟨q,a,_⟩|⟨_,Q,G,R,H,r⟩
  ·rw[(h.kZ id k).1]at a;cases a
  ·cases H;exact⟨[],r,by simp[GR]⟩
def ae4{F':Env}(a:F.le F'){o:Q4}{v:WD}(h:nI F o v):nI F' o v:=by cases o<;>cases v<;>first|exact h|exact VR.mono a _ _ h
def St.aAb(h:SR P F J w){id m et k:Nat}{f:Bool}(y:J.get id=some (.vec m et f))(d:F.gh id=true)(v:aJ.val k=some (.l [])):St P F J w F (J.put id (.vec k et f)) w:=by
 have get:∀i u,(J.put id (.vec k et f)).get i=some u->(i=id/\u=.vec k et f)\/(i≠id/\J.get i=some u):=by
  intro i u hi;rw[aC.get_put]at hi;split at hi
  ·next e=>cases hi;exact .inl ⟨e,rfl⟩
  ·next e=>exact .inr ⟨e,hi⟩
 have a:∀q,F id≠some q:=λq n=>by rw[(h.kZ id d).1]at n;cases n
 refine⟨Env.le.refl _,⟨h.oO,h.dom,λi u hi=>?_,h.kZ,λi u o p q r g j c l s t=>?_,h.jF,λi u q g j c=>?_,h.tabs⟩,dP _,λ_ _ _=>rfl,λi u q g j c l=>?_,rfl,rfl,rfl,rfl,dP _,λ_ h=>.inl h,λ_ h=>.inl h⟩
 ·rcases get i u hi with⟨rfl,rfl⟩|⟨_,b⟩
  ·exact .inr ⟨d,k,et,f,rfl,v⟩
  ·exact h.live i u b
 ·rcases get i u g with⟨rfl,_⟩|⟨_,b⟩
  ·exact absurd s (a q)
  ·rcases get o p c with⟨rfl,_⟩|⟨_,x⟩
   ·exact absurd t (a r)
   ·exact h.sep i u o p q r b j x l s t
 ·rcases get i u g with⟨rfl,_⟩|⟨_,b⟩
  ·exact absurd c (a q)
  ·exact h.ng i u q b j c
 ·rcases get i u g with⟨rfl,_⟩|⟨_,b⟩
  ·exact absurd l (a q)
  ·exact .inr ⟨i,u,q,b,j,c,l,rfl⟩
def aEL(h:SR P F J w){t:TypeId}{a v:AV}{x:Value}{lo hi:Q4}{H I:WD}(d:YK P t J a lo hi=some (v,J'))(A:VR F a x)(O:nI F lo H)(Q:nI F hi I):
 ∃y w' F',(Instr.sliceAt t x H I none).run P w=.ok y w'/\St P F J w F' J' w'/\VR F' v y:=by
 unfold YK at d;split at d;rotate_left
 ·cases d
 next e id n hu=>
 split at d;rotate_left
 ·cases d
 next m et f R s L=>
 split at d;rotate_left
 ·cases d
 next Z=>
 simp only[aO]at Z;obtain⟨⟨c1,c2⟩,c3⟩:=Z;have e1:=bV c1;subst e1;have S:=wB c3;cases lo with
 |some l0=>
  simp only at d;obtain⟨r,hr,e2⟩:=bJ.1 d;cases e2;have T:∀U:Env,SR P U (J.kill id) w->St P F J w U (J.kill id) w->VR U (.nd m) x->∃y w' F',(Instr.sliceAt t x H I none).run P w=.ok y w'/\St P F J w F' (J.kill id) w'/\VR F' v y:=by intro U h1 b hv;obtain⟨y,k1,k2⟩:=amv h1 hr hv (ae4 b.ext O) (ae4 b.ext Q);exact⟨y,w,U,k1,b,k2⟩
  have D:=A;simp only[VR]at D;obtain⟨ys,k1,D⟩:=D;rcases D with⟨q,i,aa,_⟩|⟨E,_,_⟩
  ·have b:=St.freeze h s rfl S i;obtain⟨o,M,N⟩:=VR.ahJ (ro':=IL F.ro w q.bl) h s c2 A (X0 h.jF q.bl) (λq' u=>by rw[i]at u;cases u;unfold IL;rw[au rfl]);exact T _ b.rel b (by simp only[VR];exact⟨_,M,rfl,N⟩)
  ·obtain⟨o,M,N⟩:=VR.ahJ (ro':=F.ro) h s c2 A (λ_ _ h=>h) (λq' u=>by rw[(h.kZ id E).1]at u;cases u);have b:=(St.refl h).Xd id;exact T F b.rel b (by simp only[VR];exact⟨_,M,rfl,N⟩)
 |none=>
  simp only at d;split at d;rotate_left
  ·cases d
  next z hh h1 h2=>
  obtain⟨k,hk,e2⟩:=bJ.1 d;cases e2;obtain⟨g,g1,g2⟩:=iG hk;simp only[Nd.den]at g2;split at g2;rotate_left
  ·cases g2
  next p kl li kh c e3 e4 e5=>
  split at g2;rotate_left
  ·cases g2
  next Z=>
  cases g2;obtain⟨b1,b2,b3,b4⟩:=Z;have hz:li=0:=by obtain⟨gz,M,N⟩:=iG h1;simp only[Nd.den,bF]at N;subst N;rw[e4]at M;cases M;rfl
  subst hz;have ac:Qx (none:Q4)=some z:=h1;obtain⟨ad,ae,d1,d2,d3⟩:=adU (len:=p.length) ac h2 O Q e4 e5 (λhd=>by simp only[Nd.den,e3,bF,GV.i.injEq]at hd;exact hd.2.symm) b1 b2 b3;have al:(0:Int).toNat=0:=rfl;simp only[VR]at A;obtain⟨ys,y1,A⟩:=A;have G:=Ba 100 c2 e3 y1;have af:(p.take c.toNat).drop (0:Int).toNat=p.take c.toNat:=aA;rw[af]at g1;have Rq:c.toNat<=p.length:=ah;rcases A with⟨q,i,aa,rfl⟩|⟨E,rfl,rfl⟩
  ·have ag:=h.at s i;obtain⟨am,cs,V,fr,o,o1,o2,o3,o4,o5,o6,o7,o8,o9⟩:=ag;rw[e3]at o1;cases o1
   have hB:=G9 (P:=P) (w:=w) (sl:=true) (cap:=q.sz/q.es) d3 (λk hk=>by have:k<=p.length:=by simpa using hk
                                                                       omega) ah d1 d2
   have ai:0<q.es/\sizeT P e=some q.es:=⟨(o7.room rfl).2.1,(o7.room rfl).2.2⟩
   have an:R=q.es:=by have:=ai.2;rw[L]at this;cases this;rfl
   have W:OR P F q w (.vec k e f):=by
    have ao:=o3.length;refine⟨p.take c.toNat,cs,V,fr,o.take c.toNat,g1,o2,?_,λy hy=>o4 y (MR hy),?_,?_,o7,λx A=>o8 x (MR A),o9⟩
    ·have:∀(p:Q1)(o:Q6)(n:Nat),aU F.ro p o->aU F.ro (p.take n) (o.take n):=by
      intro p;induction p with
      |nil=>intro o n s;simp only[aU]at s;subst s;simp[aU]
      |cons a l ih=>
       intro o n s;simp only[aU]at s;obtain⟨x,us,rfl,a1,a2⟩:=s;cases n with
       |zero=>simp[aU]
       |succ n=>simp only[BA,aU];exact⟨x,us.take n,rfl,a1,ih us n a2⟩
     exact this _ _ _ o3
    ·intro j x hj;refine o5 j x ?_;have X:(eP (o.take c.toNat)) <+: eP o:=by unfold eP;rw[show o=o.take c.toNat++o.drop c.toNat from(Ji _ _).symm];rw[aeP];simp only[Ji];exact List.prefix_append _ _
     obtain⟨r,hr⟩:=X;rw[<-hr,pG (gu.1 hj).1];exact hj
    ·rw[mP];refine kW (wC _ (Nat.min_le_right _ _)) o6
   have b:=St.write h s rfl S i (w':=w) (o':=.vec k e f) rfl (λ_ _=>rfl) rfl rfl rfl W;refine⟨.slice (some ⟨q.bl,q.ba,none⟩) c.toNat (q.sz/q.es),w,F,?_,b,?_⟩
   ·rw[G]at hB;simp only[Instr.sliceAt,Instr.slice,bG hu,aZ,aY,hB.1,jO L,bQ];by_cases e0:q.sz/q.es=0
    ·simp[e0]
    ·have e1:¬q.sz/q.es=(0:Int).toNat:=e0;rw[aj e1];simp[tX]
   ·simp only[VR];refine⟨p.take c.toNat,g1,.inl ⟨q,i,?_,?_⟩⟩
    ·rw[mP];omega
    ·rw[mP,MX Rq]
  ·have ak:p=[]:=kK (by simpa using G);subst ak;have ap:c.toNat=0:=by simpa using Rq
   have hl:Dp P t J .iq ad ae=some .iq:=by simp only[Dp,hu,L];simp only[lK]at d3;rw[d3];rfl
   obtain⟨y,u1,u2⟩:=Yq h hl (show VR F .iq (.slice none 0 0) by simp only[VR]) d1 d2;simp only[VR]at u2;subst u2;have Y:aJ.val k=some (.l []):=by rw[g1];simp
   refine⟨_,w,F,u1,St.aAb h s E Y,?_⟩;simp only[VR];exact⟨[],Y,.inr ⟨E,by trivial,by trivial⟩⟩
def wX(a:Wg):TypeDesc:=match a with
 |some k=>.int k
 |none=>.string
def Xc{s:TypeId}{k:AV}{n:Nat}{d:Wg}{y:Value}(h:RH P s k=some (n,d))(t:VR F k y):
 P.underlying s=some (wX d)/\∃g,aJ.val n=some g/\Ce d g/\GR F.ro g y:=by
 unfold RH at h;split at h
 ·next v m f i=>
  split at h
  ·next z l=>
   obtain⟨j,o,e⟩:=bJ.1 h;cases e;obtain⟨g,b,_,p⟩:=nV i t;obtain⟨u,q,c⟩:=iG l;simp only[Nd.den,bF]at c;subst c;obtain⟨r,_,a⟩:=iG o;simp only[Nd.den,b,q]at a;refine⟨f,g,b,?_,p⟩;cases g<;>simp only[jd,dw,reduceCtorEq]at a
   split at a
   ·next e=>subst e;exact⟨_,rfl⟩
   ·cases a
  ·cases h
 ·next m f i=>
  split at h
  ·next z l=>
   obtain⟨j,o,e⟩:=bJ.1 h;cases e;obtain⟨g,b,_,p⟩:=nV i t;obtain⟨u,q,c⟩:=iG l;simp only[Nd.den,bF]at c;subst c;obtain⟨r,_,a⟩:=iG o;simp only[Nd.den,b,q]at a;refine⟨f,g,b,?_,p⟩;cases g<;>simp only[jd,zk,reduceCtorEq]at a
   exact⟨_,rfl⟩
  ·cases h
 ·cases h
def alM{k:IntKind}{a b:Int}:Instr.sameNow (.int k) (.int k a) (.int k b)=some (a==b):=by simp[Instr.sameNow]
def alO{a b:Q0}:Instr.sameNow .string (.string ⟨⟨a⟩⟩) (.string ⟨⟨b⟩⟩)=some (a==b):=by simp[Instr.sameNow,Jy]
def aiQ{o:Wg}{n:Nat}{e:AV}{g:GV}{x y:Value}{b:Bool}(h:abB n e=some b)(p:aJ.val n=some g)(z:Ce o g)(f:GR F.ro g y)(A:VR F e x):
 Instr.sameNow (wX o) y x=some b:=by
 unfold abB at h;split at h
 ·next m D=>
  obtain⟨i,q,_,l⟩:=nV D A;have s:∃r,(Nd.bin .eql n m).den aJ.I aJ.val=some r/\r=.b b:=by
   split at h
   ·next E t=>
    cases h;obtain⟨j,r,G,d,u⟩:=oU (F:=F) t;refine⟨r,d,?_⟩;simp only[Nd.den,p,q]at d;have:∃c,r=.b c:=by
     cases g<;>cases i<;>simp only[jd,reduceCtorEq]at d
     ·split at d
      ·simp only[dw,bF]at d;exact⟨_,d.symm⟩
      ·cases d
     ·simp only[zk,bF]at d;exact⟨_,d.symm⟩
    obtain⟨c,rfl⟩:=this;have:=u (.bool c) rfl (by simp only[GR]);simp only[VR]at this;cases this;rfl
   ·next j t=>
    split at h
    ·next E H=>
     cases h;obtain⟨N,r,G,d,u⟩:=oU (F:=F) t;refine⟨r,d,?_⟩;simp only[Nd.den,p,q]at d;have:∃c,r=.b c:=by
      cases g<;>cases i<;>simp only[jd,reduceCtorEq]at d
      ·split at d
       ·simp only[dw,bF]at d;exact⟨_,d.symm⟩
       ·cases d
      ·simp only[zk,bF]at d;exact⟨_,d.symm⟩
     obtain⟨c,rfl⟩:=this;have I:=u (.bool c) rfl (by simp only[GR]);obtain⟨v,L,M⟩:=JR H;cases L;have:=M F _ I;simp only[VR]at this;cases this;rfl
    ·cases h
   ·cases h
  obtain⟨r,d,rfl⟩:=s;simp only[Nd.den,p,q]at d;cases o with
  |some k=>
   obtain⟨a,rfl⟩:=z;simp only[GR]at f;subst f;cases i<;>simp only[jd,reduceCtorEq]at d
   split at d
   ·next e=>
    subst e;simp only[dw,bF,GV.b.injEq]at d;simp only[GR]at l;subst l;show Instr.sameNow (.int _) _ _=_
    rw[alM,d]
   ·cases d
  |none=>
   obtain⟨a,rfl⟩:=z;simp only[GR]at f;subst f;cases i<;>simp only[jd,zk,reduceCtorEq]at d
   simp only[bF,GV.b.injEq]at d;simp only[GR]at l;subst l;show Instr.sameNow .string _ _=_
   rw[alO,d]
 ·cases h
def QY{o:Wg}{n:Nat}{g:GV}{y:Value}(f:aJ.val n=some g)(j:Ce o g)(k:GR F.ro g y):∀{es:XX}{b:List MapEntry}{i:Nat}{r:Option (Nat×AV)},
 N8 n es i=some r->Df F es b->∃d,Instr.findNow (wX o) y b i=some d/\(match r,d with|none,none=>True|some (_,v),some (_,z)=>VR F v z|_,_=>False)
 |[],b,i,r,h,l=>by
  simp only[N8,bF]at h;subst h;have:b=[]:=by have:=l.1;cases b<;>simp_all
  subst this;exact⟨none,rfl,trivial⟩
 |e::es,b,i,r,h,l=>by
  obtain⟨m,p,rfl,q,s,t⟩:=l.tail;unfold N8 at h;split at h
  ·next a=>
   cases h;have a:=aiQ a f j k q;exact⟨some (i,m.val),by simp[Instr.findNow,a],s⟩
  ·next a=>
   have a:=aiQ a f j k q;obtain⟨d,u,c⟩:=QY f j k h t;exact⟨d,by simp[Instr.findNow,a,u],c⟩
  ·cases h
def alN{b:Wg}{g a:GV}{y x:Value}{ro:Qf}(e:Ce b g)(f:Ce b a)(c:GR ro g y)(d:GR ro a x):Instr.sameNow (wX b) y x=some (rJ g a):=by
 cases b with
 |some k=>
  obtain⟨m,rfl⟩:=e;obtain⟨n,rfl⟩:=f;simp only[GR]at c d;subst c;subst d;show Instr.sameNow (.int _) _ _=_
  rw[alM];simp[rJ]
 |none=>
  obtain⟨m,rfl⟩:=e;obtain⟨n,rfl⟩:=f;simp only[GR]at c d;subst c;subst d;show Instr.sameNow .string _ _=_
  rw[alO];rfl
def V7{ro:Qf}{e:Wg}{sz:W2}{g:GV}{y:Value}(n:Ce e g)(o:GR ro g y):∀{xs:Q1}{c:List MapEntry}{i:Nat},vF ro e sz xs c->
 (gZ g xs=none/\Instr.findNow (wX e) y c i=some none)\/∃u j z,gZ g xs=some u/\Instr.findNow (wX e) y c i=some (some (j,z))/\i<=j/\(∃m,c[j-i]? =some m/\Instr.sameNow (wX e) y m.key=some true)/\PV sz u/\GR ro u z
 |[],c,i,h=>by simp only[vF]at h;subst h;exact .inl ⟨rfl,rfl⟩
 |x::xs,c,i,h=>by
  obtain⟨a,b,m,rest,rfl,rfl,h1,p,q,r,h5⟩:=h;have d:=alN n h1 o q;cases f:rJ g a with
  |true=>rw[f]at d;exact .inr ⟨b,i,m.val,by simp[gZ,f],by simp[Instr.findNow,d],dP _,⟨m,aA,d⟩,p,r⟩
  |false=>
   rw[f]at d;rcases V7 (i:=i+1) n o h5 with⟨k,l⟩|⟨u,j,z,k,l,D,⟨s,t,v⟩,A⟩
   ·exact .inl ⟨by simp[gZ,f,k],by simp[Instr.findNow,d,l]⟩
   ·refine .inr ⟨u,j,z,by simp[gZ,f,k],by simp[Instr.findNow,d,l],ah,⟨s,?_,v⟩,A⟩;have:j-i=(j-(i+1))+1:=ah;rw[this];simpa using t
def alc{ro:Qf}{f:Wg}{sz:W2}{g u:GV}{e:MapEntry}(i:Ce f g)(j:PV sz u)(h1:GR ro g e.key)(k:GR ro u e.val):∀{xs:Q1}{c:List MapEntry},vF ro f sz xs c->gZ g xs=none->
 vF ro f sz (kH g u xs) (c++[e])
 |[],c,h,_=>by simp only[vF]at h;subst h;exact⟨g,u,e,[],rfl,rfl,i,j,h1,k,rfl⟩
 |x::xs,c,h,d=>by
  obtain⟨a,b,m,rest,rfl,rfl,q1,l,n,o,p⟩:=h;simp only[gZ]at d;split at d
  ·cases d
  ·next q=>
   simp only[kH,aj q];exact⟨a,b,m,rest++[e],rfl,rfl,q1,l,n,o,alc i j h1 k p d⟩
def ald{ro:Qf}{k:Wg}{sz:W2}{g u:GV}{y p:Value}(l:Ce k g)(r:PV sz u)(h1:GR ro g y)(s:GR ro u p):∀{xs:Q1}{d:List MapEntry}{i j:Nat}{z:Value},vF ro k sz xs d->Instr.findNow (wX k) y d i=some (some (j,z))->
 vF ro k sz (kH g u xs) (d.modify (j-i) λe=>{e with key:=y,val:=p})
 |[],d,i,j,z,h,c=>by simp only[vF]at h;subst h;simp[Instr.findNow]at c
 |x::xs,d,i,j,z,h,c=>by
  obtain⟨a,b,m,f,rfl,rfl,t,A,v,D,q⟩:=h;have n:=alN l t h1 v;cases o:rJ g a with
  |true=>rw[o]at n;simp only[Instr.findNow,n,bF,qI]at c;obtain⟨rfl,rfl⟩:=c;simp only[kH,o,if_true,Dh];exact⟨g,u,{m with key:=y,val:=p},f,rfl,aA,l,r,h1,s,q⟩
  |false=>
   rw[o]at n;simp only[Instr.findNow,n]at c;have G:i+1<=j:=by
    rcases V7 (i:=i+1) l h1 q with⟨_,r2⟩|⟨_,H,_,_,r2,r3,_⟩
    ·rw[c]at r2;cases r2
    ·rw[c]at r2;cases r2;exact r3
   have E:=ald l r h1 s q c;have e:j-i=(j-(i+1))+1:=ah;rw[e];simp only[kH,o,iZ,if_false,List.modify_succ_cons];exact⟨a,b,m,_,rfl,rfl,t,A,v,D,E⟩
def Vu{c:TypeId}{d:Wg}{g:GV}{y:Value}(e:P.underlying c=some (wX d))(f:Ce d g)(a:GR F.ro g y)(b:Bool):(Instr.checkKey b 10000 c y).run P w=.ok () w:=by
 have H:∀n:Nat,(Instr.checkKey b (n+1) c y).run P w=.ok () w:=λn=>by
  cases d with
  |some k=>obtain⟨m,rfl⟩:=f;simp only[GR]at a;subst a;simp only[Instr.checkKey,aZ,bG e,aY,wX,bQ]
  |none=>obtain⟨m,rfl⟩:=f;simp only[GR]at a;subst a;simp only[Instr.checkKey,aZ,bG e,aY,wX,bQ]
 exact H 9999
def amU{et:TypeId}{v:AV}{n:Nat}{sz:W2}{x:Value}(h:Ua P et v=some (n,sz))(i:VR F v x):∃g,aJ.val n=some g/\PV sz g/\GR F.ro g x/\(match qp P et with
 |some true=>∃k,sizeT P et=some k/\sz=some k
 |some false=>sz=none
 |none=>False):=by
 unfold Ua at h;split at h
 ·next a=>
  split at h
  ·next j k b m=>
   split at h
   ·next o=>
    cases h;obtain⟨l,p,rfl,c,d,f,q⟩:=Np b i;rw[a];refine⟨_,d,⟨p,rfl,?_,f⟩,q,k,m,rfl⟩;rw[c];exact bV o
   ·cases h
  ·cases h
 ·next a=>
  obtain⟨j,b,e⟩:=bJ.1 h;cases e;obtain⟨g,c,d,f⟩:=nV b i;rw[a];exact⟨g,c,d,f,rfl⟩
 ·cases h
def Xe{a b:Wg}(h:Oy a b=true):a=b:=by
 cases a<;>cases b<;>simp only[Oy]at h
 ·rfl
 ·cases h
 ·cases h
 ·rw[W9 h]
def adV{a b:W2}(h:TP a b=true):a=b:=by
 cases a<;>cases b<;>simp only[TP]at h
 ·rfl
 ·cases h
 ·cases h
 ·rw[bV h]
def aek{et:TypeId}{z:AV}(h:Uh P et=some z):∃x,(zeroValue et).run P w=.ok x w/\VR F z x:=by
 unfold Uh at h;split at h
 ·next i hi=>
  split at h
  ·next x a=>
   obtain⟨b,c⟩:=Y7 (w:=w) (F:=F) hi a h;exact⟨x,b,c⟩
  ·cases h
 ·cases h
def avn:∀(cs:Q1)(n:Nat),cs.length=n->takeN (eY cs) 0 n=some (eY cs):=by
 intro cs n a;have b:(eY cs).length=n:=by rw[oG,a]
 simp only[takeN,dY];rw[mg ah,au b]
def jC(s:ByteArray):∀(l:List MapEntry)(i:Nat),(∀m∈l,∃t,m.key=.string t)->
 (∃j m,Instr.findNow .string (.string s) l i=some (some (j,m.val))/\m∈l/\m.key=.string s)\/(Instr.findNow .string (.string s) l i=some none/\∀m∈l,m.key≠.string s)
 |[],i,_=>.inr ⟨rfl,λm k=>by simp at k⟩
 |m::l,i,h=>by
  obtain⟨t,n⟩:=h m aA;have f:Instr.sameNow .string (.string s) m.key=some (s==t):=by rw[n];rfl
  have g:(s==t)=decide (s=t):=by
   obtain⟨⟨a⟩⟩:=s;obtain⟨⟨b⟩⟩:=t;rw[Jy];by_cases c:a=b
   ·subst c;simp
   ·rw[ER (by simpa using c)];simpa using c
  by_cases c:s=t
  ·subst c;rw[g,JU rfl]at f;exact .inl ⟨i,m,by simp[Instr.findNow,f],aA,n⟩
  ·rw[g,ER c]at f;rcases jC s l (i+1) (λm k=>h m (by simp[k]))with⟨j,o,p,q,r⟩|⟨p,q⟩
   ·exact .inl ⟨j,o,by simp[Instr.findNow,f,p],by simp[q],r⟩
   ·refine .inr ⟨by simp[Instr.findNow,f,p],λo d=>?_⟩;simp only[bI]at d;rcases d with rfl|d
    ·rw[n];simpa using λe=>c e.symm
    ·exact q o d
def ahw(s:ByteArray){l c:List MapEntry}(f:l.Perm c)(o:∀m∈c,∃t,m.key=.string t)(i:(c.map (·.key)).Nodup){r:Option (Nat×Value)}(h:Instr.findNow .string (.string s) c 0=some r):
 ∃x,Instr.findNow .string (.string s) l 0=some x/\(match r,x with|none,none=>True|some (_,v),some (_,z)=>v=z|_,_=>False):=by
 have g:∀m∈l,∃t,m.key=.string t:=λm hm=>o m (f.mem_iff.1 hm);have p:∀m∈c,∀d∈c,m.key=d.key->m=d:=by
  clear f o h g;induction c with
  |nil=>intro m hm;simp at hm
  |cons a l D=>
   simp only[iU,List.nodup_cons,rZ,not_exists,not_and]at i;intro m hm d b e;simp only[bI]at hm b;rcases hm with rfl|hm<;>rcases b with rfl|b
   ·rfl
   ·exact absurd e.symm (i.1 d b)
   ·exact absurd e (i.1 m hm)
   ·exact D i.2 m hm d b e
 rcases jC s c 0 o with⟨j,m,q,k,y⟩|⟨q,k⟩<;>rcases jC s l 0 g with⟨E,d,u,n,A⟩|⟨u,n⟩
 ·rw[q]at h;cases h;refine⟨_,u,?_⟩;have:=p m k d (f.mem_iff.1 n) (by rw[y,A]);subst this;rfl
 ·exact absurd y (n m (f.mem_iff.2 k))
 ·exact absurd A (k d (f.mem_iff.1 n))
 ·rw[q]at h;cases h;exact⟨_,u,trivial⟩
def aEJ(h:SR P F J w){t:TypeId}{m k v:AV}{x y:Value}{ok:Bool}(c:YH P t m k ok J=some v)(hx:VR F m x)(hy:VR F k y):
 ∃z,(Instr.lookup t x y ok).run P w=.ok z w/\VR F v z:=by
 unfold YH at c;split at c;rotate_left
 ·cases c
 next E et id hu=>
 simp only[VR]at hx;obtain⟨q,hq,rfl⟩:=hx;split at c
 ·next n kk es hn hg=>
  obtain⟨I,g,S,g2,g3⟩:=Xc hn hy;obtain⟨q',f,G,L,hb,M,Z⟩:=h.obj _ _ hg rfl;rw[hq]at f;cases f;have N:Df F es G.toList:=⟨by simpa using M,λk e hk=>by obtain⟨m,T,o,A⟩:=Z k e hk;exact⟨m,by simpa using T,o,A⟩⟩
  rw[Xo hu y ok hb];have l:∀b,(Instr.checkKey b 10000 E y).run P w=.ok () w:=λb=>Vu I g2 g3 b;split at c
  ·next j u U=>
   cases c;obtain⟨V,o,A⟩:=QY S g2 g3 U N;cases V with
   |none=>exact A.elim
   |some p=>
    obtain⟨j',z⟩:=p;have d:(Instr.findKey E y G.toList).run P w=.ok (some (j',z)) w:=by simp only[Instr.findKey,aZ,bG I,aY,o,bQ]
    refine⟨if ok then .tuple #[z,.bool true]else z,?_,?_⟩
    ·simp only[vN,aZ,aY,l,d,bQ]
    ·cases ok
     ·simpa using A
     ·simp only[VR];exact⟨[z,.bool true],rfl,aG.cons A (aG.cons (by simp[VR]) (by simp[aG]))⟩
  ·next U=>
   obtain⟨V,o,A⟩:=QY S g2 g3 U N;cases V with
   |some p=>exact A.elim
   |none=>
    have d:(Instr.findKey E y G.toList).run P w=.ok none w:=by simp only[Instr.findKey,aZ,bG I,aY,o,bQ]
    obtain⟨a,ha,rfl⟩:=bJ.1 c;obtain⟨z,h3,O⟩:=aek (w:=w) (F:=F) ha;refine⟨if ok then .tuple #[z,.bool false]else z,?_,?_⟩
    ·simp only[vN,aZ,aY,l,d,h3,bQ]
    ·cases ok
     ·simpa using O
     ·simp only[VR];exact⟨[z,.bool false],rfl,aG.cons O (aG.cons (by simp[VR]) (by simp[aG]))⟩
  ·cases c
 ·next n kk es hn hg=>
  obtain⟨I,g,S,g2,g3⟩:=Xc hn hy;obtain⟨q',f,ai,G,L,H,hb,aa,M,Z⟩:=h.obj _ _ hg rfl;rw[hq]at f;cases f;split at c;rotate_left
  ·cases c
  next W=>
  have:=Xe W;subst this;have N:Df F (es.map λe=>(AV.s e.1,e.2)) H:=⟨by simpa using M,λk e hk=>by rw[jy]at hk;obtain⟨e0,O,rfl⟩:=bJ.1 hk;obtain⟨m,T,o,A⟩:=Z k e0 O;exact⟨m,T,by simp only[VR];exact o,A⟩⟩
  have Q:H.map (·.key)=es.map λe=>Value.string ⟨⟨e.1⟩⟩:=by
   apply Jf;intro k;rw[jy,jy];cases he:es[k]? with
   |none=>
    have:H[k]? =none:=by rw[List.getElem?_eq_none_iff]at he⊢;omega
    rw[this];rfl
   |some e=>obtain⟨m,T,o,_⟩:=Z k e he;rw[T];simp[o]
  have ab:∀m∈H,∃t,m.key=.string t:=λm T=>by have:m.key∈H.map (·.key):=List.mem_map_of_mem T;rw[Q]at this;obtain⟨e,_,o⟩:=rZ.1 this;exact⟨_,o.symm⟩
  have ac:(H.map (·.key)).Nodup:=by rw[Q];have:(es.map λe=>Value.string ⟨⟨e.1⟩⟩)=(es.map (·.1)).map λs=>Value.string ⟨⟨s⟩⟩:=aA;rw[this];refine List.Pairwise.map _ (λa b ak hc=>ak ?_) ai;simpa using hc
  obtain⟨s,al,aw⟩:∃s,y=.string s/\True:=by obtain⟨s0,rfl⟩:=g2;simp only[GR]at g3;exact⟨_,g3,trivial⟩
  subst al;rw[Xo hu _ ok hb];have l:∀b,(Instr.checkKey b 10000 E (.string s)).run P w=.ok () w:=λb=>Vu I g2 g3 b;split at c
  ·next j u U=>
   cases c;obtain⟨V,o,A⟩:=QY S g2 g3 U N;cases V with
   |none=>exact A.elim
   |some p=>
    obtain⟨j',z⟩:=p;obtain⟨r2,h3,O⟩:=ahw s aa ab ac o;cases r2 with
    |none=>exact O.elim
    |some p2=>
    obtain⟨j2,z2⟩:=p2;have O:z=z2:=O;subst O;have d:(Instr.findKey E (.string s) G.toList).run P w=.ok (some (j2,z)) w:=by simp only[Instr.findKey,aZ,bG I,aY,wX,h3,bQ]
    refine⟨if ok then .tuple #[z,.bool true]else z,?_,?_⟩
    ·simp only[vN,aZ,aY,l,d,bQ]
    ·cases ok
     ·simpa using A
     ·simp only[VR];exact⟨[z,.bool true],rfl,aG.cons A (aG.cons (by simp[VR]) (by simp[aG]))⟩
  ·next U=>
   obtain⟨V,o,A⟩:=QY S g2 g3 U N;cases V with
   |some p=>exact A.elim
   |none=>
    obtain⟨r2,h3,O⟩:=ahw s aa ab ac o;cases r2 with
    |some p2=>exact O.elim
    |none=>
    have d:(Instr.findKey E (.string s) G.toList).run P w=.ok none w:=by simp only[Instr.findKey,aZ,bG I,aY,wX,h3,bQ]
    obtain⟨a,ha,rfl⟩:=bJ.1 c;obtain⟨z,h5,h6⟩:=aek (w:=w) (F:=F) ha;refine⟨if ok then .tuple #[z,.bool false]else z,?_,?_⟩
    ·simp only[vN,aZ,aY,l,d,h5,bQ]
    ·cases ok
     ·simpa using h6
     ·simp only[VR];exact⟨[z,.bool false],rfl,aG.cons h6 (aG.cons (by simp[VR]) (by simp[aG]))⟩
  ·cases c
 ·next n kk j Fv sz hn hg=>
  obtain⟨I,g,S,g2,g3⟩:=Xc hn hy;obtain⟨q',f,xs,G,L,hv,hb,Z⟩:=h.obj _ _ hg rfl;rw[hq]at f;cases f;rw[Xo hu y ok hb];have l:∀b,(Instr.checkKey b 10000 E y).run P w=.ok () w:=λb=>Vu I g2 g3 b;split at c;rotate_left
  ·cases c
  next W=>
  have:=Xe W;subst this;split at c;rotate_left
  ·cases c
  next zn ax hz=>
  split at c;rotate_left
  ·cases c
  next M=>
  have:=adV M;subst this;obtain⟨za,am,an⟩:=yE.1 hz;obtain⟨zv,z1,z2⟩:=aek (w:=w) (F:=F) am;obtain⟨zg,z3,z4,z5,z6⟩:=amU an z2;split at c;rotate_left
  ·cases c
  next u ao=>
  obtain⟨jn,hj,X⟩:=yE.1 ao;obtain⟨rg,r1,r2⟩:=iG hj;simp only[Nd.den,z3,hv,S,bF]at r2;have fin:∀(z:Value)(b:Bool),PV sz rg->GR F.ro rg z->(gZ g xs).isSome=b->vN E et y ok G=vN E et y ok G->(vN E et y ok G).run P w=.ok (if ok then .tuple #[z,.bool b]else z) w->∃z,(vN E et y ok G).run P w=.ok z w/\VR F v z:=by
   intro z b ad Y ap _ D;have ae:VR F u z:=by
    obtain⟨r,R,q2⟩:=adT (F:=F) r1 X;cases af:qp P et with
    |none=>rw[af]at z6;exact z6.elim
    |some ag=>
     rw[af]at z6 R;cases ag with
     |true=>obtain⟨kn,k1,k2⟩:=z6;subst k2;obtain⟨cs,rfl,c1,c2⟩:=ad;simp only[k1,GV.cells,avn cs kn c1,iJ,bF]at R;subst R;apply q2;simp only[GR]at Y;obtain⟨vs,rfl,aq⟩:=Y;simp only[VR];exact⟨vs,rfl,(qX _ _).1 aq⟩
     |false=>
      simp only at z6;subst z6;have ar:rg.scalar=true:=ad;have hc:rg.cells=[rg]:=by cases rg<;>first|rfl|(simp[GV.scalar]at ar)
      simp only[hc,Rf,l9,iJ,bF]at R;subst R;exact q2 _ ((nH _ _).1 Y)
   cases ok with
   |false=>simp only[iZ,if_false,bF]at c D;subst c;exact⟨z,D,ae⟩
   |true=>
    simp only[if_true]at c D;split at c
    ·next bb av=>
     cases c;obtain⟨_,gb,_,b2,b3⟩:=oU (F:=F) av;simp only[Nd.den,hv,S,bF]at b2;subst b2;refine⟨_,D,?_⟩;simp only[VR];exact⟨[z,.bool b],rfl,aG.cons ae (aG.cons (b3 _ rfl (by simp only[GR];rw[ap])) (by simp[aG]))⟩
    ·cases c
  rcases V7 (i:=0) g2 g3 Z with⟨R,q2⟩|⟨u',j',z,R,q2,_,_,q5,q6⟩
  ·have d:(Instr.findKey E y G.toList).run P w=.ok none w:=by simp only[Instr.findKey,aZ,bG I,aY,q2,bQ]
   rw[R,xC]at r2;subst r2;refine fin zv false z4 z5 (by rw[R];rfl) rfl ?_;simp only[vN,aZ,aY,l,d,z1,bQ]
  ·have d:(Instr.findKey E y G.toList).run P w=.ok (some (j',z)) w:=by simp only[Instr.findKey,aZ,bG I,aY,q2,bQ]
   rw[R,uK]at r2;subst r2;refine fin z true q5 q6 (by rw[R];rfl) rfl ?_;simp only[vN,aZ,aY,l,d,bQ]
 ·cases c
def aDr{d:Wg}{g a:GV}{y x:Value}(f:Ce d g)(c:GR F.ro g y)(b:Instr.sameNow (wX d) y x=some true)(n:Nat):Instr.sameBits (n+1) x y=true:=by
 cases d with
 |some k=>
  obtain⟨m,rfl⟩:=f;simp only[GR]at c;subst c;cases x<;>simp only[Instr.sameNow,wX,reduceCtorEq]at b
  split at b
  ·next e=>subst e;simp at b;subst b;simp[Instr.sameBits]
  ·cases b
 |none=>
  obtain⟨m,rfl⟩:=f;simp only[GR]at c;subst c;cases x<;>simp only[Instr.sameNow,wX,reduceCtorEq]at b
  next s=>
  obtain⟨⟨l⟩⟩:=s;rw[Jy]at b;simp only[Instr.sameBits,Jy];simp_all
def amu(h:SR P F J w){t:TypeId}{m k v:AV}{x y z:Value}(d:YJ P t m k v J=some J')(hx:VR F m x)(hy:VR F k y)(hz:VR F v z):
 ∃w',(Instr.mapUpdate t x y z).run P w=.ok () w'/\St P F J w F J' w':=by
 unfold YJ at d;split at d;rotate_left
 ·cases d
 next T et id hu=>
 simp only[VR]at hx;obtain⟨q,Q,rfl⟩:=hx;split at d;rotate_left
 ·cases d
 next R=>
 have R:=wB R
 have r:∀(o:bP)(n:Nat)(s:Wg)(u:Nat)(A:W2)(j E:Nat)(I:Q1)(c:Array MapEntry)(b:Nat),J.get id=some o->o.own=true->RH P T k=some (n,s)->Ua P et v=some (u,A)->
  aJ.val j=some (.l I)->w.heap[q.bl]? =some (.map c b)->vF F.ro s A I c.toList->gI (.DU j n u)=some E->∃w',(Instr.mapUpdate t (.map (some q.bl)) y z).run P w=.ok () w'/\St P F J w F (J.put id (.smap E s A)) w':=by
  intro o n s u A j E I c b D ho L f U p H M;obtain⟨V,g,g1,g2,g3⟩:=Xc L hy;obtain⟨ug,u1,u2,u3,_⟩:=amU f hz;obtain⟨rg,r1,r2⟩:=iG M;simp only[Nd.den,U,g1,u1,bF]at r2;subst r2;have N:=Vu (w:=w) V g2 g3 false;have O:(getObj q.bl).run P w=.ok (.map c b) w:=by simp[getObj,Sem.run,p]
  rcases V7 (i:=0) g2 g3 H with⟨q1,S⟩|⟨u',i,zz,q1,S,_,⟨m',q3,q4⟩,q5,q6⟩
  ·have G:(Instr.findKey T y c.toList).run P w=.ok none w:=by simp only[Instr.findKey,aZ,bG V,aY,S,bQ]
   refine⟨pW w q.bl (.map (c.push {key:=y,val:=z,born:=b}) (b+1)),?_,St.write h D ho R Q F5 (λk W=>FZ W) rfl rfl rfl ?_⟩
   ·simp only[Instr.mapUpdate,aZ,bG hu,aY,O,N,G];exact Pm p aA
   ·refine⟨_,_,b+1,r1,Ed p,?_⟩;rw[Array.toList_push];exact alc g2 u2 g3 u3 H q1
  ·have G:(Instr.findKey T y c.toList).run P w=.ok (some (i,zz)) w:=by simp only[Instr.findKey,aZ,bG V,aY,S,bQ]
   rw[Jm,yw]at q3;have X:(Instr.keyThatStays (((c[i]?).map (·.key)).getD y) y).run P w=.ok y w:=by rw[q3];simp only[iJ,uK,Instr.keyThatStays];rw[au (aDr (a:=g) g2 g3 q4 9999)];rfl
   refine⟨pW w q.bl (.map (c.modify i λe=>{e with key:=y,val:=z}) b),?_,St.write h D ho R Q F5 (λk W=>FZ W) rfl rfl rfl ?_⟩
   ·simp only[Instr.mapUpdate,aZ,bG hu,aY,O,N,G,X];exact Pm p aA
   ·refine⟨_,_,b,r1,Ed p,?_⟩;rw[Array.toList_modify];have:=ald (i:=0) g2 u2 g3 u3 H S;rwa [Jm]at this
 split at d
 ·next n s u A L f D=>
  split at d
  ·next j U=>
   obtain⟨E,M,rfl⟩:=bJ.1 d;obtain⟨q',l,c,b,p,Y,H⟩:=h.obj _ _ D rfl;rw[Q]at l;cases l;obtain⟨gl,l1,l2⟩:=iG U;simp only[Nd.den,valsOf,iJ,bF]at l2;subst l2;refine r _ n s u A j E [] c b D rfl L f l1 p ?_ M;simp only[vF];have:c.size=0:=by simpa using Y
   simpa using aem this
  ·cases d
 ·next n s u A j Fv aa L f D=>
  split at d
  ·next Z=>
   rw[aO]at Z;have e1:=Xe Z.1;have e2:=adV Z.2;subst e1;subst e2;obtain⟨E,M,rfl⟩:=bJ.1 d;obtain⟨q',l,I,c,b,hv,p,H⟩:=h.obj _ _ D rfl;rw[Q]at l;cases l;exact r _ n s u A j E I c b D rfl L f hv p H M
  ·cases d
 ·cases d
def axr{v:AV}{x:Value}(h:mapArg v=true)(c:VR F v x):∃k n,x=.int k n:=by
 unfold mapArg at h;split at h
 ·next n=>
  split at h
  ·next a d=>
   obtain⟨g,i,b⟩:=aJ.uo _ _ d aA;simp only[VR]at c;obtain⟨m,e,_,f⟩:=c;rw[i]at e;cases e;simp only[Nd.den]at b;split at b
   ·cases b;simp only[GR]at f;exact⟨_,_,f⟩
   ·cases b
  ·cases h
 ·next j=>
  obtain⟨n,d⟩:=anz.1 h;obtain⟨k,l⟩:=BJ d c;exact⟨k,n,l⟩
def ajd{e:TypeId}{size len m:Nat}{cs:Q3}{vs:Q6}(h:Xl P e size len cs=some m)(j:aG F cs vs):0<size/\0<len/\cs.length=len*size/\∃gs,aJ.val m=some (.l gs)/\gs.length=len/\aG F (bW gs) vs/\∀x∈gs,x.cells.length=size/\x.cells.all GV.scalar=true:=by
 unfold Xl at h;split at h;rotate_left
 ·cases h
 split at h;rotate_left
 ·cases h
 next c r=>
 split at h;rotate_left
 ·cases h
 next i=>
 simp only[aO,qF,jX]at i;obtain⟨⟨h1,k⟩,b⟩:=i;have b:=bV b;have a:0<size:=by
  rcases h1 with⟨_,h1⟩|h1
  ·exact h1
  ·have:=bV h1;omega
 have d:c=false->size=1:=by
  intro e;rcases h1 with⟨h1,_⟩|h1
  ·rw[e]at h1;cases h1
  ·exact bV h1
 split at h
 ·next s f=>
  obtain⟨gs,l,n,o,_,p⟩:=Hz d len f j b;obtain⟨g,q,g2⟩:=iG h;simp only[Nd.den,l,iJ,bF]at g2;subst g2;exact⟨a,k,b,gs,q,n,o,p⟩
 ·cases h
def axf{R:Prop}{t e:TypeId}{size bytes len:Nat}{z:Q3}{D:Wo}{qs:Array (Nat×Value)}{cs:Q3}
 (fin:∀(v:AV)(τ:aC),Xm P J e size len cs=(some v,τ)->(∃y w' F',(Instr.buildSlice t len qs).run P w=.ok y w'/\St P F J w F' τ w'/\VR F' v y)->R)
 (h:SR P F J w) (hi:yN P t=some (e,size,bytes,z)) (d:¬len*size>2^24) (l:Di (λi=>some (i*size,size)) (if len*size=0 then[]else ku len z) D=some cs) (E:Ey F D qs.toList):R:=by
 unfold Xm at fin;split at fin;rotate_left
 ·exact fin _ _ rfl (aoj h hi d l E)
 next m b=>
 refine fin _ _ rfl ?_;obtain⟨L,_,M,N,n,o⟩:=DC hi;obtain⟨Y,O,p⟩:=IU M;have a:0<size/\0<len:=by
  unfold Xl at b;split at b;rotate_left
  ·cases b
  split at b;rotate_left
  ·cases b
  next Q Z=>
  split at b;rotate_left
  ·cases b
  next q=>
  simp only[aO,qF,jX]at q;refine⟨?_,q.1.2⟩;rcases q.1.1 with⟨_,h1⟩|h1
  ·exact h1
  ·have:=bV h1;omega
 have G:¬len*size=0:=by have:=Qd a.2 a.1;omega
 simp only[G,if_false]at l;obtain⟨k,S,j⟩:=N7 l E (Ui (p F) n);have r:=j.length;have s:=EO h (c:=cs) (xs:=k) (elem:=e) (es:=size) (opn:=true) (by rw[r,Bz];exact j) (by simpa using MW r) aA (λ_=>⟨N,a.1,o⟩);obtain⟨_,_,u,gs,H,g2,_,T⟩:=ajd b j;have x:k.size=len*size:=by rw[<-u,r];simp
 have g:k.size/size=len:=by rw[x];exact Zq _ a.1
 obtain⟨U,V⟩:=St.Ae (f:=false) (size:=size) (y:=.slice (some ⟨w.heap.size,0,none⟩) len len) s H T o (λvs A=>by
  obtain⟨_,_,_,W,I,_,X,_⟩:=ajd b A;rw[H]at I;cases I;exact X) (by
  simp only[VR];refine⟨⟨w.heap.size,0,k.size,size⟩,by simp[Env.put],?_,?_⟩
  ·simp only[xC,Jm];rw[g,g2];simp
  ·simp only[xC,Jm,g,g2,pY]) aA
 refine⟨_,_,_,?_,U,V⟩;simp only[Instr.buildSlice,aZ,bG L,aY,jO o,xF,aj d,G,if_false,O,bQ,S,newRow,newObj,Sem.run]
structure TR(P:Program)(F:Env)(a:bM)(A:Act):Prop where
 gn:a.gn=P.globals.size
 size:A.tmps.size=a.n
 none:A.defers=[]
 slot:∀t v,a.t.get t=some v->∃x,A.tmps[t]? =some x/\VR F v x
def TR.mono{F F':Env}{a:bM}{A:Act}(h:TR P F a A)(b:F.le F'):TR P F' a A:=
 ⟨h.gn,h.size,h.none,λt v c=>by obtain⟨x,d,e⟩:=h.slot t v c;exact⟨x,d,VR.mono b _ _ e⟩⟩
def TR.put{a f:bM}{A:Act}{dst:Option Tmp}{r:Q4}{x:Value}(h:TR P F a A)(b:a.put dst r=some f)(g:∀v,r=some v->VR F v x):TR P F f (A.put dst x):=by
 unfold bM.put at b;split at b
 ·cases b;exact h
 ·next d=>
  split at b
  ·next i=>
   cases b;refine⟨h.gn,by simp[Act.put,h.size],h.none,λt v c=>?_⟩;rw[Tr.yO]at c;show ∃y,(A.tmps.setIfInBounds d x)[t]? =some y/\_
   rw[Es];split at c
   ·next e=>
    subst e;rw[au rfl,au (by rw[h.size];exact i)];exact⟨x,rfl,g v c⟩
   ·next e=>rw[aj (λj=>e j.symm)];exact h.slot t v c
  ·cases b
def QW{a:bM}{A:Act}(h:SR P F J w)(d:TR P F a A)(x:Operand)(v:AV)(b:a.eval x=some v):VR F v (A.eval x):=by
 cases x with
 |tmp t=>obtain⟨y,i,j⟩:=d.slot t v b;simp only[Act.eval];rw[Bj,i];exact j
 |const c=>exact FN _ _ _ b
 |global g=>
  simp only[bM.eval]at b;split at b
  ·next e=>
   cases b;rw[d.gn]at e;obtain⟨l,es,k⟩:=h.oO g (Nat.le_of_lt e);simp only[VR,Act.eval];exact⟨_,k,aA⟩
  ·cases b
 |func f=>simp only[bM.eval,bF]at b;subst b;simp only[VR,Act.eval];exact⟨[],[],rfl,by simp[aG],by simp[aG]⟩
def Qe(P:Program)(F:Env)(J:aC)(w:World)(r:Q4)(J':aC)(s:Sem Next):Prop:=
 ∃a b c,s.run P w=.ok a b/\St P F J w c J' b/\(match r with|some v=>∃x,a=.value x/\VR c v x|none=>a=.skip)
def fV{r:AV}{s:Sem Value}(h:∃y w' F',s.run P w=.ok y w'/\St P F J w F' J' w'/\VR F' r y):Qe P F J w (some r) J' (do pure (.value (<-s))):=by obtain⟨y,w',F',a,b,c⟩:=h;exact⟨.value y,w',F',by simp only[aZ,a,aY,bQ],b,y,rfl,c⟩
def OL{s:Sem Unit}(h:∃w' F',s.run P w=.ok () w'/\St P F J w F' J' w'):Qe P F J w none J' (do s;pure .skip):=by obtain⟨w',F',a,b⟩:=h;exact⟨.skip,w',F',by simp only[aZ,a,aY,bQ],b,rfl⟩
def jE{r:AV}{s:Sem Value}(h:SR P F J w)(a:∃y,s.run P w=.ok y w/\VR F r y):∃y w' F',s.run P w=.ok y w'/\St P F J w F' J w'/\VR F' r y:=by obtain⟨y,b,c⟩:=a;exact⟨y,w,F,b,St.refl h,c⟩
def kS{v:Q4}{r:Q4}(h:fH J v=some (r,J')):∃u,v=some u/\r=some u/\J'=J:=by simp only[fH,bJ,qI]at h;obtain⟨u,a,b,c⟩:=h;exact⟨u,a,b.symm,c.symm⟩
def FW{v:Wf}{r:Q4}(h:vU v=some (r,J')):∃u,v=some (u,J')/\r=some u:=by simp only[vU,bJ,Nb,qI]at h;obtain⟨u,s,a,b,c⟩:=h;subst c;exact⟨u,a,b.symm⟩
def adp{v:Option aC}{r:Q4}(h:O8 v=some (r,J')):v=some J'/\r=none:=by simp only[O8,bJ,qI]at h;obtain⟨s,a,b,c⟩:=h;subst c;exact⟨a,b.symm⟩
def an7{c:Value}{t:Bool}(h:VR F (.b t) c):(asBool c).run P w=.ok t w:=by simp only[VR]at h;subst h;rfl
def aoW(h:SR P F J w){ts:Ww}{ty t:TypeId}{x v:AV}{u:Value}(j:ts[0]? =some t)(d:Zy P t x J=some (v,J'))(i:VR F x u):
 ∃y w' F',(Builtin.clear_ ts ty #[u]).run P w=.ok y w'/\St P F J w F' J' w'/\VR F' v y:=by
 have f:∀F':Env,VR F' (.fG []) (.tuple #[]):=λF'=>by simp only[VR];exact⟨[],rfl,by simp[aG]⟩
 unfold Zy at d;split at d
 ·next e b=>
  cases d;simp only[VR]at i;subst i;exact⟨_,w,F,by simp only[Builtin.clear_,j,GH,l9,aZ,bG b,aY,bQ],St.refl h,f _⟩
 ·next e b=>
  cases d;simp only[VR]at i;rcases i with⟨_,S,rfl⟩|⟨bl,H,c,xs,sz,rfl,_⟩
  ·exact⟨_,w,F,by cases S<;>simp only[Builtin.clear_,j,GH,l9,aZ,bG b,aY,bQ],St.refl h,f _⟩
  ·exact⟨_,w,F,by simp only[Builtin.clear_,j,GH,l9,aZ,bG b,aY,bQ,lK],St.refl h,f _⟩
 ·next e id H n T b=>
  simp only[VR]at i;obtain⟨q,E,_,rfl⟩:=i;split at d
  ·next Q=>
   cases d;subst Q;exact⟨_,w,F,by simp only[Builtin.clear_,j,GH,l9,aZ,bG b,aY,bQ],St.refl h,f _⟩
  ·next Q=>
   split at d
   ·next z c et U V G=>
    split at d
    ·next R=>
     simp only[bJ]at d;obtain⟨c',W,X⟩:=d;cases X;obtain⟨I,Y,o⟩:=IU V;have L:=Ui (n:=n) (size:=z.length) (o F) rfl;have p:=(o F).length;have r:(ku n z).all AV.ql=true:=by rw[List.all_eq_true];intro a s;unfold ku at s;simp only[List.mem_flatten,aeX]at s;obtain⟨l,⟨_,rfl⟩,s⟩:=s;exact List.all_eq_true.1 R.2 a s
     obtain⟨w',A,M⟩:=Y5 h G R.1 E W L r;refine⟨_,w',F,?_,M,f _⟩;have N:(Builtin.zeroCells I.cells n)=(Array.range (n*z.length)).map (I.cells[· % I.cells.size]!):=by unfold Builtin.zeroCells;rw[p];simp
     obtain⟨m,rfl⟩:∃m,n=m+1:=⟨n-1,ah⟩
     simp only[Builtin.clear_,j,GH,l9,aZ,bG b,aY,Y];rw[N,A];rfl
    ·cases d
   ·cases d
 ·next k e b=>
  cases d;simp only[VR]at i;subst i;exact⟨_,w,F,by simp only[Builtin.clear_,j,GH,l9,aZ,bG b,aY,bQ],St.refl h,f _⟩
 ·next k e id b=>
  split at d
  ·next es G=>
   split at d
   ·next Z=>
    cases d;simp only[VR]at i;obtain⟨q,E,rfl⟩:=i;obtain⟨q',D,ms,g,O,aa,_⟩:=h.obj _ _ G rfl;rw[E]at D;cases D;refine⟨.tuple #[],pW w q.bl (.map #[] g),F,?_,St.write h G rfl Z E F5 (λk hk=>FZ hk) rfl rfl rfl ⟨#[],g,Ed O,rfl,aA⟩,f _⟩;simp only[Builtin.clear_,j,GH,l9,aZ,bG b,aY,getObj,Sem.run,O,Pm O (λ_ _ _=>aA),bQ]
   ·cases d
  ·cases d
 ·cases d
def aol(h:SR P F J w){b:Builtin}{ts:Ww}{ty:TypeId}{cs:Array Bool}{args:Q3}{vs:Q6}{r:Q4}(d:Jr P b ts args J=some (r,J'))(j:aG F args vs):
 Qe P F J w r J' (builtin b ts ty cs ⟨vs⟩):=by
 unfold Jr at d;split at d
 ·next x=>
  simp only[aG]at j;obtain⟨u,_,rfl,f,rfl⟩:=j;split at d
  ·next t o=>
   obtain⟨v,g,rfl,rfl⟩:=kS d;exact fV (jE h (ajc h o g f))
  ·cases d
 ·next s x=>
  simp only[aG]at j;obtain⟨u,_,rfl,f,p,_,rfl,i,rfl⟩:=j;obtain⟨v,g,rfl⟩:=FW d;exact fV (an3 h g f i)
 ·next s x=>
  simp only[aG]at j;obtain⟨u,_,rfl,f,p,_,rfl,i,rfl⟩:=j;obtain⟨v,g,rfl⟩:=FW d;exact fV (apx h g f i)
 ·next x=>
  simp only[aG]at j;obtain⟨u,_,rfl,f,rfl⟩:=j;split at d
  ·next t o=>
   obtain⟨v,g,rfl⟩:=FW d;exact fV (aoW h o g f)
  ·cases d
 ·next x=>
  simp only[aG]at j;obtain⟨u,_,rfl,f,rfl⟩:=j;split at d
  ·next t o=>
   split at d
   ·next e l=>
    obtain⟨v,g,rfl,rfl⟩:=kS d;cases g;simp only[VR]at f;subst f;exact fV (jE h ⟨.int .i64 0,by simp[Builtin.cap_,o,bG l,goInt],by simp[VR]⟩)
   ·next e id A n c l=>
    obtain⟨v,g,rfl,rfl⟩:=kS d;cases g;simp only[VR]at f;obtain⟨q,D,_,rfl⟩:=f;exact fV (jE h ⟨.int .i64 c,by simp[Builtin.cap_,o,bG l,goInt],by simp[VR]⟩)
   ·cases d
  ·cases d
 ·simp only[aG]at j;obtain⟨u,_,rfl,f,rfl⟩:=j;obtain⟨v,g,rfl,rfl⟩:=kS d;cases g;simp only[VR]at f;subst f;exact fV (jE h ⟨_,al8,by simp only[VR]⟩)
 ·next id A n I=>
  split at d
  ·cases d
  ·next H=>
   simp only[aG]at j;obtain⟨u,_,rfl,f,rfl⟩:=j;obtain⟨v,g,rfl,rfl⟩:=kS d;cases g;simp only[VR]at f;obtain⟨q,D,L,rfl⟩:=f;refine fV (jE h ⟨_,al9 ?_,by simp only[VR];exact⟨q,D,rfl⟩⟩);intro e;rw[e]at L;have S:n=0:=ah;subst S;cases I with
   |none=>exact H ⟨rfl,.inl rfl⟩
   |some c=>simp only[uK]at e;subst e;exact H ⟨rfl,.inr rfl⟩
 ·next x n=>
  simp only[aG]at j;obtain⟨u,_,rfl,f,p,_,rfl,i,rfl⟩:=j;simp only[VR]at i;subst i;split at d
  ·next t Q M=>
   have:=U8 M;subst this;split at d
   ·next T=>
    subst T;split at d
    ·obtain⟨v,g,rfl,rfl⟩:=kS d;cases g;simp only[VR]at f;subst f;exact fV (jE h ⟨_,ad7,by simp only[VR]⟩)
    ·obtain⟨v,g,rfl,rfl⟩:=kS d;cases g;simp only[VR]at f;obtain⟨q,D,rfl⟩:=f;exact fV (jE h ⟨_,ad7,by simp only[VR]⟩)
    ·cases d
   ·split at d
    ·next id A=>
     split at d
     ·next e c et U N V=>
      split at d
      ·next H=>
       obtain⟨rfl,W,X,Y,Z,c5⟩:=H;split at d
       ·next r' hr=>
        split at d
        ·next b hb=>
         cases d;simp only[VR]at f;obtain⟨q,D,rfl⟩:=f;obtain⟨y,w',g,m,k⟩:=amR (it:=Q) (ty:=ty) h N V W X Y Z c5 hr hb D;exact fV ⟨y,w',F,g,m,k⟩
        ·cases d
       ·cases d
      ·cases d
     ·cases d
    ·cases d
  ·cases d
 ·next x y=>
  simp only[aG]at j;obtain⟨u,_,rfl,f,p,_,rfl,i,rfl⟩:=j;split at d
  ·next a R g m=>
   obtain⟨v,k,rfl,rfl⟩:=kS d;simp only[yE]at k;obtain⟨z,E,G⟩:=k;rw[Ec g f,Ec m i];exact fV (jE h ⟨z,D8 E w,FN _ _ _ G⟩)
  ·cases d
 ·next x y=>
  simp only[aG]at j;obtain⟨u,_,rfl,f,p,_,rfl,i,rfl⟩:=j;split at d
  ·next a R g m=>
   obtain⟨v,k,rfl,rfl⟩:=kS d;simp only[yE]at k;obtain⟨z,E,G⟩:=k;rw[Ec g f,Ec m i];exact fV (jE h ⟨z,D8 E w,FN _ _ _ G⟩)
  ·cases d
 ·next x y z=>
  simp only[aG]at j;obtain⟨u,_,rfl,f,p,_,rfl,i,aa,_,rfl,O,rfl⟩:=j;split at d
  ·next a R ab g m h4=>
   obtain⟨v,k,rfl,rfl⟩:=kS d;simp only[yE]at k;obtain⟨z,E,G⟩:=k;rw[Ec g f,Ec m i,Ec h4 O];exact fV (jE h ⟨z,D8 E w,FN _ _ _ G⟩)
  ·cases d
 ·cases d
def aFk{a it ty:TypeId}(p:XN):(Builtin.unsafeString_ #[a,it] ty #[.pointer p,.int .i64 0]).run P w=.ok (.string ⟨⟨[]⟩⟩) w:=ad7
def aEC(h:SR P F J w){b:Builtin}{ts:Ww}{ty:TypeId}{cs:Array Bool}{args:Q3}{vs:Q6}{r:Q4}(c:LU P b ts args J=some (r,J'))(l:aG F args vs):
 Qe P F J w r J' (builtin b ts ty cs ⟨vs⟩):=by
 unfold LU at c;have mm:∀(L:Bool){x y:AV}{m n:Nat}{v:AV}{u M:Value},jD x=some m->jD y=some n->lS (.mm L m n)=some v->VR F x u->VR F y M->∃k a N,u=.int k a/\M=.int k N/\VR F v (.int k (if L then(if a<N then N else a)else(if N<a then N else a))):=by
  intro L x y m n v u M E O aa z d;obtain⟨g1,a1,a2,a3⟩:=nV E z;obtain⟨g2,b1,Q,b3⟩:=nV O d;obtain⟨_,g,_,G,c3⟩:=oU (F:=F) aa;simp only[Nd.den,a1,b1]at G;split at G
  ·next k i k' j T e2=>
   cases T;cases e2;split at G
   ·next H=>
    subst H;cases G;simp only[GR]at a3 b3;exact⟨k,i,j,a3,b3,c3 _ rfl (by simp only[GR])⟩
   ·cases G
  ·cases G
 split at c
 ·next x=>
  simp only[aG]at l;obtain⟨u,_,rfl,z,rfl⟩:=l;split at c
  ·next t ht=>
   obtain⟨v,R,e⟩:=bJ.1 c;cases e;exact fV (jE h (aEH ht R z))
  ·cases c
 ·next s x=>
  simp only[aG]at l;obtain⟨u,_,rfl,z,M,_,rfl,d,rfl⟩:=l;obtain⟨v,R,e⟩:=bJ.1 c;cases e;exact fV (aEA h R z d)
 ·next x y=>
  simp only[aG]at l;obtain⟨u,_,rfl,z,M,_,rfl,d,rfl⟩:=l;split at c
  ·next m n E O=>
   obtain⟨v,R,e⟩:=bJ.1 c;cases e;obtain⟨k,a,N,rfl,rfl,h2⟩:=mm false E O R z d;refine fV (jE h ⟨_,?_,h2⟩);simp[Builtin.min_,Builtin.min2]
  ·cases c
 ·next x y=>
  simp only[aG]at l;obtain⟨u,_,rfl,z,M,_,rfl,d,rfl⟩:=l;split at c
  ·next m n E O=>
   obtain⟨v,R,e⟩:=bJ.1 c;cases e;obtain⟨k,a,N,rfl,rfl,h2⟩:=mm true E O R z d;refine fV (jE h ⟨_,?_,h2⟩);simp[Builtin.max_,Builtin.max2]
  ·cases c
 ·next id n=>
  split at c
  ·next m et Z=>
   split at c
   ·next D=>
    cases c;simp only[aG]at l;obtain⟨u,_,rfl,z,rfl⟩:=l;simp only[VR]at z;obtain⟨A,k1,z⟩:=z;rcases z with⟨q,U,an,rfl⟩|⟨ao,rfl,rfl⟩
    ·have V:=h.at Z U;have I:=V.Y0;obtain⟨_,_,_,_,ab,_⟩:=V.OJ;have W:q.sz/q.es≠0:=by have:=Nat.div_pos I ab;omega
     exact fV (jE h ⟨_,al9 W,by simp only[VR];exact⟨A,_,k1,rfl,λ_=>⟨q,U,rfl⟩⟩⟩)
    ·exact fV (jE h ⟨_,al8,by simp only[VR];exact⟨[],_,k1,rfl,λO=>absurd rfl O⟩⟩)
   ·cases c
  ·cases c
 ·next id n k=>
  split at c
  ·next t it ac=>
   have:=U8 ac;subst this;split at c
   ·next e m et f ad Z=>
    split at c
    ·next hc=>
     obtain⟨rfl,c1,G,c3⟩:=hc;split at c
     ·next n' H=>
      split at c
      ·next D=>
       rw[aO]at D;obtain⟨v,E,e⟩:=bJ.1 c;cases e;simp only[aG]at l;obtain⟨u,_,rfl,z,M,_,rfl,d,rfl⟩:=l;simp only[VR]at z d;obtain⟨ys,p,k1,rfl,hp⟩:=z;obtain⟨gk,j1,_,j3⟩:=d;obtain⟨ap,j4,j5⟩:=aJ.uo k _ H aA;rw[j1]at j4;cases j4;obtain⟨nn,gs,b1,Q,b3⟩:=oU (F:=F) E;simp only[Nd.den]at Q;split at Q
       ·next A l=>
        split at Q
        ·next ae=>
         obtain⟨b,hb,rfl⟩:=bJ.1 Q;simp only[Nd.den]at j5;split at j5
         ·next zs hz=>
          cases j5;have X:=Ba 100 D.1 l k1;have Y:=Ba 100 D.2 l hz;simp only[GR]at j3;subst j3;have fin:∀{F':Env}(y:Value),VR F' (.s b) y->VR F' v y:=by intro F' y hy;obtain⟨_,g2,_,d2,d3⟩:=oU (F:=F') E;simp only[Nd.den,l,au ae,hb,iJ,bF]at d2;subst d2;exact d3 y rfl ((nH _ _).2 hy)
          by_cases S:A=[]
          ·subst S;have af:zs.length=0:=Y.symm;have ag:b=[]:=by simpa[pR]using hb.symm
           subst ag;rw[af];refine fV ⟨.string ⟨⟨[]⟩⟩,w,F,aFk p,(St.refl h).Xd id,fin _ (by simp only[VR])⟩
          ·have ai:ys≠[]:=by intro e;rw[e]at X;exact S (kK X)
           obtain⟨q,U,rfl⟩:=hp ai;obtain⟨aq,i1,i2,i3,i4,i5,i6,i7,hS⟩:=PU h Z U;rw[l]at i1;cases i1;have ak:bW A=eY A:=by unfold bW;rw[Vd hb]
           have I:0<A.length:=MO.2 S;have al:takeN (bW A) 0 ((A.length:Nat):Int).toNat=some (eY A):=by rw[ak];unfold takeN;rw[dY,mg (by rw[oG];simp),au (by rw[oG];simp)]
           have am:A.length<2^62:=ah;obtain⟨y,w',r1,r2,r3⟩:=amR (it:=it) (ty:=ty) (off:=0) (n:=A.length) hS ad Gq c1 G ah ah c3 al (QB hb) U;rw[<-Y];refine fV ⟨y,w',F,by simpa using r1,?_,fin _ r3⟩;refine((TW Z r2).Xd id).sub (λk o H=>?_) (dP _) rfl;rw[aC.AL]at H⊢;split at H
           ·cases H
           ·next T=>
            rw[aj T];unfold mJ;rw[aC.get_put,aj T,aC.get_put,aj T];exact H
         ·cases j5
        ·cases Q
       ·cases Q
      ·cases c
     ·cases c
    ·cases c
   ·cases c
  ·cases c
 ·cases c
def nG(P:Program)(f:FuncId)(args:QR)(w:World)(R:Value->World->Prop):Prop:=
 (∃v a,(callFunc f args).run P w=.ok (.value v) a/\R v a)\/
 ((callFunc f args).run P w=.ok (.enter f args) w/\Calls P f args w λe a=>∃v,e=.returned v/\R v a)
def uz(P:Program)(call:Caller):Prop:=∀f args J r J',call f args J=some (r,J')->∀F w a,SR P F J w->aG F args a->
 nG P f ⟨a⟩ w λv c=>∃b,St P F J w b J' c/\VR b r v
def Ik:Op->Bool
 |.call {callee:=.value _,..}=>true
 |.call {callee:=.invoke _ _,..}=>true
 |_=>false
def axn{f:FuncId}{first a:Q3}{b vs:Q6}(h1:aG F first b)(c:aG F a vs):∃y,(Instr.makeFunc (.func f) ⟨b⟩ ⟨vs⟩).run P w=.ok y w/\VR F (.fn f first a) y:=
 ⟨_,rfl,by simp only[VR];exact⟨b,vs,rfl,h1,c⟩⟩
def OM{b:QQ}{U:Operand->Value}(c:∀x a,b x=some a->VR F a (U x)){o:Option Operand}{r:Q4}(h:Le b o=some r):nI F r (o.map U):=by
 cases o with
 |none=>simp[Le]at h;subst h;trivial
 |some x=>simp only[Le,bJ]at h;obtain⟨a,d,rfl⟩:=h;exact c _ _ d
def KH{α β:Type}(a:Array α)(f:α->β):a.map f=⟨a.toList.map f⟩:=by apply P5;simp
set_option maxHeartbeats 1000000 in
def akb(h:SR P F J w){call:Caller}{o:Oper}{ev:QQ}{U:Operand->Value}(j:∀x a,ev x=some a->VR F a (U x))(hc:Ik o.op=false){r:Q4}
 (d:xI P call o ev J=some (r,J')):Qe P F J w r J' (execOp U o):=by
 unfold xI at d;unfold execOp;split at d
 ·next x p=>rw[p];obtain⟨v,h1,rfl,rfl⟩:=kS d;exact⟨_,w,F,rfl,St.refl h,_,rfl,j _ _ h1⟩
 ·next x p=>rw[p];obtain⟨v,h1,rfl,rfl⟩:=kS d;exact⟨_,w,F,rfl,St.refl h,_,rfl,j _ _ h1⟩
 ·next c a b p=>
  rw[p];split at d
  ·next t T=>
   obtain⟨vd,ai,T⟩:=JR T;obtain⟨v,h1,rfl,rfl⟩:=kS d;refine⟨.value (if t then U a else U b),w,F,?_,St.refl h,_,rfl,?_⟩
   ·simp only[aZ,an7 (T _ _ (j _ _ ai)),aY,bQ]
   ·cases t
    ·exact j _ _ h1
    ·exact j _ _ h1
  ·cases d
 ·next t p=>
  rw[p];simp only[bJ]at d;obtain⟨z,hz,e⟩:=d;cases e;exact fV (anV h hz)
 ·next t x p=>
  rw[p];simp only[bJ]at d;obtain⟨z,hz,e⟩:=d;cases e;exact fV (afK h (j _ _ hz))
 ·next t N p=>
  rw[p];split at d
  ·next ps V=>
   obtain⟨v,h1,rfl,rfl⟩:=kS d;exact fV (jE h (aok h1 (by rw[KH];exact aaF j V)))
  ·cases d
 ·next t len N p=>
  rw[p];split at d
  ·next e an bytes z ps hi V=>
   split at d
   ·cases d
   ·next ac=>
    split at d
    ·next cs W=>
     have e1:=Jo d;refine axf (t:=t) (qs:=N.map λ(i,x)=>(i,U x)) (λv τ e2 hr=>?_) h hi ac W (by rw[KH];exact aaF j V);rw[e2]at e1;cases e1;exact fV hr
    ·cases d
  ·cases d
 ·next t a p=>
  rw[p];split at d
  ·next av O=>
   obtain⟨v,h1,rfl,rfl⟩:=kS d;rcases xY h1 with h1|h1
   ·exact fV (jE h (Ip h h1 (j _ _ O)))
   ·exact fV (jE h (aEI h h1 (j _ _ O)))
  ·cases d
 ·next t a x p=>
  rw[p];split at d
  ·next av xv O D=>
   obtain⟨h1,rfl⟩:=adp d;rcases xY h1 with h1|h1
   ·obtain⟨I,L,M⟩:=Yz h h1 (j _ _ O) (j _ _ D);exact OL ⟨I,F,L,M⟩
   ·obtain⟨I,L,M⟩:=aEM h h1 (j _ _ O) (j _ _ D);exact OL ⟨I,F,L,M⟩
  ·cases d
 ·next x p=>
  rw[p];split at d
  ·next id X D=>
   obtain⟨v,h1,rfl,rfl⟩:=kS d;cases h1;have E:=j _ _ D;simp only[VR]at E;obtain⟨q,hq,E⟩:=E;exact⟨.value (U x),w,F,by simp only[E];rfl,St.refl h,_,rfl,j _ _ D⟩
  ·next b X D=>
   obtain⟨v,h1,rfl,rfl⟩:=kS d;cases h1;have E:=j _ _ D;simp only[VR]at E;obtain⟨bl,base,cs,ad,fr,y,_,_,E,_⟩:=E;exact⟨.value (U x),w,F,by simp only[E];rfl,St.refl h,_,rfl,j _ _ D⟩
  ·next m X D=>
   obtain⟨v,h1,rfl,rfl⟩:=kS d;cases h1;have E:=j _ _ D;simp only[VR]at E;obtain⟨g,bl,base,cs,ad,fr,y,_,_,_,E,_⟩:=E;exact⟨.value (U x),w,F,by simp only[E];rfl,St.refl h,_,rfl,j _ _ D⟩
  ·next id m X D=>
   obtain⟨v,h1,rfl,rfl⟩:=kS d;cases h1;have E:=j _ _ D;simp only[VR]at E;obtain⟨q,kk,i,_,_,E⟩:=E;exact⟨.value (U x),w,F,by simp only[E];rfl,St.refl h,_,rfl,j _ _ D⟩
  ·next f fs cs D=>
   obtain⟨v,h1,rfl,rfl⟩:=kS d;cases h1;have E:=j _ _ D;simp only[VR]at E;obtain⟨us,vs,E,_⟩:=E;exact⟨.value (U x),w,F,by simp only[E];rfl,St.refl h,_,rfl,j _ _ D⟩
  ·cases d
 ·next op t x y _ p=>
  rw[p];split at d
  ·next a b A G=>
   obtain⟨v,h1,rfl,rfl⟩:=kS d;rcases xY h1 with h1|h1
   ·exact fV (jE h (aog h h1 (j _ _ A) (j _ _ G)))
   ·exact fV (jE h (aEB h1 (j _ _ A) (j _ _ G)))
  ·cases d
 ·next op t x p=>
  rw[p];split at d
  ·next a A=>
   split at d
   ·next u R=>
    obtain⟨v,h1,rfl,rfl⟩:=kS d;simp only[yE]at h1;obtain⟨z,hz,yQ⟩:=h1;have ae:(Op.unary op (U x)).run P w=.ok z w:=by rw[Ec R (j _ _ A)];exact D8 hz w
    exact fV (jE h ⟨z,ae,FN _ _ _ yQ⟩)
   ·obtain⟨v,h1,rfl,rfl⟩:=kS d;exact fV (jE h (aEN h1 (j _ _ A)))
  ·cases d
 ·next src aq x p=>
  rw[p];split at d
  ·next a A=>
   obtain⟨v,h1,rfl⟩:=FW d;rcases xY h1 with h1|h1
   ·exact fV (QL h h1 (j _ _ A))
   ·exact fV (aED h h1 (j _ _ A))
  ·cases d
 ·next t x p=>
  rw[p];split at d
  ·next a A hi=>
   obtain⟨v,h1,rfl,rfl⟩:=kS d;cases h1;exact fV (jE h (axo hi (j _ _ A)))
  ·cases d
 ·next f first ao p=>
  rw[p];split at d
  ·next fs cs ak al=>
   obtain⟨v,h1,rfl,rfl⟩:=kS d;cases h1;simp only[KH];exact fV (jE h (axn (NW j ak) (NW j al)))
  ·cases d
 ·next t r' p=>
  rw[p];split at d
  ·cases d;exact fV (ajx h (.inl rfl))
  ·next x=>
   split at d
   ·next a kt et A R=>
    split at d
    ·next hm=>
     cases d;obtain⟨k,n,Y⟩:=axr hm (j _ _ A);exact fV (ajx h (.inr ⟨k,n,kt,et,by simp[Y],R⟩))
    ·cases d
   ·cases d
 ·next t l c p=>
  rw[p];split at d
  ·next a b A G=>
   obtain⟨v,h1,rfl⟩:=FW d;rcases xY h1 with h1|h1
   ·exact fV (axp h h1 (j _ _ A) (j _ _ G))
   ·exact fV (aEK h h1 (j _ _ A) (j _ _ G))
  ·cases d
 ·next t x lo hi p=>
  rw[p];split at d
  ·next a ar aw A Z aa=>
   rcases xY d with d|d
   ·obtain⟨v,h1,rfl,rfl⟩:=kS d;rcases xY h1 with h1|h1
    ·exact fV (jE h (Yq h h1 (j _ _ A) (OM j Z) (OM j aa)))
    ·exact fV (jE h (amv h h1 (j _ _ A) (OM j Z) (OM j aa)))
   ·obtain⟨v,h1,rfl⟩:=FW d;exact fV (aEL h h1 (j _ _ A) (OM j Z) (OM j aa))
  ·cases d
 ·next t x f p=>
  rw[p];split at d
  ·next a A=>
   obtain⟨v,h1,rfl,rfl⟩:=kS d;rcases xY h1 with h1|h1
   ·exact fV (jE h (aua h1 (j _ _ A)))
   ·exact fV (jE h (aEE h1 (j _ _ A)))
  ·cases d
 ·next t x f p=>
  rw[p];split at d
  ·next a A=>
   obtain⟨v,h1,rfl,rfl⟩:=kS d;exact fV (jE h (aub h1 (j _ _ A)))
  ·cases d
 ·next t x ix p=>
  rw[p];split at d
  ·next a k A Y=>
   obtain⟨v,h1,rfl,rfl⟩:=kS d;rcases xY h1 with h1|h1
   ·exact fV (jE h (RD h1 (j _ _ A) (j _ _ Y)))
   ·exact fV (jE h (aEF h h1 (j _ _ A) (j _ _ Y)))
  ·cases d
 ·next t x ix p=>
  rw[p];split at d
  ·next a k A Y=>
   obtain⟨v,h1,rfl,rfl⟩:=kS d;rcases xY h1 with h1|h1
   ·exact fV (jE h (abv h1 (j _ _ A) (j _ _ Y)))
   ·exact fV (jE h (aEG h1 (j _ _ A) (j _ _ Y)))
  ·cases d
 ·next t m k ok p=>
  rw[p];split at d
  ·next a b A G=>
   obtain⟨v,h1,rfl,rfl⟩:=kS d;rcases xY h1 with h1|h1
   ·exact fV (jE h (axg h h1 (j _ _ A) (j _ _ G)))
   ·exact fV (jE h (aEJ h h1 (j _ _ A) (j _ _ G)))
  ·cases d
 ·next t m k x p=>
  rw[p];split at d
  ·next a b c A G Q=>
   obtain⟨h1,rfl⟩:=adp d;rcases xY h1 with h1|h1
   ·obtain⟨I,L,M⟩:=ajz h h1 (j _ _ A) (j _ _ G) (j _ _ Q);exact OL ⟨I,F,L,M⟩
   ·obtain⟨I,L,M⟩:=amu h h1 (j _ _ A) (j _ _ G) (j _ _ Q);exact OL ⟨I,F,L,M⟩
  ·cases d
 ·next t m k x p=>
  rw[p];split at d
  ·next a b c A G Q=>
   obtain⟨h1,rfl⟩:=adp d;rcases xY h1 with h1|h1
   ·obtain⟨I,L,M⟩:=ajz h h1 (j _ _ A) (j _ _ G) (j _ _ Q);exact OL ⟨I,F,L,M⟩
   ·obtain⟨I,L,M⟩:=amu h h1 (j _ _ A) (j _ _ G) (j _ _ Q);exact OL ⟨I,F,L,M⟩
  ·cases d
 ·next t x p=>
  rw[p];split at d
  ·next s R hx=>
   cases d;have E:=j _ _ hx;simp only[VR]at E;simp only[E];exact fV (aAL h R)
  ·next k e R hx=>
   cases d;have E:=j _ _ hx;simp only[VR]at E;simp only[E];exact fV (aAJ h R)
  ·next k e id R hx=>
   split at d
   ·next es hg=>
    cases d;exact fV (aAK h R hg (j _ _ hx))
   ·cases d
  ·cases d
 ·next it p=>
  rw[p];split at d
  ·next a A=>
   obtain⟨v,h1,rfl⟩:=FW d;obtain⟨y,I,L,M,h4⟩:=ayw (ty:=o.type) h h1 (j _ _ A);exact fV ⟨y,I,F,L,M,h4⟩
  ·cases d
 ·next it p=>
  rw[p];have af:VR F (.fG [.b false]) (.tuple #[.bool false]):=by simp only[VR];exact⟨[_],rfl,aG.cons (by simp only[VR]) (by simp[aG])⟩
  split at d
  ·next id A=>
   split at d
   ·next hg=>
    cases d;exact fV (jE h ⟨_,ayu (ty:=o.type) h hg (j _ _ A),af⟩)
   ·next m hg=>
    split at d
    ·next hm=>
     cases d;exact fV (jE h ⟨_,ayv (ty:=o.type) h hg hm (j _ _ A),af⟩)
    ·cases d
   ·cases d
  ·cases d
 ·next x xt t ok p=>
  rw[p];split at d
  ·next a A=>
   obtain⟨v,h1,rfl,rfl⟩:=kS d;exact fV (jE h (aFe h1 (j _ _ A)))
  ·cases d
 ·next x k p=>
  rw[p];split at d
  ·next l A=>
   obtain⟨v,h1,rfl,rfl⟩:=kS d;exact fV (jE h (atl h1 (j _ _ A)))
  ·cases d
 ·next c p=>
  rw[p];split at d
  ·next args ab=>
   split at d
   ·next b G=>
    have E:=NW j ab;have d:Jr P b c.argTypes args J=some (r,J')\/LU P b c.argTypes args J=some (r,J'):=by
     cases ag:adR b args with
     |true=>rw[ag,cond_true]at d;exact(xY d).symm
     |false=>rw[ag,cond_false]at d;exact xY d
    rcases d with d|d
    ·have H:=aol (cs:=c.args.map fun|.const _=>true|_=>false) (ty:=o.type) h d E;simp only[resolve,G,KH,pure_bind,invoke];rw[KH]at H;exact H
    ·have H:=aEC (cs:=c.args.map fun|.const _=>true|_=>false) (ty:=o.type) h d E;simp only[resolve,G,KH,pure_bind,invoke];rw[KH]at H;exact H
   ·next f W=>
    rw[p]at hc;exfalso;obtain⟨S,args,am⟩:=c;simp only at W;subst W;simp[Ik]at hc
   ·next f ap W=>
    rw[p]at hc;exfalso;obtain⟨S,args,am⟩:=c;simp only at W;subst W;simp[Ik]at hc
  ·cases d
 ·cases d
def agz(r:Value)(l:Q6):(#[r]++(⟨l⟩:QR))=⟨r::l⟩:=by apply P5;simp
def awz(a:String)(r:Value)(l:Q6):invoke (.fn (.method a) #[]) (#[r]++(⟨l⟩:QR))=callMethod r a ⟨l⟩:=by
 rw[agz];have b:(⟨r::l⟩:QR)[0]? =some r:=aA;have c:(⟨r::l⟩:QR).extract 1 (⟨r::l⟩:QR).size=⟨l⟩:=by apply P5;simp
 have:invoke (.fn (.method a) #[]) (⟨r::l⟩:QR)=(do
  let some recv:=(⟨r::l⟩:QR)[0]? |stuck "call: a method without a receiver"
  callMethod recv a ((⟨r::l⟩:QR).extract 1 (⟨r::l⟩:QR).size)):=rfl
 rw[this,b,c]
def axI(h:SR P F J w){b:String}{a A:AV}{f:FuncId}{x:Value}(c:UW P b J a=some (f,A))(D:VR F a x)(args:QR):
 ∃y,(callMethod x b args).run P w=(callFunc f (#[y]++args)).run P w/\VR F A y:=by
 unfold UW at c;split at c
 ·next t v=>
  simp only[VR]at D;obtain⟨l,rfl,o⟩:=D;split at c
  ·next i d hi p=>
   split at c
   ·next m H=>
    split at c
    ·next E r G I=>
     have j:∀y,(receiverAt t (.val l) r (some ((b.splitOn ".").getLastD b))).run P w=.ok y w->
      (callMethod (.iface t l) b args).run P w=(callFunc E (#[y]++args)).run P w:=by
      intro y L;have s:m.path.isEmpty=true:=by simpa using G
      have:∀n:Nat,(method (n+1) t l b).run P w=.ok (E,y) w:=by intro n;simp only[method,aZ,IQ hi,aY,H,G,follow,bQ,I,s,if_true,L]
      simp only[callMethod,aZ,program,Sem.run,aY];rw[show P.types.size+Made.depth=(P.types.size+Made.depth-1)+1 by simp[Made.depth],this];rfl
     split at c
     ·next e=>
      cases c;exact⟨l,j _ (by simp only[receiverAt,aZ,bG p,aY,Go.Place.get,bQ]),o⟩
     ·next e=>
      split at c
      ·next id g=>
       simp only[bJ,qI]at c;obtain⟨z,M,rfl,rfl⟩:=c;obtain⟨y,N,O⟩:=Ip h M o;simp only[VR]at o;obtain⟨q,R,rfl⟩:=o;refine⟨y,j _ ?_,O⟩;have u:(loadVar e ⟨q.bl,q.ba+g,none⟩).run P w=.ok y w:=by simpa[Instr.loadAt,Instr.sureAddr]using N
       have k:∀Q:String,(Builtin.ssaWrapNilChk_ #[t] t #[.pointer (some ⟨q.bl,q.ba+g,none⟩),strVal "",strVal Q]).run P w=.ok (.pointer (some ⟨q.bl,q.ba+g,none⟩)) w:=λ_=>rfl;have has:(asAddr (.pointer (some ⟨q.bl,q.ba+g,none⟩))).run P w=.ok ⟨q.bl,q.ba+g,none⟩ w:=rfl;simp only[receiverAt,aZ,bG p,aY,Go.Place.get,bQ,k,has,u]
      ·cases c
     ·cases c
     ·next S T U=>
      cases c;refine⟨l,j _ ?_,o⟩;simp only[receiverAt,aZ,bG p,aY];cases d<;>simp only[Go.Place.get,bQ]
      all_goals simp_all
    ·cases c
   ·cases c
  ·cases c
 ·cases c
def afY(h:SR P F J w){call:Caller}(j:uz P call){o:Oper}{a:bM}{A:Act}(W:TR P F a A)(G:Ik o.op=true){r:Q4}{K:Act->World->Prop}{Q:Exit->Act->World->Prop}
 (i:xI P call o a.eval J=some (r,J')) (H:∀v x F' w',r=some v->St P F J w F' J' w'->VR F' v x->K (A.put o.dst x) w'):o.wp P A w K Q:=by
 have I:∀x v,a.eval x=some v->VR F v (A.eval x):=λx v l=>QW h W x v l;unfold xI at i;cases m:o.op with
 |call c=>
  rw[m]at G i;simp only at i;split at i
  ·next args k=>
   obtain⟨n,p,X⟩:=c;cases n with
   |builtin b=>simp[Ik]at G
   |invoke rc S=>
    simp only at i;split at i
    ·next f rv D=>
     simp only[yE]at D;obtain⟨iv,L,D⟩:=D;obtain⟨u,M,rfl⟩:=FW i;have q:=NW I k;obtain⟨y,Y,Z⟩:=axI h D (I _ _ L) (⟨p.toList.map A.eval⟩);have s:=j _ _ _ _ _ M F w (y::p.toList.map A.eval) h (aG.cons Z q);have t:(execOp A.eval o).run P w=(callFunc f ⟨y::p.toList.map A.eval⟩).run P w:=by
      unfold execOp;rw[m];have e0:p.map A.eval=⟨p.toList.map A.eval⟩:=by apply P5;simp
      simp only[resolve,pure_bind,e0];rw[awz,Y,agz]
     unfold Oper.wp;rw[t];rcases s with⟨v,w',d,F',g,l⟩|⟨d,z⟩
     ·rw[d];exact H u v F' w' rfl g l
     ·rw[d];refine Calls.mono z ?_;rintro e w' ⟨v,rfl,F',g,l⟩
      exact H u v F' w' rfl g l
    ·cases i
   |value f=>
    simp only at i;split at i
    ·next fn fi T D=>
     obtain⟨u,M,rfl⟩:=FW i;have E:=I _ _ D;simp only[VR]at E;obtain⟨U,V,N,O,R⟩:=E;have q:=NW I k;have s:=j _ _ _ _ _ M F w (U++p.toList.map A.eval++V) h ((O.append q).append R);have t:(execOp A.eval o).run P w=(callFunc fn ⟨U++p.toList.map A.eval++V⟩).run P w:=by unfold execOp;rw[m];simp only[resolve,N,Deferred.ofValue,pure_bind,invoke];congr 2;apply P5;simp
     unfold Oper.wp;rw[t];rcases s with⟨v,w',d,F',g,l⟩|⟨d,z⟩
     ·rw[d];exact H u v F' w' rfl g l
     ·rw[d];refine Calls.mono z ?_;rintro e w' ⟨v,rfl,F',g,l⟩
      exact H u v F' w' rfl g l
    ·cases i
  ·cases i
 |_=>rw[m]at G;simp[Ik]at G
def aFZ{b:W6}{j:Nat}{o:Oper}{d:Nat}{a:bM}{A:Act}{x:Bool}(g:TR P F a A)(h:b[j]? =some o)(i:o.dst=some d)(f:dB (a.t.get d)=some (.b x)):yielded b A.tmps j=some x:=by obtain⟨l,f,c⟩:=JR f;obtain⟨y,k,e⟩:=g.slot d _ f;have e:=c _ _ e;simp only[VR]at e;subst e;simp only[yielded,h,BD,i,k]
def I8{o:Oper}{f:W6}{a:bM}{A:Act}{b:Bool}(m:TR P F a A)(c:Md o f a=some b):Region.wanted o (yielded f A.tmps)=b:=by
 unfold Md at c;unfold Region.wanted;split at c
 ·next k=>rw[k];cases c;rfl
 ·next j e k=>
  rw[k];split at c
  ·next q n=>
   split at c
   ·next d p=>
    split at c
    ·next x g=>
     cases c;simp only[aFZ m n p g];cases x<;>cases e<;>rfl
    ·next l g=>
     cases c;obtain⟨s,g,h⟩:=JR g;obtain⟨y,r,i⟩:=m.slot d _ g;have i:=h _ _ i;simp only[VR]at i;obtain⟨t,rfl,_⟩:=i;simp only[yielded,n,BD,p,r];cases e<;>rfl
    ·cases c
   ·cases c
  ·cases c
def step_ok(h:SR P F J w){call:Caller}(f:uz P call){k:W6}{i:Nat}{a s:bM}{A:Act}(d:TR P F a A){K:Act->World->Prop}{Q:Exit->Act->World->Prop}
 (c:ZE P call k i a J=some (s,J')) (p:∀F' t w',St P F J w F' J' w'->TR P F' s t->K t w'):wpOp P k Q i K A w:=by
 unfold ZE at c;unfold wpOp;split at c
 ·cases c
 ·next o z=>
  rw[z];simp only;split at c
  ·cases c
  ·next q=>
   rw[I8 d q];simp only[iZ,if_false];simp only[bJ,qI]at c;obtain⟨D,l,rfl,rfl⟩:=c;exact p F _ w (St.refl h) (d.put l (by rintro u j;cases j;exact⟨[],rfl,rfl⟩))
  ·next q=>
   rw[I8 d q];simp only[if_true];split at c
   ·cases c
   ·next r G g=>
    rw[EW]at g;simp only[bJ,qI]at c;obtain⟨D,l,rfl,rfl⟩:=c;left;cases y:Ik o.op with
    |true=>refine afY h f d y g λv x F' w' E b m=>?_;exact p F' _ w' b ((d.mono b.ext).put l (λu j=>by rw[E]at j;cases j;exact m))
    |false=>
     obtain⟨H,w',F',n,b,e⟩:=akb h (λx v m=>QW h d x v m) y g;unfold Oper.wp;rw[n];cases r with
     |none=>subst e;exact p F' _ w' b ((d.mono b.ext).put l aA)
     |some v=>obtain⟨x,rfl,m⟩:=e;exact p F' _ w' b ((d.mono b.ext).put l (λu j=>by cases j;exact m))
def akd{call:Caller}(b:uz P call){d:W6}{Q:Exit->Act->World->Prop}:∀(l:Q2){F:Env}{J:aC}{w:World}{a g:bM}{A:Act},SR P F J w->TR P F a A->
 Nl P call d l a J=some (g,J')->(∀F' j w',St P F J w F' J' w'->TR P F' g j->Q .normal j w')->wpOps P d Q l A w
 |[],F,J,w,a,g,A,h,k,c,m=>by simp only[Nl,bF,qI]at c;obtain⟨rfl,rfl⟩:=c;exact m F A w (St.refl h) k
 |i::l,F,J,w,a,g,A,h,k,c,m=>by
  rw[wpOps_cons];unfold Nl at c;split at c
  ·next q r p=>
   refine step_ok h b k p λs t w1 e n=>?_;exact akd b l e.rel n c λF' j w' f o=>m F' j w' (e.trans f) o
  ·cases c
def fQ.toExit:fQ->Exit
 |.normal=>.normal
 |.exit id=>.exit id
 |.ret=>.ret
def Um(P:Program)(g:Caller->CY):Prop:=∀call,uz P call->∀b a J c J',g call b a J=some (c,J')->∀F w A id Q,SR P F J w->TR P F a A->
 (∀d e f,St P F J w d J' f->TR P d c e->Q .normal e f)->(Code.region id b true).wp P Q A w
def UF(P:Program)(c:zJ):Prop:=∀f g,c f=some g->∀args J r J',g args J=some (r,J')->∀F w a,SR P F J w->aG F args a->
 nG P f ⟨a⟩ w λv d=>∃b,St P F J w b J' d/\VR b r v
def yD(P:Program):Prop:=∀(f:Nat) fn c,P.funcs[f]? =some fn->fn.body=some c->(fn.name == "runtime.NumGoroutine")=false
def Qj(P:Program)(run:Code->bM->aC->Option (fQ×bM×aC)):Prop:=∀c a J e b J',run c a J=some (e,b,J')->∀F w A Q,SR P F J w->TR P F a A->
 (∀d f g,St P F J w d J' g->TR P d b f->Q e.toExit f g)->c.wp P Q A w
def Ti(h:SR P F J w){a:bM}{A:Act}(j:TR P F a A)(g:ResultVar->Sem Value)(c:∀t,g (.tmp t)=pure (A.tmps.getD t undef))(d:∀a t,g (.cell a t)=(do loadVar t (<-asAddr (A.tmps.getD a undef)))):
 ∀(rs:List ResultVar)(l:Q3),Dk P J a rs=some l->∃vs,(rs.mapM g).run P w=.ok vs w/\aG F l vs
 |[],l,b=>by simp only[Dk,bF]at b;subst b;exact⟨[],rfl,by simp[aG]⟩
 |.tmp t::rs,l,b=>by
  unfold Dk at b;split at b
  ·next v r e k=>
   cases b;obtain⟨vs,h1,m⟩:=Ti h j g c d rs r k;obtain⟨x,n,f⟩:=j.slot t v e;refine⟨x::vs,?_,aG.cons f m⟩;simp only[aeS,c,aZ,bQ,aY,h1];rw[Bj,n];rfl
  ·cases b
 |.cell t D::rs,l,b=>by
  unfold Dk at b;split at b
  ·next v r e k=>
   cases b;obtain⟨vs,h1,m⟩:=Ti h j g c d rs r k;simp only[yE]at e;obtain⟨p,E,e⟩:=e;obtain⟨x,n,f⟩:=j.slot t p E;obtain⟨y,G,H⟩:=Ip h e f;refine⟨y::vs,?_,aG.cons H m⟩;have o:∃i,x=.pointer (some i):=by
    cases p<;>simp[yH]at e
    ·simp only[VR]at f;obtain⟨q,_,rfl⟩:=f;exact⟨_,rfl⟩
    ·simp only[VR]at f;obtain⟨L,base,M,z,N,x,_,_,rfl,_⟩:=f;exact⟨_,rfl⟩
   obtain⟨i,rfl⟩:=o;have I:A.tmps.getD t undef=.pointer (some i):=by rw[Bj,n];rfl
   have s:(loadVar D i).run P w=.ok y w:=by simpa[Instr.loadAt,Instr.sureAddr]using G
   have u:(asAddr (A.tmps.getD t undef)).run P w=.ok i w:=by rw[I];rfl
   simp only[aeS,d,aZ,bQ,aY,h1,u,s]
  ·cases b
def aFc{l:Q3}{vs:Q6}(h:aG F l vs):VR F (LX l) (if h:(⟨vs⟩:QR).size=1 then(⟨vs⟩:QR)[0]else .tuple ⟨vs⟩):=by
 have b:=h.length;unfold LX;split
 ·next v=>
  simp only[aG]at h;obtain⟨x,_,rfl,c,rfl⟩:=h;simpa using c
 ·next a=>
  have:(⟨vs⟩:QR).size≠1:=by
   intro e;have:l.length=1:=by rw[b];exact e
   obtain⟨v,rfl⟩:=Zj.1 this;exact a v rfl
  rw[dif_neg this];simp only[VR];exact⟨vs,rfl,h⟩
def afw:∀(args:Q3)(k:Nat)(t:Tr AV)(j:Nat),(BK args k t).get j=if k<=j/\j<k+args.length then args[j-k]? else t.get j
 |[],k,t,j=>by simp[BK];omega
 |v::args,k,t,j=>by
  rw[BK,afw args (k+1)];simp only[iD];by_cases h1:k+1<=j/\j<k+1+args.length
  ·rw[au h1,au ah];have:j-k=(j-(k+1))+1:=ah;rw[this];simp
  ·rw[aj h1,Tr.yO];by_cases a:j=k
   ·subst a;rw[au rfl,au ah];simp
   ·rw[aj a,aj ah]
def aaD{args:Q3}{vs:Q6}{n:Nat}(h:aG F args vs):
 TR P F {t:=BK args 0 .nil,n:=max args.length n,gn:=P.globals.size} {tmps:=(⟨vs⟩:QR)++Array.replicate (n-(⟨vs⟩:QR).size) undef,defers:=[]}:=by
 have e:=h.length;refine⟨rfl,?_,rfl,λt v a=>?_⟩
 ·simp;omega
 ·rw[afw]at a;split at a
  ·next f=>
   obtain⟨x,b,d⟩:=h.at a;refine⟨x,?_,d⟩;simp only[Jm]at b;have c:=(gu.1 b).1;rw[Y9 (by simpa using c)];simpa using b
  ·simp at a
def afX{H:zJ}{run:Code->bM->aC->Option (fQ×bM×aC)}(O:UF P H)(Q:yD P)(R:Qj P run):uz P (JH P H run):=by
 intro f args J r J' d F w I h L;unfold JH at d;split at d
 ·next g S=>exact O f g S args J r J' d F w I h L
 ·split at d
  ·cases d
  ·next fn o=>
   split at d
   ·cases d
   ·next c E=>
    have x:∀(e:fQ) p,(e=.normal\/e=.ret)->run c {t:=BK args 0 .nil,n:=max args.length fn.ntmps,gn:=P.globals.size} J=some (e,p,J')->∀l,Dk P J' p fn.results.toList=some l->r=LX l->
     nG P f ⟨I⟩ w λv i=>∃m,St P F J w m J' i/\VR m r v:=by
     intro e p T b l y G;right;refine⟨?_,?_⟩
     ·have q:=Q f fn c o E;simp only[callFunc,aZ,program,Sem.run,aY,o];simp only[q,iZ,if_false,E,Na,bQ]
     ·refine calls_of_wp o E ?_;refine R c _ _ _ _ _ b F w _ _ h (aaD L) ?_;intro m z i A M;have j:∃s,(results fn z.tmps).run P i=.ok (if h:(⟨s⟩:QR).size=1 then(⟨s⟩:QR)[0]else .tuple ⟨s⟩) i/\aG m l s:=by unfold results;rw[Za];simp only[aZ,Zt];obtain⟨s,D,u⟩:=Ti A.rel M (fun|.tmp t=>pure (z.tmps.getD t undef)|.cell a t=>do loadVar t (<-asAddr (z.tmps.getD a undef))) (λ_=>rfl) (λ_ _=>rfl) _ _ y;refine⟨s,?_,u⟩;exact uS (λr:Result Q6=>(r.andThen λa i=>Result.ok a.toArray i).andThen λa i=>Sem.run P (pure (if h:a.size=1 then a[0]else Value.tuple a)) i) D
      obtain⟨s,j,u⟩:=j
      have k:z.defers=[]/\∃v,(results fn z.tmps).run P i=.ok v i/\∃N,Ending.returned v=.returned N/\∃m,St P F J w m J' i/\VR m r N:=
       ⟨M.none,_,j,_,rfl,m,A,by rw[G];exact aFc u⟩
      rcases T with rfl|rfl
      ·exact k
      ·exact k
    split at d
    ·next p U b=>
     simp only[bJ,qI]at d;obtain⟨l,y,D,u⟩:=d;subst u;exact x _ p (.inl rfl) b l y D.symm
    ·next p U b=>
     simp only[bJ,qI]at d;obtain⟨l,y,D,u⟩:=d;subst u;exact x _ p (.inr rfl) b l y D.symm
    ·cases d
def agp{I:Caller->CY}{L:zJ}(W:Um P I)(X:UF P L)(Y:yD P):∀n:Nat,Qj P (GL P I L n)/\
 (∀b a J e r J',GL P I L n (.loop b) a J=some (e,r,J')->∀F w A Q,SR P F J w->TR P F a A->(∀F' s w',St P F J w F' J' w'->TR P F' r s->Q e.toExit s w')->Code.rounds P b Q n A w):=by
 intro n;induction n with
 |zero=>exact⟨λc a J e r J' d=>by simp[afi]at d,λb a J e r J' d=>by simp[afi]at d⟩
 |succ n Z=>
  obtain⟨i,O⟩:=Z;have o:=afX X Y i;have D:∀b a J e r J',GL P I L (n+1) (.loop b) a J=some (e,r,J')->∀F w A Q,SR P F J w->TR P F a A->(∀F' s w',St P F J w F' J' w'->TR P F' r s->Q e.toExit s w')->Code.rounds P b Q (n+1) A w:=by
   intro b a J e r J' d F w A Q h k j;rw[rounds_succ];simp only[yF,wM]at d;split at d
   ·next M N u=>
    refine i _ _ _ _ _ _ u F w A _ h k ?_;intro l m w1 f g;exact O _ _ _ _ _ _ d l w1 m Q f.rel g λF' s w' p v=>j F' s w' (f.trans p) v
   ·next q=>
    refine i _ _ _ _ _ _ d F w A _ h k ?_;intro l m w1 f g;cases e with
    |normal=>exact absurd d (by intro E;exact q _ _ E)
    |exit id=>exact j l m w1 f g
    |ret=>exact j l m w1 f g
  refine⟨?_,D⟩;intro c a J e r J' d F w A Q h k j;cases c with
  |loop b=>exact wp_loop_rounds (n+1) (D b a J e r J' d F w A Q h k j)
  |skip=>simp only[yF,wM,bF,qI]at d;obtain⟨rfl,rfl,rfl⟩:=d;exact wp_skip (j F A w (St.refl h) k)
  |region id R G=>
   cases G with
   |false=>simp only[yF,wM,bJ,qI]at d;obtain⟨⟨M,N⟩,u,rfl,rfl,rfl⟩:=d;exact wp_region (akd o _ h k u j)
   |true=>simp only[yF,wM,bJ,qI]at d;obtain⟨⟨M,N⟩,u,rfl,rfl,rfl⟩:=d;exact W _ o R a J _ _ u F w A id Q h k j
  |seq x y=>
   simp only[yF,wM]at d;refine wp_seq ?_;split at d
   ·next M N u=>
    refine i _ _ _ _ _ _ u F w A _ h k ?_;intro l m w1 f g;exact i _ _ _ _ _ _ d l w1 m Q f.rel g λF' s w' p v=>j F' s w' (f.trans p) v
   ·next q=>
    refine i _ _ _ _ _ _ d F w A _ h k ?_;intro l m w1 f g;cases e with
    |normal=>exact absurd d (by intro E;exact q _ _ E)
    |exit id=>exact j l m w1 f g
    |ret=>exact j l m w1 f g
  |cond x y z=>
   simp only[yF,wM]at d;split at d
   ·next t S=>
    obtain⟨vd,S,H⟩:=JR S;have V:=H _ _ (QW h k x _ S);simp only[VR]at V;refine wp_cond V ?_;exact i _ _ _ _ _ _ d F w A Q h k j
   ·cases d
  |block id b=>
   simp only[yF,wM]at d;refine wp_block ?_;split at d
   ·next T M N u=>
    refine i _ _ _ _ _ _ u F w A _ h k ?_;intro l m w1 f g;simp only[fQ.toExit,Exit.inBlock];split at d
    ·next U=>
     cases d;rw[au U];exact j l m w1 f g
    ·next U=>
     cases d;rw[aj U];exact j l m w1 f g
   ·next q=>
    refine i _ _ _ _ _ _ d F w A _ h k ?_;intro l m w1 f g;cases e with
    |normal=>exact j l m w1 f g
    |exit T=>exact absurd d (by intro E;exact q _ _ _ E)
    |ret=>exact j l m w1 f g
  |exit id=>simp only[yF,wM,bF,qI]at d;obtain⟨rfl,rfl,rfl⟩:=d;exact wp_exit (j F A w (St.refl h) k)
  |ret=>simp only[yF,wM,bF,qI]at d;obtain⟨rfl,rfl,rfl⟩:=d;exact wp_ret (j F A w (St.refl h) k)
  |rangeFunc _ _ _ _=>simp[yF,wM]at d
  |scope _=>simp[yF,wM]at d
  |label _=>simp[yF,wM]at d
  |goto _=>simp[yF,wM]at d
  |refuse _=>simp[yF,wM]at d
def anF{a:Caller->CY}{b:zJ}(e:Um P a)(c:UF P b)(d:yD P)(n:Nat):uz P (afh P a b n):=
 afX c d (agp e c d n).1
