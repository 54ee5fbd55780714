/- Values that are named by nodes: append, make, conversions, strings.Builder's string. -/
import Derived.Test.YtboioicpmmipfaaGreatDoorAbsD
set_option linter.all false
namespace Go.aP
noncomputable section
variable[aJ]
variable{P:Program}{H:Env}{F F':aC}{w:World}
def St.Xc{H':Env}{w':World}(h:St P H F w H' F' w')(id:Nat):St P H F w H' (F'.kill id) w':=
 h.sub (λk o a=>by rw[aC.AL]at a;split at a;cases a;exact a) (dP _) rfl
def St.Ad{H':Env}{τ:aC}{w':World}{m e size:Nat}{f:Bool}{xs:Q1}{c:Q3}{y:Value}(h:St P H F w H' (τ.new (.cells c e true true)) w')(t:aJ.val m=some (.l xs))(u:∀x∈xs,x.cells.length=size/\x.cells.all GV.scalar=true)(A:sizeT P e=some size)
 (B:∀vs,aG H' c vs->aG H' (bY xs) vs) (v:VR H' (.sl τ.next 0 xs.length none) y) (D:f=true->xs≠[]):St P H F w H' (τ.new (.vec m e f)) w'/\VR H' (.sv τ.next m) y:=by
 simp only[VR]at v;obtain⟨q,l,d,rfl⟩:=v;have z:(τ.new (.cells c e true true)).get τ.next=some (.cells c e true true):=by rw[aC.rD,au rfl]
 have g:=h.rel.at z l;have n:q.es=size:=by obtain⟨_,_,_,_,r⟩:=g;have:=(r.room rfl).2.2;rw[A]at this;cases this;rfl
 have i:f=true->q.es<=q.sz:=λe=>by have p:=D e;have:0<xs.length:=MN.2 p;simp only[wE,Jp]at d;have E:1<=q.sz/q.es:=ah;exact kZ (by simpa using wC q.es E) (Nat.div_mul_le_self q.sz q.es)
 have j:OR P H' q w' (.vec m e f):=OR.Ad i t (λx s=>by rw[n];exact(u x s).1) (λx s=>(u x s).2) g B;refine⟨h.right ?_ rfl rfl ?_,by simp only[VR];exact⟨xs,t,.inl ⟨q,l,by simpa using d,aA⟩⟩⟩
 ·refine(h.rel.swap (o':=.vec m e f) z rfl (.inl ⟨q,l,j⟩)).sub (λk o a=>?_) (dP _)
  rw[aC.rD]at a;rw[aC.get_put,aC.rD];split at a
  ·next b=>rw[au b];exact a
  ·next b=>rw[aj b,aj b];exact a
 ·intro k o a G;rw[aC.rD]at a⊢;split at a
  ·next b=>rw[au b];exact⟨_,rfl,rfl⟩
  ·next b=>rw[aj b];exact⟨o,a,G⟩
def EP{xs:Q1}{size:Nat}(h:xs.all (GV.gV size)=true):∀x∈xs,x.cells.length=size/\x.cells.all GV.scalar=true:=by intro z a;have:=List.all_eq_true.1 h z a;unfold GV.gV at this;rw[aO]at this;exact⟨Nat.eq_of_beq_eq_true this.1,this.2⟩
def ao8{xs:Q1}{size:Nat}(h:∀x∈xs,x.cells.length=size/\x.cells.all GV.scalar=true):(bY xs).all AV.qp=true:=by unfold bY;refine aa4 ?_;rw[List.all_eq_true];intro g b;obtain⟨z,c,a⟩:=ae8.1 b;exact List.all_eq_true.1 (h z c).2 g a
def agk(xs a:Q1):bY (xs++a)=bY xs++bY a:=by unfold bY;rw[ae2,J5]
def JM{xs:Q1}{size:Nat}(h:∀x∈xs,x.cells.length=size):(bY xs).length=xs.length*size:=by rw[bY,oG,QW h]
def adS(P:Program)(F:aC)(e size:Nat)(a:TypeId)(x:AV):W2:=
 match P.underlying a with
 |some .string=>if size=1 then match jE x with
   |some n=>gB (.bytes n)
   |none=>none
  else none
 |some (.slice _)=>listOf P F e x
 |_=>none
def Yr(h:SR P H F w){e size:Nat}{f:TypeId}{x:AV}{b:Nat}{u:Value}{xs:Q1}(c:adS P F e size f x=some b)(m:VR H x u)(r:sizeT P e=some size)(o:aJ.val b=some (.l xs))(i:xs.all (GV.gV size)=true):
 ∃p,Src P size f u xs.length p w/\aG H (bY xs) p:=by
 unfold adS at c;split at c
 ·next j=>
  split at c
  ·next t=>
   subst t;split at c
   ·next n k=>
    obtain⟨g,v,B,g3⟩:=nV k m;obtain⟨D,q,d⟩:=iJ c;rw[o]at q;cases q;simp only[Nd.den,v]at d;split at d
    ·next s y=>
     cases y;cases d;have z:Ik P f=true:=by unfold Ik;rw[j]
     have:=src_ok h z (size:=1) (n:=s.length) (l:=yO s) (a:=.s s) (x:=u) (by simp[Bc]) ((nI (.s s) u).1 g3) (by unfold yO;simp[AV.qp]);rw[af4];have A:(dJ s).length=s.length:=by simp[dJ]
     rw[A];exact this
    ·cases d
   ·cases c
  ·cases c
 ·next j=>exact axW h c m j r o i
 ·cases c
def axV{e size id len:Nat}{cap:W2}{a et:Nat}{c:Q3}{r opn:Bool}(s:F.get id=some (.cells c et r opn))(b:listOf P F e (.sl id 0 len cap)=some a)(t:sizeT P e=some size)(d:c.length=len*size):
 ∃h,(∀{H:Env}{vs:Q6},aG H c vs->∃gs,valsOf aJ.val h=some gs/\gs.length=len/\aG H (bY gs) vs/\∀x∈gs,x.cells.length=size/\x.cells.all GV.scalar=true)/\∀gs,valsOf aJ.val h=some gs->aJ.val a=some (.l gs):=by
 simp only[listOf,s,t]at b;split at b
 ·next G I u L i j k l v=>
  cases k;cases l;split at b
  ·next p=>
   rw[aO,qF,aO]at p;have f:j=false->size=1:=by
    intro e;subst e;rcases p.2 with h1|h1
    ·simp at h1
    ·exact bV h1
   have m:takeN c 0 (len*size)=some c:=by unfold takeN;rw[dY,mF ah,au d]
   rw[m]at b;simp only at b;split at b
   ·next h n=>
    refine⟨h,λ{H vs} y=>?_,λgs o=>?_⟩
    ·obtain⟨gs,z,A,B,_,D⟩:=Hy (H:=H) f len n y d;exact⟨gs,z,A,B,D⟩
    ·obtain⟨g,E,q⟩:=iJ b;simp only[Nd.den,o,iO,bD]at q;rw[q];exact E
   ·cases b
  ·cases b
 ·cases b
set_option maxHeartbeats 1000000 in
def aFw(h:SR P H F w){ts:Wt}{ty:TypeId}{s x v:AV}{u u':Value}(p:ad3 P ts s x F=some (v,F'))(Q:VR H s u)(B:VR H x u'):
 ∃y w' H',(Builtin.append_ ts ty #[u,u']).run P w=.ok y w'/\St P H F w H' F' w'/\VR H' v y:=by
 unfold ad3 at p;split at p
 ·next t t1 a2=>
  have:=U6 a2;subst this;split at p
  ·next e d bytes z hi=>
   obtain⟨_,_,_,he,_,V⟩:=Dz hi;split at p
   ·cases p
   ·next h0=>
    split at p
    ·cases p
    ·next b hb=>
     have am:adS P F e d t1 x=some b:=hb;have an:∀{a m:Nat}{j:Q1},gB (.app d bytes a b)=some m->aJ.val a=some (.l j)->∃i,aJ.val b=some (.l i)/\aJ.val m=some (.l (j++i))/\i.all (GV.gV d)=true/\2*(j.length+i.length)*bytes<=2^48/\j.length+i.length<=2^48:=by
      intro a m j W Z;obtain⟨g,g1,g2⟩:=iJ W;simp only[Nd.den,Z]at g2;split at g2
      ·next ba i G e2=>
       cases G;split at g2
       ·next R=>cases g2;exact⟨i,e2,g1,R.1,R.2.1,R.2.2⟩
       ·cases g2
      ·cases g2
     have U4:∀{i:Q1}{S:AV}{n:Nat},i.all (GV.gV d)=true->sliceLen S=n->2*(n+i.length)*bytes<=2^48->n+i.length<=2^48->¬(d=0\/(bY i).all AV.qp=false\/¬(2*(sliceLen S+i.length)*bytes<=2^48/\sliceLen S+i.length<=2^48)):=by intro i S n h1 h2 h3 h4;rw[ao8 (EP h1),h2];simp[h0];omega
     have ay:∀{a:Nat},gB (.ml [])=some a->aJ.val a=some (.l []):=by intro a Z;obtain⟨g,g1,g2⟩:=iJ Z;simp only[Nd.den,valsOf,iO,bD]at g2;subst g2;exact g1
     have az:∀{a m:Nat}{τ:aC},aJ.val a=some (.l [])->gB (.app d bytes a b)=some m->u=.slice none 0 0->τ.lock=F.lock->τ.next=F.next->(∀k o,τ.get k=some o->F.get k=some o)->
      ∀f:Bool,∃y w' H',(Builtin.append_ #[t,t1] ty #[u,u']).run P w=.ok y w'/\St P H F w H' (τ.new (.vec m e f)) w'/\VR H' (.sv F.next m) y:=by
      intro a m τ Z W N hl aD ap f;obtain⟨i,y1,L,M,y4,y5⟩:=an W Z;obtain⟨zs,z1,z2⟩:=Yr h am B V y1 M;have l:=JM (λx B=>(EP M x B).1);simp only[aZ,lQ,mW]at L y4 y5;have R:=U4 (S:=.iw) (n:=0) M rfl (by simpa using y4) (by simpa using y5);by_cases X:i.length=0
      ·have T:i=[]:=kP X;subst T;have r:su e d bytes .iw 0 (bY []) F=some (.iw,F):=by unfold su;rw[aj (by simpa using R)];rfl
       obtain⟨y,w',H',r1,r2,r3⟩:=EG (ty:=ty) h hi z1 z2 l r (u:=u) (by simp only[VR];exact N);refine⟨y,w',H'.ghost F.next,r1,r2.trans ?_,?_⟩
       ·exact St.ghost r2.rel L hl aD ap
       ·simp only[VR]at r3⊢;exact⟨[],L,.inr ⟨by simp[Env.ghost],rfl,r3⟩⟩
      ·have r:su e d bytes .iw i.length (bY i) F=some (.sl F.next 0 i.length none,F.new (.cells (bY i) e true true)):=by unfold su;rw[aj R];simp only;rw[aj X]
       obtain⟨y,w',H',r1,r2,r3⟩:=EG (ty:=ty) h hi z1 z2 l r (u:=u) (by simp only[VR];exact N);obtain⟨q1,q2⟩:=St.Ad (f:=f) r2 L (EP M) V (λ_ h=>h) r3 (λ_ e=>X (by rw[e];rfl));refine⟨y,w',H',r1,q1.sub (λk o A=>?_) (by show F.next+1<=τ.next+1;omega) hl,q2⟩;rw[aC.rD]at A⊢;rw[aD]at A;split at A
       ·next G=>rw[au G];exact A
       ·next G=>rw[aj G];exact ap k o A
     split at p
     ·split at p
      ·next a Z=>
       obtain⟨m,W,G⟩:=bI.1 p;cases G;simp only[VR]at Q;exact az (τ:=F) (ay Z) W Q rfl rfl (λ_ _ h=>h) true
      ·cases p
     ·next id n=>
      split at p
      ·next a D f U=>
       split at p
       ·next E=>
        rw[aO,aO]at E;obtain⟨⟨aa,aE⟩,ab⟩:=E;have Kq:=bV aa;subst Kq;have E9:=wB ab;obtain⟨m,W,G⟩:=bI.1 p;cases G;simp only[VR]at Q;obtain⟨xn,n1,Q⟩:=Q;rcases h.live id _ U with⟨q,Y,a3⟩|⟨ar,m0,bb,f0,e0,aL⟩
        ·obtain⟨j,x1,x2,x3,x4,x5,x6,x7,hS⟩:=Py h U Y;have ac:=AZ 100 aE x1 n1;rw[V]at x5;cases x5;rcases Q with⟨q',ad,av,rfl⟩|⟨ar,_,_⟩
         ·rw[Y]at ad;cases ad;obtain⟨i,y1,L,M,y4,y5⟩:=an W x1;have aw:=JM x2;have ae:∀x∈j++i,x.cells.length=q.es/\x.cells.all GV.scalar=true:=by
           intro x B;rcases jQ.1 B with B|B
           ·exact⟨x2 x B,x7 x B⟩
           ·exact EP M x B
          obtain⟨zs,z1,z2⟩:=Yr h am B V y1 M;have l:=JM (λx B=>(EP M x B).1);have R:=U4 (S:=.sl id 0 j.length none) (n:=j.length) M rfl y4 y5;rw[<-ac]at av⊢;have aM:VR H (.sl id 0 j.length none) (.slice (some ⟨q.bl,q.ba,none⟩) j.length (q.sz/q.es)):=by simp only[VR];exact⟨q,Y,by simpa using av,aA⟩
          by_cases X:i.length=0
          ·have T:i=[]:=kP X;subst T;rw[pY]at L;have r:su D q.es bytes (.sl id 0 j.length none) 0 (bY []) (mM F id j D)=some (.sl id 0 j.length none,mM F id j D):=by unfold su;rw[aj (by simpa using R)];rfl
           obtain⟨y,w',H',r1,r2,r3⟩:=EG (ty:=ty) hS hi z1 z2 l r aM;have a4:=TQ U r2;have aR:(mM F id j D).get id=some (.cells (bY j) D true true):=Gp;have I:=r2.ext.pl _ _ Y;have af:=r2.rel.at aR I;have ag:OR P (H'.put F.next q) q w' (.vec m D f):=by have ai:=Env.IK r2.rel q;refine OR.Ad (λe=>by subst e;exact a3.YU) L x2 x7 (af.mono ai) (λ_ h=>h)
           have Q7:=St.again (q':=q) r2.rel aR rfl (show(mM F id j D).lock<=id from E9) I rfl rfl (λ_ _=>rfl) rfl rfl rfl ag;refine⟨y,w',H'.put F.next q,r1,(a4.trans Q7).sub (λk o A=>?_) (dP _) rfl,?_⟩
           ·rw[aC.rD,aC.AL]at A⊢;split at A
            ·next G=>rw[au (show k=((mM F id j D).kill id).next from G)];exact A
            ·next G=>
             rw[aj (show ¬k=((mM F id j D).kill id).next from G)];split at A
             ·cases A
             ·next e2=>rw[aj e2];unfold mM;rw[aC.get_put,aj e2];exact A
           ·simp only[VR]at r3⊢;obtain⟨q3,O,ak,rfl⟩:=r3;rw[I]at O;cases O;exact⟨j,L,.inl ⟨q,by simp[Env.put],by simpa using ak,aA⟩⟩
          ·have ao:takeN (bY j) 0 (j.length*q.es)=some (bY j):=by unfold takeN;rw[dY,mF ah,au aw]
           have r:su D q.es bytes (.sl id 0 j.length none) i.length (bY i) (mM F id j D)=some (.sl F.next 0 (j.length+i.length) none,((mM F id j D).kill id).new (.cells (bY j++bY i) D true true)):=by unfold su;rw[aj R];simp only;rw[aj X,au (show(mM F id j D).lock<=id from E9),Gp];simp only[if_true,ao,iO];rfl
           obtain⟨y,w',H',r1,r2,r3⟩:=EG (ty:=ty) hS hi z1 z2 l r aM;obtain⟨q1,q2⟩:=St.Ad (size:=q.es) (TQ U r2) L ae V (λvs al=>by rw[agk];exact al) (by rw[eP];exact r3) (f:=f) (λ_ e=>X (by have:=uT List.length e;simp at this;rw[this.2];rfl));refine⟨y,w',H',r1,q1.sub (λk o A=>?_) (dP _) rfl,q2⟩;rw[aC.rD,aC.AL]at A⊢;split at A
           ·next G=>rw[au (show k=((mM F id j D).kill id).next from G)];exact A
           ·next G=>
            rw[aj (show ¬k=((mM F id j D).kill id).next from G)];split at A
            ·cases A
            ·next e2=>rw[aj e2];unfold mM;rw[aC.get_put,aj e2];exact A
         ·rw[(h.lq id ar).1]at Y;cases Y
        ·cases e0;have ac:=AZ 100 aE aL n1;rcases Q with⟨q',ad,_⟩|⟨_,_,Q⟩
         ·rw[(h.lq id ar).1]at ad;cases ad
         ·exact az (τ:=F.kill id) aL W Q rfl rfl (λk o A=>by rw[aC.AL]at A;split at A;cases A;exact A) f
       ·cases p
      ·cases p
     ·next id=>
      split at p
      ·next D U=>
       split at p
       ·next E=>
        rw[aO]at E;obtain⟨aa,ab⟩:=E;have Kq:=bV aa;subst Kq;have E9:=wB ab;split at p
        ·next a Z=>
         obtain⟨m,W,G⟩:=bI.1 p;cases G;obtain⟨i,y1,L,M,y4,y5⟩:=an W (ay Z);simp only[aZ,lQ,mW]at L y4 y5;obtain⟨zs,z1,z2⟩:=Yr h am B V y1 M;have l:=JM (λx B=>(EP M x B).1);have R:=U4 (S:=.sl id 0 0 (some 0)) (n:=0) M rfl (by simpa using y4) (by simpa using y5);have N:=Q;simp only[VR]at N;obtain⟨q,Y,_,rfl⟩:=N;obtain⟨cs,a0,fr,a5,rr⟩:=h.at U Y;have bc:=rr.shut rfl;obtain⟨w1,w2,w3⟩:=rr.whole he;have bd:=w3 rfl;by_cases X:i.length=0
         ·have T:i=[]:=kP X;subst T;have r:su D d bytes (.sl id 0 0 (some 0)) 0 (bY []) F=some (.sl id 0 0 (some 0),F):=by unfold su;rw[aj (by simpa using R)];rfl
          obtain⟨y,w',H',r1,r2,r3⟩:=EG (ty:=ty) h hi z1 z2 l r Q;have I:=r2.ext.pl _ _ Y;obtain⟨a6,NK,NZ,a7,ax⟩:=r2.rel.at U I;obtain⟨v1,v2,v3⟩:=ax.whole he;have a1:=ax.shut rfl;simp only[lQ]at a1;have ag:OR P (H'.put F.next ⟨q.bl,q.ba,0,d⟩) ⟨q.bl,q.ba,0,d⟩ w' (.vec m D false):=by refine⟨[],a6,NK,NZ,[],L,a7,by simp[aV],aA,by simp[Ho,eX],aA,{fits:=by have:=ax.fits;simp;omega,le:=aA,shut:=aA,cell:=aA,free:=aA,whole:=λ_=>⟨v1,by simp;omega,aA⟩,room:=λ_=>⟨he,by simp;omega,V⟩},aA,aA⟩
          have Q7:=St.again (q':=⟨q.bl,q.ba,0,d⟩) r2.rel U rfl E9 I rfl rfl (λ_ _=>rfl) rfl rfl rfl ag;refine⟨y,w',_,r1,r2.trans Q7,?_⟩;simp only[VR]at r3⊢;obtain⟨q3,O,_,rfl⟩:=r3;rw[I]at O;cases O;exact⟨[],L,.inl ⟨⟨q.bl,q.ba,0,d⟩,by simp[Env.put],aA,aA⟩⟩
         ·have r:su D d bytes (.sl id 0 0 (some 0)) i.length (bY i) F=some (.sl F.next 0 (0+i.length) none,F.new (.cells ([]++bY i) D true true)):=by unfold su;rw[aj R];simp only;rw[aj ah,U];simp[takeN]
          obtain⟨y,w',H',r1,r2,r3⟩:=EG (ty:=ty) h hi z1 z2 l r Q;rw[aZ]at r2;rw[mW]at r3;obtain⟨q1,q2⟩:=St.Ad (f:=false) r2 L (EP M) V (λ_ h=>h) r3 aA;refine⟨y,w',H',r1,q1.sub (λk o A=>?_) (dP _) rfl,q2⟩;rw[aC.rD,aC.AL]at A;rw[aC.rD];split at A
          ·next G=>rw[au (show k=F.next from G)];exact A
          ·next G=>
           rw[aj (show ¬k=F.next from G)];split at A
           ·cases A
           ·exact A
        ·cases p
       ·cases p
      ·cases p
     ·next id len=>
      split at p
      ·next c D U=>
       split at p
       ·next E=>
        rw[aO,aO]at E;obtain⟨⟨aa,ab⟩,aw⟩:=E;have Kq:=bV aa;subst Kq;have E9:=wB ab;have aq:=bV aw;split at p
        ·next a Z=>
         obtain⟨m,W,G⟩:=bI.1 p;cases G;obtain⟨ns,l1,l2⟩:=axV U Z V aq;have N:=Q;simp only[VR]at N;obtain⟨q,Y,av,rfl⟩:=N;obtain⟨ws,a0,fr,a5,rr⟩:=h.at U Y;have a8:q.es=d:=by have:=(rr.room rfl).2.2;rw[V]at this;cases this;rfl
         have ao:takeN c 0 (len*d)=some c:=by unfold takeN;rw[dY,mF ah,au aq]
         obtain⟨j,k1,k2,k3,k4⟩:=l1 (rr.Bd ao);have a9:=l2 j k1;have conv:∀{H':Env}(vs:Q6),aG H' c vs->aG H' (bY j) vs:=by intro H' vs hv;obtain⟨gs,j1,_,j3,_⟩:=l1 hv;rw[k1]at j1;cases j1;exact j3
         obtain⟨i,y1,L,M,y4,y5⟩:=an W a9;have ae:∀x∈j++i,x.cells.length=d/\x.cells.all GV.scalar=true:=by
          intro x B;rcases jQ.1 B with B|B
          ·exact k4 x B
          ·exact EP M x B
         obtain⟨zs,z1,z2⟩:=Yr h am B V y1 M;have l:=JM (λx B=>(EP M x B).1);have R:=U4 (S:=.sl id 0 len none) (n:=j.length) M k2.symm y4 y5;by_cases X:i.length=0
         ·have T:i=[]:=kP X;subst T;rw[pY]at L;have r:su D d bytes (.sl id 0 len none) 0 (bY []) F=some (.sl id 0 len none,F):=by unfold su;rw[aj (by simpa using R)];rfl
          obtain⟨y,w',H',r1,r2,r3⟩:=EG (ty:=ty) h hi z1 z2 l r Q;have I:=r2.ext.pl _ _ Y;have af:=r2.rel.at U I;have ag:OR P (H'.put F.next q) q w' (.vec m D false):=by have ai:=Env.IK r2.rel q;refine OR.Ad aA L (λx B=>by rw[a8];exact(k4 x B).1) (λx B=>(k4 x B).2) (af.mono ai) (λvs al=>conv vs al)
          have Q7:=St.again (q':=q) r2.rel U rfl E9 I rfl rfl (λ_ _=>rfl) rfl rfl rfl ag;refine⟨y,w',H'.put F.next q,r1,r2.trans Q7,?_⟩;simp only[VR]at r3⊢;obtain⟨q3,O,ak,rfl⟩:=r3;rw[I]at O;cases O;exact⟨j,L,.inl ⟨q,by simp[Env.put],by rw[k2];simpa using ak,by simp[k2]⟩⟩
         ·have r:su D d bytes (.sl id 0 len none) i.length (bY i) F=some (.sl F.next 0 (len+i.length) none,(F.kill id).new (.cells (c++bY i) D true true)):=by unfold su;rw[aj R];simp only;rw[aj X,au E9,U];simp only[if_true,ao,iO]
          obtain⟨y,w',H',r1,r2,r3⟩:=EG (ty:=ty) h hi z1 z2 l r Q;obtain⟨q1,q2⟩:=St.Ad (size:=d) r2 L ae V (λvs al=>by obtain⟨us,ts,rfl,v1,v2⟩:=aG.split al;rw[agk];exact aG.append (conv us v1) v2) (by rw[eP,k2];exact r3) (f:=false) aA
          exact⟨y,w',H',r1,q1,q2⟩
        ·cases p
       ·cases p
      ·cases p
     ·cases p
  ·cases p
 ·cases p
def alG{x:GV}{z:Q3}(b:∀a,aG H z a->aG H (fB x.cells) a):∀(n:Nat)(vs:Q6),aG H (kC n z) vs->aG H (bY (List.replicate n x)) vs
 |0,vs,h=>by simpa[kC,bY,fB]using h
 |n+1,vs,h=>by
  have e:kC (n+1) z=z++kC n z:=by simp[kC,PY]
  rw[e]at h;obtain⟨a,c,rfl,d,f⟩:=aG.split h;have g:bY (List.replicate (n+1) x)=fB x.cells++bY (List.replicate n x):=by unfold bY;rw[PY,kY,J5]
  rw[g];exact(b a d).append (alG b n c f)
def aBM(z:Q3)(n m:Nat)(h:n<=m):(kC m z).take (n*z.length)=kC n z:=by
 induction n generalizing m with
 |zero=>simp[kC]
 |succ n a=>
  cases m with
  |zero=>omega
  |succ m=>
   have e:∀k,kC (k+1) z=z++kC k z:=λk=>by simp[kC,PY]
   rw[e,e,<-a m ah,List.take_append,mF (by rw[uK];omega)];congr 2;rw[uK];omega
def aFG(h:SR P H F w){t:TypeId}{l c v:AV}{x y:Value}(q:YD P t l c F=some (v,F'))(X:VR H l x)(hy:VR H c y):
 ∃z w' H',(Instr.makeSlice t x y).run P w=.ok z w'/\St P H F w H' F' w'/\VR H' v z:=by
 unfold YD at q;split at q
 ·next e0 Y=>
  split at q
  ·next e b bytes z M hi ai=>
   obtain⟨N,_,_,he,i,hn⟩:=Dz hi;rw[Y]at N;cases N;split at q
   ·cases q
   ·next Z=>
    split at q
    ·next zn ln cn d aa ab=>
     obtain⟨m,hm,I⟩:=bI.1 q;cases I;obtain⟨gl,l1,l2,l3⟩:=nV aa X;obtain⟨gc,c1,c2,c3⟩:=nV ab hy;obtain⟨g,g1,L⟩:=iJ hm;simp only[Nd.den,l1,c1]at L;split at L
     ·next xz kn n ac W I e2 e3=>
      cases e2;cases e3;split at L
      ·next hc=>
       cases L;obtain⟨b1,b2,b3,b4,r⟩:=hc;simp only[GR]at l3 c3;subst l3;subst c3;obtain⟨A,O,B,D⟩:=ax8 (P:=P) (w:=w) (H:=H) (kd:=kn) (kd':=ac) hi Z b1 b2 b3 b4;have ad:∀k,aG H z k->aG H (fB xz.cells) k:=by
        intro k j;cases M with
        |true=>simp only[if_true]at d;obtain⟨l',gs,e4,_,Q,_,R⟩:=Nl d (by simp only[VR];exact⟨k,rfl,j⟩:VR H (.agg z) (.agg ⟨k⟩));rw[I]at Q;cases Q;simp only[GR]at R;obtain⟨ae,e7,e8⟩:=R;cases e7;exact(qX _ _).1 e8
        |false=>
         simp only[iI,if_false]at d;cases o:z with
         |nil=>rw[o]at d;simp at d
         |cons a zr=>
          rw[o]at d j i;simp only[Ze,BA]at d;simp only[aG]at j;obtain⟨u,ur,rfl,E,p⟩:=j;obtain⟨gz,S,T,k3⟩:=nV d E;rw[I]at S;cases S;rw[GV.LM T];have:b=1:=by unfold GV.gV at r;rw[aO,GV.LM T]at r;exact(bV r.1).symm
          rw[this]at i;have rG:zr=[]:=by apply kP;simpa using i
          subst rG;simp only[aG]at p;subst p;simp only[fB];exact aG.cons ((nI _ _).1 k3) (by simp[aG])
       have U:∀x∈List.replicate n.toNat xz,x.cells.length=b/\x.cells.all GV.scalar=true:=by intro x X;rw[(afa.1 X).2];unfold GV.gV at r;rw[aO]at r;exact⟨Nat.eq_of_beq_eq_true r.1,r.2⟩
       have G:n.toNat<=W.toNat:=ah;have V:aG H (kC n.toNat z) (A.toList.take (kC n.toNat z).length):=by rw[XW,i];have:=D.take (n.toNat*b);rw[<-i,aBM z _ _ G,i]at this;exact this
       have af:=EL h (c:=kC n.toNat z) (xs:=A) (elem:=_) (es:=b) (opn:=true) V (by rw[XW,i,B];exact wC _ G) aA (λ_=>⟨he,Nat.pos_of_ne_zero Z,hn⟩);have s:(W.toNat*b)/b=W.toNat:=Zm _ (Nat.pos_of_ne_zero Z);obtain⟨q1,q2⟩:=St.Ad (f:=false) (size:=b) (y:=.slice (some ⟨w.heap.size,0,none⟩) n.toNat W.toNat) af g1 U hn (λvs D=>by
        have ag:∀k,aG (H.put F.next ⟨w.heap.size,0,A.size,b⟩) z k->aG (H.put F.next ⟨w.heap.size,0,A.size,b⟩) (fB xz.cells) k:=by
         intro k j;cases M with
         |true=>simp only[if_true]at d;obtain⟨l',gs,e4,_,Q,_,R⟩:=Nl d (by simp only[VR];exact⟨k,rfl,j⟩:VR (H.put F.next ⟨w.heap.size,0,A.size,b⟩) (.agg z) (.agg ⟨k⟩));rw[I]at Q;cases Q;simp only[GR]at R;obtain⟨ae,e7,e8⟩:=R;cases e7;exact(qX _ _).1 e8
         |false=>
          simp only[iI,if_false]at d;cases o:z with
          |nil=>rw[o]at d;simp at d
          |cons a zr=>
           rw[o]at d j i;simp only[Ze,BA]at d;simp only[aG]at j;obtain⟨u,ur,rfl,E,p⟩:=j;obtain⟨gz,S,T,k3⟩:=nV d E;rw[I]at S;cases S;rw[GV.LM T];have:b=1:=by unfold GV.gV at r;rw[aO,GV.LM T]at r;exact(bV r.1).symm
           rw[this]at i;have rG:zr=[]:=by apply kP;simpa using i
           subst rG;simp only[aG]at p;subst p;simp only[fB];exact aG.cons ((nI _ _).1 k3) (by simp[aG])
        exact alG ag _ _ D) (by simp only[VR];exact⟨⟨w.heap.size,0,A.size,b⟩,by simp[Env.put],by simp[B,s,G],by simp[B,s]⟩) aA
       exact⟨_,_,_,O,q1,q2⟩
      ·cases L
     ·cases L
    ·cases q
  ·cases q
 ·cases q
def Qs:∀{xs:Q1}{b:Q0},pO xs=some b->bytesOf (fB xs)=some b
 |[],b,h=>by simpa[pO,fB,bytesOf]using h
 |x::xs,b,h=>by
  unfold pO at h;split at h
  ·rename_i a;cases a
  ·next n rest a=>
   cases a;simp only[fB,mG,bytesOf];split at h
   ·next d=>
    rw[au d];obtain⟨e,c,rfl⟩:=bI.1 h;rw[Qs c];rfl
   ·cases h
  ·cases h
def Va:∀{xs:Q1}{b:Q0},pO xs=some b->xs.flatMap GV.cells=xs
 |[],b,h=>rfl
 |x::xs,b,h=>by
  unfold pO at h;split at h
  ·rename_i a;cases a
  ·next n rest a=>
   cases a;split at h
   ·obtain⟨d,c,_⟩:=bI.1 h;rw[kY,Va c];rfl
   ·cases h
  ·cases h
def aFz(h:SR P H F w){src dst:TypeId}{a v:AV}{x:Value}(p:Yx P src dst a F=some (v,F'))(r:VR H a x):
 ∃y w' H',(convert src dst x).run P w=.ok y w'/\St P H F w H' F' w'/\VR H' v y:=by
 unfold Yx at p;split at p
 ·next d k n h1 B=>
  obtain⟨v',D,E⟩:=bI.1 p;cases E;simp only[VR]at r;obtain⟨g,L,a2,M⟩:=r;obtain⟨_,g',_,j,b3⟩:=oQ (H:=H) D;simp only[Nd.den,L]at j;split at j
  ·next kk z E=>
   cases E;cases j;simp only[GR]at M;subst M;obtain⟨y,w',H',r1,r2,r3⟩:=QG h (src:=src) (dst:=dst) (a:=.i kk z) (v:=.i k (k.wrap z)) (F':=F) (by simp only[Am,h1,B]) (by simp only[VR]:VR H (.i kk z) (.int kk z));exact⟨y,w',H',r1,r2,by obtain⟨_,N,_,G,V⟩:=oQ (H:=H') D;simp only[Nd.den,L,bD]at G;subst G;exact V y rfl ((nI _ _).2 r3)⟩
  ·cases j
 ·next n h1 B=>
  obtain⟨v',D,E⟩:=bI.1 p;cases E;simp only[VR]at r;obtain⟨g,L,a2,M⟩:=r;obtain⟨_,g',_,j,b3⟩:=oQ (H:=H) D;simp only[Nd.den,L]at j;split at j
  ·next z E=>
   cases E;cases j;simp only[GR]at M;subst M;obtain⟨y,w',H',r1,r2,r3⟩:=QG h (src:=src) (dst:=dst) (a:=.s z) (v:=.s z) (F':=F) (by simp only[Am,h1,B]) (by simp only[VR]:VR H (.s z) (.string ⟨⟨z⟩⟩));exact⟨y,w',H',r1,r2,by obtain⟨_,N,_,G,V⟩:=oQ (H:=H') D;simp only[Nd.den,L,bD]at G;subst G;exact V y rfl ((nI _ _).2 r3)⟩
  ·cases j
 ·next e n h1 B=>
  split at p
  ·next W=>
   split at p
   ·next R=>
    split at p
    ·next m D=>
     cases p;simp only[VR]at r;obtain⟨g,L,a2,M⟩:=r;obtain⟨g',b1,j⟩:=iJ D;simp only[Nd.den,L]at j;split at j
     ·next z E=>
      cases E;cases j;simp only[GR]at M;subst M;obtain⟨y,w',H',r1,r2,r3⟩:=QG h (src:=src) (dst:=dst) (a:=.s z) (v:=.sl F.next 0 z.length none) (F':=F.new (.cells (yO z) e true true)) (by simp only[Am,h1,B,W,au R]) (by simp only[VR]:VR H (.s z) (.string ⟨⟨z⟩⟩));obtain⟨q1,q2⟩:=St.Ad (f:=false) (size:=1) r2 b1 (by intro x r;obtain⟨c,_,rfl⟩:=rZ.1 r;exact⟨rfl,rfl⟩) R.2 (λvs ag=>by rw[af4];exact ag) (by simpa[dJ]using r3) aA
      exact⟨y,w',H',r1,q1,q2⟩
     ·cases j
    ·cases p
   ·cases p
  ·cases p
 ·next e h1 B=>
  split at p
  ·next W=>
   split at p
   ·next m o=>
    obtain⟨v',D,E⟩:=bI.1 p;cases E;obtain⟨_,g',_,j,b3⟩:=oQ (H:=H) D;simp only[Nd.den]at j;split at j
    ·next t S=>
     split at j
     ·next aa=>
      obtain⟨b,u,rfl⟩:=bI.1 j;have fin:∀{τ:aC}{A:AV},SR P H τ w->VR H A x->Am P src dst A τ=some (.s b,τ)->(∀{H':Env}{w':World},St P H τ w H' τ w'->St P H F w H' F w')->∃y w' H',(convert src dst x).run P w=.ok y w'/\St P H F w H' F w'/\VR H' v y:=by intro τ A hS hA ai X;obtain⟨y,w',H',r1,r2,r3⟩:=QG hS ai hA;refine⟨y,w',H',r1,X r2,?_⟩;obtain⟨_,N,_,G,V⟩:=oQ (H:=H') D;simp only[Nd.den,S,au aa,u,iO,bD]at G;subst G;exact V y rfl ((nI _ _).2 r3)
      have T:pO t=some b->t=[]->b=[]:=by rintro h1 rfl;simpa[pO]using h1.symm
      unfold listOf at o;split at o
      ·next n=>
       cases o;simp only[VR]at r;obtain⟨g,L,a2,M⟩:=r;rw[S]at L;cases L;exact fin h ((nI (.l t) x).1 M) (by simp only[mG,Am,h1,B,W,Qs u,iO]) (λh=>h)
      ·obtain⟨g,g1,N⟩:=iJ o;rw[S]at g1;cases g1;simp only[Nd.den,valsOf,iO,bD,GV.l.injEq]at N;have:=T u N.symm;subst this;exact fin h r (by simp only[Am,h1,B,W]) (λh=>h)
      ·next id n=>
       split at o
       ·next m' et _ Z=>
        split at o
        ·next R=>
         cases o;rw[aO]at R;simp only[VR]at r;obtain⟨ys,k1,r⟩:=r;have U:=AZ 100 R.2 S k1;rcases r with⟨q,hq,ab,rfl⟩|⟨_,rfl,rfl⟩
         ·obtain⟨aq,j1,j2,j3,j4,j5,j6,j7,hS⟩:=Py h Z hq;rw[S]at j1;cases j1;have Y:bY t=fB t:=by unfold bY;rw[Va u]
          have ac:takeN (bY t) 0 t.length=some (fB t):=by rw[Y];unfold takeN;rw[dY,mF (by rw[oG];omega),au (oG t)]
          rw[U]at ac;refine fin (A:=.sl id 0 ys.length none) hS (by simp only[VR];exact⟨q,hq,by simpa using ab,aA⟩) ?_ (λX=>aGj (λe=>by subst e;exact(h.at Z hq).YU) Z hq S j2 j7 (TQ Z X));simp only[Am,h1,B,W,Gp,ac,Qs u,iO]
         ·have O:t=[]:=kP (by simpa using U);have:=T u O;subst this;exact fin h (A:=.iw) (by simp only[VR]) (by simp only[Am,h1,B,W]) (λh=>h)
        ·cases o
       ·cases o
      ·next id ar len av=>
       split at o
       ·next c et xu aw I ak Z ax ay=>
        split at o
        ·next R=>
         rw[aO,qF,aO]at R;split at o
         ·next cs Q=>
          split at o
          ·next ns al=>
           have ad:ak=false->I=1:=by
            intro e;subst e;rcases R.2 with h1|h1
            ·simp at h1
            ·exact bV h1
           obtain⟨g,g1,N⟩:=iJ o;rw[S]at g1;cases g1;simp only[VR]at r;obtain⟨q,hq,ab,rfl⟩:=r;obtain⟨q',ae,ws,ap,fr,af,rr⟩:=h.obj _ _ Z rfl;rw[hq]at ae;cases ae;have am:=(vg Q).2.1;obtain⟨gs,k1,k2,k3,_,k5⟩:=Hy (H:=H) ad len al (rr.Bd Q) am;simp only[Nd.den,k1,iO,bD,GV.l.injEq]at N;rw[N]at k2 k3 k5;have an:len*I=len:=by
            cases len with
            |zero=>simp
            |succ n=>
             have ao:t[0]? =some (t[0]'(by omega)):=cO ah;have h5:=(k5 _ (tN ao)).1;have h6:(t[0]'(by omega)).cells.length=1:=by
              cases t with
              |nil=>simp at k2
              |cons y ys=>
               cases y with
               |i k n=>rfl
               |b=>simp[pO]at u
               |s=>simp[pO]at u
               |l=>simp[pO]at u
               |g=>simp[pO]at u
             rw[h6]at h5;rw[<-h5];simp
           have Y:bY t=fB t:=by unfold bY;rw[Va u]
           rw[Y]at k3;have O:=Qu (Qs u) k3;rw[an]at Q O;refine⟨.string ⟨⟨b⟩⟩,w,H,?_,St.refl h,?_⟩
           ·simp only[convert,aY,bF h1,bF B,aX,bF W,Conv.bytesToString];rw[FV af (rr.take Q),O];simp only[aX];rw[adE _ (λ_ _ _=>rfl)];rfl
           ·obtain⟨_,N,_,G,V⟩:=oQ (H:=H) D;simp only[Nd.den,S,au aa,u,iO,bD]at G;subst G;exact V _ rfl (by simp only[GR])
          ·cases o
         ·cases o
        ·cases o
       ·cases o
      ·cases o
     ·cases j
    ·cases j
   ·cases p
  ·cases p
 ·cases p
def IL(ro:Qf)(w:World)(b:Nat):Nat->Option Obj:=λk=>if k=b then w.heap[b]? else ro k
def X3{ro:Qf}{w:World}(h:∀b o,ro b=some o->w.heap[b]? =some o)(b:Nat):∀k o,ro k=some o->IL ro w b k=some o:=by
 intro k o a;unfold IL;split
 ·next e=>subst e;exact h _ _ a
 ·exact a
def St.freeze(h:SR P H F w){id:Nat}{o:bP}{q:Place}(n:F.get id=some o)(x:o.own=true)(y:F.lock<=id)(r:H id=some q):St P H F w ⟨H.pl,IL H.ro w q.bl,H.gh⟩ (F.kill id) w:=by
 have c:(H:Env).le ⟨H.pl,IL H.ro w q.bl,H.gh⟩:=⟨λ_ _ h=>h,X3 h.jH q.bl,λ_ h=>h⟩
 have sub:∀k u,(F.kill id).get k=some u->k≠id/\F.get k=some u:=by
  intro k u d;rw[aC.AL]at d;split at d
  ·cases d
  ·next e=>exact⟨e,d⟩
 refine⟨c,⟨h.oN,h.dom,λk u d=>?_,h.lq,λk u s t p z i f g j A B=>?_,λb u l=>?_,λk u p i f g=>?_,λp D=>(h.tabs p D).mono c⟩,dP _,λ_ _ _=>rfl,λk u p i f g j=>?_,rfl,rfl,rfl,rfl,dP _,λ_ h=>.inl h,λb l=>?_⟩
 ·exact(h.live k u (sub k u d).2).mono c
 ·exact h.sep k u s t p z (sub k u i).2 f (sub s t g).2 j A B
 ·have a:(if b=q.bl then w.heap[q.bl]? else H.ro b)=some u:=l;split at a
  ·next e=>rw[e];exact a
  ·exact h.jH b u a
 ·obtain⟨E,v⟩:=sub k u i;show(if p.bl=q.bl then w.heap[q.bl]? else H.ro p.bl)=none
  have m:=h.sep k u id o p q v f n E g r;rw[aj m];exact h.ny k u p v f g
 ·exact .inr ⟨k,u,p,(sub k u i).2,f,g,j,rfl⟩
 ·have a:(if b=q.bl then w.heap[q.bl]? else H.ro b)≠none:=l;split at a
  ·next e=>exact .inr (.inr ⟨id,o,q,n,x,y,r,e.symm⟩)
  ·exact .inl a
def GR.acd{H:Env}{w:World}{q:Place}{c:Q3}{et:TypeId}{u opn:Bool}{ro':Qf}(h:OR P H q w (.cells c et u opn))(g:∀b o,H.ro b=some o->ro' b=some o)(v:ro' q.bl=w.heap[q.bl]?){off n size cap:Nat}{cs:Q3}{gs:Q1}(i:takeN c off (n*size)=some cs)(l:gs.length=n)(d:n<=cap)(h0:0<size)
 (m:∀x∈gs,x.cells.length=size/\x.cells.all GV.scalar=true) (z:∀(H':Env) vs,(∀b o,H.ro b=some o->H'.ro b=some o)->aG H cs vs->aG H' (bY gs) vs):GR ro' (.l gs) (.slice (some ⟨q.bl,q.ba+off,none⟩) n cap):=by
 obtain⟨A,e,B,D,r⟩:=h;have E:=r.Bd i;have p:=r.take i;obtain⟨Q,R,S⟩:=vg i;have G:=z ⟨H.pl,ro',H.gh⟩ _ g E;obtain⟨I,s,t,L⟩:=ungroup gs _ G (λx M=>(m x M).2);simp only[GR];right;refine⟨q.bl,q.ba+off,cap,I,size,by rw[l],by rw[l];exact d,s,λy N=>?_,λj=>⟨A,e,B,by rw[v,D],?_,?_⟩⟩
 ·obtain⟨k,a⟩:=PW N;have f:k<gs.length:=by rw[s.length];exact(gy.1 a).1
  rw[L k _ y (cO f) a];exact(m _ (iZ f)).1
 ·rw[t];have O:0<gs.length:=MN.2 j;have T:0<n*size:=P6 ah h0;rw[mQ,fZ,MC];omega
 ·rw[t];intro k x a;rw[oh]at a;split at a
  ·rw[uJ,yA]at a;exact a
  ·cases a
def VR.ahZ(h:SR P H F w){id n m et:Nat}{f:Bool}{x:Value}{ro':Qf}(s:F.get id=some (.vec m et f))(v:yj 100 m n=true)(d:VR H (.sv id n) x)(e:∀b o,H.ro b=some o->ro' b=some o)(y:∀q,H id=some q->ro' q.bl=w.heap[q.bl]?):
 ∃i,aJ.val m=some (.l i)/\GR ro' (.l i) x:=by
 simp only[VR]at d;obtain⟨i,z,d⟩:=d;rcases d with⟨q,a,j,rfl⟩|⟨k,rfl,rfl⟩
 ·obtain⟨l,t,u,I,A,L,M,B,D⟩:=(h.at s a).OA;have c:=AZ 100 v t z;refine⟨l,t,?_⟩;have p:=JM u;have:=GR.acd (ro':=ro') (off:=0) (n:=i.length) (size:=q.es) (cap:=q.sz/q.es) (cs:=bY l) (gs:=l) D e (y q a) (by unfold takeN;rw[dY,<-c,mF ah,au p]) c j A (λx d=>⟨u x d,B x d⟩) (λN O e g=>by unfold bY at g⊢;exact(qX _ _).1 (aV.mono e _ _ ((qX _ _).2 g)))
  simpa using this
 ·rcases h.live id _ s with⟨q,a,_⟩|⟨_,Q,E,R,G,r⟩
  ·rw[(h.lq id k).1]at a;cases a
  ·cases G;exact⟨[],r,by simp[GR]⟩
def afh{H':Env}(a:H.le H'){o:Q4}{v:WD}(h:nJ H o v):nJ H' o v:=by cases o<;>cases v<;>first|exact h|exact VR.mono a _ _ h
def St.aAV(h:SR P H F w){id m et k:Nat}{f:Bool}(y:F.get id=some (.vec m et f))(d:H.gh id=true)(v:aJ.val k=some (.l [])):St P H F w H (F.put id (.vec k et f)) w:=by
 have get:∀i u,(F.put id (.vec k et f)).get i=some u->(i=id/\u=.vec k et f)\/(i≠id/\F.get i=some u):=by
  intro i u hi;rw[aC.get_put]at hi;split at hi
  ·next e=>cases hi;exact .inl ⟨e,rfl⟩
  ·next e=>exact .inr ⟨e,hi⟩
 have a:∀q,H id≠some q:=λq n=>by rw[(h.lq id d).1]at n;cases n
 refine⟨Env.le.refl _,⟨h.oN,h.dom,λi u hi=>?_,h.lq,λi u o p q r g j c l s t=>?_,h.jH,λi u q g j c=>?_,h.tabs⟩,dP _,λ_ _ _=>rfl,λi u q g j c l=>?_,rfl,rfl,rfl,rfl,dP _,λ_ h=>.inl h,λ_ h=>.inl h⟩
 ·rcases get i u hi with⟨rfl,rfl⟩|⟨_,b⟩
  ·exact .inr ⟨d,k,et,f,rfl,v⟩
  ·exact h.live i u b
 ·rcases get i u g with⟨rfl,_⟩|⟨_,b⟩
  ·exact absurd s (a q)
  ·rcases get o p c with⟨rfl,_⟩|⟨_,x⟩
   ·exact absurd t (a r)
   ·exact h.sep i u o p q r b j x l s t
 ·rcases get i u g with⟨rfl,_⟩|⟨_,b⟩
  ·exact absurd c (a q)
  ·exact h.ny i u q b j c
 ·rcases get i u g with⟨rfl,_⟩|⟨_,b⟩
  ·exact absurd l (a q)
  ·exact .inr ⟨i,u,q,b,j,c,l,rfl⟩
def aFH(h:SR P H F w){t:TypeId}{a v:AV}{x:Value}{lo hi:Q4}{G I:WD}(d:YF P t F a lo hi=some (v,F'))(A:VR H a x)(Q:nJ H lo G)(R:nJ H hi I):
 ∃y w' H',(Instr.sliceAt t x G I none).run P w=.ok y w'/\St P H F w H' F' w'/\VR H' v y:=by
 unfold YF at d;split at d;rotate_left
 ·cases d
 next e id n hu=>
 split at d;rotate_left
 ·cases d
 next m et f S s L=>
 split at d;rotate_left
 ·cases d
 next hc=>
 simp only[aO]at hc;obtain⟨⟨c1,c2⟩,c3⟩:=hc;have e1:=bV c1;subst e1;have T:=wB c3;cases lo with
 |some l0=>
  simp only at d;obtain⟨r,hr,e2⟩:=bI.1 d;cases e2;have U:∀V:Env,SR P V (F.kill id) w->St P H F w V (F.kill id) w->VR V (.nd m) x->∃y w' H',(Instr.sliceAt t x G I none).run P w=.ok y w'/\St P H F w H' (F.kill id) w'/\VR H' v y:=by intro V h1 b hv;obtain⟨y,k1,k2⟩:=amK h1 hr hv (afh b.ext Q) (afh b.ext R);exact⟨y,w,V,k1,b,k2⟩
  have B:=A;simp only[VR]at B;obtain⟨ys,k1,B⟩:=B;rcases B with⟨q,i,aa,_⟩|⟨D,_,_⟩
  ·have b:=St.freeze h s rfl T i;obtain⟨o,M,N⟩:=VR.ahZ (ro':=IL H.ro w q.bl) h s c2 A (X3 h.jH q.bl) (λq' u=>by rw[i]at u;cases u;unfold IL;rw[au rfl]);exact U _ b.rel b (by simp only[VR];exact⟨_,M,rfl,N⟩)
  ·obtain⟨o,M,N⟩:=VR.ahZ (ro':=H.ro) h s c2 A (λ_ _ h=>h) (λq' u=>by rw[(h.lq id D).1]at u;cases u);have b:=(St.refl h).Xc id;exact U H b.rel b (by simp only[VR];exact⟨_,M,rfl,N⟩)
 |none=>
  simp only at d;split at d;rotate_left
  ·cases d
  next z hh h1 h2=>
  obtain⟨k,hk,e2⟩:=bI.1 d;cases e2;obtain⟨g,g1,O⟩:=iJ hk;simp only[Nd.den]at O;split at O;rotate_left
  ·cases O
  next p kl li kh c e3 e4 e5=>
  split at O;rotate_left
  ·cases O
  next hc=>
  cases O;obtain⟨b1,b2,b3,b4⟩:=hc;have hz:li=0:=by obtain⟨gz,M,N⟩:=iJ h1;simp only[Nd.den,bD]at N;subst N;rw[e4]at M;cases M;rfl
  subst hz;have ac:Qp (none:Q4)=some z:=h1;obtain⟨ad,ae,d1,d2,d3⟩:=ad7 (len:=p.length) ac h2 Q R e4 e5 (λhd=>by simp only[Nd.den,e3,bD,GV.i.injEq]at hd;exact hd.2.symm) b1 b2 b3;have al:(0:Int).toNat=0:=rfl;simp only[VR]at A;obtain⟨ys,y1,A⟩:=A;have E:=AZ 100 c2 e3 y1;have af:(p.take c.toNat).drop (0:Int).toNat=p.take c.toNat:=aA;rw[af]at g1;have Rk:c.toNat<=p.length:=ah;rcases A with⟨q,i,aa,rfl⟩|⟨D,rfl,rfl⟩
  ·have ag:=h.at s i;obtain⟨am,cs,W,fr,o,o1,o2,o3,o4,o5,o6,o7,o8,o9⟩:=ag;rw[e3]at o1;cases o1
   have hB:=G8 (P:=P) (w:=w) (sl:=true) (cap:=q.sz/q.es) d3 (λk hk=>by have:k<=p.length:=by simpa using hk
                                                                       omega) ah d1 d2
   have ai:0<q.es/\sizeT P e=some q.es:=⟨(o7.room rfl).2.1,(o7.room rfl).2.2⟩
   have an:S=q.es:=by have:=ai.2;rw[L]at this;cases this;rfl
   have X:OR P H q w (.vec k e f):=by
    have ao:=o3.length;refine⟨p.take c.toNat,cs,W,fr,o.take c.toNat,g1,o2,?_,λy hy=>o4 y (MQ hy),?_,?_,o7,λx A=>o8 x (MQ A),o9⟩
    ·have:∀(p:Q1)(o:Q6)(n:Nat),aV H.ro p o->aV H.ro (p.take n) (o.take n):=by
      intro p;induction p with
      |nil=>intro o n s;simp only[aV]at s;subst s;simp[aV]
      |cons a l ih=>
       intro o n s;simp only[aV]at s;obtain⟨x,us,rfl,a1,a2⟩:=s;cases n with
       |zero=>simp[aV]
       |succ n=>simp only[Bz,aV];exact⟨x,us.take n,rfl,a1,ih us n a2⟩
     exact this _ _ _ o3
    ·intro j x hj;refine o5 j x ?_;have Y:(eX (o.take c.toNat)) <+: eX o:=by unfold eX;rw[show o=o.take c.toNat++o.drop c.toNat from(Jk _ _).symm];rw[ae2];simp only[Jk];exact List.prefix_append _ _
     obtain⟨r,hr⟩:=Y;rw[<-hr,pF (gy.1 hj).1];exact hj
    ·rw[mQ];refine kZ (wC _ (Nat.min_le_right _ _)) o6
   have b:=St.write h s rfl T i (w':=w) (o':=.vec k e f) rfl (λ_ _=>rfl) rfl rfl rfl X;refine⟨.slice (some ⟨q.bl,q.ba,none⟩) c.toNat (q.sz/q.es),w,H,?_,b,?_⟩
   ·rw[E]at hB;simp only[Instr.sliceAt,Instr.slice,bF hu,aY,aX,hB.1,jP L,bQ];by_cases e0:q.sz/q.es=0
    ·simp[e0]
    ·have e1:¬q.sz/q.es=(0:Int).toNat:=e0;rw[aj e1];simp[tY]
   ·simp only[VR];refine⟨p.take c.toNat,g1,.inl ⟨q,i,?_,?_⟩⟩
    ·rw[mQ];omega
    ·rw[mQ,MW Rk]
  ·have ak:p=[]:=kP (by simpa using E);subst ak;have ap:c.toNat=0:=by simpa using Rk
   have hl:Di P t F .iw ad ae=some .iw:=by simp only[Di,hu,L];simp only[lQ]at d3;rw[d3];rfl
   obtain⟨y,u1,u2⟩:=Ym h hl (show VR H .iw (.slice none 0 0) by simp only[VR]) d1 d2;simp only[VR]at u2;subst u2;have Z:aJ.val k=some (.l []):=by rw[g1];simp
   refine⟨_,w,H,u1,St.aAV h s D Z,?_⟩;simp only[VR];exact⟨[],Z,.inr ⟨D,by trivial,by trivial⟩⟩
def wZ(a:Wg):TypeDesc:=match a with
 |some k=>.int k
 |none=>.string
def Xb{s:TypeId}{k:AV}{n:Nat}{d:Wg}{y:Value}(h:Ry P s k=some (n,d))(t:VR H k y):
 P.underlying s=some (wZ d)/\∃g,aJ.val n=some g/\Ce d g/\GR H.ro g y:=by
 unfold Ry at h;split at h
 ·next v m f i=>
  split at h
  ·next z l=>
   obtain⟨j,o,e⟩:=bI.1 h;cases e;obtain⟨g,b,_,p⟩:=nV i t;obtain⟨u,q,c⟩:=iJ l;simp only[Nd.den,bD]at c;subst c;obtain⟨r,_,a⟩:=iJ o;simp only[Nd.den,b,q]at a;refine⟨f,g,b,?_,p⟩;cases g<;>simp only[jg,dA,reduceCtorEq]at a
   split at a
   ·next e=>subst e;exact⟨_,rfl⟩
   ·cases a
  ·cases h
 ·next m f i=>
  split at h
  ·next z l=>
   obtain⟨j,o,e⟩:=bI.1 h;cases e;obtain⟨g,b,_,p⟩:=nV i t;obtain⟨u,q,c⟩:=iJ l;simp only[Nd.den,bD]at c;subst c;obtain⟨r,_,a⟩:=iJ o;simp only[Nd.den,b,q]at a;refine⟨f,g,b,?_,p⟩;cases g<;>simp only[jg,zo,reduceCtorEq]at a
   exact⟨_,rfl⟩
  ·cases h
 ·cases h
def al0{k:IntKind}{a b:Int}:Instr.sameNow (.int k) (.int k a) (.int k b)=some (a==b):=by simp[Instr.sameNow]
def al2{a b:Q0}:Instr.sameNow .string (.string ⟨⟨a⟩⟩) (.string ⟨⟨b⟩⟩)=some (a==b):=by simp[Instr.sameNow,JA]
def ai8{o:Wg}{n:Nat}{e:AV}{g:GV}{x y:Value}{b:Bool}(h:abE n e=some b)(p:aJ.val n=some g)(z:Ce o g)(f:GR H.ro g y)(A:VR H e x):
 Instr.sameNow (wZ o) y x=some b:=by
 unfold abE at h;split at h
 ·next m B=>
  obtain⟨i,q,_,l⟩:=nV B A;have s:∃r,(Nd.bin .eql n m).den aJ.I aJ.val=some r/\r=.b b:=by
   split at h
   ·next D t=>
    cases h;obtain⟨j,r,E,d,u⟩:=oQ (H:=H) t;refine⟨r,d,?_⟩;simp only[Nd.den,p,q]at d;have:∃c,r=.b c:=by
     cases g<;>cases i<;>simp only[jg,reduceCtorEq]at d
     ·split at d
      ·simp only[dA,bD]at d;exact⟨_,d.symm⟩
      ·cases d
     ·simp only[zo,bD]at d;exact⟨_,d.symm⟩
    obtain⟨c,rfl⟩:=this;have:=u (.bool c) rfl (by simp only[GR]);simp only[VR]at this;cases this;rfl
   ·next j t=>
    split at h
    ·next D G=>
     cases h;obtain⟨N,r,E,d,u⟩:=oQ (H:=H) t;refine⟨r,d,?_⟩;simp only[Nd.den,p,q]at d;have:∃c,r=.b c:=by
      cases g<;>cases i<;>simp only[jg,reduceCtorEq]at d
      ·split at d
       ·simp only[dA,bD]at d;exact⟨_,d.symm⟩
       ·cases d
      ·simp only[zo,bD]at d;exact⟨_,d.symm⟩
     obtain⟨c,rfl⟩:=this;have I:=u (.bool c) rfl (by simp only[GR]);obtain⟨v,L,M⟩:=JU G;cases L;have:=M H _ I;simp only[VR]at this;cases this;rfl
    ·cases h
   ·cases h
  obtain⟨r,d,rfl⟩:=s;simp only[Nd.den,p,q]at d;cases o with
  |some k=>
   obtain⟨a,rfl⟩:=z;simp only[GR]at f;subst f;cases i<;>simp only[jg,reduceCtorEq]at d
   split at d
   ·next e=>
    subst e;simp only[dA,bD,GV.b.injEq]at d;simp only[GR]at l;subst l;show Instr.sameNow (.int _) _ _=_
    rw[al0,d]
   ·cases d
  |none=>
   obtain⟨a,rfl⟩:=z;simp only[GR]at f;subst f;cases i<;>simp only[jg,zo,reduceCtorEq]at d
   simp only[bD,GV.b.injEq]at d;simp only[GR]at l;subst l;show Instr.sameNow .string _ _=_
   rw[al2,d]
 ·cases h
def QV{o:Wg}{n:Nat}{g:GV}{y:Value}(f:aJ.val n=some g)(j:Ce o g)(k:GR H.ro g y):∀{es:XX}{b:List MapEntry}{i:Nat}{r:Option (Nat×AV)},
 NU n es i=some r->CZ H es b->∃d,Instr.findNow (wZ o) y b i=some d/\(match r,d with|none,none=>True|some (_,v),some (_,z)=>VR H v z|_,_=>False)
 |[],b,i,r,h,l=>by
  simp only[NU,bD]at h;subst h;have:b=[]:=by have:=l.1;cases b<;>simp_all
  subst this;exact⟨none,rfl,trivial⟩
 |e::es,b,i,r,h,l=>by
  obtain⟨m,p,rfl,q,s,t⟩:=l.tail;unfold NU at h;split at h
  ·next a=>
   cases h;have a:=ai8 a f j k q;exact⟨some (i,m.val),by simp[Instr.findNow,a],s⟩
  ·next a=>
   have a:=ai8 a f j k q;obtain⟨d,u,c⟩:=QV f j k h t;exact⟨d,by simp[Instr.findNow,a,u],c⟩
  ·cases h
def al1{b:Wg}{g a:GV}{y x:Value}{ro:Qf}(e:Ce b g)(f:Ce b a)(c:GR ro g y)(d:GR ro a x):Instr.sameNow (wZ b) y x=some (rJ g a):=by
 cases b with
 |some k=>
  obtain⟨m,rfl⟩:=e;obtain⟨n,rfl⟩:=f;simp only[GR]at c d;subst c;subst d;show Instr.sameNow (.int _) _ _=_
  rw[al0];simp[rJ]
 |none=>
  obtain⟨m,rfl⟩:=e;obtain⟨n,rfl⟩:=f;simp only[GR]at c d;subst c;subst d;show Instr.sameNow .string _ _=_
  rw[al2];rfl
def V6{ro:Qf}{e:Wg}{sz:W2}{g:GV}{y:Value}(n:Ce e g)(o:GR ro g y):∀{xs:Q1}{c:List MapEntry}{i:Nat},vF ro e sz xs c->
 (iC g xs=none/\Instr.findNow (wZ e) y c i=some none)\/∃u j z,iC g xs=some u/\Instr.findNow (wZ e) y c i=some (some (j,z))/\i<=j/\(∃m,c[j-i]? =some m/\Instr.sameNow (wZ e) y m.key=some true)/\Pz sz u/\GR ro u z
 |[],c,i,h=>by simp only[vF]at h;subst h;exact .inl ⟨rfl,rfl⟩
 |x::xs,c,i,h=>by
  obtain⟨a,b,m,rest,rfl,rfl,h1,p,q,r,h5⟩:=h;have d:=al1 n h1 o q;cases f:rJ g a with
  |true=>rw[f]at d;exact .inr ⟨b,i,m.val,by simp[iC,f],by simp[Instr.findNow,d],dP _,⟨m,aA,d⟩,p,r⟩
  |false=>
   rw[f]at d;rcases V6 (i:=i+1) n o h5 with⟨k,l⟩|⟨u,j,z,k,l,B,⟨s,t,v⟩,A⟩
   ·exact .inl ⟨by simp[iC,f,k],by simp[Instr.findNow,d,l]⟩
   ·refine .inr ⟨u,j,z,by simp[iC,f,k],by simp[Instr.findNow,d,l],ah,⟨s,?_,v⟩,A⟩;have:j-i=(j-(i+1))+1:=ah;rw[this];simpa using t
def alq{ro:Qf}{f:Wg}{sz:W2}{g u:GV}{e:MapEntry}(i:Ce f g)(j:Pz sz u)(h1:GR ro g e.key)(k:GR ro u e.val):∀{xs:Q1}{c:List MapEntry},vF ro f sz xs c->iC g xs=none->
 vF ro f sz (kV g u xs) (c++[e])
 |[],c,h,_=>by simp only[vF]at h;subst h;exact⟨g,u,e,[],rfl,rfl,i,j,h1,k,rfl⟩
 |x::xs,c,h,d=>by
  obtain⟨a,b,m,rest,rfl,rfl,q1,l,n,o,p⟩:=h;simp only[iC]at d;split at d
  ·cases d
  ·next q=>
   simp only[kV,aj q];exact⟨a,b,m,rest++[e],rfl,rfl,q1,l,n,o,alq i j h1 k p d⟩
def alr{ro:Qf}{k:Wg}{sz:W2}{g u:GV}{y p:Value}(l:Ce k g)(r:Pz sz u)(h1:GR ro g y)(s:GR ro u p):∀{xs:Q1}{d:List MapEntry}{i j:Nat}{z:Value},vF ro k sz xs d->Instr.findNow (wZ k) y d i=some (some (j,z))->
 vF ro k sz (kV g u xs) (d.modify (j-i) λe=>{e with key:=y,val:=p})
 |[],d,i,j,z,h,c=>by simp only[vF]at h;subst h;simp[Instr.findNow]at c
 |x::xs,d,i,j,z,h,c=>by
  obtain⟨a,b,m,f,rfl,rfl,t,A,v,B,q⟩:=h;have n:=al1 l t h1 v;cases o:rJ g a with
  |true=>rw[o]at n;simp only[Instr.findNow,n,bD,qI]at c;obtain⟨rfl,rfl⟩:=c;simp only[kV,o,if_true,C9];exact⟨g,u,{m with key:=y,val:=p},f,rfl,aA,l,r,h1,s,q⟩
  |false=>
   rw[o]at n;simp only[Instr.findNow,n]at c;have E:i+1<=j:=by
    rcases V6 (i:=i+1) l h1 q with⟨_,r2⟩|⟨_,G,_,_,r2,r3,_⟩
    ·rw[c]at r2;cases r2
    ·rw[c]at r2;cases r2;exact r3
   have D:=alr l r h1 s q c;have e:j-i=(j-(i+1))+1:=ah;rw[e];simp only[kV,o,iI,if_false,List.modify_succ_cons];exact⟨a,b,m,_,rfl,rfl,t,A,v,B,D⟩
def Vt{c:TypeId}{d:Wg}{g:GV}{y:Value}(e:P.underlying c=some (wZ d))(f:Ce d g)(a:GR H.ro g y)(b:Bool):(Instr.checkKey b 10000 c y).run P w=.ok () w:=by
 have h:∀n:Nat,(Instr.checkKey b (n+1) c y).run P w=.ok () w:=λn=>by
  cases d with
  |some k=>obtain⟨m,rfl⟩:=f;simp only[GR]at a;subst a;simp only[Instr.checkKey,aY,bF e,aX,wZ,bQ]
  |none=>obtain⟨m,rfl⟩:=f;simp only[GR]at a;subst a;simp only[Instr.checkKey,aY,bF e,aX,wZ,bQ]
 exact h 9999
def ang{et:TypeId}{v:AV}{n:Nat}{sz:W2}{x:Value}(h:TU P et v=some (n,sz))(i:VR H v x):∃g,aJ.val n=some g/\Pz sz g/\GR H.ro g x/\(match qw P et with
 |some true=>∃k,sizeT P et=some k/\sz=some k
 |some false=>sz=none
 |none=>False):=by
 unfold TU at h;split at h
 ·next a=>
  split at h
  ·next j k b m=>
   split at h
   ·next o=>
    cases h;obtain⟨l,p,rfl,c,d,f,q⟩:=Nl b i;rw[a];refine⟨_,d,⟨p,rfl,?_,f⟩,q,k,m,rfl⟩;rw[c];exact bV o
   ·cases h
  ·cases h
 ·next a=>
  obtain⟨j,b,e⟩:=bI.1 h;cases e;obtain⟨g,c,d,f⟩:=nV b i;rw[a];exact⟨g,c,d,f,rfl⟩
 ·cases h
def Xd{a b:Wg}(h:Oq a b=true):a=b:=by
 cases a<;>cases b<;>simp only[Oq]at h
 ·rfl
 ·cases h
 ·cases h
 ·rw[WZ h]
def ad8{a b:W2}(h:TK a b=true):a=b:=by
 cases a<;>cases b<;>simp only[TK]at h
 ·rfl
 ·cases h
 ·cases h
 ·rw[bV h]
def aez{et:TypeId}{z:AV}(h:Ud P et=some z):∃x,(zeroValue et).run P w=.ok x w/\VR H z x:=by
 unfold Ud at h;split at h
 ·next i hi=>
  split at h
  ·next x a=>
   obtain⟨b,c⟩:=Y3 (w:=w) (H:=H) hi a h;exact⟨x,b,c⟩
  ·cases h
 ·cases h
def av4:∀(cs:Q1)(n:Nat),cs.length=n->takeN (fB cs) 0 n=some (fB cs):=by
 intro cs n a;have b:(fB cs).length=n:=by rw[oG,a]
 simp only[takeN,dY];rw[mF ah,au b]
def jD(s:ByteArray):∀(l:List MapEntry)(i:Nat),(∀m∈l,∃t,m.key=.string t)->
 (∃j m,Instr.findNow .string (.string s) l i=some (some (j,m.val))/\m∈l/\m.key=.string s)\/(Instr.findNow .string (.string s) l i=some none/\∀m∈l,m.key≠.string s)
 |[],i,_=>.inr ⟨rfl,λm k=>by simp at k⟩
 |m::l,i,h=>by
  obtain⟨t,n⟩:=h m aA;have f:Instr.sameNow .string (.string s) m.key=some (s==t):=by rw[n];rfl
  have g:(s==t)=decide (s=t):=by
   obtain⟨⟨a⟩⟩:=s;obtain⟨⟨b⟩⟩:=t;rw[JA];by_cases c:a=b
   ·subst c;simp
   ·rw[Dx (by simpa using c)];simpa using c
  by_cases c:s=t
  ·subst c;rw[g,EN rfl]at f;exact .inl ⟨i,m,by simp[Instr.findNow,f],aA,n⟩
  ·rw[g,Dx c]at f;rcases jD s l (i+1) (λm k=>h m (by simp[k]))with⟨j,o,p,q,r⟩|⟨p,q⟩
   ·exact .inl ⟨j,o,by simp[Instr.findNow,f,p],by simp[q],r⟩
   ·refine .inr ⟨by simp[Instr.findNow,f,p],λo d=>?_⟩;simp only[bH]at d;rcases d with rfl|d
    ·rw[n];simpa using λe=>c e.symm
    ·exact q o d
def ahM(s:ByteArray){l c:List MapEntry}(f:l.Perm c)(o:∀m∈c,∃t,m.key=.string t)(i:(c.map (·.key)).Nodup){r:Option (Nat×Value)}(h:Instr.findNow .string (.string s) c 0=some r):
 ∃x,Instr.findNow .string (.string s) l 0=some x/\(match r,x with|none,none=>True|some (_,v),some (_,z)=>v=z|_,_=>False):=by
 have g:∀m∈l,∃t,m.key=.string t:=λm hm=>o m (f.mem_iff.1 hm);have p:∀m∈c,∀d∈c,m.key=d.key->m=d:=by
  clear f o h g;induction c with
  |nil=>intro m hm;simp at hm
  |cons a l B=>
   simp only[jc,List.nodup_cons,rZ,not_exists,not_and]at i;intro m hm d b e;simp only[bH]at hm b;rcases hm with rfl|hm<;>rcases b with rfl|b
   ·rfl
   ·exact absurd e.symm (i.1 d b)
   ·exact absurd e (i.1 m hm)
   ·exact B i.2 m hm d b e
 rcases jD s c 0 o with⟨j,m,q,k,y⟩|⟨q,k⟩<;>rcases jD s l 0 g with⟨D,d,u,n,A⟩|⟨u,n⟩
 ·rw[q]at h;cases h;refine⟨_,u,?_⟩;have:=p m k d (f.mem_iff.1 n) (by rw[y,A]);subst this;rfl
 ·exact absurd y (n m (f.mem_iff.2 k))
 ·exact absurd A (k d (f.mem_iff.1 n))
 ·rw[q]at h;cases h;exact⟨_,u,trivial⟩
def aFF(h:SR P H F w){t:TypeId}{m k v:AV}{x y:Value}{ok:Bool}(c:YC P t m k ok F=some v)(hx:VR H m x)(hy:VR H k y):
 ∃z,(Instr.lookup t x y ok).run P w=.ok z w/\VR H v z:=by
 unfold YC at c;split at c;rotate_left
 ·cases c
 next D et id hu=>
 simp only[VR]at hx;obtain⟨q,hq,rfl⟩:=hx;split at c
 ·next n kk es hn hg=>
  obtain⟨I,g,T,L,g3⟩:=Xb hn hy;obtain⟨q',f,E,M,hb,N,hp⟩:=h.obj _ _ hg rfl;rw[hq]at f;cases f;have O:CZ H es E.toList:=⟨by simpa using N,λk e hk=>by obtain⟨m,U,o,A⟩:=hp k e hk;exact⟨m,by simpa using U,o,A⟩⟩
  rw[Xo hu y ok hb];have l:∀b,(Instr.checkKey b 10000 D y).run P w=.ok () w:=λb=>Vt I L g3 b;split at c
  ·next j u V=>
   cases c;obtain⟨W,o,A⟩:=QV T L g3 V O;cases W with
   |none=>exact A.elim
   |some p=>
    obtain⟨j',z⟩:=p;have d:(Instr.findKey D y E.toList).run P w=.ok (some (j',z)) w:=by simp only[Instr.findKey,aY,bF I,aX,o,bQ]
    refine⟨if ok then .tuple #[z,.bool true]else z,?_,?_⟩
    ·simp only[vN,aY,aX,l,d,bQ]
    ·cases ok
     ·simpa using A
     ·simp only[VR];exact⟨[z,.bool true],rfl,aG.cons A (aG.cons (by simp[VR]) (by simp[aG]))⟩
  ·next V=>
   obtain⟨W,o,A⟩:=QV T L g3 V O;cases W with
   |some p=>exact A.elim
   |none=>
    have d:(Instr.findKey D y E.toList).run P w=.ok none w:=by simp only[Instr.findKey,aY,bF I,aX,o,bQ]
    obtain⟨a,ha,rfl⟩:=bI.1 c;obtain⟨z,h3,Q⟩:=aez (w:=w) (H:=H) ha;refine⟨if ok then .tuple #[z,.bool false]else z,?_,?_⟩
    ·simp only[vN,aY,aX,l,d,h3,bQ]
    ·cases ok
     ·simpa using Q
     ·simp only[VR];exact⟨[z,.bool false],rfl,aG.cons Q (aG.cons (by simp[VR]) (by simp[aG]))⟩
  ·cases c
 ·next n kk es hn hg=>
  obtain⟨I,g,T,L,g3⟩:=Xb hn hy;obtain⟨q',f,ai,E,M,G,hb,aa,N,hp⟩:=h.obj _ _ hg rfl;rw[hq]at f;cases f;split at c;rotate_left
  ·cases c
  next X=>
  have:=Xd X;subst this;have O:CZ H (es.map λe=>(AV.s e.1,e.2)) G:=⟨by simpa using N,λk e hk=>by rw[jA]at hk;obtain⟨e0,Q,rfl⟩:=bI.1 hk;obtain⟨m,U,o,A⟩:=hp k e0 Q;exact⟨m,U,by simp only[VR];exact o,A⟩⟩
  have R:G.map (·.key)=es.map λe=>Value.string ⟨⟨e.1⟩⟩:=by
   apply Jh;intro k;rw[jA,jA];cases he:es[k]? with
   |none=>
    have:G[k]? =none:=by rw[List.getElem?_eq_none_iff]at he⊢;omega
    rw[this];rfl
   |some e=>obtain⟨m,U,o,_⟩:=hp k e he;rw[U];simp[o]
  have ab:∀m∈G,∃t,m.key=.string t:=λm U=>by have:m.key∈G.map (·.key):=List.mem_map_of_mem U;rw[R]at this;obtain⟨e,_,o⟩:=rZ.1 this;exact⟨_,o.symm⟩
  have ac:(G.map (·.key)).Nodup:=by rw[R];have:(es.map λe=>Value.string ⟨⟨e.1⟩⟩)=(es.map (·.1)).map λs=>Value.string ⟨⟨s⟩⟩:=aA;rw[this];refine List.Pairwise.map _ (λa b ak hc=>ak ?_) ai;simpa using hc
  obtain⟨s,al,aw⟩:∃s,y=.string s/\True:=by obtain⟨s0,rfl⟩:=L;simp only[GR]at g3;exact⟨_,g3,trivial⟩
  subst al;rw[Xo hu _ ok hb];have l:∀b,(Instr.checkKey b 10000 D (.string s)).run P w=.ok () w:=λb=>Vt I L g3 b;split at c
  ·next j u V=>
   cases c;obtain⟨W,o,A⟩:=QV T L g3 V O;cases W with
   |none=>exact A.elim
   |some p=>
    obtain⟨j',z⟩:=p;obtain⟨r2,h3,Q⟩:=ahM s aa ab ac o;cases r2 with
    |none=>exact Q.elim
    |some p2=>
    obtain⟨j2,z2⟩:=p2;have Q:z=z2:=Q;subst Q;have d:(Instr.findKey D (.string s) E.toList).run P w=.ok (some (j2,z)) w:=by simp only[Instr.findKey,aY,bF I,aX,wZ,h3,bQ]
    refine⟨if ok then .tuple #[z,.bool true]else z,?_,?_⟩
    ·simp only[vN,aY,aX,l,d,bQ]
    ·cases ok
     ·simpa using A
     ·simp only[VR];exact⟨[z,.bool true],rfl,aG.cons A (aG.cons (by simp[VR]) (by simp[aG]))⟩
  ·next V=>
   obtain⟨W,o,A⟩:=QV T L g3 V O;cases W with
   |some p=>exact A.elim
   |none=>
    obtain⟨r2,h3,Q⟩:=ahM s aa ab ac o;cases r2 with
    |some p2=>exact Q.elim
    |none=>
    have d:(Instr.findKey D (.string s) E.toList).run P w=.ok none w:=by simp only[Instr.findKey,aY,bF I,aX,wZ,h3,bQ]
    obtain⟨a,ha,rfl⟩:=bI.1 c;obtain⟨z,h5,h6⟩:=aez (w:=w) (H:=H) ha;refine⟨if ok then .tuple #[z,.bool false]else z,?_,?_⟩
    ·simp only[vN,aY,aX,l,d,h5,bQ]
    ·cases ok
     ·simpa using h6
     ·simp only[VR];exact⟨[z,.bool false],rfl,aG.cons h6 (aG.cons (by simp[VR]) (by simp[aG]))⟩
  ·cases c
 ·next n kk j Fj sz hn hg=>
  obtain⟨I,g,T,L,g3⟩:=Xb hn hy;obtain⟨q',f,xs,E,M,hv,hb,hp⟩:=h.obj _ _ hg rfl;rw[hq]at f;cases f;rw[Xo hu y ok hb];have l:∀b,(Instr.checkKey b 10000 D y).run P w=.ok () w:=λb=>Vt I L g3 b;split at c;rotate_left
  ·cases c
  next X=>
  have:=Xd X;subst this;split at c;rotate_left
  ·cases c
  next zn ax hz=>
  split at c;rotate_left
  ·cases c
  next N=>
  have:=ad8 N;subst this;obtain⟨za,am,an⟩:=yH.1 hz;obtain⟨zv,z1,z2⟩:=aez (w:=w) (H:=H) am;obtain⟨zg,z3,z4,z5,z6⟩:=ang an z2;split at c;rotate_left
  ·cases c
  next u ao=>
  obtain⟨jn,hj,Y⟩:=yH.1 ao;obtain⟨rg,r1,r2⟩:=iJ hj;simp only[Nd.den,z3,hv,T,bD]at r2;have fin:∀(z:Value)(b:Bool),Pz sz rg->GR H.ro rg z->(iC g xs).isSome=b->vN D et y ok E=vN D et y ok E->(vN D et y ok E).run P w=.ok (if ok then .tuple #[z,.bool b]else z) w->∃z,(vN D et y ok E).run P w=.ok z w/\VR H v z:=by
   intro z b ad Z ap _ B;have ae:VR H u z:=by
    obtain⟨r,S,q2⟩:=ad6 (H:=H) r1 Y;cases af:qw P et with
    |none=>rw[af]at z6;exact z6.elim
    |some ag=>
     rw[af]at z6 S;cases ag with
     |true=>obtain⟨kn,k1,k2⟩:=z6;subst k2;obtain⟨cs,rfl,c1,c2⟩:=ad;simp only[k1,GV.cells,av4 cs kn c1,iO,bD]at S;subst S;apply q2;simp only[GR]at Z;obtain⟨vs,rfl,aq⟩:=Z;simp only[VR];exact⟨vs,rfl,(qX _ _).1 aq⟩
     |false=>
      simp only at z6;subst z6;have ar:rg.scalar=true:=ad;have hc:rg.cells=[rg]:=by cases rg<;>first|rfl|(simp[GV.scalar]at ar)
      simp only[hc,Q5,mD,iO,bD]at S;subst S;exact q2 _ ((nI _ _).1 Z)
   cases ok with
   |false=>simp only[iI,if_false,bD]at c B;subst c;exact⟨z,B,ae⟩
   |true=>
    simp only[if_true]at c B;split at c
    ·next bb av=>
     cases c;obtain⟨_,gb,_,b2,b3⟩:=oQ (H:=H) av;simp only[Nd.den,hv,T,bD]at b2;subst b2;refine⟨_,B,?_⟩;simp only[VR];exact⟨[z,.bool b],rfl,aG.cons ae (aG.cons (b3 _ rfl (by simp only[GR];rw[ap])) (by simp[aG]))⟩
    ·cases c
  rcases V6 (i:=0) L g3 hp with⟨S,q2⟩|⟨u',j',z,S,q2,_,_,q5,q6⟩
  ·have d:(Instr.findKey D y E.toList).run P w=.ok none w:=by simp only[Instr.findKey,aY,bF I,aX,q2,bQ]
   rw[S,wE]at r2;subst r2;refine fin zv false z4 z5 (by rw[S];rfl) rfl ?_;simp only[vN,aY,aX,l,d,z1,bQ]
  ·have d:(Instr.findKey D y E.toList).run P w=.ok (some (j',z)) w:=by simp only[Instr.findKey,aY,bF I,aX,q2,bQ]
   rw[S,tX]at r2;subst r2;refine fin z true q5 q6 (by rw[S];rfl) rfl ?_;simp only[vN,aY,aX,l,d,bQ]
 ·cases c
def aEm{d:Wg}{g a:GV}{y x:Value}(f:Ce d g)(c:GR H.ro g y)(b:Instr.sameNow (wZ d) y x=some true)(n:Nat):Instr.sameBits (n+1) x y=true:=by
 cases d with
 |some k=>
  obtain⟨m,rfl⟩:=f;simp only[GR]at c;subst c;cases x<;>simp only[Instr.sameNow,wZ,reduceCtorEq]at b
  split at b
  ·next e=>subst e;simp at b;subst b;simp[Instr.sameBits]
  ·cases b
 |none=>
  obtain⟨m,rfl⟩:=f;simp only[GR]at c;subst c;cases x<;>simp only[Instr.sameNow,wZ,reduceCtorEq]at b
  next s=>
  obtain⟨⟨l⟩⟩:=s;rw[JA]at b;simp only[Instr.sameBits,JA];simp_all
def amJ(h:SR P H F w){t:TypeId}{m k v:AV}{x y z:Value}(d:YE P t m k v F=some F')(hx:VR H m x)(hy:VR H k y)(hz:VR H v z):
 ∃w',(Instr.mapUpdate t x y z).run P w=.ok () w'/\St P H F w H F' w':=by
 unfold YE at d;split at d;rotate_left
 ·cases d
 next U et id hu=>
 simp only[VR]at hx;obtain⟨q,R,rfl⟩:=hx;split at d;rotate_left
 ·cases d
 next S=>
 have S:=wB S
 have r:∀(o:bP)(n:Nat)(s:Wg)(u:Nat)(A:W2)(j D:Nat)(I:Q1)(c:Array MapEntry)(b:Nat),F.get id=some o->o.own=true->Ry P U k=some (n,s)->TU P et v=some (u,A)->
  aJ.val j=some (.l I)->w.heap[q.bl]? =some (.map c b)->vF H.ro s A I c.toList->gB (.DT j n u)=some D->∃w',(Instr.mapUpdate t (.map (some q.bl)) y z).run P w=.ok () w'/\St P H F w H (F.put id (.smap D s A)) w':=by
  intro o n s u A j D I c b B ho L f V p G M;obtain⟨W,g,g1,N,g3⟩:=Xb L hy;obtain⟨ug,u1,u2,u3,_⟩:=ang f hz;obtain⟨rg,r1,r2⟩:=iJ M;simp only[Nd.den,V,g1,u1,bD]at r2;subst r2;have O:=Vt (w:=w) W N g3 false;have Q:(getObj q.bl).run P w=.ok (.map c b) w:=by simp[getObj,Sem.run,p]
  rcases V6 (i:=0) N g3 G with⟨q1,T⟩|⟨u',i,zz,q1,T,_,⟨m',q3,q4⟩,q5,q6⟩
  ·have E:(Instr.findKey U y c.toList).run P w=.ok none w:=by simp only[Instr.findKey,aY,bF W,aX,T,bQ]
   refine⟨pW w q.bl (.map (c.push {key:=y,val:=z,born:=b}) (b+1)),?_,St.write h B ho S R FX (λk X=>FW X) rfl rfl rfl ?_⟩
   ·simp only[Instr.mapUpdate,aY,bF hu,aX,Q,O,E];exact O7 p aA
   ·refine⟨_,_,b+1,r1,Eb p,?_⟩;rw[Array.toList_push];exact alq N u2 g3 u3 G q1
  ·have E:(Instr.findKey U y c.toList).run P w=.ok (some (i,zz)) w:=by simp only[Instr.findKey,aY,bF W,aX,T,bQ]
   rw[Jp,yA]at q3;have Y:(Instr.keyThatStays (((c[i]?).map (·.key)).getD y) y).run P w=.ok y w:=by rw[q3];simp only[iO,tX,Instr.keyThatStays];rw[au (aEm (a:=g) N g3 q4 9999)];rfl
   refine⟨pW w q.bl (.map (c.modify i λe=>{e with key:=y,val:=z}) b),?_,St.write h B ho S R FX (λk X=>FW X) rfl rfl rfl ?_⟩
   ·simp only[Instr.mapUpdate,aY,bF hu,aX,Q,O,E,Y];exact O7 p aA
   ·refine⟨_,_,b,r1,Eb p,?_⟩;rw[Array.toList_modify];have:=alr (i:=0) N u2 g3 u3 G T;rwa [Jp]at this
 split at d
 ·next n s u A L f B=>
  split at d
  ·next j V=>
   obtain⟨D,M,rfl⟩:=bI.1 d;obtain⟨q',l,c,b,p,Z,G⟩:=h.obj _ _ B rfl;rw[R]at l;cases l;obtain⟨gl,l1,l2⟩:=iJ V;simp only[Nd.den,valsOf,iO,bD]at l2;subst l2;refine r _ n s u A j D [] c b B rfl L f l1 p ?_ M;simp only[vF];have:c.size=0:=by simpa using Z
   simpa using aeB this
  ·cases d
 ·next n s u A j Fj aa L f B=>
  split at d
  ·next hc=>
   rw[aO]at hc;have e1:=Xd hc.1;have e2:=ad8 hc.2;subst e1;subst e2;obtain⟨D,M,rfl⟩:=bI.1 d;obtain⟨q',l,I,c,b,hv,p,G⟩:=h.obj _ _ B rfl;rw[R]at l;cases l;exact r _ n s u A j D I c b B rfl L f hv p G M
  ·cases d
 ·cases d
def ax9{v:AV}{x:Value}(h:mapArg v=true)(c:VR H v x):∃k n,x=.int k n:=by
 unfold mapArg at h;split at h
 ·next n=>
  split at h
  ·next a d=>
   obtain⟨g,i,b⟩:=aJ.uq _ _ d aA;simp only[VR]at c;obtain⟨m,e,_,f⟩:=c;rw[i]at e;cases e;simp only[Nd.den]at b;split at b
   ·cases b;simp only[GR]at f;exact⟨_,_,f⟩
   ·cases b
  ·cases h
 ·next j=>
  obtain⟨n,d⟩:=anS.1 h;obtain⟨k,l⟩:=BI d c;exact⟨k,n,l⟩
def ajw{e:TypeId}{size len m:Nat}{cs:Q3}{vs:Q6}(h:Xl P e size len cs=some m)(k:aG H cs vs):0<size/\0<len/\cs.length=len*size/\∃gs,aJ.val m=some (.l gs)/\gs.length=len/\aG H (bY gs) vs/\∀x∈gs,x.cells.length=size/\x.cells.all GV.scalar=true:=by
 unfold Xl at h;split at h;rotate_left
 ·cases h
 split at h;rotate_left
 ·cases h
 next c s=>
 split at h;rotate_left
 ·cases h
 next i=>
 simp only[aO,qF,jY]at i;obtain⟨⟨h1,l⟩,b⟩:=i;have b:=bV b;have a:0<size:=by
  rcases h1 with⟨_,h1⟩|h1
  ·exact h1
  ·have:=bV h1;omega
 have d:c=false->size=1:=by
  intro e;rcases h1 with⟨h1,_⟩|h1
  ·rw[e]at h1;cases h1
  ·exact bV h1
 split at h
 ·next t f=>
  obtain⟨gs,n,o,p,_,q⟩:=Hy d len f k b;obtain⟨g,r,j⟩:=iJ h;simp only[Nd.den,n,iO,bD]at j;subst j;exact⟨a,l,b,gs,r,o,p,q⟩
 ·cases h
def axX{R:Prop}{t e:TypeId}{size bytes len:Nat}{z:Q3}{B:Wo}{qs:Array (Nat×Value)}{cs:Q3}
 (fin:∀(v:AV)(τ:aC),Xm P F e size len cs=(some v,τ)->(∃y w' H',(Instr.buildSlice t len qs).run P w=.ok y w'/\St P H F w H' τ w'/\VR H' v y)->R)
 (h:SR P H F w) (hi:yR P t=some (e,size,bytes,z)) (d:¬len*size>2^24) (l:Dc (λi=>some (i*size,size)) (if len*size=0 then[]else kC len z) B=some cs) (D:Ew H B qs.toList):R:=by
 unfold Xm at fin;split at fin;rotate_left
 ·exact fin _ _ rfl (aoG h hi d l D)
 next m b=>
 refine fin _ _ rfl ?_;obtain⟨M,_,N,O,n,o⟩:=Dz hi;obtain⟨Y,Q,p⟩:=IU N;have a:0<size/\0<len:=by
  unfold Xl at b;split at b;rotate_left
  ·cases b
  split at b;rotate_left
  ·cases b
  next S Z=>
  split at b;rotate_left
  ·cases b
  next q=>
  simp only[aO,qF,jY]at q;refine⟨?_,q.1.2⟩;rcases q.1.1 with⟨_,h1⟩|h1
  ·exact h1
  ·have:=bV h1;omega
 have E:¬len*size=0:=by have:=P6 a.2 a.1;omega
 simp only[E,if_false]at l;obtain⟨k,T,j⟩:=NT l D (Ue (p H) n);have r:=j.length;have s:=EL h (c:=cs) (xs:=k) (elem:=e) (es:=size) (opn:=true) (by rw[r,Bv];exact j) (by simpa using MV r) aA (λ_=>⟨O,a.1,o⟩);obtain⟨_,_,u,gs,G,I,_,g4⟩:=ajw b j;have x:k.size=len*size:=by rw[<-u,r];simp
 have g:k.size/size=len:=by rw[x];exact Zm _ a.1
 obtain⟨U,V⟩:=St.Ad (f:=false) (size:=size) (y:=.slice (some ⟨w.heap.size,0,none⟩) len len) s G g4 o (λvs A=>by
  obtain⟨_,_,_,W,L,_,X,_⟩:=ajw b A;rw[G]at L;cases L;exact X) (by
  simp only[VR];refine⟨⟨w.heap.size,0,k.size,size⟩,by simp[Env.put],?_,?_⟩
  ·simp only[wE,Jp];rw[g,I];simp
  ·simp only[wE,Jp,g,I,qg]) aA
 refine⟨_,_,_,?_,U,V⟩;simp only[Instr.buildSlice,aY,bF M,aX,jP o,xF,aj d,E,if_false,Q,bQ,T,newRow,newObj,Sem.run]
structure TR(P:Program)(H:Env)(a:bM)(A:Act):Prop where
 gn:a.gn=P.globals.size
 size:A.tmps.size=a.n
 none:A.defers=[]
 slot:∀t v,a.t.get t=some v->∃x,A.tmps[t]? =some x/\VR H v x
def TR.mono{H H':Env}{a:bM}{A:Act}(h:TR P H a A)(b:H.le H'):TR P H' a A:=
 ⟨h.gn,h.size,h.none,λt v c=>by obtain⟨x,d,e⟩:=h.slot t v c;exact⟨x,d,VR.mono b _ _ e⟩⟩
def TR.put{a f:bM}{A:Act}{dst:Option Tmp}{r:Q4}{x:Value}(h:TR P H a A)(b:a.put dst r=some f)(g:∀v,r=some v->VR H v x):TR P H f (A.put dst x):=by
 unfold bM.put at b;split at b
 ·cases b;exact h
 ·next d=>
  split at b
  ·next i=>
   cases b;refine⟨h.gn,by simp[Act.put,h.size],h.none,λt v c=>?_⟩;rw[Tr.wX]at c;show ∃y,(A.tmps.setIfInBounds d x)[t]? =some y/\_
   rw[Ep];split at c
   ·next e=>
    subst e;rw[au rfl,au (by rw[h.size];exact i)];exact⟨x,rfl,g v c⟩
   ·next e=>rw[aj (λj=>e j.symm)];exact h.slot t v c
  ·cases b
def QT{a:bM}{A:Act}(h:SR P H F w)(d:TR P H a A)(x:Operand)(v:AV)(b:a.eval x=some v):VR H v (A.eval x):=by
 cases x with
 |tmp t=>obtain⟨y,i,j⟩:=d.slot t v b;simp only[Act.eval];rw[Bh,i];exact j
 |const c=>exact FI _ _ _ b
 |global g=>
  simp only[bM.eval]at b;split at b
  ·next e=>
   cases b;rw[d.gn]at e;obtain⟨l,es,k⟩:=h.oN g (Nat.le_of_lt e);simp only[VR,Act.eval];exact⟨_,k,aA⟩
  ·cases b
 |func f=>simp only[bM.eval,bD]at b;subst b;simp only[VR,Act.eval];exact⟨[],[],rfl,by simp[aG],by simp[aG]⟩
def P7(P:Program)(H:Env)(F:aC)(w:World)(r:Q4)(F':aC)(s:Sem Next):Prop:=
 ∃a b c,s.run P w=.ok a b/\St P H F w c F' b/\(match r with|some v=>∃x,a=.value x/\VR c v x|none=>a=.skip)
def gq{r:AV}{s:Sem Value}(h:∃y w' H',s.run P w=.ok y w'/\St P H F w H' F' w'/\VR H' r y):P7 P H F w (some r) F' (do pure (.value (<-s))):=by obtain⟨y,w',H',a,b,c⟩:=h;exact⟨.value y,w',H',by simp only[aY,a,aX,bQ],b,y,rfl,c⟩
def OB{s:Sem Unit}(h:∃w' H',s.run P w=.ok () w'/\St P H F w H' F' w'):P7 P H F w none F' (do s;pure .skip):=by obtain⟨w',H',a,b⟩:=h;exact⟨.skip,w',H',by simp only[aY,a,aX,bQ],b,rfl⟩
def jF{r:AV}{s:Sem Value}(h:SR P H F w)(a:∃y,s.run P w=.ok y w/\VR H r y):∃y w' H',s.run P w=.ok y w'/\St P H F w H' F w'/\VR H' r y:=by obtain⟨y,b,c⟩:=a;exact⟨y,w,H,b,St.refl h,c⟩
def kW{v:Q4}{r:Q4}(h:fM F v=some (r,F')):∃u,v=some u/\r=some u/\F'=F:=by simp only[fM,bI,qI]at h;obtain⟨u,a,b,c⟩:=h;exact⟨u,a,b.symm,c.symm⟩
def FT{v:Wf}{r:Q4}(h:vU v=some (r,F')):∃u,v=some (u,F')/\r=some u:=by simp only[vU,bI,Na,qI]at h;obtain⟨u,s,a,b,c⟩:=h;subst c;exact⟨u,a,b.symm⟩
def ady{v:Option aC}{r:Q4}(h:O0 v=some (r,F')):v=some F'/\r=none:=by simp only[O0,bI,qI]at h;obtain⟨s,a,b,c⟩:=h;subst c;exact⟨a,b.symm⟩
def aou{c:Value}{t:Bool}(h:VR H (.b t) c):(asBool c).run P w=.ok t w:=by simp only[VR]at h;subst h;rfl
def apo(h:SR P H F w){ts:Wt}{ty t:TypeId}{x v:AV}{u:Value}(j:ts[0]? =some t)(d:Zv P t x F=some (v,F'))(i:VR H x u):
 ∃y w' H',(Builtin.clear_ ts ty #[u]).run P w=.ok y w'/\St P H F w H' F' w'/\VR H' v y:=by
 have f:∀H':Env,VR H' (.fK []) (.tuple #[]):=λH'=>by simp only[VR];exact⟨[],rfl,by simp[aG]⟩
 unfold Zv at d;split at d
 ·next e b=>
  cases d;simp only[VR]at i;subst i;exact⟨_,w,H,by simp only[Builtin.clear_,j,Gz,mD,aY,bF b,aX,bQ],St.refl h,f _⟩
 ·next e b=>
  cases d;simp only[VR]at i;rcases i with⟨_,S,rfl⟩|⟨bl,G,c,xs,sz,rfl,_⟩
  ·exact⟨_,w,H,by cases S<;>simp only[Builtin.clear_,j,Gz,mD,aY,bF b,aX,bQ],St.refl h,f _⟩
  ·exact⟨_,w,H,by simp only[Builtin.clear_,j,Gz,mD,aY,bF b,aX,bQ,lQ],St.refl h,f _⟩
 ·next e id G n T b=>
  simp only[VR]at i;obtain⟨q,D,_,rfl⟩:=i;split at d
  ·next Q=>
   cases d;subst Q;exact⟨_,w,H,by simp only[Builtin.clear_,j,Gz,mD,aY,bF b,aX,bQ],St.refl h,f _⟩
  ·next Q=>
   split at d
   ·next z c et U V E=>
    split at d
    ·next R=>
     simp only[bI]at d;obtain⟨c',W,X⟩:=d;cases X;obtain⟨I,Y,o⟩:=IU V;have L:=Ue (n:=n) (size:=z.length) (o H) rfl;have p:=(o H).length;have r:(kC n z).all AV.qp=true:=by rw[List.all_eq_true];intro a s;unfold kC at s;simp only[List.mem_flatten,afa]at s;obtain⟨l,⟨_,rfl⟩,s⟩:=s;exact List.all_eq_true.1 R.2 a s
     obtain⟨w',A,M⟩:=Y1 h E R.1 D W L r;refine⟨_,w',H,?_,M,f _⟩;have N:(Builtin.zeroCells I.cells n)=(Array.range (n*z.length)).map (I.cells[· % I.cells.size]!):=by unfold Builtin.zeroCells;rw[p];simp
     obtain⟨m,rfl⟩:∃m,n=m+1:=⟨n-1,ah⟩
     simp only[Builtin.clear_,j,Gz,mD,aY,bF b,aX,Y];rw[N,A];rfl
    ·cases d
   ·cases d
 ·next k e b=>
  cases d;simp only[VR]at i;subst i;exact⟨_,w,H,by simp only[Builtin.clear_,j,Gz,mD,aY,bF b,aX,bQ],St.refl h,f _⟩
 ·next k e id b=>
  split at d
  ·next es E=>
   split at d
   ·next Z=>
    cases d;simp only[VR]at i;obtain⟨q,D,rfl⟩:=i;obtain⟨q',B,ms,g,O,aa,_⟩:=h.obj _ _ E rfl;rw[D]at B;cases B;refine⟨.tuple #[],pW w q.bl (.map #[] g),H,?_,St.write h E rfl Z D FX (λk hk=>FW hk) rfl rfl rfl ⟨#[],g,Eb O,rfl,aA⟩,f _⟩;simp only[Builtin.clear_,j,Gz,mD,aY,bF b,aX,getObj,Sem.run,O,O7 O (λ_ _ _=>aA),bQ]
   ·cases d
  ·cases d
 ·cases d
def aoI(h:SR P H F w){b:Builtin}{ts:Wt}{ty:TypeId}{cs:Array Bool}{args:Q3}{vs:Q6}{r:Q4}(d:Jt P b ts args F=some (r,F'))(j:aG H args vs):
 P7 P H F w r F' (builtin b ts ty cs ⟨vs⟩):=by
 unfold Jt at d;split at d
 ·next x=>
  simp only[aG]at j;obtain⟨u,_,rfl,f,rfl⟩:=j;split at d
  ·next t o=>
   obtain⟨v,g,rfl,rfl⟩:=kW d;exact gq (jF h (aju h o g f))
  ·cases d
 ·next s x=>
  simp only[aG]at j;obtain⟨u,_,rfl,f,p,_,rfl,i,rfl⟩:=j;obtain⟨v,g,rfl⟩:=FT d;exact gq (aoq h g f i)
 ·next s x=>
  simp only[aG]at j;obtain⟨u,_,rfl,f,p,_,rfl,i,rfl⟩:=j;obtain⟨v,g,rfl⟩:=FT d;exact gq (apZ h g f i)
 ·next x=>
  simp only[aG]at j;obtain⟨u,_,rfl,f,rfl⟩:=j;split at d
  ·next t o=>
   obtain⟨v,g,rfl⟩:=FT d;exact gq (apo h o g f)
  ·cases d
 ·next x=>
  simp only[aG]at j;obtain⟨u,_,rfl,f,rfl⟩:=j;split at d
  ·next t o=>
   split at d
   ·next e l=>
    obtain⟨v,g,rfl,rfl⟩:=kW d;cases g;simp only[VR]at f;subst f;exact gq (jF h ⟨.int .i64 0,by simp[Builtin.cap_,o,bF l,goInt],by simp[VR]⟩)
   ·next e id A n c l=>
    obtain⟨v,g,rfl,rfl⟩:=kW d;cases g;simp only[VR]at f;obtain⟨q,B,_,rfl⟩:=f;exact gq (jF h ⟨.int .i64 c,by simp[Builtin.cap_,o,bF l,goInt],by simp[VR]⟩)
   ·cases d
  ·cases d
 ·simp only[aG]at j;obtain⟨u,_,rfl,f,rfl⟩:=j;obtain⟨v,g,rfl,rfl⟩:=kW d;cases g;simp only[VR]at f;subst f;exact gq (jF h ⟨_,amo,by simp only[VR]⟩)
 ·next id A n I=>
  split at d
  ·cases d
  ·next G=>
   simp only[aG]at j;obtain⟨u,_,rfl,f,rfl⟩:=j;obtain⟨v,g,rfl,rfl⟩:=kW d;cases g;simp only[VR]at f;obtain⟨q,B,L,rfl⟩:=f;refine gq (jF h ⟨_,amq ?_,by simp only[VR];exact⟨q,B,rfl⟩⟩);intro e;rw[e]at L;have S:n=0:=ah;subst S;cases I with
   |none=>exact G ⟨rfl,.inl rfl⟩
   |some c=>simp only[tX]at e;subst e;exact G ⟨rfl,.inr rfl⟩
 ·next x n=>
  simp only[aG]at j;obtain⟨u,_,rfl,f,p,_,rfl,i,rfl⟩:=j;simp only[VR]at i;subst i;split at d
  ·next t Q M=>
   have:=U6 M;subst this;split at d
   ·next T=>
    subst T;split at d
    ·obtain⟨v,g,rfl,rfl⟩:=kW d;cases g;simp only[VR]at f;subst f;exact gq (jF h ⟨_,aek,by simp only[VR]⟩)
    ·obtain⟨v,g,rfl,rfl⟩:=kW d;cases g;simp only[VR]at f;obtain⟨q,B,rfl⟩:=f;exact gq (jF h ⟨_,aek,by simp only[VR]⟩)
    ·cases d
   ·split at d
    ·next id A=>
     split at d
     ·next e c et U N V=>
      split at d
      ·next G=>
       obtain⟨rfl,W,X,Y,Z,c5⟩:=G;split at d
       ·next r' hr=>
        split at d
        ·next b hb=>
         cases d;simp only[VR]at f;obtain⟨q,B,rfl⟩:=f;obtain⟨y,w',g,m,k⟩:=anb (it:=Q) (ty:=ty) h N V W X Y Z c5 hr hb B;exact gq ⟨y,w',H,g,m,k⟩
        ·cases d
       ·cases d
      ·cases d
     ·cases d
    ·cases d
  ·cases d
 ·next x y=>
  simp only[aG]at j;obtain⟨u,_,rfl,f,p,_,rfl,i,rfl⟩:=j;split at d
  ·next a R g m=>
   obtain⟨v,k,rfl,rfl⟩:=kW d;simp only[yH]at k;obtain⟨z,D,E⟩:=k;rw[Ea g f,Ea m i];exact gq (jF h ⟨z,D6 D w,FI _ _ _ E⟩)
  ·cases d
 ·next x y=>
  simp only[aG]at j;obtain⟨u,_,rfl,f,p,_,rfl,i,rfl⟩:=j;split at d
  ·next a R g m=>
   obtain⟨v,k,rfl,rfl⟩:=kW d;simp only[yH]at k;obtain⟨z,D,E⟩:=k;rw[Ea g f,Ea m i];exact gq (jF h ⟨z,D6 D w,FI _ _ _ E⟩)
  ·cases d
 ·next x y z=>
  simp only[aG]at j;obtain⟨u,_,rfl,f,p,_,rfl,i,aa,_,rfl,O,rfl⟩:=j;split at d
  ·next a R ab g m h4=>
   obtain⟨v,k,rfl,rfl⟩:=kW d;simp only[yH]at k;obtain⟨z,D,E⟩:=k;rw[Ea g f,Ea m i,Ea h4 O];exact gq (jF h ⟨z,D6 D w,FI _ _ _ E⟩)
  ·cases d
 ·cases d
def aGi{a it ty:TypeId}(p:XN):(Builtin.unsafeString_ #[a,it] ty #[.pointer p,.int .i64 0]).run P w=.ok (.string ⟨⟨[]⟩⟩) w:=aek
def aFy(h:SR P H F w){b:Builtin}{ts:Wt}{ty:TypeId}{cs:Array Bool}{args:Q3}{vs:Q6}{r:Q4}(c:LQ P b ts args F=some (r,F'))(l:aG H args vs):
 P7 P H F w r F' (builtin b ts ty cs ⟨vs⟩):=by
 unfold LQ at c;have mm:∀(L:Bool){x y:AV}{m n:Nat}{v:AV}{u M:Value},jE x=some m->jE y=some n->lV (.mm L m n)=some v->VR H x u->VR H y M->∃k a N,u=.int k a/\M=.int k N/\VR H v (.int k (if L then(if a<N then N else a)else(if N<a then N else a))):=by
  intro L x y m n v u M D O aa z d;obtain⟨g1,a1,a2,a3⟩:=nV D z;obtain⟨g2,b1,Q,b3⟩:=nV O d;obtain⟨_,g,_,E,c3⟩:=oQ (H:=H) aa;simp only[Nd.den,a1,b1]at E;split at E
  ·next k i k' j T e2=>
   cases T;cases e2;split at E
   ·next G=>
    subst G;cases E;simp only[GR]at a3 b3;exact⟨k,i,j,a3,b3,c3 _ rfl (by simp only[GR])⟩
   ·cases E
  ·cases E
 split at c
 ·next x=>
  simp only[aG]at l;obtain⟨u,_,rfl,z,rfl⟩:=l;split at c
  ·next t ht=>
   obtain⟨v,R,e⟩:=bI.1 c;cases e;exact gq (jF h (aFD ht R z))
  ·cases c
 ·next s x=>
  simp only[aG]at l;obtain⟨u,_,rfl,z,M,_,rfl,d,rfl⟩:=l;obtain⟨v,R,e⟩:=bI.1 c;cases e;exact gq (aFw h R z d)
 ·next x y=>
  simp only[aG]at l;obtain⟨u,_,rfl,z,M,_,rfl,d,rfl⟩:=l;split at c
  ·next m n D O=>
   obtain⟨v,R,e⟩:=bI.1 c;cases e;obtain⟨k,a,N,rfl,rfl,h2⟩:=mm false D O R z d;refine gq (jF h ⟨_,?_,h2⟩);simp[Builtin.min_,Builtin.min2]
  ·cases c
 ·next x y=>
  simp only[aG]at l;obtain⟨u,_,rfl,z,M,_,rfl,d,rfl⟩:=l;split at c
  ·next m n D O=>
   obtain⟨v,R,e⟩:=bI.1 c;cases e;obtain⟨k,a,N,rfl,rfl,h2⟩:=mm true D O R z d;refine gq (jF h ⟨_,?_,h2⟩);simp[Builtin.max_,Builtin.max2]
  ·cases c
 ·next id n=>
  split at c
  ·next m et Z=>
   split at c
   ·next B=>
    cases c;simp only[aG]at l;obtain⟨u,_,rfl,z,rfl⟩:=l;simp only[VR]at z;obtain⟨A,k1,z⟩:=z;rcases z with⟨q,U,an,rfl⟩|⟨ao,rfl,rfl⟩
    ·have V:=h.at Z U;have I:=V.YU;obtain⟨_,_,_,_,ab,_⟩:=V.OA;have W:q.sz/q.es≠0:=by have:=Nat.div_pos I ab;omega
     exact gq (jF h ⟨_,amq W,by simp only[VR];exact⟨A,_,k1,rfl,λ_=>⟨q,U,rfl⟩⟩⟩)
    ·exact gq (jF h ⟨_,amo,by simp only[VR];exact⟨[],_,k1,rfl,λO=>absurd rfl O⟩⟩)
   ·cases c
  ·cases c
 ·next id n k=>
  split at c
  ·next t it ac=>
   have:=U6 ac;subst this;split at c
   ·next e m et f ad Z=>
    split at c
    ·next hc=>
     obtain⟨rfl,c1,E,c3⟩:=hc;split at c
     ·next n' G=>
      split at c
      ·next B=>
       rw[aO]at B;obtain⟨v,D,e⟩:=bI.1 c;cases e;simp only[aG]at l;obtain⟨u,_,rfl,z,M,_,rfl,d,rfl⟩:=l;simp only[VR]at z d;obtain⟨ys,p,k1,rfl,hp⟩:=z;obtain⟨gk,j1,_,j3⟩:=d;obtain⟨ap,j4,j5⟩:=aJ.uq k _ G aA;rw[j1]at j4;cases j4;obtain⟨nn,gs,b1,Q,b3⟩:=oQ (H:=H) D;simp only[Nd.den]at Q;split at Q
       ·next A l=>
        split at Q
        ·next ae=>
         obtain⟨b,hb,rfl⟩:=bI.1 Q;simp only[Nd.den]at j5;split at j5
         ·next zs hz=>
          cases j5;have X:=AZ 100 B.1 l k1;have Y:=AZ 100 B.2 l hz;simp only[GR]at j3;subst j3;have fin:∀{H':Env}(y:Value),VR H' (.s b) y->VR H' v y:=by intro H' y hy;obtain⟨_,g2,_,d2,d3⟩:=oQ (H:=H') D;simp only[Nd.den,l,au ae,hb,iO,bD]at d2;subst d2;exact d3 y rfl ((nI _ _).2 hy)
          by_cases S:A=[]
          ·subst S;have af:zs.length=0:=Y.symm;have ag:b=[]:=by simpa[pO]using hb.symm
           subst ag;rw[af];refine gq ⟨.string ⟨⟨[]⟩⟩,w,H,aGi p,(St.refl h).Xc id,fin _ (by simp only[VR])⟩
          ·have ai:ys≠[]:=by intro e;rw[e]at X;exact S (kP X)
           obtain⟨q,U,rfl⟩:=hp ai;obtain⟨aq,i1,i2,i3,i4,i5,i6,i7,hS⟩:=Py h Z U;rw[l]at i1;cases i1;have ak:bY A=fB A:=by unfold bY;rw[Va hb]
           have I:0<A.length:=MN.2 S;have al:takeN (bY A) 0 ((A.length:Nat):Int).toNat=some (fB A):=by rw[ak];unfold takeN;rw[dY,mF (by rw[oG];simp),au (by rw[oG];simp)]
           have am:A.length<2^62:=ah;obtain⟨y,w',r1,r2,r3⟩:=anb (it:=it) (ty:=ty) (off:=0) (n:=A.length) hS ad Gp c1 E ah ah c3 al (Qs hb) U;rw[<-Y];refine gq ⟨y,w',H,by simpa using r1,?_,fin _ r3⟩;refine((TQ Z r2).Xc id).sub (λk o G=>?_) (dP _) rfl;rw[aC.AL]at G⊢;split at G
           ·cases G
           ·next T=>
            rw[aj T];unfold mM;rw[aC.get_put,aj T,aC.get_put,aj T];exact G
         ·cases j5
        ·cases Q
       ·cases Q
      ·cases c
     ·cases c
    ·cases c
   ·cases c
  ·cases c
 ·cases c
def nH(P:Program)(f:FuncId)(args:QR)(w:World)(R:Value->World->Prop):Prop:=
 (∃v a,(callFunc f args).run P w=.ok (.value v) a/\R v a)\/
 ((callFunc f args).run P w=.ok (.enter f args) w/\Calls P f args w λe a=>∃v,e=.returned v/\R v a)
def uD(P:Program)(call:Caller):Prop:=∀f args F r F',call f args F=some (r,F')->∀H w a,SR P H F w->aG H args a->
 nH P f ⟨a⟩ w λv c=>∃b,St P H F w b F' c/\VR b r v
def Ij:Op->Bool
 |.call {callee:=.value _,..}=>true
 |.call {callee:=.invoke _ _,..}=>true
 |_=>false
def ax5{f:FuncId}{first a:Q3}{b vs:Q6}(h1:aG H first b)(c:aG H a vs):∃y,(Instr.makeFunc (.func f) ⟨b⟩ ⟨vs⟩).run P w=.ok y w/\VR H (.fn f first a) y:=
 ⟨_,rfl,by simp only[VR];exact⟨b,vs,rfl,h1,c⟩⟩
def OC{b:QQ}{U:Operand->Value}(c:∀x a,b x=some a->VR H a (U x)){o:Option Operand}{r:Q4}(h:Ld b o=some r):nJ H r (o.map U):=by
 cases o with
 |none=>simp[Ld]at h;subst h;trivial
 |some x=>simp only[Ld,bI]at h;obtain⟨a,d,rfl⟩:=h;exact c _ _ d
def KE{α β:Type}(a:Array α)(f:α->β):a.map f=⟨a.toList.map f⟩:=by apply PO;simp
set_option maxHeartbeats 1000000 in
def aku(h:SR P H F w){call:Caller}{o:Oper}{ev:QQ}{U:Operand->Value}(j:∀x a,ev x=some a->VR H a (U x))(hc:Ij o.op=false){r:Q4}
 (d:xI P call o ev F=some (r,F')):P7 P H F w r F' (execOp U o):=by
 unfold xI at d;unfold execOp;split at d
 ·next x p=>rw[p];obtain⟨v,h1,rfl,rfl⟩:=kW d;exact⟨_,w,H,rfl,St.refl h,_,rfl,j _ _ h1⟩
 ·next x p=>rw[p];obtain⟨v,h1,rfl,rfl⟩:=kW d;exact⟨_,w,H,rfl,St.refl h,_,rfl,j _ _ h1⟩
 ·next c a b p=>
  rw[p];split at d
  ·next t T=>
   obtain⟨vd,ai,T⟩:=JU T;obtain⟨v,h1,rfl,rfl⟩:=kW d;refine⟨.value (if t then U a else U b),w,H,?_,St.refl h,_,rfl,?_⟩
   ·simp only[aY,aou (T _ _ (j _ _ ai)),aX,bQ]
   ·cases t
    ·exact j _ _ h1
    ·exact j _ _ h1
  ·cases d
 ·next t p=>
  rw[p];simp only[bI]at d;obtain⟨z,hz,e⟩:=d;cases e;exact gq (aoi h hz)
 ·next t x p=>
  rw[p];simp only[bI]at d;obtain⟨z,hz,e⟩:=d;cases e;exact gq (afX h (j _ _ hz))
 ·next t N p=>
  rw[p];split at d
  ·next ps V=>
   obtain⟨v,h1,rfl,rfl⟩:=kW d;exact gq (jF h (aoH h1 (by rw[KE];exact aaI j V)))
  ·cases d
 ·next t len N p=>
  rw[p];split at d
  ·next e an bytes z ps hi V=>
   split at d
   ·cases d
   ·next ac=>
    split at d
    ·next cs W=>
     have e1:=Jq d;refine axX (t:=t) (qs:=N.map λ(i,x)=>(i,U x)) (λv τ e2 hr=>?_) h hi ac W (by rw[KE];exact aaI j V);rw[e2]at e1;cases e1;exact gq hr
    ·cases d
  ·cases d
 ·next t a p=>
  rw[p];split at d
  ·next av O=>
   obtain⟨v,h1,rfl,rfl⟩:=kW d;rcases yc h1 with h1|h1
   ·exact gq (jF h (Io h h1 (j _ _ O)))
   ·exact gq (jF h (aFE h h1 (j _ _ O)))
  ·cases d
 ·next t a x p=>
  rw[p];split at d
  ·next av xv O B=>
   obtain⟨h1,rfl⟩:=ady d;rcases yc h1 with h1|h1
   ·obtain⟨I,L,M⟩:=Yu h h1 (j _ _ O) (j _ _ B);exact OB ⟨I,H,L,M⟩
   ·obtain⟨I,L,M⟩:=aFI h h1 (j _ _ O) (j _ _ B);exact OB ⟨I,H,L,M⟩
  ·cases d
 ·next x p=>
  rw[p];split at d
  ·next id X B=>
   obtain⟨v,h1,rfl,rfl⟩:=kW d;cases h1;have D:=j _ _ B;simp only[VR]at D;obtain⟨q,hq,D⟩:=D;exact⟨.value (U x),w,H,by simp only[D];rfl,St.refl h,_,rfl,j _ _ B⟩
  ·next b X B=>
   obtain⟨v,h1,rfl,rfl⟩:=kW d;cases h1;have D:=j _ _ B;simp only[VR]at D;obtain⟨bl,base,cs,ad,fr,y,_,_,D,_⟩:=D;exact⟨.value (U x),w,H,by simp only[D];rfl,St.refl h,_,rfl,j _ _ B⟩
  ·next m X B=>
   obtain⟨v,h1,rfl,rfl⟩:=kW d;cases h1;have D:=j _ _ B;simp only[VR]at D;obtain⟨g,bl,base,cs,ad,fr,y,_,_,_,D,_⟩:=D;exact⟨.value (U x),w,H,by simp only[D];rfl,St.refl h,_,rfl,j _ _ B⟩
  ·next id m X B=>
   obtain⟨v,h1,rfl,rfl⟩:=kW d;cases h1;have D:=j _ _ B;simp only[VR]at D;obtain⟨q,kk,i,_,_,D⟩:=D;exact⟨.value (U x),w,H,by simp only[D];rfl,St.refl h,_,rfl,j _ _ B⟩
  ·next f fs cs B=>
   obtain⟨v,h1,rfl,rfl⟩:=kW d;cases h1;have D:=j _ _ B;simp only[VR]at D;obtain⟨us,vs,D,_⟩:=D;exact⟨.value (U x),w,H,by simp only[D];rfl,St.refl h,_,rfl,j _ _ B⟩
  ·cases d
 ·next op t x y _ p=>
  rw[p];split at d
  ·next a b A E=>
   obtain⟨v,h1,rfl,rfl⟩:=kW d;rcases yc h1 with h1|h1
   ·exact gq (jF h (aoD h h1 (j _ _ A) (j _ _ E)))
   ·exact gq (jF h (aFx h1 (j _ _ A) (j _ _ E)))
  ·cases d
 ·next op t x p=>
  rw[p];split at d
  ·next a A=>
   split at d
   ·next u R=>
    obtain⟨v,h1,rfl,rfl⟩:=kW d;simp only[yH]at h1;obtain⟨z,hz,yT⟩:=h1;have ae:(Op.unary op (U x)).run P w=.ok z w:=by rw[Ea R (j _ _ A)];exact D6 hz w
    exact gq (jF h ⟨z,ae,FI _ _ _ yT⟩)
   ·obtain⟨v,h1,rfl,rfl⟩:=kW d;exact gq (jF h (aFJ h1 (j _ _ A)))
  ·cases d
 ·next src aq x p=>
  rw[p];split at d
  ·next a A=>
   obtain⟨v,h1,rfl⟩:=FT d;rcases yc h1 with h1|h1
   ·exact gq (QG h h1 (j _ _ A))
   ·exact gq (aFz h h1 (j _ _ A))
  ·cases d
 ·next t x p=>
  rw[p];split at d
  ·next a A hi=>
   obtain⟨v,h1,rfl,rfl⟩:=kW d;cases h1;exact gq (jF h (ax6 hi (j _ _ A)))
  ·cases d
 ·next f first ao p=>
  rw[p];split at d
  ·next fs cs ak al=>
   obtain⟨v,h1,rfl,rfl⟩:=kW d;cases h1;simp only[KE];exact gq (jF h (ax5 (NQ j ak) (NQ j al)))
  ·cases d
 ·next t r' p=>
  rw[p];split at d
  ·cases d;exact gq (ajR h (.inl rfl))
  ·next x=>
   split at d
   ·next a kt et A R=>
    split at d
    ·next hm=>
     cases d;obtain⟨k,n,Y⟩:=ax9 hm (j _ _ A);exact gq (ajR h (.inr ⟨k,n,kt,et,by simp[Y],R⟩))
    ·cases d
   ·cases d
 ·next t l c p=>
  rw[p];split at d
  ·next a b A E=>
   obtain⟨v,h1,rfl⟩:=FT d;rcases yc h1 with h1|h1
   ·exact gq (ax7 h h1 (j _ _ A) (j _ _ E))
   ·exact gq (aFG h h1 (j _ _ A) (j _ _ E))
  ·cases d
 ·next t x lo hi p=>
  rw[p];split at d
  ·next a ar aw A Z aa=>
   rcases yc d with d|d
   ·obtain⟨v,h1,rfl,rfl⟩:=kW d;rcases yc h1 with h1|h1
    ·exact gq (jF h (Ym h h1 (j _ _ A) (OC j Z) (OC j aa)))
    ·exact gq (jF h (amK h h1 (j _ _ A) (OC j Z) (OC j aa)))
   ·obtain⟨v,h1,rfl⟩:=FT d;exact gq (aFH h h1 (j _ _ A) (OC j Z) (OC j aa))
  ·cases d
 ·next t x f p=>
  rw[p];split at d
  ·next a A=>
   obtain⟨v,h1,rfl,rfl⟩:=kW d;rcases yc h1 with h1|h1
   ·exact gq (jF h (auJ h1 (j _ _ A)))
   ·exact gq (jF h (aFA h1 (j _ _ A)))
  ·cases d
 ·next t x f p=>
  rw[p];split at d
  ·next a A=>
   obtain⟨v,h1,rfl,rfl⟩:=kW d;exact gq (jF h (auK h1 (j _ _ A)))
  ·cases d
 ·next t x ix p=>
  rw[p];split at d
  ·next a k A Y=>
   obtain⟨v,h1,rfl,rfl⟩:=kW d;rcases yc h1 with h1|h1
   ·exact gq (jF h (Rw h1 (j _ _ A) (j _ _ Y)))
   ·exact gq (jF h (aFB h h1 (j _ _ A) (j _ _ Y)))
  ·cases d
 ·next t x ix p=>
  rw[p];split at d
  ·next a k A Y=>
   obtain⟨v,h1,rfl,rfl⟩:=kW d;rcases yc h1 with h1|h1
   ·exact gq (jF h (aby h1 (j _ _ A) (j _ _ Y)))
   ·exact gq (jF h (aFC h1 (j _ _ A) (j _ _ Y)))
  ·cases d
 ·next t m k ok p=>
  rw[p];split at d
  ·next a b A E=>
   obtain⟨v,h1,rfl,rfl⟩:=kW d;rcases yc h1 with h1|h1
   ·exact gq (jF h (axY h h1 (j _ _ A) (j _ _ E)))
   ·exact gq (jF h (aFF h h1 (j _ _ A) (j _ _ E)))
  ·cases d
 ·next t m k x p=>
  rw[p];split at d
  ·next a b c A E Q=>
   obtain⟨h1,rfl⟩:=ady d;rcases yc h1 with h1|h1
   ·obtain⟨I,L,M⟩:=ajT h h1 (j _ _ A) (j _ _ E) (j _ _ Q);exact OB ⟨I,H,L,M⟩
   ·obtain⟨I,L,M⟩:=amJ h h1 (j _ _ A) (j _ _ E) (j _ _ Q);exact OB ⟨I,H,L,M⟩
  ·cases d
 ·next t m k x p=>
  rw[p];split at d
  ·next a b c A E Q=>
   obtain⟨h1,rfl⟩:=ady d;rcases yc h1 with h1|h1
   ·obtain⟨I,L,M⟩:=ajT h h1 (j _ _ A) (j _ _ E) (j _ _ Q);exact OB ⟨I,H,L,M⟩
   ·obtain⟨I,L,M⟩:=amJ h h1 (j _ _ A) (j _ _ E) (j _ _ Q);exact OB ⟨I,H,L,M⟩
  ·cases d
 ·next t x p=>
  rw[p];split at d
  ·next s R hx=>
   cases d;have D:=j _ _ hx;simp only[VR]at D;simp only[D];exact gq (aBw h R)
  ·next k e R hx=>
   cases d;have D:=j _ _ hx;simp only[VR]at D;simp only[D];exact gq (aBu h R)
  ·next k e id R hx=>
   split at d
   ·next es hg=>
    cases d;exact gq (aBv h R hg (j _ _ hx))
   ·cases d
  ·cases d
 ·next it p=>
  rw[p];split at d
  ·next a A=>
   obtain⟨v,h1,rfl⟩:=FT d;obtain⟨y,I,L,M,h4⟩:=azd (ty:=o.type) h h1 (j _ _ A);exact gq ⟨y,I,H,L,M,h4⟩
  ·cases d
 ·next it p=>
  rw[p];have af:VR H (.fK [.b false]) (.tuple #[.bool false]):=by simp only[VR];exact⟨[_],rfl,aG.cons (by simp only[VR]) (by simp[aG])⟩
  split at d
  ·next id A=>
   split at d
   ·next hg=>
    cases d;exact gq (jF h ⟨_,azb (ty:=o.type) h hg (j _ _ A),af⟩)
   ·next m hg=>
    split at d
    ·next hm=>
     cases d;exact gq (jF h ⟨_,azc (ty:=o.type) h hg hm (j _ _ A),af⟩)
    ·cases d
   ·cases d
  ·cases d
 ·next x xt t ok p=>
  rw[p];split at d
  ·next a A=>
   obtain⟨v,h1,rfl,rfl⟩:=kW d;exact gq (jF h (aGa h1 (j _ _ A)))
  ·cases d
 ·next x k p=>
  rw[p];split at d
  ·next l A=>
   obtain⟨v,h1,rfl,rfl⟩:=kW d;exact gq (jF h (atX h1 (j _ _ A)))
  ·cases d
 ·next c p=>
  rw[p];split at d
  ·next args ab=>
   split at d
   ·next b E=>
    have D:=NQ j ab;have d:Jt P b c.argTypes args F=some (r,F')\/LQ P b c.argTypes args F=some (r,F'):=by
     cases ag:ad4 b args with
     |true=>rw[ag,cond_true]at d;exact(yc d).symm
     |false=>rw[ag,cond_false]at d;exact yc d
    rcases d with d|d
    ·have G:=aoI (cs:=c.args.map fun|.const _=>true|_=>false) (ty:=o.type) h d D;simp only[resolve,E,KE,pure_bind,invoke];rw[KE]at G;exact G
    ·have G:=aFy (cs:=c.args.map fun|.const _=>true|_=>false) (ty:=o.type) h d D;simp only[resolve,E,KE,pure_bind,invoke];rw[KE]at G;exact G
   ·next f W=>
    rw[p]at hc;exfalso;obtain⟨S,args,am⟩:=c;simp only at W;subst W;simp[Ij]at hc
   ·next f ap W=>
    rw[p]at hc;exfalso;obtain⟨S,args,am⟩:=c;simp only at W;subst W;simp[Ij]at hc
  ·cases d
 ·cases d
def agN(r:Value)(l:Q6):(#[r]++(⟨l⟩:QR))=⟨r::l⟩:=by apply PO;simp
def axg(a:String)(r:Value)(l:Q6):invoke (.fn (.method a) #[]) (#[r]++(⟨l⟩:QR))=callMethod r a ⟨l⟩:=by
 rw[agN];have b:(⟨r::l⟩:QR)[0]? =some r:=aA;have c:(⟨r::l⟩:QR).extract 1 (⟨r::l⟩:QR).size=⟨l⟩:=by apply PO;simp
 have:invoke (.fn (.method a) #[]) (⟨r::l⟩:QR)=(do
  let some recv:=(⟨r::l⟩:QR)[0]? |stuck "call: a method without a receiver"
  callMethod recv a ((⟨r::l⟩:QR).extract 1 (⟨r::l⟩:QR).size)):=rfl
 rw[this,b,c]
def ayp(h:SR P H F w){b:String}{a A:AV}{f:FuncId}{x:Value}(c:UO P b F a=some (f,A))(B:VR H a x)(args:QR):
 ∃y,(callMethod x b args).run P w=(callFunc f (#[y]++args)).run P w/\VR H A y:=by
 unfold UO at c;split at c
 ·next t v=>
  simp only[VR]at B;obtain⟨l,rfl,o⟩:=B;split at c
  ·next i d hi p=>
   split at c
   ·next m G=>
    split at c
    ·next D r E I=>
     have j:∀y,(receiverAt t (.val l) r (some ((b.splitOn ".").getLastD b))).run P w=.ok y w->
      (callMethod (.iface t l) b args).run P w=(callFunc D (#[y]++args)).run P w:=by
      intro y L;have s:m.path.isEmpty=true:=by simpa using E
      have:∀n:Nat,(method (n+1) t l b).run P w=.ok (D,y) w:=by intro n;simp only[method,aY,IQ hi,aX,G,E,follow,bQ,I,s,if_true,L]
      simp only[callMethod,aY,program,Sem.run,aX];rw[show P.types.size+Made.depth=(P.types.size+Made.depth-1)+1 by simp[Made.depth],this];rfl
     split at c
     ·next e=>
      cases c;exact⟨l,j _ (by simp only[receiverAt,aY,bF p,aX,Go.Place.get,bQ]),o⟩
     ·next e=>
      split at c
      ·next id g=>
       simp only[bI,qI]at c;obtain⟨z,M,rfl,rfl⟩:=c;obtain⟨y,N,O⟩:=Io h M o;simp only[VR]at o;obtain⟨q,R,rfl⟩:=o;refine⟨y,j _ ?_,O⟩;have u:(loadVar e ⟨q.bl,q.ba+g,none⟩).run P w=.ok y w:=by simpa[Instr.loadAt,Instr.sureAddr]using N
       have k:∀Q:String,(Builtin.ssaWrapNilChk_ #[t] t #[.pointer (some ⟨q.bl,q.ba+g,none⟩),strVal "",strVal Q]).run P w=.ok (.pointer (some ⟨q.bl,q.ba+g,none⟩)) w:=λ_=>rfl;have has:(asAddr (.pointer (some ⟨q.bl,q.ba+g,none⟩))).run P w=.ok ⟨q.bl,q.ba+g,none⟩ w:=rfl;simp only[receiverAt,aY,bF p,aX,Go.Place.get,bQ,k,has,u]
      ·cases c
     ·cases c
     ·next S T U=>
      cases c;refine⟨l,j _ ?_,o⟩;simp only[receiverAt,aY,bF p,aX];cases d<;>simp only[Go.Place.get,bQ]
      all_goals simp_all
    ·cases c
   ·cases c
  ·cases c
 ·cases c
def agf(h:SR P H F w){call:Caller}(j:uD P call){o:Oper}{a:bM}{A:Act}(W:TR P H a A)(E:Ij o.op=true){r:Q4}{K:Act->World->Prop}{Q:Exit->Act->World->Prop}
 (i:xI P call o a.eval F=some (r,F')) (G:∀v x H' w',r=some v->St P H F w H' F' w'->VR H' v x->K (A.put o.dst x) w'):o.wp P A w K Q:=by
 have I:∀x v,a.eval x=some v->VR H v (A.eval x):=λx v l=>QT h W x v l;unfold xI at i;cases m:o.op with
 |call c=>
  rw[m]at E i;simp only at i;split at i
  ·next args k=>
   obtain⟨n,p,X⟩:=c;cases n with
   |builtin b=>simp[Ij]at E
   |invoke rc S=>
    simp only at i;split at i
    ·next f rv B=>
     simp only[yH]at B;obtain⟨iv,L,B⟩:=B;obtain⟨u,M,rfl⟩:=FT i;have q:=NQ I k;obtain⟨y,Y,Z⟩:=ayp h B (I _ _ L) (⟨p.toList.map A.eval⟩);have s:=j _ _ _ _ _ M H w (y::p.toList.map A.eval) h (aG.cons Z q);have t:(execOp A.eval o).run P w=(callFunc f ⟨y::p.toList.map A.eval⟩).run P w:=by
      unfold execOp;rw[m];have e0:p.map A.eval=⟨p.toList.map A.eval⟩:=by apply PO;simp
      simp only[resolve,pure_bind,e0];rw[axg,Y,agN]
     unfold Oper.wp;rw[t];rcases s with⟨v,w',d,H',g,l⟩|⟨d,z⟩
     ·rw[d];exact G u v H' w' rfl g l
     ·rw[d];refine Calls.mono z ?_;rintro e w' ⟨v,rfl,H',g,l⟩
      exact G u v H' w' rfl g l
    ·cases i
   |value f=>
    simp only at i;split at i
    ·next fn fi T B=>
     obtain⟨u,M,rfl⟩:=FT i;have D:=I _ _ B;simp only[VR]at D;obtain⟨U,V,N,O,R⟩:=D;have q:=NQ I k;have s:=j _ _ _ _ _ M H w (U++p.toList.map A.eval++V) h ((O.append q).append R);have t:(execOp A.eval o).run P w=(callFunc fn ⟨U++p.toList.map A.eval++V⟩).run P w:=by unfold execOp;rw[m];simp only[resolve,N,Deferred.ofValue,pure_bind,invoke];congr 2;apply PO;simp
     unfold Oper.wp;rw[t];rcases s with⟨v,w',d,H',g,l⟩|⟨d,z⟩
     ·rw[d];exact G u v H' w' rfl g l
     ·rw[d];refine Calls.mono z ?_;rintro e w' ⟨v,rfl,H',g,l⟩
      exact G u v H' w' rfl g l
    ·cases i
  ·cases i
 |_=>rw[m]at E;simp[Ij]at E
def aGZ{b:W6}{j:Nat}{o:Oper}{d:Nat}{a:bM}{A:Act}{x:Bool}(g:TR P H a A)(h:b[j]? =some o)(i:o.dst=some d)(f:dB (a.t.get d)=some (.b x)):yielded b A.tmps j=some x:=by obtain⟨l,f,c⟩:=JU f;obtain⟨y,k,e⟩:=g.slot d _ f;have e:=c _ _ e;simp only[VR]at e;subst e;simp only[yielded,h,BA,i,k]
def I9{o:Oper}{f:W6}{a:bM}{A:Act}{b:Bool}(m:TR P H a A)(c:Mc o f a=some b):Region.wanted o (yielded f A.tmps)=b:=by
 unfold Mc at c;unfold Region.wanted;split at c
 ·next k=>rw[k];cases c;rfl
 ·next j e k=>
  rw[k];split at c
  ·next q n=>
   split at c
   ·next d p=>
    split at c
    ·next x g=>
     cases c;simp only[aGZ m n p g];cases x<;>cases e<;>rfl
    ·next l g=>
     cases c;obtain⟨s,g,h⟩:=JU g;obtain⟨y,r,i⟩:=m.slot d _ g;have i:=h _ _ i;simp only[VR]at i;obtain⟨t,rfl,_⟩:=i;simp only[yielded,n,BA,p,r];cases e<;>rfl
    ·cases c
   ·cases c
  ·cases c
def step_ok(h:SR P H F w){call:Caller}(f:uD P call){k:W6}{i:Nat}{a s:bM}{A:Act}(d:TR P H a A){K:Act->World->Prop}{Q:Exit->Act->World->Prop}
 (c:ZA P call k i a F=some (s,F')) (p:∀H' t w',St P H F w H' F' w'->TR P H' s t->K t w'):wpOp P k Q i K A w:=by
 unfold ZA at c;unfold wpOp;split at c
 ·cases c
 ·next o z=>
  rw[z];simp only;split at c
  ·cases c
  ·next q=>
   rw[I9 d q];simp only[iI,if_false];simp only[bI,qI]at c;obtain⟨B,l,rfl,rfl⟩:=c;exact p H _ w (St.refl h) (d.put l (by rintro u j;cases j;exact⟨[],rfl,rfl⟩))
  ·next q=>
   rw[I9 d q];simp only[if_true];split at c
   ·cases c
   ·next r E g=>
    rw[ES]at g;simp only[bI,qI]at c;obtain⟨B,l,rfl,rfl⟩:=c;left;cases y:Ij o.op with
    |true=>refine agf h f d y g λv x H' w' D b m=>?_;exact p H' _ w' b ((d.mono b.ext).put l (λu j=>by rw[D]at j;cases j;exact m))
    |false=>
     obtain⟨G,w',H',n,b,e⟩:=aku h (λx v m=>QT h d x v m) y g;unfold Oper.wp;rw[n];cases r with
     |none=>subst e;exact p H' _ w' b ((d.mono b.ext).put l aA)
     |some v=>obtain⟨x,rfl,m⟩:=e;exact p H' _ w' b ((d.mono b.ext).put l (λu j=>by cases j;exact m))
def akw{call:Caller}(b:uD P call){d:W6}{Q:Exit->Act->World->Prop}:∀(l:Q2){H:Env}{F:aC}{w:World}{a g:bM}{A:Act},SR P H F w->TR P H a A->
 Nk P call d l a F=some (g,F')->(∀H' j w',St P H F w H' F' w'->TR P H' g j->Q .normal j w')->wpOps P d Q l A w
 |[],H,F,w,a,g,A,h,k,c,m=>by simp only[Nk,bD,qI]at c;obtain⟨rfl,rfl⟩:=c;exact m H A w (St.refl h) k
 |i::l,H,F,w,a,g,A,h,k,c,m=>by
  rw[wpOps_cons];unfold Nk at c;split at c
  ·next q r p=>
   refine step_ok h b k p λs t w1 e n=>?_;exact akw b l e.rel n c λH' j w' f o=>m H' j w' (e.trans f) o
  ·cases c
def fV.toExit:fV->Exit
 |.normal=>.normal
 |.exit id=>.exit id
 |.ret=>.ret
def Ui(P:Program)(g:Caller->CV):Prop:=∀call,uD P call->∀b a F c F',g call b a F=some (c,F')->∀H w A id Q,SR P H F w->TR P H a A->
 (∀d e f,St P H F w d F' f->TR P d c e->Q .normal e f)->(Code.region id b true).wp P Q A w
def UA(P:Program)(c:zK):Prop:=∀f g,c f=some g->∀args F r F',g args F=some (r,F')->∀H w a,SR P H F w->aG H args a->
 nH P f ⟨a⟩ w λv d=>∃b,St P H F w b F' d/\VR b r v
def yG(P:Program):Prop:=∀(f:Nat) fn c,P.funcs[f]? =some fn->fn.body=some c->(fn.name == "runtime.NumGoroutine")=false
def Qb(P:Program)(run:Code->bM->aC->Option (fV×bM×aC)):Prop:=∀c a F e b F',run c a F=some (e,b,F')->∀H w A Q,SR P H F w->TR P H a A->
 (∀d f g,St P H F w d F' g->TR P d b f->Q e.toExit f g)->c.wp P Q A w
def Tc(h:SR P H F w){a:bM}{A:Act}(j:TR P H a A)(g:ResultVar->Sem Value)(c:∀t,g (.tmp t)=pure (A.tmps.getD t undef))(d:∀a t,g (.cell a t)=(do loadVar t (<-asAddr (A.tmps.getD a undef)))):
 ∀(rs:List ResultVar)(l:Q3),Dh P F a rs=some l->∃vs,(rs.mapM g).run P w=.ok vs w/\aG H l vs
 |[],l,b=>by simp only[Dh,bD]at b;subst b;exact⟨[],rfl,by simp[aG]⟩
 |.tmp t::rs,l,b=>by
  unfold Dh at b;split at b
  ·next v r e k=>
   cases b;obtain⟨vs,h1,m⟩:=Tc h j g c d rs r k;obtain⟨x,n,f⟩:=j.slot t v e;refine⟨x::vs,?_,aG.cons f m⟩;simp only[ae5,c,aY,bQ,aX,h1];rw[Bh,n];rfl
  ·cases b
 |.cell t B::rs,l,b=>by
  unfold Dh at b;split at b
  ·next v r e k=>
   cases b;obtain⟨vs,h1,m⟩:=Tc h j g c d rs r k;simp only[yH]at e;obtain⟨p,D,e⟩:=e;obtain⟨x,n,f⟩:=j.slot t p D;obtain⟨y,E,G⟩:=Io h e f;refine⟨y::vs,?_,aG.cons G m⟩;have o:∃i,x=.pointer (some i):=by
    cases p<;>simp[yK]at e
    ·simp only[VR]at f;obtain⟨q,_,rfl⟩:=f;exact⟨_,rfl⟩
    ·simp only[VR]at f;obtain⟨L,base,M,z,N,x,_,_,rfl,_⟩:=f;exact⟨_,rfl⟩
   obtain⟨i,rfl⟩:=o;have I:A.tmps.getD t undef=.pointer (some i):=by rw[Bh,n];rfl
   have s:(loadVar B i).run P w=.ok y w:=by simpa[Instr.loadAt,Instr.sureAddr]using E
   have u:(asAddr (A.tmps.getD t undef)).run P w=.ok i w:=by rw[I];rfl
   simp only[ae5,d,aY,bQ,aX,h1,u,s]
  ·cases b
def aF8{l:Q3}{vs:Q6}(h:aG H l vs):VR H (LW l) (if h:(⟨vs⟩:QR).size=1 then(⟨vs⟩:QR)[0]else .tuple ⟨vs⟩):=by
 have b:=h.length;unfold LW;split
 ·next v=>
  simp only[aG]at h;obtain⟨x,_,rfl,c,rfl⟩:=h;simpa using c
 ·next a=>
  have:(⟨vs⟩:QR).size≠1:=by
   intro e;have:l.length=1:=by rw[b];exact e
   obtain⟨v,rfl⟩:=Zf.1 this;exact a v rfl
  rw[dif_neg this];simp only[VR];exact⟨vs,rfl,h⟩
def afJ:∀(args:Q3)(k:Nat)(t:Tr AV)(j:Nat),(BJ args k t).get j=if k<=j/\j<k+args.length then args[j-k]? else t.get j
 |[],k,t,j=>by simp[BJ];omega
 |v::args,k,t,j=>by
  rw[BJ,afJ args (k+1)];simp only[iE];by_cases h1:k+1<=j/\j<k+1+args.length
  ·rw[au h1,au ah];have:j-k=(j-(k+1))+1:=ah;rw[this];simp
  ·rw[aj h1,Tr.wX];by_cases a:j=k
   ·subst a;rw[au rfl,au ah];simp
   ·rw[aj a,aj ah]
def aaG{args:Q3}{vs:Q6}{n:Nat}(h:aG H args vs):
 TR P H {t:=BJ args 0 .nil,n:=max args.length n,gn:=P.globals.size} {tmps:=(⟨vs⟩:QR)++Array.replicate (n-(⟨vs⟩:QR).size) undef,defers:=[]}:=by
 have e:=h.length;refine⟨rfl,?_,rfl,λt v a=>?_⟩
 ·simp;omega
 ·rw[afJ]at a;split at a
  ·next f=>
   obtain⟨x,b,d⟩:=h.at a;refine⟨x,?_,d⟩;simp only[Jp]at b;have c:=(gy.1 b).1;rw[Y5 (by simpa using c)];simpa using b
  ·simp at a
def agd{G:zK}{run:Code->bM->aC->Option (fV×bM×aC)}(O:UA P G)(Q:yG P)(R:Qb P run):uD P (JJ P G run):=by
 intro f args F r F' d H w I h L;unfold JJ at d;split at d
 ·next g S=>exact O f g S args F r F' d H w I h L
 ·split at d
  ·cases d
  ·next fn o=>
   split at d
   ·cases d
   ·next c D=>
    have x:∀(e:fV) p,(e=.normal\/e=.ret)->run c {t:=BJ args 0 .nil,n:=max args.length fn.ntmps,gn:=P.globals.size} F=some (e,p,F')->∀l,Dh P F' p fn.results.toList=some l->r=LW l->
     nH P f ⟨I⟩ w λv i=>∃m,St P H F w m F' i/\VR m r v:=by
     intro e p T b l y E;right;refine⟨?_,?_⟩
     ·have q:=Q f fn c o D;simp only[callFunc,aY,program,Sem.run,aX,o];simp only[q,iI,if_false,D,MZ,bQ]
     ·refine calls_of_wp o D ?_;refine R c _ _ _ _ _ b H w _ _ h (aaG L) ?_;intro m z i A M;have j:∃s,(results fn z.tmps).run P i=.ok (if h:(⟨s⟩:QR).size=1 then(⟨s⟩:QR)[0]else .tuple ⟨s⟩) i/\aG m l s:=by unfold results;rw[Y6];simp only[aY,Zp];obtain⟨s,B,u⟩:=Tc A.rel M (fun|.tmp t=>pure (z.tmps.getD t undef)|.cell a t=>do loadVar t (<-asAddr (z.tmps.getD a undef))) (λ_=>rfl) (λ_ _=>rfl) _ _ y;refine⟨s,?_,u⟩;exact uT (λr:Result Q6=>(r.andThen λa i=>Result.ok a.toArray i).andThen λa i=>Sem.run P (pure (if h:a.size=1 then a[0]else Value.tuple a)) i) B
      obtain⟨s,j,u⟩:=j
      have k:z.defers=[]/\∃v,(results fn z.tmps).run P i=.ok v i/\∃N,Ending.returned v=.returned N/\∃m,St P H F w m F' i/\VR m r N:=
       ⟨M.none,_,j,_,rfl,m,A,by rw[E];exact aF8 u⟩
      rcases T with rfl|rfl
      ·exact k
      ·exact k
    split at d
    ·next p U b=>
     simp only[bI,qI]at d;obtain⟨l,y,B,u⟩:=d;subst u;exact x _ p (.inl rfl) b l y B.symm
    ·next p U b=>
     simp only[bI,qI]at d;obtain⟨l,y,B,u⟩:=d;subst u;exact x _ p (.inr rfl) b l y B.symm
    ·cases d
def agD{I:Caller->CV}{L:zK}(W:Ui P I)(X:UA P L)(Y:yG P):∀n:Nat,Qb P (GK P I L n)/\
 (∀b a F e r F',GK P I L n (.loop b) a F=some (e,r,F')->∀H w A Q,SR P H F w->TR P H a A->(∀H' s w',St P H F w H' F' w'->TR P H' r s->Q e.toExit s w')->Code.rounds P b Q n A w):=by
 intro n;induction n with
 |zero=>exact⟨λc a F e r F' d=>by simp[afu]at d,λb a F e r F' d=>by simp[afu]at d⟩
 |succ n Z=>
  obtain⟨i,O⟩:=Z;have o:=agd X Y i;have B:∀b a F e r F',GK P I L (n+1) (.loop b) a F=some (e,r,F')->∀H w A Q,SR P H F w->TR P H a A->(∀H' s w',St P H F w H' F' w'->TR P H' r s->Q e.toExit s w')->Code.rounds P b Q (n+1) A w:=by
   intro b a F e r F' d H w A Q h k j;rw[rounds_succ];simp only[yI,wP]at d;split at d
   ·next M N u=>
    refine i _ _ _ _ _ _ u H w A _ h k ?_;intro l m w1 f g;exact O _ _ _ _ _ _ d l w1 m Q f.rel g λH' s w' p v=>j H' s w' (f.trans p) v
   ·next q=>
    refine i _ _ _ _ _ _ d H w A _ h k ?_;intro l m w1 f g;cases e with
    |normal=>exact absurd d (by intro D;exact q _ _ D)
    |exit id=>exact j l m w1 f g
    |ret=>exact j l m w1 f g
  refine⟨?_,B⟩;intro c a F e r F' d H w A Q h k j;cases c with
  |loop b=>exact wp_loop_rounds (n+1) (B b a F e r F' d H w A Q h k j)
  |skip=>simp only[yI,wP,bD,qI]at d;obtain⟨rfl,rfl,rfl⟩:=d;exact wp_skip (j H A w (St.refl h) k)
  |region id R E=>
   cases E with
   |false=>simp only[yI,wP,bI,qI]at d;obtain⟨⟨M,N⟩,u,rfl,rfl,rfl⟩:=d;exact wp_region (akw o _ h k u j)
   |true=>simp only[yI,wP,bI,qI]at d;obtain⟨⟨M,N⟩,u,rfl,rfl,rfl⟩:=d;exact W _ o R a F _ _ u H w A id Q h k j
  |seq x y=>
   simp only[yI,wP]at d;refine wp_seq ?_;split at d
   ·next M N u=>
    refine i _ _ _ _ _ _ u H w A _ h k ?_;intro l m w1 f g;exact i _ _ _ _ _ _ d l w1 m Q f.rel g λH' s w' p v=>j H' s w' (f.trans p) v
   ·next q=>
    refine i _ _ _ _ _ _ d H w A _ h k ?_;intro l m w1 f g;cases e with
    |normal=>exact absurd d (by intro D;exact q _ _ D)
    |exit id=>exact j l m w1 f g
    |ret=>exact j l m w1 f g
  |cond x y z=>
   simp only[yI,wP]at d;split at d
   ·next t S=>
    obtain⟨vd,S,G⟩:=JU S;have V:=G _ _ (QT h k x _ S);simp only[VR]at V;refine wp_cond V ?_;exact i _ _ _ _ _ _ d H w A Q h k j
   ·cases d
  |block id b=>
   simp only[yI,wP]at d;refine wp_block ?_;split at d
   ·next T M N u=>
    refine i _ _ _ _ _ _ u H w A _ h k ?_;intro l m w1 f g;simp only[fV.toExit,Exit.inBlock];split at d
    ·next U=>
     cases d;rw[au U];exact j l m w1 f g
    ·next U=>
     cases d;rw[aj U];exact j l m w1 f g
   ·next q=>
    refine i _ _ _ _ _ _ d H w A _ h k ?_;intro l m w1 f g;cases e with
    |normal=>exact j l m w1 f g
    |exit T=>exact absurd d (by intro D;exact q _ _ _ D)
    |ret=>exact j l m w1 f g
  |exit id=>simp only[yI,wP,bD,qI]at d;obtain⟨rfl,rfl,rfl⟩:=d;exact wp_exit (j H A w (St.refl h) k)
  |ret=>simp only[yI,wP,bD,qI]at d;obtain⟨rfl,rfl,rfl⟩:=d;exact wp_ret (j H A w (St.refl h) k)
  |rangeFunc _ _ _ _=>simp[yI,wP]at d
  |scope _=>simp[yI,wP]at d
  |label _=>simp[yI,wP]at d
  |goto _=>simp[yI,wP]at d
  |refuse _=>simp[yI,wP]at d
def anY{a:Caller->CV}{b:zK}(e:Ui P a)(c:UA P b)(d:yG P)(n:Nat):uD P (aft P a b n):=
 agd c d (agD e c d n).1
