/- Values that are named by nodes: append, make, conversions, strings.Builder's string. -/
import Derived.Test.YtcnekfnipdihgaaGreatDoorAbsD
set_option linter.all false
namespace Go.aP
noncomputable section
variable[aJ]
variable{P:Program}{F:Env}{J J':aC}{w:World}
def St.WY{F':Env}{w':World}(h:St P F J w F' J' w')(id:Nat):St P F J w F' (J'.kill id) w':=
 h.sub (λk o a=>by rw[aC.Ad]at a;split at a;cases a;exact a) (dK _) rfl
def St.zI{F':Env}{τ:aC}{w':World}{m e size:Nat}{f:Bool}{xs:Q3}{c:Q6}{y:Value}(h:St P F J w F' (τ.new (.cells c e true true)) w')(t:aJ.val m=some (.l xs))(u:∀x∈xs,x.cells.length=size/\x.cells.all GV.scalar=true)(A:sizeT P e=some size)
 (B:∀vs,aG F' c vs->aG F' (bW xs) vs) (v:VR F' (.sl τ.next 0 xs.length none) y) (D:f=true->xs≠[]):St P F J w F' (τ.new (.vec m e f)) w'/\VR F' (.sv τ.next m) y:=by
 simp only[VR]at v;obtain⟨q,l,d,rfl⟩:=v;have z:(τ.new (.cells c e true true)).get τ.next=some (.cells c e true true):=by rw[aC.qK,au rfl]
 have g:=h.rel.at z l;have n:q.es=size:=by obtain⟨_,_,_,_,r⟩:=g;have:=(r.room rfl).2.2;rw[A]at this;cases this;rfl
 have i:f=true->q.es<=q.sz:=λe=>by have p:=D e;have:0<xs.length:=LY.2 p;simp only[uS,IY]at d;have E:1<=q.sz/q.es:=ah;exact kR (by simpa using uQ q.es E) (Nat.div_mul_le_self q.sz q.es)
 have j:OR P F' q w' (.vec m e f):=OR.zI i t (λx s=>by rw[n];exact(u x s).1) (λx s=>(u x s).2) g B;refine⟨h.right ?_ rfl rfl ?_,by simp only[VR];exact⟨xs,t,.inl ⟨q,l,by simpa using d,aA⟩⟩⟩
 ·refine(h.rel.swap (o':=.vec m e f) z rfl (.inl ⟨q,l,j⟩)).sub (λk o a=>?_) (dK _)
  rw[aC.qK]at a;rw[aC.get_put,aC.qK];split at a
  ·next b=>rw[au b];exact a
  ·next b=>rw[aj b,aj b];exact a
 ·intro k o a G;rw[aC.qK]at a⊢;split at a
  ·next b=>rw[au b];exact⟨_,rfl,rfl⟩
  ·next b=>rw[aj b];exact⟨o,a,G⟩
def Ew{xs:Q3}{size:Nat}(h:xs.all (GV.gu size)=true):∀x∈xs,x.cells.length=size/\x.cells.all GV.scalar=true:=by intro z a;have:=List.all_eq_true.1 h z a;unfold GV.gu at this;rw[aO]at this;exact⟨Nat.eq_of_beq_eq_true this.1,this.2⟩
def aow{xs:Q3}{size:Nat}(h:∀x∈xs,x.cells.length=size/\x.cells.all GV.scalar=true):(bW xs).all AV.pF=true:=by unfold bW;refine aaV ?_;rw[List.all_eq_true];intro g b;obtain⟨z,c,a⟩:=Zd.1 b;exact List.all_eq_true.1 (h z c).2 g a
def af2(xs a:Q3):bW (xs++a)=bW xs++bW a:=by unfold bW;rw[aeH,JD]
def Jp{xs:Q3}{size:Nat}(h:∀x∈xs,x.cells.length=size):(bW xs).length=xs.length*size:=by rw[bW,nS,QW h]
def adC(P:Program)(J:aC)(e size:Nat)(a:TypeId)(x:AV):W3:=
 match P.underlying a with
 |some .string=>if size=1 then match jy x with
   |some n=>gq (.bytes n)
   |none=>none
  else none
 |some (.slice _)=>listOf P J e x
 |_=>none
def Ym(h:SR P F J w){e size:Nat}{f:TypeId}{x:AV}{b:Nat}{u:Value}{xs:Q3}(c:adC P J e size f x=some b)(m:VR F x u)(r:sizeT P e=some size)(o:aJ.val b=some (.l xs))(i:xs.all (GV.gu size)=true):
 ∃p,Src P size f u xs.length p w/\aG F (bW xs) p:=by
 unfold adC at c;split at c
 ·next j=>
  split at c
  ·next t=>
   subst t;split at c
   ·next n k=>
    obtain⟨g,v,D,y⟩:=nK k m;obtain⟨E,q,d⟩:=iq c;rw[o]at q;cases q;simp only[Nd.den,v]at d;split at d
    ·next s z=>
     cases z;cases d;have A:Ho P f=true:=by unfold Ho;rw[j]
     have:=src_ok h A (size:=1) (n:=s.length) (l:=yw s) (a:=.s s) (x:=u) (by simp[Aq]) ((mQ (.s s) u).1 y) (by unfold yw;simp[AV.pF]);rw[afL];have B:(dH s).length=s.length:=by simp[dH]
     rw[B];exact this
    ·cases d
   ·cases c
  ·cases c
 ·next j=>exact awW h c m j r o i
 ·cases c
def awV{e size id len:Nat}{cap:W3}{a et:Nat}{c:Q6}{r opn:Bool}(s:J.get id=some (.cells c et r opn))(b:listOf P J e (.sl id 0 len cap)=some a)(t:sizeT P e=some size)(d:c.length=len*size):
 ∃h,(∀{F:Env}{vs:Qt},aG F c vs->∃gs,valsOf aJ.val h=some gs/\gs.length=len/\aG F (bW gs) vs/\∀x∈gs,x.cells.length=size/\x.cells.all GV.scalar=true)/\∀gs,valsOf aJ.val h=some gs->aJ.val a=some (.l gs):=by
 simp only[listOf,s,t]at b;split at b
 ·next G H u I i j k l v=>
  cases k;cases l;split at b
  ·next p=>
   rw[aO,oV,aO]at p;have f:j=false->size=1:=by
    intro e;subst e;rcases p.2 with h1|h1
    ·simp at h1
    ·exact bQ h1
   have m:takeN c 0 (len*size)=some c:=by unfold takeN;rw[dY,lS ah,au d]
   rw[m]at b;simp only at b;split at b
   ·next h n=>
    refine⟨h,λ{F vs} y=>?_,λgs o=>?_⟩
    ·obtain⟨gs,z,A,B,_,D⟩:=GN (F:=F) f len n y d;exact⟨gs,z,A,B,D⟩
    ·obtain⟨g,E,q⟩:=iq b;simp only[Nd.den,o,iH,bf]at q;rw[q];exact E
   ·cases b
  ·cases b
 ·cases b
set_option maxHeartbeats 1000000 in
def aEj(h:SR P F J w){ts:Ww}{ty:TypeId}{s x v:AV}{u u':Value}(p:adJ P ts s x J=some (v,J'))(O:VR F s u)(B:VR F x u'):
 ∃y w' F',(Builtin.append_ ts ty #[u,u']).run P w=.ok y w'/\St P F J w F' J' w'/\VR F' v y:=by
 unfold adJ at p;split at p
 ·next t t1 a2=>
  have:=UZ a2;subst this;split at p
  ·next e d bytes z hi=>
   obtain⟨_,_,_,he,_,U⟩:=CZ hi;split at p
   ·cases p
   ·next h0=>
    split at p
    ·cases p
    ·next b hb=>
     have am:adC P J e d t1 x=some b:=hb;have an:∀{a m:Nat}{j:Q3},gq (.app d bytes a b)=some m->aJ.val a=some (.l j)->∃i,aJ.val b=some (.l i)/\aJ.val m=some (.l (j++i))/\i.all (GV.gu d)=true/\2*(j.length+i.length)*bytes<=2^48/\j.length+i.length<=2^48:=by
      intro a m j W Z;obtain⟨g,g1,g2⟩:=iq W;simp only[Nd.den,Z]at g2;split at g2
      ·next ba i G e2=>
       cases G;split at g2
       ·next Q=>cases g2;exact⟨i,e2,g1,Q.1,Q.2.1,Q.2.2⟩
       ·cases g2
      ·cases g2
     have UU:∀{i:Q3}{S:AV}{n:Nat},i.all (GV.gu d)=true->sliceLen S=n->2*(n+i.length)*bytes<=2^48->n+i.length<=2^48->¬(d=0\/(bW i).all AV.pF=false\/¬(2*(sliceLen S+i.length)*bytes<=2^48/\sliceLen S+i.length<=2^48)):=by intro i S n h1 h2 h3 h4;rw[aow (Ew h1),h2];simp[h0];omega
     have ay:∀{a:Nat},gq (.ml [])=some a->aJ.val a=some (.l []):=by intro a Z;obtain⟨g,g1,g2⟩:=iq Z;simp only[Nd.den,valsOf,iH,bf]at g2;subst g2;exact g1
     have az:∀{a m:Nat}{τ:aC},aJ.val a=some (.l [])->gq (.app d bytes a b)=some m->u=.slice none 0 0->τ.lock=J.lock->τ.next=J.next->(∀k o,τ.get k=some o->J.get k=some o)->
      ∀f:Bool,∃y w' F',(Builtin.append_ #[t,t1] ty #[u,u']).run P w=.ok y w'/\St P F J w F' (τ.new (.vec m e f)) w'/\VR F' (.sv J.next m) y:=by
      intro a m τ Z W M hl aD ap f;obtain⟨i,y1,I,L,y4,y5⟩:=an W Z;obtain⟨zs,z1,z2⟩:=Ym h am B U y1 L;have l:=Jp (λx B=>(Ew L x B).1);simp only[aW,kF,l9]at I y4 y5;have Q:=UU (S:=.gX) (n:=0) L rfl (by simpa using y4) (by simpa using y5);by_cases X:i.length=0
      ·have R:i=[]:=jT X;subst R;have r:ru e d bytes .gX 0 (bW []) J=some (.gX,J):=by unfold ru;rw[aj (by simpa using Q)];rfl
       obtain⟨y,w',F',r1,r2,r3⟩:=Ej (ty:=ty) h hi z1 z2 l r (u:=u) (by simp only[VR];exact M);refine⟨y,w',F'.ghost J.next,r1,r2.trans ?_,?_⟩
       ·exact St.ghost r2.rel I hl aD ap
       ·simp only[VR]at r3⊢;exact⟨[],I,.inr ⟨by simp[Env.ghost],rfl,r3⟩⟩
      ·have r:ru e d bytes .gX i.length (bW i) J=some (.sl J.next 0 i.length none,J.new (.cells (bW i) e true true)):=by unfold ru;rw[aj Q];simp only;rw[aj X]
       obtain⟨y,w',F',r1,r2,r3⟩:=Ej (ty:=ty) h hi z1 z2 l r (u:=u) (by simp only[VR];exact M);obtain⟨q1,q2⟩:=St.zI (f:=f) r2 I (Ew L) U (λ_ h=>h) r3 (λ_ e=>X (by rw[e];rfl));refine⟨y,w',F',r1,q1.sub (λk o A=>?_) (by show J.next+1<=τ.next+1;omega) hl,q2⟩;rw[aC.qK]at A⊢;rw[aD]at A;split at A
       ·next G=>rw[au G];exact A
       ·next G=>rw[aj G];exact ap k o A
     split at p
     ·split at p
      ·next a Z=>
       obtain⟨m,W,G⟩:=bG.1 p;cases G;simp only[VR]at O;exact az (τ:=J) (ay Z) W O rfl rfl (λ_ _ h=>h) true
      ·cases p
     ·next id n=>
      split at p
      ·next a D f T=>
       split at p
       ·next E=>
        rw[aO,aO]at E;obtain⟨⟨aa,aE⟩,ab⟩:=E;have JJ:=bQ aa;subst JJ;have Bq:=um ab;obtain⟨m,W,G⟩:=bG.1 p;cases G;simp only[VR]at O;obtain⟨xn,n1,O⟩:=O;rcases h.live id _ T with⟨q,Y,a3⟩|⟨ar,m0,bb,f0,e0,aL⟩
        ·obtain⟨j,x1,x2,x3,x4,x5,x6,x7,hS⟩:=O8 h T Y;have ac:=Ak 100 aE x1 n1;rw[U]at x5;cases x5;rcases O with⟨q',ad,av,rfl⟩|⟨ar,_,_⟩
         ·rw[Y]at ad;cases ad;obtain⟨i,y1,I,L,y4,y5⟩:=an W x1;have aw:=Jp x2;have ae:∀x∈j++i,x.cells.length=q.es/\x.cells.all GV.scalar=true:=by
           intro x B;rcases iP.1 B with B|B
           ·exact⟨x2 x B,x7 x B⟩
           ·exact Ew L x B
          obtain⟨zs,z1,z2⟩:=Ym h am B U y1 L;have l:=Jp (λx B=>(Ew L x B).1);have Q:=UU (S:=.sl id 0 j.length none) (n:=j.length) L rfl y4 y5;rw[<-ac]at av⊢;have aM:VR F (.sl id 0 j.length none) (.slice (some ⟨q.bl,q.ba,none⟩) j.length (q.sz/q.es)):=by simp only[VR];exact⟨q,Y,by simpa using av,aA⟩
          by_cases X:i.length=0
          ·have R:i=[]:=jT X;subst R;rw[lQ]at I;have r:ru D q.es bytes (.sl id 0 j.length none) 0 (bW []) (lW J id j D)=some (.sl id 0 j.length none,lW J id j D):=by unfold ru;rw[aj (by simpa using Q)];rfl
           obtain⟨y,w',F',r1,r2,r3⟩:=Ej (ty:=ty) hS hi z1 z2 l r aM;have a4:=TD T r2;have aR:(lW J id j D).get id=some (.cells (bW j) D true true):=FT;have H:=r2.ext.pl _ _ Y;have af:=r2.rel.at aR H;have ag:OR P (F'.put J.next q) q w' (.vec m D f):=by have ai:=Env.Ib r2.rel q;refine OR.zI (λe=>by subst e;exact a3.YO) I x2 x7 (af.mono ai) (λ_ h=>h)
           have Q7:=St.again (q':=q) r2.rel aR rfl (show(lW J id j D).lock<=id from Bq) H rfl rfl (λ_ _=>rfl) rfl rfl rfl ag;refine⟨y,w',F'.put J.next q,r1,(a4.trans Q7).sub (λk o A=>?_) (dK _) rfl,?_⟩
           ·rw[aC.qK,aC.Ad]at A⊢;split at A
            ·next G=>rw[au (show k=((lW J id j D).kill id).next from G)];exact A
            ·next G=>
             rw[aj (show ¬k=((lW J id j D).kill id).next from G)];split at A
             ·cases A
             ·next e2=>rw[aj e2];unfold lW;rw[aC.get_put,aj e2];exact A
           ·simp only[VR]at r3⊢;obtain⟨q3,N,ak,rfl⟩:=r3;rw[H]at N;cases N;exact⟨j,I,.inl ⟨q,by simp[Env.put],by simpa using ak,aA⟩⟩
          ·have ao:takeN (bW j) 0 (j.length*q.es)=some (bW j):=by unfold takeN;rw[dY,lS ah,au aw]
           have r:ru D q.es bytes (.sl id 0 j.length none) i.length (bW i) (lW J id j D)=some (.sl J.next 0 (j.length+i.length) none,((lW J id j D).kill id).new (.cells (bW j++bW i) D true true)):=by unfold ru;rw[aj Q];simp only;rw[aj X,au (show(lW J id j D).lock<=id from Bq),FT];simp only[if_true,ao,iH];rfl
           obtain⟨y,w',F',r1,r2,r3⟩:=Ej (ty:=ty) hS hi z1 z2 l r aM;obtain⟨q1,q2⟩:=St.zI (size:=q.es) (TD T r2) I ae U (λvs al=>by rw[af2];exact al) (by rw[dM];exact r3) (f:=f) (λ_ e=>X (by have:=uD List.length e;simp at this;rw[this.2];rfl));refine⟨y,w',F',r1,q1.sub (λk o A=>?_) (dK _) rfl,q2⟩;rw[aC.qK,aC.Ad]at A⊢;split at A
           ·next G=>rw[au (show k=((lW J id j D).kill id).next from G)];exact A
           ·next G=>
            rw[aj (show ¬k=((lW J id j D).kill id).next from G)];split at A
            ·cases A
            ·next e2=>rw[aj e2];unfold lW;rw[aC.get_put,aj e2];exact A
         ·rw[(h.kH id ar).1]at Y;cases Y
        ·cases e0;have ac:=Ak 100 aE aL n1;rcases O with⟨q',ad,_⟩|⟨_,_,O⟩
         ·rw[(h.kH id ar).1]at ad;cases ad
         ·exact az (τ:=J.kill id) aL W O rfl rfl (λk o A=>by rw[aC.Ad]at A;split at A;cases A;exact A) f
       ·cases p
      ·cases p
     ·next id=>
      split at p
      ·next D T=>
       split at p
       ·next E=>
        rw[aO]at E;obtain⟨aa,ab⟩:=E;have JJ:=bQ aa;subst JJ;have Bq:=um ab;split at p
        ·next a Z=>
         obtain⟨m,W,G⟩:=bG.1 p;cases G;obtain⟨i,y1,I,L,y4,y5⟩:=an W (ay Z);simp only[aW,kF,l9]at I y4 y5;obtain⟨zs,z1,z2⟩:=Ym h am B U y1 L;have l:=Jp (λx B=>(Ew L x B).1);have Q:=UU (S:=.sl id 0 0 (some 0)) (n:=0) L rfl (by simpa using y4) (by simpa using y5);have M:=O;simp only[VR]at M;obtain⟨q,Y,_,rfl⟩:=M;obtain⟨cs,a0,fr,a5,rr⟩:=h.at T Y;have bc:=rr.shut rfl;obtain⟨w1,w2,w3⟩:=rr.whole he;have bd:=w3 rfl;by_cases X:i.length=0
         ·have R:i=[]:=jT X;subst R;have r:ru D d bytes (.sl id 0 0 (some 0)) 0 (bW []) J=some (.sl id 0 0 (some 0),J):=by unfold ru;rw[aj (by simpa using Q)];rfl
          obtain⟨y,w',F',r1,r2,r3⟩:=Ej (ty:=ty) h hi z1 z2 l r O;have H:=r2.ext.pl _ _ Y;obtain⟨a6,Jv,JA,a7,ax⟩:=r2.rel.at T H;obtain⟨v1,v2,v3⟩:=ax.whole he;have a1:=ax.shut rfl;simp only[kF]at a1;have ag:OR P (F'.put J.next ⟨q.bl,q.ba,0,d⟩) ⟨q.bl,q.ba,0,d⟩ w' (.vec m D false):=by refine⟨[],a6,Jv,JA,[],I,a7,by simp[aT],aA,by simp[Gx,dR],aA,{fits:=by have:=ax.fits;simp;omega,le:=aA,shut:=aA,cell:=aA,free:=aA,whole:=λ_=>⟨v1,by simp;omega,aA⟩,room:=λ_=>⟨he,by simp;omega,U⟩},aA,aA⟩
          have Q7:=St.again (q':=⟨q.bl,q.ba,0,d⟩) r2.rel T rfl Bq H rfl rfl (λ_ _=>rfl) rfl rfl rfl ag;refine⟨y,w',_,r1,r2.trans Q7,?_⟩;simp only[VR]at r3⊢;obtain⟨q3,N,_,rfl⟩:=r3;rw[H]at N;cases N;exact⟨[],I,.inl ⟨⟨q.bl,q.ba,0,d⟩,by simp[Env.put],aA,aA⟩⟩
         ·have r:ru D d bytes (.sl id 0 0 (some 0)) i.length (bW i) J=some (.sl J.next 0 (0+i.length) none,J.new (.cells ([]++bW i) D true true)):=by unfold ru;rw[aj Q];simp only;rw[aj ah,T];simp[takeN]
          obtain⟨y,w',F',r1,r2,r3⟩:=Ej (ty:=ty) h hi z1 z2 l r O;rw[aW]at r2;rw[l9]at r3;obtain⟨q1,q2⟩:=St.zI (f:=false) r2 I (Ew L) U (λ_ h=>h) r3 aA;refine⟨y,w',F',r1,q1.sub (λk o A=>?_) (dK _) rfl,q2⟩;rw[aC.qK,aC.Ad]at A;rw[aC.qK];split at A
          ·next G=>rw[au (show k=J.next from G)];exact A
          ·next G=>
           rw[aj (show ¬k=J.next from G)];split at A
           ·cases A
           ·exact A
        ·cases p
       ·cases p
      ·cases p
     ·next id len=>
      split at p
      ·next c D T=>
       split at p
       ·next E=>
        rw[aO,aO]at E;obtain⟨⟨aa,ab⟩,aw⟩:=E;have JJ:=bQ aa;subst JJ;have Bq:=um ab;have aq:=bQ aw;split at p
        ·next a Z=>
         obtain⟨m,W,G⟩:=bG.1 p;cases G;obtain⟨ns,l1,l2⟩:=awV T Z U aq;have M:=O;simp only[VR]at M;obtain⟨q,Y,av,rfl⟩:=M;obtain⟨ws,a0,fr,a5,rr⟩:=h.at T Y;have a8:q.es=d:=by have:=(rr.room rfl).2.2;rw[U]at this;cases this;rfl
         have ao:takeN c 0 (len*d)=some c:=by unfold takeN;rw[dY,lS ah,au aq]
         obtain⟨j,k1,k2,k3,k4⟩:=l1 (rr.Ar ao);have a9:=l2 j k1;have conv:∀{F':Env}(vs:Qt),aG F' c vs->aG F' (bW j) vs:=by intro F' vs hv;obtain⟨gs,j1,_,j3,_⟩:=l1 hv;rw[k1]at j1;cases j1;exact j3
         obtain⟨i,y1,I,L,y4,y5⟩:=an W a9;have ae:∀x∈j++i,x.cells.length=d/\x.cells.all GV.scalar=true:=by
          intro x B;rcases iP.1 B with B|B
          ·exact k4 x B
          ·exact Ew L x B
         obtain⟨zs,z1,z2⟩:=Ym h am B U y1 L;have l:=Jp (λx B=>(Ew L x B).1);have Q:=UU (S:=.sl id 0 len none) (n:=j.length) L k2.symm y4 y5;by_cases X:i.length=0
         ·have R:i=[]:=jT X;subst R;rw[lQ]at I;have r:ru D d bytes (.sl id 0 len none) 0 (bW []) J=some (.sl id 0 len none,J):=by unfold ru;rw[aj (by simpa using Q)];rfl
          obtain⟨y,w',F',r1,r2,r3⟩:=Ej (ty:=ty) h hi z1 z2 l r O;have H:=r2.ext.pl _ _ Y;have af:=r2.rel.at T H;have ag:OR P (F'.put J.next q) q w' (.vec m D false):=by have ai:=Env.Ib r2.rel q;refine OR.zI aA I (λx B=>by rw[a8];exact(k4 x B).1) (λx B=>(k4 x B).2) (af.mono ai) (λvs al=>conv vs al)
          have Q7:=St.again (q':=q) r2.rel T rfl Bq H rfl rfl (λ_ _=>rfl) rfl rfl rfl ag;refine⟨y,w',F'.put J.next q,r1,r2.trans Q7,?_⟩;simp only[VR]at r3⊢;obtain⟨q3,N,ak,rfl⟩:=r3;rw[H]at N;cases N;exact⟨j,I,.inl ⟨q,by simp[Env.put],by rw[k2];simpa using ak,by simp[k2]⟩⟩
         ·have r:ru D d bytes (.sl id 0 len none) i.length (bW i) J=some (.sl J.next 0 (len+i.length) none,(J.kill id).new (.cells (c++bW i) D true true)):=by unfold ru;rw[aj Q];simp only;rw[aj X,au Bq,T];simp only[if_true,ao,iH]
          obtain⟨y,w',F',r1,r2,r3⟩:=Ej (ty:=ty) h hi z1 z2 l r O;obtain⟨q1,q2⟩:=St.zI (size:=d) r2 I ae U (λvs al=>by obtain⟨us,ts,rfl,v1,v2⟩:=aG.split al;rw[af2];exact aG.append (conv us v1) v2) (by rw[dM,k2];exact r3) (f:=false) aA
          exact⟨y,w',F',r1,q1,q2⟩
        ·cases p
       ·cases p
      ·cases p
     ·cases p
  ·cases p
 ·cases p
def ak9{x:GV}{z:Q6}(b:∀a,aG F z a->aG F (eP x.cells) a):∀(n:Nat)(vs:Qt),aG F (jS n z) vs->aG F (bW (List.replicate n x)) vs
 |0,vs,h=>by simpa[jS,bW,eP]using h
 |n+1,vs,h=>by
  have e:jS (n+1) z=z++jS n z:=by simp[jS,PE]
  rw[e]at h;obtain⟨a,c,rfl,d,f⟩:=aG.split h;have g:bW (List.replicate (n+1) x)=eP x.cells++bW (List.replicate n x):=by unfold bW;rw[PE,kP,JD]
  rw[g];exact(b a d).append (ak9 b n c f)
def aAL(z:Q6)(n m:Nat)(h:n<=m):(jS m z).take (n*z.length)=jS n z:=by
 induction n generalizing m with
 |zero=>simp[jS]
 |succ n a=>
  cases m with
  |zero=>omega
  |succ m=>
   have e:∀k,jS (k+1) z=z++jS k z:=λk=>by simp[jS,PE]
   rw[e,e,<-a m ah,List.take_append,lS (by rw[uj];omega)];congr 2;rw[uj];omega
def aEt(h:SR P F J w){t:TypeId}{l c v:AV}{x y:Value}(q:Yy P t l c J=some (v,J'))(X:VR F l x)(hy:VR F c y):
 ∃z w' F',(Instr.makeSlice t x y).run P w=.ok z w'/\St P F J w F' J' w'/\VR F' v z:=by
 unfold Yy at q;split at q
 ·next e0 Y=>
  split at q
  ·next e b bytes z L hi ai=>
   obtain⟨M,_,_,he,i,hn⟩:=CZ hi;rw[Y]at M;cases M;split at q
   ·cases q
   ·next Z=>
    split at q
    ·next zn ln cn d aa ab=>
     obtain⟨m,hm,H⟩:=bG.1 q;cases H;obtain⟨gl,l1,l2,l3⟩:=nK aa X;obtain⟨gc,c1,c2,c3⟩:=nK ab hy;obtain⟨g,g1,I⟩:=iq hm;simp only[Nd.den,l1,c1]at I;split at I
     ·next xz kn n ac W H e2 e3=>
      cases e2;cases e3;split at I
      ·next hc=>
       cases I;obtain⟨b1,b2,b3,b4,r⟩:=hc;simp only[GR]at l3 c3;subst l3;subst c3;obtain⟨A,N,B,D⟩:=aw8 (P:=P) (w:=w) (F:=F) (kd:=kn) (kd':=ac) hi Z b1 b2 b3 b4;have ad:∀k,aG F z k->aG F (eP xz.cells) k:=by
        intro k j;cases L with
        |true=>simp only[if_true]at d;obtain⟨l',gs,e4,_,O,_,Q⟩:=MO d (by simp only[VR];exact⟨k,rfl,j⟩:VR F (.agg z) (.agg ⟨k⟩));rw[H]at O;cases O;simp only[GR]at Q;obtain⟨ae,e7,e8⟩:=Q;cases e7;exact(qC _ _).1 e8
        |false=>
         simp only[iJ,if_false]at d;cases o:z with
         |nil=>rw[o]at d;simp at d
         |cons a zr=>
          rw[o]at d j i;simp only[Y8,AU]at d;simp only[aG]at j;obtain⟨u,ur,rfl,E,p⟩:=j;obtain⟨gz,R,S,k3⟩:=nK d E;rw[H]at R;cases R;rw[GV.KX S];have:b=1:=by unfold GV.gu at r;rw[aO,GV.KX S]at r;exact(bQ r.1).symm
          rw[this]at i;have qM:zr=[]:=by apply jT;simpa using i
          subst qM;simp only[aG]at p;subst p;simp only[eP];exact aG.cons ((mQ _ _).1 k3) (by simp[aG])
       have T:∀x∈List.replicate n.toNat xz,x.cells.length=b/\x.cells.all GV.scalar=true:=by intro x X;rw[(aeO.1 X).2];unfold GV.gu at r;rw[aO]at r;exact⟨Nat.eq_of_beq_eq_true r.1,r.2⟩
       have G:n.toNat<=W.toNat:=ah;have U:aG F (jS n.toNat z) (A.toList.take (jS n.toNat z).length):=by rw[XT,i];have:=D.take (n.toNat*b);rw[<-i,aAL z _ _ G,i]at this;exact this
       have af:=Es h (c:=jS n.toNat z) (xs:=A) (elem:=_) (es:=b) (opn:=true) U (by rw[XT,i,B];exact uQ _ G) aA (λ_=>⟨he,Nat.pos_of_ne_zero Z,hn⟩);have s:(W.toNat*b)/b=W.toNat:=Uk _ (Nat.pos_of_ne_zero Z);obtain⟨q1,q2⟩:=St.zI (f:=false) (size:=b) (y:=.slice (some ⟨w.heap.size,0,none⟩) n.toNat W.toNat) af g1 T hn (λvs D=>by
        have ag:∀k,aG (F.put J.next ⟨w.heap.size,0,A.size,b⟩) z k->aG (F.put J.next ⟨w.heap.size,0,A.size,b⟩) (eP xz.cells) k:=by
         intro k j;cases L with
         |true=>simp only[if_true]at d;obtain⟨l',gs,e4,_,O,_,Q⟩:=MO d (by simp only[VR];exact⟨k,rfl,j⟩:VR (F.put J.next ⟨w.heap.size,0,A.size,b⟩) (.agg z) (.agg ⟨k⟩));rw[H]at O;cases O;simp only[GR]at Q;obtain⟨ae,e7,e8⟩:=Q;cases e7;exact(qC _ _).1 e8
         |false=>
          simp only[iJ,if_false]at d;cases o:z with
          |nil=>rw[o]at d;simp at d
          |cons a zr=>
           rw[o]at d j i;simp only[Y8,AU]at d;simp only[aG]at j;obtain⟨u,ur,rfl,E,p⟩:=j;obtain⟨gz,R,S,k3⟩:=nK d E;rw[H]at R;cases R;rw[GV.KX S];have:b=1:=by unfold GV.gu at r;rw[aO,GV.KX S]at r;exact(bQ r.1).symm
           rw[this]at i;have qM:zr=[]:=by apply jT;simpa using i
           subst qM;simp only[aG]at p;subst p;simp only[eP];exact aG.cons ((mQ _ _).1 k3) (by simp[aG])
        exact ak9 ag _ _ D) (by simp only[VR];exact⟨⟨w.heap.size,0,A.size,b⟩,by simp[Env.put],by simp[B,s,G],by simp[B,s]⟩) aA
       exact⟨_,_,_,N,q1,q2⟩
      ·cases I
     ·cases I
    ·cases q
  ·cases q
 ·cases q
def Qo:∀{xs:Q3}{b:Q2},oJ xs=some b->bytesOf (eP xs)=some b
 |[],b,h=>by simpa[oJ,eP,bytesOf]using h
 |x::xs,b,h=>by
  unfold oJ at h;split at h
  ·rename_i a;cases a
  ·next n rest a=>
   cases a;simp only[eP,lT,bytesOf];split at h
   ·next d=>
    rw[au d];obtain⟨e,c,rfl⟩:=bG.1 h;rw[Qo c];rfl
   ·cases h
  ·cases h
def U4:∀{xs:Q3}{b:Q2},oJ xs=some b->xs.flatMap GV.cells=xs
 |[],b,h=>rfl
 |x::xs,b,h=>by
  unfold oJ at h;split at h
  ·rename_i a;cases a
  ·next n rest a=>
   cases a;split at h
   ·obtain⟨d,c,_⟩:=bG.1 h;rw[kP,U4 c];rfl
   ·cases h
  ·cases h
def aEm(h:SR P F J w){src dst:TypeId}{a v:AV}{x:Value}(p:Yr P src dst a J=some (v,J'))(r:VR F a x):
 ∃y w' F',(convert src dst x).run P w=.ok y w'/\St P F J w F' J' w'/\VR F' v y:=by
 unfold Yr at p;split at p
 ·next d k n h1 B=>
  obtain⟨v',D,E⟩:=bG.1 p;cases E;simp only[VR]at r;obtain⟨g,I,a2,L⟩:=r;obtain⟨_,g',_,j,b3⟩:=oz (F:=F) D;simp only[Nd.den,I]at j;split at j
  ·next kk z E=>
   cases E;cases j;simp only[GR]at L;subst L;obtain⟨y,w',F',r1,r2,r3⟩:=QC h (src:=src) (dst:=dst) (a:=.i kk z) (v:=.i k (k.wrap z)) (J':=J) (by simp only[zQ,h1,B]) (by simp only[VR]:VR F (.i kk z) (.int kk z));exact⟨y,w',F',r1,r2,by obtain⟨_,M,_,G,U⟩:=oz (F:=F') D;simp only[Nd.den,I,bf]at G;subst G;exact U y rfl ((mQ _ _).2 r3)⟩
  ·cases j
 ·next n h1 B=>
  obtain⟨v',D,E⟩:=bG.1 p;cases E;simp only[VR]at r;obtain⟨g,I,a2,L⟩:=r;obtain⟨_,g',_,j,b3⟩:=oz (F:=F) D;simp only[Nd.den,I]at j;split at j
  ·next z E=>
   cases E;cases j;simp only[GR]at L;subst L;obtain⟨y,w',F',r1,r2,r3⟩:=QC h (src:=src) (dst:=dst) (a:=.s z) (v:=.s z) (J':=J) (by simp only[zQ,h1,B]) (by simp only[VR]:VR F (.s z) (.string ⟨⟨z⟩⟩));exact⟨y,w',F',r1,r2,by obtain⟨_,M,_,G,U⟩:=oz (F:=F') D;simp only[Nd.den,I,bf]at G;subst G;exact U y rfl ((mQ _ _).2 r3)⟩
  ·cases j
 ·next e n h1 B=>
  split at p
  ·next W=>
   split at p
   ·next Q=>
    split at p
    ·next m D=>
     cases p;simp only[VR]at r;obtain⟨g,I,a2,L⟩:=r;obtain⟨g',b1,j⟩:=iq D;simp only[Nd.den,I]at j;split at j
     ·next z E=>
      cases E;cases j;simp only[GR]at L;subst L;obtain⟨y,w',F',r1,r2,r3⟩:=QC h (src:=src) (dst:=dst) (a:=.s z) (v:=.sl J.next 0 z.length none) (J':=J.new (.cells (yw z) e true true)) (by simp only[zQ,h1,B,W,au Q]) (by simp only[VR]:VR F (.s z) (.string ⟨⟨z⟩⟩));obtain⟨q1,q2⟩:=St.zI (f:=false) (size:=1) r2 b1 (by intro x r;obtain⟨c,_,rfl⟩:=su.1 r;exact⟨rfl,rfl⟩) Q.2 (λvs ag=>by rw[afL];exact ag) (by simpa[dH]using r3) aA
      exact⟨y,w',F',r1,q1,q2⟩
     ·cases j
    ·cases p
   ·cases p
  ·cases p
 ·next e h1 B=>
  split at p
  ·next W=>
   split at p
   ·next m o=>
    obtain⟨v',D,E⟩:=bG.1 p;cases E;obtain⟨_,g',_,j,b3⟩:=oz (F:=F) D;simp only[Nd.den]at j;split at j
    ·next t R=>
     split at j
     ·next aa=>
      obtain⟨b,u,rfl⟩:=bG.1 j;have fin:∀{τ:aC}{A:AV},SR P F τ w->VR F A x->zQ P src dst A τ=some (.s b,τ)->(∀{F':Env}{w':World},St P F τ w F' τ w'->St P F J w F' J w')->∃y w' F',(convert src dst x).run P w=.ok y w'/\St P F J w F' J w'/\VR F' v y:=by intro τ A hS hA ai X;obtain⟨y,w',F',r1,r2,r3⟩:=QC hS ai hA;refine⟨y,w',F',r1,X r2,?_⟩;obtain⟨_,M,_,G,U⟩:=oz (F:=F') D;simp only[Nd.den,R,au aa,u,iH,bf]at G;subst G;exact U y rfl ((mQ _ _).2 r3)
      have S:oJ t=some b->t=[]->b=[]:=by rintro h1 rfl;simpa[oJ]using h1.symm
      unfold listOf at o;split at o
      ·next n=>
       cases o;simp only[VR]at r;obtain⟨g,I,a2,L⟩:=r;rw[R]at I;cases I;exact fin h ((mQ (.l t) x).1 L) (by simp only[lT,zQ,h1,B,W,Qo u,iH]) (λh=>h)
      ·obtain⟨g,g1,M⟩:=iq o;rw[R]at g1;cases g1;simp only[Nd.den,valsOf,iH,bf,GV.l.injEq]at M;have:=S u M.symm;subst this;exact fin h r (by simp only[zQ,h1,B,W]) (λh=>h)
      ·next id n=>
       split at o
       ·next m' et _ Z=>
        split at o
        ·next Q=>
         cases o;rw[aO]at Q;simp only[VR]at r;obtain⟨ys,k1,r⟩:=r;have T:=Ak 100 Q.2 R k1;rcases r with⟨q,hq,ab,rfl⟩|⟨_,rfl,rfl⟩
         ·obtain⟨aq,j1,j2,j3,j4,j5,j6,j7,hS⟩:=O8 h Z hq;rw[R]at j1;cases j1;have Y:bW t=eP t:=by unfold bW;rw[U4 u]
          have ac:takeN (bW t) 0 t.length=some (eP t):=by rw[Y];unfold takeN;rw[dY,lS (by rw[nS];omega),au (nS t)]
          rw[T]at ac;refine fin (A:=.sl id 0 ys.length none) hS (by simp only[VR];exact⟨q,hq,by simpa using ab,aA⟩) ?_ (λX=>aE8 (λe=>by subst e;exact(h.at Z hq).YO) Z hq R j2 j7 (TD Z X));simp only[zQ,h1,B,W,FT,ac,Qo u,iH]
         ·have N:t=[]:=jT (by simpa using T);have:=S u N;subst this;exact fin h (A:=.gX) (by simp only[VR]) (by simp only[zQ,h1,B,W]) (λh=>h)
        ·cases o
       ·cases o
      ·next id ar len av=>
       split at o
       ·next c et wP aw H ak Z ax ay=>
        split at o
        ·next Q=>
         rw[aO,oV,aO]at Q;split at o
         ·next cs O=>
          split at o
          ·next ns al=>
           have ad:ak=false->H=1:=by
            intro e;subst e;rcases Q.2 with h1|h1
            ·simp at h1
            ·exact bQ h1
           obtain⟨g,g1,M⟩:=iq o;rw[R]at g1;cases g1;simp only[VR]at r;obtain⟨q,hq,ab,rfl⟩:=r;obtain⟨q',ae,ws,ap,fr,af,rr⟩:=h.obj _ _ Z rfl;rw[hq]at ae;cases ae;have am:=(uJ O).2.1;obtain⟨gs,k1,k2,k3,_,k5⟩:=GN (F:=F) ad len al (rr.Ar O) am;simp only[Nd.den,k1,iH,bf,GV.l.injEq]at M;rw[M]at k2 k3 k5;have an:len*H=len:=by
            cases len with
            |zero=>simp
            |succ n=>
             have ao:t[0]? =some (t[0]'(by omega)):=bV ah;have h5:=(k5 _ (sD ao)).1;have h6:(t[0]'(by omega)).cells.length=1:=by
              cases t with
              |nil=>simp at k2
              |cons y ys=>
               cases y with
               |i k n=>rfl
               |b=>simp[oJ]at u
               |s=>simp[oJ]at u
               |l=>simp[oJ]at u
               |g=>simp[oJ]at u
             rw[h6]at h5;rw[<-h5];simp
           have Y:bW t=eP t:=by unfold bW;rw[U4 u]
           rw[Y]at k3;have N:=Qp (Qo u) k3;rw[an]at O N;refine⟨.string ⟨⟨b⟩⟩,w,F,?_,St.refl h,?_⟩
           ·simp only[convert,aY,bD h1,bD B,aX,bD W,Conv.bytesToString];rw[Fe af (rr.take O),N];simp only[aX];rw[adq _ (λ_ _ _=>rfl)];rfl
           ·obtain⟨_,M,_,G,U⟩:=oz (F:=F) D;simp only[Nd.den,R,au aa,u,iH,bf]at G;subst G;exact U _ rfl (by simp only[GR])
          ·cases o
         ·cases o
        ·cases o
       ·cases o
      ·cases o
     ·cases j
    ·cases j
   ·cases p
  ·cases p
 ·cases p
def Ic(ro:QP)(w:World)(b:Nat):Nat->Option Obj:=λk=>if k=b then w.heap[b]? else ro k
def XY{ro:QP}{w:World}(h:∀b o,ro b=some o->w.heap[b]? =some o)(b:Nat):∀k o,ro k=some o->Ic ro w b k=some o:=by
 intro k o a;unfold Ic;split
 ·next e=>subst e;exact h _ _ a
 ·exact a
def St.freeze(h:SR P F J w){id:Nat}{o:bM}{q:Place}(n:J.get id=some o)(x:o.own=true)(y:J.lock<=id)(r:F id=some q):St P F J w ⟨F.pl,Ic F.ro w q.bl,F.gh⟩ (J.kill id) w:=by
 have c:(F:Env).le ⟨F.pl,Ic F.ro w q.bl,F.gh⟩:=⟨λ_ _ h=>h,XY h.jl q.bl,λ_ h=>h⟩
 have sub:∀k u,(J.kill id).get k=some u->k≠id/\J.get k=some u:=by
  intro k u d;rw[aC.Ad]at d;split at d
  ·cases d
  ·next e=>exact⟨e,d⟩
 refine⟨c,⟨h.nR,h.dom,λk u d=>?_,h.kH,λk u s t p z i f g j A B=>?_,λb u l=>?_,λk u p i f g=>?_,λp D=>(h.tabs p D).mono c⟩,dK _,λ_ _ _=>rfl,λk u p i f g j=>?_,rfl,rfl,rfl,rfl,dK _,λ_ h=>.inl h,λb l=>?_⟩
 ·exact(h.live k u (sub k u d).2).mono c
 ·exact h.sep k u s t p z (sub k u i).2 f (sub s t g).2 j A B
 ·have a:(if b=q.bl then w.heap[q.bl]? else F.ro b)=some u:=l;split at a
  ·next e=>rw[e];exact a
  ·exact h.jl b u a
 ·obtain⟨E,v⟩:=sub k u i;show(if p.bl=q.bl then w.heap[q.bl]? else F.ro p.bl)=none
  have m:=h.sep k u id o p q v f n E g r;rw[aj m];exact h.lU k u p v f g
 ·exact .inr ⟨k,u,p,(sub k u i).2,f,g,j,rfl⟩
 ·have a:(if b=q.bl then w.heap[q.bl]? else F.ro b)≠none:=l;split at a
  ·next e=>exact .inr (.inr ⟨id,o,q,n,x,y,r,e.symm⟩)
  ·exact .inl a
def GR.abZ{F:Env}{w:World}{q:Place}{c:Q6}{et:TypeId}{u opn:Bool}{ro':QP}(h:OR P F q w (.cells c et u opn))(g:∀b o,F.ro b=some o->ro' b=some o)(v:ro' q.bl=w.heap[q.bl]?){off n size cap:Nat}{cs:Q6}{gs:Q3}(i:takeN c off (n*size)=some cs)(l:gs.length=n)(d:n<=cap)(h0:0<size)
 (m:∀x∈gs,x.cells.length=size/\x.cells.all GV.scalar=true) (z:∀(F':Env) vs,(∀b o,F.ro b=some o->F'.ro b=some o)->aG F cs vs->aG F' (bW gs) vs):GR ro' (.l gs) (.slice (some ⟨q.bl,q.ba+off,none⟩) n cap):=by
 obtain⟨A,e,B,D,r⟩:=h;have E:=r.Ar i;have p:=r.take i;obtain⟨O,Q,R⟩:=uJ i;have G:=z ⟨F.pl,ro',F.gh⟩ _ g E;obtain⟨H,s,t,I⟩:=ungroup gs _ G (λx L=>(m x L).2);simp only[GR];right;refine⟨q.bl,q.ba+off,cap,H,size,by rw[l],by rw[l];exact d,s,λy M=>?_,λj=>⟨A,e,B,by rw[v,D],?_,?_⟩⟩
 ·obtain⟨k,a⟩:=LX M;have f:k<gs.length:=by rw[s.length];exact(fV.1 a).1
  rw[I k _ y (bV f) a];exact(m _ (gY f)).1
 ·rw[t];have N:0<gs.length:=LY.2 j;have S:0<n*size:=PO ah h0;rw[lZ,fP,IC];omega
 ·rw[t];intro k x a;rw[mW]at a;split at a
  ·rw[uh,xR]at a;exact a
  ·cases a
def VR.ahE(h:SR P F J w){id n m et:Nat}{f:Bool}{x:Value}{ro':QP}(s:J.get id=some (.vec m et f))(v:xM 100 m n=true)(d:VR F (.sv id n) x)(e:∀b o,F.ro b=some o->ro' b=some o)(y:∀q,F id=some q->ro' q.bl=w.heap[q.bl]?):
 ∃i,aJ.val m=some (.l i)/\GR ro' (.l i) x:=by
 simp only[VR]at d;obtain⟨i,z,d⟩:=d;rcases d with⟨q,a,j,rfl⟩|⟨k,rfl,rfl⟩
 ·obtain⟨l,t,u,H,A,I,L,B,D⟩:=(h.at s a).Oi;have c:=Ak 100 v t z;refine⟨l,t,?_⟩;have p:=Jp u;have:=GR.abZ (ro':=ro') (off:=0) (n:=i.length) (size:=q.es) (cap:=q.sz/q.es) (cs:=bW l) (gs:=l) D e (y q a) (by unfold takeN;rw[dY,<-c,lS ah,au p]) c j A (λx d=>⟨u x d,B x d⟩) (λM N e g=>by unfold bW at g⊢;exact(qC _ _).1 (aT.mono e _ _ ((qC _ _).2 g)))
  simpa using this
 ·rcases h.live id _ s with⟨q,a,_⟩|⟨_,O,E,Q,G,r⟩
  ·rw[(h.kH id k).1]at a;cases a
  ·cases G;exact⟨[],r,by simp[GR]⟩
def aeW{F':Env}(a:F.le F'){o:Qf}{v:WF}(h:mX F o v):mX F' o v:=by cases o<;>cases v<;>first|exact h|exact VR.mono a _ _ h
def St.azV(h:SR P F J w){id m et k:Nat}{f:Bool}(y:J.get id=some (.vec m et f))(d:F.gh id=true)(v:aJ.val k=some (.l [])):St P F J w F (J.put id (.vec k et f)) w:=by
 have get:∀i u,(J.put id (.vec k et f)).get i=some u->(i=id/\u=.vec k et f)\/(i≠id/\J.get i=some u):=by
  intro i u hi;rw[aC.get_put]at hi;split at hi
  ·next e=>cases hi;exact .inl ⟨e,rfl⟩
  ·next e=>exact .inr ⟨e,hi⟩
 have a:∀q,F id≠some q:=λq n=>by rw[(h.kH id d).1]at n;cases n
 refine⟨Env.le.refl _,⟨h.nR,h.dom,λi u hi=>?_,h.kH,λi u o p q r g j c l s t=>?_,h.jl,λi u q g j c=>?_,h.tabs⟩,dK _,λ_ _ _=>rfl,λi u q g j c l=>?_,rfl,rfl,rfl,rfl,dK _,λ_ h=>.inl h,λ_ h=>.inl h⟩
 ·rcases get i u hi with⟨rfl,rfl⟩|⟨_,b⟩
  ·exact .inr ⟨d,k,et,f,rfl,v⟩
  ·exact h.live i u b
 ·rcases get i u g with⟨rfl,_⟩|⟨_,b⟩
  ·exact absurd s (a q)
  ·rcases get o p c with⟨rfl,_⟩|⟨_,x⟩
   ·exact absurd t (a r)
   ·exact h.sep i u o p q r b j x l s t
 ·rcases get i u g with⟨rfl,_⟩|⟨_,b⟩
  ·exact absurd c (a q)
  ·exact h.lU i u q b j c
 ·rcases get i u g with⟨rfl,_⟩|⟨_,b⟩
  ·exact absurd l (a q)
  ·exact .inr ⟨i,u,q,b,j,c,l,rfl⟩
def aEu(h:SR P F J w){t:TypeId}{a v:AV}{x:Value}{lo hi:Qf}{G H:WF}(d:YA P t J a lo hi=some (v,J'))(A:VR F a x)(O:mX F lo G)(Q:mX F hi H):
 ∃y w' F',(Instr.sliceAt t x G H none).run P w=.ok y w'/\St P F J w F' J' w'/\VR F' v y:=by
 unfold YA at d;split at d;rotate_left
 ·cases d
 next e id n hu=>
 split at d;rotate_left
 ·cases d
 next m et f R s I=>
 split at d;rotate_left
 ·cases d
 next hc=>
 simp only[aO]at hc;obtain⟨⟨c1,c2⟩,c3⟩:=hc;have e1:=bQ c1;subst e1;have S:=um c3;cases lo with
 |some l0=>
  simp only at d;obtain⟨r,hr,e2⟩:=bG.1 d;cases e2;have T:∀U:Env,SR P U (J.kill id) w->St P F J w U (J.kill id) w->VR U (.nd m) x->∃y w' F',(Instr.sliceAt t x G H none).run P w=.ok y w'/\St P F J w F' (J.kill id) w'/\VR F' v y:=by intro U h1 b hv;obtain⟨y,k1,k2⟩:=amd h1 hr hv (aeW b.ext O) (aeW b.ext Q);exact⟨y,w,U,k1,b,k2⟩
  have B:=A;simp only[VR]at B;obtain⟨ys,k1,B⟩:=B;rcases B with⟨q,i,aa,_⟩|⟨D,_,_⟩
  ·have b:=St.freeze h s rfl S i;obtain⟨o,L,M⟩:=VR.ahE (ro':=Ic F.ro w q.bl) h s c2 A (XY h.jl q.bl) (λq' u=>by rw[i]at u;cases u;unfold Ic;rw[au rfl]);exact T _ b.rel b (by simp only[VR];exact⟨_,L,rfl,M⟩)
  ·obtain⟨o,L,M⟩:=VR.ahE (ro':=F.ro) h s c2 A (λ_ _ h=>h) (λq' u=>by rw[(h.kH id D).1]at u;cases u);have b:=(St.refl h).WY id;exact T F b.rel b (by simp only[VR];exact⟨_,L,rfl,M⟩)
 |none=>
  simp only at d;split at d;rotate_left
  ·cases d
  next z hh h1 h2=>
  obtain⟨k,hk,e2⟩:=bG.1 d;cases e2;obtain⟨g,g1,N⟩:=iq hk;simp only[Nd.den]at N;split at N;rotate_left
  ·cases N
  next p kl li kh c e3 e4 e5=>
  split at N;rotate_left
  ·cases N
  next hc=>
  cases N;obtain⟨b1,b2,b3,b4⟩:=hc;have hz:li=0:=by obtain⟨gz,L,M⟩:=iq h1;simp only[Nd.den,bf]at M;subst M;rw[e4]at L;cases L;rfl
  subst hz;have ac:Ql (none:Qf)=some z:=h1;obtain⟨ad,ae,d1,d2,d3⟩:=adN (len:=p.length) ac h2 O Q e4 e5 (λhd=>by simp only[Nd.den,e3,bf,GV.i.injEq]at hd;exact hd.2.symm) b1 b2 b3;have al:(0:Int).toNat=0:=rfl;simp only[VR]at A;obtain⟨ys,y1,A⟩:=A;have E:=Ak 100 c2 e3 y1;have af:(p.take c.toNat).drop (0:Int).toNat=p.take c.toNat:=aA;rw[af]at g1;have Rj:c.toNat<=p.length:=ah;rcases A with⟨q,i,aa,rfl⟩|⟨D,rfl,rfl⟩
  ·have ag:=h.at s i;obtain⟨am,cs,W,fr,o,o1,o2,o3,o4,o5,o6,o7,o8,o9⟩:=ag;rw[e3]at o1;cases o1
   have hB:=Gt (P:=P) (w:=w) (sl:=true) (cap:=q.sz/q.es) d3 (λk hk=>by have:k<=p.length:=by simpa using hk
                                                                       omega) ah d1 d2
   have ai:0<q.es/\sizeT P e=some q.es:=⟨(o7.room rfl).2.1,(o7.room rfl).2.2⟩
   have an:R=q.es:=by have:=ai.2;rw[I]at this;cases this;rfl
   have X:OR P F q w (.vec k e f):=by
    have ao:=o3.length;refine⟨p.take c.toNat,cs,W,fr,o.take c.toNat,g1,o2,?_,λy hy=>o4 y (L6 hy),?_,?_,o7,λx A=>o8 x (L6 A),o9⟩
    ·have:∀(p:Q3)(o:Qt)(n:Nat),aT F.ro p o->aT F.ro (p.take n) (o.take n):=by
      intro p;induction p with
      |nil=>intro o n s;simp only[aT]at s;subst s;simp[aT]
      |cons a l ih=>
       intro o n s;simp only[aT]at s;obtain⟨x,us,rfl,a1,a2⟩:=s;cases n with
       |zero=>simp[aT]
       |succ n=>simp only[AQ,aT];exact⟨x,us.take n,rfl,a1,ih us n a2⟩
     exact this _ _ _ o3
    ·intro j x hj;refine o5 j x ?_;have Y:(dR (o.take c.toNat)) <+: dR o:=by unfold dR;rw[show o=o.take c.toNat++o.drop c.toNat from(IU _ _).symm];rw[aeH];simp only[IU];exact List.prefix_append _ _
     obtain⟨r,hr⟩:=Y;rw[<-hr,oG (fV.1 hj).1];exact hj
    ·rw[lZ];refine kR (uQ _ (Nat.min_le_right _ _)) o6
   have b:=St.write h s rfl S i (w':=w) (o':=.vec k e f) rfl (λ_ _=>rfl) rfl rfl rfl X;refine⟨.slice (some ⟨q.bl,q.ba,none⟩) c.toNat (q.sz/q.es),w,F,?_,b,?_⟩
   ·rw[E]at hB;simp only[Instr.sliceAt,Instr.slice,bD hu,aY,aX,hB.1,jG I,bP];by_cases e0:q.sz/q.es=0
    ·simp[e0]
    ·have e1:¬q.sz/q.es=(0:Int).toNat:=e0;rw[aj e1];simp[sK]
   ·simp only[VR];refine⟨p.take c.toNat,g1,.inl ⟨q,i,?_,?_⟩⟩
    ·rw[lZ];omega
    ·rw[lZ,Mc Rj]
  ·have ak:p=[]:=jT (by simpa using E);subst ak;have ap:c.toNat=0:=by simpa using Rj
   have hl:CO P t J .gX ad ae=some .gX:=by simp only[CO,hu,I];simp only[kF]at d3;rw[d3];rfl
   obtain⟨y,u1,u2⟩:=Yh h hl (show VR F .gX (.slice none 0 0) by simp only[VR]) d1 d2;simp only[VR]at u2;subst u2;have Z:aJ.val k=some (.l []):=by rw[g1];simp
   refine⟨_,w,F,u1,St.azV h s D Z,?_⟩;simp only[VR];exact⟨[],Z,.inr ⟨D,by trivial,by trivial⟩⟩
def wI(a:Wk):TypeDesc:=match a with
 |some k=>.int k
 |none=>.string
def WX{s:TypeId}{k:AV}{n:Nat}{d:Wk}{y:Value}(h:Rx P s k=some (n,d))(t:VR F k y):
 P.underlying s=some (wI d)/\∃g,aJ.val n=some g/\BH d g/\GR F.ro g y:=by
 unfold Rx at h;split at h
 ·next v m f i=>
  split at h
  ·next z l=>
   obtain⟨j,o,e⟩:=bG.1 h;cases e;obtain⟨g,b,_,p⟩:=nK i t;obtain⟨u,q,c⟩:=iq l;simp only[Nd.den,bf]at c;subst c;obtain⟨r,_,a⟩:=iq o;simp only[Nd.den,b,q]at a;refine⟨f,g,b,?_,p⟩;cases g<;>simp only[iV,dh,reduceCtorEq]at a
   split at a
   ·next e=>subst e;exact⟨_,rfl⟩
   ·cases a
  ·cases h
 ·next m f i=>
  split at h
  ·next z l=>
   obtain⟨j,o,e⟩:=bG.1 h;cases e;obtain⟨g,b,_,p⟩:=nK i t;obtain⟨u,q,c⟩:=iq l;simp only[Nd.den,bf]at c;subst c;obtain⟨r,_,a⟩:=iq o;simp only[Nd.den,b,q]at a;refine⟨f,g,b,?_,p⟩;cases g<;>simp only[iV,yO,reduceCtorEq]at a
   exact⟨_,rfl⟩
  ·cases h
 ·cases h
def aly{k:IntKind}{a b:Int}:Instr.sameNow (.int k) (.int k a) (.int k b)=some (a==b):=by simp[Instr.sameNow]
def alA{a b:Q2}:Instr.sameNow .string (.string ⟨⟨a⟩⟩) (.string ⟨⟨b⟩⟩)=some (a==b):=by simp[Instr.sameNow,Jb]
def aiJ{o:Wk}{n:Nat}{e:AV}{g:GV}{x y:Value}{b:Bool}(h:abv n e=some b)(p:aJ.val n=some g)(z:BH o g)(f:GR F.ro g y)(A:VR F e x):
 Instr.sameNow (wI o) y x=some b:=by
 unfold abv at h;split at h
 ·next m B=>
  obtain⟨i,q,_,l⟩:=nK B A;have s:∃r,(Nd.bin .eql n m).den aJ.I aJ.val=some r/\r=.b b:=by
   split at h
   ·next D t=>
    cases h;obtain⟨j,r,E,d,u⟩:=oz (F:=F) t;refine⟨r,d,?_⟩;simp only[Nd.den,p,q]at d;have:∃c,r=.b c:=by
     cases g<;>cases i<;>simp only[iV,reduceCtorEq]at d
     ·split at d
      ·simp only[dh,bf]at d;exact⟨_,d.symm⟩
      ·cases d
     ·simp only[yO,bf]at d;exact⟨_,d.symm⟩
    obtain⟨c,rfl⟩:=this;have:=u (.bool c) rfl (by simp only[GR]);simp only[VR]at this;cases this;rfl
   ·next j t=>
    split at h
    ·next D G=>
     cases h;obtain⟨M,r,E,d,u⟩:=oz (F:=F) t;refine⟨r,d,?_⟩;simp only[Nd.den,p,q]at d;have:∃c,r=.b c:=by
      cases g<;>cases i<;>simp only[iV,reduceCtorEq]at d
      ·split at d
       ·simp only[dh,bf]at d;exact⟨_,d.symm⟩
       ·cases d
      ·simp only[yO,bf]at d;exact⟨_,d.symm⟩
     obtain⟨c,rfl⟩:=this;have H:=u (.bool c) rfl (by simp only[GR]);obtain⟨v,I,L⟩:=Jt G;cases I;have:=L F _ H;simp only[VR]at this;cases this;rfl
    ·cases h
   ·cases h
  obtain⟨r,d,rfl⟩:=s;simp only[Nd.den,p,q]at d;cases o with
  |some k=>
   obtain⟨a,rfl⟩:=z;simp only[GR]at f;subst f;cases i<;>simp only[iV,reduceCtorEq]at d
   split at d
   ·next e=>
    subst e;simp only[dh,bf,GV.b.injEq]at d;simp only[GR]at l;subst l;show Instr.sameNow (.int _) _ _=_
    rw[aly,d]
   ·cases d
  |none=>
   obtain⟨a,rfl⟩:=z;simp only[GR]at f;subst f;cases i<;>simp only[iV,yO,reduceCtorEq]at d
   simp only[bf,GV.b.injEq]at d;simp only[GR]at l;subst l;show Instr.sameNow .string _ _=_
   rw[alA,d]
 ·cases h
def QV{o:Wk}{n:Nat}{g:GV}{y:Value}(f:aJ.val n=some g)(j:BH o g)(k:GR F.ro g y):∀{es:K1}{b:List MapEntry}{i:Nat}{r:Option (Nat×AV)},
 NG n es i=some r->Cc F es b->∃d,Instr.findNow (wI o) y b i=some d/\(match r,d with|none,none=>True|some (_,v),some (_,z)=>VR F v z|_,_=>False)
 |[],b,i,r,h,l=>by
  simp only[NG,bf]at h;subst h;have:b=[]:=by have:=l.1;cases b<;>simp_all
  subst this;exact⟨none,rfl,trivial⟩
 |e::es,b,i,r,h,l=>by
  obtain⟨m,p,rfl,q,s,t⟩:=l.tail;unfold NG at h;split at h
  ·next a=>
   cases h;have a:=aiJ a f j k q;exact⟨some (i,m.val),by simp[Instr.findNow,a],s⟩
  ·next a=>
   have a:=aiJ a f j k q;obtain⟨d,u,c⟩:=QV f j k h t;exact⟨d,by simp[Instr.findNow,a,u],c⟩
  ·cases h
def alz{b:Wk}{g a:GV}{y x:Value}{ro:QP}(e:BH b g)(f:BH b a)(c:GR ro g y)(d:GR ro a x):Instr.sameNow (wI b) y x=some (qO g a):=by
 cases b with
 |some k=>
  obtain⟨m,rfl⟩:=e;obtain⟨n,rfl⟩:=f;simp only[GR]at c d;subst c;subst d;show Instr.sameNow (.int _) _ _=_
  rw[aly];simp[qO]
 |none=>
  obtain⟨m,rfl⟩:=e;obtain⟨n,rfl⟩:=f;simp only[GR]at c d;subst c;subst d;show Instr.sameNow .string _ _=_
  rw[alA];rfl
def VU{ro:QP}{e:Wk}{sz:W3}{g:GV}{y:Value}(n:BH e g)(o:GR ro g y):∀{xs:Q3}{c:List MapEntry}{i:Nat},uP ro e sz xs c->
 (gy g xs=none/\Instr.findNow (wI e) y c i=some none)\/∃u j z,gy g xs=some u/\Instr.findNow (wI e) y c i=some (some (j,z))/\i<=j/\(∃m,c[j-i]? =some m/\Instr.sameNow (wI e) y m.key=some true)/\O9 sz u/\GR ro u z
 |[],c,i,h=>by simp only[uP]at h;subst h;exact .inl ⟨rfl,rfl⟩
 |x::xs,c,i,h=>by
  obtain⟨a,b,m,rest,rfl,rfl,h1,p,q,r,h5⟩:=h;have d:=alz n h1 o q;cases f:qO g a with
  |true=>rw[f]at d;exact .inr ⟨b,i,m.val,by simp[gy,f],by simp[Instr.findNow,d],dK _,⟨m,aA,d⟩,p,r⟩
  |false=>
   rw[f]at d;rcases VU (i:=i+1) n o h5 with⟨k,l⟩|⟨u,j,z,k,l,B,⟨s,t,v⟩,A⟩
   ·exact .inl ⟨by simp[gy,f,k],by simp[Instr.findNow,d,l]⟩
   ·refine .inr ⟨u,j,z,by simp[gy,f,k],by simp[Instr.findNow,d,l],ah,⟨s,?_,v⟩,A⟩;have:j-i=(j-(i+1))+1:=ah;rw[this];simpa using t
def ak0{ro:QP}{f:Wk}{sz:W3}{g u:GV}{e:MapEntry}(i:BH f g)(j:O9 sz u)(h1:GR ro g e.key)(k:GR ro u e.val):∀{xs:Q3}{c:List MapEntry},uP ro f sz xs c->gy g xs=none->
 uP ro f sz (kK g u xs) (c++[e])
 |[],c,h,_=>by simp only[uP]at h;subst h;exact⟨g,u,e,[],rfl,rfl,i,j,h1,k,rfl⟩
 |x::xs,c,h,d=>by
  obtain⟨a,b,m,rest,rfl,rfl,q1,l,n,o,p⟩:=h;simp only[gy]at d;split at d
  ·cases d
  ·next q=>
   simp only[kK,aj q];exact⟨a,b,m,rest++[e],rfl,rfl,q1,l,n,o,ak0 i j h1 k p d⟩
def ak1{ro:QP}{k:Wk}{sz:W3}{g u:GV}{y p:Value}(l:BH k g)(r:O9 sz u)(h1:GR ro g y)(s:GR ro u p):∀{xs:Q3}{d:List MapEntry}{i j:Nat}{z:Value},uP ro k sz xs d->Instr.findNow (wI k) y d i=some (some (j,z))->
 uP ro k sz (kK g u xs) (d.modify (j-i) λe=>{e with key:=y,val:=p})
 |[],d,i,j,z,h,c=>by simp only[uP]at h;subst h;simp[Instr.findNow]at c
 |x::xs,d,i,j,z,h,c=>by
  obtain⟨a,b,m,f,rfl,rfl,t,A,v,B,q⟩:=h;have n:=alz l t h1 v;cases o:qO g a with
  |true=>rw[o]at n;simp only[Instr.findNow,n,bf,pU]at c;obtain⟨rfl,rfl⟩:=c;simp only[kK,o,if_true,Ci];exact⟨g,u,{m with key:=y,val:=p},f,rfl,aA,l,r,h1,s,q⟩
  |false=>
   rw[o]at n;simp only[Instr.findNow,n]at c;have E:i+1<=j:=by
    rcases VU (i:=i+1) l h1 q with⟨_,r2⟩|⟨_,G,_,_,r2,r3,_⟩
    ·rw[c]at r2;cases r2
    ·rw[c]at r2;cases r2;exact r3
   have D:=ak1 l r h1 s q c;have e:j-i=(j-(i+1))+1:=ah;rw[e];simp only[kK,o,iJ,if_false,List.modify_succ_cons];exact⟨a,b,m,_,rfl,rfl,t,A,v,B,D⟩
def Vk{c:TypeId}{d:Wk}{g:GV}{y:Value}(e:P.underlying c=some (wI d))(f:BH d g)(a:GR F.ro g y)(b:Bool):(Instr.checkKey b 10000 c y).run P w=.ok () w:=by
 have H:∀n:Nat,(Instr.checkKey b (n+1) c y).run P w=.ok () w:=λn=>by
  cases d with
  |some k=>obtain⟨m,rfl⟩:=f;simp only[GR]at a;subst a;simp only[Instr.checkKey,aY,bD e,aX,wI,bP]
  |none=>obtain⟨m,rfl⟩:=f;simp only[GR]at a;subst a;simp only[Instr.checkKey,aY,bD e,aX,wI,bP]
 exact H 9999
def amK{et:TypeId}{v:AV}{n:Nat}{sz:W3}{x:Value}(h:TI P et v=some (n,sz))(i:VR F v x):∃g,aJ.val n=some g/\O9 sz g/\GR F.ro g x/\(match pG P et with
 |some true=>∃k,sizeT P et=some k/\sz=some k
 |some false=>sz=none
 |none=>False):=by
 unfold TI at h;split at h
 ·next a=>
  split at h
  ·next j k b m=>
   split at h
   ·next o=>
    cases h;obtain⟨l,p,rfl,c,d,f,q⟩:=MO b i;rw[a];refine⟨_,d,⟨p,rfl,?_,f⟩,q,k,m,rfl⟩;rw[c];exact bQ o
   ·cases h
  ·cases h
 ·next a=>
  obtain⟨j,b,e⟩:=bG.1 h;cases e;obtain⟨g,c,d,f⟩:=nK b i;rw[a];exact⟨g,c,d,f,rfl⟩
 ·cases h
def WZ{a b:Wk}(h:Ob a b=true):a=b:=by
 cases a<;>cases b<;>simp only[Ob]at h
 ·rfl
 ·cases h
 ·cases h
 ·rw[WU h]
def adO{a b:W3}(h:Tz a b=true):a=b:=by
 cases a<;>cases b<;>simp only[Tz]at h
 ·rfl
 ·cases h
 ·cases h
 ·rw[bQ h]
def aed{et:TypeId}{z:AV}(h:TP P et=some z):∃x,(zeroValue et).run P w=.ok x w/\VR F z x:=by
 unfold TP at h;split at h
 ·next i hi=>
  split at h
  ·next x a=>
   obtain⟨b,c⟩:=YV (w:=w) (F:=F) hi a h;exact⟨x,b,c⟩
  ·cases h
 ·cases h
def au9:∀(cs:Q3)(n:Nat),cs.length=n->takeN (eP cs) 0 n=some (eP cs):=by
 intro cs n a;have b:(eP cs).length=n:=by rw[nS,a]
 simp only[takeN,dY];rw[lS ah,au b]
def jZ(s:ByteArray):∀(l:List MapEntry)(i:Nat),(∀m∈l,∃t,m.key=.string t)->
 (∃j m,Instr.findNow .string (.string s) l i=some (some (j,m.val))/\m∈l/\m.key=.string s)\/(Instr.findNow .string (.string s) l i=some none/\∀m∈l,m.key≠.string s)
 |[],i,_=>.inr ⟨rfl,λm k=>by simp at k⟩
 |m::l,i,h=>by
  obtain⟨t,n⟩:=h m aA;have f:Instr.sameNow .string (.string s) m.key=some (s==t):=by rw[n];rfl
  have g:(s==t)=decide (s=t):=by
   obtain⟨⟨a⟩⟩:=s;obtain⟨⟨b⟩⟩:=t;rw[Jb];by_cases c:a=b
   ·subst c;simp
   ·rw[Et (by simpa using c)];simpa using c
  by_cases c:s=t
  ·subst c;rw[g,GL rfl]at f;exact .inl ⟨i,m,by simp[Instr.findNow,f],aA,n⟩
  ·rw[g,Et c]at f;rcases jZ s l (i+1) (λm k=>h m (by simp[k]))with⟨j,o,p,q,r⟩|⟨p,q⟩
   ·exact .inl ⟨j,o,by simp[Instr.findNow,f,p],by simp[q],r⟩
   ·refine .inr ⟨by simp[Instr.findNow,f,p],λo d=>?_⟩;simp only[bJ]at d;rcases d with rfl|d
    ·rw[n];simpa using λe=>c e.symm
    ·exact q o d
def ahr(s:ByteArray){l c:List MapEntry}(f:l.Perm c)(o:∀m∈c,∃t,m.key=.string t)(i:(c.map (·.key)).Nodup){r:Option (Nat×Value)}(h:Instr.findNow .string (.string s) c 0=some r):
 ∃x,Instr.findNow .string (.string s) l 0=some x/\(match r,x with|none,none=>True|some (_,v),some (_,z)=>v=z|_,_=>False):=by
 have g:∀m∈l,∃t,m.key=.string t:=λm hm=>o m (f.mem_iff.1 hm);have p:∀m∈c,∀d∈c,m.key=d.key->m=d:=by
  clear f o h g;induction c with
  |nil=>intro m hm;simp at hm
  |cons a l B=>
   simp only[iU,List.nodup_cons,su,not_exists,not_and]at i;intro m hm d b e;simp only[bJ]at hm b;rcases hm with rfl|hm<;>rcases b with rfl|b
   ·rfl
   ·exact absurd e.symm (i.1 d b)
   ·exact absurd e (i.1 m hm)
   ·exact B i.2 m hm d b e
 rcases jZ s c 0 o with⟨j,m,q,k,y⟩|⟨q,k⟩<;>rcases jZ s l 0 g with⟨D,d,u,n,A⟩|⟨u,n⟩
 ·rw[q]at h;cases h;refine⟨_,u,?_⟩;have:=p m k d (f.mem_iff.1 n) (by rw[y,A]);subst this;rfl
 ·exact absurd y (n m (f.mem_iff.2 k))
 ·exact absurd A (k d (f.mem_iff.1 n))
 ·rw[q]at h;cases h;exact⟨_,u,trivial⟩
def aEs(h:SR P F J w){t:TypeId}{m k v:AV}{x y:Value}{ok:Bool}(c:Yx P t m k ok J=some v)(hx:VR F m x)(hy:VR F k y):
 ∃z,(Instr.lookup t x y ok).run P w=.ok z w/\VR F v z:=by
 unfold Yx at c;split at c;rotate_left
 ·cases c
 next D et id hu=>
 simp only[VR]at hx;obtain⟨q,hq,rfl⟩:=hx;split at c
 ·next n kk es hn hg=>
  obtain⟨I,g,T,L,H⟩:=WX hn hy;obtain⟨q',f,E,M,hb,N,hp⟩:=h.obj _ _ hg rfl;rw[hq]at f;cases f;have O:Cc F es E.toList:=⟨by simpa using N,λk e hk=>by obtain⟨m,U,o,A⟩:=hp k e hk;exact⟨m,by simpa using U,o,A⟩⟩
  rw[Xi hu y ok hb];have l:∀b,(Instr.checkKey b 10000 D y).run P w=.ok () w:=λb=>Vk I L H b;split at c
  ·next j u W=>
   cases c;obtain⟨X,o,A⟩:=QV T L H W O;cases X with
   |none=>exact A.elim
   |some p=>
    obtain⟨j',z⟩:=p;have d:(Instr.findKey D y E.toList).run P w=.ok (some (j',z)) w:=by simp only[Instr.findKey,aY,bD I,aX,o,bP]
    refine⟨if ok then .tuple #[z,.bool true]else z,?_,?_⟩
    ·simp only[vk,aY,aX,l,d,bP]
    ·cases ok
     ·simpa using A
     ·simp only[VR];exact⟨[z,.bool true],rfl,aG.cons A (aG.cons (by simp[VR]) (by simp[aG]))⟩
  ·next W=>
   obtain⟨X,o,A⟩:=QV T L H W O;cases X with
   |some p=>exact A.elim
   |none=>
    have d:(Instr.findKey D y E.toList).run P w=.ok none w:=by simp only[Instr.findKey,aY,bD I,aX,o,bP]
    obtain⟨a,ha,rfl⟩:=bG.1 c;obtain⟨z,h3,Q⟩:=aed (w:=w) (F:=F) ha;refine⟨if ok then .tuple #[z,.bool false]else z,?_,?_⟩
    ·simp only[vk,aY,aX,l,d,h3,bP]
    ·cases ok
     ·simpa using Q
     ·simp only[VR];exact⟨[z,.bool false],rfl,aG.cons Q (aG.cons (by simp[VR]) (by simp[aG]))⟩
  ·cases c
 ·next n kk es hn hg=>
  obtain⟨I,g,T,L,H⟩:=WX hn hy;obtain⟨q',f,ak,E,M,G,hb,ab,N,hp⟩:=h.obj _ _ hg rfl;rw[hq]at f;cases f;split at c;rotate_left
  ·cases c
  next Y=>
  have:=WZ Y;subst this;have O:Cc F (es.map λe=>(AV.s e.1,e.2)) G:=⟨by simpa using N,λk e hk=>by rw[iO]at hk;obtain⟨e0,Q,rfl⟩:=bG.1 hk;obtain⟨m,U,o,A⟩:=hp k e0 Q;exact⟨m,U,by simp only[VR];exact o,A⟩⟩
  have R:G.map (·.key)=es.map λe=>Value.string ⟨⟨e.1⟩⟩:=by
   apply IK;intro k;rw[iO,iO];cases he:es[k]? with
   |none=>
    have:G[k]? =none:=by rw[List.getElem?_eq_none_iff]at he⊢;omega
    rw[this];rfl
   |some e=>obtain⟨m,U,o,_⟩:=hp k e he;rw[U];simp[o]
  have ac:∀m∈G,∃t,m.key=.string t:=λm U=>by have:m.key∈G.map (·.key):=List.mem_map_of_mem U;rw[R]at this;obtain⟨e,_,o⟩:=su.1 this;exact⟨_,o.symm⟩
  have ad:(G.map (·.key)).Nodup:=by rw[R];have:(es.map λe=>Value.string ⟨⟨e.1⟩⟩)=(es.map (·.1)).map λs=>Value.string ⟨⟨s⟩⟩:=aA;rw[this];refine List.Pairwise.map _ (λa b al hc=>al ?_) ak;simpa using hc
  obtain⟨s,am,ax⟩:∃s,y=.string s/\True:=by obtain⟨s0,rfl⟩:=L;simp only[GR]at H;exact⟨_,H,trivial⟩
  subst am;rw[Xi hu _ ok hb];have l:∀b,(Instr.checkKey b 10000 D (.string s)).run P w=.ok () w:=λb=>Vk I L H b;split at c
  ·next j u W=>
   cases c;obtain⟨X,o,A⟩:=QV T L H W O;cases X with
   |none=>exact A.elim
   |some p=>
    obtain⟨j',z⟩:=p;obtain⟨r2,h3,Q⟩:=ahr s ab ac ad o;cases r2 with
    |none=>exact Q.elim
    |some p2=>
    obtain⟨j2,z2⟩:=p2;have Q:z=z2:=Q;subst Q;have d:(Instr.findKey D (.string s) E.toList).run P w=.ok (some (j2,z)) w:=by simp only[Instr.findKey,aY,bD I,aX,wI,h3,bP]
    refine⟨if ok then .tuple #[z,.bool true]else z,?_,?_⟩
    ·simp only[vk,aY,aX,l,d,bP]
    ·cases ok
     ·simpa using A
     ·simp only[VR];exact⟨[z,.bool true],rfl,aG.cons A (aG.cons (by simp[VR]) (by simp[aG]))⟩
  ·next W=>
   obtain⟨X,o,A⟩:=QV T L H W O;cases X with
   |some p=>exact A.elim
   |none=>
    obtain⟨r2,h3,Q⟩:=ahr s ab ac ad o;cases r2 with
    |some p2=>exact Q.elim
    |none=>
    have d:(Instr.findKey D (.string s) E.toList).run P w=.ok none w:=by simp only[Instr.findKey,aY,bD I,aX,wI,h3,bP]
    obtain⟨a,ha,rfl⟩:=bG.1 c;obtain⟨z,h5,h6⟩:=aed (w:=w) (F:=F) ha;refine⟨if ok then .tuple #[z,.bool false]else z,?_,?_⟩
    ·simp only[vk,aY,aX,l,d,h5,bP]
    ·cases ok
     ·simpa using h6
     ·simp only[VR];exact⟨[z,.bool false],rfl,aG.cons h6 (aG.cons (by simp[VR]) (by simp[aG]))⟩
  ·cases c
 ·next n kk j EO sz hn hg=>
  obtain⟨I,g,T,L,H⟩:=WX hn hy;obtain⟨q',f,xs,E,M,hv,hb,hp⟩:=h.obj _ _ hg rfl;rw[hq]at f;cases f;rw[Xi hu y ok hb];have l:∀b,(Instr.checkKey b 10000 D y).run P w=.ok () w:=λb=>Vk I L H b;split at c;rotate_left
  ·cases c
  next Y=>
  have:=WZ Y;subst this;split at c;rotate_left
  ·cases c
  next zn ay hz=>
  split at c;rotate_left
  ·cases c
  next N=>
  have:=adO N;subst this;obtain⟨za,an,ao⟩:=xZ.1 hz;obtain⟨zv,z1,z2⟩:=aed (w:=w) (F:=F) an;obtain⟨zg,z3,z4,z5,z6⟩:=amK ao z2;split at c;rotate_left
  ·cases c
  next u ap=>
  obtain⟨jn,hj,Z⟩:=xZ.1 ap;obtain⟨rg,r1,r2⟩:=iq hj;simp only[Nd.den,z3,hv,T,bf]at r2;have fin:∀(z:Value)(b:Bool),O9 sz rg->GR F.ro rg z->(gy g xs).isSome=b->vk D et y ok E=vk D et y ok E->(vk D et y ok E).run P w=.ok (if ok then .tuple #[z,.bool b]else z) w->∃z,(vk D et y ok E).run P w=.ok z w/\VR F v z:=by
   intro z b ae aa aq _ B;have af:VR F u z:=by
    obtain⟨r,S,q2⟩:=adM (F:=F) r1 Z;cases ai:pG P et with
    |none=>rw[ai]at z6;exact z6.elim
    |some ag=>
     rw[ai]at z6 S;cases ag with
     |true=>obtain⟨kn,k1,k2⟩:=z6;subst k2;obtain⟨cs,rfl,c1,c2⟩:=ae;simp only[k1,GV.cells,au9 cs kn c1,iH,bf]at S;subst S;apply q2;simp only[GR]at aa;obtain⟨vs,rfl,ar⟩:=aa;simp only[VR];exact⟨vs,rfl,(qC _ _).1 ar⟩
     |false=>
      simp only at z6;subst z6;have av:rg.scalar=true:=ae;have hc:rg.cells=[rg]:=by cases rg<;>first|rfl|(simp[GV.scalar]at av)
      simp only[hc,Q5,kQ,iH,bf]at S;subst S;exact q2 _ ((mQ _ _).1 aa)
   cases ok with
   |false=>simp only[iJ,if_false,bf]at c B;subst c;exact⟨z,B,af⟩
   |true=>
    simp only[if_true]at c B;split at c
    ·next bb aw=>
     cases c;obtain⟨_,gb,_,b2,b3⟩:=oz (F:=F) aw;simp only[Nd.den,hv,T,bf]at b2;subst b2;refine⟨_,B,?_⟩;simp only[VR];exact⟨[z,.bool b],rfl,aG.cons af (aG.cons (b3 _ rfl (by simp only[GR];rw[aq])) (by simp[aG]))⟩
    ·cases c
  rcases VU (i:=0) L H hp with⟨S,q2⟩|⟨u',j',z,S,q2,_,_,q5,q6⟩
  ·have d:(Instr.findKey D y E.toList).run P w=.ok none w:=by simp only[Instr.findKey,aY,bD I,aX,q2,bP]
   rw[S,uS]at r2;subst r2;refine fin zv false z4 z5 (by rw[S];rfl) rfl ?_;simp only[vk,aY,aX,l,d,z1,bP]
  ·have d:(Instr.findKey D y E.toList).run P w=.ok (some (j',z)) w:=by simp only[Instr.findKey,aY,bD I,aX,q2,bP]
   rw[S,sH]at r2;subst r2;refine fin z true q5 q6 (by rw[S];rfl) rfl ?_;simp only[vk,aY,aX,l,d,bP]
 ·cases c
def aC8{d:Wk}{g a:GV}{y x:Value}(f:BH d g)(c:GR F.ro g y)(b:Instr.sameNow (wI d) y x=some true)(n:Nat):Instr.sameBits (n+1) x y=true:=by
 cases d with
 |some k=>
  obtain⟨m,rfl⟩:=f;simp only[GR]at c;subst c;cases x<;>simp only[Instr.sameNow,wI,reduceCtorEq]at b
  split at b
  ·next e=>subst e;simp at b;subst b;simp[Instr.sameBits]
  ·cases b
 |none=>
  obtain⟨m,rfl⟩:=f;simp only[GR]at c;subst c;cases x<;>simp only[Instr.sameNow,wI,reduceCtorEq]at b
  next s=>
  obtain⟨⟨l⟩⟩:=s;rw[Jb]at b;simp only[Instr.sameBits,Jb];simp_all
def amc(h:SR P F J w){t:TypeId}{m k v:AV}{x y z:Value}(d:Yz P t m k v J=some J')(hx:VR F m x)(hy:VR F k y)(hz:VR F v z):
 ∃w',(Instr.mapUpdate t x y z).run P w=.ok () w'/\St P F J w F J' w':=by
 unfold Yz at d;split at d;rotate_left
 ·cases d
 next U et id hu=>
 simp only[VR]at hx;obtain⟨q,R,rfl⟩:=hx;split at d;rotate_left
 ·cases d
 next S=>
 have S:=um S
 have r:∀(o:bM)(n:Nat)(s:Wk)(u:Nat)(A:W3)(j D:Nat)(H:Q3)(c:Array MapEntry)(b:Nat),J.get id=some o->o.own=true->Rx P U k=some (n,s)->TI P et v=some (u,A)->
  aJ.val j=some (.l H)->w.heap[q.bl]? =some (.map c b)->uP F.ro s A H c.toList->gq (.Dq j n u)=some D->∃w',(Instr.mapUpdate t (.map (some q.bl)) y z).run P w=.ok () w'/\St P F J w F (J.put id (.smap D s A)) w':=by
  intro o n s u A j D H c b B ho I f W p G L;obtain⟨X,g,g1,M,N⟩:=WX I hy;obtain⟨ug,u1,u2,u3,_⟩:=amK f hz;obtain⟨rg,r1,r2⟩:=iq L;simp only[Nd.den,W,g1,u1,bf]at r2;subst r2;have O:=Vk (w:=w) X M N false;have Q:(getObj q.bl).run P w=.ok (.map c b) w:=by simp[getObj,Sem.run,p]
  rcases VU (i:=0) M N G with⟨q1,T⟩|⟨u',i,zz,q1,T,_,⟨m',q3,q4⟩,q5,q6⟩
  ·have E:(Instr.findKey U y c.toList).run P w=.ok none w:=by simp only[Instr.findKey,aY,bD X,aX,T,bP]
   refine⟨oP w q.bl (.map (c.push {key:=y,val:=z,born:=b}) (b+1)),?_,St.write h B ho S R Fj (λk Y=>Fh Y) rfl rfl rfl ?_⟩
   ·simp only[Instr.mapUpdate,aY,bD hu,aX,Q,O,E];exact OT p aA
   ·refine⟨_,_,b+1,r1,DJ p,?_⟩;rw[Array.toList_push];exact ak0 M u2 N u3 G q1
  ·have E:(Instr.findKey U y c.toList).run P w=.ok (some (i,zz)) w:=by simp only[Instr.findKey,aY,bD X,aX,T,bP]
   rw[IY,xR]at q3;have Z:(Instr.keyThatStays (((c[i]?).map (·.key)).getD y) y).run P w=.ok y w:=by rw[q3];simp only[iH,sH,Instr.keyThatStays];rw[au (aC8 (a:=g) M N q4 9999)];rfl
   refine⟨oP w q.bl (.map (c.modify i λe=>{e with key:=y,val:=z}) b),?_,St.write h B ho S R Fj (λk Y=>Fh Y) rfl rfl rfl ?_⟩
   ·simp only[Instr.mapUpdate,aY,bD hu,aX,Q,O,E,Z];exact OT p aA
   ·refine⟨_,_,b,r1,DJ p,?_⟩;rw[Array.toList_modify];have:=ak1 (i:=0) M u2 N u3 G T;rwa [IY]at this
 split at d
 ·next n s u A I f B=>
  split at d
  ·next j W=>
   obtain⟨D,L,rfl⟩:=bG.1 d;obtain⟨q',l,c,b,p,aa,G⟩:=h.obj _ _ B rfl;rw[R]at l;cases l;obtain⟨gl,l1,l2⟩:=iq W;simp only[Nd.den,valsOf,iH,bf]at l2;subst l2;refine r _ n s u A j D [] c b B rfl I f l1 p ?_ L;simp only[uP];have:c.size=0:=by simpa using aa
   simpa using aef this
  ·cases d
 ·next n s u A j EO ab I f B=>
  split at d
  ·next hc=>
   rw[aO]at hc;have e1:=WZ hc.1;have e2:=adO hc.2;subst e1;subst e2;obtain⟨D,L,rfl⟩:=bG.1 d;obtain⟨q',l,H,c,b,hv,p,G⟩:=h.obj _ _ B rfl;rw[R]at l;cases l;exact r _ n s u A j D H c b B rfl I f hv p G L
  ·cases d
 ·cases d
def aw9{v:AV}{x:Value}(h:mapArg v=true)(c:VR F v x):∃k n,x=.int k n:=by
 unfold mapArg at h;split at h
 ·next n=>
  split at h
  ·next a d=>
   obtain⟨g,i,b⟩:=aJ.tH _ _ d aA;simp only[VR]at c;obtain⟨m,e,_,f⟩:=c;rw[i]at e;cases e;simp only[Nd.den]at b;split at b
   ·cases b;simp only[GR]at f;exact⟨_,_,f⟩
   ·cases b
  ·cases h
 ·next j=>
  obtain⟨n,d⟩:=anj.1 h;obtain⟨k,l⟩:=AZ d c;exact⟨k,n,l⟩
def ai7{e:TypeId}{size len m:Nat}{cs:Q6}{vs:Qt}(h:Xf P e size len cs=some m)(k:aG F cs vs):0<size/\0<len/\cs.length=len*size/\∃gs,aJ.val m=some (.l gs)/\gs.length=len/\aG F (bW gs) vs/\∀x∈gs,x.cells.length=size/\x.cells.all GV.scalar=true:=by
 unfold Xf at h;split at h;rotate_left
 ·cases h
 split at h;rotate_left
 ·cases h
 next c s=>
 split at h;rotate_left
 ·cases h
 next i=>
 simp only[aO,oV,jM]at i;obtain⟨⟨h1,l⟩,b⟩:=i;have b:=bQ b;have a:0<size:=by
  rcases h1 with⟨_,h1⟩|h1
  ·exact h1
  ·have:=bQ h1;omega
 have d:c=false->size=1:=by
  intro e;rcases h1 with⟨h1,_⟩|h1
  ·rw[e]at h1;cases h1
  ·exact bQ h1
 split at h
 ·next t f=>
  obtain⟨gs,n,o,p,_,q⟩:=GN d len f k b;obtain⟨g,r,j⟩:=iq h;simp only[Nd.den,n,iH,bf]at j;subst j;exact⟨a,l,b,gs,r,o,p,q⟩
 ·cases h
def awX{R:Prop}{t e:TypeId}{size bytes len:Nat}{z:Q6}{B:Wr}{qs:Array (Nat×Value)}{cs:Q6}
 (fin:∀(v:AV)(τ:aC),Xg P J e size len cs=(some v,τ)->(∃y w' F',(Instr.buildSlice t len qs).run P w=.ok y w'/\St P F J w F' τ w'/\VR F' v y)->R)
 (h:SR P F J w) (hi:yC P t=some (e,size,bytes,z)) (d:¬len*size>2^24) (l:Cj (λi=>some (i*size,size)) (if len*size=0 then[]else jS len z) B=some cs) (D:Ed F B qs.toList):R:=by
 unfold Xg at fin;split at fin;rotate_left
 ·exact fin _ _ rfl (an6 h hi d l D)
 next m b=>
 refine fin _ _ rfl ?_;obtain⟨L,_,M,N,n,o⟩:=CZ hi;obtain⟨Z,O,p⟩:=Ig M;have a:0<size/\0<len:=by
  unfold Xf at b;split at b;rotate_left
  ·cases b
  split at b;rotate_left
  ·cases b
  next Q ha=>
  split at b;rotate_left
  ·cases b
  next q=>
  simp only[aO,oV,jM]at q;refine⟨?_,q.1.2⟩;rcases q.1.1 with⟨_,h1⟩|h1
  ·exact h1
  ·have:=bQ h1;omega
 have E:¬len*size=0:=by have:=PO a.2 a.1;omega
 simp only[E,if_false]at l;obtain⟨k,S,j⟩:=ND l D (TQ (p F) n);have r:=j.length;have s:=Es h (c:=cs) (xs:=k) (elem:=e) (es:=size) (opn:=true) (by rw[r,AP];exact j) (by simpa using L9 r) aA (λ_=>⟨N,a.1,o⟩);obtain⟨_,_,u,gs,G,H,_,T⟩:=ai7 b j;have x:k.size=len*size:=by rw[<-u,r];simp
 have g:k.size/size=len:=by rw[x];exact Uk _ a.1
 obtain⟨U,W⟩:=St.zI (f:=false) (size:=size) (y:=.slice (some ⟨w.heap.size,0,none⟩) len len) s G T o (λvs A=>by
  obtain⟨_,_,_,X,I,_,Y,_⟩:=ai7 b A;rw[G]at I;cases I;exact Y) (by
  simp only[VR];refine⟨⟨w.heap.size,0,k.size,size⟩,by simp[Env.put],?_,?_⟩
  ·simp only[uS,IY];rw[g,H];simp
  ·simp only[uS,IY,g,H,oW]) aA
 refine⟨_,_,_,?_,U,W⟩;simp only[Instr.buildSlice,aY,bD L,aX,jG o,xg,aj d,E,if_false,O,bP,S,newRow,newObj,Sem.run]
structure TR(P:Program)(F:Env)(a:bK)(A:Act):Prop where
 gn:a.gn=P.globals.size
 size:A.tmps.size=a.n
 none:A.defers=[]
 slot:∀t v,a.t.get t=some v->∃x,A.tmps[t]? =some x/\VR F v x
def TR.mono{F F':Env}{a:bK}{A:Act}(h:TR P F a A)(b:F.le F'):TR P F' a A:=
 ⟨h.gn,h.size,h.none,λt v c=>by obtain⟨x,d,e⟩:=h.slot t v c;exact⟨x,d,VR.mono b _ _ e⟩⟩
def TR.put{a f:bK}{A:Act}{dst:Option Tmp}{r:Qf}{x:Value}(h:TR P F a A)(b:a.put dst r=some f)(g:∀v,r=some v->VR F v x):TR P F f (A.put dst x):=by
 unfold bK.put at b;split at b
 ·cases b;exact h
 ·next d=>
  split at b
  ·next i=>
   cases b;refine⟨h.gn,by simp[Act.put,h.size],h.none,λt v c=>?_⟩;rw[Tr.wE]at c;show ∃y,(A.tmps.setIfInBounds d x)[t]? =some y/\_
   rw[D9];split at c
   ·next e=>
    subst e;rw[au rfl,au (by rw[h.size];exact i)];exact⟨x,rfl,g v c⟩
   ·next e=>rw[aj (λj=>e j.symm)];exact h.slot t v c
  ·cases b
def QS{a:bK}{A:Act}(h:SR P F J w)(d:TR P F a A)(x:Operand)(v:AV)(b:a.eval x=some v):VR F v (A.eval x):=by
 cases x with
 |tmp t=>obtain⟨y,i,j⟩:=d.slot t v b;simp only[Act.eval];rw[Az,i];exact j
 |const c=>exact EW _ _ _ b
 |global g=>
  simp only[bK.eval]at b;split at b
  ·next e=>
   cases b;rw[d.gn]at e;obtain⟨l,es,k⟩:=h.nR g (Nat.le_of_lt e);simp only[VR,Act.eval];exact⟨_,k,aA⟩
  ·cases b
 |func f=>simp only[bK.eval,bf]at b;subst b;simp only[VR,Act.eval];exact⟨[],[],rfl,by simp[aG],by simp[aG]⟩
def PS(P:Program)(F:Env)(J:aC)(w:World)(r:Qf)(J':aC)(s:Sem Next):Prop:=
 ∃a b c,s.run P w=.ok a b/\St P F J w c J' b/\(match r with|some v=>∃x,a=.value x/\VR c v x|none=>a=.skip)
def fU{r:AV}{s:Sem Value}(h:∃y w' F',s.run P w=.ok y w'/\St P F J w F' J' w'/\VR F' r y):PS P F J w (some r) J' (do pure (.value (<-s))):=by obtain⟨y,w',F',a,b,c⟩:=h;exact⟨.value y,w',F',by simp only[aY,a,aX,bP],b,y,rfl,c⟩
def Ol{s:Sem Unit}(h:∃w' F',s.run P w=.ok () w'/\St P F J w F' J' w'):PS P F J w none J' (do s;pure .skip):=by obtain⟨w',F',a,b⟩:=h;exact⟨.skip,w',F',by simp only[aY,a,aX,bP],b,rfl⟩
def jB{r:AV}{s:Sem Value}(h:SR P F J w)(a:∃y,s.run P w=.ok y w/\VR F r y):∃y w' F',s.run P w=.ok y w'/\St P F J w F' J w'/\VR F' r y:=by obtain⟨y,b,c⟩:=a;exact⟨y,w,F,b,St.refl h,c⟩
def kL{v:Qf}{r:Qf}(h:fH J v=some (r,J')):∃u,v=some u/\r=some u/\J'=J:=by simp only[fH,bG,pU]at h;obtain⟨u,a,b,c⟩:=h;exact⟨u,a,b.symm,c.symm⟩
def E9{v:Wg}{r:Qf}(h:vI v=some (r,J')):∃u,v=some (u,J')/\r=some u:=by simp only[vI,bG,MB,pU]at h;obtain⟨u,s,a,b,c⟩:=h;subst c;exact⟨u,a,b.symm⟩
def adi{v:Option aC}{r:Qf}(h:OJ v=some (r,J')):v=some J'/\r=none:=by simp only[OJ,bG,pU]at h;obtain⟨s,a,b,c⟩:=h;subst c;exact⟨a,b.symm⟩
def anR{c:Value}{t:Bool}(h:VR F (.b t) c):(asBool c).run P w=.ok t w:=by simp only[VR]at h;subst h;rfl
def aoM(h:SR P F J w){ts:Ww}{ty t:TypeId}{x v:AV}{u:Value}(j:ts[0]? =some t)(d:Zp P t x J=some (v,J'))(i:VR F x u):
 ∃y w' F',(Builtin.clear_ ts ty #[u]).run P w=.ok y w'/\St P F J w F' J' w'/\VR F' v y:=by
 have f:∀F':Env,VR F' (.fG []) (.tuple #[]):=λF'=>by simp only[VR];exact⟨[],rfl,by simp[aG]⟩
 unfold Zp at d;split at d
 ·next e b=>
  cases d;simp only[VR]at i;subst i;exact⟨_,w,F,by simp only[Builtin.clear_,j,F7,kQ,aY,bD b,aX,bP],St.refl h,f _⟩
 ·next e b=>
  cases d;simp only[VR]at i;rcases i with⟨_,R,rfl⟩|⟨bl,G,c,xs,sz,rfl,_⟩
  ·exact⟨_,w,F,by cases R<;>simp only[Builtin.clear_,j,F7,kQ,aY,bD b,aX,bP],St.refl h,f _⟩
  ·exact⟨_,w,F,by simp only[Builtin.clear_,j,F7,kQ,aY,bD b,aX,bP,kF],St.refl h,f _⟩
 ·next e id G n S b=>
  simp only[VR]at i;obtain⟨q,D,_,rfl⟩:=i;split at d
  ·next O=>
   cases d;subst O;exact⟨_,w,F,by simp only[Builtin.clear_,j,F7,kQ,aY,bD b,aX,bP],St.refl h,f _⟩
  ·next O=>
   split at d
   ·next z c et T U E=>
    split at d
    ·next Q=>
     simp only[bG]at d;obtain⟨c',W,X⟩:=d;cases X;obtain⟨H,Y,o⟩:=Ig U;have I:=TQ (n:=n) (size:=z.length) (o F) rfl;have p:=(o F).length;have r:(jS n z).all AV.pF=true:=by rw[List.all_eq_true];intro a s;unfold jS at s;simp only[List.mem_flatten,aeO]at s;obtain⟨l,⟨_,rfl⟩,s⟩:=s;exact List.all_eq_true.1 Q.2 a s
     obtain⟨w',A,L⟩:=YT h E Q.1 D W I r;refine⟨_,w',F,?_,L,f _⟩;have M:(Builtin.zeroCells H.cells n)=(Array.range (n*z.length)).map (H.cells[· % H.cells.size]!):=by unfold Builtin.zeroCells;rw[p];simp
     obtain⟨m,rfl⟩:∃m,n=m+1:=⟨n-1,ah⟩
     simp only[Builtin.clear_,j,F7,kQ,aY,bD b,aX,Y];rw[M,A];rfl
    ·cases d
   ·cases d
 ·next k e b=>
  cases d;simp only[VR]at i;subst i;exact⟨_,w,F,by simp only[Builtin.clear_,j,F7,kQ,aY,bD b,aX,bP],St.refl h,f _⟩
 ·next k e id b=>
  split at d
  ·next es E=>
   split at d
   ·next Z=>
    cases d;simp only[VR]at i;obtain⟨q,D,rfl⟩:=i;obtain⟨q',B,ms,g,N,aa,_⟩:=h.obj _ _ E rfl;rw[D]at B;cases B;refine⟨.tuple #[],oP w q.bl (.map #[] g),F,?_,St.write h E rfl Z D Fj (λk hk=>Fh hk) rfl rfl rfl ⟨#[],g,DJ N,rfl,aA⟩,f _⟩;simp only[Builtin.clear_,j,F7,kQ,aY,bD b,aX,getObj,Sem.run,N,OT N (λ_ _ _=>aA),bP]
   ·cases d
  ·cases d
 ·cases d
def an8(h:SR P F J w){b:Builtin}{ts:Ww}{ty:TypeId}{cs:Array Bool}{args:Q6}{vs:Qt}{r:Qf}(d:I4 P b ts args J=some (r,J'))(j:aG F args vs):
 PS P F J w r J' (builtin b ts ty cs ⟨vs⟩):=by
 unfold I4 at d;split at d
 ·next x=>
  simp only[aG]at j;obtain⟨u,_,rfl,f,rfl⟩:=j;split at d
  ·next t o=>
   obtain⟨v,g,rfl,rfl⟩:=kL d;exact fU (jB h (ai6 h o g f))
  ·cases d
 ·next s x=>
  simp only[aG]at j;obtain⟨u,_,rfl,f,p,_,rfl,i,rfl⟩:=j;obtain⟨v,g,rfl⟩:=E9 d;exact fU (anO h g f i)
 ·next s x=>
  simp only[aG]at j;obtain⟨u,_,rfl,f,p,_,rfl,i,rfl⟩:=j;obtain⟨v,g,rfl⟩:=E9 d;exact fU (apq h g f i)
 ·next x=>
  simp only[aG]at j;obtain⟨u,_,rfl,f,rfl⟩:=j;split at d
  ·next t o=>
   obtain⟨v,g,rfl⟩:=E9 d;exact fU (aoM h o g f)
  ·cases d
 ·next x=>
  simp only[aG]at j;obtain⟨u,_,rfl,f,rfl⟩:=j;split at d
  ·next t o=>
   split at d
   ·next e l=>
    obtain⟨v,g,rfl,rfl⟩:=kL d;cases g;simp only[VR]at f;subst f;exact fU (jB h ⟨.int .i64 0,by simp[Builtin.cap_,o,bD l,goInt],by simp[VR]⟩)
   ·next e id A n c l=>
    obtain⟨v,g,rfl,rfl⟩:=kL d;cases g;simp only[VR]at f;obtain⟨q,B,_,rfl⟩:=f;exact fU (jB h ⟨.int .i64 c,by simp[Builtin.cap_,o,bD l,goInt],by simp[VR]⟩)
   ·cases d
  ·cases d
 ·simp only[aG]at j;obtain⟨u,_,rfl,f,rfl⟩:=j;obtain⟨v,g,rfl,rfl⟩:=kL d;cases g;simp only[VR]at f;subst f;exact fU (jB h ⟨_,alU,by simp only[VR]⟩)
 ·next id A n H=>
  split at d
  ·cases d
  ·next G=>
   simp only[aG]at j;obtain⟨u,_,rfl,f,rfl⟩:=j;obtain⟨v,g,rfl,rfl⟩:=kL d;cases g;simp only[VR]at f;obtain⟨q,B,I,rfl⟩:=f;refine fU (jB h ⟨_,alV ?_,by simp only[VR];exact⟨q,B,rfl⟩⟩);intro e;rw[e]at I;have R:n=0:=ah;subst R;cases H with
   |none=>exact G ⟨rfl,.inl rfl⟩
   |some c=>simp only[sH]at e;subst e;exact G ⟨rfl,.inr rfl⟩
 ·next x n=>
  simp only[aG]at j;obtain⟨u,_,rfl,f,p,_,rfl,i,rfl⟩:=j;simp only[VR]at i;subst i;split at d
  ·next t O L=>
   have:=UZ L;subst this;split at d
   ·next S=>
    subst S;split at d
    ·obtain⟨v,g,rfl,rfl⟩:=kL d;cases g;simp only[VR]at f;subst f;exact fU (jB h ⟨_,adZ,by simp only[VR]⟩)
    ·obtain⟨v,g,rfl,rfl⟩:=kL d;cases g;simp only[VR]at f;obtain⟨q,B,rfl⟩:=f;exact fU (jB h ⟨_,adZ,by simp only[VR]⟩)
    ·cases d
   ·split at d
    ·next id A=>
     split at d
     ·next e c et T M U=>
      split at d
      ·next G=>
       obtain⟨rfl,W,X,Y,Z,c5⟩:=G;split at d
       ·next r' hr=>
        split at d
        ·next b hb=>
         cases d;simp only[VR]at f;obtain⟨q,B,rfl⟩:=f;obtain⟨y,w',g,m,k⟩:=amH (it:=O) (ty:=ty) h M U W X Y Z c5 hr hb B;exact fU ⟨y,w',F,g,m,k⟩
        ·cases d
       ·cases d
      ·cases d
     ·cases d
    ·cases d
  ·cases d
 ·next x y=>
  simp only[aG]at j;obtain⟨u,_,rfl,f,p,_,rfl,i,rfl⟩:=j;split at d
  ·next a Q g m=>
   obtain⟨v,k,rfl,rfl⟩:=kL d;simp only[xZ]at k;obtain⟨z,D,E⟩:=k;rw[DF g f,DF m i];exact fU (jB h ⟨z,Dy D w,EW _ _ _ E⟩)
  ·cases d
 ·next x y=>
  simp only[aG]at j;obtain⟨u,_,rfl,f,p,_,rfl,i,rfl⟩:=j;split at d
  ·next a Q g m=>
   obtain⟨v,k,rfl,rfl⟩:=kL d;simp only[xZ]at k;obtain⟨z,D,E⟩:=k;rw[DF g f,DF m i];exact fU (jB h ⟨z,Dy D w,EW _ _ _ E⟩)
  ·cases d
 ·next x y z=>
  simp only[aG]at j;obtain⟨u,_,rfl,f,p,_,rfl,i,aa,_,rfl,N,rfl⟩:=j;split at d
  ·next a Q ab g m h4=>
   obtain⟨v,k,rfl,rfl⟩:=kL d;simp only[xZ]at k;obtain⟨z,D,E⟩:=k;rw[DF g f,DF m i,DF h4 N];exact fU (jB h ⟨z,Dy D w,EW _ _ _ E⟩)
  ·cases d
 ·cases d
def aE7{a it ty:TypeId}(p:Ys):(Builtin.unsafeString_ #[a,it] ty #[.pointer p,.int .i64 0]).run P w=.ok (.string ⟨⟨[]⟩⟩) w:=adZ
def aEl(h:SR P F J w){b:Builtin}{ts:Ww}{ty:TypeId}{cs:Array Bool}{args:Q6}{vs:Qt}{r:Qf}(c:Le P b ts args J=some (r,J'))(l:aG F args vs):
 PS P F J w r J' (builtin b ts ty cs ⟨vs⟩):=by
 unfold Le at c;have mm:∀(I:Bool){x y:AV}{m n:Nat}{v:AV}{u L:Value},jy x=some m->jy y=some n->lI (.mm I m n)=some v->VR F x u->VR F y L->∃k a M,u=.int k a/\L=.int k M/\VR F v (.int k (if I then(if a<M then M else a)else(if M<a then M else a))):=by
  intro I x y m n v u L D N aa z d;obtain⟨g1,a1,a2,a3⟩:=nK D z;obtain⟨g2,b1,O,b3⟩:=nK N d;obtain⟨_,g,_,E,c3⟩:=oz (F:=F) aa;simp only[Nd.den,a1,b1]at E;split at E
  ·next k i k' j S e2=>
   cases S;cases e2;split at E
   ·next G=>
    subst G;cases E;simp only[GR]at a3 b3;exact⟨k,i,j,a3,b3,c3 _ rfl (by simp only[GR])⟩
   ·cases E
  ·cases E
 split at c
 ·next x=>
  simp only[aG]at l;obtain⟨u,_,rfl,z,rfl⟩:=l;split at c
  ·next t ht=>
   obtain⟨v,Q,e⟩:=bG.1 c;cases e;exact fU (jB h (aEq ht Q z))
  ·cases c
 ·next s x=>
  simp only[aG]at l;obtain⟨u,_,rfl,z,L,_,rfl,d,rfl⟩:=l;obtain⟨v,Q,e⟩:=bG.1 c;cases e;exact fU (aEj h Q z d)
 ·next x y=>
  simp only[aG]at l;obtain⟨u,_,rfl,z,L,_,rfl,d,rfl⟩:=l;split at c
  ·next m n D N=>
   obtain⟨v,Q,e⟩:=bG.1 c;cases e;obtain⟨k,a,M,rfl,rfl,h2⟩:=mm false D N Q z d;refine fU (jB h ⟨_,?_,h2⟩);simp[Builtin.min_,Builtin.min2]
  ·cases c
 ·next x y=>
  simp only[aG]at l;obtain⟨u,_,rfl,z,L,_,rfl,d,rfl⟩:=l;split at c
  ·next m n D N=>
   obtain⟨v,Q,e⟩:=bG.1 c;cases e;obtain⟨k,a,M,rfl,rfl,h2⟩:=mm true D N Q z d;refine fU (jB h ⟨_,?_,h2⟩);simp[Builtin.max_,Builtin.max2]
  ·cases c
 ·next id n=>
  split at c
  ·next m et Z=>
   split at c
   ·next B=>
    cases c;simp only[aG]at l;obtain⟨u,_,rfl,z,rfl⟩:=l;simp only[VR]at z;obtain⟨A,k1,z⟩:=z;rcases z with⟨q,T,an,rfl⟩|⟨ao,rfl,rfl⟩
    ·have U:=h.at Z T;have H:=U.YO;obtain⟨_,_,_,_,ab,_⟩:=U.Oi;have W:q.sz/q.es≠0:=by have:=Nat.div_pos H ab;omega
     exact fU (jB h ⟨_,alV W,by simp only[VR];exact⟨A,_,k1,rfl,λ_=>⟨q,T,rfl⟩⟩⟩)
    ·exact fU (jB h ⟨_,alU,by simp only[VR];exact⟨[],_,k1,rfl,λN=>absurd rfl N⟩⟩)
   ·cases c
  ·cases c
 ·next id n k=>
  split at c
  ·next t it ac=>
   have:=UZ ac;subst this;split at c
   ·next e m et f ad Z=>
    split at c
    ·next hc=>
     obtain⟨rfl,c1,E,c3⟩:=hc;split at c
     ·next n' G=>
      split at c
      ·next B=>
       rw[aO]at B;obtain⟨v,D,e⟩:=bG.1 c;cases e;simp only[aG]at l;obtain⟨u,_,rfl,z,L,_,rfl,d,rfl⟩:=l;simp only[VR]at z d;obtain⟨ys,p,k1,rfl,hp⟩:=z;obtain⟨gk,j1,_,j3⟩:=d;obtain⟨ap,j4,j5⟩:=aJ.tH k _ G aA;rw[j1]at j4;cases j4;obtain⟨nn,gs,b1,O,b3⟩:=oz (F:=F) D;simp only[Nd.den]at O;split at O
       ·next A l=>
        split at O
        ·next ae=>
         obtain⟨b,hb,rfl⟩:=bG.1 O;simp only[Nd.den]at j5;split at j5
         ·next zs hz=>
          cases j5;have X:=Ak 100 B.1 l k1;have Y:=Ak 100 B.2 l hz;simp only[GR]at j3;subst j3;have fin:∀{F':Env}(y:Value),VR F' (.s b) y->VR F' v y:=by intro F' y hy;obtain⟨_,g2,_,d2,d3⟩:=oz (F:=F') D;simp only[Nd.den,l,au ae,hb,iH,bf]at d2;subst d2;exact d3 y rfl ((mQ _ _).2 hy)
          by_cases R:A=[]
          ·subst R;have af:zs.length=0:=Y.symm;have ag:b=[]:=by simpa[oJ]using hb.symm
           subst ag;rw[af];refine fU ⟨.string ⟨⟨[]⟩⟩,w,F,aE7 p,(St.refl h).WY id,fin _ (by simp only[VR])⟩
          ·have ai:ys≠[]:=by intro e;rw[e]at X;exact R (jT X)
           obtain⟨q,T,rfl⟩:=hp ai;obtain⟨aq,i1,i2,i3,i4,i5,i6,i7,hS⟩:=O8 h Z T;rw[l]at i1;cases i1;have ak:bW A=eP A:=by unfold bW;rw[U4 hb]
           have H:0<A.length:=LY.2 R;have al:takeN (bW A) 0 ((A.length:Nat):Int).toNat=some (eP A):=by rw[ak];unfold takeN;rw[dY,lS (by rw[nS];simp),au (by rw[nS];simp)]
           have am:A.length<2^62:=ah;obtain⟨y,w',r1,r2,r3⟩:=amH (it:=it) (ty:=ty) (off:=0) (n:=A.length) hS ad FT c1 E ah ah c3 al (Qo hb) T;rw[<-Y];refine fU ⟨y,w',F,by simpa using r1,?_,fin _ r3⟩;refine((TD Z r2).WY id).sub (λk o G=>?_) (dK _) rfl;rw[aC.Ad]at G⊢;split at G
           ·cases G
           ·next S=>
            rw[aj S];unfold lW;rw[aC.get_put,aj S,aC.get_put,aj S];exact G
         ·cases j5
        ·cases O
       ·cases O
      ·cases c
     ·cases c
    ·cases c
   ·cases c
  ·cases c
 ·cases c
def lY(P:Program)(f:FuncId)(args:W2)(w:World)(R:Value->World->Prop):Prop:=
 (∃v a,(callFunc f args).run P w=.ok (.value v) a/\R v a)\/
 ((callFunc f args).run P w=.ok (.enter f args) w/\Calls P f args w λe a=>∃v,e=.returned v/\R v a)
def tN(P:Program)(call:Caller):Prop:=∀f args J r J',call f args J=some (r,J')->∀F w a,SR P F J w->aG F args a->
 lY P f ⟨a⟩ w λv c=>∃b,St P F J w b J' c/\VR b r v
def Hl:Op->Bool
 |.call {callee:=.value _,..}=>true
 |.call {callee:=.invoke _ _,..}=>true
 |_=>false
def aw5{f:FuncId}{first a:Q6}{b vs:Qt}(h1:aG F first b)(c:aG F a vs):∃y,(Instr.makeFunc (.func f) ⟨b⟩ ⟨vs⟩).run P w=.ok y w/\VR F (.fn f first a) y:=
 ⟨_,rfl,by simp only[VR];exact⟨b,vs,rfl,h1,c⟩⟩
def Om{b:QR}{U:Operand->Value}(c:∀x a,b x=some a->VR F a (U x)){o:Option Operand}{r:Qf}(h:KF b o=some r):mX F r (o.map U):=by
 cases o with
 |none=>simp[KF]at h;subst h;trivial
 |some x=>simp only[KF,bG]at h;obtain⟨a,d,rfl⟩:=h;exact c _ _ d
def JX{α β:Type}(a:Array α)(f:α->β):a.map f=⟨a.toList.map f⟩:=by apply Pv;simp
set_option maxHeartbeats 1000000 in
def aj3(h:SR P F J w){call:Caller}{o:Oper}{ev:QR}{U:Operand->Value}(j:∀x a,ev x=some a->VR F a (U x))(hc:Hl o.op=false){r:Qf}
 (d:xq P call o ev J=some (r,J')):PS P F J w r J' (execOp U o):=by
 unfold xq at d;unfold execOp;split at d
 ·next x p=>rw[p];obtain⟨v,h1,rfl,rfl⟩:=kL d;exact⟨_,w,F,rfl,St.refl h,_,rfl,j _ _ h1⟩
 ·next x p=>rw[p];obtain⟨v,h1,rfl,rfl⟩:=kL d;exact⟨_,w,F,rfl,St.refl h,_,rfl,j _ _ h1⟩
 ·next c a b p=>
  rw[p];split at d
  ·next t S=>
   obtain⟨vd,ai,S⟩:=Jt S;obtain⟨v,h1,rfl,rfl⟩:=kL d;refine⟨.value (if t then U a else U b),w,F,?_,St.refl h,_,rfl,?_⟩
   ·simp only[aY,anR (S _ _ (j _ _ ai)),aX,bP]
   ·cases t
    ·exact j _ _ h1
    ·exact j _ _ h1
  ·cases d
 ·next t p=>
  rw[p];simp only[bG]at d;obtain⟨z,hz,e⟩:=d;cases e;exact fU (anI h hz)
 ·next t x p=>
  rw[p];simp only[bG]at d;obtain⟨z,hz,e⟩:=d;cases e;exact fU (afF h (j _ _ hz))
 ·next t M p=>
  rw[p];split at d
  ·next ps T=>
   obtain⟨v,h1,rfl,rfl⟩:=kL d;exact fU (jB h (an7 h1 (by rw[JX];exact aaB j T)))
  ·cases d
 ·next t len M p=>
  rw[p];split at d
  ·next e an bytes z ps hi T=>
   split at d
   ·cases d
   ·next ac=>
    split at d
    ·next cs W=>
     have e1:=IZ d;refine awX (t:=t) (qs:=M.map λ(i,x)=>(i,U x)) (λv τ e2 hr=>?_) h hi ac W (by rw[JX];exact aaB j T);rw[e2]at e1;cases e1;exact fU hr
    ·cases d
  ·cases d
 ·next t a p=>
  rw[p];split at d
  ·next av N=>
   obtain⟨v,h1,rfl,rfl⟩:=kL d;rcases xJ h1 with h1|h1
   ·exact fU (jB h (Hu h h1 (j _ _ N)))
   ·exact fU (jB h (aEr h h1 (j _ _ N)))
  ·cases d
 ·next t a x p=>
  rw[p];split at d
  ·next av xv N B=>
   obtain⟨h1,rfl⟩:=adi d;rcases xJ h1 with h1|h1
   ·obtain⟨H,I,L⟩:=Yo h h1 (j _ _ N) (j _ _ B);exact Ol ⟨H,F,I,L⟩
   ·obtain⟨H,I,L⟩:=aEv h h1 (j _ _ N) (j _ _ B);exact Ol ⟨H,F,I,L⟩
  ·cases d
 ·next x p=>
  rw[p];split at d
  ·next id X B=>
   obtain⟨v,h1,rfl,rfl⟩:=kL d;cases h1;have D:=j _ _ B;simp only[VR]at D;obtain⟨q,hq,D⟩:=D;exact⟨.value (U x),w,F,by simp only[D];rfl,St.refl h,_,rfl,j _ _ B⟩
  ·next b X B=>
   obtain⟨v,h1,rfl,rfl⟩:=kL d;cases h1;have D:=j _ _ B;simp only[VR]at D;obtain⟨bl,base,cs,ad,fr,y,_,_,D,_⟩:=D;exact⟨.value (U x),w,F,by simp only[D];rfl,St.refl h,_,rfl,j _ _ B⟩
  ·next m X B=>
   obtain⟨v,h1,rfl,rfl⟩:=kL d;cases h1;have D:=j _ _ B;simp only[VR]at D;obtain⟨g,bl,base,cs,ad,fr,y,_,_,_,D,_⟩:=D;exact⟨.value (U x),w,F,by simp only[D];rfl,St.refl h,_,rfl,j _ _ B⟩
  ·next id m X B=>
   obtain⟨v,h1,rfl,rfl⟩:=kL d;cases h1;have D:=j _ _ B;simp only[VR]at D;obtain⟨q,kk,i,_,_,D⟩:=D;exact⟨.value (U x),w,F,by simp only[D];rfl,St.refl h,_,rfl,j _ _ B⟩
  ·next f fs cs B=>
   obtain⟨v,h1,rfl,rfl⟩:=kL d;cases h1;have D:=j _ _ B;simp only[VR]at D;obtain⟨us,vs,D,_⟩:=D;exact⟨.value (U x),w,F,by simp only[D];rfl,St.refl h,_,rfl,j _ _ B⟩
  ·cases d
 ·next op t x y _ p=>
  rw[p];split at d
  ·next a b A E=>
   obtain⟨v,h1,rfl,rfl⟩:=kL d;rcases xJ h1 with h1|h1
   ·exact fU (jB h (an0 h h1 (j _ _ A) (j _ _ E)))
   ·exact fU (jB h (aEk h1 (j _ _ A) (j _ _ E)))
  ·cases d
 ·next op t x p=>
  rw[p];split at d
  ·next a A=>
   split at d
   ·next u Q=>
    obtain⟨v,h1,rfl,rfl⟩:=kL d;simp only[xZ]at h1;obtain⟨z,hz,yF⟩:=h1;have ae:(Op.unary op (U x)).run P w=.ok z w:=by rw[DF Q (j _ _ A)];exact Dy hz w
    exact fU (jB h ⟨z,ae,EW _ _ _ yF⟩)
   ·obtain⟨v,h1,rfl,rfl⟩:=kL d;exact fU (jB h (aEw h1 (j _ _ A)))
  ·cases d
 ·next src aq x p=>
  rw[p];split at d
  ·next a A=>
   obtain⟨v,h1,rfl⟩:=E9 d;rcases xJ h1 with h1|h1
   ·exact fU (QC h h1 (j _ _ A))
   ·exact fU (aEm h h1 (j _ _ A))
  ·cases d
 ·next t x p=>
  rw[p];split at d
  ·next a A hi=>
   obtain⟨v,h1,rfl,rfl⟩:=kL d;cases h1;exact fU (jB h (aw6 hi (j _ _ A)))
  ·cases d
 ·next f first ao p=>
  rw[p];split at d
  ·next fs cs ak al=>
   obtain⟨v,h1,rfl,rfl⟩:=kL d;cases h1;simp only[JX];exact fU (jB h (aw5 (Ny j ak) (Ny j al)))
  ·cases d
 ·next t r' p=>
  rw[p];split at d
  ·cases d;exact fU (ajr h (.inl rfl))
  ·next x=>
   split at d
   ·next a kt et A Q=>
    split at d
    ·next hm=>
     cases d;obtain⟨k,n,Y⟩:=aw9 hm (j _ _ A);exact fU (ajr h (.inr ⟨k,n,kt,et,by simp[Y],Q⟩))
    ·cases d
   ·cases d
 ·next t l c p=>
  rw[p];split at d
  ·next a b A E=>
   obtain⟨v,h1,rfl⟩:=E9 d;rcases xJ h1 with h1|h1
   ·exact fU (aw7 h h1 (j _ _ A) (j _ _ E))
   ·exact fU (aEt h h1 (j _ _ A) (j _ _ E))
  ·cases d
 ·next t x lo hi p=>
  rw[p];split at d
  ·next a ar aw A Z aa=>
   rcases xJ d with d|d
   ·obtain⟨v,h1,rfl,rfl⟩:=kL d;rcases xJ h1 with h1|h1
    ·exact fU (jB h (Yh h h1 (j _ _ A) (Om j Z) (Om j aa)))
    ·exact fU (jB h (amd h h1 (j _ _ A) (Om j Z) (Om j aa)))
   ·obtain⟨v,h1,rfl⟩:=E9 d;exact fU (aEu h h1 (j _ _ A) (Om j Z) (Om j aa))
  ·cases d
 ·next t x f p=>
  rw[p];split at d
  ·next a A=>
   obtain⟨v,h1,rfl,rfl⟩:=kL d;rcases xJ h1 with h1|h1
   ·exact fU (jB h (atQ h1 (j _ _ A)))
   ·exact fU (jB h (aEn h1 (j _ _ A)))
  ·cases d
 ·next t x f p=>
  rw[p];split at d
  ·next a A=>
   obtain⟨v,h1,rfl,rfl⟩:=kL d;exact fU (jB h (atS h1 (j _ _ A)))
  ·cases d
 ·next t x ix p=>
  rw[p];split at d
  ·next a k A Y=>
   obtain⟨v,h1,rfl,rfl⟩:=kL d;rcases xJ h1 with h1|h1
   ·exact fU (jB h (Ru h1 (j _ _ A) (j _ _ Y)))
   ·exact fU (jB h (aEo h h1 (j _ _ A) (j _ _ Y)))
  ·cases d
 ·next t x ix p=>
  rw[p];split at d
  ·next a k A Y=>
   obtain⟨v,h1,rfl,rfl⟩:=kL d;rcases xJ h1 with h1|h1
   ·exact fU (jB h (abo h1 (j _ _ A) (j _ _ Y)))
   ·exact fU (jB h (aEp h1 (j _ _ A) (j _ _ Y)))
  ·cases d
 ·next t m k ok p=>
  rw[p];split at d
  ·next a b A E=>
   obtain⟨v,h1,rfl,rfl⟩:=kL d;rcases xJ h1 with h1|h1
   ·exact fU (jB h (awY h h1 (j _ _ A) (j _ _ E)))
   ·exact fU (jB h (aEs h h1 (j _ _ A) (j _ _ E)))
  ·cases d
 ·next t m k x p=>
  rw[p];split at d
  ·next a b c A E O=>
   obtain⟨h1,rfl⟩:=adi d;rcases xJ h1 with h1|h1
   ·obtain⟨H,I,L⟩:=ajt h h1 (j _ _ A) (j _ _ E) (j _ _ O);exact Ol ⟨H,F,I,L⟩
   ·obtain⟨H,I,L⟩:=amc h h1 (j _ _ A) (j _ _ E) (j _ _ O);exact Ol ⟨H,F,I,L⟩
  ·cases d
 ·next t m k x p=>
  rw[p];split at d
  ·next a b c A E O=>
   obtain⟨h1,rfl⟩:=adi d;rcases xJ h1 with h1|h1
   ·obtain⟨H,I,L⟩:=ajt h h1 (j _ _ A) (j _ _ E) (j _ _ O);exact Ol ⟨H,F,I,L⟩
   ·obtain⟨H,I,L⟩:=amc h h1 (j _ _ A) (j _ _ E) (j _ _ O);exact Ol ⟨H,F,I,L⟩
  ·cases d
 ·next t x p=>
  rw[p];split at d
  ·next s Q hx=>
   cases d;have D:=j _ _ hx;simp only[VR]at D;simp only[D];exact fU (aAv h Q)
  ·next k e Q hx=>
   cases d;have D:=j _ _ hx;simp only[VR]at D;simp only[D];exact fU (aAt h Q)
  ·next k e id Q hx=>
   split at d
   ·next es hg=>
    cases d;exact fU (aAu h Q hg (j _ _ hx))
   ·cases d
  ·cases d
 ·next it p=>
  rw[p];split at d
  ·next a A=>
   obtain⟨v,h1,rfl⟩:=E9 d;obtain⟨y,H,I,L,h4⟩:=ayb (ty:=o.type) h h1 (j _ _ A);exact fU ⟨y,H,F,I,L,h4⟩
  ·cases d
 ·next it p=>
  rw[p];have af:VR F (.fG [.b false]) (.tuple #[.bool false]):=by simp only[VR];exact⟨[_],rfl,aG.cons (by simp only[VR]) (by simp[aG])⟩
  split at d
  ·next id A=>
   split at d
   ·next hg=>
    cases d;exact fU (jB h ⟨_,ax9 (ty:=o.type) h hg (j _ _ A),af⟩)
   ·next m hg=>
    split at d
    ·next hm=>
     cases d;exact fU (jB h ⟨_,aya (ty:=o.type) h hg hm (j _ _ A),af⟩)
    ·cases d
   ·cases d
  ·cases d
 ·next x xt t ok p=>
  rw[p];split at d
  ·next a A=>
   obtain⟨v,h1,rfl,rfl⟩:=kL d;exact fU (jB h (aEZ h1 (j _ _ A)))
  ·cases d
 ·next x k p=>
  rw[p];split at d
  ·next l A=>
   obtain⟨v,h1,rfl,rfl⟩:=kL d;exact fU (jB h (as9 h1 (j _ _ A)))
  ·cases d
 ·next c p=>
  rw[p];split at d
  ·next args ab=>
   split at d
   ·next b E=>
    have D:=Ny j ab;have d:I4 P b c.argTypes args J=some (r,J')\/Le P b c.argTypes args J=some (r,J'):=by
     cases ag:adK b args with
     |true=>rw[ag,cond_true]at d;exact(xJ d).symm
     |false=>rw[ag,cond_false]at d;exact xJ d
    rcases d with d|d
    ·have G:=an8 (cs:=c.args.map fun|.const _=>true|_=>false) (ty:=o.type) h d D;simp only[resolve,E,JX,pure_bind,invoke];rw[JX]at G;exact G
    ·have G:=aEl (cs:=c.args.map fun|.const _=>true|_=>false) (ty:=o.type) h d D;simp only[resolve,E,JX,pure_bind,invoke];rw[JX]at G;exact G
   ·next f W=>
    rw[p]at hc;exfalso;obtain⟨R,args,am⟩:=c;simp only at W;subst W;simp[Hl]at hc
   ·next f ap W=>
    rw[p]at hc;exfalso;obtain⟨R,args,am⟩:=c;simp only at W;subst W;simp[Hl]at hc
  ·cases d
 ·cases d
def agu(r:Value)(l:Qt):(#[r]++(⟨l⟩:W2))=⟨r::l⟩:=by apply Pv;simp
def awj(a:String)(r:Value)(l:Qt):invoke (.fn (.method a) #[]) (#[r]++(⟨l⟩:W2))=callMethod r a ⟨l⟩:=by
 rw[agu];have b:(⟨r::l⟩:W2)[0]? =some r:=aA;have c:(⟨r::l⟩:W2).extract 1 (⟨r::l⟩:W2).size=⟨l⟩:=by apply Pv;simp
 have:invoke (.fn (.method a) #[]) (⟨r::l⟩:W2)=(do
  let some recv:=(⟨r::l⟩:W2)[0]? |stuck "call: a method without a receiver"
  callMethod recv a ((⟨r::l⟩:W2).extract 1 (⟨r::l⟩:W2).size)):=rfl
 rw[this,b,c]
def axn(h:SR P F J w){b:String}{a A:AV}{f:FuncId}{x:Value}(c:UD P b J a=some (f,A))(B:VR F a x)(args:W2):
 ∃y,(callMethod x b args).run P w=(callFunc f (#[y]++args)).run P w/\VR F A y:=by
 unfold UD at c;split at c
 ·next t v=>
  simp only[VR]at B;obtain⟨l,rfl,o⟩:=B;split at c
  ·next i d hi p=>
   split at c
   ·next m G=>
    split at c
    ·next D r E H=>
     have j:∀y,(receiverAt t (.val l) r (some ((b.splitOn ".").getLastD b))).run P w=.ok y w->
      (callMethod (.iface t l) b args).run P w=(callFunc D (#[y]++args)).run P w:=by
      intro y I;have s:m.path.isEmpty=true:=by simpa using E
      have:∀n:Nat,(method (n+1) t l b).run P w=.ok (D,y) w:=by intro n;simp only[method,aY,Ie hi,aX,G,E,follow,bP,H,s,if_true,I]
      simp only[callMethod,aY,program,Sem.run,aX];rw[show P.types.size+Made.depth=(P.types.size+Made.depth-1)+1 by simp[Made.depth],this];rfl
     split at c
     ·next e=>
      cases c;exact⟨l,j _ (by simp only[receiverAt,aY,bD p,aX,Go.Place.get,bP]),o⟩
     ·next e=>
      split at c
      ·next id g=>
       simp only[bG,pU]at c;obtain⟨z,L,rfl,rfl⟩:=c;obtain⟨y,M,N⟩:=Hu h L o;simp only[VR]at o;obtain⟨q,Q,rfl⟩:=o;refine⟨y,j _ ?_,N⟩;have u:(loadVar e ⟨q.bl,q.ba+g,none⟩).run P w=.ok y w:=by simpa[Instr.loadAt,Instr.sureAddr]using M
       have k:∀O:String,(Builtin.ssaWrapNilChk_ #[t] t #[.pointer (some ⟨q.bl,q.ba+g,none⟩),strVal "",strVal O]).run P w=.ok (.pointer (some ⟨q.bl,q.ba+g,none⟩)) w:=λ_=>rfl;have has:(asAddr (.pointer (some ⟨q.bl,q.ba+g,none⟩))).run P w=.ok ⟨q.bl,q.ba+g,none⟩ w:=rfl;simp only[receiverAt,aY,bD p,aX,Go.Place.get,bP,k,has,u]
      ·cases c
     ·cases c
     ·next R S T=>
      cases c;refine⟨l,j _ ?_,o⟩;simp only[receiverAt,aY,bD p,aX];cases d<;>simp only[Go.Place.get,bP]
      all_goals simp_all
    ·cases c
   ·cases c
  ·cases c
 ·cases c
def afX(h:SR P F J w){call:Caller}(j:tN P call){o:Oper}{a:bK}{A:Act}(W:TR P F a A)(E:Hl o.op=true){r:Qf}{K:Act->World->Prop}{Q:Exit->Act->World->Prop}
 (i:xq P call o a.eval J=some (r,J')) (G:∀v x F' w',r=some v->St P F J w F' J' w'->VR F' v x->K (A.put o.dst x) w'):o.wp P A w K Q:=by
 have H:∀x v,a.eval x=some v->VR F v (A.eval x):=λx v l=>QS h W x v l;unfold xq at i;cases m:o.op with
 |call c=>
  rw[m]at E i;simp only at i;split at i
  ·next args k=>
   obtain⟨n,p,X⟩:=c;cases n with
   |builtin b=>simp[Hl]at E
   |invoke rc R=>
    simp only at i;split at i
    ·next f rv B=>
     simp only[xZ]at B;obtain⟨iv,I,B⟩:=B;obtain⟨u,L,rfl⟩:=E9 i;have q:=Ny H k;obtain⟨y,Y,Z⟩:=axn h B (H _ _ I) (⟨p.toList.map A.eval⟩);have s:=j _ _ _ _ _ L F w (y::p.toList.map A.eval) h (aG.cons Z q);have t:(execOp A.eval o).run P w=(callFunc f ⟨y::p.toList.map A.eval⟩).run P w:=by
      unfold execOp;rw[m];have e0:p.map A.eval=⟨p.toList.map A.eval⟩:=by apply Pv;simp
      simp only[resolve,pure_bind,e0];rw[awj,Y,agu]
     unfold Oper.wp;rw[t];rcases s with⟨v,w',d,F',g,l⟩|⟨d,z⟩
     ·rw[d];exact G u v F' w' rfl g l
     ·rw[d];refine Calls.mono z ?_;rintro e w' ⟨v,rfl,F',g,l⟩
      exact G u v F' w' rfl g l
    ·cases i
   |value f=>
    simp only at i;split at i
    ·next fn fi S B=>
     obtain⟨u,L,rfl⟩:=E9 i;have D:=H _ _ B;simp only[VR]at D;obtain⟨T,U,M,N,O⟩:=D;have q:=Ny H k;have s:=j _ _ _ _ _ L F w (T++p.toList.map A.eval++U) h ((N.append q).append O);have t:(execOp A.eval o).run P w=(callFunc fn ⟨T++p.toList.map A.eval++U⟩).run P w:=by unfold execOp;rw[m];simp only[resolve,M,Deferred.ofValue,pure_bind,invoke];congr 2;apply Pv;simp
     unfold Oper.wp;rw[t];rcases s with⟨v,w',d,F',g,l⟩|⟨d,z⟩
     ·rw[d];exact G u v F' w' rfl g l
     ·rw[d];refine Calls.mono z ?_;rintro e w' ⟨v,rfl,F',g,l⟩
      exact G u v F' w' rfl g l
    ·cases i
  ·cases i
 |_=>rw[m]at E;simp[Hl]at E
def aFS{b:W7}{j:Nat}{o:Oper}{d:Nat}{a:bK}{A:Act}{x:Bool}(g:TR P F a A)(h:b[j]? =some o)(i:o.dst=some d)(f:dB (a.t.get d)=some (.b x)):yielded b A.tmps j=some x:=by obtain⟨l,f,c⟩:=Jt f;obtain⟨y,k,e⟩:=g.slot d _ f;have e:=c _ _ e;simp only[VR]at e;subst e;simp only[yielded,h,AU,i,k]
def Iu{o:Oper}{f:W7}{a:bK}{A:Act}{b:Bool}(m:TR P F a A)(c:LH o f a=some b):Region.wanted o (yielded f A.tmps)=b:=by
 unfold LH at c;unfold Region.wanted;split at c
 ·next k=>rw[k];cases c;rfl
 ·next j e k=>
  rw[k];split at c
  ·next q n=>
   split at c
   ·next d p=>
    split at c
    ·next x g=>
     cases c;simp only[aFS m n p g];cases x<;>cases e<;>rfl
    ·next l g=>
     cases c;obtain⟨s,g,h⟩:=Jt g;obtain⟨y,r,i⟩:=m.slot d _ g;have i:=h _ _ i;simp only[VR]at i;obtain⟨t,rfl,_⟩:=i;simp only[yielded,n,AU,p,r];cases e<;>rfl
    ·cases c
   ·cases c
  ·cases c
def step_ok(h:SR P F J w){call:Caller}(f:tN P call){k:W7}{i:Nat}{a s:bK}{A:Act}(d:TR P F a A){K:Act->World->Prop}{Q:Exit->Act->World->Prop}
 (c:Zv P call k i a J=some (s,J')) (p:∀F' t w',St P F J w F' J' w'->TR P F' s t->K t w'):wpOp P k Q i K A w:=by
 unfold Zv at c;unfold wpOp;split at c
 ·cases c
 ·next o z=>
  rw[z];simp only;split at c
  ·cases c
  ·next q=>
   rw[Iu d q];simp only[iJ,if_false];simp only[bG,pU]at c;obtain⟨B,l,rfl,rfl⟩:=c;exact p F _ w (St.refl h) (d.put l (by rintro u j;cases j;exact⟨[],rfl,rfl⟩))
  ·next q=>
   rw[Iu d q];simp only[if_true];split at c
   ·cases c
   ·next r E g=>
    rw[Ez]at g;simp only[bG,pU]at c;obtain⟨B,l,rfl,rfl⟩:=c;left;cases y:Hl o.op with
    |true=>refine afX h f d y g λv x F' w' D b m=>?_;exact p F' _ w' b ((d.mono b.ext).put l (λu j=>by rw[D]at j;cases j;exact m))
    |false=>
     obtain⟨G,w',F',n,b,e⟩:=aj3 h (λx v m=>QS h d x v m) y g;unfold Oper.wp;rw[n];cases r with
     |none=>subst e;exact p F' _ w' b ((d.mono b.ext).put l aA)
     |some v=>obtain⟨x,rfl,m⟩:=e;exact p F' _ w' b ((d.mono b.ext).put l (λu j=>by cases j;exact m))
def aj7{call:Caller}(b:tN P call){d:W7}{Q:Exit->Act->World->Prop}:∀(l:Q4){F:Env}{J:aC}{w:World}{a g:bK}{A:Act},SR P F J w->TR P F a A->
 MJ P call d l a J=some (g,J')->(∀F' j w',St P F J w F' J' w'->TR P F' g j->Q .normal j w')->wpOps P d Q l A w
 |[],F,J,w,a,g,A,h,k,c,m=>by simp only[MJ,bf,pU]at c;obtain⟨rfl,rfl⟩:=c;exact m F A w (St.refl h) k
 |i::l,F,J,w,a,g,A,h,k,c,m=>by
  rw[wpOps_cons];unfold MJ at c;split at c
  ·next q r p=>
   refine step_ok h b k p λs t w1 e n=>?_;exact aj7 b l e.rel n c λF' j w' f o=>m F' j w' (e.trans f) o
  ·cases c
def fM.toExit:fM->Exit
 |.normal=>.normal
 |.exit id=>.exit id
 |.ret=>.ret
def TW(P:Program)(g:Caller->BU):Prop:=∀call,tN P call->∀b a J c J',g call b a J=some (c,J')->∀F w A id Q,SR P F J w->TR P F a A->
 (∀d e f,St P F J w d J' f->TR P d c e->Q .normal e f)->(Code.region id b true).wp P Q A w
def Un(P:Program)(c:yY):Prop:=∀f g,c f=some g->∀args J r J',g args J=some (r,J')->∀F w a,SR P F J w->aG F args a->
 lY P f ⟨a⟩ w λv d=>∃b,St P F J w b J' d/\VR b r v
def xX(P:Program):Prop:=∀(f:Nat) fn c,P.funcs[f]? =some fn->fn.body=some c->(fn.name == "runtime.NumGoroutine")=false
def PY(P:Program)(run:Code->bK->aC->Option (fM×bK×aC)):Prop:=∀c a J e b J',run c a J=some (e,b,J')->∀F w A Q,SR P F J w->TR P F a A->
 (∀d f g,St P F J w d J' g->TR P d b f->Q e.toExit f g)->c.wp P Q A w
def SS(h:SR P F J w){a:bK}{A:Act}(j:TR P F a A)(g:ResultVar->Sem Value)(c:∀t,g (.tmp t)=pure (A.tmps.getD t undef))(d:∀a t,g (.cell a t)=(do loadVar t (<-asAddr (A.tmps.getD a undef)))):
 ∀(rs:List ResultVar)(l:Q6),CJ P J a rs=some l->∃vs,(rs.mapM g).run P w=.ok vs w/\aG F l vs
 |[],l,b=>by simp only[CJ,bf]at b;subst b;exact⟨[],rfl,by simp[aG]⟩
 |.tmp t::rs,l,b=>by
  unfold CJ at b;split at b
  ·next v r e k=>
   cases b;obtain⟨vs,h1,m⟩:=SS h j g c d rs r k;obtain⟨x,n,f⟩:=j.slot t v e;refine⟨x::vs,?_,aG.cons f m⟩;simp only[aeL,c,aY,bP,aX,h1];rw[Az,n];rfl
  ·cases b
 |.cell t B::rs,l,b=>by
  unfold CJ at b;split at b
  ·next v r e k=>
   cases b;obtain⟨vs,h1,m⟩:=SS h j g c d rs r k;simp only[xZ]at e;obtain⟨p,D,e⟩:=e;obtain⟨x,n,f⟩:=j.slot t p D;obtain⟨y,E,G⟩:=Hu h e f;refine⟨y::vs,?_,aG.cons G m⟩;have o:∃i,x=.pointer (some i):=by
    cases p<;>simp[yj]at e
    ·simp only[VR]at f;obtain⟨q,_,rfl⟩:=f;exact⟨_,rfl⟩
    ·simp only[VR]at f;obtain⟨I,base,L,z,M,x,_,_,rfl,_⟩:=f;exact⟨_,rfl⟩
   obtain⟨i,rfl⟩:=o;have H:A.tmps.getD t undef=.pointer (some i):=by rw[Az,n];rfl
   have s:(loadVar B i).run P w=.ok y w:=by simpa[Instr.loadAt,Instr.sureAddr]using E
   have u:(asAddr (A.tmps.getD t undef)).run P w=.ok i w:=by rw[H];rfl
   simp only[aeL,d,aY,bP,aX,h1,u,s]
  ·cases b
def aEX{l:Q6}{vs:Qt}(h:aG F l vs):VR F (Ll l) (if h:(⟨vs⟩:W2).size=1 then(⟨vs⟩:W2)[0]else .tuple ⟨vs⟩):=by
 have b:=h.length;unfold Ll;split
 ·next v=>
  simp only[aG]at h;obtain⟨x,_,rfl,c,rfl⟩:=h;simpa using c
 ·next a=>
  have:(⟨vs⟩:W2).size≠1:=by
   intro e;have:l.length=1:=by rw[b];exact e
   obtain⟨v,rfl⟩:=Y9.1 this;exact a v rfl
  rw[dif_neg this];simp only[VR];exact⟨vs,rfl,h⟩
def afq:∀(args:Q6)(k:Nat)(t:Tr AV)(j:Nat),(A8 args k t).get j=if k<=j/\j<k+args.length then args[j-k]? else t.get j
 |[],k,t,j=>by simp[A8];omega
 |v::args,k,t,j=>by
  rw[A8,afq args (k+1)];simp only[ig];by_cases h1:k+1<=j/\j<k+1+args.length
  ·rw[au h1,au ah];have:j-k=(j-(k+1))+1:=ah;rw[this];simp
  ·rw[aj h1,Tr.wE];by_cases a:j=k
   ·subst a;rw[au rfl,au ah];simp
   ·rw[aj a,aj ah]
def aaz{args:Q6}{vs:Qt}{n:Nat}(h:aG F args vs):
 TR P F {t:=A8 args 0 .nil,n:=max args.length n,gn:=P.globals.size} {tmps:=(⟨vs⟩:W2)++Array.replicate (n-(⟨vs⟩:W2).size) undef,defers:=[]}:=by
 have e:=h.length;refine⟨rfl,?_,rfl,λt v a=>?_⟩
 ·simp;omega
 ·rw[afq]at a;split at a
  ·next f=>
   obtain⟨x,b,d⟩:=h.at a;refine⟨x,?_,d⟩;simp only[IY]at b;have c:=(fV.1 b).1;rw[YX (by simpa using c)];simpa using b
  ·simp at a
def afW{G:yY}{run:Code->bK->aC->Option (fM×bK×aC)}(N:Un P G)(O:xX P)(Q:PY P run):tN P (Jl P G run):=by
 intro f args J r J' d F w H h I;unfold Jl at d;split at d
 ·next g R=>exact N f g R args J r J' d F w H h I
 ·split at d
  ·cases d
  ·next fn o=>
   split at d
   ·cases d
   ·next c D=>
    have x:∀(e:fM) p,(e=.normal\/e=.ret)->run c {t:=A8 args 0 .nil,n:=max args.length fn.ntmps,gn:=P.globals.size} J=some (e,p,J')->∀l,CJ P J' p fn.results.toList=some l->r=Ll l->
     lY P f ⟨H⟩ w λv i=>∃m,St P F J w m J' i/\VR m r v:=by
     intro e p S b l y E;right;refine⟨?_,?_⟩
     ·have q:=O f fn c o D;simp only[callFunc,aY,program,Sem.run,aX,o];simp only[q,iJ,if_false,D,Me,bP]
     ·refine calls_of_wp o D ?_;refine Q c _ _ _ _ _ b F w _ _ h (aaz I) ?_;intro m z i A L;have j:∃s,(results fn z.tmps).run P i=.ok (if h:(⟨s⟩:W2).size=1 then(⟨s⟩:W2)[0]else .tuple ⟨s⟩) i/\aG m l s:=by unfold results;rw[YZ];simp only[aY,Zj];obtain⟨s,B,u⟩:=SS A.rel L (fun|.tmp t=>pure (z.tmps.getD t undef)|.cell a t=>do loadVar t (<-asAddr (z.tmps.getD a undef))) (λ_=>rfl) (λ_ _=>rfl) _ _ y;refine⟨s,?_,u⟩;exact uD (λr:Result Qt=>(r.andThen λa i=>Result.ok a.toArray i).andThen λa i=>Sem.run P (pure (if h:a.size=1 then a[0]else Value.tuple a)) i) B
      obtain⟨s,j,u⟩:=j
      have k:z.defers=[]/\∃v,(results fn z.tmps).run P i=.ok v i/\∃M,Ending.returned v=.returned M/\∃m,St P F J w m J' i/\VR m r M:=
       ⟨L.none,_,j,_,rfl,m,A,by rw[E];exact aEX u⟩
      rcases S with rfl|rfl
      ·exact k
      ·exact k
    split at d
    ·next p T b=>
     simp only[bG,pU]at d;obtain⟨l,y,B,u⟩:=d;subst u;exact x _ p (.inl rfl) b l y B.symm
    ·next p T b=>
     simp only[bG,pU]at d;obtain⟨l,y,B,u⟩:=d;subst u;exact x _ p (.inr rfl) b l y B.symm
    ·cases d
def agk{H:Caller->BU}{I:yY}(W:TW P H)(X:Un P I)(Y:xX P):∀n:Nat,PY P (Gg P H I n)/\
 (∀b a J e r J',Gg P H I n (.loop b) a J=some (e,r,J')->∀F w A Q,SR P F J w->TR P F a A->(∀F' s w',St P F J w F' J' w'->TR P F' r s->Q e.toExit s w')->Code.rounds P b Q n A w):=by
 intro n;induction n with
 |zero=>exact⟨λc a J e r J' d=>by simp[ae9]at d,λb a J e r J' d=>by simp[ae9]at d⟩
 |succ n Z=>
  obtain⟨i,N⟩:=Z;have o:=afW X Y i;have B:∀b a J e r J',Gg P H I (n+1) (.loop b) a J=some (e,r,J')->∀F w A Q,SR P F J w->TR P F a A->(∀F' s w',St P F J w F' J' w'->TR P F' r s->Q e.toExit s w')->Code.rounds P b Q (n+1) A w:=by
   intro b a J e r J' d F w A Q h k j;rw[rounds_succ];simp only[yc,vZ]at d;split at d
   ·next L M u=>
    refine i _ _ _ _ _ _ u F w A _ h k ?_;intro l m w1 f g;exact N _ _ _ _ _ _ d l w1 m Q f.rel g λF' s w' p v=>j F' s w' (f.trans p) v
   ·next q=>
    refine i _ _ _ _ _ _ d F w A _ h k ?_;intro l m w1 f g;cases e with
    |normal=>exact absurd d (by intro D;exact q _ _ D)
    |exit id=>exact j l m w1 f g
    |ret=>exact j l m w1 f g
  refine⟨?_,B⟩;intro c a J e r J' d F w A Q h k j;cases c with
  |loop b=>exact wp_loop_rounds (n+1) (B b a J e r J' d F w A Q h k j)
  |skip=>simp only[yc,vZ,bf,pU]at d;obtain⟨rfl,rfl,rfl⟩:=d;exact wp_skip (j F A w (St.refl h) k)
  |region id O E=>
   cases E with
   |false=>simp only[yc,vZ,bG,pU]at d;obtain⟨⟨L,M⟩,u,rfl,rfl,rfl⟩:=d;exact wp_region (aj7 o _ h k u j)
   |true=>simp only[yc,vZ,bG,pU]at d;obtain⟨⟨L,M⟩,u,rfl,rfl,rfl⟩:=d;exact W _ o O a J _ _ u F w A id Q h k j
  |seq x y=>
   simp only[yc,vZ]at d;refine wp_seq ?_;split at d
   ·next L M u=>
    refine i _ _ _ _ _ _ u F w A _ h k ?_;intro l m w1 f g;exact i _ _ _ _ _ _ d l w1 m Q f.rel g λF' s w' p v=>j F' s w' (f.trans p) v
   ·next q=>
    refine i _ _ _ _ _ _ d F w A _ h k ?_;intro l m w1 f g;cases e with
    |normal=>exact absurd d (by intro D;exact q _ _ D)
    |exit id=>exact j l m w1 f g
    |ret=>exact j l m w1 f g
  |cond x y z=>
   simp only[yc,vZ]at d;split at d
   ·next t R=>
    obtain⟨vd,R,G⟩:=Jt R;have U:=G _ _ (QS h k x _ R);simp only[VR]at U;refine wp_cond U ?_;exact i _ _ _ _ _ _ d F w A Q h k j
   ·cases d
  |block id b=>
   simp only[yc,vZ]at d;refine wp_block ?_;split at d
   ·next S L M u=>
    refine i _ _ _ _ _ _ u F w A _ h k ?_;intro l m w1 f g;simp only[fM.toExit,Exit.inBlock];split at d
    ·next T=>
     cases d;rw[au T];exact j l m w1 f g
    ·next T=>
     cases d;rw[aj T];exact j l m w1 f g
   ·next q=>
    refine i _ _ _ _ _ _ d F w A _ h k ?_;intro l m w1 f g;cases e with
    |normal=>exact j l m w1 f g
    |exit S=>exact absurd d (by intro D;exact q _ _ _ D)
    |ret=>exact j l m w1 f g
  |exit id=>simp only[yc,vZ,bf,pU]at d;obtain⟨rfl,rfl,rfl⟩:=d;exact wp_exit (j F A w (St.refl h) k)
  |ret=>simp only[yc,vZ,bf,pU]at d;obtain⟨rfl,rfl,rfl⟩:=d;exact wp_ret (j F A w (St.refl h) k)
  |rangeFunc _ _ _ _=>simp[yc,vZ]at d
  |scope _=>simp[yc,vZ]at d
  |label _=>simp[yc,vZ]at d
  |goto _=>simp[yc,vZ]at d
  |refuse _=>simp[yc,vZ]at d
def anq{a:Caller->BU}{b:yY}(e:TW P a)(c:Un P b)(d:xX P)(n:Nat):tN P (ae8 P a b n):=
 afW c d (agk e c d n).1
