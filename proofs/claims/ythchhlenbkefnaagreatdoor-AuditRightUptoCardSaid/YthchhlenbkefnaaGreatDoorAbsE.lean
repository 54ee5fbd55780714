/- Values that are named by nodes: append, make, conversions, strings.Builder's string. -/
import Derived.Test.YthchhlenbkefnaaGreatDoorAbsD
set_option linter.all false
namespace Go.aN
noncomputable section
variable[aH]
variable{P:Program}{F:Env}{J J':aA}{w:World}
def St.V9{F':Env}{w':World}(h:St P F J w F' J' w')(id:Nat):St P F J w F' (J'.kill id) w':=
 h.sub (λk o a=>by rw[aA.zO]at a;split at a;cases a;exact a) (dD _) rfl
def St.zo{F':Env}{τ:aA}{w':World}{m e size:Nat}{f:Bool}{xs:Q1}{c:Q3}{y:Value}(h:St P F J w F' (τ.new (.cells c e true true)) w')(t:aH.val m=some (.l xs))(u:∀x∈xs,x.cells.length=size/\x.cells.all GV.scalar=true)(A:sizeT P e=some size)
 (B:∀vs,aC F' c vs->aC F' (bQ xs) vs) (v:VR F' (.sl τ.next 0 xs.length none) y) (D:f=true->xs≠[]):St P F J w F' (τ.new (.vec m e f)) w'/\VR F' (.sv τ.next m) y:=by
 simp only[VR]at v;obtain⟨q,l,d,rfl⟩:=v;have z:(τ.new (.cells c e true true)).get τ.next=some (.cells c e true true):=by rw[aA.qE,aj rfl]
 have g:=h.rel.at z l;have n:q.es=size:=by obtain⟨_,_,_,_,r⟩:=g;have:=(r.room rfl).2.2;rw[A]at this;cases this;rfl
 have i:f=true->q.es<=q.sz:=λe=>by
  have p:=D e;have:0<xs.length:=Ls.2 p;simp only[uF,IB]at d;have E:1<=q.sz/q.es:=by omega
  exact kF (by simpa using uD q.es E) (Nat.div_mul_le_self q.sz q.es)
 have j:OR P F' q w' (.vec m e f):=OR.zo i t (λx s=>by rw[n];exact(u x s).1) (λx s=>(u x s).2) g B;refine⟨h.right ?_ rfl rfl ?_,by simp only[VR];exact⟨xs,t,.inl ⟨q,l,by simpa using d,by simp⟩⟩⟩
 ·refine(h.rel.swap (o':=.vec m e f) z rfl (.inl ⟨q,l,j⟩)).sub (λk o a=>?_) (dD _)
  rw[aA.qE]at a;rw[aA.get_put,aA.qE];split at a
  ·next b=>rw[aj b];exact a
  ·next b=>rw[ah b,ah b];exact a
 ·intro k o a G;rw[aA.qE]at a⊢;split at a
  ·next b=>rw[aj b];exact⟨_,rfl,rfl⟩
  ·next b=>rw[ah b];exact⟨o,a,G⟩
def Ef{xs:Q1}{size:Nat}(h:xs.all (GV.fP size)=true):∀x∈xs,x.cells.length=size/\x.cells.all GV.scalar=true:=by intro z a;have:=List.all_eq_true.1 h z a;unfold GV.fP at this;rw[aK]at this;exact⟨Nat.eq_of_beq_eq_true this.1,this.2⟩
def an4{xs:Q1}{size:Nat}(h:∀x∈xs,x.cells.length=size/\x.cells.all GV.scalar=true):(bQ xs).all AV.oO=true:=by unfold bQ;refine aaq ?_;rw[List.all_eq_true];intro g b;obtain⟨z,c,a⟩:=YB.1 b;exact List.all_eq_true.1 (h z c).2 g a
def afx(xs a:Q1):bQ (xs++a)=bQ xs++bQ a:=by unfold bQ;rw[aec,Jr]
def Je{xs:Q1}{size:Nat}(h:∀x∈xs,x.cells.length=size):(bQ xs).length=xs.length*size:=by rw[bQ,nG,Ql h]
def ac3(P:Program)(J:aA)(e size:Nat)(a:TypeId)(x:AV):QR:=
 match P.underlying a with
 |some .string=>if size=1 then match jg x with
   |some n=>fQ (.bytes n)
   |none=>none
  else none
 |some (.slice _)=>listOf P J e x
 |_=>none
def XF(h:SR P F J w){e size:Nat}{f:TypeId}{x:AV}{b:Nat}{u:Value}{xs:Q1}(c:ac3 P J e size f x=some b)(m:VR F x u)(r:sizeT P e=some size)(o:aH.val b=some (.l xs))(i:xs.all (GV.fP size)=true):
 ∃p,Src P size f u xs.length p w/\aC F (bQ xs) p:=by
 unfold ac3 at c;split at c
 ·next j=>
  split at c
  ·next t=>
   subst t;split at c
   ·next n k=>
    obtain⟨g,v,D,y⟩:=ng k m;obtain⟨E,q,d⟩:=gU c;rw[o]at q;cases q;simp only[Nd.den,v]at d;split at d
    ·next s z=>
     cases z;cases d;have A:GX P f=true:=by unfold GX;rw[j]
     have:=src_ok h A (size:=1) (n:=s.length) (l:=xX s) (a:=.s s) (x:=u) (by simp[Aa]) ((l9 (.s s) u).1 y) (by unfold xX;simp[AV.oO]);rw[afj];have B:(dh s).length=s.length:=by simp[dh]
     rw[B];exact this
    ·cases d
   ·cases c
  ·cases c
 ·next j=>exact awY h c m j r o i
 ·cases c
def awX{e size id len:Nat}{cap:QR}{a et:Nat}{c:Q3}{r opn:Bool}(s:J.get id=some (.cells c et r opn))(b:listOf P J e (.sl id 0 len cap)=some a)(t:sizeT P e=some size)(d:c.length=len*size):
 ∃h,(∀{F:Env}{vs:Q6},aC F c vs->∃gs,valsOf aH.val h=some gs/\gs.length=len/\aC F (bQ gs) vs/\∀x∈gs,x.cells.length=size/\x.cells.all GV.scalar=true)/\∀gs,valsOf aH.val h=some gs->aH.val a=some (.l gs):=by
 simp only[listOf,s,t]at b;split at b
 ·next G H u I i j k l v=>
  cases k;cases l;split at b
  ·next p=>
   rw[aK,oK,aK]at p;have f:j=false->size=1:=by
    intro e;subst e;rcases p.2 with h1|h1
    ·simp at h1
    ·exact bK h1
   have m:takeN c 0 (len*size)=some c:=by unfold takeN;rw[dN,lG (by omega),aj d]
   rw[m]at b;simp only at b;split at b
   ·next h n=>
    refine⟨h,λ{F vs} y=>?_,λgs o=>?_⟩
    ·obtain⟨gs,z,A,B,_,D⟩:=Gs (F:=F) f len n y d;exact⟨gs,z,A,B,D⟩
    ·obtain⟨g,E,q⟩:=gU b;simp only[Nd.den,o,gZ,aY]at q;rw[q];exact E
   ·cases b
  ·cases b
 ·cases b
set_option maxHeartbeats 1000000 in
def aEA(h:SR P F J w){ts:Wr}{ty:TypeId}{s x v:AV}{u u':Value}(p:ada P ts s x J=some (v,J'))(O:VR F s u)(B:VR F x u'):
 ∃y w' F',(Builtin.append_ ts ty #[u,u']).run P w=.ok y w'/\St P F J w F' J' w'/\VR F' v y:=by
 unfold ada at p;split at p
 ·next t t1 a1=>
  have:=Ui a1;subst this;split at p
  ·next e d bytes z hi=>
   obtain⟨_,_,_,he,_,V⟩:=CQ hi;split at p
   ·cases p
   ·next h0=>
    split at p
    ·cases p
    ·next b hb=>
     have am:ac3 P J e d t1 x=some b:=hb;have an:∀{a m:Nat}{j:Q1},fQ (.app d bytes a b)=some m->aH.val a=some (.l j)->∃i,aH.val b=some (.l i)/\aH.val m=some (.l (j++i))/\i.all (GV.fP d)=true/\2*(j.length+i.length)*bytes<=2^48/\j.length+i.length<=2^48:=by
      intro a m j W Z;obtain⟨g,g1,g2⟩:=gU W;simp only[Nd.den,Z]at g2;split at g2
      ·next a9 i G e2=>
       cases G;split at g2
       ·next Q=>cases g2;exact⟨i,e2,g1,Q.1,Q.2.1,Q.2.2⟩
       ·cases g2
      ·cases g2
     have Uf:∀{i:Q1}{S:AV}{n:Nat},i.all (GV.fP d)=true->sliceLen S=n->2*(n+i.length)*bytes<=2^48->n+i.length<=2^48->¬(d=0\/(bQ i).all AV.oO=false\/¬(2*(sliceLen S+i.length)*bytes<=2^48/\sliceLen S+i.length<=2^48)):=by intro i S n h1 h2 h3 h4;rw[an4 (Ef h1),h2];simp[h0];omega
     have ay:∀{a:Nat},fQ (.ml [])=some a->aH.val a=some (.l []):=by intro a Z;obtain⟨g,g1,g2⟩:=gU Z;simp only[Nd.den,valsOf,gZ,aY]at g2;subst g2;exact g1
     have az:∀{a m:Nat}{τ:aA},aH.val a=some (.l [])->fQ (.app d bytes a b)=some m->u=.slice none 0 0->τ.lock=J.lock->τ.next=J.next->(∀k o,τ.get k=some o->J.get k=some o)->
      ∀f:Bool,∃y w' F',(Builtin.append_ #[t,t1] ty #[u,u']).run P w=.ok y w'/\St P F J w F' (τ.new (.vec m e f)) w'/\VR F' (.sv J.next m) y:=by
      intro a m τ Z W M hl aD ap f;obtain⟨i,y1,I,L,y4,y5⟩:=an W Z;obtain⟨zs,z1,z2⟩:=XF h am B V y1 L;have l:=Je (λx B=>(Ef L x B).1);simp only[aX,kY,lQ]at I y4 y5;have Q:=Uf (S:=.gK) (n:=0) L rfl (by simpa using y4) (by simpa using y5);by_cases X:i.length=0
      ·have R:i=[]:=jH X;subst R;have r:qQ e d bytes .gK 0 (bQ []) J=some (.gK,J):=by unfold qQ;rw[ah (by simpa using Q)];rfl
       obtain⟨y,w',F',r1,r2,r3⟩:=D7 (ty:=ty) h hi z1 z2 l r (u:=u) (by simp only[VR];exact M);refine⟨y,w',F'.ghost J.next,r1,r2.trans ?_,?_⟩
       ·exact St.ghost r2.rel I hl aD ap
       ·simp only[VR]at r3⊢;exact⟨[],I,.inr ⟨by simp[Env.ghost],rfl,r3⟩⟩
      ·have r:qQ e d bytes .gK i.length (bQ i) J=some (.sl J.next 0 i.length none,J.new (.cells (bQ i) e true true)):=by unfold qQ;rw[ah Q];simp only;rw[ah X]
       obtain⟨y,w',F',r1,r2,r3⟩:=D7 (ty:=ty) h hi z1 z2 l r (u:=u) (by simp only[VR];exact M);obtain⟨q1,q2⟩:=St.zo (f:=f) r2 I (Ef L) V (λ_ h=>h) r3 (λ_ e=>X (by rw[e];rfl));refine⟨y,w',F',r1,q1.sub (λk o A=>?_) (by show J.next+1<=τ.next+1;omega) hl,q2⟩;rw[aA.qE]at A⊢;rw[aD]at A;split at A
       ·next G=>rw[aj G];exact A
       ·next G=>rw[ah G];exact ap k o A
     split at p
     ·split at p
      ·next a Z=>
       obtain⟨m,W,G⟩:=bC.1 p;cases G;simp only[VR]at O;exact az (τ:=J) (ay Z) W O rfl rfl (λ_ _ h=>h) true
      ·cases p
     ·next id n=>
      split at p
      ·next a D f T=>
       split at p
       ·next E=>
        rw[aK,aK]at E;obtain⟨⟨aa,aE⟩,ab⟩:=E;have Jy:=bK aa;subst Jy;have Eu:=vC ab;obtain⟨m,W,G⟩:=bC.1 p;cases G;simp only[VR]at O;obtain⟨xn,n1,O⟩:=O;rcases h.live id _ T with⟨q,Y,a2⟩|⟨ar,m0,ba,f0,e0,aL⟩
        ·obtain⟨j,x1,x2,x3,x4,x5,x6,x7,hS⟩:=OH h T Y;have ac:=zY 100 aE x1 n1;rw[V]at x5;cases x5;rcases O with⟨q',ad,av,rfl⟩|⟨ar,_,_⟩
         ·rw[Y]at ad;cases ad;obtain⟨i,y1,I,L,y4,y5⟩:=an W x1;have aw:=Je x2;have ae:∀x∈j++i,x.cells.length=q.es/\x.cells.all GV.scalar=true:=by
           intro x B;rcases jJ.1 B with B|B
           ·exact⟨x2 x B,x7 x B⟩
           ·exact Ef L x B
          obtain⟨zs,z1,z2⟩:=XF h am B V y1 L;have l:=Je (λx B=>(Ef L x B).1);have Q:=Uf (S:=.sl id 0 j.length none) (n:=j.length) L rfl y4 y5;rw[<-ac]at av⊢;have aM:VR F (.sl id 0 j.length none) (.slice (some ⟨q.bl,q.ba,none⟩) j.length (q.sz/q.es)):=by simp only[VR];exact⟨q,Y,by simpa using av,by simp⟩
          by_cases X:i.length=0
          ·have R:i=[]:=jH X;subst R;rw[qp]at I;have r:qQ D q.es bytes (.sl id 0 j.length none) 0 (bQ []) (lK J id j D)=some (.sl id 0 j.length none,lK J id j D):=by unfold qQ;rw[ah (by simpa using Q)];rfl
           obtain⟨y,w',F',r1,r2,r3⟩:=D7 (ty:=ty) hS hi z1 z2 l r aM;have a3:=Sj T r2;have aP:(lK J id j D).get id=some (.cells (bQ j) D true true):=Fz;have H:=r2.ext.pl _ _ Y;have af:=r2.rel.at aP H;have ag:OR P (F'.put J.next q) q w' (.vec m D f):=by have ai:=Env.Ht r2.rel q;refine OR.zo (λe=>by subst e;exact a2.Yc) I x2 x7 (af.mono ai) (λ_ h=>h)
           have Qq:=St.again (q':=q) r2.rel aP rfl (show(lK J id j D).lock<=id from Eu) H rfl rfl (λ_ _=>rfl) rfl rfl rfl ag;refine⟨y,w',F'.put J.next q,r1,(a3.trans Qq).sub (λk o A=>?_) (dD _) rfl,?_⟩
           ·rw[aA.qE,aA.zO]at A⊢;split at A
            ·next G=>rw[aj (show k=((lK J id j D).kill id).next from G)];exact A
            ·next G=>
             rw[ah (show ¬k=((lK J id j D).kill id).next from G)];split at A
             ·cases A
             ·next e2=>rw[ah e2];unfold lK;rw[aA.get_put,ah e2];exact A
           ·simp only[VR]at r3⊢;obtain⟨q3,N,ak,rfl⟩:=r3;rw[H]at N;cases N;exact⟨j,I,.inl ⟨q,by simp[Env.put],by simpa using ak,by simp⟩⟩
          ·have ao:takeN (bQ j) 0 (j.length*q.es)=some (bQ j):=by unfold takeN;rw[dN,lG (by omega),aj aw]
           have r:qQ D q.es bytes (.sl id 0 j.length none) i.length (bQ i) (lK J id j D)=some (.sl J.next 0 (j.length+i.length) none,((lK J id j D).kill id).new (.cells (bQ j++bQ i) D true true)):=by unfold qQ;rw[ah Q];simp only;rw[ah X,aj (show(lK J id j D).lock<=id from Eu),Fz];simp only[if_true,ao,gZ];rfl
           obtain⟨y,w',F',r1,r2,r3⟩:=D7 (ty:=ty) hS hi z1 z2 l r aM;obtain⟨q1,q2⟩:=St.zo (size:=q.es) (Sj T r2) I ae V (λvs al=>by rw[afx];exact al) (by rw[eP];exact r3) (f:=f) (λ_ e=>X (by have:=uf List.length e;simp at this;rw[this.2];rfl));refine⟨y,w',F',r1,q1.sub (λk o A=>?_) (dD _) rfl,q2⟩;rw[aA.qE,aA.zO]at A⊢;split at A
           ·next G=>rw[aj (show k=((lK J id j D).kill id).next from G)];exact A
           ·next G=>
            rw[ah (show ¬k=((lK J id j D).kill id).next from G)];split at A
            ·cases A
            ·next e2=>rw[ah e2];unfold lK;rw[aA.get_put,ah e2];exact A
         ·rw[(h.kK id ar).1]at Y;cases Y
        ·cases e0;have ac:=zY 100 aE aL n1;rcases O with⟨q',ad,_⟩|⟨_,_,O⟩
         ·rw[(h.kK id ar).1]at ad;cases ad
         ·exact az (τ:=J.kill id) aL W O rfl rfl (λk o A=>by rw[aA.zO]at A;split at A;cases A;exact A) f
       ·cases p
      ·cases p
     ·next id=>
      split at p
      ·next D T=>
       split at p
       ·next E=>
        rw[aK]at E;obtain⟨aa,ab⟩:=E;have Jy:=bK aa;subst Jy;have Eu:=vC ab;split at p
        ·next a Z=>
         obtain⟨m,W,G⟩:=bC.1 p;cases G;obtain⟨i,y1,I,L,y4,y5⟩:=an W (ay Z);simp only[aX,kY,lQ]at I y4 y5;obtain⟨zs,z1,z2⟩:=XF h am B V y1 L;have l:=Je (λx B=>(Ef L x B).1);have Q:=Uf (S:=.sl id 0 0 (some 0)) (n:=0) L rfl (by simpa using y4) (by simpa using y5);have M:=O;simp only[VR]at M;obtain⟨q,Y,_,rfl⟩:=M;obtain⟨cs,aR,fr,a4,rr⟩:=h.at T Y;have bb:=rr.shut rfl;obtain⟨w1,w2,w3⟩:=rr.whole he;have bc:=w3 rfl;by_cases X:i.length=0
         ·have R:i=[]:=jH X;subst R;have r:qQ D d bytes (.sl id 0 0 (some 0)) 0 (bQ []) J=some (.sl id 0 0 (some 0),J):=by unfold qQ;rw[ah (by simpa using Q)];rfl
          obtain⟨y,w',F',r1,r2,r3⟩:=D7 (ty:=ty) h hi z1 z2 l r O;have H:=r2.ext.pl _ _ Y;obtain⟨a5,Jj,Jo,a6,ax⟩:=r2.rel.at T H;obtain⟨v1,v2,v3⟩:=ax.whole he;have a0:=ax.shut rfl;simp only[kY]at a0;have ag:OR P (F'.put J.next ⟨q.bl,q.ba,0,d⟩) ⟨q.bl,q.ba,0,d⟩ w' (.vec m D false):=by refine⟨[],a5,Jj,Jo,[],I,a6,by simp[aS],by simp,by simp[Gi,dJ],by simp,{fits:=by have:=ax.fits;simp;omega,le:=by simp,shut:=by simp,cell:=by simp,free:=by simp,whole:=λ_=>⟨v1,by simp;omega,by simp⟩,room:=λ_=>⟨he,by simp;omega,V⟩},by simp,by simp⟩
          have Qq:=St.again (q':=⟨q.bl,q.ba,0,d⟩) r2.rel T rfl Eu H rfl rfl (λ_ _=>rfl) rfl rfl rfl ag;refine⟨y,w',_,r1,r2.trans Qq,?_⟩;simp only[VR]at r3⊢;obtain⟨q3,N,_,rfl⟩:=r3;rw[H]at N;cases N;exact⟨[],I,.inl ⟨⟨q.bl,q.ba,0,d⟩,by simp[Env.put],by simp,by simp⟩⟩
         ·have r:qQ D d bytes (.sl id 0 0 (some 0)) i.length (bQ i) J=some (.sl J.next 0 (0+i.length) none,J.new (.cells ([]++bQ i) D true true)):=by unfold qQ;rw[ah Q];simp only;rw[ah (by omega),T];simp[takeN]
          obtain⟨y,w',F',r1,r2,r3⟩:=D7 (ty:=ty) h hi z1 z2 l r O;rw[aX]at r2;rw[lQ]at r3;obtain⟨q1,q2⟩:=St.zo (f:=false) r2 I (Ef L) V (λ_ h=>h) r3 (by simp);refine⟨y,w',F',r1,q1.sub (λk o A=>?_) (dD _) rfl,q2⟩;rw[aA.qE,aA.zO]at A;rw[aA.qE];split at A
          ·next G=>rw[aj (show k=J.next from G)];exact A
          ·next G=>
           rw[ah (show ¬k=J.next from G)];split at A
           ·cases A
           ·exact A
        ·cases p
       ·cases p
      ·cases p
     ·next id len=>
      split at p
      ·next c D T=>
       split at p
       ·next E=>
        rw[aK,aK]at E;obtain⟨⟨aa,ab⟩,aw⟩:=E;have Jy:=bK aa;subst Jy;have Eu:=vC ab;have aq:=bK aw;split at p
        ·next a Z=>
         obtain⟨m,W,G⟩:=bC.1 p;cases G;obtain⟨ns,l1,l2⟩:=awX T Z V aq;have M:=O;simp only[VR]at M;obtain⟨q,Y,av,rfl⟩:=M;obtain⟨ws,aR,fr,a4,rr⟩:=h.at T Y;have a7:q.es=d:=by have:=(rr.room rfl).2.2;rw[V]at this;cases this;rfl
         have ao:takeN c 0 (len*d)=some c:=by unfold takeN;rw[dN,lG (by omega),aj aq]
         obtain⟨j,k1,k2,k3,k4⟩:=l1 (rr.Ac ao);have a8:=l2 j k1;have conv:∀{F':Env}(vs:Q6),aC F' c vs->aC F' (bQ j) vs:=by intro F' vs hv;obtain⟨gs,j1,_,j3,_⟩:=l1 hv;rw[k1]at j1;cases j1;exact j3
         obtain⟨i,y1,I,L,y4,y5⟩:=an W a8;have ae:∀x∈j++i,x.cells.length=d/\x.cells.all GV.scalar=true:=by
          intro x B;rcases jJ.1 B with B|B
          ·exact k4 x B
          ·exact Ef L x B
         obtain⟨zs,z1,z2⟩:=XF h am B V y1 L;have l:=Je (λx B=>(Ef L x B).1);have Q:=Uf (S:=.sl id 0 len none) (n:=j.length) L k2.symm y4 y5;by_cases X:i.length=0
         ·have R:i=[]:=jH X;subst R;rw[qp]at I;have r:qQ D d bytes (.sl id 0 len none) 0 (bQ []) J=some (.sl id 0 len none,J):=by unfold qQ;rw[ah (by simpa using Q)];rfl
          obtain⟨y,w',F',r1,r2,r3⟩:=D7 (ty:=ty) h hi z1 z2 l r O;have H:=r2.ext.pl _ _ Y;have af:=r2.rel.at T H;have ag:OR P (F'.put J.next q) q w' (.vec m D false):=by have ai:=Env.Ht r2.rel q;refine OR.zo (by simp) I (λx B=>by rw[a7];exact(k4 x B).1) (λx B=>(k4 x B).2) (af.mono ai) (λvs al=>conv vs al)
          have Qq:=St.again (q':=q) r2.rel T rfl Eu H rfl rfl (λ_ _=>rfl) rfl rfl rfl ag;refine⟨y,w',F'.put J.next q,r1,r2.trans Qq,?_⟩;simp only[VR]at r3⊢;obtain⟨q3,N,ak,rfl⟩:=r3;rw[H]at N;cases N;exact⟨j,I,.inl ⟨q,by simp[Env.put],by rw[k2];simpa using ak,by simp[k2]⟩⟩
         ·have r:qQ D d bytes (.sl id 0 len none) i.length (bQ i) J=some (.sl J.next 0 (len+i.length) none,(J.kill id).new (.cells (c++bQ i) D true true)):=by unfold qQ;rw[ah Q];simp only;rw[ah X,aj Eu,T];simp only[if_true,ao,gZ]
          obtain⟨y,w',F',r1,r2,r3⟩:=D7 (ty:=ty) h hi z1 z2 l r O;obtain⟨q1,q2⟩:=St.zo (size:=d) r2 I ae V (λvs al=>by obtain⟨us,ts,rfl,v1,v2⟩:=aC.split al;rw[afx];exact aC.append (conv us v1) v2) (by rw[eP,k2];exact r3) (f:=false) (by simp)
          exact⟨y,w',F',r1,q1,q2⟩
        ·cases p
       ·cases p
      ·cases p
     ·cases p
  ·cases p
 ·cases p
def akC{x:GV}{z:Q3}(b:∀a,aC F z a->aC F (dX x.cells) a):∀(n:Nat)(vs:Q6),aC F (jG n z) vs->aC F (bQ (List.replicate n x)) vs
 |0,vs,h=>by simpa[jG,bQ,dX]using h
 |n+1,vs,h=>by
  have e:jG (n+1) z=z++jG n z:=by simp[jG,O0]
  rw[e]at h;obtain⟨a,c,rfl,d,f⟩:=aC.split h;have g:bQ (List.replicate (n+1) x)=dX x.cells++bQ (List.replicate n x):=by unfold bQ;rw[O0,kE,Jr]
  rw[g];exact(b a d).append (akC b n c f)
def aAN(z:Q3)(n m:Nat)(h:n<=m):(jG m z).take (n*z.length)=jG n z:=by
 induction n generalizing m with
 |zero=>simp[jG]
 |succ n a=>
  cases m with
  |zero=>omega
  |succ m=>
   have e:∀k,jG (k+1) z=z++jG k z:=λk=>by simp[jG,O0]
   rw[e,e,<-a m (by omega),List.take_append,lG (by rw[tH];omega)];congr 2;rw[tH];omega
def aEK(h:SR P F J w){t:TypeId}{l c v:AV}{x y:Value}(q:XR P t l c J=some (v,J'))(X:VR F l x)(hy:VR F c y):
 ∃z w' F',(Instr.makeSlice t x y).run P w=.ok z w'/\St P F J w F' J' w'/\VR F' v z:=by
 unfold XR at q;split at q
 ·next e0 Y=>
  split at q
  ·next e b bytes z L hi ai=>
   obtain⟨M,_,_,he,i,hn⟩:=CQ hi;rw[Y]at M;cases M;split at q
   ·cases q
   ·next Z=>
    split at q
    ·next zn ln cn d aa ab=>
     obtain⟨m,hm,H⟩:=bC.1 q;cases H;obtain⟨gl,l1,l2,l3⟩:=ng aa X;obtain⟨gc,c1,c2,c3⟩:=ng ab hy;obtain⟨g,g1,I⟩:=gU hm;simp only[Nd.den,l1,c1]at I;split at I
     ·next xz kn n ac W H e2 e3=>
      cases e2;cases e3;split at I
      ·next hc=>
       cases I;obtain⟨b1,b2,b3,b4,r⟩:=hc;simp only[GR]at l3 c3;subst l3;subst c3;obtain⟨A,N,B,D⟩:=axa (P:=P) (w:=w) (F:=F) (kd:=kn) (kd':=ac) hi Z b1 b2 b3 b4;have ad:∀k,aC F z k->aC F (dX xz.cells) k:=by
        intro k j;cases L with
        |true=>simp only[if_true]at d;obtain⟨l',gs,e4,_,O,_,Q⟩:=LZ d (by simp only[VR];exact⟨k,rfl,j⟩:VR F (.agg z) (.agg ⟨k⟩));rw[H]at O;cases O;simp only[GR]at Q;obtain⟨ae,e7,e8⟩:=Q;cases e7;exact(qj _ _).1 e8
        |false=>
         simp only[iw,if_false]at d;cases o:z with
         |nil=>rw[o]at d;simp at d
         |cons a zr=>
          rw[o]at d j i;simp only[Yw,Aq]at d;simp only[aC]at j;obtain⟨u,ur,rfl,E,p⟩:=j;obtain⟨gz,R,S,k3⟩:=ng d E;rw[H]at R;cases R;rw[GV.KI S];have:b=1:=by unfold GV.fP at r;rw[aK,GV.KI S]at r;exact(bK r.1).symm
          rw[this]at i;have qG:zr=[]:=by apply jH;simpa using i
          subst qG;simp only[aC]at p;subst p;simp only[dX];exact aC.cons ((l9 _ _).1 k3) (by simp[aC])
       have T:∀x∈List.replicate n.toNat xz,x.cells.length=b/\x.cells.all GV.scalar=true:=by intro x X;rw[(aek.1 X).2];unfold GV.fP at r;rw[aK]at r;exact⟨Nat.eq_of_beq_eq_true r.1,r.2⟩
       have G:n.toNat<=W.toNat:=by omega
       have V:aC F (jG n.toNat z) (A.toList.take (jG n.toNat z).length):=by rw[Xi,i];have:=D.take (n.toNat*b);rw[<-i,aAN z _ _ G,i]at this;exact this
       have af:=Ec h (c:=jG n.toNat z) (xs:=A) (elem:=_) (es:=b) (opn:=true) V (by rw[Xi,i,B];exact uD _ G) (by simp) (λ_=>⟨he,Nat.pos_of_ne_zero Z,hn⟩);have s:(W.toNat*b)/b=W.toNat:=Tj _ (Nat.pos_of_ne_zero Z);obtain⟨q1,q2⟩:=St.zo (f:=false) (size:=b) (y:=.slice (some ⟨w.heap.size,0,none⟩) n.toNat W.toNat) af g1 T hn (λvs D=>by
        have ag:∀k,aC (F.put J.next ⟨w.heap.size,0,A.size,b⟩) z k->aC (F.put J.next ⟨w.heap.size,0,A.size,b⟩) (dX xz.cells) k:=by
         intro k j;cases L with
         |true=>simp only[if_true]at d;obtain⟨l',gs,e4,_,O,_,Q⟩:=LZ d (by simp only[VR];exact⟨k,rfl,j⟩:VR (F.put J.next ⟨w.heap.size,0,A.size,b⟩) (.agg z) (.agg ⟨k⟩));rw[H]at O;cases O;simp only[GR]at Q;obtain⟨ae,e7,e8⟩:=Q;cases e7;exact(qj _ _).1 e8
         |false=>
          simp only[iw,if_false]at d;cases o:z with
          |nil=>rw[o]at d;simp at d
          |cons a zr=>
           rw[o]at d j i;simp only[Yw,Aq]at d;simp only[aC]at j;obtain⟨u,ur,rfl,E,p⟩:=j;obtain⟨gz,R,S,k3⟩:=ng d E;rw[H]at R;cases R;rw[GV.KI S];have:b=1:=by unfold GV.fP at r;rw[aK,GV.KI S]at r;exact(bK r.1).symm
           rw[this]at i;have qG:zr=[]:=by apply jH;simpa using i
           subst qG;simp only[aC]at p;subst p;simp only[dX];exact aC.cons ((l9 _ _).1 k3) (by simp[aC])
        exact akC ag _ _ D) (by simp only[VR];exact⟨⟨w.heap.size,0,A.size,b⟩,by simp[Env.put],by simp[B,s,G],by simp[B,s]⟩) (by simp)
       exact⟨_,_,_,N,q1,q2⟩
      ·cases I
     ·cases I
    ·cases q
  ·cases q
 ·cases q
def PN:∀{xs:Q1}{b:Q0},ou xs=some b->bytesOf (dX xs)=some b
 |[],b,h=>by simpa[ou,dX,bytesOf]using h
 |x::xs,b,h=>by
  unfold ou at h;split at h
  ·rename_i a;cases a
  ·next n rest a=>
   cases a;simp only[dX,lH,bytesOf];split at h
   ·next d=>
    rw[aj d];obtain⟨e,c,rfl⟩:=bC.1 h;rw[PN c];rfl
   ·cases h
  ·cases h
def Un:∀{xs:Q1}{b:Q0},ou xs=some b->xs.flatMap GV.cells=xs
 |[],b,h=>rfl
 |x::xs,b,h=>by
  unfold ou at h;split at h
  ·rename_i a;cases a
  ·next n rest a=>
   cases a;split at h
   ·obtain⟨d,c,_⟩:=bC.1 h;rw[kE,Un c];rfl
   ·cases h
  ·cases h
def aED(h:SR P F J w){src dst:TypeId}{a v:AV}{x:Value}(p:XK P src dst a J=some (v,J'))(r:VR F a x):
 ∃y w' F',(convert src dst x).run P w=.ok y w'/\St P F J w F' J' w'/\VR F' v y:=by
 unfold XK at p;split at p
 ·next d k n h1 B=>
  obtain⟨v',D,E⟩:=bC.1 p;cases E;simp only[VR]at r;obtain⟨g,I,a2,L⟩:=r;obtain⟨_,g',_,j,b3⟩:=nV (F:=F) D;simp only[Nd.den,I]at j;split at j
  ·next kk z E=>
   cases E;cases j;simp only[GR]at L;subst L;obtain⟨y,w',F',r1,r2,r3⟩:=P7 h (src:=src) (dst:=dst) (a:=.i kk z) (v:=.i k (k.wrap z)) (J':=J) (by simp only[zG,h1,B]) (by simp only[VR]:VR F (.i kk z) (.int kk z));exact⟨y,w',F',r1,r2,by obtain⟨_,M,_,G,V⟩:=nV (F:=F') D;simp only[Nd.den,I,aY]at G;subst G;exact V y rfl ((l9 _ _).2 r3)⟩
  ·cases j
 ·next n h1 B=>
  obtain⟨v',D,E⟩:=bC.1 p;cases E;simp only[VR]at r;obtain⟨g,I,a2,L⟩:=r;obtain⟨_,g',_,j,b3⟩:=nV (F:=F) D;simp only[Nd.den,I]at j;split at j
  ·next z E=>
   cases E;cases j;simp only[GR]at L;subst L;obtain⟨y,w',F',r1,r2,r3⟩:=P7 h (src:=src) (dst:=dst) (a:=.s z) (v:=.s z) (J':=J) (by simp only[zG,h1,B]) (by simp only[VR]:VR F (.s z) (.string ⟨⟨z⟩⟩));exact⟨y,w',F',r1,r2,by obtain⟨_,M,_,G,V⟩:=nV (F:=F') D;simp only[Nd.den,I,aY]at G;subst G;exact V y rfl ((l9 _ _).2 r3)⟩
  ·cases j
 ·next e n h1 B=>
  split at p
  ·next W=>
   split at p
   ·next Q=>
    split at p
    ·next m D=>
     cases p;simp only[VR]at r;obtain⟨g,I,a2,L⟩:=r;obtain⟨g',b1,j⟩:=gU D;simp only[Nd.den,I]at j;split at j
     ·next z E=>
      cases E;cases j;simp only[GR]at L;subst L;obtain⟨y,w',F',r1,r2,r3⟩:=P7 h (src:=src) (dst:=dst) (a:=.s z) (v:=.sl J.next 0 z.length none) (J':=J.new (.cells (xX z) e true true)) (by simp only[zG,h1,B,W,aj Q]) (by simp only[VR]:VR F (.s z) (.string ⟨⟨z⟩⟩));obtain⟨q1,q2⟩:=St.zo (f:=false) (size:=1) r2 b1 (by intro x r;obtain⟨c,_,rfl⟩:=rM.1 r;exact⟨rfl,rfl⟩) Q.2 (λvs ag=>by rw[afj];exact ag) (by simpa[dh]using r3) (by simp)
      exact⟨y,w',F',r1,q1,q2⟩
     ·cases j
    ·cases p
   ·cases p
  ·cases p
 ·next e h1 B=>
  split at p
  ·next W=>
   split at p
   ·next m o=>
    obtain⟨v',D,E⟩:=bC.1 p;cases E;obtain⟨_,g',_,j,b3⟩:=nV (F:=F) D;simp only[Nd.den]at j;split at j
    ·next t R=>
     split at j
     ·next aa=>
      obtain⟨b,u,rfl⟩:=bC.1 j;have fin:∀{τ:aA}{A:AV},SR P F τ w->VR F A x->zG P src dst A τ=some (.s b,τ)->(∀{F':Env}{w':World},St P F τ w F' τ w'->St P F J w F' J w')->∃y w' F',(convert src dst x).run P w=.ok y w'/\St P F J w F' J w'/\VR F' v y:=by intro τ A hS hA ai X;obtain⟨y,w',F',r1,r2,r3⟩:=P7 hS ai hA;refine⟨y,w',F',r1,X r2,?_⟩;obtain⟨_,M,_,G,V⟩:=nV (F:=F') D;simp only[Nd.den,R,aj aa,u,gZ,aY]at G;subst G;exact V y rfl ((l9 _ _).2 r3)
      have S:ou t=some b->t=[]->b=[]:=by rintro h1 rfl;simpa[ou]using h1.symm
      unfold listOf at o;split at o
      ·next n=>
       cases o;simp only[VR]at r;obtain⟨g,I,a2,L⟩:=r;rw[R]at I;cases I;exact fin h ((l9 (.l t) x).1 L) (by simp only[lH,zG,h1,B,W,PN u,gZ]) (λh=>h)
      ·obtain⟨g,g1,M⟩:=gU o;rw[R]at g1;cases g1;simp only[Nd.den,valsOf,gZ,aY,GV.l.injEq]at M;have:=S u M.symm;subst this;exact fin h r (by simp only[zG,h1,B,W]) (λh=>h)
      ·next id n=>
       split at o
       ·next m' et _ Z=>
        split at o
        ·next Q=>
         cases o;rw[aK]at Q;simp only[VR]at r;obtain⟨ys,k1,r⟩:=r;have T:=zY 100 Q.2 R k1;rcases r with⟨q,hq,ab,rfl⟩|⟨_,rfl,rfl⟩
         ·obtain⟨aq,j1,j2,j3,j4,j5,j6,j7,hS⟩:=OH h Z hq;rw[R]at j1;cases j1;have Y:bQ t=dX t:=by unfold bQ;rw[Un u]
          have ac:takeN (bQ t) 0 t.length=some (dX t):=by rw[Y];unfold takeN;rw[dN,lG (by rw[nG];omega),aj (nG t)]
          rw[T]at ac;refine fin (A:=.sl id 0 ys.length none) hS (by simp only[VR];exact⟨q,hq,by simpa using ab,by simp⟩) ?_ (λX=>aFk (λe=>by subst e;exact(h.at Z hq).Yc) Z hq R j2 j7 (Sj Z X));simp only[zG,h1,B,W,Fz,ac,PN u,gZ]
         ·have N:t=[]:=jH (by simpa using T);have:=S u N;subst this;exact fin h (A:=.gK) (by simp only[VR]) (by simp only[zG,h1,B,W]) (λh=>h)
        ·cases o
       ·cases o
      ·next id ar len av=>
       split at o
       ·next c et wo aw H ak Z ax ay=>
        split at o
        ·next Q=>
         rw[aK,oK,aK]at Q;split at o
         ·next cs O=>
          split at o
          ·next ns al=>
           have ad:ak=false->H=1:=by
            intro e;subst e;rcases Q.2 with h1|h1
            ·simp at h1
            ·exact bK h1
           obtain⟨g,g1,M⟩:=gU o;rw[R]at g1;cases g1;simp only[VR]at r;obtain⟨q,hq,ab,rfl⟩:=r;obtain⟨q',ae,ws,ap,fr,af,rr⟩:=h.obj _ _ Z rfl;rw[hq]at ae;cases ae;have am:=(uo O).2.1;obtain⟨gs,k1,k2,k3,_,k5⟩:=Gs (F:=F) ad len al (rr.Ac O) am;simp only[Nd.den,k1,gZ,aY,GV.l.injEq]at M;rw[M]at k2 k3 k5;have an:len*H=len:=by
            cases len with
            |zero=>simp
            |succ n=>
             have ao:t[0]? =some (t[0]'(by omega)):=bT (by omega);have h5:=(k5 _ (rQ ao)).1;have h6:(t[0]'(by omega)).cells.length=1:=by
              cases t with
              |nil=>simp at k2
              |cons y ys=>
               cases y with
               |i k n=>rfl
               |b=>simp[ou]at u
               |s=>simp[ou]at u
               |l=>simp[ou]at u
               |g=>simp[ou]at u
             rw[h6]at h5;rw[<-h5];simp
           have Y:bQ t=dX t:=by unfold bQ;rw[Un u]
           rw[Y]at k3;have N:=PO (PN u) k3;rw[an]at O N;refine⟨.string ⟨⟨b⟩⟩,w,F,?_,St.refl h,?_⟩
           ·simp only[convert,aV,bf h1,bf B,aU,bf W,Conv.bytesToString];rw[ET af (rr.take O),N];simp only[aU];rw[acS _ (λ_ _ _=>rfl)];rfl
           ·obtain⟨_,M,_,G,V⟩:=nV (F:=F) D;simp only[Nd.den,R,aj aa,u,gZ,aY]at G;subst G;exact V _ rfl (by simp only[GR])
          ·cases o
         ·cases o
        ·cases o
       ·cases o
      ·cases o
     ·cases j
    ·cases j
   ·cases p
  ·cases p
 ·cases p
def Hu(ro:Qf)(w:World)(b:Nat):Nat->Option Obj:=λk=>if k=b then w.heap[b]? else ro k
def Xl{ro:Qf}{w:World}(h:∀b o,ro b=some o->w.heap[b]? =some o)(b:Nat):∀k o,ro k=some o->Hu ro w b k=some o:=by
 intro k o a;unfold Hu;split
 ·next e=>subst e;exact h _ _ a
 ·exact a
def St.freeze(h:SR P F J w){id:Nat}{o:bI}{q:Place}(n:J.get id=some o)(x:o.own=true)(y:J.lock<=id)(r:F id=some q):St P F J w ⟨F.pl,Hu F.ro w q.bl,F.gh⟩ (J.kill id) w:=by
 have c:(F:Env).le ⟨F.pl,Hu F.ro w q.bl,F.gh⟩:=⟨λ_ _ h=>h,Xl h.jl q.bl,λ_ h=>h⟩
 have sub:∀k u,(J.kill id).get k=some u->k≠id/\J.get k=some u:=by
  intro k u d;rw[aA.zO]at d;split at d
  ·cases d
  ·next e=>exact⟨e,d⟩
 refine⟨c,⟨h.nS,h.dom,λk u d=>?_,h.kK,λk u s t p z i f g j A B=>?_,λb u l=>?_,λk u p i f g=>?_,λp D=>(h.tabs p D).mono c⟩,dD _,λ_ _ _=>rfl,λk u p i f g j=>?_,rfl,rfl,rfl,rfl,dD _,λ_ h=>.inl h,λb l=>?_⟩
 ·exact(h.live k u (sub k u d).2).mono c
 ·exact h.sep k u s t p z (sub k u i).2 f (sub s t g).2 j A B
 ·have a:(if b=q.bl then w.heap[q.bl]? else F.ro b)=some u:=l;split at a
  ·next e=>rw[e];exact a
  ·exact h.jl b u a
 ·obtain⟨E,v⟩:=sub k u i;show(if p.bl=q.bl then w.heap[q.bl]? else F.ro p.bl)=none
  have m:=h.sep k u id o p q v f n E g r;rw[ah m];exact h.lV k u p v f g
 ·exact .inr ⟨k,u,p,(sub k u i).2,f,g,j,rfl⟩
 ·have a:(if b=q.bl then w.heap[q.bl]? else F.ro b)≠none:=l;split at a
  ·next e=>exact .inr (.inr ⟨id,o,q,n,x,y,r,e.symm⟩)
  ·exact .inl a
def GR.abu{F:Env}{w:World}{q:Place}{c:Q3}{et:TypeId}{u opn:Bool}{ro':Qf}(h:OR P F q w (.cells c et u opn))(g:∀b o,F.ro b=some o->ro' b=some o)(v:ro' q.bl=w.heap[q.bl]?){off n size cap:Nat}{cs:Q3}{gs:Q1}(i:takeN c off (n*size)=some cs)(l:gs.length=n)(d:n<=cap)(h0:0<size)
 (m:∀x∈gs,x.cells.length=size/\x.cells.all GV.scalar=true) (z:∀(F':Env) vs,(∀b o,F.ro b=some o->F'.ro b=some o)->aC F cs vs->aC F' (bQ gs) vs):GR ro' (.l gs) (.slice (some ⟨q.bl,q.ba+off,none⟩) n cap):=by
 obtain⟨A,e,B,D,r⟩:=h;have E:=r.Ac i;have p:=r.take i;obtain⟨O,Q,R⟩:=uo i;have G:=z ⟨F.pl,ro',F.gh⟩ _ g E;obtain⟨H,s,t,I⟩:=ungroup gs _ G (λx L=>(m x L).2);simp only[GR];right;refine⟨q.bl,q.ba+off,cap,H,size,by rw[l],by rw[l];exact d,s,λy M=>?_,λj=>⟨A,e,B,by rw[v,D],?_,?_⟩⟩
 ·obtain⟨k,a⟩:=Lr M;have f:k<gs.length:=by rw[s.length];exact(fM.1 a).1
  rw[I k _ y (bT f) a];exact(m _ (gX f)).1
 ·rw[t];have N:0<gs.length:=Ls.2 j;have S:0<n*size:=O5 (by omega) h0;rw[lN,fH,Ld];omega
 ·rw[t];intro k x a;rw[mg]at a;split at a
  ·rw[tC,xF]at a;exact a
  ·cases a
def VR.ag9(h:SR P F J w){id n m et:Nat}{f:Bool}{x:Value}{ro':Qf}(s:J.get id=some (.vec m et f))(v:xA 100 m n=true)(d:VR F (.sv id n) x)(e:∀b o,F.ro b=some o->ro' b=some o)(y:∀q,F id=some q->ro' q.bl=w.heap[q.bl]?):
 ∃i,aH.val m=some (.l i)/\GR ro' (.l i) x:=by
 simp only[VR]at d;obtain⟨i,z,d⟩:=d;rcases d with⟨q,a,j,rfl⟩|⟨k,rfl,rfl⟩
 ·obtain⟨l,t,u,G,A,H,I,B,D⟩:=(h.at s a).NK;have c:=zY 100 v t z;refine⟨l,t,?_⟩;have p:=Je u;have:=GR.abu (ro':=ro') (off:=0) (n:=i.length) (size:=q.es) (cap:=q.sz/q.es) (cs:=bQ l) (gs:=l) D e (y q a) (by unfold takeN;rw[dN,<-c,lG (by omega),aj p]) c j A (λx d=>⟨u x d,B x d⟩) (λL M e g=>by unfold bQ at g⊢;exact(qj _ _).1 (aS.mono e _ _ ((qj _ _).2 g)))
  simpa using this
 ·rcases h.live id _ s with⟨q,a,_⟩|⟨_,N,O,Q,E,r⟩
  ·rw[(h.kK id k).1]at a;cases a
  ·cases E;exact⟨[],r,by simp[GR]⟩
def aeu{F':Env}(a:F.le F'){o:Q4}{v:Wz}(h:mD F o v):mD F' o v:=by cases o<;>cases v<;>first|exact h|exact VR.mono a _ _ h
def St.azX(h:SR P F J w){id m et k:Nat}{f:Bool}(y:J.get id=some (.vec m et f))(d:F.gh id=true)(v:aH.val k=some (.l [])):St P F J w F (J.put id (.vec k et f)) w:=by
 have get:∀i u,(J.put id (.vec k et f)).get i=some u->(i=id/\u=.vec k et f)\/(i≠id/\J.get i=some u):=by
  intro i u hi;rw[aA.get_put]at hi;split at hi
  ·next e=>cases hi;exact .inl ⟨e,rfl⟩
  ·next e=>exact .inr ⟨e,hi⟩
 have a:∀q,F id≠some q:=λq n=>by rw[(h.kK id d).1]at n;cases n
 refine⟨Env.le.refl _,⟨h.nS,h.dom,λi u hi=>?_,h.kK,λi u o p q r g j c l s t=>?_,h.jl,λi u q g j c=>?_,h.tabs⟩,dD _,λ_ _ _=>rfl,λi u q g j c l=>?_,rfl,rfl,rfl,rfl,dD _,λ_ h=>.inl h,λ_ h=>.inl h⟩
 ·rcases get i u hi with⟨rfl,rfl⟩|⟨_,b⟩
  ·exact .inr ⟨d,k,et,f,rfl,v⟩
  ·exact h.live i u b
 ·rcases get i u g with⟨rfl,_⟩|⟨_,b⟩
  ·exact absurd s (a q)
  ·rcases get o p c with⟨rfl,_⟩|⟨_,x⟩
   ·exact absurd t (a r)
   ·exact h.sep i u o p q r b j x l s t
 ·rcases get i u g with⟨rfl,_⟩|⟨_,b⟩
  ·exact absurd c (a q)
  ·exact h.lV i u q b j c
 ·rcases get i u g with⟨rfl,_⟩|⟨_,b⟩
  ·exact absurd l (a q)
  ·exact .inr ⟨i,u,q,b,j,c,l,rfl⟩
def aEL(h:SR P F J w){t:TypeId}{a v:AV}{x:Value}{lo hi:Q4}{G H:Wz}(d:XU P t J a lo hi=some (v,J'))(A:VR F a x)(O:mD F lo G)(Q:mD F hi H):
 ∃y w' F',(Instr.sliceAt t x G H none).run P w=.ok y w'/\St P F J w F' J' w'/\VR F' v y:=by
 unfold XU at d;split at d;rotate_left
 ·cases d
 next e id n hu=>
 split at d;rotate_left
 ·cases d
 next m et f R s I=>
 split at d;rotate_left
 ·cases d
 next hc=>
 simp only[aK]at hc;obtain⟨⟨c1,c2⟩,c3⟩:=hc;have e1:=bK c1;subst e1;have S:=vC c3;cases lo with
 |some l0=>
  simp only at d;obtain⟨r,hr,e2⟩:=bC.1 d;cases e2;have T:∀V:Env,SR P V (J.kill id) w->St P F J w V (J.kill id) w->VR V (.nd m) x->∃y w' F',(Instr.sliceAt t x G H none).run P w=.ok y w'/\St P F J w F' (J.kill id) w'/\VR F' v y:=by intro V h1 b hv;obtain⟨y,k1,k2⟩:=alK h1 hr hv (aeu b.ext O) (aeu b.ext Q);exact⟨y,w,V,k1,b,k2⟩
  have B:=A;simp only[VR]at B;obtain⟨ys,k1,B⟩:=B;rcases B with⟨q,i,aa,_⟩|⟨D,_,_⟩
  ·have b:=St.freeze h s rfl S i;obtain⟨o,L,M⟩:=VR.ag9 (ro':=Hu F.ro w q.bl) h s c2 A (Xl h.jl q.bl) (λq' u=>by rw[i]at u;cases u;unfold Hu;rw[aj rfl]);exact T _ b.rel b (by simp only[VR];exact⟨_,L,rfl,M⟩)
  ·obtain⟨o,L,M⟩:=VR.ag9 (ro':=F.ro) h s c2 A (λ_ _ h=>h) (λq' u=>by rw[(h.kK id D).1]at u;cases u);have b:=(St.refl h).V9 id;exact T F b.rel b (by simp only[VR];exact⟨_,L,rfl,M⟩)
 |none=>
  simp only at d;split at d;rotate_left
  ·cases d
  next z hh h1 h2=>
  obtain⟨k,hk,e2⟩:=bC.1 d;cases e2;obtain⟨g,g1,N⟩:=gU hk;simp only[Nd.den]at N;split at N;rotate_left
  ·cases N
  next p kl li kh c e3 e4 e5=>
  split at N;rotate_left
  ·cases N
  next hc=>
  cases N;obtain⟨b1,b2,b3,b4⟩:=hc;have hz:li=0:=by obtain⟨gz,L,M⟩:=gU h1;simp only[Nd.den,aY]at M;subst M;rw[e4]at L;cases L;rfl
  subst hz;have ac:PD (none:Q4)=some z:=h1;obtain⟨ad,ae,d1,d2,d3⟩:=adg (len:=p.length) ac h2 O Q e4 e5 (λhd=>by simp only[Nd.den,e3,aY,GV.i.injEq]at hd;exact hd.2.symm) b1 b2 b3;have al:(0:Int).toNat=0:=rfl;simp only[VR]at A;obtain⟨ys,y1,A⟩:=A;have E:=zY 100 c2 e3 y1;have af:(p.take c.toNat).drop (0:Int).toNat=p.take c.toNat:=by simp
  rw[af]at g1;have Qx:c.toNat<=p.length:=by omega
  rcases A with⟨q,i,aa,rfl⟩|⟨D,rfl,rfl⟩
  ·have ag:=h.at s i;obtain⟨am,cs,W,fr,o,o1,o2,o3,o4,o5,o6,o7,o8,o9⟩:=ag;rw[e3]at o1;cases o1
   have hB:=F9 (P:=P) (w:=w) (sl:=true) (cap:=q.sz/q.es) d3 (λk hk=>by have:k<=p.length:=by simpa using hk
                                                                       omega) (by omega) d1 d2
   have ai:0<q.es/\sizeT P e=some q.es:=⟨(o7.room rfl).2.1,(o7.room rfl).2.2⟩
   have an:R=q.es:=by have:=ai.2;rw[I]at this;cases this;rfl
   have X:OR P F q w (.vec k e f):=by
    have ao:=o3.length;refine⟨p.take c.toNat,cs,W,fr,o.take c.toNat,g1,o2,?_,λy hy=>o4 y (LC hy),?_,?_,o7,λx A=>o8 x (LC A),o9⟩
    ·have:∀(p:Q1)(o:Q6)(n:Nat),aS F.ro p o->aS F.ro (p.take n) (o.take n):=by
      intro p;induction p with
      |nil=>intro o n s;simp only[aS]at s;subst s;simp[aS]
      |cons a l ih=>
       intro o n s;simp only[aS]at s;obtain⟨x,us,rfl,a1,a2⟩:=s;cases n with
       |zero=>simp[aS]
       |succ n=>simp only[Am,aS];exact⟨x,us.take n,rfl,a1,ih us n a2⟩
     exact this _ _ _ o3
    ·intro j x hj;refine o5 j x ?_;have Y:(dJ (o.take c.toNat)) <+: dJ o:=by unfold dJ;rw[show o=o.take c.toNat++o.drop c.toNat from(Iu _ _).symm];rw[aec];simp only[Iu];exact List.prefix_append _ _
     obtain⟨r,hr⟩:=Y;rw[<-hr,og (fM.1 hj).1];exact hj
    ·rw[lN];refine kF (uD _ (Nat.min_le_right _ _)) o6
   have b:=St.write h s rfl S i (w':=w) (o':=.vec k e f) rfl (λ_ _=>rfl) rfl rfl rfl X;refine⟨.slice (some ⟨q.bl,q.ba,none⟩) c.toNat (q.sz/q.es),w,F,?_,b,?_⟩
   ·rw[E]at hB;simp only[Instr.sliceAt,Instr.slice,bf hu,aV,aU,hB.1,jv I,bJ];by_cases e0:q.sz/q.es=0
    ·simp[e0]
    ·have e1:¬q.sz/q.es=(0:Int).toNat:=e0;rw[ah e1];simp[rX]
   ·simp only[VR];refine⟨p.take c.toNat,g1,.inl ⟨q,i,?_,?_⟩⟩
    ·rw[lN];omega
    ·rw[lN,LJ Qx]
  ·have ak:p=[]:=jH (by simpa using E);subst ak;have ap:c.toNat=0:=by simpa using Qx
   have hl:BX P t J .gK ad ae=some .gK:=by simp only[BX,hu,I];simp only[kY]at d3;rw[d3];rfl
   obtain⟨y,u1,u2⟩:=XA h hl (show VR F .gK (.slice none 0 0) by simp only[VR]) d1 d2;simp only[VR]at u2;subst u2;have Z:aH.val k=some (.l []):=by rw[g1];simp
   refine⟨_,w,F,u1,St.azX h s D Z,?_⟩;simp only[VR];exact⟨[],Z,.inr ⟨D,by trivial,by trivial⟩⟩
def vV(a:Wf):TypeDesc:=match a with
 |some k=>.int k
 |none=>.string
def V8{s:TypeId}{k:AV}{n:Nat}{d:Wf}{y:Value}(h:QG P s k=some (n,d))(t:VR F k y):
 P.underlying s=some (vV d)/\∃g,aH.val n=some g/\Bg d g/\GR F.ro g y:=by
 unfold QG at h;split at h
 ·next v m f i=>
  split at h
  ·next z l=>
   obtain⟨j,o,e⟩:=bC.1 h;cases e;obtain⟨g,b,_,p⟩:=ng i t;obtain⟨u,q,c⟩:=gU l;simp only[Nd.den,aY]at c;subst c;obtain⟨r,_,a⟩:=gU o;simp only[Nd.den,b,q]at a;refine⟨f,g,b,?_,p⟩;cases g<;>simp only[iJ,bV,reduceCtorEq]at a
   split at a
   ·next e=>subst e;exact⟨_,rfl⟩
   ·cases a
  ·cases h
 ·next m f i=>
  split at h
  ·next z l=>
   obtain⟨j,o,e⟩:=bC.1 h;cases e;obtain⟨g,b,_,p⟩:=ng i t;obtain⟨u,q,c⟩:=gU l;simp only[Nd.den,aY]at c;subst c;obtain⟨r,_,a⟩:=gU o;simp only[Nd.den,b,q]at a;refine⟨f,g,b,?_,p⟩;cases g<;>simp only[iJ,yE,reduceCtorEq]at a
   exact⟨_,rfl⟩
  ·cases h
 ·cases h
def akW{k:IntKind}{a b:Int}:Instr.sameNow (.int k) (.int k a) (.int k b)=some (a==b):=by simp[Instr.sameNow]
def akY{a b:Q0}:Instr.sameNow .string (.string ⟨⟨a⟩⟩) (.string ⟨⟨b⟩⟩)=some (a==b):=by simp[Instr.sameNow,IW]
def ah9{o:Wf}{n:Nat}{e:AV}{g:GV}{x y:Value}{b:Bool}(h:aaW n e=some b)(p:aH.val n=some g)(z:Bg o g)(f:GR F.ro g y)(A:VR F e x):
 Instr.sameNow (vV o) y x=some b:=by
 unfold aaW at h;split at h
 ·next m B=>
  obtain⟨i,q,_,l⟩:=ng B A;have s:∃r,(Nd.bin .eql n m).den aH.I aH.val=some r/\r=.b b:=by
   split at h
   ·next D t=>
    cases h;obtain⟨j,r,E,d,u⟩:=nV (F:=F) t;refine⟨r,d,?_⟩;simp only[Nd.den,p,q]at d;have:∃c,r=.b c:=by
     cases g<;>cases i<;>simp only[iJ,reduceCtorEq]at d
     ·split at d
      ·simp only[bV,aY]at d;exact⟨_,d.symm⟩
      ·cases d
     ·simp only[yE,aY]at d;exact⟨_,d.symm⟩
    obtain⟨c,rfl⟩:=this;have:=u (.bool c) rfl (by simp only[GR]);simp only[VR]at this;cases this;rfl
   ·next j t=>
    split at h
    ·next D G=>
     cases h;obtain⟨M,r,E,d,u⟩:=nV (F:=F) t;refine⟨r,d,?_⟩;simp only[Nd.den,p,q]at d;have:∃c,r=.b c:=by
      cases g<;>cases i<;>simp only[iJ,reduceCtorEq]at d
      ·split at d
       ·simp only[bV,aY]at d;exact⟨_,d.symm⟩
       ·cases d
      ·simp only[yE,aY]at d;exact⟨_,d.symm⟩
     obtain⟨c,rfl⟩:=this;have H:=u (.bool c) rfl (by simp only[GR]);obtain⟨v,I,L⟩:=Jh G;cases I;have:=L F _ H;simp only[VR]at this;cases this;rfl
    ·cases h
   ·cases h
  obtain⟨r,d,rfl⟩:=s;simp only[Nd.den,p,q]at d;cases o with
  |some k=>
   obtain⟨a,rfl⟩:=z;simp only[GR]at f;subst f;cases i<;>simp only[iJ,reduceCtorEq]at d
   split at d
   ·next e=>
    subst e;simp only[bV,aY,GV.b.injEq]at d;simp only[GR]at l;subst l;show Instr.sameNow (.int _) _ _=_
    rw[akW,d]
   ·cases d
  |none=>
   obtain⟨a,rfl⟩:=z;simp only[GR]at f;subst f;cases i<;>simp only[iJ,yE,reduceCtorEq]at d
   simp only[aY,GV.b.injEq]at d;simp only[GR]at l;subst l;show Instr.sameNow .string _ _=_
   rw[akY,d]
 ·cases h
def Qk{o:Wf}{n:Nat}{g:GV}{y:Value}(f:aH.val n=some g)(j:Bg o g)(k:GR F.ro g y):∀{es:XX}{b:List MapEntry}{i:Nat}{r:Option (Nat×AV)},
 MW n es i=some r->BO F es b->∃d,Instr.findNow (vV o) y b i=some d/\(match r,d with|none,none=>True|some (_,v),some (_,z)=>VR F v z|_,_=>False)
 |[],b,i,r,h,l=>by
  simp only[MW,aY]at h;subst h;have:b=[]:=by have:=l.1;cases b<;>simp_all
  subst this;exact⟨none,rfl,trivial⟩
 |e::es,b,i,r,h,l=>by
  obtain⟨m,p,rfl,q,s,t⟩:=l.tail;unfold MW at h;split at h
  ·next a=>
   cases h;have a:=ah9 a f j k q;exact⟨some (i,m.val),by simp[Instr.findNow,a],s⟩
  ·next a=>
   have a:=ah9 a f j k q;obtain⟨d,u,c⟩:=Qk f j k h t;exact⟨d,by simp[Instr.findNow,a,u],c⟩
  ·cases h
def akX{b:Wf}{g a:GV}{y x:Value}{ro:Qf}(e:Bg b g)(f:Bg b a)(c:GR ro g y)(d:GR ro a x):Instr.sameNow (vV b) y x=some (qI g a):=by
 cases b with
 |some k=>
  obtain⟨m,rfl⟩:=e;obtain⟨n,rfl⟩:=f;simp only[GR]at c d;subst c;subst d;show Instr.sameNow (.int _) _ _=_
  rw[akW];simp[qI]
 |none=>
  obtain⟨m,rfl⟩:=e;obtain⟨n,rfl⟩:=f;simp only[GR]at c d;subst c;subst d;show Instr.sameNow .string _ _=_
  rw[akY];rfl
def Vl{ro:Qf}{e:Wf}{sz:QR}{g:GV}{y:Value}(n:Bg e g)(o:GR ro g y):∀{xs:Q1}{c:List MapEntry}{i:Nat},uz ro e sz xs c->
 (fZ g xs=none/\Instr.findNow (vV e) y c i=some none)\/∃u j z,fZ g xs=some u/\Instr.findNow (vV e) y c i=some (some (j,z))/\i<=j/\(∃m,c[j-i]? =some m/\Instr.sameNow (vV e) y m.key=some true)/\OI sz u/\GR ro u z
 |[],c,i,h=>by simp only[uz]at h;subst h;exact .inl ⟨rfl,rfl⟩
 |x::xs,c,i,h=>by
  obtain⟨a,b,m,rest,rfl,rfl,h1,p,q,r,h5⟩:=h;have d:=akX n h1 o q;cases f:qI g a with
  |true=>rw[f]at d;exact .inr ⟨b,i,m.val,by simp[fZ,f],by simp[Instr.findNow,d],dD _,⟨m,by simp,d⟩,p,r⟩
  |false=>
   rw[f]at d;rcases Vl (i:=i+1) n o h5 with⟨k,l⟩|⟨u,j,z,k,l,B,⟨s,t,v⟩,A⟩
   ·exact .inl ⟨by simp[fZ,f,k],by simp[Instr.findNow,d,l]⟩
   ·refine .inr ⟨u,j,z,by simp[fZ,f,k],by simp[Instr.findNow,d,l],by omega,⟨s,?_,v⟩,A⟩;have:j-i=(j-(i+1))+1:=by omega
    rw[this];simpa using t
def akt{ro:Qf}{f:Wf}{sz:QR}{g u:GV}{e:MapEntry}(i:Bg f g)(j:OI sz u)(h1:GR ro g e.key)(k:GR ro u e.val):∀{xs:Q1}{c:List MapEntry},uz ro f sz xs c->fZ g xs=none->
 uz ro f sz (ku g u xs) (c++[e])
 |[],c,h,_=>by simp only[uz]at h;subst h;exact⟨g,u,e,[],rfl,rfl,i,j,h1,k,rfl⟩
 |x::xs,c,h,d=>by
  obtain⟨a,b,m,rest,rfl,rfl,q1,l,n,o,p⟩:=h;simp only[fZ]at d;split at d
  ·cases d
  ·next q=>
   simp only[ku,ah q];exact⟨a,b,m,rest++[e],rfl,rfl,q1,l,n,o,akt i j h1 k p d⟩
def aku{ro:Qf}{k:Wf}{sz:QR}{g u:GV}{y p:Value}(l:Bg k g)(r:OI sz u)(h1:GR ro g y)(s:GR ro u p):∀{xs:Q1}{d:List MapEntry}{i j:Nat}{z:Value},uz ro k sz xs d->Instr.findNow (vV k) y d i=some (some (j,z))->
 uz ro k sz (ku g u xs) (d.modify (j-i) λe=>{e with key:=y,val:=p})
 |[],d,i,j,z,h,c=>by simp only[uz]at h;subst h;simp[Instr.findNow]at c
 |x::xs,d,i,j,z,h,c=>by
  obtain⟨a,b,m,f,rfl,rfl,t,A,v,B,q⟩:=h;have n:=akX l t h1 v;cases o:qI g a with
  |true=>rw[o]at n;simp only[Instr.findNow,n,aY,pF]at c;obtain⟨rfl,rfl⟩:=c;simp only[ku,o,if_true,BP];exact⟨g,u,{m with key:=y,val:=p},f,rfl,by simp,l,r,h1,s,q⟩
  |false=>
   rw[o]at n;simp only[Instr.findNow,n]at c;have E:i+1<=j:=by
    rcases Vl (i:=i+1) l h1 q with⟨_,r2⟩|⟨_,G,_,_,r2,r3,_⟩
    ·rw[c]at r2;cases r2
    ·rw[c]at r2;cases r2;exact r3
   have D:=aku l r h1 s q c;have e:j-i=(j-(i+1))+1:=by omega
   rw[e];simp only[ku,o,iw,if_false,List.modify_succ_cons];exact⟨a,b,m,_,rfl,rfl,t,A,v,B,D⟩
def UM{c:TypeId}{d:Wf}{g:GV}{y:Value}(e:P.underlying c=some (vV d))(f:Bg d g)(a:GR F.ro g y)(b:Bool):(Instr.checkKey b 10000 c y).run P w=.ok () w:=by
 have H:∀n:Nat,(Instr.checkKey b (n+1) c y).run P w=.ok () w:=λn=>by
  cases d with
  |some k=>obtain⟨m,rfl⟩:=f;simp only[GR]at a;subst a;simp only[Instr.checkKey,aV,bf e,aU,vV,bJ]
  |none=>obtain⟨m,rfl⟩:=f;simp only[GR]at a;subst a;simp only[Instr.checkKey,aV,bf e,aU,vV,bJ]
 exact H 9999
def amc{et:TypeId}{v:AV}{n:Nat}{sz:QR}{x:Value}(h:Sm P et v=some (n,sz))(i:VR F v x):∃g,aH.val n=some g/\OI sz g/\GR F.ro g x/\(match oP P et with
 |some true=>∃k,sizeT P et=some k/\sz=some k
 |some false=>sz=none
 |none=>False):=by
 unfold Sm at h;split at h
 ·next a=>
  split at h
  ·next j k b m=>
   split at h
   ·next o=>
    cases h;obtain⟨l,p,rfl,c,d,f,q⟩:=LZ b i;rw[a];refine⟨_,d,⟨p,rfl,?_,f⟩,q,k,m,rfl⟩;rw[c];exact bK o
   ·cases h
  ·cases h
 ·next a=>
  obtain⟨j,b,e⟩:=bC.1 h;cases e;obtain⟨g,c,d,f⟩:=ng b i;rw[a];exact⟨g,c,d,f,rfl⟩
 ·cases h
def Wh{a b:Wf}(h:ND a b=true):a=b:=by
 cases a<;>cases b<;>simp only[ND]at h
 ·rfl
 ·cases h
 ·cases h
 ·rw[V5 h]
def adh{a b:QR}(h:RY a b=true):a=b:=by
 cases a<;>cases b<;>simp only[RY]at h
 ·rfl
 ·cases h
 ·cases h
 ·rw[bK h]
def adJ{et:TypeId}{z:AV}(h:SC P et=some z):∃x,(zeroValue et).run P w=.ok x w/\VR F z x:=by
 unfold SC at h;split at h
 ·next i hi=>
  split at h
  ·next x a=>
   obtain⟨b,c⟩:=Yj (w:=w) (F:=F) hi a h;exact⟨x,b,c⟩
  ·cases h
 ·cases h
def au8:∀(cs:Q1)(n:Nat),cs.length=n->takeN (dX cs) 0 n=some (dX cs):=by
 intro cs n a;have b:(dX cs).length=n:=by rw[nG,a]
 simp only[takeN,dN];rw[lG (by omega),aj b]
def jR(s:ByteArray):∀(l:List MapEntry)(i:Nat),(∀m∈l,∃t,m.key=.string t)->
 (∃j m,Instr.findNow .string (.string s) l i=some (some (j,m.val))/\m∈l/\m.key=.string s)\/(Instr.findNow .string (.string s) l i=some none/\∀m∈l,m.key≠.string s)
 |[],i,_=>.inr ⟨rfl,λm k=>by simp at k⟩
 |m::l,i,h=>by
  obtain⟨t,n⟩:=h m (by simp);have f:Instr.sameNow .string (.string s) m.key=some (s==t):=by rw[n];rfl
  have g:(s==t)=decide (s=t):=by
   obtain⟨⟨a⟩⟩:=s;obtain⟨⟨b⟩⟩:=t;rw[IW];by_cases c:a=b
   ·subst c;simp
   ·rw[Ed (by simpa using c)];simpa using c
  by_cases c:s=t
  ·subst c;rw[g,Gq rfl]at f;exact .inl ⟨i,m,by simp[Instr.findNow,f],by simp,n⟩
  ·rw[g,Ed c]at f;rcases jR s l (i+1) (λm k=>h m (by simp[k]))with⟨j,o,p,q,r⟩|⟨p,q⟩
   ·exact .inl ⟨j,o,by simp[Instr.findNow,f,p],by simp[q],r⟩
   ·refine .inr ⟨by simp[Instr.findNow,f,p],λo d=>?_⟩;simp only[bH]at d;rcases d with rfl|d
    ·rw[n];simpa using λe=>c e.symm
    ·exact q o d
def agW(s:ByteArray){l c:List MapEntry}(f:l.Perm c)(o:∀m∈c,∃t,m.key=.string t)(i:(c.map (·.key)).Nodup){r:Option (Nat×Value)}(h:Instr.findNow .string (.string s) c 0=some r):
 ∃x,Instr.findNow .string (.string s) l 0=some x/\(match r,x with|none,none=>True|some (_,v),some (_,z)=>v=z|_,_=>False):=by
 have g:∀m∈l,∃t,m.key=.string t:=λm hm=>o m (f.mem_iff.1 hm);have p:∀m∈c,∀d∈c,m.key=d.key->m=d:=by
  clear f o h g;induction c with
  |nil=>intro m hm;simp at hm
  |cons a l B=>
   simp only[iP,List.nodup_cons,rM,not_exists,not_and]at i;intro m hm d b e;simp only[bH]at hm b;rcases hm with rfl|hm<;>rcases b with rfl|b
   ·rfl
   ·exact absurd e.symm (i.1 d b)
   ·exact absurd e (i.1 m hm)
   ·exact B i.2 m hm d b e
 rcases jR s c 0 o with⟨j,m,q,k,y⟩|⟨q,k⟩<;>rcases jR s l 0 g with⟨D,d,u,n,A⟩|⟨u,n⟩
 ·rw[q]at h;cases h;refine⟨_,u,?_⟩;have:=p m k d (f.mem_iff.1 n) (by rw[y,A]);subst this;rfl
 ·exact absurd y (n m (f.mem_iff.2 k))
 ·exact absurd A (k d (f.mem_iff.1 n))
 ·rw[q]at h;cases h;exact⟨_,u,trivial⟩
def aEJ(h:SR P F J w){t:TypeId}{m k v:AV}{x y:Value}{ok:Bool}(c:XQ P t m k ok J=some v)(hx:VR F m x)(hy:VR F k y):
 ∃z,(Instr.lookup t x y ok).run P w=.ok z w/\VR F v z:=by
 unfold XQ at c;split at c;rotate_left
 ·cases c
 next D et id hu=>
 simp only[VR]at hx;obtain⟨q,hq,rfl⟩:=hx;split at c
 ·next n kk es hn hg=>
  obtain⟨I,g,T,L,H⟩:=V8 hn hy;obtain⟨q',f,E,M,hb,N,hp⟩:=h.obj _ _ hg rfl;rw[hq]at f;cases f;have O:BO F es E.toList:=⟨by simpa using N,λk e hk=>by obtain⟨m,V,o,A⟩:=hp k e hk;exact⟨m,by simpa using V,o,A⟩⟩
  rw[Wv hu y ok hb];have l:∀b,(Instr.checkKey b 10000 D y).run P w=.ok () w:=λb=>UM I L H b;split at c
  ·next j u W=>
   cases c;obtain⟨X,o,A⟩:=Qk T L H W O;cases X with
   |none=>exact A.elim
   |some p=>
    obtain⟨j',z⟩:=p;have d:(Instr.findKey D y E.toList).run P w=.ok (some (j',z)) w:=by simp only[Instr.findKey,aV,bf I,aU,o,bJ]
    refine⟨if ok then .tuple #[z,.bool true]else z,?_,?_⟩
    ·simp only[uM,aV,aU,l,d,bJ]
    ·cases ok
     ·simpa using A
     ·simp only[VR];exact⟨[z,.bool true],rfl,aC.cons A (aC.cons (by simp[VR]) (by simp[aC]))⟩
  ·next W=>
   obtain⟨X,o,A⟩:=Qk T L H W O;cases X with
   |some p=>exact A.elim
   |none=>
    have d:(Instr.findKey D y E.toList).run P w=.ok none w:=by simp only[Instr.findKey,aV,bf I,aU,o,bJ]
    obtain⟨a,ha,rfl⟩:=bC.1 c;obtain⟨z,h3,Q⟩:=adJ (w:=w) (F:=F) ha;refine⟨if ok then .tuple #[z,.bool false]else z,?_,?_⟩
    ·simp only[uM,aV,aU,l,d,h3,bJ]
    ·cases ok
     ·simpa using Q
     ·simp only[VR];exact⟨[z,.bool false],rfl,aC.cons Q (aC.cons (by simp[VR]) (by simp[aC]))⟩
  ·cases c
 ·next n kk es hn hg=>
  obtain⟨I,g,T,L,H⟩:=V8 hn hy;obtain⟨q',f,ak,E,M,G,hb,ab,N,hp⟩:=h.obj _ _ hg rfl;rw[hq]at f;cases f;split at c;rotate_left
  ·cases c
  next Y=>
  have:=Wh Y;subst this;have O:BO F (es.map λe=>(AV.s e.1,e.2)) G:=⟨by simpa using N,λk e hk=>by rw[iY]at hk;obtain⟨e0,Q,rfl⟩:=bC.1 hk;obtain⟨m,V,o,A⟩:=hp k e0 Q;exact⟨m,V,by simp only[VR];exact o,A⟩⟩
  have R:G.map (·.key)=es.map λe=>Value.string ⟨⟨e.1⟩⟩:=by
   apply Ip;intro k;rw[iY,iY];cases he:es[k]? with
   |none=>
    have:G[k]? =none:=by rw[List.getElem?_eq_none_iff]at he⊢;omega
    rw[this];rfl
   |some e=>obtain⟨m,V,o,_⟩:=hp k e he;rw[V];simp[o]
  have ac:∀m∈G,∃t,m.key=.string t:=λm V=>by have:m.key∈G.map (·.key):=List.mem_map_of_mem V;rw[R]at this;obtain⟨e,_,o⟩:=rM.1 this;exact⟨_,o.symm⟩
  have ad:(G.map (·.key)).Nodup:=by
   rw[R];have:(es.map λe=>Value.string ⟨⟨e.1⟩⟩)=(es.map (·.1)).map λs=>Value.string ⟨⟨s⟩⟩:=by simp
   rw[this];refine List.Pairwise.map _ (λa b al hc=>al ?_) ak;simpa using hc
  obtain⟨s,am,ax⟩:∃s,y=.string s/\True:=by obtain⟨s0,rfl⟩:=L;simp only[GR]at H;exact⟨_,H,trivial⟩
  subst am;rw[Wv hu _ ok hb];have l:∀b,(Instr.checkKey b 10000 D (.string s)).run P w=.ok () w:=λb=>UM I L H b;split at c
  ·next j u W=>
   cases c;obtain⟨X,o,A⟩:=Qk T L H W O;cases X with
   |none=>exact A.elim
   |some p=>
    obtain⟨j',z⟩:=p;obtain⟨r2,h3,Q⟩:=agW s ab ac ad o;cases r2 with
    |none=>exact Q.elim
    |some p2=>
    obtain⟨j2,z2⟩:=p2;have Q:z=z2:=Q;subst Q;have d:(Instr.findKey D (.string s) E.toList).run P w=.ok (some (j2,z)) w:=by simp only[Instr.findKey,aV,bf I,aU,vV,h3,bJ]
    refine⟨if ok then .tuple #[z,.bool true]else z,?_,?_⟩
    ·simp only[uM,aV,aU,l,d,bJ]
    ·cases ok
     ·simpa using A
     ·simp only[VR];exact⟨[z,.bool true],rfl,aC.cons A (aC.cons (by simp[VR]) (by simp[aC]))⟩
  ·next W=>
   obtain⟨X,o,A⟩:=Qk T L H W O;cases X with
   |some p=>exact A.elim
   |none=>
    obtain⟨r2,h3,Q⟩:=agW s ab ac ad o;cases r2 with
    |some p2=>exact Q.elim
    |none=>
    have d:(Instr.findKey D (.string s) E.toList).run P w=.ok none w:=by simp only[Instr.findKey,aV,bf I,aU,vV,h3,bJ]
    obtain⟨a,ha,rfl⟩:=bC.1 c;obtain⟨z,h5,h6⟩:=adJ (w:=w) (F:=F) ha;refine⟨if ok then .tuple #[z,.bool false]else z,?_,?_⟩
    ·simp only[uM,aV,aU,l,d,h5,bJ]
    ·cases ok
     ·simpa using h6
     ·simp only[VR];exact⟨[z,.bool false],rfl,aC.cons h6 (aC.cons (by simp[VR]) (by simp[aC]))⟩
  ·cases c
 ·next n kk j ED sz hn hg=>
  obtain⟨I,g,T,L,H⟩:=V8 hn hy;obtain⟨q',f,xs,E,M,hv,hb,hp⟩:=h.obj _ _ hg rfl;rw[hq]at f;cases f;rw[Wv hu y ok hb];have l:∀b,(Instr.checkKey b 10000 D y).run P w=.ok () w:=λb=>UM I L H b;split at c;rotate_left
  ·cases c
  next Y=>
  have:=Wh Y;subst this;split at c;rotate_left
  ·cases c
  next zn ay hz=>
  split at c;rotate_left
  ·cases c
  next N=>
  have:=adh N;subst this;obtain⟨za,an,ao⟩:=xM.1 hz;obtain⟨zv,z1,z2⟩:=adJ (w:=w) (F:=F) an;obtain⟨zg,z3,z4,z5,z6⟩:=amc ao z2;split at c;rotate_left
  ·cases c
  next u ap=>
  obtain⟨jn,hj,Z⟩:=xM.1 ap;obtain⟨rg,r1,r2⟩:=gU hj;simp only[Nd.den,z3,hv,T,aY]at r2;have fin:∀(z:Value)(b:Bool),OI sz rg->GR F.ro rg z->(fZ g xs).isSome=b->uM D et y ok E=uM D et y ok E->(uM D et y ok E).run P w=.ok (if ok then .tuple #[z,.bool b]else z) w->∃z,(uM D et y ok E).run P w=.ok z w/\VR F v z:=by
   intro z b ae aa aq _ B;have af:VR F u z:=by
    obtain⟨r,S,q2⟩:=adf (F:=F) r1 Z;cases ai:oP P et with
    |none=>rw[ai]at z6;exact z6.elim
    |some ag=>
     rw[ai]at z6 S;cases ag with
     |true=>obtain⟨kn,k1,k2⟩:=z6;subst k2;obtain⟨cs,rfl,c1,c2⟩:=ae;simp only[k1,GV.cells,au8 cs kn c1,gZ,aY]at S;subst S;apply q2;simp only[GR]at aa;obtain⟨vs,rfl,ar⟩:=aa;simp only[VR];exact⟨vs,rfl,(qj _ _).1 ar⟩
     |false=>
      simp only at z6;subst z6;have av:rg.scalar=true:=ae;have hc:rg.cells=[rg]:=by cases rg<;>first|rfl|(simp[GV.scalar]at av)
      simp only[hc,Qp,kX,gZ,aY]at S;subst S;exact q2 _ ((l9 _ _).1 aa)
   cases ok with
   |false=>simp only[iw,if_false,aY]at c B;subst c;exact⟨z,B,af⟩
   |true=>
    simp only[if_true]at c B;split at c
    ·next bb aw=>
     cases c;obtain⟨_,gb,_,b2,b3⟩:=nV (F:=F) aw;simp only[Nd.den,hv,T,aY]at b2;subst b2;refine⟨_,B,?_⟩;simp only[VR];exact⟨[z,.bool b],rfl,aC.cons af (aC.cons (b3 _ rfl (by simp only[GR];rw[aq])) (by simp[aC]))⟩
    ·cases c
  rcases Vl (i:=0) L H hp with⟨S,q2⟩|⟨u',j',z,S,q2,_,_,q5,q6⟩
  ·have d:(Instr.findKey D y E.toList).run P w=.ok none w:=by simp only[Instr.findKey,aV,bf I,aU,q2,bJ]
   rw[S,uF]at r2;subst r2;refine fin zv false z4 z5 (by rw[S];rfl) rfl ?_;simp only[uM,aV,aU,l,d,z1,bJ]
  ·have d:(Instr.findKey D y E.toList).run P w=.ok (some (j',z)) w:=by simp only[Instr.findKey,aV,bf I,aU,q2,bJ]
   rw[S,rV]at r2;subst r2;refine fin z true q5 q6 (by rw[S];rfl) rfl ?_;simp only[uM,aV,aU,l,d,bJ]
 ·cases c
def aDp{d:Wf}{g a:GV}{y x:Value}(f:Bg d g)(c:GR F.ro g y)(b:Instr.sameNow (vV d) y x=some true)(n:Nat):Instr.sameBits (n+1) x y=true:=by
 cases d with
 |some k=>
  obtain⟨m,rfl⟩:=f;simp only[GR]at c;subst c;cases x<;>simp only[Instr.sameNow,vV,reduceCtorEq]at b
  split at b
  ·next e=>subst e;simp at b;subst b;simp[Instr.sameBits]
  ·cases b
 |none=>
  obtain⟨m,rfl⟩:=f;simp only[GR]at c;subst c;cases x<;>simp only[Instr.sameNow,vV,reduceCtorEq]at b
  next s=>
  obtain⟨⟨l⟩⟩:=s;rw[IW]at b;simp only[Instr.sameBits,IW];simp_all
def alJ(h:SR P F J w){t:TypeId}{m k v:AV}{x y z:Value}(d:XT P t m k v J=some J')(hx:VR F m x)(hy:VR F k y)(hz:VR F v z):
 ∃w',(Instr.mapUpdate t x y z).run P w=.ok () w'/\St P F J w F J' w':=by
 unfold XT at d;split at d;rotate_left
 ·cases d
 next V et id hu=>
 simp only[VR]at hx;obtain⟨q,R,rfl⟩:=hx;split at d;rotate_left
 ·cases d
 next S=>
 have S:=vC S
 have r:∀(o:bI)(n:Nat)(s:Wf)(u:Nat)(A:QR)(j D:Nat)(H:Q1)(c:Array MapEntry)(b:Nat),J.get id=some o->o.own=true->QG P V k=some (n,s)->Sm P et v=some (u,A)->
  aH.val j=some (.l H)->w.heap[q.bl]? =some (.map c b)->uz F.ro s A H c.toList->fQ (.Dc j n u)=some D->∃w',(Instr.mapUpdate t (.map (some q.bl)) y z).run P w=.ok () w'/\St P F J w F (J.put id (.smap D s A)) w':=by
  intro o n s u A j D H c b B ho I f W p G L;obtain⟨X,g,g1,M,N⟩:=V8 I hy;obtain⟨ug,u1,u2,u3,_⟩:=amc f hz;obtain⟨rg,r1,r2⟩:=gU L;simp only[Nd.den,W,g1,u1,aY]at r2;subst r2;have O:=UM (w:=w) X M N false;have Q:(getObj q.bl).run P w=.ok (.map c b) w:=by simp[getObj,Sem.run,p]
  rcases Vl (i:=0) M N G with⟨q1,T⟩|⟨u',i,zz,q1,T,_,⟨m',q3,q4⟩,q5,q6⟩
  ·have E:(Instr.findKey V y c.toList).run P w=.ok none w:=by simp only[Instr.findKey,aV,bf X,aU,T,bJ]
   refine⟨oI w q.bl (.map (c.push {key:=y,val:=z,born:=b}) (b+1)),?_,St.write h B ho S R EX (λk Y=>EW Y) rfl rfl rfl ?_⟩
   ·simp only[Instr.mapUpdate,aV,bf hu,aU,Q,O,E];exact Ol p (by simp)
   ·refine⟨_,_,b+1,r1,Dq p,?_⟩;rw[Array.toList_push];exact akt M u2 N u3 G q1
  ·have E:(Instr.findKey V y c.toList).run P w=.ok (some (i,zz)) w:=by simp only[Instr.findKey,aV,bf X,aU,T,bJ]
   rw[IB,xF]at q3;have Z:(Instr.keyThatStays (((c[i]?).map (·.key)).getD y) y).run P w=.ok y w:=by rw[q3];simp only[gZ,rV,Instr.keyThatStays];rw[aj (aDp (a:=g) M N q4 9999)];rfl
   refine⟨oI w q.bl (.map (c.modify i λe=>{e with key:=y,val:=z}) b),?_,St.write h B ho S R EX (λk Y=>EW Y) rfl rfl rfl ?_⟩
   ·simp only[Instr.mapUpdate,aV,bf hu,aU,Q,O,E,Z];exact Ol p (by simp)
   ·refine⟨_,_,b,r1,Dq p,?_⟩;rw[Array.toList_modify];have:=aku (i:=0) M u2 N u3 G T;rwa [IB]at this
 split at d
 ·next n s u A I f B=>
  split at d
  ·next j W=>
   obtain⟨D,L,rfl⟩:=bC.1 d;obtain⟨q',l,c,b,p,aa,G⟩:=h.obj _ _ B rfl;rw[R]at l;cases l;obtain⟨gl,l1,l2⟩:=gU W;simp only[Nd.den,valsOf,gZ,aY]at l2;subst l2;refine r _ n s u A j D [] c b B rfl I f l1 p ?_ L;simp only[uz];have:c.size=0:=by simpa using aa
   simpa using adL this
  ·cases d
 ·next n s u A j ED ab I f B=>
  split at d
  ·next hc=>
   rw[aK]at hc;have e1:=Wh hc.1;have e2:=adh hc.2;subst e1;subst e2;obtain⟨D,L,rfl⟩:=bC.1 d;obtain⟨q',l,H,c,b,hv,p,G⟩:=h.obj _ _ B rfl;rw[R]at l;cases l;exact r _ n s u A j D H c b B rfl I f hv p G L
  ·cases d
 ·cases d
def axb{v:AV}{x:Value}(h:mapArg v=true)(c:VR F v x):∃k n,x=.int k n:=by
 unfold mapArg at h;split at h
 ·next n=>
  split at h
  ·next a d=>
   obtain⟨g,i,b⟩:=aH.sH _ _ d (by simp);simp only[VR]at c;obtain⟨m,e,_,f⟩:=c;rw[i]at e;cases e;simp only[Nd.den]at b;split at b
   ·cases b;simp only[GR]at f;exact⟨_,_,f⟩
   ·cases b
  ·cases h
 ·next j=>
  obtain⟨n,d⟩:=amJ.1 h;obtain⟨k,l⟩:=Aw d c;exact⟨k,n,l⟩
def aiD{e:TypeId}{size len m:Nat}{cs:Q3}{vs:Q6}(h:Wq P e size len cs=some m)(k:aC F cs vs):0<size/\0<len/\cs.length=len*size/\∃gs,aH.val m=some (.l gs)/\gs.length=len/\aC F (bQ gs) vs/\∀x∈gs,x.cells.length=size/\x.cells.all GV.scalar=true:=by
 unfold Wq at h;split at h;rotate_left
 ·cases h
 split at h;rotate_left
 ·cases h
 next c s=>
 split at h;rotate_left
 ·cases h
 next i=>
 simp only[aK,oK,jB]at i;obtain⟨⟨h1,l⟩,b⟩:=i;have b:=bK b;have a:0<size:=by
  rcases h1 with⟨_,h1⟩|h1
  ·exact h1
  ·have:=bK h1;omega
 have d:c=false->size=1:=by
  intro e;rcases h1 with⟨h1,_⟩|h1
  ·rw[e]at h1;cases h1
  ·exact bK h1
 split at h
 ·next t f=>
  obtain⟨gs,n,o,p,_,q⟩:=Gs d len f k b;obtain⟨g,r,j⟩:=gU h;simp only[Nd.den,n,gZ,aY]at j;subst j;exact⟨a,l,b,gs,r,o,p,q⟩
 ·cases h
def awZ{R:Prop}{t e:TypeId}{size bytes len:Nat}{z:Q3}{B:Wm}{qs:Array (Nat×Value)}{cs:Q3}
 (fin:∀(v:AV)(τ:aA),Ws P J e size len cs=(some v,τ)->(∃y w' F',(Instr.buildSlice t len qs).run P w=.ok y w'/\St P F J w F' τ w'/\VR F' v y)->R)
 (h:SR P F J w) (hi:xZ P t=some (e,size,bytes,z)) (d:¬len*size>2^24) (l:BQ (λi=>some (i*size,size)) (if len*size=0 then[]else jG len z) B=some cs) (D:DX F B qs.toList):R:=by
 unfold Ws at fin;split at fin;rotate_left
 ·exact fin _ _ rfl (anD h hi d l D)
 next m b=>
 refine fin _ _ rfl ?_;obtain⟨L,_,M,N,n,o⟩:=CQ hi;obtain⟨Z,O,p⟩:=Hy M;have a:0<size/\0<len:=by
  unfold Wq at b;split at b;rotate_left
  ·cases b
  split at b;rotate_left
  ·cases b
  next Q ha=>
  split at b;rotate_left
  ·cases b
  next q=>
  simp only[aK,oK,jB]at q;refine⟨?_,q.1.2⟩;rcases q.1.1 with⟨_,h1⟩|h1
  ·exact h1
  ·have:=bK h1;omega
 have E:¬len*size=0:=by have:=O5 a.2 a.1;omega
 simp only[E,if_false]at l;obtain⟨k,S,j⟩:=MV l D (SE (p F) n);have r:=j.length;have s:=Ec h (c:=cs) (xs:=k) (elem:=e) (es:=size) (opn:=true) (by rw[r,Ak];exact j) (by simpa using LH r) (by simp) (λ_=>⟨N,a.1,o⟩);obtain⟨_,_,u,gs,G,H,_,T⟩:=aiD b j;have x:k.size=len*size:=by rw[<-u,r];simp
 have g:k.size/size=len:=by rw[x];exact Tj _ a.1
 obtain⟨V,W⟩:=St.zo (f:=false) (size:=size) (y:=.slice (some ⟨w.heap.size,0,none⟩) len len) s G T o (λvs A=>by
  obtain⟨_,_,_,X,I,_,Y,_⟩:=aiD b A;rw[G]at I;cases I;exact Y) (by
  simp only[VR];refine⟨⟨w.heap.size,0,k.size,size⟩,by simp[Env.put],?_,?_⟩
  ·simp only[uF,IB];rw[g,H];simp
  ·simp only[uF,IB,g,H,oL]) (by simp)
 refine⟨_,_,_,?_,V,W⟩;simp only[Instr.buildSlice,aV,bf L,aU,jv o,wJ,ah d,E,if_false,O,bJ,S,newRow,newObj,Sem.run]
structure TR(P:Program)(F:Env)(a:bG)(A:Act):Prop where
 gn:a.gn=P.globals.size
 size:A.tmps.size=a.n
 none:A.defers=[]
 slot:∀t v,a.t.get t=some v->∃x,A.tmps[t]? =some x/\VR F v x
def TR.mono{F F':Env}{a:bG}{A:Act}(h:TR P F a A)(b:F.le F'):TR P F' a A:=
 ⟨h.gn,h.size,h.none,λt v c=>by obtain⟨x,d,e⟩:=h.slot t v c;exact⟨x,d,VR.mono b _ _ e⟩⟩
def TR.put{a f:bG}{A:Act}{dst:Option Tmp}{r:Q4}{x:Value}(h:TR P F a A)(b:a.put dst r=some f)(g:∀v,r=some v->VR F v x):TR P F f (A.put dst x):=by
 unfold bG.put at b;split at b
 ·cases b;exact h
 ·next d=>
  split at b
  ·next i=>
   cases b;refine⟨h.gn,by simp[Act.put,h.size],h.none,λt v c=>?_⟩;rw[Tr.vS]at c;show ∃y,(A.tmps.setIfInBounds d x)[t]? =some y/\_
   rw[DR];split at c
   ·next e=>
    subst e;rw[aj rfl,aj (by rw[h.size];exact i)];exact⟨x,rfl,g v c⟩
   ·next e=>rw[ah (λj=>e j.symm)];exact h.slot t v c
  ·cases b
def Qi{a:bG}{A:Act}(h:SR P F J w)(d:TR P F a A)(x:Operand)(v:AV)(b:a.eval x=some v):VR F v (A.eval x):=by
 cases x with
 |tmp t=>obtain⟨y,i,j⟩:=d.slot t v b;simp only[Act.eval];rw[Af,i];exact j
 |const c=>exact EK _ _ _ b
 |global g=>
  simp only[bG.eval]at b;split at b
  ·next e=>
   cases b;rw[d.gn]at e;obtain⟨l,es,k⟩:=h.nS g (Nat.le_of_lt e);simp only[VR,Act.eval];exact⟨_,k,by simp⟩
  ·cases b
 |func f=>simp only[bG.eval,aY]at b;subst b;simp only[VR,Act.eval];exact⟨[],[],rfl,by simp[aC],by simp[aC]⟩
def O6(P:Program)(F:Env)(J:aA)(w:World)(r:Q4)(J':aA)(s:Sem Next):Prop:=
 ∃a b c,s.run P w=.ok a b/\St P F J w c J' b/\(match r with|some v=>∃x,a=.value x/\VR c v x|none=>a=.skip)
def fK{r:AV}{s:Sem Value}(h:∃y w' F',s.run P w=.ok y w'/\St P F J w F' J' w'/\VR F' r y):O6 P F J w (some r) J' (do pure (.value (<-s))):=by obtain⟨y,w',F',a,b,c⟩:=h;exact⟨.value y,w',F',by simp only[aV,a,aU,bJ],b,y,rfl,c⟩
def NM{s:Sem Unit}(h:∃w' F',s.run P w=.ok () w'/\St P F J w F' J' w'):O6 P F J w none J' (do s;pure .skip):=by obtain⟨w',F',a,b⟩:=h;exact⟨.skip,w',F',by simp only[aV,a,aU,bJ],b,rfl⟩
def jk{r:AV}{s:Sem Value}(h:SR P F J w)(a:∃y,s.run P w=.ok y w/\VR F r y):∃y w' F',s.run P w=.ok y w'/\St P F J w F' J w'/\VR F' r y:=by obtain⟨y,b,c⟩:=a;exact⟨y,w,F,b,St.refl h,c⟩
def kC{v:Q4}{r:Q4}(h:fC J v=some (r,J')):∃u,v=some u/\r=some u/\J'=J:=by simp only[fC,bC,pF]at h;obtain⟨u,a,b,c⟩:=h;exact⟨u,a,b.symm,c.symm⟩
def ER{v:We}{r:Q4}(h:uT v=some (r,J')):∃u,v=some (u,J')/\r=some u:=by simp only[uT,bC,LP,pF]at h;obtain⟨u,s,a,b,c⟩:=h;subst c;exact⟨u,a,b.symm⟩
def acM{v:Option aA}{r:Q4}(h:Oe v=some (r,J')):v=some J'/\r=none:=by simp only[Oe,bC,pF]at h;obtain⟨s,a,b,c⟩:=h;subst c;exact⟨a,b.symm⟩
def anl{c:Value}{t:Bool}(h:VR F (.b t) c):(asBool c).run P w=.ok t w:=by simp only[VR]at h;subst h;rfl
def aok(h:SR P F J w){ts:Wr}{ty t:TypeId}{x v:AV}{u:Value}(j:ts[0]? =some t)(d:YN P t x J=some (v,J'))(i:VR F x u):
 ∃y w' F',(Builtin.clear_ ts ty #[u]).run P w=.ok y w'/\St P F J w F' J' w'/\VR F' v y:=by
 have f:∀F':Env,VR F' (.fB []) (.tuple #[]):=λF'=>by simp only[VR];exact⟨[],rfl,by simp[aC]⟩
 unfold YN at d;split at d
 ·next e b=>
  cases d;simp only[VR]at i;subst i;exact⟨_,w,F,by simp only[Builtin.clear_,j,FQ,kX,aV,bf b,aU,bJ],St.refl h,f _⟩
 ·next e b=>
  cases d;simp only[VR]at i;rcases i with⟨_,R,rfl⟩|⟨bl,G,c,xs,sz,rfl,_⟩
  ·exact⟨_,w,F,by cases R<;>simp only[Builtin.clear_,j,FQ,kX,aV,bf b,aU,bJ],St.refl h,f _⟩
  ·exact⟨_,w,F,by simp only[Builtin.clear_,j,FQ,kX,aV,bf b,aU,bJ,kY],St.refl h,f _⟩
 ·next e id G n S b=>
  simp only[VR]at i;obtain⟨q,D,_,rfl⟩:=i;split at d
  ·next O=>
   cases d;subst O;exact⟨_,w,F,by simp only[Builtin.clear_,j,FQ,kX,aV,bf b,aU,bJ],St.refl h,f _⟩
  ·next O=>
   split at d
   ·next z c et T V E=>
    split at d
    ·next Q=>
     simp only[bC]at d;obtain⟨c',W,X⟩:=d;cases X;obtain⟨H,Y,o⟩:=Hy V;have I:=SE (n:=n) (size:=z.length) (o F) rfl;have p:=(o F).length;have r:(jG n z).all AV.oO=true:=by rw[List.all_eq_true];intro a s;unfold jG at s;simp only[List.mem_flatten,aek]at s;obtain⟨l,⟨_,rfl⟩,s⟩:=s;exact List.all_eq_true.1 Q.2 a s
     obtain⟨w',A,L⟩:=Yh h E Q.1 D W I r;refine⟨_,w',F,?_,L,f _⟩;have M:(Builtin.zeroCells H.cells n)=(Array.range (n*z.length)).map (H.cells[· % H.cells.size]!):=by unfold Builtin.zeroCells;rw[p];simp
     obtain⟨m,rfl⟩:∃m,n=m+1:=⟨n-1,by omega⟩
     simp only[Builtin.clear_,j,FQ,kX,aV,bf b,aU,Y];rw[M,A];rfl
    ·cases d
   ·cases d
 ·next k e b=>
  cases d;simp only[VR]at i;subst i;exact⟨_,w,F,by simp only[Builtin.clear_,j,FQ,kX,aV,bf b,aU,bJ],St.refl h,f _⟩
 ·next k e id b=>
  split at d
  ·next es E=>
   split at d
   ·next Z=>
    cases d;simp only[VR]at i;obtain⟨q,D,rfl⟩:=i;obtain⟨q',B,ms,g,N,aa,_⟩:=h.obj _ _ E rfl;rw[D]at B;cases B;refine⟨.tuple #[],oI w q.bl (.map #[] g),F,?_,St.write h E rfl Z D EX (λk hk=>EW hk) rfl rfl rfl ⟨#[],g,Dq N,rfl,by simp⟩,f _⟩;simp only[Builtin.clear_,j,FQ,kX,aV,bf b,aU,getObj,Sem.run,N,Ol N (λ_ _ _=>by simp),bJ]
   ·cases d
  ·cases d
 ·cases d
def anF(h:SR P F J w){b:Builtin}{ts:Wr}{ty:TypeId}{cs:Array Bool}{args:Q3}{vs:Q6}{r:Q4}(d:IG P b ts args J=some (r,J'))(j:aC F args vs):
 O6 P F J w r J' (builtin b ts ty cs ⟨vs⟩):=by
 unfold IG at d;split at d
 ·next x=>
  simp only[aC]at j;obtain⟨u,_,rfl,f,rfl⟩:=j;split at d
  ·next t o=>
   obtain⟨v,g,rfl,rfl⟩:=kC d;exact fK (jk h (aiA h o g f))
  ·cases d
 ·next s x=>
  simp only[aC]at j;obtain⟨u,_,rfl,f,p,_,rfl,i,rfl⟩:=j;obtain⟨v,g,rfl⟩:=ER d;exact fK (anh h g f i)
 ·next s x=>
  simp only[aC]at j;obtain⟨u,_,rfl,f,p,_,rfl,i,rfl⟩:=j;obtain⟨v,g,rfl⟩:=ER d;exact fK (aoW h g f i)
 ·next x=>
  simp only[aC]at j;obtain⟨u,_,rfl,f,rfl⟩:=j;split at d
  ·next t o=>
   obtain⟨v,g,rfl⟩:=ER d;exact fK (aok h o g f)
  ·cases d
 ·next x=>
  simp only[aC]at j;obtain⟨u,_,rfl,f,rfl⟩:=j;split at d
  ·next t o=>
   split at d
   ·next e l=>
    obtain⟨v,g,rfl,rfl⟩:=kC d;cases g;simp only[VR]at f;subst f;exact fK (jk h ⟨.int .i64 0,by simp[Builtin.cap_,o,bf l,goInt],by simp[VR]⟩)
   ·next e id A n c l=>
    obtain⟨v,g,rfl,rfl⟩:=kC d;cases g;simp only[VR]at f;obtain⟨q,B,_,rfl⟩:=f;exact fK (jk h ⟨.int .i64 c,by simp[Builtin.cap_,o,bf l,goInt],by simp[VR]⟩)
   ·cases d
  ·cases d
 ·simp only[aC]at j;obtain⟨u,_,rfl,f,rfl⟩:=j;obtain⟨v,g,rfl,rfl⟩:=kC d;cases g;simp only[VR]at f;subst f;exact fK (jk h ⟨_,alp,by simp only[VR]⟩)
 ·next id A n H=>
  split at d
  ·cases d
  ·next G=>
   simp only[aC]at j;obtain⟨u,_,rfl,f,rfl⟩:=j;obtain⟨v,g,rfl,rfl⟩:=kC d;cases g;simp only[VR]at f;obtain⟨q,B,I,rfl⟩:=f;refine fK (jk h ⟨_,alq ?_,by simp only[VR];exact⟨q,B,rfl⟩⟩);intro e;rw[e]at I;have R:n=0:=by omega
   subst R;cases H with
   |none=>exact G ⟨rfl,.inl rfl⟩
   |some c=>simp only[rV]at e;subst e;exact G ⟨rfl,.inr rfl⟩
 ·next x n=>
  simp only[aC]at j;obtain⟨u,_,rfl,f,p,_,rfl,i,rfl⟩:=j;simp only[VR]at i;subst i;split at d
  ·next t O L=>
   have:=Ui L;subst this;split at d
   ·next S=>
    subst S;split at d
    ·obtain⟨v,g,rfl,rfl⟩:=kC d;cases g;simp only[VR]at f;subst f;exact fK (jk h ⟨_,adu,by simp only[VR]⟩)
    ·obtain⟨v,g,rfl,rfl⟩:=kC d;cases g;simp only[VR]at f;obtain⟨q,B,rfl⟩:=f;exact fK (jk h ⟨_,adu,by simp only[VR]⟩)
    ·cases d
   ·split at d
    ·next id A=>
     split at d
     ·next e c et T M V=>
      split at d
      ·next G=>
       obtain⟨rfl,W,X,Y,Z,c5⟩:=G;split at d
       ·next r' hr=>
        split at d
        ·next b hb=>
         cases d;simp only[VR]at f;obtain⟨q,B,rfl⟩:=f;obtain⟨y,w',g,m,k⟩:=al9 (it:=O) (ty:=ty) h M V W X Y Z c5 hr hb B;exact fK ⟨y,w',F,g,m,k⟩
        ·cases d
       ·cases d
      ·cases d
     ·cases d
    ·cases d
  ·cases d
 ·next x y=>
  simp only[aC]at j;obtain⟨u,_,rfl,f,p,_,rfl,i,rfl⟩:=j;split at d
  ·next a Q g m=>
   obtain⟨v,k,rfl,rfl⟩:=kC d;simp only[xM]at k;obtain⟨z,D,E⟩:=k;rw[Dp g f,Dp m i];exact fK (jk h ⟨z,Dk D w,EK _ _ _ E⟩)
  ·cases d
 ·next x y=>
  simp only[aC]at j;obtain⟨u,_,rfl,f,p,_,rfl,i,rfl⟩:=j;split at d
  ·next a Q g m=>
   obtain⟨v,k,rfl,rfl⟩:=kC d;simp only[xM]at k;obtain⟨z,D,E⟩:=k;rw[Dp g f,Dp m i];exact fK (jk h ⟨z,Dk D w,EK _ _ _ E⟩)
  ·cases d
 ·next x y z=>
  simp only[aC]at j;obtain⟨u,_,rfl,f,p,_,rfl,i,aa,_,rfl,N,rfl⟩:=j;split at d
  ·next a Q ab g m h4=>
   obtain⟨v,k,rfl,rfl⟩:=kC d;simp only[xM]at k;obtain⟨z,D,E⟩:=k;rw[Dp g f,Dp m i,Dp h4 N];exact fK (jk h ⟨z,Dk D w,EK _ _ _ E⟩)
  ·cases d
 ·cases d
def aFj{a it ty:TypeId}(p:WN):(Builtin.unsafeString_ #[a,it] ty #[.pointer p,.int .i64 0]).run P w=.ok (.string ⟨⟨[]⟩⟩) w:=adu
def aEC(h:SR P F J w){b:Builtin}{ts:Wr}{ty:TypeId}{cs:Array Bool}{args:Q3}{vs:Q6}{r:Q4}(c:KN P b ts args J=some (r,J'))(l:aC F args vs):
 O6 P F J w r J' (builtin b ts ty cs ⟨vs⟩):=by
 unfold KN at c;have mm:∀(I:Bool){x y:AV}{m n:Nat}{v:AV}{u L:Value},jg x=some m->jg y=some n->lu (.mm I m n)=some v->VR F x u->VR F y L->∃k a M,u=.int k a/\L=.int k M/\VR F v (.int k (if I then(if a<M then M else a)else(if M<a then M else a))):=by
  intro I x y m n v u L D N aa z d;obtain⟨g1,a1,a2,a3⟩:=ng D z;obtain⟨g2,b1,O,b3⟩:=ng N d;obtain⟨_,g,_,E,c3⟩:=nV (F:=F) aa;simp only[Nd.den,a1,b1]at E;split at E
  ·next k i k' j S e2=>
   cases S;cases e2;split at E
   ·next G=>
    subst G;cases E;simp only[GR]at a3 b3;exact⟨k,i,j,a3,b3,c3 _ rfl (by simp only[GR])⟩
   ·cases E
  ·cases E
 split at c
 ·next x=>
  simp only[aC]at l;obtain⟨u,_,rfl,z,rfl⟩:=l;split at c
  ·next t ht=>
   obtain⟨v,Q,e⟩:=bC.1 c;cases e;exact fK (jk h (aEH ht Q z))
  ·cases c
 ·next s x=>
  simp only[aC]at l;obtain⟨u,_,rfl,z,L,_,rfl,d,rfl⟩:=l;obtain⟨v,Q,e⟩:=bC.1 c;cases e;exact fK (aEA h Q z d)
 ·next x y=>
  simp only[aC]at l;obtain⟨u,_,rfl,z,L,_,rfl,d,rfl⟩:=l;split at c
  ·next m n D N=>
   obtain⟨v,Q,e⟩:=bC.1 c;cases e;obtain⟨k,a,M,rfl,rfl,h2⟩:=mm false D N Q z d;refine fK (jk h ⟨_,?_,h2⟩);simp[Builtin.min_,Builtin.min2]
  ·cases c
 ·next x y=>
  simp only[aC]at l;obtain⟨u,_,rfl,z,L,_,rfl,d,rfl⟩:=l;split at c
  ·next m n D N=>
   obtain⟨v,Q,e⟩:=bC.1 c;cases e;obtain⟨k,a,M,rfl,rfl,h2⟩:=mm true D N Q z d;refine fK (jk h ⟨_,?_,h2⟩);simp[Builtin.max_,Builtin.max2]
  ·cases c
 ·next id n=>
  split at c
  ·next m et Z=>
   split at c
   ·next B=>
    cases c;simp only[aC]at l;obtain⟨u,_,rfl,z,rfl⟩:=l;simp only[VR]at z;obtain⟨A,k1,z⟩:=z;rcases z with⟨q,T,an,rfl⟩|⟨ao,rfl,rfl⟩
    ·have V:=h.at Z T;have H:=V.Yc;obtain⟨_,_,_,_,ab,_⟩:=V.NK;have W:q.sz/q.es≠0:=by have:=Nat.div_pos H ab;omega
     exact fK (jk h ⟨_,alq W,by simp only[VR];exact⟨A,_,k1,rfl,λ_=>⟨q,T,rfl⟩⟩⟩)
    ·exact fK (jk h ⟨_,alp,by simp only[VR];exact⟨[],_,k1,rfl,λN=>absurd rfl N⟩⟩)
   ·cases c
  ·cases c
 ·next id n k=>
  split at c
  ·next t it ac=>
   have:=Ui ac;subst this;split at c
   ·next e m et f ad Z=>
    split at c
    ·next hc=>
     obtain⟨rfl,c1,E,c3⟩:=hc;split at c
     ·next n' G=>
      split at c
      ·next B=>
       rw[aK]at B;obtain⟨v,D,e⟩:=bC.1 c;cases e;simp only[aC]at l;obtain⟨u,_,rfl,z,L,_,rfl,d,rfl⟩:=l;simp only[VR]at z d;obtain⟨ys,p,k1,rfl,hp⟩:=z;obtain⟨gk,j1,_,j3⟩:=d;obtain⟨ap,j4,j5⟩:=aH.sH k _ G (by simp);rw[j1]at j4;cases j4;obtain⟨nn,gs,b1,O,b3⟩:=nV (F:=F) D;simp only[Nd.den]at O;split at O
       ·next A l=>
        split at O
        ·next ae=>
         obtain⟨b,hb,rfl⟩:=bC.1 O;simp only[Nd.den]at j5;split at j5
         ·next zs hz=>
          cases j5;have X:=zY 100 B.1 l k1;have Y:=zY 100 B.2 l hz;simp only[GR]at j3;subst j3;have fin:∀{F':Env}(y:Value),VR F' (.s b) y->VR F' v y:=by intro F' y hy;obtain⟨_,g2,_,d2,d3⟩:=nV (F:=F') D;simp only[Nd.den,l,aj ae,hb,gZ,aY]at d2;subst d2;exact d3 y rfl ((l9 _ _).2 hy)
          by_cases R:A=[]
          ·subst R;have af:zs.length=0:=Y.symm;have ag:b=[]:=by simpa[ou]using hb.symm
           subst ag;rw[af];refine fK ⟨.string ⟨⟨[]⟩⟩,w,F,aFj p,(St.refl h).V9 id,fin _ (by simp only[VR])⟩
          ·have ai:ys≠[]:=by intro e;rw[e]at X;exact R (jH X)
           obtain⟨q,T,rfl⟩:=hp ai;obtain⟨aq,i1,i2,i3,i4,i5,i6,i7,hS⟩:=OH h Z T;rw[l]at i1;cases i1;have ak:bQ A=dX A:=by unfold bQ;rw[Un hb]
           have H:0<A.length:=Ls.2 R;have al:takeN (bQ A) 0 ((A.length:Nat):Int).toNat=some (dX A):=by rw[ak];unfold takeN;rw[dN,lG (by rw[nG];simp),aj (by rw[nG];simp)]
           have am:A.length<2^62:=by omega
           obtain⟨y,w',r1,r2,r3⟩:=al9 (it:=it) (ty:=ty) (off:=0) (n:=A.length) hS ad Fz c1 E (by omega) (by omega) c3 al (PN hb) T;rw[<-Y];refine fK ⟨y,w',F,by simpa using r1,?_,fin _ r3⟩;refine((Sj Z r2).V9 id).sub (λk o G=>?_) (dD _) rfl;rw[aA.zO]at G⊢;split at G
           ·cases G
           ·next S=>
            rw[ah S];unfold lK;rw[aA.get_put,ah S,aA.get_put,ah S];exact G
         ·cases j5
        ·cases O
       ·cases O
      ·cases c
     ·cases c
    ·cases c
   ·cases c
  ·cases c
 ·cases c
def lZ(P:Program)(f:FuncId)(args:QQ)(w:World)(R:Value->World->Prop):Prop:=
 (∃v a,(callFunc f args).run P w=.ok (.value v) a/\R v a)\/
 ((callFunc f args).run P w=.ok (.enter f args) w/\Calls P f args w λe a=>∃v,e=.returned v/\R v a)
def sO(P:Program)(call:Caller):Prop:=∀f args J r J',call f args J=some (r,J')->∀F w a,SR P F J w->aC F args a->
 lZ P f ⟨a⟩ w λv c=>∃b,St P F J w b J' c/\VR b r v
def GU:Op->Bool
 |.call {callee:=.value _,..}=>true
 |.call {callee:=.invoke _ _,..}=>true
 |_=>false
def aw7{f:FuncId}{first a:Q3}{b vs:Q6}(h1:aC F first b)(c:aC F a vs):∃y,(Instr.makeFunc (.func f) ⟨b⟩ ⟨vs⟩).run P w=.ok y w/\VR F (.fn f first a) y:=
 ⟨_,rfl,by simp only[VR];exact⟨b,vs,rfl,h1,c⟩⟩
def NP{b:QP}{ρ:Operand->Value}(hρ:∀x a,b x=some a->VR F a (ρ x)){o:Option Operand}{r:Q4}(h:Kr b o=some r):mD F r (o.map ρ):=by
 cases o with
 |none=>simp[Kr]at h;subst h;trivial
 |some x=>simp only[Kr,bC]at h;obtain⟨a,c,rfl⟩:=h;exact hρ _ _ c
def JI{α β:Type}(a:Array α)(f:α->β):a.map f=⟨a.toList.map f⟩:=by apply OV;simp
set_option maxHeartbeats 1000000 in
def ajx(h:SR P F J w){call:Caller}{o:Oper}{ev:QP}{ρ:Operand->Value}(hρ:∀x a,ev x=some a->VR F a (ρ x))(hc:GU o.op=false){r:Q4}
 (d:wM P call o ev J=some (r,J')):O6 P F J w r J' (execOp ρ o):=by
 unfold wM at d;unfold execOp;split at d
 ·next x j=>rw[j];obtain⟨v,h1,rfl,rfl⟩:=kC d;exact⟨_,w,F,rfl,St.refl h,_,rfl,hρ _ _ h1⟩
 ·next x j=>rw[j];obtain⟨v,h1,rfl,rfl⟩:=kC d;exact⟨_,w,F,rfl,St.refl h,_,rfl,hρ _ _ h1⟩
 ·next c a b j=>
  rw[j];split at d
  ·next t R=>
   obtain⟨vd,af,R⟩:=Jh R;obtain⟨v,h1,rfl,rfl⟩:=kC d;refine⟨.value (if t then ρ a else ρ b),w,F,?_,St.refl h,_,rfl,?_⟩
   ·simp only[aV,anl (R _ _ (hρ _ _ af)),aU,bJ]
   ·cases t
    ·exact hρ _ _ h1
    ·exact hρ _ _ h1
  ·cases d
 ·next t j=>
  rw[j];simp only[bC]at d;obtain⟨z,hz,e⟩:=d;cases e;exact fK (am9 h hz)
 ·next t x j=>
  rw[j];simp only[bC]at d;obtain⟨z,hz,e⟩:=d;cases e;exact fK (afd h (hρ _ _ hz))
 ·next t L j=>
  rw[j];split at d
  ·next ps S=>
   obtain⟨v,h1,rfl,rfl⟩:=kC d;exact fK (jk h (anE h1 (by rw[JI];exact ZW hρ S)))
  ·cases d
 ·next t len L j=>
  rw[j];split at d
  ·next e al bytes z ps hi S=>
   split at d
   ·cases d
   ·next aa=>
    split at d
    ·next cs T=>
     have e1:=IC d;refine awZ (t:=t) (qs:=L.map λ(i,x)=>(i,ρ x)) (λv τ e2 hr=>?_) h hi aa T (by rw[JI];exact ZW hρ S);rw[e2]at e1;cases e1;exact fK hr
    ·cases d
  ·cases d
 ·next t a j=>
  rw[j];split at d
  ·next av M=>
   obtain⟨v,h1,rfl,rfl⟩:=kC d;rcases xu h1 with h1|h1
   ·exact fK (jk h (G6 h h1 (hρ _ _ M)))
   ·exact fK (jk h (aEI h h1 (hρ _ _ M)))
  ·cases d
 ·next t a x j=>
  rw[j];split at d
  ·next av xv M A=>
   obtain⟨h1,rfl⟩:=acM d;rcases xu h1 with h1|h1
   ·obtain⟨G,H,I⟩:=XH h h1 (hρ _ _ M) (hρ _ _ A);exact NM ⟨G,F,H,I⟩
   ·obtain⟨G,H,I⟩:=aEM h h1 (hρ _ _ M) (hρ _ _ A);exact NM ⟨G,F,H,I⟩
  ·cases d
 ·next x j=>
  rw[j];split at d
  ·next id V A=>
   obtain⟨v,h1,rfl,rfl⟩:=kC d;cases h1;have B:=hρ _ _ A;simp only[VR]at B;obtain⟨q,hq,B⟩:=B;exact⟨.value (ρ x),w,F,by simp only[B];rfl,St.refl h,_,rfl,hρ _ _ A⟩
  ·next b V A=>
   obtain⟨v,h1,rfl,rfl⟩:=kC d;cases h1;have B:=hρ _ _ A;simp only[VR]at B;obtain⟨bl,base,cs,ab,fr,y,_,_,B,_⟩:=B;exact⟨.value (ρ x),w,F,by simp only[B];rfl,St.refl h,_,rfl,hρ _ _ A⟩
  ·next m V A=>
   obtain⟨v,h1,rfl,rfl⟩:=kC d;cases h1;have B:=hρ _ _ A;simp only[VR]at B;obtain⟨g,bl,base,cs,ab,fr,y,_,_,_,B,_⟩:=B;exact⟨.value (ρ x),w,F,by simp only[B];rfl,St.refl h,_,rfl,hρ _ _ A⟩
  ·next id m V A=>
   obtain⟨v,h1,rfl,rfl⟩:=kC d;cases h1;have B:=hρ _ _ A;simp only[VR]at B;obtain⟨q,kk,i,_,_,B⟩:=B;exact⟨.value (ρ x),w,F,by simp only[B];rfl,St.refl h,_,rfl,hρ _ _ A⟩
  ·next f fs cs A=>
   obtain⟨v,h1,rfl,rfl⟩:=kC d;cases h1;have B:=hρ _ _ A;simp only[VR]at B;obtain⟨us,vs,B,_⟩:=B;exact⟨.value (ρ x),w,F,by simp only[B];rfl,St.refl h,_,rfl,hρ _ _ A⟩
  ·cases d
 ·next op t x y _ j=>
  rw[j];split at d
  ·next a b p D=>
   obtain⟨v,h1,rfl,rfl⟩:=kC d;rcases xu h1 with h1|h1
   ·exact fK (jk h (anw h h1 (hρ _ _ p) (hρ _ _ D)))
   ·exact fK (jk h (aEB h1 (hρ _ _ p) (hρ _ _ D)))
  ·cases d
 ·next op t x j=>
  rw[j];split at d
  ·next a p=>
   split at d
   ·next u O=>
    obtain⟨v,h1,rfl,rfl⟩:=kC d;simp only[xM]at h1;obtain⟨z,hz,yj⟩:=h1;have ac:(Op.unary op (ρ x)).run P w=.ok z w:=by rw[Dp O (hρ _ _ p)];exact Dk hz w
    exact fK (jk h ⟨z,ac,EK _ _ _ yj⟩)
   ·obtain⟨v,h1,rfl,rfl⟩:=kC d;exact fK (jk h (aEN h1 (hρ _ _ p)))
  ·cases d
 ·next src ao x j=>
  rw[j];split at d
  ·next a p=>
   obtain⟨v,h1,rfl⟩:=ER d;rcases xu h1 with h1|h1
   ·exact fK (P7 h h1 (hρ _ _ p))
   ·exact fK (aED h h1 (hρ _ _ p))
  ·cases d
 ·next t x j=>
  rw[j];split at d
  ·next a p hi=>
   obtain⟨v,h1,rfl,rfl⟩:=kC d;cases h1;exact fK (jk h (aw8 hi (hρ _ _ p)))
  ·cases d
 ·next f first am j=>
  rw[j];split at d
  ·next fs cs ag ai=>
   obtain⟨v,h1,rfl,rfl⟩:=kC d;cases h1;simp only[JI];exact fK (jk h (aw7 (MQ hρ ag) (MQ hρ ai)))
  ·cases d
 ·next t r' j=>
  rw[j];split at d
  ·cases d;exact fK (aiX h (.inl rfl))
  ·next x=>
   split at d
   ·next a kt et p O=>
    split at d
    ·next hm=>
     cases d;obtain⟨k,n,W⟩:=axb hm (hρ _ _ p);exact fK (aiX h (.inr ⟨k,n,kt,et,by simp[W],O⟩))
    ·cases d
   ·cases d
 ·next t l c j=>
  rw[j];split at d
  ·next a b p D=>
   obtain⟨v,h1,rfl⟩:=ER d;rcases xu h1 with h1|h1
   ·exact fK (aw9 h h1 (hρ _ _ p) (hρ _ _ D))
   ·exact fK (aEK h h1 (hρ _ _ p) (hρ _ _ D))
  ·cases d
 ·next t x lo hi j=>
  rw[j];split at d
  ·next a ap aq p X Y=>
   rcases xu d with d|d
   ·obtain⟨v,h1,rfl,rfl⟩:=kC d;rcases xu h1 with h1|h1
    ·exact fK (jk h (XA h h1 (hρ _ _ p) (NP hρ X) (NP hρ Y)))
    ·exact fK (jk h (alK h h1 (hρ _ _ p) (NP hρ X) (NP hρ Y)))
   ·obtain⟨v,h1,rfl⟩:=ER d;exact fK (aEL h h1 (hρ _ _ p) (NP hρ X) (NP hρ Y))
  ·cases d
 ·next t x f j=>
  rw[j];split at d
  ·next a p=>
   obtain⟨v,h1,rfl,rfl⟩:=kC d;rcases xu h1 with h1|h1
   ·exact fK (jk h (atC h1 (hρ _ _ p)))
   ·exact fK (jk h (aEE h1 (hρ _ _ p)))
  ·cases d
 ·next t x f j=>
  rw[j];split at d
  ·next a p=>
   obtain⟨v,h1,rfl,rfl⟩:=kC d;exact fK (jk h (atD h1 (hρ _ _ p)))
  ·cases d
 ·next t x ix j=>
  rw[j];split at d
  ·next a k p W=>
   obtain⟨v,h1,rfl,rfl⟩:=kC d;rcases xu h1 with h1|h1
   ·exact fK (jk h (QE h1 (hρ _ _ p) (hρ _ _ W)))
   ·exact fK (jk h (aEF h h1 (hρ _ _ p) (hρ _ _ W)))
  ·cases d
 ·next t x ix j=>
  rw[j];split at d
  ·next a k p W=>
   obtain⟨v,h1,rfl,rfl⟩:=kC d;rcases xu h1 with h1|h1
   ·exact fK (jk h (aaQ h1 (hρ _ _ p) (hρ _ _ W)))
   ·exact fK (jk h (aEG h1 (hρ _ _ p) (hρ _ _ W)))
  ·cases d
 ·next t m k ok j=>
  rw[j];split at d
  ·next a b p D=>
   obtain⟨v,h1,rfl,rfl⟩:=kC d;rcases xu h1 with h1|h1
   ·exact fK (jk h (aw0 h h1 (hρ _ _ p) (hρ _ _ D)))
   ·exact fK (jk h (aEJ h h1 (hρ _ _ p) (hρ _ _ D)))
  ·cases d
 ·next t m k x j=>
  rw[j];split at d
  ·next a b c p D N=>
   obtain⟨h1,rfl⟩:=acM d;rcases xu h1 with h1|h1
   ·obtain⟨G,H,I⟩:=aiZ h h1 (hρ _ _ p) (hρ _ _ D) (hρ _ _ N);exact NM ⟨G,F,H,I⟩
   ·obtain⟨G,H,I⟩:=alJ h h1 (hρ _ _ p) (hρ _ _ D) (hρ _ _ N);exact NM ⟨G,F,H,I⟩
  ·cases d
 ·next t m k x j=>
  rw[j];split at d
  ·next a b c p D N=>
   obtain⟨h1,rfl⟩:=acM d;rcases xu h1 with h1|h1
   ·obtain⟨G,H,I⟩:=aiZ h h1 (hρ _ _ p) (hρ _ _ D) (hρ _ _ N);exact NM ⟨G,F,H,I⟩
   ·obtain⟨G,H,I⟩:=alJ h h1 (hρ _ _ p) (hρ _ _ D) (hρ _ _ N);exact NM ⟨G,F,H,I⟩
  ·cases d
 ·next t x j=>
  rw[j];split at d
  ·next s O hx=>
   cases d;have B:=hρ _ _ hx;simp only[VR]at B;simp only[B];exact fK (aAx h O)
  ·next k e O hx=>
   cases d;have B:=hρ _ _ hx;simp only[VR]at B;simp only[B];exact fK (aAv h O)
  ·next k e id O hx=>
   split at d
   ·next es hg=>
    cases d;exact fK (aAw h O hg (hρ _ _ hx))
   ·cases d
  ·cases d
 ·next it j=>
  rw[j];split at d
  ·next a p=>
   obtain⟨v,h1,rfl⟩:=ER d;obtain⟨y,G,H,I,h4⟩:=ayd (ty:=o.type) h h1 (hρ _ _ p);exact fK ⟨y,G,F,H,I,h4⟩
  ·cases d
 ·next it j=>
  rw[j];have ad:VR F (.fB [.b false]) (.tuple #[.bool false]):=by simp only[VR];exact⟨[_],rfl,aC.cons (by simp only[VR]) (by simp[aC])⟩
  split at d
  ·next id p=>
   split at d
   ·next hg=>
    cases d;exact fK (jk h ⟨_,ayb (ty:=o.type) h hg (hρ _ _ p),ad⟩)
   ·next m hg=>
    split at d
    ·next hm=>
     cases d;exact fK (jk h ⟨_,ayc (ty:=o.type) h hg hm (hρ _ _ p),ad⟩)
    ·cases d
   ·cases d
  ·cases d
 ·next x xt t ok j=>
  rw[j];split at d
  ·next a p=>
   obtain⟨v,h1,rfl,rfl⟩:=kC d;exact fK (jk h (aFb h1 (hρ _ _ p)))
  ·cases d
 ·next x k j=>
  rw[j];split at d
  ·next l p=>
   obtain⟨v,h1,rfl,rfl⟩:=kC d;exact fK (jk h (asV h1 (hρ _ _ p)))
  ·cases d
 ·next c j=>
  rw[j];split at d
  ·next args Z=>
   split at d
   ·next b D=>
    have B:=MQ hρ Z;have d:IG P b c.argTypes args J=some (r,J')\/KN P b c.argTypes args J=some (r,J'):=by
     cases ae:adb b args with
     |true=>rw[ae,cond_true]at d;exact(xu d).symm
     |false=>rw[ae,cond_false]at d;exact xu d
    rcases d with d|d
    ·have E:=anF (cs:=c.args.map fun|.const _=>true|_=>false) (ty:=o.type) h d B;simp only[resolve,D,JI,pure_bind,invoke];rw[JI]at E;exact E
    ·have E:=aEC (cs:=c.args.map fun|.const _=>true|_=>false) (ty:=o.type) h d B;simp only[resolve,D,JI,pure_bind,invoke];rw[JI]at E;exact E
   ·next f T=>
    rw[j]at hc;exfalso;obtain⟨Q,args,ak⟩:=c;simp only at T;subst T;simp[GU]at hc
   ·next f an T=>
    rw[j]at hc;exfalso;obtain⟨Q,args,ak⟩:=c;simp only at T;subst T;simp[GU]at hc
  ·cases d
 ·cases d
def afW(r:Value)(l:Q6):(#[r]++(⟨l⟩:QQ))=⟨r::l⟩:=by apply OV;simp
def awi(a:String)(r:Value)(l:Q6):invoke (.fn (.method a) #[]) (#[r]++(⟨l⟩:QQ))=callMethod r a ⟨l⟩:=by
 rw[afW];have b:(⟨r::l⟩:QQ)[0]? =some r:=by simp
 have c:(⟨r::l⟩:QQ).extract 1 (⟨r::l⟩:QQ).size=⟨l⟩:=by apply OV;simp
 have:invoke (.fn (.method a) #[]) (⟨r::l⟩:QQ)=(do
  let some recv:=(⟨r::l⟩:QQ)[0]? |stuck "call: a method without a receiver"
  callMethod recv a ((⟨r::l⟩:QQ).extract 1 (⟨r::l⟩:QQ).size)):=rfl
 rw[this,b,c]
def axp(h:SR P F J w){b:String}{a A:AV}{f:FuncId}{x:Value}(c:TN P b J a=some (f,A))(B:VR F a x)(args:QQ):
 ∃y,(callMethod x b args).run P w=(callFunc f (#[y]++args)).run P w/\VR F A y:=by
 unfold TN at c;split at c
 ·next t v=>
  simp only[VR]at B;obtain⟨l,rfl,o⟩:=B;split at c
  ·next i d hi p=>
   split at c
   ·next m G=>
    split at c
    ·next D r E H=>
     have j:∀y,(receiverAt t (.val l) r (some ((b.splitOn ".").getLastD b))).run P w=.ok y w->
      (callMethod (.iface t l) b args).run P w=(callFunc D (#[y]++args)).run P w:=by
      intro y I;have s:m.path.isEmpty=true:=by simpa using E
      have:∀n:Nat,(method (n+1) t l b).run P w=.ok (D,y) w:=by intro n;simp only[method,aV,Hw hi,aU,G,E,follow,bJ,H,s,if_true,I]
      simp only[callMethod,aV,program,Sem.run,aU];rw[show P.types.size+Made.depth=(P.types.size+Made.depth-1)+1 by simp[Made.depth],this];rfl
     split at c
     ·next e=>
      cases c;exact⟨l,j _ (by simp only[receiverAt,aV,bf p,aU,Go.Place.get,bJ]),o⟩
     ·next e=>
      split at c
      ·next id g=>
       simp only[bC,pF]at c;obtain⟨z,L,rfl,rfl⟩:=c;obtain⟨y,M,N⟩:=G6 h L o;simp only[VR]at o;obtain⟨q,Q,rfl⟩:=o;refine⟨y,j _ ?_,N⟩;have u:(loadVar e ⟨q.bl,q.ba+g,none⟩).run P w=.ok y w:=by simpa[Instr.loadAt,Instr.sureAddr]using M
       have k:∀O:String,(Builtin.ssaWrapNilChk_ #[t] t #[.pointer (some ⟨q.bl,q.ba+g,none⟩),strVal "",strVal O]).run P w=.ok (.pointer (some ⟨q.bl,q.ba+g,none⟩)) w:=λ_=>rfl;have has:(asAddr (.pointer (some ⟨q.bl,q.ba+g,none⟩))).run P w=.ok ⟨q.bl,q.ba+g,none⟩ w:=rfl;simp only[receiverAt,aV,bf p,aU,Go.Place.get,bJ,k,has,u]
      ·cases c
     ·cases c
     ·next R S T=>
      cases c;refine⟨l,j _ ?_,o⟩;simp only[receiverAt,aV,bf p,aU];cases d<;>simp only[Go.Place.get,bJ]
      all_goals simp_all
    ·cases c
   ·cases c
  ·cases c
 ·cases c
def aft(h:SR P F J w){call:Caller}(j:sO P call){o:Oper}{a:bG}{A:Act}(V:TR P F a A)(E:GU o.op=true){r:Q4}{K:Act->World->Prop}{Q:Exit->Act->World->Prop}
 (i:wM P call o a.eval J=some (r,J')) (G:∀v x F' w',r=some v->St P F J w F' J' w'->VR F' v x->K (A.put o.dst x) w'):o.wp P A w K Q:=by
 have hρ:∀x v,a.eval x=some v->VR F v (A.eval x):=λx v l=>Qi h V x v l;unfold wM at i;cases m:o.op with
 |call c=>
  rw[m]at E i;simp only at i;split at i
  ·next args k=>
   obtain⟨n,p,W⟩:=c;cases n with
   |builtin b=>simp[GU]at E
   |invoke rc O=>
    simp only at i;split at i
    ·next f rv B=>
     simp only[xM]at B;obtain⟨iv,H,B⟩:=B;obtain⟨u,I,rfl⟩:=ER i;have q:=MQ hρ k;obtain⟨y,X,Y⟩:=axp h B (hρ _ _ H) (⟨p.toList.map A.eval⟩);have s:=j _ _ _ _ _ I F w (y::p.toList.map A.eval) h (aC.cons Y q);have t:(execOp A.eval o).run P w=(callFunc f ⟨y::p.toList.map A.eval⟩).run P w:=by
      unfold execOp;rw[m];have Z:p.map A.eval=⟨p.toList.map A.eval⟩:=by apply OV;simp
      simp only[resolve,pure_bind,Z];rw[awi,X,afW]
     unfold Oper.wp;rw[t];rcases s with⟨v,w',d,F',g,l⟩|⟨d,z⟩
     ·rw[d];exact G u v F' w' rfl g l
     ·rw[d];refine Calls.mono z ?_;rintro e w' ⟨v,rfl,F',g,l⟩
      exact G u v F' w' rfl g l
    ·cases i
   |value f=>
    simp only at i;split at i
    ·next fn fi R B=>
     obtain⟨u,I,rfl⟩:=ER i;have D:=hρ _ _ B;simp only[VR]at D;obtain⟨S,T,L,M,N⟩:=D;have q:=MQ hρ k;have s:=j _ _ _ _ _ I F w (S++p.toList.map A.eval++T) h ((M.append q).append N);have t:(execOp A.eval o).run P w=(callFunc fn ⟨S++p.toList.map A.eval++T⟩).run P w:=by unfold execOp;rw[m];simp only[resolve,L,Deferred.ofValue,pure_bind,invoke];congr 2;apply OV;simp
     unfold Oper.wp;rw[t];rcases s with⟨v,w',d,F',g,l⟩|⟨d,z⟩
     ·rw[d];exact G u v F' w' rfl g l
     ·rw[d];refine Calls.mono z ?_;rintro e w' ⟨v,rfl,F',g,l⟩
      exact G u v F' w' rfl g l
    ·cases i
  ·cases i
 |_=>rw[m]at E;simp[GU]at E
def aF3{b:W5}{j:Nat}{o:Oper}{d:Nat}{a:bG}{A:Act}{x:Bool}(g:TR P F a A)(h:b[j]? =some o)(i:o.dst=some d)(f:dB (a.t.get d)=some (.b x)):yielded b A.tmps j=some x:=by obtain⟨l,f,c⟩:=Jh f;obtain⟨y,k,e⟩:=g.slot d _ f;have e:=c _ _ e;simp only[VR]at e;subst e;simp only[yielded,h,Aq,i,k]
def Ic{o:Oper}{f:W5}{a:bG}{A:Act}{b:Bool}(m:TR P F a A)(c:KZ o f a=some b):Region.wanted o (yielded f A.tmps)=b:=by
 unfold KZ at c;unfold Region.wanted;split at c
 ·next k=>rw[k];cases c;rfl
 ·next j e k=>
  rw[k];split at c
  ·next q n=>
   split at c
   ·next d p=>
    split at c
    ·next x g=>
     cases c;simp only[aF3 m n p g];cases x<;>cases e<;>rfl
    ·next l g=>
     cases c;obtain⟨s,g,h⟩:=Jh g;obtain⟨y,r,i⟩:=m.slot d _ g;have i:=h _ _ i;simp only[VR]at i;obtain⟨t,rfl,_⟩:=i;simp only[yielded,n,Aq,p,r];cases e<;>rfl
    ·cases c
   ·cases c
  ·cases c
def step_ok(h:SR P F J w){call:Caller}(f:sO P call){k:W5}{i:Nat}{a s:bG}{A:Act}(d:TR P F a A){K:Act->World->Prop}{Q:Exit->Act->World->Prop}
 (c:YS P call k i a J=some (s,J')) (p:∀F' t w',St P F J w F' J' w'->TR P F' s t->K t w'):wpOp P k Q i K A w:=by
 unfold YS at c;unfold wpOp;split at c
 ·cases c
 ·next o z=>
  rw[z];simp only;split at c
  ·cases c
  ·next q=>
   rw[Ic d q];simp only[iw,if_false];simp only[bC,pF]at c;obtain⟨B,l,rfl,rfl⟩:=c;exact p F _ w (St.refl h) (d.put l (by rintro u j;cases j;exact⟨[],rfl,rfl⟩))
  ·next q=>
   rw[Ic d q];simp only[if_true];split at c
   ·cases c
   ·next r E g=>
    rw[Ei]at g;simp only[bC,pF]at c;obtain⟨B,l,rfl,rfl⟩:=c;left;cases y:GU o.op with
    |true=>refine aft h f d y g λv x F' w' D b m=>?_;exact p F' _ w' b ((d.mono b.ext).put l (λu j=>by rw[D]at j;cases j;exact m))
    |false=>
     obtain⟨G,w',F',n,b,e⟩:=ajx h (λx v m=>Qi h d x v m) y g;unfold Oper.wp;rw[n];cases r with
     |none=>subst e;exact p F' _ w' b ((d.mono b.ext).put l (by simp))
     |some v=>obtain⟨x,rfl,m⟩:=e;exact p F' _ w' b ((d.mono b.ext).put l (λu j=>by cases j;exact m))
def ajz{call:Caller}(b:sO P call){d:W5}{Q:Exit->Act->World->Prop}:∀(l:Q2){F:Env}{J:aA}{w:World}{a g:bG}{A:Act},SR P F J w->TR P F a A->
 LX P call d l a J=some (g,J')->(∀F' j w',St P F J w F' J' w'->TR P F' g j->Q .normal j w')->wpOps P d Q l A w
 |[],F,J,w,a,g,A,h,k,c,m=>by simp only[LX,aY,pF]at c;obtain⟨rfl,rfl⟩:=c;exact m F A w (St.refl h) k
 |i::l,F,J,w,a,g,A,h,k,c,m=>by
  rw[wpOps_cons];unfold LX at c;split at c
  ·next q r p=>
   refine step_ok h b k p λs t w1 e n=>?_;exact ajz b l e.rel n c λF' j w' f o=>m F' j w' (e.trans f) o
  ·cases c
def fG.toExit:fG->Exit
 |.normal=>.normal
 |.exit id=>.exit id
 |.ret=>.ret
def SL(P:Program)(g:Caller->BK):Prop:=∀call,sO P call->∀b a J c J',g call b a J=some (c,J')->∀F w A id Q,SR P F J w->TR P F a A->
 (∀d e f,St P F J w d J' f->TR P d c e->Q .normal e f)->(Code.region id b true).wp P Q A w
def Tt(P:Program)(c:yO):Prop:=∀f g,c f=some g->∀args J r J',g args J=some (r,J')->∀F w a,SR P F J w->aC F args a->
 lZ P f ⟨a⟩ w λv d=>∃b,St P F J w b J' d/\VR b r v
def xK(P:Program):Prop:=∀(f:Nat) fn c,P.funcs[f]? =some fn->fn.body=some c->(fn.name == "runtime.NumGoroutine")=false
def Pg(P:Program)(run:Code->bG->aA->Option (fG×bG×aA)):Prop:=∀c a J e b J',run c a J=some (e,b,J')->∀F w A Q,SR P F J w->TR P F a A->
 (∀d f g,St P F J w d J' g->TR P d b f->Q e.toExit f g)->c.wp P Q A w
def Rw(h:SR P F J w){a:bG}{A:Act}(j:TR P F a A)(g:ResultVar->Sem Value)(c:∀t,g (.tmp t)=pure (A.tmps.getD t undef))(d:∀a t,g (.cell a t)=(do loadVar t (<-asAddr (A.tmps.getD a undef)))):
 ∀(rs:List ResultVar)(l:Q3),BU P J a rs=some l->∃vs,(rs.mapM g).run P w=.ok vs w/\aC F l vs
 |[],l,b=>by simp only[BU,aY]at b;subst b;exact⟨[],rfl,by simp[aC]⟩
 |.tmp t::rs,l,b=>by
  unfold BU at b;split at b
  ·next v r e k=>
   cases b;obtain⟨vs,h1,m⟩:=Rw h j g c d rs r k;obtain⟨x,n,f⟩:=j.slot t v e;refine⟨x::vs,?_,aC.cons f m⟩;simp only[aeg,c,aV,bJ,aU,h1];rw[Af,n];rfl
  ·cases b
 |.cell t B::rs,l,b=>by
  unfold BU at b;split at b
  ·next v r e k=>
   cases b;obtain⟨vs,h1,m⟩:=Rw h j g c d rs r k;simp only[xM]at e;obtain⟨p,D,e⟩:=e;obtain⟨x,n,f⟩:=j.slot t p D;obtain⟨y,E,G⟩:=G6 h e f;refine⟨y::vs,?_,aC.cons G m⟩;have o:∃i,x=.pointer (some i):=by
    cases p<;>simp[xQ]at e
    ·simp only[VR]at f;obtain⟨q,_,rfl⟩:=f;exact⟨_,rfl⟩
    ·simp only[VR]at f;obtain⟨I,base,L,z,M,x,_,_,rfl,_⟩:=f;exact⟨_,rfl⟩
   obtain⟨i,rfl⟩:=o;have H:A.tmps.getD t undef=.pointer (some i):=by rw[Af,n];rfl
   have s:(loadVar B i).run P w=.ok y w:=by simpa[Instr.loadAt,Instr.sureAddr]using E
   have u:(asAddr (A.tmps.getD t undef)).run P w=.ok i w:=by rw[H];rfl
   simp only[aeg,d,aV,bJ,aU,h1,u,s]
  ·cases b
def aE9{l:Q3}{vs:Q6}(h:aC F l vs):VR F (KQ l) (if h:(⟨vs⟩:QQ).size=1 then(⟨vs⟩:QQ)[0]else .tuple ⟨vs⟩):=by
 have b:=h.length;unfold KQ;split
 ·next v=>
  simp only[aC]at h;obtain⟨x,_,rfl,c,rfl⟩:=h;simpa using c
 ·next a=>
  have:(⟨vs⟩:QQ).size≠1:=by
   intro e;have:l.length=1:=by rw[b];exact e
   obtain⟨v,rfl⟩:=Yx.1 this;exact a v rfl
  rw[dif_neg this];simp only[VR];exact⟨vs,rfl,h⟩
def aeY:∀(args:Q3)(k:Nat)(t:Tr AV)(j:Nat),(Az args k t).get j=if k<=j/\j<k+args.length then args[j-k]? else t.get j
 |[],k,t,j=>by simp[Az];omega
 |v::args,k,t,j=>by
  rw[Az,aeY args (k+1)];simp only[gV];by_cases h1:k+1<=j/\j<k+1+args.length
  ·rw[aj h1,aj (by omega)];have:j-k=(j-(k+1))+1:=by omega
   rw[this];simp
  ·rw[ah h1,Tr.vS];by_cases a:j=k
   ·subst a;rw[aj rfl,aj (by omega)];simp
   ·rw[ah a,ah (by omega)]
def ZT{args:Q3}{vs:Q6}{n:Nat}(h:aC F args vs):
 TR P F {t:=Az args 0 .nil,n:=max args.length n,gn:=P.globals.size} {tmps:=(⟨vs⟩:QQ)++Array.replicate (n-(⟨vs⟩:QQ).size) undef,defers:=[]}:=by
 have e:=h.length;refine⟨rfl,?_,rfl,λt v a=>?_⟩
 ·simp;omega
 ·rw[aeY]at a;split at a
  ·next f=>
   obtain⟨x,b,d⟩:=h.at a;refine⟨x,?_,d⟩;simp only[IB]at b;have c:=(fM.1 b).1;rw[Yl (by simpa using c)];simpa using b
  ·simp at a
def afs{G:yO}{run:Code->bG->aA->Option (fG×bG×aA)}(N:Tt P G)(O:xK P)(Q:Pg P run):sO P (Jb P G run):=by
 intro f args J r J' d F w H h I;unfold Jb at d;split at d
 ·next g R=>exact N f g R args J r J' d F w H h I
 ·split at d
  ·cases d
  ·next fn o=>
   split at d
   ·cases d
   ·next c D=>
    have x:∀(e:fG) p,(e=.normal\/e=.ret)->run c {t:=Az args 0 .nil,n:=max args.length fn.ntmps,gn:=P.globals.size} J=some (e,p,J')->∀l,BU P J' p fn.results.toList=some l->r=KQ l->
     lZ P f ⟨H⟩ w λv i=>∃m,St P F J w m J' i/\VR m r v:=by
     intro e p S b l y E;right;refine⟨?_,?_⟩
     ·have q:=O f fn c o D;simp only[callFunc,aV,program,Sem.run,aU,o];simp only[q,iw,if_false,D,LM,bJ]
     ·refine calls_of_wp o D ?_;refine Q c _ _ _ _ _ b F w _ _ h (ZT I) ?_;intro m z i A L;have j:∃s,(results fn z.tmps).run P i=.ok (if h:(⟨s⟩:QQ).size=1 then(⟨s⟩:QQ)[0]else .tuple ⟨s⟩) i/\aC m l s:=by unfold results;rw[Ym];simp only[aV,YH];obtain⟨s,B,u⟩:=Rw A.rel L (fun|.tmp t=>pure (z.tmps.getD t undef)|.cell a t=>do loadVar t (<-asAddr (z.tmps.getD a undef))) (λ_=>rfl) (λ_ _=>rfl) _ _ y;refine⟨s,?_,u⟩;exact uf (λr:Result Q6=>(r.andThen λa i=>Result.ok a.toArray i).andThen λa i=>Sem.run P (pure (if h:a.size=1 then a[0]else Value.tuple a)) i) B
      obtain⟨s,j,u⟩:=j
      have k:z.defers=[]/\∃v,(results fn z.tmps).run P i=.ok v i/\∃M,Ending.returned v=.returned M/\∃m,St P F J w m J' i/\VR m r M:=
       ⟨L.none,_,j,_,rfl,m,A,by rw[E];exact aE9 u⟩
      rcases S with rfl|rfl
      ·exact k
      ·exact k
    split at d
    ·next p T b=>
     simp only[bC,pF]at d;obtain⟨l,y,B,u⟩:=d;subst u;exact x _ p (.inl rfl) b l y B.symm
    ·next p T b=>
     simp only[bC,pF]at d;obtain⟨l,y,B,u⟩:=d;subst u;exact x _ p (.inr rfl) b l y B.symm
    ·cases d
def afN{H:Caller->BK}{I:yO}(W:SL P H)(X:Tt P I)(Y:xK P):∀n:Nat,Pg P (FV P H I n)/\
 (∀b a J e r J',FV P H I n (.loop b) a J=some (e,r,J')->∀F w A Q,SR P F J w->TR P F a A->(∀F' s w',St P F J w F' J' w'->TR P F' r s->Q e.toExit s w')->Code.rounds P b Q n A w):=by
 intro n;induction n with
 |zero=>exact⟨λc a J e r J' d=>by simp[aeH]at d,λb a J e r J' d=>by simp[aeH]at d⟩
 |succ n Z=>
  obtain⟨i,N⟩:=Z;have o:=afs X Y i;have B:∀b a J e r J',FV P H I (n+1) (.loop b) a J=some (e,r,J')->∀F w A Q,SR P F J w->TR P F a A->(∀F' s w',St P F J w F' J' w'->TR P F' r s->Q e.toExit s w')->Code.rounds P b Q (n+1) A w:=by
   intro b a J e r J' d F w A Q h k j;rw[rounds_succ];simp only[xO,vM]at d;split at d
   ·next L M u=>
    refine i _ _ _ _ _ _ u F w A _ h k ?_;intro l m w1 f g;exact N _ _ _ _ _ _ d l w1 m Q f.rel g λF' s w' p v=>j F' s w' (f.trans p) v
   ·next q=>
    refine i _ _ _ _ _ _ d F w A _ h k ?_;intro l m w1 f g;cases e with
    |normal=>exact absurd d (by intro D;exact q _ _ D)
    |exit id=>exact j l m w1 f g
    |ret=>exact j l m w1 f g
  refine⟨?_,B⟩;intro c a J e r J' d F w A Q h k j;cases c with
  |loop b=>exact wp_loop_rounds (n+1) (B b a J e r J' d F w A Q h k j)
  |skip=>simp only[xO,vM,aY,pF]at d;obtain⟨rfl,rfl,rfl⟩:=d;exact wp_skip (j F A w (St.refl h) k)
  |region id O E=>
   cases E with
   |false=>simp only[xO,vM,bC,pF]at d;obtain⟨⟨L,M⟩,u,rfl,rfl,rfl⟩:=d;exact wp_region (ajz o _ h k u j)
   |true=>simp only[xO,vM,bC,pF]at d;obtain⟨⟨L,M⟩,u,rfl,rfl,rfl⟩:=d;exact W _ o O a J _ _ u F w A id Q h k j
  |seq x y=>
   simp only[xO,vM]at d;refine wp_seq ?_;split at d
   ·next L M u=>
    refine i _ _ _ _ _ _ u F w A _ h k ?_;intro l m w1 f g;exact i _ _ _ _ _ _ d l w1 m Q f.rel g λF' s w' p v=>j F' s w' (f.trans p) v
   ·next q=>
    refine i _ _ _ _ _ _ d F w A _ h k ?_;intro l m w1 f g;cases e with
    |normal=>exact absurd d (by intro D;exact q _ _ D)
    |exit id=>exact j l m w1 f g
    |ret=>exact j l m w1 f g
  |cond x y z=>
   simp only[xO,vM]at d;split at d
   ·next t R=>
    obtain⟨vd,R,G⟩:=Jh R;have V:=G _ _ (Qi h k x _ R);simp only[VR]at V;refine wp_cond V ?_;exact i _ _ _ _ _ _ d F w A Q h k j
   ·cases d
  |block id b=>
   simp only[xO,vM]at d;refine wp_block ?_;split at d
   ·next S L M u=>
    refine i _ _ _ _ _ _ u F w A _ h k ?_;intro l m w1 f g;simp only[fG.toExit,Exit.inBlock];split at d
    ·next T=>
     cases d;rw[aj T];exact j l m w1 f g
    ·next T=>
     cases d;rw[ah T];exact j l m w1 f g
   ·next q=>
    refine i _ _ _ _ _ _ d F w A _ h k ?_;intro l m w1 f g;cases e with
    |normal=>exact j l m w1 f g
    |exit S=>exact absurd d (by intro D;exact q _ _ _ D)
    |ret=>exact j l m w1 f g
  |exit id=>simp only[xO,vM,aY,pF]at d;obtain⟨rfl,rfl,rfl⟩:=d;exact wp_exit (j F A w (St.refl h) k)
  |ret=>simp only[xO,vM,aY,pF]at d;obtain⟨rfl,rfl,rfl⟩:=d;exact wp_ret (j F A w (St.refl h) k)
  |rangeFunc _ _ _ _=>simp[xO,vM]at d
  |scope _=>simp[xO,vM]at d
  |label _=>simp[xO,vM]at d
  |goto _=>simp[xO,vM]at d
  |refuse _=>simp[xO,vM]at d
def amP{a:Caller->BK}{b:yO}(e:SL P a)(c:Tt P b)(d:xK P)(n:Nat):sO P (aeG P a b n):=
 afs c d (afN e c d n).1
