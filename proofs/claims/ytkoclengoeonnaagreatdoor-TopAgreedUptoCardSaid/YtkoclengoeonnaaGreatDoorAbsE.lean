/- Values that are named by nodes: append, make, conversions, strings.Builder's string. -/
import Derived.Test.YtkoclengoeonnaaGreatDoorAbsD
set_option linter.all false
namespace Go.aP
noncomputable section
variable[aJ]
variable{P:Program}{F:Env}{J J':aC}{w:World}
def St.U2{F':Env}{w':World}(h:St P F J w F' J' w')(id:Nat):St P F J w F' (J'.kill id) w':=
 h.sub (λk o a=>by rw[aC.yT]at a;split at a;cases a;exact a) (cO _) rfl
def St.yF{F':Env}{τ:aC}{w':World}{m e size:Nat}{f:Bool}{xs:Q1}{c:Q3}{y:Value}(h:St P F J w F' (τ.new (.cells c e true true)) w')(t:aJ.val m=some (.l xs))(u:∀x∈xs,x.cells.length=size/\x.cells.all GV.scalar=true)(A:sizeT P e=some size)
 (B:∀vs,aG F' c vs->aG F' (bP xs) vs) (v:VR F' (.sl τ.next 0 xs.length none) y) (D:f=true->xs≠[]):St P F J w F' (τ.new (.vec m e f)) w'/\VR F' (.sv τ.next m) y:=by
 simp only[VR]at v;obtain⟨q,l,d,rfl⟩:=v;have z:(τ.new (.cells c e true true)).get τ.next=some (.cells c e true true):=by rw[aC.pF,au rfl]
 have g:=h.rel.at z l;have n:q.es=size:=by obtain⟨_,_,_,_,r⟩:=g;have:=(r.room rfl).2.2;rw[A]at this;cases this;rfl
 have i:f=true->q.es<=q.sz:=λe=>by have p:=D e;have:0<xs.length:=Kw.2 p;simp only[um,Ht]at d;have E:1<=q.sz/q.es:=ah;exact kR (by simpa using uj q.es E) (Nat.div_mul_le_self q.sz q.es)
 have j:OR P F' q w' (.vec m e f):=OR.yF i t (λx s=>by rw[n];exact(u x s).1) (λx s=>(u x s).2) g B;refine⟨h.right ?_ rfl rfl ?_,by simp only[VR];exact⟨xs,t,.inl ⟨q,l,by simpa using d,aA⟩⟩⟩
 ·refine(h.rel.swap (o':=.vec m e f) z rfl (.inl ⟨q,l,j⟩)).sub (λk o a=>?_) (cO _)
  rw[aC.pF]at a;rw[aC.get_put,aC.pF];split at a
  ·next b=>rw[au b];exact a
  ·next b=>rw[aj b,aj b];exact a
 ·intro k o a G;rw[aC.pF]at a⊢;split at a
  ·next b=>rw[au b];exact⟨_,rfl,rfl⟩
  ·next b=>rw[aj b];exact⟨o,a,G⟩
def DT{xs:Q1}{size:Nat}(h:xs.all (GV.fQ size)=true):∀x∈xs,x.cells.length=size/\x.cells.all GV.scalar=true:=by intro z a;have:=List.all_eq_true.1 h z a;unfold GV.fQ at this;rw[aO]at this;exact⟨Nat.eq_of_beq_eq_true this.1,this.2⟩
def al2{xs:Q1}{size:Nat}(h:∀x∈xs,x.cells.length=size/\x.cells.all GV.scalar=true):(bP xs).all AV.nT=true:=by unfold bP;refine Zc ?_;rw[List.all_eq_true];intro g b;obtain⟨z,c,a⟩:=adh.1 b;exact List.all_eq_true.1 (h z c).2 g a
def aes(xs a:Q1):bP (xs++a)=bP xs++bP a:=by unfold bP;rw[ac9,IJ]
def Iq{xs:Q1}{size:Nat}(h:∀x∈xs,x.cells.length=size):(bP xs).length=xs.length*size:=by rw[bP,lV,Pg h]
def abY(P:Program)(J:aC)(e size:Nat)(a:TypeId)(x:AV):QR:=
 match P.underlying a with
 |some .string=>if size=1 then match iY x with
   |some n=>fK (.bytes n)
   |none=>none
  else none
 |some (.slice _)=>listOf P J e x
 |_=>none
def Ws(h:SR P F J w){e size:Nat}{f:TypeId}{x:AV}{b:Nat}{u:Value}{xs:Q1}(c:abY P J e size f x=some b)(m:VR F x u)(r:sizeT P e=some size)(o:aJ.val b=some (.l xs))(i:xs.all (GV.fQ size)=true):
 ∃p,Src P size f u xs.length p w/\aG F (bP xs) p:=by
 unfold abY at c;split at c
 ·next j=>
  split at c
  ·next t=>
   subst t;split at c
   ·next n k=>
    obtain⟨g,v,B,g3⟩:=lN k m;obtain⟨D,q,d⟩:=gK c;rw[o]at q;cases q;simp only[Nd.den,v]at d;split at d
    ·next s y=>
     cases y;cases d;have z:F9 P f=true:=by unfold F9;rw[j]
     have:=src_ok h z (size:=1) (n:=s.length) (l:=wU s) (a:=.s s) (x:=u) (by simp[zy]) ((lD (.s s) u).1 g3) (by unfold wU;simp[AV.nT]);rw[aed];have A:(bQ s).length=s.length:=by simp[bQ]
     rw[A];exact this
    ·cases d
   ·cases c
  ·cases c
 ·next j=>exact atN h c m j r o i
 ·cases c
def atM{e size id len:Nat}{cap:QR}{a et:Nat}{c:Q3}{r opn:Bool}(s:J.get id=some (.cells c et r opn))(b:listOf P J e (.sl id 0 len cap)=some a)(t:sizeT P e=some size)(d:c.length=len*size):
 ∃h,(∀{F:Env}{vs:Q6},aG F c vs->∃gs,valsOf aJ.val h=some gs/\gs.length=len/\aG F (bP gs) vs/\∀x∈gs,x.cells.length=size/\x.cells.all GV.scalar=true)/\∀gs,valsOf aJ.val h=some gs->aJ.val a=some (.l gs):=by
 simp only[listOf,s,t]at b;split at b
 ·next G H u I i j k l v=>
  cases k;cases l;split at b
  ·next p=>
   rw[aO,nO,aO]at p;have f:j=false->size=1:=by
    intro e;subst e;rcases p.2 with h1|h1
    ·simp at h1
    ·exact bM h1
   have m:takeN c 0 (len*size)=some c:=by unfold takeN;rw[dD,kQ ah,au d]
   rw[m]at b;simp only at b;split at b
   ·next h n=>
    refine⟨h,λ{F vs} y=>?_,λgs o=>?_⟩
    ·obtain⟨gs,z,A,B,_,D⟩:=FP (F:=F) f len n y d;exact⟨gs,z,A,B,D⟩
    ·obtain⟨g,E,q⟩:=gK b;simp only[Nd.den,o,gU,aY]at q;rw[q];exact E
   ·cases b
  ·cases b
 ·cases b
set_option maxHeartbeats 1000000 in
def aAT(h:SR P F J w){ts:Wr}{ty:TypeId}{s x v:AV}{u u':Value}(p:ab6 P ts s x J=some (v,J'))(O:VR F s u)(B:VR F x u'):
 ∃y w' F',(Builtin.append_ ts ty #[u,u']).run P w=.ok y w'/\St P F J w F' J' w'/\VR F' v y:=by
 unfold ab6 at p;split at p
 ·next t t1 a2=>
  have:=Sz a2;subst this;split at p
  ·next e d bytes z hi=>
   obtain⟨_,_,_,he,_,V⟩:=BI hi;split at p
   ·cases p
   ·next h0=>
    split at p
    ·cases p
    ·next b hb=>
     have am:abY P J e d t1 x=some b:=hb;have an:∀{a m:Nat}{j:Q1},fK (.app d bytes a b)=some m->aJ.val a=some (.l j)->∃i,aJ.val b=some (.l i)/\aJ.val m=some (.l (j++i))/\i.all (GV.fQ d)=true/\2*(j.length+i.length)*bytes<=2^48/\j.length+i.length<=2^48:=by
      intro a m j W Z;obtain⟨g,g1,g2⟩:=gK W;simp only[Nd.den,Z]at g2;split at g2
      ·next ba i G e2=>
       cases G;split at g2
       ·next R=>cases g2;exact⟨i,e2,g1,R.1,R.2.1,R.2.2⟩
       ·cases g2
      ·cases g2
     have Sr:∀{i:Q1}{S:AV}{n:Nat},i.all (GV.fQ d)=true->sliceLen S=n->2*(n+i.length)*bytes<=2^48->n+i.length<=2^48->¬(d=0\/(bP i).all AV.nT=false\/¬(2*(sliceLen S+i.length)*bytes<=2^48/\sliceLen S+i.length<=2^48)):=by intro i S n h1 h2 h3 h4;rw[al2 (DT h1),h2];simp[h0];omega
     have ay:∀{a:Nat},fK (.ml [])=some a->aJ.val a=some (.l []):=by intro a Z;obtain⟨g,g1,g2⟩:=gK Z;simp only[Nd.den,valsOf,gU,aY]at g2;subst g2;exact g1
     have az:∀{a m:Nat}{τ:aC},aJ.val a=some (.l [])->fK (.app d bytes a b)=some m->u=.slice none 0 0->τ.lock=J.lock->τ.next=J.next->(∀k o,τ.get k=some o->J.get k=some o)->
      ∀f:Bool,∃y w' F',(Builtin.append_ #[t,t1] ty #[u,u']).run P w=.ok y w'/\St P F J w F' (τ.new (.vec m e f)) w'/\VR F' (.sv J.next m) y:=by
      intro a m τ Z W M hl aD ap f;obtain⟨i,y1,I,L,y4,y5⟩:=an W Z;obtain⟨zs,z1,z2⟩:=Ws h am B V y1 L;have l:=Iq (λx B=>(DT L x B).1);simp only[bf,mZ,kX]at I y4 y5;have R:=Sr (S:=.gy) (n:=0) L rfl (by simpa using y4) (by simpa using y5);by_cases X:i.length=0
      ·have T:i=[]:=jR X;subst T;have r:pY e d bytes .gy 0 (bP []) J=some (.gy,J):=by unfold pY;rw[aj (by simpa using R)];rfl
       obtain⟨y,w',F',r1,r2,r3⟩:=Dz (ty:=ty) h hi z1 z2 l r (u:=u) (by simp only[VR];exact M);refine⟨y,w',F'.ghost J.next,r1,r2.trans ?_,?_⟩
       ·exact St.ghost r2.rel I hl aD ap
       ·simp only[VR]at r3⊢;exact⟨[],I,.inr ⟨by simp[Env.ghost],rfl,r3⟩⟩
      ·have r:pY e d bytes .gy i.length (bP i) J=some (.sl J.next 0 i.length none,J.new (.cells (bP i) e true true)):=by unfold pY;rw[aj R];simp only;rw[aj X]
       obtain⟨y,w',F',r1,r2,r3⟩:=Dz (ty:=ty) h hi z1 z2 l r (u:=u) (by simp only[VR];exact M);obtain⟨q1,q2⟩:=St.yF (f:=f) r2 I (DT L) V (λ_ h=>h) r3 (λ_ e=>X (by rw[e];rfl));refine⟨y,w',F',r1,q1.sub (λk o A=>?_) (by show J.next+1<=τ.next+1;omega) hl,q2⟩;rw[aC.pF]at A⊢;rw[aD]at A;split at A
       ·next G=>rw[au G];exact A
       ·next G=>rw[aj G];exact ap k o A
     split at p
     ·split at p
      ·next a Z=>
       obtain⟨m,W,G⟩:=bn.1 p;cases G;simp only[VR]at O;exact az (τ:=J) (ay Z) W O rfl rfl (λ_ _ h=>h) true
      ·cases p
     ·next id n=>
      split at p
      ·next a D f U=>
       split at p
       ·next E=>
        rw[aO,aO]at E;obtain⟨⟨aa,aE⟩,ab⟩:=E;have IU:=bM aa;subst IU;have D9:=uh ab;obtain⟨m,W,G⟩:=bn.1 p;cases G;simp only[VR]at O;obtain⟨xn,n1,O⟩:=O;rcases h.live id _ U with⟨q,Y,a3⟩|⟨ar,m0,bb,f0,e0,aL⟩
        ·obtain⟨j,x1,x2,x3,x4,x5,x6,x7,hS⟩:=NJ h U Y;have ac:=zk 100 aE x1 n1;rw[V]at x5;cases x5;rcases O with⟨q',ad,av,rfl⟩|⟨ar,_,_⟩
         ·rw[Y]at ad;cases ad;obtain⟨i,y1,I,L,y4,y5⟩:=an W x1;have aw:=Iq x2;have ae:∀x∈j++i,x.cells.length=q.es/\x.cells.all GV.scalar=true:=by
           intro x B;rcases ny.1 B with B|B
           ·exact⟨x2 x B,x7 x B⟩
           ·exact DT L x B
          obtain⟨zs,z1,z2⟩:=Ws h am B V y1 L;have l:=Iq (λx B=>(DT L x B).1);have R:=Sr (S:=.sl id 0 j.length none) (n:=j.length) L rfl y4 y5;rw[<-ac]at av⊢;have aM:VR F (.sl id 0 j.length none) (.slice (some ⟨q.bl,q.ba,none⟩) j.length (q.sz/q.es)):=by simp only[VR];exact⟨q,Y,by simpa using av,aA⟩
          by_cases X:i.length=0
          ·have T:i=[]:=jR X;subst T;rw[qZ]at I;have r:pY D q.es bytes (.sl id 0 j.length none) 0 (bP []) (kV J id j D)=some (.sl id 0 j.length none,kV J id j D):=by unfold pY;rw[aj (by simpa using R)];rfl
           obtain⟨y,w',F',r1,r2,r3⟩:=Dz (ty:=ty) hS hi z1 z2 l r aM;have a4:=QM U r2;have aR:(kV J id j D).get id=some (.cells (bP j) D true true):=ER;have H:=r2.ext.pl _ _ Y;have af:=r2.rel.at aR H;have ag:OR P (F'.put J.next q) q w' (.vec m D f):=by have ai:=Env.Gv r2.rel q;refine OR.yF (λe=>by subst e;exact a3.Xb) I x2 x7 (af.mono ai) (λ_ h=>h)
           have Po:=St.again (q':=q) r2.rel aR rfl (show(kV J id j D).lock<=id from D9) H rfl rfl (λ_ _=>rfl) rfl rfl rfl ag;refine⟨y,w',F'.put J.next q,r1,(a4.trans Po).sub (λk o A=>?_) (cO _) rfl,?_⟩
           ·rw[aC.pF,aC.yT]at A⊢;split at A
            ·next G=>rw[au (show k=((kV J id j D).kill id).next from G)];exact A
            ·next G=>
             rw[aj (show ¬k=((kV J id j D).kill id).next from G)];split at A
             ·cases A
             ·next e2=>rw[aj e2];unfold kV;rw[aC.get_put,aj e2];exact A
           ·simp only[VR]at r3⊢;obtain⟨q3,N,ak,rfl⟩:=r3;rw[H]at N;cases N;exact⟨j,I,.inl ⟨q,by simp[Env.put],by simpa using ak,aA⟩⟩
          ·have ao:takeN (bP j) 0 (j.length*q.es)=some (bP j):=by unfold takeN;rw[dD,kQ ah,au aw]
           have r:pY D q.es bytes (.sl id 0 j.length none) i.length (bP i) (kV J id j D)=some (.sl J.next 0 (j.length+i.length) none,((kV J id j D).kill id).new (.cells (bP j++bP i) D true true)):=by unfold pY;rw[aj R];simp only;rw[aj X,au (show(kV J id j D).lock<=id from D9),ER];simp only[if_true,ao,gU];rfl
           obtain⟨y,w',F',r1,r2,r3⟩:=Dz (ty:=ty) hS hi z1 z2 l r aM;obtain⟨q1,q2⟩:=St.yF (size:=q.es) (QM U r2) I ae V (λvs al=>by rw[aes];exact al) (by rw[gu];exact r3) (f:=f) (λ_ e=>X (by have:=uH List.length e;simp at this;rw[this.2];rfl));refine⟨y,w',F',r1,q1.sub (λk o A=>?_) (cO _) rfl,q2⟩;rw[aC.pF,aC.yT]at A⊢;split at A
           ·next G=>rw[au (show k=((kV J id j D).kill id).next from G)];exact A
           ·next G=>
            rw[aj (show ¬k=((kV J id j D).kill id).next from G)];split at A
            ·cases A
            ·next e2=>rw[aj e2];unfold kV;rw[aC.get_put,aj e2];exact A
         ·rw[(h.jU id ar).1]at Y;cases Y
        ·cases e0;have ac:=zk 100 aE aL n1;rcases O with⟨q',ad,_⟩|⟨_,_,O⟩
         ·rw[(h.jU id ar).1]at ad;cases ad
         ·exact az (τ:=J.kill id) aL W O rfl rfl (λk o A=>by rw[aC.yT]at A;split at A;cases A;exact A) f
       ·cases p
      ·cases p
     ·next id=>
      split at p
      ·next D U=>
       split at p
       ·next E=>
        rw[aO]at E;obtain⟨aa,ab⟩:=E;have IU:=bM aa;subst IU;have D9:=uh ab;split at p
        ·next a Z=>
         obtain⟨m,W,G⟩:=bn.1 p;cases G;obtain⟨i,y1,I,L,y4,y5⟩:=an W (ay Z);simp only[bf,mZ,kX]at I y4 y5;obtain⟨zs,z1,z2⟩:=Ws h am B V y1 L;have l:=Iq (λx B=>(DT L x B).1);have R:=Sr (S:=.sl id 0 0 (some 0)) (n:=0) L rfl (by simpa using y4) (by simpa using y5);have M:=O;simp only[VR]at M;obtain⟨q,Y,_,rfl⟩:=M;obtain⟨cs,a0,fr,a5,rr⟩:=h.at U Y;have bc:=rr.shut rfl;obtain⟨w1,w2,w3⟩:=rr.whole he;have bd:=w3 rfl;by_cases X:i.length=0
         ·have T:i=[]:=jR X;subst T;have r:pY D d bytes (.sl id 0 0 (some 0)) 0 (bP []) J=some (.sl id 0 0 (some 0),J):=by unfold pY;rw[aj (by simpa using R)];rfl
          obtain⟨y,w',F',r1,r2,r3⟩:=Dz (ty:=ty) h hi z1 z2 l r O;have H:=r2.ext.pl _ _ Y;obtain⟨a6,Ll,LM,a7,ax⟩:=r2.rel.at U H;obtain⟨v1,v2,v3⟩:=ax.whole he;have a1:=ax.shut rfl;simp only[mZ]at a1;have ag:OR P (F'.put J.next ⟨q.bl,q.ba,0,d⟩) ⟨q.bl,q.ba,0,d⟩ w' (.vec m D false):=by refine⟨[],a6,Ll,LM,[],I,a7,by simp[aS],aA,by simp[FH,dN],aA,{fits:=by have:=ax.fits;simp;omega,le:=aA,shut:=aA,cell:=aA,free:=aA,whole:=λ_=>⟨v1,by simp;omega,aA⟩,room:=λ_=>⟨he,by simp;omega,V⟩},aA,aA⟩
          have Po:=St.again (q':=⟨q.bl,q.ba,0,d⟩) r2.rel U rfl D9 H rfl rfl (λ_ _=>rfl) rfl rfl rfl ag;refine⟨y,w',_,r1,r2.trans Po,?_⟩;simp only[VR]at r3⊢;obtain⟨q3,N,_,rfl⟩:=r3;rw[H]at N;cases N;exact⟨[],I,.inl ⟨⟨q.bl,q.ba,0,d⟩,by simp[Env.put],aA,aA⟩⟩
         ·have r:pY D d bytes (.sl id 0 0 (some 0)) i.length (bP i) J=some (.sl J.next 0 (0+i.length) none,J.new (.cells ([]++bP i) D true true)):=by unfold pY;rw[aj R];simp only;rw[aj ah,U];simp[takeN]
          obtain⟨y,w',F',r1,r2,r3⟩:=Dz (ty:=ty) h hi z1 z2 l r O;rw[bf]at r2;rw[kX]at r3;obtain⟨q1,q2⟩:=St.yF (f:=false) r2 I (DT L) V (λ_ h=>h) r3 aA;refine⟨y,w',F',r1,q1.sub (λk o A=>?_) (cO _) rfl,q2⟩;rw[aC.pF,aC.yT]at A;rw[aC.pF];split at A
          ·next G=>rw[au (show k=J.next from G)];exact A
          ·next G=>
           rw[aj (show ¬k=J.next from G)];split at A
           ·cases A
           ·exact A
        ·cases p
       ·cases p
      ·cases p
     ·next id len=>
      split at p
      ·next c D U=>
       split at p
       ·next E=>
        rw[aO,aO]at E;obtain⟨⟨aa,ab⟩,aw⟩:=E;have IU:=bM aa;subst IU;have D9:=uh ab;have aq:=bM aw;split at p
        ·next a Z=>
         obtain⟨m,W,G⟩:=bn.1 p;cases G;obtain⟨ns,l1,l2⟩:=atM U Z V aq;have M:=O;simp only[VR]at M;obtain⟨q,Y,av,rfl⟩:=M;obtain⟨ws,a0,fr,a5,rr⟩:=h.at U Y;have a8:q.es=d:=by have:=(rr.room rfl).2.2;rw[V]at this;cases this;rfl
         have ao:takeN c 0 (len*d)=some c:=by unfold takeN;rw[dD,kQ ah,au aq]
         obtain⟨j,k1,k2,k3,k4⟩:=l1 (rr.zA ao);have a9:=l2 j k1;have conv:∀{F':Env}(vs:Q6),aG F' c vs->aG F' (bP j) vs:=by intro F' vs hv;obtain⟨gs,j1,_,j3,_⟩:=l1 hv;rw[k1]at j1;cases j1;exact j3
         obtain⟨i,y1,I,L,y4,y5⟩:=an W a9;have ae:∀x∈j++i,x.cells.length=d/\x.cells.all GV.scalar=true:=by
          intro x B;rcases ny.1 B with B|B
          ·exact k4 x B
          ·exact DT L x B
         obtain⟨zs,z1,z2⟩:=Ws h am B V y1 L;have l:=Iq (λx B=>(DT L x B).1);have R:=Sr (S:=.sl id 0 len none) (n:=j.length) L k2.symm y4 y5;by_cases X:i.length=0
         ·have T:i=[]:=jR X;subst T;rw[qZ]at I;have r:pY D d bytes (.sl id 0 len none) 0 (bP []) J=some (.sl id 0 len none,J):=by unfold pY;rw[aj (by simpa using R)];rfl
          obtain⟨y,w',F',r1,r2,r3⟩:=Dz (ty:=ty) h hi z1 z2 l r O;have H:=r2.ext.pl _ _ Y;have af:=r2.rel.at U H;have ag:OR P (F'.put J.next q) q w' (.vec m D false):=by have ai:=Env.Gv r2.rel q;refine OR.yF aA I (λx B=>by rw[a8];exact(k4 x B).1) (λx B=>(k4 x B).2) (af.mono ai) (λvs al=>conv vs al)
          have Po:=St.again (q':=q) r2.rel U rfl D9 H rfl rfl (λ_ _=>rfl) rfl rfl rfl ag;refine⟨y,w',F'.put J.next q,r1,r2.trans Po,?_⟩;simp only[VR]at r3⊢;obtain⟨q3,N,ak,rfl⟩:=r3;rw[H]at N;cases N;exact⟨j,I,.inl ⟨q,by simp[Env.put],by rw[k2];simpa using ak,by simp[k2]⟩⟩
         ·have r:pY D d bytes (.sl id 0 len none) i.length (bP i) J=some (.sl J.next 0 (len+i.length) none,(J.kill id).new (.cells (c++bP i) D true true)):=by unfold pY;rw[aj R];simp only;rw[aj X,au D9,U];simp only[if_true,ao,gU]
          obtain⟨y,w',F',r1,r2,r3⟩:=Dz (ty:=ty) h hi z1 z2 l r O;obtain⟨q1,q2⟩:=St.yF (size:=d) r2 I ae V (λvs al=>by obtain⟨us,ts,rfl,v1,v2⟩:=aG.split al;rw[aes];exact aG.append (conv us v1) v2) (by rw[gu,k2];exact r3) (f:=false) aA
          exact⟨y,w',F',r1,q1,q2⟩
        ·cases p
       ·cases p
      ·cases p
     ·cases p
  ·cases p
 ·cases p
def aiZ{x:GV}{z:Q3}(b:∀a,aG F z a->aG F (dO x.cells) a):∀(n:Nat)(vs:Q6),aG F (jC n z) vs->aG F (bP (List.replicate n x)) vs
 |0,vs,h=>by simpa[jC,bP,dO]using h
 |n+1,vs,h=>by
  have e:jC (n+1) z=z++jC n z:=by simp[jC,N7]
  rw[e]at h;obtain⟨a,c,rfl,d,f⟩:=aG.split h;have g:bP (List.replicate (n+1) x)=dO x.cells++bP (List.replicate n x):=by unfold bP;rw[N7,jS,IJ]
  rw[g];exact(b a d).append (aiZ b n c f)
def axF(z:Q3)(n m:Nat)(h:n<=m):(jC m z).take (n*z.length)=jC n z:=by
 induction n generalizing m with
 |zero=>simp[jC]
 |succ n a=>
  cases m with
  |zero=>omega
  |succ m=>
   have e:∀k,jC (k+1) z=z++jC k z:=λk=>by simp[jC,N7]
   rw[e,e,<-a m ah,List.take_append,kQ (by rw[rC];omega)];congr 2;rw[rC];omega
def aA3(h:SR P F J w){t:TypeId}{l c v:AV}{x y:Value}(q:WI P t l c J=some (v,J'))(X:VR F l x)(hy:VR F c y):
 ∃z w' F',(Instr.makeSlice t x y).run P w=.ok z w'/\St P F J w F' J' w'/\VR F' v z:=by
 unfold WI at q;split at q
 ·next e0 Y=>
  split at q
  ·next e b bytes z L hi ai=>
   obtain⟨M,_,_,he,i,hn⟩:=BI hi;rw[Y]at M;cases M;split at q
   ·cases q
   ·next Z=>
    split at q
    ·next zn ln cn d aa ab=>
     obtain⟨m,hm,H⟩:=bn.1 q;cases H;obtain⟨gl,l1,l2,l3⟩:=lN aa X;obtain⟨gc,c1,c2,c3⟩:=lN ab hy;obtain⟨g,g1,I⟩:=gK hm;simp only[Nd.den,l1,c1]at I;split at I
     ·next xz kn n ac W H e2 e3=>
      cases e2;cases e3;split at I
      ·next hc=>
       cases I;obtain⟨b1,b2,b3,b4,r⟩:=hc;simp only[GR]at l3 c3;subst l3;subst c3;obtain⟨A,N,B,D⟩:=at6 (P:=P) (w:=w) (F:=F) (kd:=kn) (kd':=ac) hi Z b1 b2 b3 b4;have ad:∀k,aG F z k->aG F (dO xz.cells) k:=by
        intro k j;cases L with
        |true=>simp only[if_true]at d;obtain⟨l',gs,e4,_,O,_,R⟩:=KP d (by simp only[VR];exact⟨k,rfl,j⟩:VR F (.agg z) (.agg ⟨k⟩));rw[H]at O;cases O;simp only[GR]at R;obtain⟨ae,e7,e8⟩:=R;cases e7;exact(oP _ _).1 e8
        |false=>
         simp only[ig,if_false]at d;cases o:z with
         |nil=>rw[o]at d;simp at d
         |cons a zr=>
          rw[o]at d j i;simp only[Xy,zN]at d;simp only[aG]at j;obtain⟨u,ur,rfl,E,p⟩:=j;obtain⟨gz,S,T,k3⟩:=lN d E;rw[H]at S;cases S;rw[GV.JJ T];have:b=1:=by unfold GV.fQ at r;rw[aO,GV.JJ T]at r;exact(bM r.1).symm
          rw[this]at i;have pG:zr=[]:=by apply jR;simpa using i
          subst pG;simp only[aG]at p;subst p;simp only[dO];exact aG.cons ((lD _ _).1 k3) (by simp[aG])
       have U:∀x∈List.replicate n.toNat xz,x.cells.length=b/\x.cells.all GV.scalar=true:=by intro x X;rw[(adl.1 X).2];unfold GV.fQ at r;rw[aO]at r;exact⟨Nat.eq_of_beq_eq_true r.1,r.2⟩
       have G:n.toNat<=W.toNat:=ah;have V:aG F (jC n.toNat z) (A.toList.take (jC n.toNat z).length):=by rw[VO,i];have:=D.take (n.toNat*b);rw[<-i,axF z _ _ G,i]at this;exact this
       have af:=DK h (c:=jC n.toNat z) (xs:=A) (elem:=_) (es:=b) (opn:=true) V (by rw[VO,i,B];exact uj _ G) aA (λ_=>⟨he,Nat.pos_of_ne_zero Z,hn⟩);have s:(W.toNat*b)/b=W.toNat:=XG _ (Nat.pos_of_ne_zero Z);obtain⟨q1,q2⟩:=St.yF (f:=false) (size:=b) (y:=.slice (some ⟨w.heap.size,0,none⟩) n.toNat W.toNat) af g1 U hn (λvs D=>by
        have ag:∀k,aG (F.put J.next ⟨w.heap.size,0,A.size,b⟩) z k->aG (F.put J.next ⟨w.heap.size,0,A.size,b⟩) (dO xz.cells) k:=by
         intro k j;cases L with
         |true=>simp only[if_true]at d;obtain⟨l',gs,e4,_,O,_,R⟩:=KP d (by simp only[VR];exact⟨k,rfl,j⟩:VR (F.put J.next ⟨w.heap.size,0,A.size,b⟩) (.agg z) (.agg ⟨k⟩));rw[H]at O;cases O;simp only[GR]at R;obtain⟨ae,e7,e8⟩:=R;cases e7;exact(oP _ _).1 e8
         |false=>
          simp only[ig,if_false]at d;cases o:z with
          |nil=>rw[o]at d;simp at d
          |cons a zr=>
           rw[o]at d j i;simp only[Xy,zN]at d;simp only[aG]at j;obtain⟨u,ur,rfl,E,p⟩:=j;obtain⟨gz,S,T,k3⟩:=lN d E;rw[H]at S;cases S;rw[GV.JJ T];have:b=1:=by unfold GV.fQ at r;rw[aO,GV.JJ T]at r;exact(bM r.1).symm
           rw[this]at i;have pG:zr=[]:=by apply jR;simpa using i
           subst pG;simp only[aG]at p;subst p;simp only[dO];exact aG.cons ((lD _ _).1 k3) (by simp[aG])
        exact aiZ ag _ _ D) (by simp only[VR];exact⟨⟨w.heap.size,0,A.size,b⟩,by simp[Env.put],by simp[B,s,G],by simp[B,s]⟩) aA
       exact⟨_,_,_,N,q1,q2⟩
      ·cases I
     ·cases I
    ·cases q
  ·cases q
 ·cases q
def OD:∀{xs:Q1}{b:Q0},mg xs=some b->bytesOf (dO xs)=some b
 |[],b,h=>by simpa[mg,dO,bytesOf]using h
 |x::xs,b,h=>by
  unfold mg at h;split at h
  ·rename_i a;cases a
  ·next n rest a=>
   cases a;simp only[dO,kT,bytesOf];split at h
   ·next d=>
    rw[au d];obtain⟨e,c,rfl⟩:=bn.1 h;rw[OD c];rfl
   ·cases h
  ·cases h
def SH:∀{xs:Q1}{b:Q0},mg xs=some b->xs.flatMap GV.cells=xs
 |[],b,h=>rfl
 |x::xs,b,h=>by
  unfold mg at h;split at h
  ·rename_i a;cases a
  ·next n rest a=>
   cases a;split at h
   ·obtain⟨d,c,_⟩:=bn.1 h;rw[jS,SH c];rfl
   ·cases h
  ·cases h
def aAW(h:SR P F J w){src dst:TypeId}{a v:AV}{x:Value}(p:WA P src dst a J=some (v,J'))(r:VR F a x):
 ∃y w' F',(convert src dst x).run P w=.ok y w'/\St P F J w F' J' w'/\VR F' v y:=by
 unfold WA at p;split at p
 ·next d k n h1 B=>
  obtain⟨v',D,E⟩:=bn.1 p;cases E;simp only[VR]at r;obtain⟨g,I,a2,L⟩:=r;obtain⟨_,g',_,j,b3⟩:=mP (F:=F) D;simp only[Nd.den,I]at j;split at j
  ·next kk z E=>
   cases E;cases j;simp only[GR]at L;subst L;obtain⟨y,w',F',r1,r2,r3⟩:=OX h (src:=src) (dst:=dst) (a:=.i kk z) (v:=.i k (k.wrap z)) (J':=J) (by simp only[yM,h1,B]) (by simp only[VR]:VR F (.i kk z) (.int kk z));exact⟨y,w',F',r1,r2,by obtain⟨_,M,_,G,V⟩:=mP (F:=F') D;simp only[Nd.den,I,aY]at G;subst G;exact V y rfl ((lD _ _).2 r3)⟩
  ·cases j
 ·next n h1 B=>
  obtain⟨v',D,E⟩:=bn.1 p;cases E;simp only[VR]at r;obtain⟨g,I,a2,L⟩:=r;obtain⟨_,g',_,j,b3⟩:=mP (F:=F) D;simp only[Nd.den,I]at j;split at j
  ·next z E=>
   cases E;cases j;simp only[GR]at L;subst L;obtain⟨y,w',F',r1,r2,r3⟩:=OX h (src:=src) (dst:=dst) (a:=.s z) (v:=.s z) (J':=J) (by simp only[yM,h1,B]) (by simp only[VR]:VR F (.s z) (.string ⟨⟨z⟩⟩));exact⟨y,w',F',r1,r2,by obtain⟨_,M,_,G,V⟩:=mP (F:=F') D;simp only[Nd.den,I,aY]at G;subst G;exact V y rfl ((lD _ _).2 r3)⟩
  ·cases j
 ·next e n h1 B=>
  split at p
  ·next W=>
   split at p
   ·next R=>
    split at p
    ·next m D=>
     cases p;simp only[VR]at r;obtain⟨g,I,a2,L⟩:=r;obtain⟨g',b1,j⟩:=gK D;simp only[Nd.den,I]at j;split at j
     ·next z E=>
      cases E;cases j;simp only[GR]at L;subst L;obtain⟨y,w',F',r1,r2,r3⟩:=OX h (src:=src) (dst:=dst) (a:=.s z) (v:=.sl J.next 0 z.length none) (J':=J.new (.cells (wU z) e true true)) (by simp only[yM,h1,B,W,au R]) (by simp only[VR]:VR F (.s z) (.string ⟨⟨z⟩⟩));obtain⟨q1,q2⟩:=St.yF (f:=false) (size:=1) r2 b1 (by intro x r;obtain⟨c,_,rfl⟩:=qK.1 r;exact⟨rfl,rfl⟩) R.2 (λvs ag=>by rw[aed];exact ag) (by simpa[bQ]using r3) aA
      exact⟨y,w',F',r1,q1,q2⟩
     ·cases j
    ·cases p
   ·cases p
  ·cases p
 ·next e h1 B=>
  split at p
  ·next W=>
   split at p
   ·next m o=>
    obtain⟨v',D,E⟩:=bn.1 p;cases E;obtain⟨_,g',_,j,b3⟩:=mP (F:=F) D;simp only[Nd.den]at j;split at j
    ·next t S=>
     split at j
     ·next aa=>
      obtain⟨b,u,rfl⟩:=bn.1 j;have fin:∀{τ:aC}{A:AV},SR P F τ w->VR F A x->yM P src dst A τ=some (.s b,τ)->(∀{F':Env}{w':World},St P F τ w F' τ w'->St P F J w F' J w')->∃y w' F',(convert src dst x).run P w=.ok y w'/\St P F J w F' J w'/\VR F' v y:=by intro τ A hS hA ai X;obtain⟨y,w',F',r1,r2,r3⟩:=OX hS ai hA;refine⟨y,w',F',r1,X r2,?_⟩;obtain⟨_,M,_,G,V⟩:=mP (F:=F') D;simp only[Nd.den,S,au aa,u,gU,aY]at G;subst G;exact V y rfl ((lD _ _).2 r3)
      have T:mg t=some b->t=[]->b=[]:=by rintro h1 rfl;simpa[mg]using h1.symm
      unfold listOf at o;split at o
      ·next n=>
       cases o;simp only[VR]at r;obtain⟨g,I,a2,L⟩:=r;rw[S]at I;cases I;exact fin h ((lD (.l t) x).1 L) (by simp only[kT,yM,h1,B,W,OD u,gU]) (λh=>h)
      ·obtain⟨g,g1,M⟩:=gK o;rw[S]at g1;cases g1;simp only[Nd.den,valsOf,gU,aY,GV.l.injEq]at M;have:=T u M.symm;subst this;exact fin h r (by simp only[yM,h1,B,W]) (λh=>h)
      ·next id n=>
       split at o
       ·next m' et _ Z=>
        split at o
        ·next R=>
         cases o;rw[aO]at R;simp only[VR]at r;obtain⟨ys,k1,r⟩:=r;have U:=zk 100 R.2 S k1;rcases r with⟨q,hq,ab,rfl⟩|⟨_,rfl,rfl⟩
         ·obtain⟨aq,j1,j2,j3,j4,j5,j6,j7,hS⟩:=NJ h Z hq;rw[S]at j1;cases j1;have Y:bP t=dO t:=by unfold bP;rw[SH u]
          have ac:takeN (bP t) 0 t.length=some (dO t):=by rw[Y];unfold takeN;rw[dD,kQ (by rw[lV];omega),au (lV t)]
          rw[U]at ac;refine fin (A:=.sl id 0 ys.length none) hS (by simp only[VR];exact⟨q,hq,by simpa using ab,aA⟩) ?_ (λX=>aBG (λe=>by subst e;exact(h.at Z hq).Xb) Z hq S j2 j7 (QM Z X));simp only[yM,h1,B,W,ER,ac,OD u,gU]
         ·have N:t=[]:=jR (by simpa using U);have:=T u N;subst this;exact fin h (A:=.gy) (by simp only[VR]) (by simp only[yM,h1,B,W]) (λh=>h)
        ·cases o
       ·cases o
      ·next id ar len av=>
       split at o
       ·next c et uY aw H ak Z ax ay=>
        split at o
        ·next R=>
         rw[aO,nO,aO]at R;split at o
         ·next cs O=>
          split at o
          ·next ns al=>
           have ad:ak=false->H=1:=by
            intro e;subst e;rcases R.2 with h1|h1
            ·simp at h1
            ·exact bM h1
           obtain⟨g,g1,M⟩:=gK o;rw[S]at g1;cases g1;simp only[VR]at r;obtain⟨q,hq,ab,rfl⟩:=r;obtain⟨q',ae,ws,ap,fr,af,rr⟩:=h.obj _ _ Z rfl;rw[hq]at ae;cases ae;have am:=(rQ O).2.1;obtain⟨gs,k1,k2,k3,_,k5⟩:=FP (F:=F) ad len al (rr.zA O) am;simp only[Nd.den,k1,gU,aY,GV.l.injEq]at M;rw[M]at k2 k3 k5;have an:len*H=len:=by
            cases len with
            |zero=>simp
            |succ n=>
             have ao:t[0]? =some (t[0]'(by omega)):=bT ah;have h5:=(k5 _ (rX ao)).1;have h6:(t[0]'(by omega)).cells.length=1:=by
              cases t with
              |nil=>simp at k2
              |cons y ys=>
               cases y with
               |i k n=>rfl
               |b=>simp[mg]at u
               |s=>simp[mg]at u
               |l=>simp[mg]at u
               |g=>simp[mg]at u
             rw[h6]at h5;rw[<-h5];simp
           have Y:bP t=dO t:=by unfold bP;rw[SH u]
           rw[Y]at k3;have N:=OE (OD u) k3;rw[an]at O N;refine⟨.string ⟨⟨b⟩⟩,w,F,?_,St.refl h,?_⟩
           ·simp only[convert,aU,aZ h1,aZ B,aT,aZ W,Conv.bytesToString];rw[Eu af (rr.take O),N];simp only[aT];rw[abM _ (λ_ _ _=>rfl)];rfl
           ·obtain⟨_,M,_,G,V⟩:=mP (F:=F) D;simp only[Nd.den,S,au aa,u,gU,aY]at G;subst G;exact V _ rfl (by simp only[GR])
          ·cases o
         ·cases o
        ·cases o
       ·cases o
      ·cases o
     ·cases j
    ·cases j
   ·cases p
  ·cases p
 ·cases p
def Gx(ro:Qf)(w:World)(b:Nat):Nat->Option Obj:=λk=>if k=b then w.heap[b]? else ro k
def VT{ro:Qf}{w:World}(h:∀b o,ro b=some o->w.heap[b]? =some o)(b:Nat):∀k o,ro k=some o->Gx ro w b k=some o:=by
 intro k o a;unfold Gx;split
 ·next e=>subst e;exact h _ _ a
 ·exact a
def St.freeze(h:SR P F J w){id:Nat}{o:bG}{q:Place}(n:J.get id=some o)(x:o.own=true)(y:J.lock<=id)(r:F id=some q):St P F J w ⟨F.pl,Gx F.ro w q.bl,F.gh⟩ (J.kill id) w:=by
 have c:(F:Env).le ⟨F.pl,Gx F.ro w q.bl,F.gh⟩:=⟨λ_ _ h=>h,VT h.jc q.bl,λ_ h=>h⟩
 have sub:∀k u,(J.kill id).get k=some u->k≠id/\J.get k=some u:=by
  intro k u d;rw[aC.yT]at d;split at d
  ·cases d
  ·next e=>exact⟨e,d⟩
 refine⟨c,⟨h.mJ,h.dom,λk u d=>?_,h.jU,λk u s t p z i f g j A B=>?_,λb u l=>?_,λk u p i f g=>?_,λp D=>(h.tabs p D).mono c⟩,cO _,λ_ _ _=>rfl,λk u p i f g j=>?_,rfl,rfl,rfl,rfl,cO _,λ_ h=>.inl h,λb l=>?_⟩
 ·exact(h.live k u (sub k u d).2).mono c
 ·exact h.sep k u s t p z (sub k u i).2 f (sub s t g).2 j A B
 ·have a:(if b=q.bl then w.heap[q.bl]? else F.ro b)=some u:=l;split at a
  ·next e=>rw[e];exact a
  ·exact h.jc b u a
 ·obtain⟨E,v⟩:=sub k u i;show(if p.bl=q.bl then w.heap[q.bl]? else F.ro p.bl)=none
  have m:=h.sep k u id o p q v f n E g r;rw[aj m];exact h.lq k u p v f g
 ·exact .inr ⟨k,u,p,(sub k u i).2,f,g,j,rfl⟩
 ·have a:(if b=q.bl then w.heap[q.bl]? else F.ro b)≠none:=l;split at a
  ·next e=>exact .inr (.inr ⟨id,o,q,n,x,y,r,e.symm⟩)
  ·exact .inl a
def GR.aar{F:Env}{w:World}{q:Place}{c:Q3}{et:TypeId}{u opn:Bool}{ro':Qf}(h:OR P F q w (.cells c et u opn))(g:∀b o,F.ro b=some o->ro' b=some o)(v:ro' q.bl=w.heap[q.bl]?){off n size cap:Nat}{cs:Q3}{gs:Q1}(i:takeN c off (n*size)=some cs)(l:gs.length=n)(d:n<=cap)(h0:0<size)
 (m:∀x∈gs,x.cells.length=size/\x.cells.all GV.scalar=true) (z:∀(F':Env) vs,(∀b o,F.ro b=some o->F'.ro b=some o)->aG F cs vs->aG F' (bP gs) vs):GR ro' (.l gs) (.slice (some ⟨q.bl,q.ba+off,none⟩) n cap):=by
 obtain⟨A,e,B,D,r⟩:=h;have E:=r.zA i;have p:=r.take i;obtain⟨O,R,S⟩:=rQ i;have G:=z ⟨F.pl,ro',F.gh⟩ _ g E;obtain⟨H,s,t,I⟩:=ungroup gs _ G (λx L=>(m x L).2);simp only[GR];right;refine⟨q.bl,q.ba+off,cap,H,size,by rw[l],by rw[l];exact d,s,λy M=>?_,λj=>⟨A,e,B,by rw[v,D],?_,?_⟩⟩
 ·obtain⟨k,a⟩:=NY M;have f:k<gs.length:=by rw[s.length];exact(fH.1 a).1
  rw[I k _ y (bT f) a];exact(m _ (iq f)).1
 ·rw[t];have N:0<gs.length:=Kw.2 j;have T:0<n*size:=Oa ah h0;rw[kG,fF,J8];omega
 ·rw[t];intro k x a;rw[lT]at a;split at a
  ·rw[rW,wC]at a;exact a
  ·cases a
def VR.afX(h:SR P F J w){id n m et:Nat}{f:Bool}{x:Value}{ro':Qf}(s:J.get id=some (.vec m et f))(v:vY 100 m n=true)(d:VR F (.sv id n) x)(e:∀b o,F.ro b=some o->ro' b=some o)(y:∀q,F id=some q->ro' q.bl=w.heap[q.bl]?):
 ∃i,aJ.val m=some (.l i)/\GR ro' (.l i) x:=by
 simp only[VR]at d;obtain⟨i,z,d⟩:=d;rcases d with⟨q,a,j,rfl⟩|⟨k,rfl,rfl⟩
 ·obtain⟨l,t,u,G,A,H,I,B,D⟩:=(h.at s a).MC;have c:=zk 100 v t z;refine⟨l,t,?_⟩;have p:=Iq u;have:=GR.aar (ro':=ro') (off:=0) (n:=i.length) (size:=q.es) (cap:=q.sz/q.es) (cs:=bP l) (gs:=l) D e (y q a) (by unfold takeN;rw[dD,<-c,kQ ah,au p]) c j A (λx d=>⟨u x d,B x d⟩) (λL M e g=>by unfold bP at g⊢;exact(oP _ _).1 (aS.mono e _ _ ((oP _ _).2 g)))
  simpa using this
 ·rcases h.live id _ s with⟨q,a,_⟩|⟨_,N,O,R,E,r⟩
  ·rw[(h.jU id k).1]at a;cases a
  ·cases E;exact⟨[],r,by simp[GR]⟩
def adt{F':Env}(a:F.le F'){o:Q4}{v:Ww}(h:lF F o v):lF F' o v:=by cases o<;>cases v<;>first|exact h|exact VR.mono a _ _ h
def St.awV(h:SR P F J w){id m et k:Nat}{f:Bool}(y:J.get id=some (.vec m et f))(d:F.gh id=true)(v:aJ.val k=some (.l [])):St P F J w F (J.put id (.vec k et f)) w:=by
 have get:∀i u,(J.put id (.vec k et f)).get i=some u->(i=id/\u=.vec k et f)\/(i≠id/\J.get i=some u):=by
  intro i u hi;rw[aC.get_put]at hi;split at hi
  ·next e=>cases hi;exact .inl ⟨e,rfl⟩
  ·next e=>exact .inr ⟨e,hi⟩
 have a:∀q,F id≠some q:=λq n=>by rw[(h.jU id d).1]at n;cases n
 refine⟨Env.le.refl _,⟨h.mJ,h.dom,λi u hi=>?_,h.jU,λi u o p q r g j c l s t=>?_,h.jc,λi u q g j c=>?_,h.tabs⟩,cO _,λ_ _ _=>rfl,λi u q g j c l=>?_,rfl,rfl,rfl,rfl,cO _,λ_ h=>.inl h,λ_ h=>.inl h⟩
 ·rcases get i u hi with⟨rfl,rfl⟩|⟨_,b⟩
  ·exact .inr ⟨d,k,et,f,rfl,v⟩
  ·exact h.live i u b
 ·rcases get i u g with⟨rfl,_⟩|⟨_,b⟩
  ·exact absurd s (a q)
  ·rcases get o p c with⟨rfl,_⟩|⟨_,x⟩
   ·exact absurd t (a r)
   ·exact h.sep i u o p q r b j x l s t
 ·rcases get i u g with⟨rfl,_⟩|⟨_,b⟩
  ·exact absurd c (a q)
  ·exact h.lq i u q b j c
 ·rcases get i u g with⟨rfl,_⟩|⟨_,b⟩
  ·exact absurd l (a q)
  ·exact .inr ⟨i,u,q,b,j,c,l,rfl⟩
def aA4(h:SR P F J w){t:TypeId}{a v:AV}{x:Value}{lo hi:Q4}{G H:Ww}(d:WM P t J a lo hi=some (v,J'))(A:VR F a x)(O:lF F lo G)(R:lF F hi H):
 ∃y w' F',(Instr.sliceAt t x G H none).run P w=.ok y w'/\St P F J w F' J' w'/\VR F' v y:=by
 unfold WM at d;split at d;rotate_left
 ·cases d
 next e id n hu=>
 split at d;rotate_left
 ·cases d
 next m et f S s I=>
 split at d;rotate_left
 ·cases d
 next hc=>
 simp only[aO]at hc;obtain⟨⟨c1,c2⟩,c3⟩:=hc;have e1:=bM c1;subst e1;have T:=uh c3;cases lo with
 |some l0=>
  simp only at d;obtain⟨r,hr,e2⟩:=bn.1 d;cases e2;have U:∀V:Env,SR P V (J.kill id) w->St P F J w V (J.kill id) w->VR V (.nd m) x->∃y w' F',(Instr.sliceAt t x G H none).run P w=.ok y w'/\St P F J w F' (J.kill id) w'/\VR F' v y:=by intro V h1 b hv;obtain⟨y,k1,k2⟩:=ajU h1 hr hv (adt b.ext O) (adt b.ext R);exact⟨y,w,V,k1,b,k2⟩
  have B:=A;simp only[VR]at B;obtain⟨ys,k1,B⟩:=B;rcases B with⟨q,i,aa,_⟩|⟨D,_,_⟩
  ·have b:=St.freeze h s rfl T i;obtain⟨o,L,M⟩:=VR.afX (ro':=Gx F.ro w q.bl) h s c2 A (VT h.jc q.bl) (λq' u=>by rw[i]at u;cases u;unfold Gx;rw[au rfl]);exact U _ b.rel b (by simp only[VR];exact⟨_,L,rfl,M⟩)
  ·obtain⟨o,L,M⟩:=VR.afX (ro':=F.ro) h s c2 A (λ_ _ h=>h) (λq' u=>by rw[(h.jU id D).1]at u;cases u);have b:=(St.refl h).U2 id;exact U F b.rel b (by simp only[VR];exact⟨_,L,rfl,M⟩)
 |none=>
  simp only at d;split at d;rotate_left
  ·cases d
  next z hh h1 h2=>
  obtain⟨k,hk,e2⟩:=bn.1 d;cases e2;obtain⟨g,g1,N⟩:=gK hk;simp only[Nd.den]at N;split at N;rotate_left
  ·cases N
  next p kl li kh c e3 e4 e5=>
  split at N;rotate_left
  ·cases N
  next hc=>
  cases N;obtain⟨b1,b2,b3,b4⟩:=hc;have hz:li=0:=by obtain⟨gz,L,M⟩:=gK h1;simp only[Nd.den,aY]at M;subst M;rw[e4]at L;cases L;rfl
  subst hz;have ac:OA (none:Q4)=some z:=h1;obtain⟨ad,ae,d1,d2,d3⟩:=acd (len:=p.length) ac h2 O R e4 e5 (λhd=>by simp only[Nd.den,e3,aY,GV.i.injEq]at hd;exact hd.2.symm) b1 b2 b3;have al:(0:Int).toNat=0:=rfl;simp only[VR]at A;obtain⟨ys,y1,A⟩:=A;have E:=zk 100 c2 e3 y1;have af:(p.take c.toNat).drop (0:Int).toNat=p.take c.toNat:=aA;rw[af]at g1;have PE:c.toNat<=p.length:=ah;rcases A with⟨q,i,aa,rfl⟩|⟨D,rfl,rfl⟩
  ·have ag:=h.at s i;obtain⟨am,cs,W,fr,o,o1,o2,o3,o4,o5,o6,o7,o8,o9⟩:=ag;rw[e3]at o1;cases o1
   have hB:=Fz (P:=P) (w:=w) (sl:=true) (cap:=q.sz/q.es) d3 (λk hk=>by have:k<=p.length:=by simpa using hk
                                                                       omega) ah d1 d2
   have ai:0<q.es/\sizeT P e=some q.es:=⟨(o7.room rfl).2.1,(o7.room rfl).2.2⟩
   have an:S=q.es:=by have:=ai.2;rw[I]at this;cases this;rfl
   have X:OR P F q w (.vec k e f):=by
    have ao:=o3.length;refine⟨p.take c.toNat,cs,W,fr,o.take c.toNat,g1,o2,?_,λy hy=>o4 y (Kz hy),?_,?_,o7,λx A=>o8 x (Kz A),o9⟩
    ·have:∀(p:Q1)(o:Q6)(n:Nat),aS F.ro p o->aS F.ro (p.take n) (o.take n):=by
      intro p;induction p with
      |nil=>intro o n s;simp only[aS]at s;subst s;simp[aS]
      |cons a l ih=>
       intro o n s;simp only[aS]at s;obtain⟨x,us,rfl,a1,a2⟩:=s;cases n with
       |zero=>simp[aS]
       |succ n=>simp only[Dn,aS];exact⟨x,us.take n,rfl,a1,ih us n a2⟩
     exact this _ _ _ o3
    ·intro j x hj;refine o5 j x ?_;have Y:(dN (o.take c.toNat)) <+: dN o:=by unfold dN;rw[show o=o.take c.toNat++o.drop c.toNat from(KA _ _).symm];rw[ac9];simp only[KA];exact List.prefix_append _ _
     obtain⟨r,hr⟩:=Y;rw[<-hr,mY (fH.1 hj).1];exact hj
    ·rw[kG];refine kR (uj _ (Nat.min_le_right _ _)) o6
   have b:=St.write h s rfl T i (w':=w) (o':=.vec k e f) rfl (λ_ _=>rfl) rfl rfl rfl X;refine⟨.slice (some ⟨q.bl,q.ba,none⟩) c.toNat (q.sz/q.es),w,F,?_,b,?_⟩
   ·rw[E]at hB;simp only[Instr.sliceAt,Instr.slice,aZ hu,aU,aT,hB.1,jk I,bH];by_cases e0:q.sz/q.es=0
    ·simp[e0]
    ·have e1:¬q.sz/q.es=(0:Int).toNat:=e0;rw[aj e1];simp[qL]
   ·simp only[VR];refine⟨p.take c.toNat,g1,.inl ⟨q,i,?_,?_⟩⟩
    ·rw[kG];omega
    ·rw[kG,KE PE]
  ·have ak:p=[]:=jR (by simpa using E);subst ak;have ap:c.toNat=0:=by simpa using PE
   have hl:Bf P t J .gy ad ae=some .gy:=by simp only[Bf,hu,I];simp only[mZ]at d3;rw[d3];rfl
   obtain⟨y,u1,u2⟩:=Wl h hl (show VR F .gy (.slice none 0 0) by simp only[VR]) d1 d2;simp only[VR]at u2;subst u2;have Z:aJ.val k=some (.l []):=by rw[g1];simp
   refine⟨_,w,F,u1,St.awV h s D Z,?_⟩;simp only[VR];exact⟨[],Z,.inr ⟨D,by trivial,by trivial⟩⟩
def uP(a:Wf):TypeDesc:=match a with
 |some k=>.int k
 |none=>.string
def U0{s:TypeId}{k:AV}{n:Nat}{d:Wf}{y:Value}(h:PX P s k=some (n,d))(t:VR F k y):
 P.underlying s=some (uP d)/\∃g,aJ.val n=some g/\Aj d g/\GR F.ro g y:=by
 unfold PX at h;split at h
 ·next v m f i=>
  split at h
  ·next z l=>
   obtain⟨j,o,e⟩:=bn.1 h;cases e;obtain⟨g,b,_,p⟩:=lN i t;obtain⟨u,q,c⟩:=gK l;simp only[Nd.den,aY]at c;subst c;obtain⟨r,_,a⟩:=gK o;simp only[Nd.den,b,q]at a;refine⟨f,g,b,?_,p⟩;cases g<;>simp only[iG,bV,reduceCtorEq]at a
   split at a
   ·next e=>subst e;exact⟨_,rfl⟩
   ·cases a
  ·cases h
 ·next m f i=>
  split at h
  ·next z l=>
   obtain⟨j,o,e⟩:=bn.1 h;cases e;obtain⟨g,b,_,p⟩:=lN i t;obtain⟨u,q,c⟩:=gK l;simp only[Nd.den,aY]at c;subst c;obtain⟨r,_,a⟩:=gK o;simp only[Nd.den,b,q]at a;refine⟨f,g,b,?_,p⟩;cases g<;>simp only[iG,xG,reduceCtorEq]at a
   exact⟨_,rfl⟩
  ·cases h
 ·cases h
def aje{k:IntKind}{a b:Int}:Instr.sameNow (.int k) (.int k a) (.int k b)=some (a==b):=by simp[Instr.sameNow]
def ajg{a b:Q0}:Instr.sameNow .string (.string ⟨⟨a⟩⟩) (.string ⟨⟨b⟩⟩)=some (a==b):=by simp[Instr.sameNow,H9]
def agT{o:Wf}{n:Nat}{e:AV}{g:GV}{x y:Value}{b:Bool}(h:ZP n e=some b)(p:aJ.val n=some g)(z:Aj o g)(f:GR F.ro g y)(A:VR F e x):
 Instr.sameNow (uP o) y x=some b:=by
 unfold ZP at h;split at h
 ·next m B=>
  obtain⟨i,q,_,l⟩:=lN B A;have s:∃r,(Nd.bin .eql n m).den aJ.I aJ.val=some r/\r=.b b:=by
   split at h
   ·next D t=>
    cases h;obtain⟨j,r,E,d,u⟩:=mP (F:=F) t;refine⟨r,d,?_⟩;simp only[Nd.den,p,q]at d;have:∃c,r=.b c:=by
     cases g<;>cases i<;>simp only[iG,reduceCtorEq]at d
     ·split at d
      ·simp only[bV,aY]at d;exact⟨_,d.symm⟩
      ·cases d
     ·simp only[xG,aY]at d;exact⟨_,d.symm⟩
    obtain⟨c,rfl⟩:=this;have:=u (.bool c) rfl (by simp only[GR]);simp only[VR]at this;cases this;rfl
   ·next j t=>
    split at h
    ·next D G=>
     cases h;obtain⟨M,r,E,d,u⟩:=mP (F:=F) t;refine⟨r,d,?_⟩;simp only[Nd.den,p,q]at d;have:∃c,r=.b c:=by
      cases g<;>cases i<;>simp only[iG,reduceCtorEq]at d
      ·split at d
       ·simp only[bV,aY]at d;exact⟨_,d.symm⟩
       ·cases d
      ·simp only[xG,aY]at d;exact⟨_,d.symm⟩
     obtain⟨c,rfl⟩:=this;have H:=u (.bool c) rfl (by simp only[GR]);obtain⟨v,I,L⟩:=Iw G;cases I;have:=L F _ H;simp only[VR]at this;cases this;rfl
    ·cases h
   ·cases h
  obtain⟨r,d,rfl⟩:=s;simp only[Nd.den,p,q]at d;cases o with
  |some k=>
   obtain⟨a,rfl⟩:=z;simp only[GR]at f;subst f;cases i<;>simp only[iG,reduceCtorEq]at d
   split at d
   ·next e=>
    subst e;simp only[bV,aY,GV.b.injEq]at d;simp only[GR]at l;subst l;show Instr.sameNow (.int _) _ _=_
    rw[aje,d]
   ·cases d
  |none=>
   obtain⟨a,rfl⟩:=z;simp only[GR]at f;subst f;cases i<;>simp only[iG,xG,reduceCtorEq]at d
   simp only[aY,GV.b.injEq]at d;simp only[GR]at l;subst l;show Instr.sameNow .string _ _=_
   rw[ajg,d]
 ·cases h
def Pe{o:Wf}{n:Nat}{g:GV}{y:Value}(f:aJ.val n=some g)(j:Aj o g)(k:GR F.ro g y):∀{es:XS}{b:List MapEntry}{i:Nat}{r:Option (Nat×AV)},
 LD n es i=some r->AX F es b->∃d,Instr.findNow (uP o) y b i=some d/\(match r,d with|none,none=>True|some (_,v),some (_,z)=>VR F v z|_,_=>False)
 |[],b,i,r,h,l=>by
  simp only[LD,aY]at h;subst h;have:b=[]:=by have:=l.1;cases b<;>simp_all
  subst this;exact⟨none,rfl,trivial⟩
 |e::es,b,i,r,h,l=>by
  obtain⟨m,p,rfl,q,s,t⟩:=l.tail;unfold LD at h;split at h
  ·next a=>
   cases h;have a:=agT a f j k q;exact⟨some (i,m.val),by simp[Instr.findNow,a],s⟩
  ·next a=>
   have a:=agT a f j k q;obtain⟨d,u,c⟩:=Pe f j k h t;exact⟨d,by simp[Instr.findNow,a,u],c⟩
  ·cases h
def ajf{b:Wf}{g a:GV}{y x:Value}{ro:Qf}(e:Aj b g)(f:Aj b a)(c:GR ro g y)(d:GR ro a x):Instr.sameNow (uP b) y x=some (pJ g a):=by
 cases b with
 |some k=>
  obtain⟨m,rfl⟩:=e;obtain⟨n,rfl⟩:=f;simp only[GR]at c d;subst c;subst d;show Instr.sameNow (.int _) _ _=_
  rw[aje];simp[pJ]
 |none=>
  obtain⟨m,rfl⟩:=e;obtain⟨n,rfl⟩:=f;simp only[GR]at c d;subst c;subst d;show Instr.sameNow .string _ _=_
  rw[ajg];rfl
def Ue{ro:Qf}{e:Wf}{sz:QR}{g:GV}{y:Value}(n:Aj e g)(o:GR ro g y):∀{xs:Q1}{c:List MapEntry}{i:Nat},rY ro e sz xs c->
 (iK g xs=none/\Instr.findNow (uP e) y c i=some none)\/∃u j z,iK g xs=some u/\Instr.findNow (uP e) y c i=some (some (j,z))/\i<=j/\(∃m,c[j-i]? =some m/\Instr.sameNow (uP e) y m.key=some true)/\NK sz u/\GR ro u z
 |[],c,i,h=>by simp only[rY]at h;subst h;exact .inl ⟨rfl,rfl⟩
 |x::xs,c,i,h=>by
  obtain⟨a,b,m,rest,rfl,rfl,h1,p,q,r,h5⟩:=h;have d:=ajf n h1 o q;cases f:pJ g a with
  |true=>rw[f]at d;exact .inr ⟨b,i,m.val,by simp[iK,f],by simp[Instr.findNow,d],cO _,⟨m,aA,d⟩,p,r⟩
  |false=>
   rw[f]at d;rcases Ue (i:=i+1) n o h5 with⟨k,l⟩|⟨u,j,z,k,l,B,⟨s,t,v⟩,A⟩
   ·exact .inl ⟨by simp[iK,f,k],by simp[Instr.findNow,d,l]⟩
   ·refine .inr ⟨u,j,z,by simp[iK,f,k],by simp[Instr.findNow,d,l],ah,⟨s,?_,v⟩,A⟩;have:j-i=(j-(i+1))+1:=ah;rw[this];simpa using t
def aiQ{ro:Qf}{f:Wf}{sz:QR}{g u:GV}{e:MapEntry}(i:Aj f g)(j:NK sz u)(h1:GR ro g e.key)(k:GR ro u e.val):∀{xs:Q1}{c:List MapEntry},rY ro f sz xs c->iK g xs=none->
 rY ro f sz (lQ g u xs) (c++[e])
 |[],c,h,_=>by simp only[rY]at h;subst h;exact⟨g,u,e,[],rfl,rfl,i,j,h1,k,rfl⟩
 |x::xs,c,h,d=>by
  obtain⟨a,b,m,rest,rfl,rfl,q1,l,n,o,p⟩:=h;simp only[iK]at d;split at d
  ·cases d
  ·next q=>
   simp only[lQ,aj q];exact⟨a,b,m,rest++[e],rfl,rfl,q1,l,n,o,aiQ i j h1 k p d⟩
def aiR{ro:Qf}{k:Wf}{sz:QR}{g u:GV}{y p:Value}(l:Aj k g)(r:NK sz u)(h1:GR ro g y)(s:GR ro u p):∀{xs:Q1}{d:List MapEntry}{i j:Nat}{z:Value},rY ro k sz xs d->Instr.findNow (uP k) y d i=some (some (j,z))->
 rY ro k sz (lQ g u xs) (d.modify (j-i) λe=>{e with key:=y,val:=p})
 |[],d,i,j,z,h,c=>by simp only[rY]at h;subst h;simp[Instr.findNow]at c
 |x::xs,d,i,j,z,h,c=>by
  obtain⟨a,b,m,f,rfl,rfl,t,A,v,B,q⟩:=h;have n:=ajf l t h1 v;cases o:pJ g a with
  |true=>rw[o]at n;simp only[Instr.findNow,n,aY,oD]at c;obtain⟨rfl,rfl⟩:=c;simp only[lQ,o,if_true,AY];exact⟨g,u,{m with key:=y,val:=p},f,rfl,aA,l,r,h1,s,q⟩
  |false=>
   rw[o]at n;simp only[Instr.findNow,n]at c;have E:i+1<=j:=by
    rcases Ue (i:=i+1) l h1 q with⟨_,r2⟩|⟨_,G,_,_,r2,r3,_⟩
    ·rw[c]at r2;cases r2
    ·rw[c]at r2;cases r2;exact r3
   have D:=aiR l r h1 s q c;have e:j-i=(j-(i+1))+1:=ah;rw[e];simp only[lQ,o,ig,if_false,List.modify_succ_cons];exact⟨a,b,m,_,rfl,rfl,t,A,v,B,D⟩
def Tj{c:TypeId}{d:Wf}{g:GV}{y:Value}(e:P.underlying c=some (uP d))(f:Aj d g)(a:GR F.ro g y)(b:Bool):(Instr.checkKey b 10000 c y).run P w=.ok () w:=by
 have H:∀n:Nat,(Instr.checkKey b (n+1) c y).run P w=.ok () w:=λn=>by
  cases d with
  |some k=>obtain⟨m,rfl⟩:=f;simp only[GR]at a;subst a;simp only[Instr.checkKey,aU,aZ e,aT,uP,bH]
  |none=>obtain⟨m,rfl⟩:=f;simp only[GR]at a;subst a;simp only[Instr.checkKey,aU,aZ e,aT,uP,bH]
 exact H 9999
def akp{et:TypeId}{v:AV}{n:Nat}{sz:QR}{x:Value}(h:QO P et v=some (n,sz))(i:VR F v x):∃g,aJ.val n=some g/\NK sz g/\GR F.ro g x/\(match nU P et with
 |some true=>∃k,sizeT P et=some k/\sz=some k
 |some false=>sz=none
 |none=>False):=by
 unfold QO at h;split at h
 ·next a=>
  split at h
  ·next j k b m=>
   split at h
   ·next o=>
    cases h;obtain⟨l,p,rfl,c,d,f,q⟩:=KP b i;rw[a];refine⟨_,d,⟨p,rfl,?_,f⟩,q,k,m,rfl⟩;rw[c];exact bM o
   ·cases h
  ·cases h
 ·next a=>
  obtain⟨j,b,e⟩:=bn.1 h;cases e;obtain⟨g,c,d,f⟩:=lN b i;rw[a];exact⟨g,c,d,f,rfl⟩
 ·cases h
def U3{a b:Wf}(h:Mc a b=true):a=b:=by
 cases a<;>cases b<;>simp only[Mc]at h
 ·rfl
 ·cases h
 ·cases h
 ·rw[UW h]
def ace{a b:QR}(h:QK a b=true):a=b:=by
 cases a<;>cases b<;>simp only[QK]at h
 ·rfl
 ·cases h
 ·cases h
 ·rw[bM h]
def acK{et:TypeId}{z:AV}(h:QX P et=some z):∃x,(zeroValue et).run P w=.ok x w/\VR F z x:=by
 unfold QX at h;split at h
 ·next i hi=>
  split at h
  ·next x a=>
   obtain⟨b,c⟩:=Xn (w:=w) (F:=F) hi a h;exact⟨x,b,c⟩
  ·cases h
 ·cases h
def arX:∀(cs:Q1)(n:Nat),cs.length=n->takeN (dO cs) 0 n=some (dO cs):=by
 intro cs n a;have b:(dO cs).length=n:=by rw[lV,a]
 simp only[takeN,dD];rw[kQ ah,au b]
def jK(s:ByteArray):∀(l:List MapEntry)(i:Nat),(∀m∈l,∃t,m.key=.string t)->
 (∃j m,Instr.findNow .string (.string s) l i=some (some (j,m.val))/\m∈l/\m.key=.string s)\/(Instr.findNow .string (.string s) l i=some none/\∀m∈l,m.key≠.string s)
 |[],i,_=>.inr ⟨rfl,λm k=>by simp at k⟩
 |m::l,i,h=>by
  obtain⟨t,n⟩:=h m aA;have f:Instr.sameNow .string (.string s) m.key=some (s==t):=by rw[n];rfl
  have g:(s==t)=decide (s=t):=by
   obtain⟨⟨a⟩⟩:=s;obtain⟨⟨b⟩⟩:=t;rw[H9];by_cases c:a=b
   ·subst c;simp
   ·rw[Iy (by simpa using c)];simpa using c
  by_cases c:s=t
  ·subst c;rw[g,DN rfl]at f;exact .inl ⟨i,m,by simp[Instr.findNow,f],aA,n⟩
  ·rw[g,Iy c]at f;rcases jK s l (i+1) (λm k=>h m (by simp[k]))with⟨j,o,p,q,r⟩|⟨p,q⟩
   ·exact .inl ⟨j,o,by simp[Instr.findNow,f,p],by simp[q],r⟩
   ·refine .inr ⟨by simp[Instr.findNow,f,p],λo d=>?_⟩;simp only[bJ]at d;rcases d with rfl|d
    ·rw[n];simpa using λe=>c e.symm
    ·exact q o d
def afM(s:ByteArray){l c:List MapEntry}(f:l.Perm c)(o:∀m∈c,∃t,m.key=.string t)(i:(c.map (·.key)).Nodup){r:Option (Nat×Value)}(h:Instr.findNow .string (.string s) c 0=some r):
 ∃x,Instr.findNow .string (.string s) l 0=some x/\(match r,x with|none,none=>True|some (_,v),some (_,z)=>v=z|_,_=>False):=by
 have g:∀m∈l,∃t,m.key=.string t:=λm hm=>o m (f.mem_iff.1 hm);have p:∀m∈c,∀d∈c,m.key=d.key->m=d:=by
  clear f o h g;induction c with
  |nil=>intro m hm;simp at hm
  |cons a l B=>
   simp only[iC,List.nodup_cons,qK,not_exists,not_and]at i;intro m hm d b e;simp only[bJ]at hm b;rcases hm with rfl|hm<;>rcases b with rfl|b
   ·rfl
   ·exact absurd e.symm (i.1 d b)
   ·exact absurd e (i.1 m hm)
   ·exact B i.2 m hm d b e
 rcases jK s c 0 o with⟨j,m,q,k,y⟩|⟨q,k⟩<;>rcases jK s l 0 g with⟨D,d,u,n,A⟩|⟨u,n⟩
 ·rw[q]at h;cases h;refine⟨_,u,?_⟩;have:=p m k d (f.mem_iff.1 n) (by rw[y,A]);subst this;rfl
 ·exact absurd y (n m (f.mem_iff.2 k))
 ·exact absurd A (k d (f.mem_iff.1 n))
 ·rw[q]at h;cases h;exact⟨_,u,trivial⟩
def aA2(h:SR P F J w){t:TypeId}{m k v:AV}{x y:Value}{ok:Bool}(c:WH P t m k ok J=some v)(hx:VR F m x)(hy:VR F k y):
 ∃z,(Instr.lookup t x y ok).run P w=.ok z w/\VR F v z:=by
 unfold WH at c;split at c;rotate_left
 ·cases c
 next D et id hu=>
 simp only[VR]at hx;obtain⟨q,hq,rfl⟩:=hx;split at c
 ·next n kk es hn hg=>
  obtain⟨H,g,T,I,g3⟩:=U0 hn hy;obtain⟨q',f,E,L,hb,M,hp⟩:=h.obj _ _ hg rfl;rw[hq]at f;cases f;have N:AX F es E.toList:=⟨by simpa using M,λk e hk=>by obtain⟨m,U,o,A⟩:=hp k e hk;exact⟨m,by simpa using U,o,A⟩⟩
  rw[Ve hu y ok hb];have l:∀b,(Instr.checkKey b 10000 D y).run P w=.ok () w:=λb=>Tj H I g3 b;split at c
  ·next j u V=>
   cases c;obtain⟨W,o,A⟩:=Pe T I g3 V N;cases W with
   |none=>exact A.elim
   |some p=>
    obtain⟨j',z⟩:=p;have d:(Instr.findKey D y E.toList).run P w=.ok (some (j',z)) w:=by simp only[Instr.findKey,aU,aZ H,aT,o,bH]
    refine⟨if ok then .tuple #[z,.bool true]else z,?_,?_⟩
    ·simp only[sQ,aU,aT,l,d,bH]
    ·cases ok
     ·simpa using A
     ·simp only[VR];exact⟨[z,.bool true],rfl,aG.cons A (aG.cons (by simp[VR]) (by simp[aG]))⟩
  ·next V=>
   obtain⟨W,o,A⟩:=Pe T I g3 V N;cases W with
   |some p=>exact A.elim
   |none=>
    have d:(Instr.findKey D y E.toList).run P w=.ok none w:=by simp only[Instr.findKey,aU,aZ H,aT,o,bH]
    obtain⟨a,ha,rfl⟩:=bn.1 c;obtain⟨z,h3,O⟩:=acK (w:=w) (F:=F) ha;refine⟨if ok then .tuple #[z,.bool false]else z,?_,?_⟩
    ·simp only[sQ,aU,aT,l,d,h3,bH]
    ·cases ok
     ·simpa using O
     ·simp only[VR];exact⟨[z,.bool false],rfl,aG.cons O (aG.cons (by simp[VR]) (by simp[aG]))⟩
  ·cases c
 ·next n kk es hn hg=>
  obtain⟨H,g,T,I,g3⟩:=U0 hn hy;obtain⟨q',f,ai,E,L,G,hb,aa,M,hp⟩:=h.obj _ _ hg rfl;rw[hq]at f;cases f;split at c;rotate_left
  ·cases c
  next X=>
  have:=U3 X;subst this;have N:AX F (es.map λe=>(AV.s e.1,e.2)) G:=⟨by simpa using M,λk e hk=>by rw[jf]at hk;obtain⟨e0,O,rfl⟩:=bn.1 hk;obtain⟨m,U,o,A⟩:=hp k e0 O;exact⟨m,U,by simp only[VR];exact o,A⟩⟩
  have R:G.map (·.key)=es.map λe=>Value.string ⟨⟨e.1⟩⟩:=by
   apply Kv;intro k;rw[jf,jf];cases he:es[k]? with
   |none=>
    have:G[k]? =none:=by rw[List.getElem?_eq_none_iff]at he⊢;omega
    rw[this];rfl
   |some e=>obtain⟨m,U,o,_⟩:=hp k e he;rw[U];simp[o]
  have ab:∀m∈G,∃t,m.key=.string t:=λm U=>by have:m.key∈G.map (·.key):=List.mem_map_of_mem U;rw[R]at this;obtain⟨e,_,o⟩:=qK.1 this;exact⟨_,o.symm⟩
  have ac:(G.map (·.key)).Nodup:=by rw[R];have:(es.map λe=>Value.string ⟨⟨e.1⟩⟩)=(es.map (·.1)).map λs=>Value.string ⟨⟨s⟩⟩:=aA;rw[this];refine List.Pairwise.map _ (λa b ak hc=>ak ?_) ai;simpa using hc
  obtain⟨s,al,aw⟩:∃s,y=.string s/\True:=by obtain⟨s0,rfl⟩:=I;simp only[GR]at g3;exact⟨_,g3,trivial⟩
  subst al;rw[Ve hu _ ok hb];have l:∀b,(Instr.checkKey b 10000 D (.string s)).run P w=.ok () w:=λb=>Tj H I g3 b;split at c
  ·next j u V=>
   cases c;obtain⟨W,o,A⟩:=Pe T I g3 V N;cases W with
   |none=>exact A.elim
   |some p=>
    obtain⟨j',z⟩:=p;obtain⟨r2,h3,O⟩:=afM s aa ab ac o;cases r2 with
    |none=>exact O.elim
    |some p2=>
    obtain⟨j2,z2⟩:=p2;have O:z=z2:=O;subst O;have d:(Instr.findKey D (.string s) E.toList).run P w=.ok (some (j2,z)) w:=by simp only[Instr.findKey,aU,aZ H,aT,uP,h3,bH]
    refine⟨if ok then .tuple #[z,.bool true]else z,?_,?_⟩
    ·simp only[sQ,aU,aT,l,d,bH]
    ·cases ok
     ·simpa using A
     ·simp only[VR];exact⟨[z,.bool true],rfl,aG.cons A (aG.cons (by simp[VR]) (by simp[aG]))⟩
  ·next V=>
   obtain⟨W,o,A⟩:=Pe T I g3 V N;cases W with
   |some p=>exact A.elim
   |none=>
    obtain⟨r2,h3,O⟩:=afM s aa ab ac o;cases r2 with
    |some p2=>exact O.elim
    |none=>
    have d:(Instr.findKey D (.string s) E.toList).run P w=.ok none w:=by simp only[Instr.findKey,aU,aZ H,aT,uP,h3,bH]
    obtain⟨a,ha,rfl⟩:=bn.1 c;obtain⟨z,h5,h6⟩:=acK (w:=w) (F:=F) ha;refine⟨if ok then .tuple #[z,.bool false]else z,?_,?_⟩
    ·simp only[sQ,aU,aT,l,d,h5,bH]
    ·cases ok
     ·simpa using h6
     ·simp only[VR];exact⟨[z,.bool false],rfl,aG.cons h6 (aG.cons (by simp[VR]) (by simp[aG]))⟩
  ·cases c
 ·next n kk j Ec sz hn hg=>
  obtain⟨H,g,T,I,g3⟩:=U0 hn hy;obtain⟨q',f,xs,E,L,hv,hb,hp⟩:=h.obj _ _ hg rfl;rw[hq]at f;cases f;rw[Ve hu y ok hb];have l:∀b,(Instr.checkKey b 10000 D y).run P w=.ok () w:=λb=>Tj H I g3 b;split at c;rotate_left
  ·cases c
  next X=>
  have:=U3 X;subst this;split at c;rotate_left
  ·cases c
  next zn ax hz=>
  split at c;rotate_left
  ·cases c
  next M=>
  have:=ace M;subst this;obtain⟨za,am,an⟩:=wJ.1 hz;obtain⟨zv,z1,z2⟩:=acK (w:=w) (F:=F) am;obtain⟨zg,z3,z4,z5,z6⟩:=akp an z2;split at c;rotate_left
  ·cases c
  next u ao=>
  obtain⟨jn,hj,Y⟩:=wJ.1 ao;obtain⟨rg,r1,r2⟩:=gK hj;simp only[Nd.den,z3,hv,T,aY]at r2;have fin:∀(z:Value)(b:Bool),NK sz rg->GR F.ro rg z->(iK g xs).isSome=b->sQ D et y ok E=sQ D et y ok E->(sQ D et y ok E).run P w=.ok (if ok then .tuple #[z,.bool b]else z) w->∃z,(sQ D et y ok E).run P w=.ok z w/\VR F v z:=by
   intro z b ad Z ap _ B;have ae:VR F u z:=by
    obtain⟨r,S,q2⟩:=ab9 (F:=F) r1 Y;cases af:nU P et with
    |none=>rw[af]at z6;exact z6.elim
    |some ag=>
     rw[af]at z6 S;cases ag with
     |true=>obtain⟨kn,k1,k2⟩:=z6;subst k2;obtain⟨cs,rfl,c1,c2⟩:=ad;simp only[k1,GV.cells,arX cs kn c1,gU,aY]at S;subst S;apply q2;simp only[GR]at Z;obtain⟨vs,rfl,aq⟩:=Z;simp only[VR];exact⟨vs,rfl,(oP _ _).1 aq⟩
     |false=>
      simp only at z6;subst z6;have ar:rg.scalar=true:=ad;have hc:rg.cells=[rg]:=by cases rg<;>first|rfl|(simp[GV.scalar]at ar)
      simp only[hc,Pn,kP,gU,aY]at S;subst S;exact q2 _ ((lD _ _).1 Z)
   cases ok with
   |false=>simp only[ig,if_false,aY]at c B;subst c;exact⟨z,B,ae⟩
   |true=>
    simp only[if_true]at c B;split at c
    ·next bb av=>
     cases c;obtain⟨_,gb,_,b2,b3⟩:=mP (F:=F) av;simp only[Nd.den,hv,T,aY]at b2;subst b2;refine⟨_,B,?_⟩;simp only[VR];exact⟨[z,.bool b],rfl,aG.cons ae (aG.cons (b3 _ rfl (by simp only[GR];rw[ap])) (by simp[aG]))⟩
    ·cases c
  rcases Ue (i:=0) I g3 hp with⟨S,q2⟩|⟨u',j',z,S,q2,_,_,q5,q6⟩
  ·have d:(Instr.findKey D y E.toList).run P w=.ok none w:=by simp only[Instr.findKey,aU,aZ H,aT,q2,bH]
   rw[S,um]at r2;subst r2;refine fin zv false z4 z5 (by rw[S];rfl) rfl ?_;simp only[sQ,aU,aT,l,d,z1,bH]
  ·have d:(Instr.findKey D y E.toList).run P w=.ok (some (j',z)) w:=by simp only[Instr.findKey,aU,aZ H,aT,q2,bH]
   rw[S,rD]at r2;subst r2;refine fin z true q5 q6 (by rw[S];rfl) rfl ?_;simp only[sQ,aU,aT,l,d,bH]
 ·cases c
def azM{d:Wf}{g a:GV}{y x:Value}(f:Aj d g)(c:GR F.ro g y)(b:Instr.sameNow (uP d) y x=some true)(n:Nat):Instr.sameBits (n+1) x y=true:=by
 cases d with
 |some k=>
  obtain⟨m,rfl⟩:=f;simp only[GR]at c;subst c;cases x<;>simp only[Instr.sameNow,uP,reduceCtorEq]at b
  split at b
  ·next e=>subst e;simp at b;subst b;simp[Instr.sameBits]
  ·cases b
 |none=>
  obtain⟨m,rfl⟩:=f;simp only[GR]at c;subst c;cases x<;>simp only[Instr.sameNow,uP,reduceCtorEq]at b
  next s=>
  obtain⟨⟨l⟩⟩:=s;rw[H9]at b;simp only[Instr.sameBits,H9];simp_all
def ajT(h:SR P F J w){t:TypeId}{m k v:AV}{x y z:Value}(d:WJ P t m k v J=some J')(hx:VR F m x)(hy:VR F k y)(hz:VR F v z):
 ∃w',(Instr.mapUpdate t x y z).run P w=.ok () w'/\St P F J w F J' w':=by
 unfold WJ at d;split at d;rotate_left
 ·cases d
 next U et id hu=>
 simp only[VR]at hx;obtain⟨q,R,rfl⟩:=hx;split at d;rotate_left
 ·cases d
 next S=>
 have S:=uh S
 have r:∀(o:bG)(n:Nat)(s:Wf)(u:Nat)(A:QR)(j D:Nat)(H:Q1)(c:Array MapEntry)(b:Nat),J.get id=some o->o.own=true->PX P U k=some (n,s)->QO P et v=some (u,A)->
  aJ.val j=some (.l H)->w.heap[q.bl]? =some (.map c b)->rY F.ro s A H c.toList->fK (.Cb j n u)=some D->∃w',(Instr.mapUpdate t (.map (some q.bl)) y z).run P w=.ok () w'/\St P F J w F (J.put id (.smap D s A)) w':=by
  intro o n s u A j D H c b B ho I f V p G L;obtain⟨W,g,g1,M,g3⟩:=U0 I hy;obtain⟨ug,u1,u2,u3,_⟩:=akp f hz;obtain⟨rg,r1,r2⟩:=gK L;simp only[Nd.den,V,g1,u1,aY]at r2;subst r2;have N:=Tj (w:=w) W M g3 false;have O:(getObj q.bl).run P w=.ok (.map c b) w:=by simp[getObj,Sem.run,p]
  rcases Ue (i:=0) M g3 G with⟨q1,T⟩|⟨u',i,zz,q1,T,_,⟨m',q3,q4⟩,q5,q6⟩
  ·have E:(Instr.findKey U y c.toList).run P w=.ok none w:=by simp only[Instr.findKey,aU,aZ W,aT,T,bH]
   refine⟨nK w q.bl (.map (c.push {key:=y,val:=z,born:=b}) (b+1)),?_,St.write h B ho S R Ey (λk X=>Ew X) rfl rfl rfl ?_⟩
   ·simp only[Instr.mapUpdate,aU,aZ hu,aT,O,N,E];exact Nk p aA
   ·refine⟨_,_,b+1,r1,CQ p,?_⟩;rw[Array.toList_push];exact aiQ M u2 g3 u3 G q1
  ·have E:(Instr.findKey U y c.toList).run P w=.ok (some (i,zz)) w:=by simp only[Instr.findKey,aU,aZ W,aT,T,bH]
   rw[Ht,wC]at q3;have ZB:(Instr.keyThatStays (((c[i]?).map (·.key)).getD y) y).run P w=.ok y w:=by rw[q3];simp only[gU,rD,Instr.keyThatStays];rw[au (azM (a:=g) M g3 q4 9999)];rfl
   refine⟨nK w q.bl (.map (c.modify i λe=>{e with key:=y,val:=z}) b),?_,St.write h B ho S R Ey (λk X=>Ew X) rfl rfl rfl ?_⟩
   ·simp only[Instr.mapUpdate,aU,aZ hu,aT,O,N,E,ZB];exact Nk p aA
   ·refine⟨_,_,b,r1,CQ p,?_⟩;rw[Array.toList_modify];have:=aiR (i:=0) M u2 g3 u3 G T;rwa [Ht]at this
 split at d
 ·next n s u A I f B=>
  split at d
  ·next j V=>
   obtain⟨D,L,rfl⟩:=bn.1 d;obtain⟨q',l,c,b,p,Y,G⟩:=h.obj _ _ B rfl;rw[R]at l;cases l;obtain⟨gl,l1,l2⟩:=gK V;simp only[Nd.den,valsOf,gU,aY]at l2;subst l2;refine r _ n s u A j D [] c b B rfl I f l1 p ?_ L;simp only[rY];have:c.size=0:=by simpa using Y
   simpa using acN this
  ·cases d
 ·next n s u A j Ec aa I f B=>
  split at d
  ·next Z=>
   rw[aO]at Z;have e1:=U3 Z.1;have e2:=ace Z.2;subst e1;subst e2;obtain⟨D,L,rfl⟩:=bn.1 d;obtain⟨q',l,H,c,b,hv,p,G⟩:=h.obj _ _ B rfl;rw[R]at l;cases l;exact r _ n s u A j D H c b B rfl I f hv p G L
  ·cases d
 ·cases d
def at7{v:AV}{x:Value}(h:mapArg v=true)(c:VR F v x):∃k n,x=.int k n:=by
 unfold mapArg at h;split at h
 ·next n=>
  split at h
  ·next a d=>
   obtain⟨g,i,b⟩:=aJ.qQ _ _ d aA;simp only[VR]at c;obtain⟨m,e,_,f⟩:=c;rw[i]at e;cases e;simp only[Nd.den]at b;split at b
   ·cases b;simp only[GR]at f;exact⟨_,_,f⟩
   ·cases b
  ·cases h
 ·next j=>
  obtain⟨n,d⟩:=akU.1 h;obtain⟨k,l⟩:=zQ d c;exact⟨k,n,l⟩
def ahd{e:TypeId}{size len m:Nat}{cs:Q3}{vs:Q6}(h:Va P e size len cs=some m)(k:aG F cs vs):0<size/\0<len/\cs.length=len*size/\∃gs,aJ.val m=some (.l gs)/\gs.length=len/\aG F (bP gs) vs/\∀x∈gs,x.cells.length=size/\x.cells.all GV.scalar=true:=by
 unfold Va at h;split at h;rotate_left
 ·cases h
 split at h;rotate_left
 ·cases h
 next c s=>
 split at h;rotate_left
 ·cases h
 next i=>
 simp only[aO,nO,jv]at i;obtain⟨⟨h1,l⟩,b⟩:=i;have b:=bM b;have a:0<size:=by
  rcases h1 with⟨_,h1⟩|h1
  ·exact h1
  ·have:=bM h1;omega
 have d:c=false->size=1:=by
  intro e;rcases h1 with⟨h1,_⟩|h1
  ·rw[e]at h1;cases h1
  ·exact bM h1
 split at h
 ·next t f=>
  obtain⟨gs,n,o,p,_,q⟩:=FP d len f k b;obtain⟨g,r,j⟩:=gK h;simp only[Nd.den,n,gU,aY]at j;subst j;exact⟨a,l,b,gs,r,o,p,q⟩
 ·cases h
def atO{R:Prop}{t e:TypeId}{size bytes len:Nat}{z:Q3}{B:Wm}{qs:Array (Nat×Value)}{cs:Q3}
 (fin:∀(v:AV)(τ:aC),Vb P J e size len cs=(some v,τ)->(∃y w' F',(Instr.buildSlice t len qs).run P w=.ok y w'/\St P F J w F' τ w'/\VR F' v y)->R)
 (h:SR P F J w) (hi:wZ P t=some (e,size,bytes,z)) (d:¬len*size>2^24) (l:Ba (λi=>some (i*size,size)) (if len*size=0 then[]else jC len z) B=some cs) (D:Dq F B qs.toList):R:=by
 unfold Vb at fin;split at fin;rotate_left
 ·exact fin _ _ rfl (alE h hi d l D)
 next m b=>
 refine fin _ _ rfl ?_;obtain⟨L,_,M,N,n,o⟩:=BI hi;obtain⟨Y,O,p⟩:=Gz M;have a:0<size/\0<len:=by
  unfold Va at b;split at b;rotate_left
  ·cases b
  split at b;rotate_left
  ·cases b
  next S Z=>
  split at b;rotate_left
  ·cases b
  next q=>
  simp only[aO,nO,jv]at q;refine⟨?_,q.1.2⟩;rcases q.1.1 with⟨_,h1⟩|h1
  ·exact h1
  ·have:=bM h1;omega
 have E:¬len*size=0:=by have:=Oa a.2 a.1;omega
 simp only[E,if_false]at l;obtain⟨k,T,j⟩:=LC l D (QY (p F) n);have r:=j.length;have s:=DK h (c:=cs) (xs:=k) (elem:=e) (es:=size) (opn:=true) (by rw[r,zL];exact j) (by simpa using KD r) aA (λ_=>⟨N,a.1,o⟩);obtain⟨_,_,u,gs,G,H,_,g4⟩:=ahd b j;have x:k.size=len*size:=by rw[<-u,r];simp
 have g:k.size/size=len:=by rw[x];exact XG _ a.1
 obtain⟨U,V⟩:=St.yF (f:=false) (size:=size) (y:=.slice (some ⟨w.heap.size,0,none⟩) len len) s G g4 o (λvs A=>by
  obtain⟨_,_,_,W,I,_,X,_⟩:=ahd b A;rw[G]at I;cases I;exact X) (by
  simp only[VR];refine⟨⟨w.heap.size,0,k.size,size⟩,by simp[Env.put],?_,?_⟩
  ·simp only[um,Ht];rw[g,H];simp
  ·simp only[um,Ht,g,H,nR]) aA
 refine⟨_,_,_,?_,U,V⟩;simp only[Instr.buildSlice,aU,aZ L,aT,jk o,vF,aj d,E,if_false,O,bH,T,newRow,newObj,Sem.run]
structure TR(P:Program)(F:Env)(a:bF)(A:Act):Prop where
 gn:a.gn=P.globals.size
 size:A.tmps.size=a.n
 none:A.defers=[]
 slot:∀t v,a.t.get t=some v->∃x,A.tmps[t]? =some x/\VR F v x
def TR.mono{F F':Env}{a:bF}{A:Act}(h:TR P F a A)(b:F.le F'):TR P F' a A:=
 ⟨h.gn,h.size,h.none,λt v c=>by obtain⟨x,d,e⟩:=h.slot t v c;exact⟨x,d,VR.mono b _ _ e⟩⟩
def TR.put{a f:bF}{A:Act}{dst:Option Tmp}{r:Q4}{x:Value}(h:TR P F a A)(b:a.put dst r=some f)(g:∀v,r=some v->VR F v x):TR P F f (A.put dst x):=by
 unfold bF.put at b;split at b
 ·cases b;exact h
 ·next d=>
  split at b
  ·next i=>
   cases b;refine⟨h.gn,by simp[Act.put,h.size],h.none,λt v c=>?_⟩;rw[Tr.uN]at c;show ∃y,(A.tmps.setIfInBounds d x)[t]? =some y/\_
   rw[Df];split at c
   ·next e=>
    subst e;rw[au rfl,au (by rw[h.size];exact i)];exact⟨x,rfl,g v c⟩
   ·next e=>rw[aj (λj=>e j.symm)];exact h.slot t v c
  ·cases b
def O7{a:bF}{A:Act}(h:SR P F J w)(d:TR P F a A)(x:Operand)(v:AV)(b:a.eval x=some v):VR F v (A.eval x):=by
 cases x with
 |tmp t=>obtain⟨y,i,j⟩:=d.slot t v b;simp only[Act.eval];rw[zF,i];exact j
 |const c=>exact Ej _ _ _ b
 |global g=>
  simp only[bF.eval]at b;split at b
  ·next e=>
   cases b;rw[d.gn]at e;obtain⟨l,es,k⟩:=h.mJ g (Nat.le_of_lt e);simp only[VR,Act.eval];exact⟨_,k,aA⟩
  ·cases b
 |func f=>simp only[bF.eval,aY]at b;subst b;simp only[VR,Act.eval];exact⟨[],[],rfl,by simp[aG],by simp[aG]⟩
def Ob(P:Program)(F:Env)(J:aC)(w:World)(r:Q4)(J':aC)(s:Sem Next):Prop:=
 ∃a b c,s.run P w=.ok a b/\St P F J w c J' b/\(match r with|some v=>∃x,a=.value x/\VR c v x|none=>a=.skip)
def fD{r:AV}{s:Sem Value}(h:∃y w' F',s.run P w=.ok y w'/\St P F J w F' J' w'/\VR F' r y):Ob P F J w (some r) J' (do pure (.value (<-s))):=by obtain⟨y,w',F',a,b,c⟩:=h;exact⟨.value y,w',F',by simp only[aU,a,aT,bH],b,y,rfl,c⟩
def MF{s:Sem Unit}(h:∃w' F',s.run P w=.ok () w'/\St P F J w F' J' w'):Ob P F J w none J' (do s;pure .skip):=by obtain⟨w',F',a,b⟩:=h;exact⟨.skip,w',F',by simp only[aU,a,aT,bH],b,rfl⟩
def iZ{r:AV}{s:Sem Value}(h:SR P F J w)(a:∃y,s.run P w=.ok y w/\VR F r y):∃y w' F',s.run P w=.ok y w'/\St P F J w F' J w'/\VR F' r y:=by obtain⟨y,b,c⟩:=a;exact⟨y,w,F,b,St.refl h,c⟩
def jO{v:Q4}{r:Q4}(h:dW J v=some (r,J')):∃u,v=some u/\r=some u/\J'=J:=by simp only[dW,bn,oD]at h;obtain⟨u,a,b,c⟩:=h;exact⟨u,a,b.symm,c.symm⟩
def Es{v:Wd}{r:Q4}(h:tJ v=some (r,J')):∃u,v=some (u,J')/\r=some u:=by simp only[tJ,bn,KI,oD]at h;obtain⟨u,s,a,b,c⟩:=h;subst c;exact⟨u,a,b.symm⟩
def abG{v:Option aC}{r:Q4}(h:Nb v=some (r,J')):v=some J'/\r=none:=by simp only[Nb,bn,oD]at h;obtain⟨s,a,b,c⟩:=h;subst c;exact⟨a,b.symm⟩
def alp{c:Value}{t:Bool}(h:VR F (.b t) c):(asBool c).run P w=.ok t w:=by simp only[VR]at h;subst h;rfl
def amf(h:SR P F J w){ts:Wr}{ty t:TypeId}{x v:AV}{u:Value}(j:ts[0]? =some t)(d:XP P t x J=some (v,J'))(i:VR F x u):
 ∃y w' F',(Builtin.clear_ ts ty #[u]).run P w=.ok y w'/\St P F J w F' J' w'/\VR F' v y:=by
 have f:∀F':Env,VR F' (.dU []) (.tuple #[]):=λF'=>by simp only[VR];exact⟨[],rfl,by simp[aG]⟩
 unfold XP at d;split at d
 ·next e b=>
  cases d;simp only[VR]at i;subst i;exact⟨_,w,F,by simp only[Builtin.clear_,j,EY,kP,aU,aZ b,aT,bH],St.refl h,f _⟩
 ·next e b=>
  cases d;simp only[VR]at i;rcases i with⟨_,S,rfl⟩|⟨bl,G,c,xs,sz,rfl,_⟩
  ·exact⟨_,w,F,by cases S<;>simp only[Builtin.clear_,j,EY,kP,aU,aZ b,aT,bH],St.refl h,f _⟩
  ·exact⟨_,w,F,by simp only[Builtin.clear_,j,EY,kP,aU,aZ b,aT,bH,mZ],St.refl h,f _⟩
 ·next e id G n T b=>
  simp only[VR]at i;obtain⟨q,D,_,rfl⟩:=i;split at d
  ·next O=>
   cases d;subst O;exact⟨_,w,F,by simp only[Builtin.clear_,j,EY,kP,aU,aZ b,aT,bH],St.refl h,f _⟩
  ·next O=>
   split at d
   ·next z c et U V E=>
    split at d
    ·next R=>
     simp only[bn]at d;obtain⟨c',W,X⟩:=d;cases X;obtain⟨H,Y,o⟩:=Gz V;have I:=QY (n:=n) (size:=z.length) (o F) rfl;have p:=(o F).length;have r:(jC n z).all AV.nT=true:=by rw[List.all_eq_true];intro a s;unfold jC at s;simp only[List.mem_flatten,adl]at s;obtain⟨l,⟨_,rfl⟩,s⟩:=s;exact List.all_eq_true.1 R.2 a s
     obtain⟨w',A,L⟩:=Xi h E R.1 D W I r;refine⟨_,w',F,?_,L,f _⟩;have M:(Builtin.zeroCells H.cells n)=(Array.range (n*z.length)).map (H.cells[· % H.cells.size]!):=by unfold Builtin.zeroCells;rw[p];simp
     obtain⟨m,rfl⟩:∃m,n=m+1:=⟨n-1,ah⟩
     simp only[Builtin.clear_,j,EY,kP,aU,aZ b,aT,Y];rw[M,A];rfl
    ·cases d
   ·cases d
 ·next k e b=>
  cases d;simp only[VR]at i;subst i;exact⟨_,w,F,by simp only[Builtin.clear_,j,EY,kP,aU,aZ b,aT,bH],St.refl h,f _⟩
 ·next k e id b=>
  split at d
  ·next es E=>
   split at d
   ·next Z=>
    cases d;simp only[VR]at i;obtain⟨q,D,rfl⟩:=i;obtain⟨q',B,ms,g,N,aa,_⟩:=h.obj _ _ E rfl;rw[D]at B;cases B;refine⟨.tuple #[],nK w q.bl (.map #[] g),F,?_,St.write h E rfl Z D Ey (λk hk=>Ew hk) rfl rfl rfl ⟨#[],g,CQ N,rfl,aA⟩,f _⟩;simp only[Builtin.clear_,j,EY,kP,aU,aZ b,aT,getObj,Sem.run,N,Nk N (λ_ _ _=>aA),bH]
   ·cases d
  ·cases d
 ·cases d
def alG(h:SR P F J w){b:Builtin}{ts:Wr}{ty:TypeId}{cs:Array Bool}{args:Q3}{vs:Q6}{r:Q4}(d:Hz P b ts args J=some (r,J'))(j:aG F args vs):
 Ob P F J w r J' (builtin b ts ty cs ⟨vs⟩):=by
 unfold Hz at d;split at d
 ·next x=>
  simp only[aG]at j;obtain⟨u,_,rfl,f,rfl⟩:=j;split at d
  ·next t o=>
   obtain⟨v,g,rfl,rfl⟩:=jO d;exact fD (iZ h (ahb h o g f))
  ·cases d
 ·next s x=>
  simp only[aG]at j;obtain⟨u,_,rfl,f,p,_,rfl,i,rfl⟩:=j;obtain⟨v,g,rfl⟩:=Es d;exact fD (alk h g f i)
 ·next s x=>
  simp only[aG]at j;obtain⟨u,_,rfl,f,p,_,rfl,i,rfl⟩:=j;obtain⟨v,g,rfl⟩:=Es d;exact fD (amS h g f i)
 ·next x=>
  simp only[aG]at j;obtain⟨u,_,rfl,f,rfl⟩:=j;split at d
  ·next t o=>
   obtain⟨v,g,rfl⟩:=Es d;exact fD (amf h o g f)
  ·cases d
 ·next x=>
  simp only[aG]at j;obtain⟨u,_,rfl,f,rfl⟩:=j;split at d
  ·next t o=>
   split at d
   ·next e l=>
    obtain⟨v,g,rfl,rfl⟩:=jO d;cases g;simp only[VR]at f;subst f;exact fD (iZ h ⟨.int .i64 0,by simp[Builtin.cap_,o,aZ l,goInt],by simp[VR]⟩)
   ·next e id A n c l=>
    obtain⟨v,g,rfl,rfl⟩:=jO d;cases g;simp only[VR]at f;obtain⟨q,B,_,rfl⟩:=f;exact fD (iZ h ⟨.int .i64 c,by simp[Builtin.cap_,o,aZ l,goInt],by simp[VR]⟩)
   ·cases d
  ·cases d
 ·simp only[aG]at j;obtain⟨u,_,rfl,f,rfl⟩:=j;obtain⟨v,g,rfl,rfl⟩:=jO d;cases g;simp only[VR]at f;subst f;exact fD (iZ h ⟨_,ajz,by simp only[VR]⟩)
 ·next id A n H=>
  split at d
  ·cases d
  ·next G=>
   simp only[aG]at j;obtain⟨u,_,rfl,f,rfl⟩:=j;obtain⟨v,g,rfl,rfl⟩:=jO d;cases g;simp only[VR]at f;obtain⟨q,B,I,rfl⟩:=f;refine fD (iZ h ⟨_,ajA ?_,by simp only[VR];exact⟨q,B,rfl⟩⟩);intro e;rw[e]at I;have S:n=0:=ah;subst S;cases H with
   |none=>exact G ⟨rfl,.inl rfl⟩
   |some c=>simp only[rD]at e;subst e;exact G ⟨rfl,.inr rfl⟩
 ·next x n=>
  simp only[aG]at j;obtain⟨u,_,rfl,f,p,_,rfl,i,rfl⟩:=j;simp only[VR]at i;subst i;split at d
  ·next t O L=>
   have:=Sz L;subst this;split at d
   ·next T=>
    subst T;split at d
    ·obtain⟨v,g,rfl,rfl⟩:=jO d;cases g;simp only[VR]at f;subst f;exact fD (iZ h ⟨_,acv,by simp only[VR]⟩)
    ·obtain⟨v,g,rfl,rfl⟩:=jO d;cases g;simp only[VR]at f;obtain⟨q,B,rfl⟩:=f;exact fD (iZ h ⟨_,acv,by simp only[VR]⟩)
    ·cases d
   ·split at d
    ·next id A=>
     split at d
     ·next e c et U M V=>
      split at d
      ·next G=>
       obtain⟨rfl,W,X,Y,Z,c5⟩:=G;split at d
       ·next r' hr=>
        split at d
        ·next b hb=>
         cases d;simp only[VR]at f;obtain⟨q,B,rfl⟩:=f;obtain⟨y,w',g,m,k⟩:=akm (it:=O) (ty:=ty) h M V W X Y Z c5 hr hb B;exact fD ⟨y,w',F,g,m,k⟩
        ·cases d
       ·cases d
      ·cases d
     ·cases d
    ·cases d
  ·cases d
 ·next x y=>
  simp only[aG]at j;obtain⟨u,_,rfl,f,p,_,rfl,i,rfl⟩:=j;split at d
  ·next a R g m=>
   obtain⟨v,k,rfl,rfl⟩:=jO d;simp only[wJ]at k;obtain⟨z,D,E⟩:=k;rw[CP g f,CP m i];exact fD (iZ h ⟨z,CJ D w,Ej _ _ _ E⟩)
  ·cases d
 ·next x y=>
  simp only[aG]at j;obtain⟨u,_,rfl,f,p,_,rfl,i,rfl⟩:=j;split at d
  ·next a R g m=>
   obtain⟨v,k,rfl,rfl⟩:=jO d;simp only[wJ]at k;obtain⟨z,D,E⟩:=k;rw[CP g f,CP m i];exact fD (iZ h ⟨z,CJ D w,Ej _ _ _ E⟩)
  ·cases d
 ·next x y z=>
  simp only[aG]at j;obtain⟨u,_,rfl,f,p,_,rfl,i,aa,_,rfl,N,rfl⟩:=j;split at d
  ·next a R ab g m h4=>
   obtain⟨v,k,rfl,rfl⟩:=jO d;simp only[wJ]at k;obtain⟨z,D,E⟩:=k;rw[CP g f,CP m i,CP h4 N];exact fD (iZ h ⟨z,CJ D w,Ej _ _ _ E⟩)
  ·cases d
 ·cases d
def aBF{a it ty:TypeId}(p:Xs):(Builtin.unsafeString_ #[a,it] ty #[.pointer p,.int .i64 0]).run P w=.ok (.string ⟨⟨[]⟩⟩) w:=acv
def aAV(h:SR P F J w){b:Builtin}{ts:Wr}{ty:TypeId}{cs:Array Bool}{args:Q3}{vs:Q6}{r:Q4}(c:JL P b ts args J=some (r,J'))(l:aG F args vs):
 Ob P F J w r J' (builtin b ts ty cs ⟨vs⟩):=by
 unfold JL at c;have mm:∀(I:Bool){x y:AV}{m n:Nat}{v:AV}{u L:Value},iY x=some m->iY y=some n->kL (.mm I m n)=some v->VR F x u->VR F y L->∃k a M,u=.int k a/\L=.int k M/\VR F v (.int k (if I then(if a<M then M else a)else(if M<a then M else a))):=by
  intro I x y m n v u L D N aa z d;obtain⟨g1,a1,a2,a3⟩:=lN D z;obtain⟨g2,b1,O,b3⟩:=lN N d;obtain⟨_,g,_,E,c3⟩:=mP (F:=F) aa;simp only[Nd.den,a1,b1]at E;split at E
  ·next k i k' j T e2=>
   cases T;cases e2;split at E
   ·next G=>
    subst G;cases E;simp only[GR]at a3 b3;exact⟨k,i,j,a3,b3,c3 _ rfl (by simp only[GR])⟩
   ·cases E
  ·cases E
 split at c
 ·next x=>
  simp only[aG]at l;obtain⟨u,_,rfl,z,rfl⟩:=l;split at c
  ·next t ht=>
   obtain⟨v,R,e⟩:=bn.1 c;cases e;exact fD (iZ h (aA0 ht R z))
  ·cases c
 ·next s x=>
  simp only[aG]at l;obtain⟨u,_,rfl,z,L,_,rfl,d,rfl⟩:=l;obtain⟨v,R,e⟩:=bn.1 c;cases e;exact fD (aAT h R z d)
 ·next x y=>
  simp only[aG]at l;obtain⟨u,_,rfl,z,L,_,rfl,d,rfl⟩:=l;split at c
  ·next m n D N=>
   obtain⟨v,R,e⟩:=bn.1 c;cases e;obtain⟨k,a,M,rfl,rfl,h2⟩:=mm false D N R z d;refine fD (iZ h ⟨_,?_,h2⟩);simp[Builtin.min_,Builtin.min2]
  ·cases c
 ·next x y=>
  simp only[aG]at l;obtain⟨u,_,rfl,z,L,_,rfl,d,rfl⟩:=l;split at c
  ·next m n D N=>
   obtain⟨v,R,e⟩:=bn.1 c;cases e;obtain⟨k,a,M,rfl,rfl,h2⟩:=mm true D N R z d;refine fD (iZ h ⟨_,?_,h2⟩);simp[Builtin.max_,Builtin.max2]
  ·cases c
 ·next id n=>
  split at c
  ·next m et Z=>
   split at c
   ·next B=>
    cases c;simp only[aG]at l;obtain⟨u,_,rfl,z,rfl⟩:=l;simp only[VR]at z;obtain⟨A,k1,z⟩:=z;rcases z with⟨q,U,an,rfl⟩|⟨ao,rfl,rfl⟩
    ·have V:=h.at Z U;have H:=V.Xb;obtain⟨_,_,_,_,ab,_⟩:=V.MC;have W:q.sz/q.es≠0:=by have:=Nat.div_pos H ab;omega
     exact fD (iZ h ⟨_,ajA W,by simp only[VR];exact⟨A,_,k1,rfl,λ_=>⟨q,U,rfl⟩⟩⟩)
    ·exact fD (iZ h ⟨_,ajz,by simp only[VR];exact⟨[],_,k1,rfl,λN=>absurd rfl N⟩⟩)
   ·cases c
  ·cases c
 ·next id n k=>
  split at c
  ·next t it ac=>
   have:=Sz ac;subst this;split at c
   ·next e m et f ad Z=>
    split at c
    ·next hc=>
     obtain⟨rfl,c1,E,c3⟩:=hc;split at c
     ·next n' G=>
      split at c
      ·next B=>
       rw[aO]at B;obtain⟨v,D,e⟩:=bn.1 c;cases e;simp only[aG]at l;obtain⟨u,_,rfl,z,L,_,rfl,d,rfl⟩:=l;simp only[VR]at z d;obtain⟨ys,p,k1,rfl,hp⟩:=z;obtain⟨gk,j1,_,j3⟩:=d;obtain⟨ap,j4,j5⟩:=aJ.qQ k _ G aA;rw[j1]at j4;cases j4;obtain⟨nn,gs,b1,O,b3⟩:=mP (F:=F) D;simp only[Nd.den]at O;split at O
       ·next A l=>
        split at O
        ·next ae=>
         obtain⟨b,hb,rfl⟩:=bn.1 O;simp only[Nd.den]at j5;split at j5
         ·next zs hz=>
          cases j5;have X:=zk 100 B.1 l k1;have Y:=zk 100 B.2 l hz;simp only[GR]at j3;subst j3;have fin:∀{F':Env}(y:Value),VR F' (.s b) y->VR F' v y:=by intro F' y hy;obtain⟨_,g2,_,d2,d3⟩:=mP (F:=F') D;simp only[Nd.den,l,au ae,hb,gU,aY]at d2;subst d2;exact d3 y rfl ((lD _ _).2 hy)
          by_cases S:A=[]
          ·subst S;have af:zs.length=0:=Y.symm;have ag:b=[]:=by simpa[mg]using hb.symm
           subst ag;rw[af];refine fD ⟨.string ⟨⟨[]⟩⟩,w,F,aBF p,(St.refl h).U2 id,fin _ (by simp only[VR])⟩
          ·have ai:ys≠[]:=by intro e;rw[e]at X;exact S (jR X)
           obtain⟨q,U,rfl⟩:=hp ai;obtain⟨aq,i1,i2,i3,i4,i5,i6,i7,hS⟩:=NJ h Z U;rw[l]at i1;cases i1;have ak:bP A=dO A:=by unfold bP;rw[SH hb]
           have H:0<A.length:=Kw.2 S;have al:takeN (bP A) 0 ((A.length:Nat):Int).toNat=some (dO A):=by rw[ak];unfold takeN;rw[dD,kQ (by rw[lV];simp),au (by rw[lV];simp)]
           have am:A.length<2^62:=ah;obtain⟨y,w',r1,r2,r3⟩:=akm (it:=it) (ty:=ty) (off:=0) (n:=A.length) hS ad ER c1 E ah ah c3 al (OD hb) U;rw[<-Y];refine fD ⟨y,w',F,by simpa using r1,?_,fin _ r3⟩;refine((QM Z r2).U2 id).sub (λk o G=>?_) (cO _) rfl;rw[aC.yT]at G⊢;split at G
           ·cases G
           ·next T=>
            rw[aj T];unfold kV;rw[aC.get_put,aj T,aC.get_put,aj T];exact G
         ·cases j5
        ·cases O
       ·cases O
      ·cases c
     ·cases c
    ·cases c
   ·cases c
  ·cases c
 ·cases c
def lC(P:Program)(f:FuncId)(args:QQ)(w:World)(R:Value->World->Prop):Prop:=
 (∃v a,(callFunc f args).run P w=.ok (.value v) a/\R v a)\/
 ((callFunc f args).run P w=.ok (.enter f args) w/\Calls P f args w λe a=>∃v,e=.returned v/\R v a)
def qV(P:Program)(call:Caller):Prop:=∀f args J r J',call f args J=some (r,J')->∀F w a,SR P F J w->aG F args a->
 lC P f ⟨a⟩ w λv c=>∃b,St P F J w b J' c/\VR b r v
def F8:Op->Bool
 |.call {callee:=.value _,..}=>true
 |.call {callee:=.invoke _ _,..}=>true
 |_=>false
def atY{f:FuncId}{first a:Q3}{b vs:Q6}(h1:aG F first b)(c:aG F a vs):∃y,(Instr.makeFunc (.func f) ⟨b⟩ ⟨vs⟩).run P w=.ok y w/\VR F (.fn f first a) y:=
 ⟨_,rfl,by simp only[VR];exact⟨b,vs,rfl,h1,c⟩⟩
def MG{b:QP}{U:Operand->Value}(c:∀x a,b x=some a->VR F a (U x)){o:Option Operand}{r:Q4}(h:Jv b o=some r):lF F r (o.map U):=by
 cases o with
 |none=>simp[Jv]at h;subst h;trivial
 |some x=>simp only[Jv,bn]at h;obtain⟨a,d,rfl⟩:=h;exact c _ _ d
def I8{α β:Type}(a:Array α)(f:α->β):a.map f=⟨a.toList.map f⟩:=by apply NS;simp
set_option maxHeartbeats 1000000 in
def ah2(h:SR P F J w){call:Caller}{o:Oper}{ev:QP}{U:Operand->Value}(j:∀x a,ev x=some a->VR F a (U x))(hc:F8 o.op=false){r:Q4}
 (d:vH P call o ev J=some (r,J')):Ob P F J w r J' (execOp U o):=by
 unfold vH at d;unfold execOp;split at d
 ·next x p=>rw[p];obtain⟨v,h1,rfl,rfl⟩:=jO d;exact⟨_,w,F,rfl,St.refl h,_,rfl,j _ _ h1⟩
 ·next x p=>rw[p];obtain⟨v,h1,rfl,rfl⟩:=jO d;exact⟨_,w,F,rfl,St.refl h,_,rfl,j _ _ h1⟩
 ·next c a b p=>
  rw[p];split at d
  ·next t T=>
   obtain⟨vd,ai,T⟩:=Iw T;obtain⟨v,h1,rfl,rfl⟩:=jO d;refine⟨.value (if t then U a else U b),w,F,?_,St.refl h,_,rfl,?_⟩
   ·simp only[aU,alp (T _ _ (j _ _ ai)),aT,bH]
   ·cases t
    ·exact j _ _ h1
    ·exact j _ _ h1
  ·cases d
 ·next t p=>
  rw[p];simp only[bn]at d;obtain⟨z,hz,e⟩:=d;cases e;exact fD (alf h hz)
 ·next t x p=>
  rw[p];simp only[bn]at d;obtain⟨z,hz,e⟩:=d;cases e;exact fD (ad8 h (j _ _ hz))
 ·next t M p=>
  rw[p];split at d
  ·next ps V=>
   obtain⟨v,h1,rfl,rfl⟩:=jO d;exact fD (iZ h (alF h1 (by rw[I8];exact YQ j V)))
  ·cases d
 ·next t len M p=>
  rw[p];split at d
  ·next e an bytes z ps hi V=>
   split at d
   ·cases d
   ·next ac=>
    split at d
    ·next cs W=>
     have e1:=Hu d;refine atO (t:=t) (qs:=M.map λ(i,x)=>(i,U x)) (λv τ e2 hr=>?_) h hi ac W (by rw[I8];exact YQ j V);rw[e2]at e1;cases e1;exact fD hr
    ·cases d
  ·cases d
 ·next t a p=>
  rw[p];split at d
  ·next av N=>
   obtain⟨v,h1,rfl,rfl⟩:=jO d;rcases vW h1 with h1|h1
   ·exact fD (iZ h (Gh h h1 (j _ _ N)))
   ·exact fD (iZ h (aA1 h h1 (j _ _ N)))
  ·cases d
 ·next t a x p=>
  rw[p];split at d
  ·next av xv N B=>
   obtain⟨h1,rfl⟩:=abG d;rcases vW h1 with h1|h1
   ·obtain⟨H,I,L⟩:=Wv h h1 (j _ _ N) (j _ _ B);exact MF ⟨H,F,I,L⟩
   ·obtain⟨H,I,L⟩:=aA5 h h1 (j _ _ N) (j _ _ B);exact MF ⟨H,F,I,L⟩
  ·cases d
 ·next x p=>
  rw[p];split at d
  ·next id X B=>
   obtain⟨v,h1,rfl,rfl⟩:=jO d;cases h1;have D:=j _ _ B;simp only[VR]at D;obtain⟨q,hq,D⟩:=D;exact⟨.value (U x),w,F,by simp only[D];rfl,St.refl h,_,rfl,j _ _ B⟩
  ·next b X B=>
   obtain⟨v,h1,rfl,rfl⟩:=jO d;cases h1;have D:=j _ _ B;simp only[VR]at D;obtain⟨bl,base,cs,ad,fr,y,_,_,D,_⟩:=D;exact⟨.value (U x),w,F,by simp only[D];rfl,St.refl h,_,rfl,j _ _ B⟩
  ·next m X B=>
   obtain⟨v,h1,rfl,rfl⟩:=jO d;cases h1;have D:=j _ _ B;simp only[VR]at D;obtain⟨g,bl,base,cs,ad,fr,y,_,_,_,D,_⟩:=D;exact⟨.value (U x),w,F,by simp only[D];rfl,St.refl h,_,rfl,j _ _ B⟩
  ·next id m X B=>
   obtain⟨v,h1,rfl,rfl⟩:=jO d;cases h1;have D:=j _ _ B;simp only[VR]at D;obtain⟨q,kk,i,_,_,D⟩:=D;exact⟨.value (U x),w,F,by simp only[D];rfl,St.refl h,_,rfl,j _ _ B⟩
  ·next f fs cs B=>
   obtain⟨v,h1,rfl,rfl⟩:=jO d;cases h1;have D:=j _ _ B;simp only[VR]at D;obtain⟨us,vs,D,_⟩:=D;exact⟨.value (U x),w,F,by simp only[D];rfl,St.refl h,_,rfl,j _ _ B⟩
  ·cases d
 ·next op t x y _ p=>
  rw[p];split at d
  ·next a b A E=>
   obtain⟨v,h1,rfl,rfl⟩:=jO d;rcases vW h1 with h1|h1
   ·exact fD (iZ h (alB h h1 (j _ _ A) (j _ _ E)))
   ·exact fD (iZ h (aAU h1 (j _ _ A) (j _ _ E)))
  ·cases d
 ·next op t x p=>
  rw[p];split at d
  ·next a A=>
   split at d
   ·next u R=>
    obtain⟨v,h1,rfl,rfl⟩:=jO d;simp only[wJ]at h1;obtain⟨z,hz,xu⟩:=h1;have ae:(Op.unary op (U x)).run P w=.ok z w:=by rw[CP R (j _ _ A)];exact CJ hz w
    exact fD (iZ h ⟨z,ae,Ej _ _ _ xu⟩)
   ·obtain⟨v,h1,rfl,rfl⟩:=jO d;exact fD (iZ h (aA6 h1 (j _ _ A)))
  ·cases d
 ·next src aq x p=>
  rw[p];split at d
  ·next a A=>
   obtain⟨v,h1,rfl⟩:=Es d;rcases vW h1 with h1|h1
   ·exact fD (OX h h1 (j _ _ A))
   ·exact fD (aAW h h1 (j _ _ A))
  ·cases d
 ·next t x p=>
  rw[p];split at d
  ·next a A hi=>
   obtain⟨v,h1,rfl,rfl⟩:=jO d;cases h1;exact fD (iZ h (atZ hi (j _ _ A)))
  ·cases d
 ·next f first ao p=>
  rw[p];split at d
  ·next fs cs ak al=>
   obtain⟨v,h1,rfl,rfl⟩:=jO d;cases h1;simp only[I8];exact fD (iZ h (atY (Lr j ak) (Lr j al)))
  ·cases d
 ·next t r' p=>
  rw[p];split at d
  ·cases d;exact fD (ahw h (.inl rfl))
  ·next x=>
   split at d
   ·next a kt et A R=>
    split at d
    ·next hm=>
     cases d;obtain⟨k,n,Y⟩:=at7 hm (j _ _ A);exact fD (ahw h (.inr ⟨k,n,kt,et,by simp[Y],R⟩))
    ·cases d
   ·cases d
 ·next t l c p=>
  rw[p];split at d
  ·next a b A E=>
   obtain⟨v,h1,rfl⟩:=Es d;rcases vW h1 with h1|h1
   ·exact fD (at1 h h1 (j _ _ A) (j _ _ E))
   ·exact fD (aA3 h h1 (j _ _ A) (j _ _ E))
  ·cases d
 ·next t x lo hi p=>
  rw[p];split at d
  ·next a ar aw A Z aa=>
   rcases vW d with d|d
   ·obtain⟨v,h1,rfl,rfl⟩:=jO d;rcases vW h1 with h1|h1
    ·exact fD (iZ h (Wl h h1 (j _ _ A) (MG j Z) (MG j aa)))
    ·exact fD (iZ h (ajU h h1 (j _ _ A) (MG j Z) (MG j aa)))
   ·obtain⟨v,h1,rfl⟩:=Es d;exact fD (aA4 h h1 (j _ _ A) (MG j Z) (MG j aa))
  ·cases d
 ·next t x f p=>
  rw[p];split at d
  ·next a A=>
   obtain⟨v,h1,rfl,rfl⟩:=jO d;rcases vW h1 with h1|h1
   ·exact fD (iZ h (aqI h1 (j _ _ A)))
   ·exact fD (iZ h (aAX h1 (j _ _ A)))
  ·cases d
 ·next t x f p=>
  rw[p];split at d
  ·next a A=>
   obtain⟨v,h1,rfl,rfl⟩:=jO d;exact fD (iZ h (aqJ h1 (j _ _ A)))
  ·cases d
 ·next t x ix p=>
  rw[p];split at d
  ·next a k A Y=>
   obtain⟨v,h1,rfl,rfl⟩:=jO d;rcases vW h1 with h1|h1
   ·exact fD (iZ h (PV h1 (j _ _ A) (j _ _ Y)))
   ·exact fD (iZ h (aAY h h1 (j _ _ A) (j _ _ Y)))
  ·cases d
 ·next t x ix p=>
  rw[p];split at d
  ·next a k A Y=>
   obtain⟨v,h1,rfl,rfl⟩:=jO d;rcases vW h1 with h1|h1
   ·exact fD (iZ h (ZI h1 (j _ _ A) (j _ _ Y)))
   ·exact fD (iZ h (aAZ h1 (j _ _ A) (j _ _ Y)))
  ·cases d
 ·next t m k ok p=>
  rw[p];split at d
  ·next a b A E=>
   obtain⟨v,h1,rfl,rfl⟩:=jO d;rcases vW h1 with h1|h1
   ·exact fD (iZ h (atP h h1 (j _ _ A) (j _ _ E)))
   ·exact fD (iZ h (aA2 h h1 (j _ _ A) (j _ _ E)))
  ·cases d
 ·next t m k x p=>
  rw[p];split at d
  ·next a b c A E O=>
   obtain⟨h1,rfl⟩:=abG d;rcases vW h1 with h1|h1
   ·obtain⟨H,I,L⟩:=ahy h h1 (j _ _ A) (j _ _ E) (j _ _ O);exact MF ⟨H,F,I,L⟩
   ·obtain⟨H,I,L⟩:=ajT h h1 (j _ _ A) (j _ _ E) (j _ _ O);exact MF ⟨H,F,I,L⟩
  ·cases d
 ·next t m k x p=>
  rw[p];split at d
  ·next a b c A E O=>
   obtain⟨h1,rfl⟩:=abG d;rcases vW h1 with h1|h1
   ·obtain⟨H,I,L⟩:=ahy h h1 (j _ _ A) (j _ _ E) (j _ _ O);exact MF ⟨H,F,I,L⟩
   ·obtain⟨H,I,L⟩:=ajT h h1 (j _ _ A) (j _ _ E) (j _ _ O);exact MF ⟨H,F,I,L⟩
  ·cases d
 ·next t x p=>
  rw[p];split at d
  ·next s R hx=>
   cases d;have D:=j _ _ hx;simp only[VR]at D;simp only[D];exact fD (axr h R)
  ·next k e R hx=>
   cases d;have D:=j _ _ hx;simp only[VR]at D;simp only[D];exact fD (axp h R)
  ·next k e id R hx=>
   split at d
   ·next es hg=>
    cases d;exact fD (axq h R hg (j _ _ hx))
   ·cases d
  ·cases d
 ·next it p=>
  rw[p];split at d
  ·next a A=>
   obtain⟨v,h1,rfl⟩:=Es d;obtain⟨y,H,I,L,h4⟩:=avf (ty:=o.type) h h1 (j _ _ A);exact fD ⟨y,H,F,I,L,h4⟩
  ·cases d
 ·next it p=>
  rw[p];have af:VR F (.dU [.b false]) (.tuple #[.bool false]):=by simp only[VR];exact⟨[_],rfl,aG.cons (by simp only[VR]) (by simp[aG])⟩
  split at d
  ·next id A=>
   split at d
   ·next hg=>
    cases d;exact fD (iZ h ⟨_,avd (ty:=o.type) h hg (j _ _ A),af⟩)
   ·next m hg=>
    split at d
    ·next hm=>
     cases d;exact fD (iZ h ⟨_,ave (ty:=o.type) h hg hm (j _ _ A),af⟩)
    ·cases d
   ·cases d
  ·cases d
 ·next x xt t ok p=>
  rw[p];split at d
  ·next a A=>
   obtain⟨v,h1,rfl,rfl⟩:=jO d;exact fD (iZ h (aBx h1 (j _ _ A)))
  ·cases d
 ·next x k p=>
  rw[p];split at d
  ·next l A=>
   obtain⟨v,h1,rfl,rfl⟩:=jO d;exact fD (iZ h (ap4 h1 (j _ _ A)))
  ·cases d
 ·next c p=>
  rw[p];split at d
  ·next args ab=>
   split at d
   ·next b E=>
    have D:=Lr j ab;have d:Hz P b c.argTypes args J=some (r,J')\/JL P b c.argTypes args J=some (r,J'):=by
     cases ag:ab7 b args with
     |true=>rw[ag,cond_true]at d;exact(vW d).symm
     |false=>rw[ag,cond_false]at d;exact vW d
    rcases d with d|d
    ·have G:=alG (cs:=c.args.map fun|.const _=>true|_=>false) (ty:=o.type) h d D;simp only[resolve,E,I8,pure_bind,invoke];rw[I8]at G;exact G
    ·have G:=aAV (cs:=c.args.map fun|.const _=>true|_=>false) (ty:=o.type) h d D;simp only[resolve,E,I8,pure_bind,invoke];rw[I8]at G;exact G
   ·next f W=>
    rw[p]at hc;exfalso;obtain⟨S,args,am⟩:=c;simp only at W;subst W;simp[F8]at hc
   ·next f ap W=>
    rw[p]at hc;exfalso;obtain⟨S,args,am⟩:=c;simp only at W;subst W;simp[F8]at hc
  ·cases d
 ·cases d
def aeS(r:Value)(l:Q6):(#[r]++(⟨l⟩:QQ))=⟨r::l⟩:=by apply NS;simp
def as8(a:String)(r:Value)(l:Q6):invoke (.fn (.method a) #[]) (#[r]++(⟨l⟩:QQ))=callMethod r a ⟨l⟩:=by
 rw[aeS];have b:(⟨r::l⟩:QQ)[0]? =some r:=aA;have c:(⟨r::l⟩:QQ).extract 1 (⟨r::l⟩:QQ).size=⟨l⟩:=by apply NS;simp
 have:invoke (.fn (.method a) #[]) (⟨r::l⟩:QQ)=(do
  let some recv:=(⟨r::l⟩:QQ)[0]? |stuck "call: a method without a receiver"
  callMethod recv a ((⟨r::l⟩:QQ).extract 1 (⟨r::l⟩:QQ).size)):=rfl
 rw[this,b,c]
def aun(h:SR P F J w){b:String}{a A:AV}{f:FuncId}{x:Value}(c:RQ P b J a=some (f,A))(B:VR F a x)(args:QQ):
 ∃y,(callMethod x b args).run P w=(callFunc f (#[y]++args)).run P w/\VR F A y:=by
 unfold RQ at c;split at c
 ·next t v=>
  simp only[VR]at B;obtain⟨k,rfl,l⟩:=B;split at c
  ·next i d hi o=>
   split at c
   ·next m G=>
    split at c
    ·next D p E H=>
     have r:∀y,(receiverAt t (.val k) p (some ((b.splitOn ".").getLastD b))).run P w=.ok y w->
      (callMethod (.iface t k) b args).run P w=(callFunc D (#[y]++args)).run P w:=by
      intro y I;have s:m.path.isEmpty=true:=by simpa using E
      have:∀n:Nat,(method (n+1) t k b).run P w=.ok (D,y) w:=by intro n;simp only[method,aU,Gy hi,aT,G,E,follow,bH,H,s,if_true,I]
      simp only[callMethod,aU,program,Sem.run,aT];rw[show P.types.size+Made.depth=(P.types.size+Made.depth-1)+1 by simp[Made.depth],this];rfl
     split at c
     ·next e=>
      cases c;exact⟨k,r _ (by simp only[receiverAt,aU,aZ o,aT,Go.Place.get,bH]),l⟩
     ·next e=>
      split at c
      ·next id g=>
       simp only[bn,oD]at c;obtain⟨z,L,rfl,rfl⟩:=c;obtain⟨y,M,N⟩:=Gh h L l;simp only[VR]at l;obtain⟨q,R,rfl⟩:=l;refine⟨y,r _ ?_,N⟩;have u:(loadVar e ⟨q.bl,q.ba+g,none⟩).run P w=.ok y w:=by simpa[Instr.loadAt,Instr.sureAddr]using M
       have j:∀O:String,(Builtin.ssaWrapNilChk_ #[t] t #[.pointer (some ⟨q.bl,q.ba+g,none⟩),strVal "",strVal O]).run P w=.ok (.pointer (some ⟨q.bl,q.ba+g,none⟩)) w:=λ_=>rfl;have has:(asAddr (.pointer (some ⟨q.bl,q.ba+g,none⟩))).run P w=.ok ⟨q.bl,q.ba+g,none⟩ w:=rfl;simp only[receiverAt,aU,aZ o,aT,Go.Place.get,bH,j,has,u]
      ·cases c
     ·cases c
     ·next S T U=>
      cases c;refine⟨k,r _ ?_,l⟩;simp only[receiverAt,aU,aZ o,aT];cases d<;>simp only[Go.Place.get,bH]
      all_goals simp_all
    ·cases c
   ·cases c
  ·cases c
 ·cases c
def aen(h:SR P F J w){call:Caller}(j:qV P call){o:Oper}{a:bF}{A:Act}(V:TR P F a A)(B:F8 o.op=true){r:Q4}{K:Act->World->Prop}{Q:Exit->Act->World->Prop}
 (i:vH P call o a.eval J=some (r,J')) (D:∀v x F' w',r=some v->St P F J w F' J' w'->VR F' v x->K (A.put o.dst x) w'):o.wp P A w K Q:=by
 have E:∀x v,a.eval x=some v->VR F v (A.eval x):=λx v l=>O7 h V x v l;unfold vH at i;cases m:o.op with
 |call c=>
  rw[m]at B i;simp only at i;split at i
  ·next args k=>
   obtain⟨n,p,W⟩:=c;cases n with
   |builtin b=>simp[F8]at B
   |invoke rc R=>
    simp only at i;split at i
    ·next f rv t=>
     simp only[wJ]at t;obtain⟨iv,G,t⟩:=t;obtain⟨u,H,rfl⟩:=Es i;have q:=Lr E k;obtain⟨y,X,Y⟩:=aun h t (E _ _ G) (⟨p.toList.map A.eval⟩);have s:=j _ _ _ _ _ H F w (y::p.toList.map A.eval) h (aG.cons Y q);have I:(execOp A.eval o).run P w=(callFunc f ⟨y::p.toList.map A.eval⟩).run P w:=by
      unfold execOp;rw[m];have Z:p.map A.eval=⟨p.toList.map A.eval⟩:=by apply NS;simp
      simp only[resolve,pure_bind,Z];rw[as8,X,aeS]
     unfold Oper.wp;rw[I];rcases s with⟨v,w',d,F',g,l⟩|⟨d,L⟩
     ·rw[d];exact D u v F' w' rfl g l
     ·rw[d];refine Calls.mono L ?_;rintro e w' ⟨v,rfl,F',g,l⟩
      exact D u v F' w' rfl g l
    ·cases i
   |value f=>
    simp only at i;split at i
    ·next fn fi S t=>
     obtain⟨u,H,rfl⟩:=Es i;have z:=E _ _ t;simp only[VR]at z;obtain⟨T,U,M,N,O⟩:=z;have q:=Lr E k;have s:=j _ _ _ _ _ H F w (T++p.toList.map A.eval++U) h ((N.append q).append O);have I:(execOp A.eval o).run P w=(callFunc fn ⟨T++p.toList.map A.eval++U⟩).run P w:=by unfold execOp;rw[m];simp only[resolve,M,Deferred.ofValue,pure_bind,invoke];congr 2;apply NS;simp
     unfold Oper.wp;rw[I];rcases s with⟨v,w',d,F',g,l⟩|⟨d,L⟩
     ·rw[d];exact D u v F' w' rfl g l
     ·rw[d];refine Calls.mono L ?_;rintro e w' ⟨v,rfl,F',g,l⟩
      exact D u v F' w' rfl g l
    ·cases i
  ·cases i
 |_=>rw[m]at B;simp[F8]at B
def aCm{b:W5}{j:Nat}{o:Oper}{d:Nat}{a:bF}{A:Act}{x:Bool}(g:TR P F a A)(h:b[j]? =some o)(i:o.dst=some d)(f:dB (a.t.get d)=some (.b x)):yielded b A.tmps j=some x:=by obtain⟨l,f,c⟩:=Iw f;obtain⟨y,k,e⟩:=g.slot d _ f;have e:=c _ _ e;simp only[VR]at e;subst e;simp only[yielded,h,zN,i,k]
def G6{o:Oper}{f:W5}{a:bF}{A:Act}{b:Bool}(m:TR P F a A)(c:J4 o f a=some b):Region.wanted o (yielded f A.tmps)=b:=by
 unfold J4 at c;unfold Region.wanted;split at c
 ·next k=>rw[k];cases c;rfl
 ·next j e k=>
  rw[k];split at c
  ·next q n=>
   split at c
   ·next d p=>
    split at c
    ·next x g=>
     cases c;simp only[aCm m n p g];cases x<;>cases e<;>rfl
    ·next l g=>
     cases c;obtain⟨s,g,h⟩:=Iw g;obtain⟨y,r,i⟩:=m.slot d _ g;have i:=h _ _ i;simp only[VR]at i;obtain⟨t,rfl,_⟩:=i;simp only[yielded,n,zN,p,r];cases e<;>rfl
    ·cases c
   ·cases c
  ·cases c
def step_ok(h:SR P F J w){call:Caller}(f:qV P call){k:W5}{i:Nat}{a s:bF}{A:Act}(d:TR P F a A){K:Act->World->Prop}{Q:Exit->Act->World->Prop}
 (c:XV P call k i a J=some (s,J')) (p:∀F' t w',St P F J w F' J' w'->TR P F' s t->K t w'):wpOp P k Q i K A w:=by
 unfold XV at c;unfold wpOp;split at c
 ·cases c
 ·next o z=>
  rw[z];simp only;split at c
  ·cases c
  ·next q=>
   rw[G6 d q];simp only[ig,if_false];simp only[bn,oD]at c;obtain⟨B,l,rfl,rfl⟩:=c;exact p F _ w (St.refl h) (d.put l (by rintro u j;cases j;exact⟨[],rfl,rfl⟩))
  ·next q=>
   rw[G6 d q];simp only[if_true];split at c
   ·cases c
   ·next r E g=>
    rw[DV]at g;simp only[bn,oD]at c;obtain⟨B,l,rfl,rfl⟩:=c;left;cases y:F8 o.op with
    |true=>refine aen h f d y g λv x F' w' D b m=>?_;exact p F' _ w' b ((d.mono b.ext).put l (λu j=>by rw[D]at j;cases j;exact m))
    |false=>
     obtain⟨G,w',F',n,b,e⟩:=ah2 h (λx v m=>O7 h d x v m) y g;unfold Oper.wp;rw[n];cases r with
     |none=>subst e;exact p F' _ w' b ((d.mono b.ext).put l aA)
     |some v=>obtain⟨x,rfl,m⟩:=e;exact p F' _ w' b ((d.mono b.ext).put l (λu j=>by cases j;exact m))
def ah4{call:Caller}(b:qV P call){d:W5}{Q:Exit->Act->World->Prop}:∀(l:Q2){F:Env}{J:aC}{w:World}{a g:bF}{A:Act},SR P F J w->TR P F a A->
 KO P call d l a J=some (g,J')->(∀F' j w',St P F J w F' J' w'->TR P F' g j->Q .normal j w')->wpOps P d Q l A w
 |[],F,J,w,a,g,A,h,k,c,m=>by simp only[KO,aY,oD]at c;obtain⟨rfl,rfl⟩:=c;exact m F A w (St.refl h) k
 |i::l,F,J,w,a,g,A,h,k,c,m=>by
  rw[wpOps_cons];unfold KO at c;split at c
  ·next q r p=>
   refine step_ok h b k p λs t w1 e n=>?_;exact ah4 b l e.rel n c λF' j w' f o=>m F' j w' (e.trans f) o
  ·cases c
def eH.toExit:eH->Exit
 |.normal=>.normal
 |.exit id=>.exit id
 |.ret=>.ret
def Q8(P:Program)(g:Caller->AO):Prop:=∀call,qV P call->∀b a J c J',g call b a J=some (c,J')->∀F w A id Q,SR P F J w->TR P F a A->
 (∀d e f,St P F J w d J' f->TR P d c e->Q .normal e f)->(Code.region id b true).wp P Q A w
def Ru(P:Program)(c:xU):Prop:=∀f g,c f=some g->∀args J r J',g args J=some (r,J')->∀F w a,SR P F J w->aG F args a->
 lC P f ⟨a⟩ w λv d=>∃b,St P F J w b J' d/\VR b r v
def wI(P:Program):Prop:=∀(f:Nat) fn c,P.funcs[f]? =some fn->fn.body=some c->(fn.name == "runtime.NumGoroutine")=false
def Oh(P:Program)(run:Code->bF->aC->Option (eH×bF×aC)):Prop:=∀c a J e b J',run c a J=some (e,b,J')->∀F w A Q,SR P F J w->TR P F a A->
 (∀d f g,St P F J w d J' g->TR P d b f->Q e.toExit f g)->c.wp P Q A w
def Qx(h:SR P F J w){a:bF}{A:Act}(j:TR P F a A)(g:ResultVar->Sem Value)(c:∀t,g (.tmp t)=pure (A.tmps.getD t undef))(d:∀a t,g (.cell a t)=(do loadVar t (<-asAddr (A.tmps.getD a undef)))):
 ∀(rs:List ResultVar)(l:Q3),Bd P J a rs=some l->∃vs,(rs.mapM g).run P w=.ok vs w/\aG F l vs
 |[],l,b=>by simp only[Bd,aY]at b;subst b;exact⟨[],rfl,by simp[aG]⟩
 |.tmp t::rs,l,b=>by
  unfold Bd at b;split at b
  ·next v r e k=>
   cases b;obtain⟨vs,h1,m⟩:=Qx h j g c d rs r k;obtain⟨x,n,f⟩:=j.slot t v e;refine⟨x::vs,?_,aG.cons f m⟩;simp only[ade,c,aU,bH,aT,h1];rw[zF,n];rfl
  ·cases b
 |.cell t B::rs,l,b=>by
  unfold Bd at b;split at b
  ·next v r e k=>
   cases b;obtain⟨vs,h1,m⟩:=Qx h j g c d rs r k;simp only[wJ]at e;obtain⟨p,D,e⟩:=e;obtain⟨x,n,f⟩:=j.slot t p D;obtain⟨y,E,G⟩:=Gh h e f;refine⟨y::vs,?_,aG.cons G m⟩;have o:∃i,x=.pointer (some i):=by
    cases p<;>simp[wO]at e
    ·simp only[VR]at f;obtain⟨q,_,rfl⟩:=f;exact⟨_,rfl⟩
    ·simp only[VR]at f;obtain⟨I,base,L,z,M,x,_,_,rfl,_⟩:=f;exact⟨_,rfl⟩
   obtain⟨i,rfl⟩:=o;have H:A.tmps.getD t undef=.pointer (some i):=by rw[zF,n];rfl
   have s:(loadVar B i).run P w=.ok y w:=by simpa[Instr.loadAt,Instr.sureAddr]using E
   have u:(asAddr (A.tmps.getD t undef)).run P w=.ok i w:=by rw[H];rfl
   simp only[ade,d,aU,bH,aT,h1,u,s]
  ·cases b
def aBv{l:Q3}{vs:Q6}(h:aG F l vs):VR F (JR l) (if h:(⟨vs⟩:QQ).size=1 then(⟨vs⟩:QQ)[0]else .tuple ⟨vs⟩):=by
 have b:=h.length;unfold JR;split
 ·next v=>
  simp only[aG]at h;obtain⟨x,_,rfl,c,rfl⟩:=h;simpa using c
 ·next a=>
  have:(⟨vs⟩:QQ).size≠1:=by
   intro e;have:l.length=1:=by rw[b];exact e
   obtain⟨v,rfl⟩:=Xz.1 this;exact a v rfl
  rw[dif_neg this];simp only[VR];exact⟨vs,rfl,h⟩
def adU:∀(args:Q3)(k:Nat)(t:Tr AV)(j:Nat),(zT args k t).get j=if k<=j/\j<k+args.length then args[j-k]? else t.get j
 |[],k,t,j=>by simp[zT];omega
 |v::args,k,t,j=>by
  rw[zT,adU args (k+1)];simp only[iF];by_cases h1:k+1<=j/\j<k+1+args.length
  ·rw[au h1,au ah];have:j-k=(j-(k+1))+1:=ah;rw[this];simp
  ·rw[aj h1,Tr.uN];by_cases a:j=k
   ·subst a;rw[au rfl,au ah];simp
   ·rw[aj a,aj ah]
def YN{args:Q3}{vs:Q6}{n:Nat}(h:aG F args vs):
 TR P F {t:=zT args 0 .nil,n:=max args.length n,gn:=P.globals.size} {tmps:=(⟨vs⟩:QQ)++Array.replicate (n-(⟨vs⟩:QQ).size) undef,defers:=[]}:=by
 have e:=h.length;refine⟨rfl,?_,rfl,λt v a=>?_⟩
 ·simp;omega
 ·rw[adU]at a;split at a
  ·next f=>
   obtain⟨x,b,d⟩:=h.at a;refine⟨x,?_,d⟩;simp only[Ht]at b;have c:=(fH.1 b).1;rw[Xo (by simpa using c)];simpa using b
  ·simp at a
def aem{G:xU}{run:Code->bF->aC->Option (eH×bF×aC)}(N:Ru P G)(O:wI P)(R:Oh P run):qV P (Il P G run):=by
 intro f args J r J' d F w H h I;unfold Il at d;split at d
 ·next g S=>exact N f g S args J r J' d F w H h I
 ·split at d
  ·cases d
  ·next fn o=>
   split at d
   ·cases d
   ·next c D=>
    have x:∀(e:eH) p,(e=.normal\/e=.ret)->run c {t:=zT args 0 .nil,n:=max args.length fn.ntmps,gn:=P.globals.size} J=some (e,p,J')->∀l,Bd P J' p fn.results.toList=some l->r=JR l->
     lC P f ⟨H⟩ w λv i=>∃m,St P F J w m J' i/\VR m r v:=by
     intro e p T b l y E;right;refine⟨?_,?_⟩
     ·have q:=O f fn c o D;simp only[callFunc,aU,program,Sem.run,aT,o];simp only[q,ig,if_false,D,KH,bH]
     ·refine calls_of_wp o D ?_;refine R c _ _ _ _ _ b F w _ _ h (YN I) ?_;intro m z i A L;have j:∃s,(results fn z.tmps).run P i=.ok (if h:(⟨s⟩:QQ).size=1 then(⟨s⟩:QQ)[0]else .tuple ⟨s⟩) i/\aG m l s:=by unfold results;rw[Xp];simp only[aU,XJ];obtain⟨s,B,u⟩:=Qx A.rel L (fun|.tmp t=>pure (z.tmps.getD t undef)|.cell a t=>do loadVar t (<-asAddr (z.tmps.getD a undef))) (λ_=>rfl) (λ_ _=>rfl) _ _ y;refine⟨s,?_,u⟩;exact uH (λr:Result Q6=>(r.andThen λa i=>Result.ok a.toArray i).andThen λa i=>Sem.run P (pure (if h:a.size=1 then a[0]else Value.tuple a)) i) B
      obtain⟨s,j,u⟩:=j
      have k:z.defers=[]/\∃v,(results fn z.tmps).run P i=.ok v i/\∃M,Ending.returned v=.returned M/\∃m,St P F J w m J' i/\VR m r M:=
       ⟨L.none,_,j,_,rfl,m,A,by rw[E];exact aBv u⟩
      rcases T with rfl|rfl
      ·exact k
      ·exact k
    split at d
    ·next p U b=>
     simp only[bn,oD]at d;obtain⟨l,y,B,u⟩:=d;subst u;exact x _ p (.inl rfl) b l y B.symm
    ·next p U b=>
     simp only[bn,oD]at d;obtain⟨l,y,B,u⟩:=d;subst u;exact x _ p (.inr rfl) b l y B.symm
    ·cases d
def aeK{H:Caller->AO}{I:xU}(V:Q8 P H)(W:Ru P I)(X:wI P):∀n:Nat,Oh P (E9 P H I n)/\
 (∀b a J e r J',E9 P H I n (.loop b) a J=some (e,r,J')->∀F w A Q,SR P F J w->TR P F a A->(∀F' s w',St P F J w F' J' w'->TR P F' r s->Q e.toExit s w')->Code.rounds P b Q n A w):=by
 intro n;induction n with
 |zero=>exact⟨λc a J e r J' d=>by simp[adI]at d,λb a J e r J' d=>by simp[adI]at d⟩
 |succ n Y=>
  obtain⟨i,N⟩:=Y;have o:=aem W X i;have B:∀b a J e r J',E9 P H I (n+1) (.loop b) a J=some (e,r,J')->∀F w A Q,SR P F J w->TR P F a A->(∀F' s w',St P F J w F' J' w'->TR P F' r s->Q e.toExit s w')->Code.rounds P b Q (n+1) A w:=by
   intro b a J e r J' d F w A Q h k j;rw[rounds_succ];simp only[wK,uG]at d;split at d
   ·next L M u=>
    refine i _ _ _ _ _ _ u F w A _ h k ?_;intro l m w1 f g;exact N _ _ _ _ _ _ d l w1 m Q f.rel g λF' s w' p v=>j F' s w' (f.trans p) v
   ·next q=>
    refine i _ _ _ _ _ _ d F w A _ h k ?_;intro l m w1 f g;cases e with
    |normal=>exact absurd d (by intro D;exact q _ _ D)
    |exit id=>exact j l m w1 f g
    |ret=>exact j l m w1 f g
  refine⟨?_,B⟩;intro c a J e r J' d F w A Q h k j;cases c with
  |loop b=>exact wp_loop_rounds (n+1) (B b a J e r J' d F w A Q h k j)
  |skip=>simp only[wK,uG,aY,oD]at d;obtain⟨rfl,rfl,rfl⟩:=d;exact wp_skip (j F A w (St.refl h) k)
  |region id O E=>
   cases E with
   |false=>simp only[wK,uG,bn,oD]at d;obtain⟨⟨L,M⟩,u,rfl,rfl,rfl⟩:=d;exact wp_region (ah4 o _ h k u j)
   |true=>simp only[wK,uG,bn,oD]at d;obtain⟨⟨L,M⟩,u,rfl,rfl,rfl⟩:=d;exact V _ o O a J _ _ u F w A id Q h k j
  |seq x y=>
   simp only[wK,uG]at d;refine wp_seq ?_;split at d
   ·next L M u=>
    refine i _ _ _ _ _ _ u F w A _ h k ?_;intro l m w1 f g;exact i _ _ _ _ _ _ d l w1 m Q f.rel g λF' s w' p v=>j F' s w' (f.trans p) v
   ·next q=>
    refine i _ _ _ _ _ _ d F w A _ h k ?_;intro l m w1 f g;cases e with
    |normal=>exact absurd d (by intro D;exact q _ _ D)
    |exit id=>exact j l m w1 f g
    |ret=>exact j l m w1 f g
  |cond x y z=>
   simp only[wK,uG]at d;split at d
   ·next t R=>
    obtain⟨Z,R,G⟩:=Iw R;have U:=G _ _ (O7 h k x _ R);simp only[VR]at U;refine wp_cond U ?_;exact i _ _ _ _ _ _ d F w A Q h k j
   ·cases d
  |block id b=>
   simp only[wK,uG]at d;refine wp_block ?_;split at d
   ·next S L M u=>
    refine i _ _ _ _ _ _ u F w A _ h k ?_;intro l m w1 f g;simp only[eH.toExit,Exit.inBlock];split at d
    ·next T=>
     cases d;rw[au T];exact j l m w1 f g
    ·next T=>
     cases d;rw[aj T];exact j l m w1 f g
   ·next q=>
    refine i _ _ _ _ _ _ d F w A _ h k ?_;intro l m w1 f g;cases e with
    |normal=>exact j l m w1 f g
    |exit S=>exact absurd d (by intro D;exact q _ _ _ D)
    |ret=>exact j l m w1 f g
  |exit id=>simp only[wK,uG,aY,oD]at d;obtain⟨rfl,rfl,rfl⟩:=d;exact wp_exit (j F A w (St.refl h) k)
  |ret=>simp only[wK,uG,aY,oD]at d;obtain⟨rfl,rfl,rfl⟩:=d;exact wp_ret (j F A w (St.refl h) k)
  |rangeFunc _ _ _ _=>simp[wK,uG]at d
  |scope _=>simp[wK,uG]at d
  |label _=>simp[wK,uG]at d
  |goto _=>simp[wK,uG]at d
  |refuse _=>simp[wK,uG]at d
def ak0{a:Caller->AO}{b:xU}(e:Q8 P a)(c:Ru P b)(d:wI P)(n:Nat):qV P (adH P a b n):=
 aem c d (aeK e c d n).1
