/- Values that are named by nodes: append, make, conversions, strings.Builder's string. -/
import Derived.Test.YtmkkknckcnpljaaGreatDoorAbsD
set_option linter.all false
namespace Go.aO
noncomputable section
variable[aI]
variable{P:Program}{H:Env}{J J':aA}{w:World}
def St.Uz{H':Env}{w':World}(h:St P H J w H' J' w')(id:Nat):St P H J w H' (J'.kill id) w':=
 h.sub (λk o a=>by rw[aA.yL]at a;split at a;cases a;exact a) (dY _) rfl
def St.yw{H':Env}{τ:aA}{w':World}{m e size:Nat}{f:Bool}{xs:Q1}{c:Q3}{y:Value}(h:St P H J w H' (τ.new (.cells c e true true)) w')(t:aI.val m=some (.l xs))(u:∀x∈xs,x.cells.length=size/\x.cells.all GV.scalar=true)(A:sizeT P e=some size)
 (B:∀vs,aF H' c vs->aF H' (bM xs) vs) (v:VR H' (.sl τ.next 0 xs.length none) y) (D:f=true->xs≠[]):St P H J w H' (τ.new (.vec m e f)) w'/\VR H' (.sv τ.next m) y:=by
 simp only[VR]at v;obtain⟨q,l,d,rfl⟩:=v;have z:(τ.new (.cells c e true true)).get τ.next=some (.cells c e true true):=by rw[aA.rY,aj rfl]
 have g:=h.rel.at z l;have n:q.es=size:=by obtain⟨_,_,_,_,r⟩:=g;have:=(r.room rfl).2.2;rw[A]at this;cases this;rfl
 have i:f=true->q.es<=q.sz:=λe=>by
  have p:=D e;have:0<xs.length:=EC.2 p;simp only[xI,AO]at d;have E:1<=q.sz/q.es:=by omega
  exact jP (by simpa using vS q.es E) (Nat.div_mul_le_self q.sz q.es)
 have j:OR P H' q w' (.vec m e f):=OR.yw i t (λx s=>by rw[n];exact(u x s).1) (λx s=>(u x s).2) g B;refine⟨h.right ?_ rfl rfl ?_,by simp only[VR];exact⟨xs,t,.inl ⟨q,l,by simpa using d,by simp⟩⟩⟩
 ·refine(h.rel.swap (o':=.vec m e f) z rfl (.inl ⟨q,l,j⟩)).sub (λk o a=>?_) (dY _)
  rw[aA.rY]at a;rw[aA.get_put,aA.rY];split at a
  ·next b=>rw[aj b];exact a
  ·next b=>rw[ah b,ah b];exact a
 ·intro k o a F;rw[aA.rY]at a⊢;split at a
  ·next b=>rw[aj b];exact⟨_,rfl,rfl⟩
  ·next b=>rw[ah b];exact⟨o,a,F⟩
def Dn{xs:Q1}{size:Nat}(h:xs.all (GV.dZ size)=true):∀x∈xs,x.cells.length=size/\x.cells.all GV.scalar=true:=by intro z a;have:=List.all_eq_true.1 h z a;unfold GV.dZ at this;rw[aK]at this;exact⟨Nat.eq_of_beq_eq_true this.1,this.2⟩
def alD{xs:Q1}{size:Nat}(h:∀x∈xs,x.cells.length=size/\x.cells.all GV.scalar=true):(bM xs).all AV.nU=true:=by unfold bM;refine YP ?_;rw[List.all_eq_true];intro g b;obtain⟨z,c,a⟩:=acK.1 b;exact List.all_eq_true.1 (h z c).2 g a
def adX(xs a:Q1):bM (xs++a)=bM xs++bM a:=by unfold bM;rw[acE,IL]
def Ip{xs:Q1}{size:Nat}(h:∀x∈xs,x.cells.length=size):(bM xs).length=xs.length*size:=by rw[bM,l9,OY h]
def abB(P:Program)(J:aA)(e size:Nat)(a:TypeId)(x:AV):QR:=
 match P.underlying a with
 |some .string=>if size=1 then match iU x with
   |some n=>fG (.bytes n)
   |none=>none
  else none
 |some (.slice _)=>listOf P J e x
 |_=>none
def VL(h:SR P H J w){e size:Nat}{f:TypeId}{x:AV}{b:Nat}{u:Value}{xs:Q1}(c:abB P J e size f x=some b)(m:VR H x u)(r:sizeT P e=some size)(o:aI.val b=some (.l xs))(i:xs.all (GV.dZ size)=true):
 ∃p,Src P size f u xs.length p w/\aF H (bM xs) p:=by
 unfold abB at c;split at c
 ·next j=>
  split at c
  ·next t=>
   subst t;split at c
   ·next n k=>
    obtain⟨g,g1,g2,v⟩:=mD k m;obtain⟨B,q,d⟩:=gQ c;rw[o]at q;cases q;simp only[Nd.den,g1]at d;split at d
    ·next s y=>
     cases y;cases d;have z:FI P f=true:=by unfold FI;rw[j]
     have:=src_ok h z (size:=1) (n:=s.length) (l:=wC s) (a:=.s s) (x:=u) (by simp[yZ]) ((lV (.s s) u).1 v) (by unfold wC;simp[AV.nU]);rw[adD];have A:(dw s).length=s.length:=by simp[dw]
     rw[A];exact this
    ·cases d
   ·cases c
  ·cases c
 ·next j=>exact auP h c m j r o i
 ·cases c
def auO{e size id len:Nat}{cap:QR}{a q:Nat}{c:Q3}{r opn:Bool}(s:J.get id=some (.cells c q r opn))(b:listOf P J e (.sl id 0 len cap)=some a)(t:sizeT P e=some size)(d:c.length=len*size):
 ∃h,(∀{H:Env}{vs:Q6},aF H c vs->∃gs,valsOf aI.val h=some gs/\gs.length=len/\aF H (bM gs) vs/\∀x∈gs,x.cells.length=size/\x.cells.all GV.scalar=true)/\∀gs,valsOf aI.val h=some gs->aI.val a=some (.l gs):=by
 simp only[listOf,s,t]at b;split at b
 ·next E F u G i j k l v=>
  cases k;cases l;split at b
  ·next p=>
   rw[aK,mY,aK]at p;have f:j=false->size=1:=by
    intro e;subst e;rcases p.2 with h1|h1
    ·simp at h1
    ·exact bH h1
   have m:takeN c 0 (len*size)=some c:=by unfold takeN;rw[bK,lW (by omega),aj d]
   rw[m]at b;simp only at b;split at b
   ·next h n=>
    refine⟨h,λ{H vs} y=>?_,λgs o=>?_⟩
    ·obtain⟨gs,z,A,B,_,D⟩:=E8 (H:=H) f len n y d;exact⟨gs,z,A,B,D⟩
    ·obtain⟨g,g1,g2⟩:=gQ b;simp only[Nd.den,o,gB,aZ]at g2;rw[g2];exact g1
   ·cases b
  ·cases b
 ·cases b
set_option maxHeartbeats 1000000 in
def aBN(h:SR P H J w){ts:Wm}{ty:TypeId}{s x v:AV}{u u':Value}(p:abI P ts s x J=some (v,J'))(O:VR H s u)(B:VR H x u'):
 ∃y w' H',(Builtin.append_ ts ty #[u,u']).run P w=.ok y w'/\St P H J w H' J' w'/\VR H' v y:=by
 unfold abI at p;split at p
 ·next t t1 a3=>
  have:=RF a3;subst this;split at p
  ·next e d bytes z hi=>
   obtain⟨_,_,_,he,_,V⟩:=Bl hi;split at p
   ·cases p
   ·next h0=>
    split at p
    ·cases p
    ·next b hb=>
     have am:abB P J e d t1 x=some b:=hb;have an:∀{a m:Nat}{j:Q1},fG (.app d bytes a b)=some m->aI.val a=some (.l j)->∃i,aI.val b=some (.l i)/\aI.val m=some (.l (j++i))/\i.all (GV.dZ d)=true/\2*(j.length+i.length)*bytes<=2^48/\j.length+i.length<=2^48:=by
      intro a m j W Z;obtain⟨g,g1,g2⟩:=gQ W;simp only[Nd.den,Z]at g2;split at g2
      ·next bb i F e2=>
       cases F;split at g2
       ·next Q=>cases g2;exact⟨i,e2,g1,Q.1,Q.2.1,Q.2.2⟩
       ·cases g2
      ·cases g2
     have Rz:∀{i:Q1}{S:AV}{n:Nat},i.all (GV.dZ d)=true->sliceLen S=n->2*(n+i.length)*bytes<=2^48->n+i.length<=2^48->¬(d=0\/(bM i).all AV.nU=false\/¬(2*(sliceLen S+i.length)*bytes<=2^48/\sliceLen S+i.length<=2^48)):=by intro i S n h1 h2 h3 h4;rw[alD (Dn h1),h2];simp[h0];omega
     have az:∀{a:Nat},fG (.ml [])=some a->aI.val a=some (.l []):=by intro a Z;obtain⟨g,g1,g2⟩:=gQ Z;simp only[Nd.den,valsOf,gB,aZ]at g2;subst g2;exact g1
     have aD:∀{a m:Nat}{τ:aA},aI.val a=some (.l [])->fG (.app d bytes a b)=some m->u=.slice none 0 0->τ.lock=J.lock->τ.next=J.next->(∀k o,τ.get k=some o->J.get k=some o)->
      ∀f:Bool,∃y w' H',(Builtin.append_ #[t,t1] ty #[u,u']).run P w=.ok y w'/\St P H J w H' (τ.new (.vec m e f)) w'/\VR H' (.sv J.next m) y:=by
      intro a m τ Z W M hl aE ap f;obtain⟨i,y1,I,L,y4,y5⟩:=an W Z;obtain⟨zs,z1,z2⟩:=VL h am B V y1 L;have l:=Ip (λx B=>(Dn L x B).1);simp only[aW,nZ,jQ]at I y4 y5;have Q:=Rz (S:=.gu) (n:=0) L rfl (by simpa using y4) (by simpa using y5);by_cases X:i.length=0
      ·have T:i=[]:=jl X;subst T;have r:pG e d bytes .gu 0 (bM []) J=some (.gu,J):=by unfold pG;rw[ah (by simpa using Q)];rfl
       obtain⟨y,w',H',r1,r2,r3⟩:=C9 (ty:=ty) h hi z1 z2 l r (u:=u) (by simp only[VR];exact M);refine⟨y,w',H'.ghost J.next,r1,r2.trans ?_,?_⟩
       ·exact St.ghost r2.rel I hl aE ap
       ·simp only[VR]at r3⊢;exact⟨[],I,.inr ⟨by simp[Env.ghost],rfl,r3⟩⟩
      ·have r:pG e d bytes .gu i.length (bM i) J=some (.sl J.next 0 i.length none,J.new (.cells (bM i) e true true)):=by unfold pG;rw[ah Q];simp only;rw[ah X]
       obtain⟨y,w',H',r1,r2,r3⟩:=C9 (ty:=ty) h hi z1 z2 l r (u:=u) (by simp only[VR];exact M);obtain⟨q1,q2⟩:=St.yw (f:=f) r2 I (Dn L) V (λ_ h=>h) r3 (λ_ e=>X (by rw[e];rfl));refine⟨y,w',H',r1,q1.sub (λk o A=>?_) (by show J.next+1<=τ.next+1;omega) hl,q2⟩;rw[aA.rY]at A⊢;rw[aE]at A;split at A
       ·next F=>rw[aj F];exact A
       ·next F=>rw[ah F];exact ap k o A
     split at p
     ·split at p
      ·next a Z=>
       obtain⟨m,W,F⟩:=bg.1 p;cases F;simp only[VR]at O;exact aD (τ:=J) (az Z) W O rfl rfl (λ_ _ h=>h) true
      ·cases p
     ·next id n=>
      split at p
      ·next a D f U=>
       split at p
       ·next E=>
        rw[aK,aK]at E;obtain⟨⟨aa,aL⟩,ab⟩:=E;have IW:=bH aa;subst IW;have DI:=tq ab;obtain⟨m,W,F⟩:=bg.1 p;cases F;simp only[VR]at O;obtain⟨xn,n1,O⟩:=O;rcases h.live id _ U with⟨q,Y,a4⟩|⟨ar,m0,bc,f0,e0,aM⟩
        ·obtain⟨j,x1,x2,x3,x4,x5,x6,x7,hS⟩:=Na h U Y;have ac:=yU 100 aL x1 n1;rw[V]at x5;cases x5;rcases O with⟨q',ad,av,rfl⟩|⟨ar,_,_⟩
         ·rw[Y]at ad;cases ad;obtain⟨i,y1,I,L,y4,y5⟩:=an W x1;have aw:=Ip x2;have ae:∀x∈j++i,x.cells.length=q.es/\x.cells.all GV.scalar=true:=by
           intro x B;rcases iW.1 B with B|B
           ·exact⟨x2 x B,x7 x B⟩
           ·exact Dn L x B
          obtain⟨zs,z1,z2⟩:=VL h am B V y1 L;have l:=Ip (λx B=>(Dn L x B).1);have Q:=Rz (S:=.sl id 0 j.length none) (n:=j.length) L rfl y4 y5;rw[<-ac]at av⊢;have aR:VR H (.sl id 0 j.length none) (.slice (some ⟨q.bl,q.ba,none⟩) j.length (q.sz/q.es)):=by simp only[VR];exact⟨q,Y,by simpa using av,by simp⟩
          by_cases X:i.length=0
          ·have T:i=[]:=jl X;subst T;rw[ng]at I;have r:pG D q.es bytes (.sl id 0 j.length none) 0 (bM []) (kV J id j D)=some (.sl id 0 j.length none,kV J id j D):=by unfold pG;rw[ah (by simpa using Q)];rfl
           obtain⟨y,w',H',r1,r2,r3⟩:=C9 (ty:=ty) hS hi z1 z2 l r aR;have a5:=Qs U r2;have a0:(kV J id j D).get id=some (.cells (bM j) D true true):=Et;have G:=r2.ext.pl _ _ Y;have af:=r2.rel.at a0 G;have ag:OR P (H'.put J.next q) q w' (.vec m D f):=by have ai:=Env.Js r2.rel q;refine OR.yw (λe=>by subst e;exact a4.Wq) I x2 x7 (af.mono ai) (λ_ h=>h)
           have O4:=St.again (q':=q) r2.rel a0 rfl (show(kV J id j D).lock<=id from DI) G rfl rfl (λ_ _=>rfl) rfl rfl rfl ag;refine⟨y,w',H'.put J.next q,r1,(a5.trans O4).sub (λk o A=>?_) (dY _) rfl,?_⟩
           ·rw[aA.rY,aA.yL]at A⊢;split at A
            ·next F=>rw[aj (show k=((kV J id j D).kill id).next from F)];exact A
            ·next F=>
             rw[ah (show ¬k=((kV J id j D).kill id).next from F)];split at A
             ·cases A
             ·next e2=>rw[ah e2];unfold kV;rw[aA.get_put,ah e2];exact A
           ·simp only[VR]at r3⊢;obtain⟨q3,N,ak,rfl⟩:=r3;rw[G]at N;cases N;exact⟨j,I,.inl ⟨q,by simp[Env.put],by simpa using ak,by simp⟩⟩
          ·have ao:takeN (bM j) 0 (j.length*q.es)=some (bM j):=by unfold takeN;rw[bK,lW (by omega),aj aw]
           have r:pG D q.es bytes (.sl id 0 j.length none) i.length (bM i) (kV J id j D)=some (.sl J.next 0 (j.length+i.length) none,((kV J id j D).kill id).new (.cells (bM j++bM i) D true true)):=by unfold pG;rw[ah Q];simp only;rw[ah X,aj (show(kV J id j D).lock<=id from DI),Et];simp only[if_true,ao,gB];rfl
           obtain⟨y,w',H',r1,r2,r3⟩:=C9 (ty:=ty) hS hi z1 z2 l r aR;obtain⟨q1,q2⟩:=St.yw (size:=q.es) (Qs U r2) I ae V (λvs al=>by rw[adX];exact al) (by rw[eX];exact r3) (f:=f) (λ_ e=>X (by have:=tX List.length e;simp at this;rw[this.2];rfl));refine⟨y,w',H',r1,q1.sub (λk o A=>?_) (dY _) rfl,q2⟩;rw[aA.rY,aA.yL]at A⊢;split at A
           ·next F=>rw[aj (show k=((kV J id j D).kill id).next from F)];exact A
           ·next F=>
            rw[ah (show ¬k=((kV J id j D).kill id).next from F)];split at A
            ·cases A
            ·next e2=>rw[ah e2];unfold kV;rw[aA.get_put,ah e2];exact A
         ·rw[(h.jT id ar).1]at Y;cases Y
        ·cases e0;have ac:=yU 100 aL aM n1;rcases O with⟨q',ad,_⟩|⟨_,_,O⟩
         ·rw[(h.jT id ar).1]at ad;cases ad
         ·exact aD (τ:=J.kill id) aM W O rfl rfl (λk o A=>by rw[aA.yL]at A;split at A;cases A;exact A) f
       ·cases p
      ·cases p
     ·next id=>
      split at p
      ·next D U=>
       split at p
       ·next E=>
        rw[aK]at E;obtain⟨aa,ab⟩:=E;have IW:=bH aa;subst IW;have DI:=tq ab;split at p
        ·next a Z=>
         obtain⟨m,W,F⟩:=bg.1 p;cases F;obtain⟨i,y1,I,L,y4,y5⟩:=an W (az Z);simp only[aW,nZ,jQ]at I y4 y5;obtain⟨zs,z1,z2⟩:=VL h am B V y1 L;have l:=Ip (λx B=>(Dn L x B).1);have Q:=Rz (S:=.sl id 0 0 (some 0)) (n:=0) L rfl (by simpa using y4) (by simpa using y5);have M:=O;simp only[VR]at M;obtain⟨q,Y,_,rfl⟩:=M;obtain⟨cs,a1,fr,a6,rr⟩:=h.at U Y;have bd:=rr.shut rfl;obtain⟨w1,w2,w3⟩:=rr.whole he;have be:=w3 rfl;by_cases X:i.length=0
         ·have T:i=[]:=jl X;subst T;have r:pG D d bytes (.sl id 0 0 (some 0)) 0 (bM []) J=some (.sl id 0 0 (some 0),J):=by unfold pG;rw[ah (by simpa using Q)];rfl
          obtain⟨y,w',H',r1,r2,r3⟩:=C9 (ty:=ty) h hi z1 z2 l r O;have G:=r2.ext.pl _ _ Y;obtain⟨a7,KT,Lj,a8,ax⟩:=r2.rel.at U G;obtain⟨v1,v2,v3⟩:=ax.whole he;have a2:=ax.shut rfl;simp only[nZ]at a2;have ag:OR P (H'.put J.next ⟨q.bl,q.ba,0,d⟩) ⟨q.bl,q.ba,0,d⟩ w' (.vec m D false):=by refine⟨[],a7,KT,Lj,[],I,a8,by simp[aP],by simp,by simp[EW,dS],by simp,{fits:=by have:=ax.fits;simp;omega,le:=by simp,shut:=by simp,cell:=by simp,free:=by simp,whole:=λ_=>⟨v1,by simp;omega,by simp⟩,room:=λ_=>⟨he,by simp;omega,V⟩},by simp,by simp⟩
          have O4:=St.again (q':=⟨q.bl,q.ba,0,d⟩) r2.rel U rfl DI G rfl rfl (λ_ _=>rfl) rfl rfl rfl ag;refine⟨y,w',_,r1,r2.trans O4,?_⟩;simp only[VR]at r3⊢;obtain⟨q3,N,_,rfl⟩:=r3;rw[G]at N;cases N;exact⟨[],I,.inl ⟨⟨q.bl,q.ba,0,d⟩,by simp[Env.put],by simp,by simp⟩⟩
         ·have r:pG D d bytes (.sl id 0 0 (some 0)) i.length (bM i) J=some (.sl J.next 0 (0+i.length) none,J.new (.cells ([]++bM i) D true true)):=by unfold pG;rw[ah Q];simp only;rw[ah (by omega),U];simp[takeN]
          obtain⟨y,w',H',r1,r2,r3⟩:=C9 (ty:=ty) h hi z1 z2 l r O;rw[aW]at r2;rw[jQ]at r3;obtain⟨q1,q2⟩:=St.yw (f:=false) r2 I (Dn L) V (λ_ h=>h) r3 (by simp);refine⟨y,w',H',r1,q1.sub (λk o A=>?_) (dY _) rfl,q2⟩;rw[aA.rY,aA.yL]at A;rw[aA.rY];split at A
          ·next F=>rw[aj (show k=J.next from F)];exact A
          ·next F=>
           rw[ah (show ¬k=J.next from F)];split at A
           ·cases A
           ·exact A
        ·cases p
       ·cases p
      ·cases p
     ·next id len=>
      split at p
      ·next c D U=>
       split at p
       ·next E=>
        rw[aK,aK]at E;obtain⟨⟨aa,ab⟩,aw⟩:=E;have IW:=bH aa;subst IW;have DI:=tq ab;have aq:=bH aw;split at p
        ·next a Z=>
         obtain⟨m,W,F⟩:=bg.1 p;cases F;obtain⟨ns,l1,l2⟩:=auO U Z V aq;have M:=O;simp only[VR]at M;obtain⟨q,Y,av,rfl⟩:=M;obtain⟨ws,a1,fr,a6,rr⟩:=h.at U Y;have a9:q.es=d:=by have:=(rr.room rfl).2.2;rw[V]at this;cases this;rfl
         have ao:takeN c 0 (len*d)=some c:=by unfold takeN;rw[bK,lW (by omega),aj aq]
         obtain⟨j,k1,k2,k3,k4⟩:=l1 (rr.y7 ao);have ba:=l2 j k1;have conv:∀{H':Env}(vs:Q6),aF H' c vs->aF H' (bM j) vs:=by intro H' vs hv;obtain⟨gs,j1,_,j3,_⟩:=l1 hv;rw[k1]at j1;cases j1;exact j3
         obtain⟨i,y1,I,L,y4,y5⟩:=an W ba;have ae:∀x∈j++i,x.cells.length=d/\x.cells.all GV.scalar=true:=by
          intro x B;rcases iW.1 B with B|B
          ·exact k4 x B
          ·exact Dn L x B
         obtain⟨zs,z1,z2⟩:=VL h am B V y1 L;have l:=Ip (λx B=>(Dn L x B).1);have Q:=Rz (S:=.sl id 0 len none) (n:=j.length) L k2.symm y4 y5;by_cases X:i.length=0
         ·have T:i=[]:=jl X;subst T;rw[ng]at I;have r:pG D d bytes (.sl id 0 len none) 0 (bM []) J=some (.sl id 0 len none,J):=by unfold pG;rw[ah (by simpa using Q)];rfl
          obtain⟨y,w',H',r1,r2,r3⟩:=C9 (ty:=ty) h hi z1 z2 l r O;have G:=r2.ext.pl _ _ Y;have af:=r2.rel.at U G;have ag:OR P (H'.put J.next q) q w' (.vec m D false):=by have ai:=Env.Js r2.rel q;refine OR.yw (by simp) I (λx B=>by rw[a9];exact(k4 x B).1) (λx B=>(k4 x B).2) (af.mono ai) (λvs al=>conv vs al)
          have O4:=St.again (q':=q) r2.rel U rfl DI G rfl rfl (λ_ _=>rfl) rfl rfl rfl ag;refine⟨y,w',H'.put J.next q,r1,r2.trans O4,?_⟩;simp only[VR]at r3⊢;obtain⟨q3,N,ak,rfl⟩:=r3;rw[G]at N;cases N;exact⟨j,I,.inl ⟨q,by simp[Env.put],by rw[k2];simpa using ak,by simp[k2]⟩⟩
         ·have r:pG D d bytes (.sl id 0 len none) i.length (bM i) J=some (.sl J.next 0 (len+i.length) none,(J.kill id).new (.cells (c++bM i) D true true)):=by unfold pG;rw[ah Q];simp only;rw[ah X,aj DI,U];simp only[if_true,ao,gB]
          obtain⟨y,w',H',r1,r2,r3⟩:=C9 (ty:=ty) h hi z1 z2 l r O;obtain⟨q1,q2⟩:=St.yw (size:=d) r2 I ae V (λvs al=>by obtain⟨us,ts,rfl,v1,v2⟩:=aF.split al;rw[adX];exact aF.append (conv us v1) v2) (by rw[eX,k2];exact r3) (f:=false) (by simp)
          exact⟨y,w',H',r1,q1,q2⟩
        ·cases p
       ·cases p
      ·cases p
     ·cases p
  ·cases p
 ·cases p
def aiz{x:GV}{z:Q3}(b:∀a,aF H z a->aF H (dQ x.cells) a):∀(n:Nat)(vs:Q6),aF H (jv n z) vs->aF H (bM (List.replicate n x)) vs
 |0,vs,h=>by simpa[jv,bM,dQ]using h
 |n+1,vs,h=>by
  have e:jv (n+1) z=z++jv n z:=by simp[jv,Nz]
  rw[e]at h;obtain⟨a,c,rfl,d,f⟩:=aF.split h;have g:bM (List.replicate (n+1) x)=dQ x.cells++bM (List.replicate n x):=by unfold bM;rw[Nz,jF,IL]
  rw[g];exact(b a d).append (aiz b n c f)
def ayk(z:Q3)(n m:Nat)(h:n<=m):(jv m z).take (n*z.length)=jv n z:=by
 induction n generalizing m with
 |zero=>simp[jv]
 |succ n a=>
  cases m with
  |zero=>omega
  |succ m=>
   have e:∀k,jv (k+1) z=z++jv k z:=λk=>by simp[jv,Nz]
   rw[e,e,<-a m (by omega),List.take_append,lW (by rw[rH];omega)];congr 2;rw[rH];omega
def aBX(h:SR P H J w){t:TypeId}{l c v:AV}{x y:Value}(q:VY P t l c J=some (v,J'))(W:VR H l x)(hy:VR H c y):
 ∃z w' H',(Instr.makeSlice t x y).run P w=.ok z w'/\St P H J w H' J' w'/\VR H' v z:=by
 unfold VY at q;split at q
 ·next e0 X=>
  split at q
  ·next e b bytes z I hi ag=>
   obtain⟨L,_,_,he,i,hn⟩:=Bl hi;rw[X]at L;cases L;split at q
   ·cases q
   ·next Y=>
    split at q
    ·next zn ln cn d Z aa=>
     obtain⟨m,hm,G⟩:=bg.1 q;cases G;obtain⟨gl,l1,l2,l3⟩:=mD Z W;obtain⟨gc,c1,c2,c3⟩:=mD aa hy;obtain⟨g,g1,g2⟩:=gQ hm;simp only[Nd.den,l1,c1]at g2;split at g2
     ·next xz kn n ab V G e2 e3=>
      cases e2;cases e3;split at g2
      ·next hc=>
       cases g2;obtain⟨b1,b2,b3,b4,r⟩:=hc;simp only[GR]at l3 c3;subst l3;subst c3;obtain⟨A,M,B,D⟩:=au7 (P:=P) (w:=w) (H:=H) (kd:=kn) (kd':=ab) hi Y b1 b2 b3 b4;have ac:∀k,aF H z k->aF H (dQ xz.cells) k:=by
        intro k j;cases I with
        |true=>simp only[if_true]at d;obtain⟨l',gs,e4,_,N,_,O⟩:=Kt d (by simp only[VR];exact⟨k,rfl,j⟩:VR H (.agg z) (.agg ⟨k⟩));rw[G]at N;cases N;simp only[GR]at O;obtain⟨ad,e7,e8⟩:=O;cases e7;exact(oH _ _).1 e8
        |false=>
         simp only[gy,if_false]at d;cases o:z with
         |nil=>rw[o]at d;simp at d
         |cons a zr=>
          rw[o]at d j i;simp only[WR,vU]at d;simp only[aF]at j;obtain⟨u,ur,rfl,E,p⟩:=j;obtain⟨gz,Q,S,k3⟩:=mD d E;rw[G]at Q;cases Q;rw[GV.Jy S];have:b=1:=by unfold GV.dZ at r;rw[aK,GV.Jy S]at r;exact(bH r.1).symm
          rw[this]at i;have oM:zr=[]:=by apply jl;simpa using i
          subst oM;simp only[aF]at p;subst p;simp only[dQ];exact aF.cons ((lV _ _).1 k3) (by simp[aF])
       have T:∀x∈List.replicate n.toNat xz,x.cells.length=b/\x.cells.all GV.scalar=true:=by intro x W;rw[(acN.1 W).2];unfold GV.dZ at r;rw[aK]at r;exact⟨Nat.eq_of_beq_eq_true r.1,r.2⟩
       have F:n.toNat<=V.toNat:=by omega
       have U:aF H (jv n.toNat z) (A.toList.take (jv n.toNat z).length):=by rw[Vr,i];have:=D.take (n.toNat*b);rw[<-i,ayk z _ _ F,i]at this;exact this
       have ae:=Dj h (c:=jv n.toNat z) (xs:=A) (elem:=_) (es:=b) (opn:=true) U (by rw[Vr,i,B];exact vS _ F) (by simp) (λ_=>⟨he,Nat.pos_of_ne_zero Y,hn⟩);have s:(V.toNat*b)/b=V.toNat:=acQ _ (Nat.pos_of_ne_zero Y);obtain⟨q1,q2⟩:=St.yw (f:=false) (size:=b) (y:=.slice (some ⟨w.heap.size,0,none⟩) n.toNat V.toNat) ae g1 T hn (λvs D=>by
        have af:∀k,aF (H.put J.next ⟨w.heap.size,0,A.size,b⟩) z k->aF (H.put J.next ⟨w.heap.size,0,A.size,b⟩) (dQ xz.cells) k:=by
         intro k j;cases I with
         |true=>simp only[if_true]at d;obtain⟨l',gs,e4,_,N,_,O⟩:=Kt d (by simp only[VR];exact⟨k,rfl,j⟩:VR (H.put J.next ⟨w.heap.size,0,A.size,b⟩) (.agg z) (.agg ⟨k⟩));rw[G]at N;cases N;simp only[GR]at O;obtain⟨ad,e7,e8⟩:=O;cases e7;exact(oH _ _).1 e8
         |false=>
          simp only[gy,if_false]at d;cases o:z with
          |nil=>rw[o]at d;simp at d
          |cons a zr=>
           rw[o]at d j i;simp only[WR,vU]at d;simp only[aF]at j;obtain⟨u,ur,rfl,E,p⟩:=j;obtain⟨gz,Q,S,k3⟩:=mD d E;rw[G]at Q;cases Q;rw[GV.Jy S];have:b=1:=by unfold GV.dZ at r;rw[aK,GV.Jy S]at r;exact(bH r.1).symm
           rw[this]at i;have oM:zr=[]:=by apply jl;simpa using i
           subst oM;simp only[aF]at p;subst p;simp only[dQ];exact aF.cons ((lV _ _).1 k3) (by simp[aF])
        exact aiz af _ _ D) (by simp only[VR];exact⟨⟨w.heap.size,0,A.size,b⟩,by simp[Env.put],by simp[B,s,F],by simp[B,s]⟩) (by simp)
       exact⟨_,_,_,M,q1,q2⟩
      ·cases g2
     ·cases g2
    ·cases q
  ·cases q
 ·cases q
def Oe:∀{xs:Q1}{b:Q0},nD xs=some b->bytesOf (dQ xs)=some b
 |[],b,h=>by simpa[nD,dQ,bytesOf]using h
 |x::xs,b,h=>by
  unfold nD at h;split at h
  ·rename_i a;cases a
  ·next n rest a=>
   cases a;simp only[dQ,lJ,bytesOf];split at h
   ·next d=>
    rw[aj d];obtain⟨e,c,rfl⟩:=bg.1 h;rw[Oe c];rfl
   ·cases h
  ·cases h
def RQ:∀{xs:Q1}{b:Q0},nD xs=some b->xs.flatMap GV.cells=xs
 |[],b,h=>rfl
 |x::xs,b,h=>by
  unfold nD at h;split at h
  ·rename_i a;cases a
  ·next n rest a=>
   cases a;split at h
   ·obtain⟨d,c,_⟩:=bg.1 h;rw[jF,RQ c];rfl
   ·cases h
  ·cases h
def aBQ(h:SR P H J w){src dst:TypeId}{a v:AV}{x:Value}(p:VP P src dst a J=some (v,J'))(r:VR H a x):
 ∃y w' H',(convert src dst x).run P w=.ok y w'/\St P H J w H' J' w'/\VR H' v y:=by
 unfold VP at p;split at p
 ·next d k n h1 B=>
  obtain⟨v',D,E⟩:=bg.1 p;cases E;simp only[VR]at r;obtain⟨g,I,a2,L⟩:=r;obtain⟨_,g',_,j,b3⟩:=mW (H:=H) D;simp only[Nd.den,I]at j;split at j
  ·next kk z E=>
   cases E;cases j;simp only[GR]at L;subst L;obtain⟨y,w',H',r1,r2,r3⟩:=OH h (src:=src) (dst:=dst) (a:=.i kk z) (v:=.i k (k.wrap z)) (J':=J) (by simp only[yF,h1,B]) (by simp only[VR]:VR H (.i kk z) (.int kk z));exact⟨y,w',H',r1,r2,by obtain⟨_,g2,_,F,V⟩:=mW (H:=H') D;simp only[Nd.den,I,aZ]at F;subst F;exact V y rfl ((lV _ _).2 r3)⟩
  ·cases j
 ·next n h1 B=>
  obtain⟨v',D,E⟩:=bg.1 p;cases E;simp only[VR]at r;obtain⟨g,I,a2,L⟩:=r;obtain⟨_,g',_,j,b3⟩:=mW (H:=H) D;simp only[Nd.den,I]at j;split at j
  ·next z E=>
   cases E;cases j;simp only[GR]at L;subst L;obtain⟨y,w',H',r1,r2,r3⟩:=OH h (src:=src) (dst:=dst) (a:=.s z) (v:=.s z) (J':=J) (by simp only[yF,h1,B]) (by simp only[VR]:VR H (.s z) (.string ⟨⟨z⟩⟩));exact⟨y,w',H',r1,r2,by obtain⟨_,g2,_,F,V⟩:=mW (H:=H') D;simp only[Nd.den,I,aZ]at F;subst F;exact V y rfl ((lV _ _).2 r3)⟩
  ·cases j
 ·next e n h1 B=>
  split at p
  ·next W=>
   split at p
   ·next Q=>
    split at p
    ·next m D=>
     cases p;simp only[VR]at r;obtain⟨g,I,a2,L⟩:=r;obtain⟨g',b1,j⟩:=gQ D;simp only[Nd.den,I]at j;split at j
     ·next z E=>
      cases E;cases j;simp only[GR]at L;subst L;obtain⟨y,w',H',r1,r2,r3⟩:=OH h (src:=src) (dst:=dst) (a:=.s z) (v:=.sl J.next 0 z.length none) (J':=J.new (.cells (wC z) e true true)) (by simp only[yF,h1,B,W,aj Q]) (by simp only[VR]:VR H (.s z) (.string ⟨⟨z⟩⟩));obtain⟨q1,q2⟩:=St.yw (f:=false) (size:=1) r2 b1 (by intro x r;obtain⟨c,_,rfl⟩:=nR.1 r;exact⟨rfl,rfl⟩) Q.2 (λvs ag=>by rw[adD];exact ag) (by simpa[dw]using r3) (by simp)
      exact⟨y,w',H',r1,q1,q2⟩
     ·cases j
    ·cases p
   ·cases p
  ·cases p
 ·next e h1 B=>
  split at p
  ·next W=>
   split at p
   ·next m o=>
    obtain⟨v',D,E⟩:=bg.1 p;cases E;obtain⟨_,g',_,j,b3⟩:=mW (H:=H) D;simp only[Nd.den]at j;split at j
    ·next t S=>
     split at j
     ·next aa=>
      obtain⟨b,u,rfl⟩:=bg.1 j;have M:∀{τ:aA}{A:AV},SR P H τ w->VR H A x->yF P src dst A τ=some (.s b,τ)->(∀{H':Env}{w':World},St P H τ w H' τ w'->St P H J w H' J w')->∃y w' H',(convert src dst x).run P w=.ok y w'/\St P H J w H' J w'/\VR H' v y:=by intro τ A hS hA ai X;obtain⟨y,w',H',r1,r2,r3⟩:=OH hS ai hA;refine⟨y,w',H',r1,X r2,?_⟩;obtain⟨_,g2,_,F,V⟩:=mW (H:=H') D;simp only[Nd.den,S,aj aa,u,gB,aZ]at F;subst F;exact V y rfl ((lV _ _).2 r3)
      have T:nD t=some b->t=[]->b=[]:=by rintro h1 rfl;simpa[nD]using h1.symm
      unfold listOf at o;split at o
      ·next n=>
       cases o;simp only[VR]at r;obtain⟨g,I,a2,L⟩:=r;rw[S]at I;cases I;exact M h ((lV (.l t) x).1 L) (by simp only[lJ,yF,h1,B,W,Oe u,gB]) (λh=>h)
      ·obtain⟨g,g1,g2⟩:=gQ o;rw[S]at g1;cases g1;simp only[Nd.den,valsOf,gB,aZ,GV.l.injEq]at g2;have:=T u g2.symm;subst this;exact M h r (by simp only[yF,h1,B,W]) (λh=>h)
      ·next id n=>
       split at o
       ·next m' et _ Z=>
        split at o
        ·next Q=>
         cases o;rw[aK]at Q;simp only[VR]at r;obtain⟨ys,k1,r⟩:=r;have U:=yU 100 Q.2 S k1;rcases r with⟨q,hq,ab,rfl⟩|⟨_,rfl,rfl⟩
         ·obtain⟨aq,j1,j2,j3,j4,j5,j6,j7,hS⟩:=Na h Z hq;rw[S]at j1;cases j1;have Y:bM t=dQ t:=by unfold bM;rw[RQ u]
          have ac:takeN (bM t) 0 t.length=some (dQ t):=by rw[Y];unfold takeN;rw[bK,lW (by rw[l9];omega),aj (l9 t)]
          rw[U]at ac;refine M (A:=.sl id 0 ys.length none) hS (by simp only[VR];exact⟨q,hq,by simpa using ab,by simp⟩) ?_ (λX=>aCy (λe=>by subst e;exact(h.at Z hq).Wq) Z hq S j2 j7 (Qs Z X));simp only[yF,h1,B,W,Et,ac,Oe u,gB]
         ·have N:t=[]:=jl (by simpa using U);have:=T u N;subst this;exact M h (A:=.gu) (by simp only[VR]) (by simp only[yF,h1,B,W]) (λh=>h)
        ·cases o
       ·cases o
      ·next id ar len av=>
       split at o
       ·next c et uD aw G ak Z ax az=>
        split at o
        ·next Q=>
         rw[aK,mY,aK]at Q;split at o
         ·next cs O=>
          split at o
          ·next ns al=>
           have ad:ak=false->G=1:=by
            intro e;subst e;rcases Q.2 with h1|h1
            ·simp at h1
            ·exact bH h1
           obtain⟨g,g1,g2⟩:=gQ o;rw[S]at g1;cases g1;simp only[VR]at r;obtain⟨q,hq,ab,rfl⟩:=r;obtain⟨q',ae,ws,ap,fr,af,rr⟩:=h.obj _ _ Z rfl;rw[hq]at ae;cases ae;have am:=(ru O).2.1;obtain⟨gs,k1,k2,k3,_,k5⟩:=E8 (H:=H) ad len al (rr.y7 O) am;simp only[Nd.den,k1,gB,aZ,GV.l.injEq]at g2;rw[g2]at k2 k3 k5;have an:len*G=len:=by
            cases len with
            |zero=>simp
            |succ n=>
             have ao:t[0]? =some (t[0]'(by omega)):=bP (by omega);have h5:=(k5 _ (qp ao)).1;have h6:(t[0]'(by omega)).cells.length=1:=by
              cases t with
              |nil=>simp at k2
              |cons y ys=>
               cases y with
               |i k n=>rfl
               |b=>simp[nD]at u
               |s=>simp[nD]at u
               |l=>simp[nD]at u
               |g=>simp[nD]at u
             rw[h6]at h5;rw[<-h5];simp
           have Y:bM t=dQ t:=by unfold bM;rw[RQ u]
           rw[Y]at k3;have N:=Og (Oe u) k3;rw[an]at O N;refine⟨.string ⟨⟨b⟩⟩,w,H,?_,St.refl h,?_⟩
           ·simp only[convert,aT,bf h1,bf B,aQ,bf W,Conv.bytesToString];rw[Ee af (rr.take O),N];simp only[aQ];rw[abo _ (λ_ _ _=>rfl)];rfl
           ·obtain⟨_,g2,_,F,V⟩:=mW (H:=H) D;simp only[Nd.den,S,aj aa,u,gB,aZ]at F;subst F;exact V _ rfl (by simp only[GR])
          ·cases o
         ·cases o
        ·cases o
       ·cases o
      ·cases o
     ·cases j
    ·cases j
   ·cases p
  ·cases p
 ·cases p
def Gu(ro:Qf)(w:World)(b:Nat):Nat->Option Obj:=λk=>if k=b then w.heap[b]? else ro k
def Vt{ro:Qf}{w:World}(h:∀b o,ro b=some o->w.heap[b]? =some o)(b:Nat):∀k o,ro k=some o->Gu ro w b k=some o:=by
 intro k o a;unfold Gu;split
 ·next e=>subst e;exact h _ _ a
 ·exact a
def St.freeze(h:SR P H J w){id:Nat}{o:bC}{q:Place}(n:J.get id=some o)(x:o.own=true)(y:J.lock<=id)(r:H id=some q):St P H J w ⟨H.pl,Gu H.ro w q.bl,H.gh⟩ (J.kill id) w:=by
 have c:(H:Env).le ⟨H.pl,Gu H.ro w q.bl,H.gh⟩:=⟨λ_ _ h=>h,Vt h.ji q.bl,λ_ h=>h⟩
 have sub:∀k u,(J.kill id).get k=some u->k≠id/\J.get k=some u:=by
  intro k u d;rw[aA.yL]at d;split at d
  ·cases d
  ·next e=>exact⟨e,d⟩
 refine⟨c,⟨h.nH,h.dom,λk u d=>?_,h.jT,λk u s t p z i f g j A B=>?_,λb u l=>?_,λk u p i f g=>?_,λp D=>(h.tabs p D).mono c⟩,dY _,λ_ _ _=>rfl,λk u p i f g j=>?_,rfl,rfl,rfl,rfl,dY _,λ_ h=>.inl h,λb l=>?_⟩
 ·exact(h.live k u (sub k u d).2).mono c
 ·exact h.sep k u s t p z (sub k u i).2 f (sub s t g).2 j A B
 ·have a:(if b=q.bl then w.heap[q.bl]? else H.ro b)=some u:=l;split at a
  ·next e=>rw[e];exact a
  ·exact h.ji b u a
 ·obtain⟨E,v⟩:=sub k u i;show(if p.bl=q.bl then w.heap[q.bl]? else H.ro p.bl)=none
  have m:=h.sep k u id o p q v f n E g r;rw[ah m];exact h.lS k u p v f g
 ·exact .inr ⟨k,u,p,(sub k u i).2,f,g,j,rfl⟩
 ·have a:(if b=q.bl then w.heap[q.bl]? else H.ro b)≠none:=l;split at a
  ·next e=>exact .inr (.inr ⟨id,o,q,n,x,y,r,e.symm⟩)
  ·exact .inl a
def GR.aae{H:Env}{w:World}{q:Place}{c:Q3}{u:TypeId}{v opn:Bool}{ro':Qf}(h:OR P H q w (.cells c u v opn))(g:∀b o,H.ro b=some o->ro' b=some o)(z:ro' q.bl=w.heap[q.bl]?){off n size cap:Nat}{cs:Q3}{gs:Q1}(i:takeN c off (n*size)=some cs)(l:gs.length=n)(d:n<=cap)(h0:0<size)
 (m:∀x∈gs,x.cells.length=size/\x.cells.all GV.scalar=true) (A:∀(H':Env) vs,(∀b o,H.ro b=some o->H'.ro b=some o)->aF H cs vs->aF H' (bM gs) vs):GR ro' (.l gs) (.slice (some ⟨q.bl,q.ba+off,none⟩) n cap):=by
 obtain⟨B,e,D,E,r⟩:=h;have F:=r.y7 i;have p:=r.take i;obtain⟨Q,S,T⟩:=ru i;have G:=A ⟨H.pl,ro',H.gh⟩ _ g F;obtain⟨I,s,t,L⟩:=ungroup gs _ G (λx M=>(m x M).2);simp only[GR];right;refine⟨q.bl,q.ba+off,cap,I,size,by rw[l],by rw[l];exact d,s,λy N=>?_,λj=>⟨B,e,D,by rw[z,E],?_,?_⟩⟩
 ·obtain⟨k,a⟩:=Nw N;have f:k<gs.length:=by rw[s.length];exact(fB.1 a).1
  rw[L k _ y (bP f) a];exact(m _ (dW f)).1
 ·rw[t];have O:0<gs.length:=EC.2 j;have U:0<n*size:=NI (by omega) h0;rw[kN,dH,JW];omega
 ·rw[t];intro k x a;rw[mG]at a;split at a
  ·rw[rF,vJ]at a;exact a
  ·cases a
def VR.afd(h:SR P H J w){id n m v:Nat}{f:Bool}{x:Value}{ro':Qf}(s:J.get id=some (.vec m v f))(y:vw 100 m n=true)(d:VR H (.sv id n) x)(e:∀b o,H.ro b=some o->ro' b=some o)(z:∀q,H id=some q->ro' q.bl=w.heap[q.bl]?):
 ∃i,aI.val m=some (.l i)/\GR ro' (.l i) x:=by
 simp only[VR]at d;obtain⟨i,A,d⟩:=d;rcases d with⟨q,a,j,rfl⟩|⟨k,rfl,rfl⟩
 ·obtain⟨l,t,u,G,B,I,L,D,E⟩:=(h.at s a).LW;have c:=yU 100 y t A;refine⟨l,t,?_⟩;have p:=Ip u;have:=GR.aae (ro':=ro') (off:=0) (n:=i.length) (size:=q.es) (cap:=q.sz/q.es) (cs:=bM l) (gs:=l) E e (z q a) (by unfold takeN;rw[bK,<-c,lW (by omega),aj p]) c j B (λx d=>⟨u x d,D x d⟩) (λM N e g=>by unfold bM at g⊢;exact(oH _ _).1 (aP.mono e _ _ ((oH _ _).2 g)))
  simpa using this
 ·rcases h.live id _ s with⟨q,a,_⟩|⟨_,O,Q,S,F,r⟩
  ·rw[(h.jT id k).1]at a;cases a
  ·cases F;exact⟨[],r,by simp[GR]⟩
def acR{H':Env}(a:H.le H'){o:Q4}{v:Wr}(h:lF H o v):lF H' o v:=by cases o<;>cases v<;>first|exact h|exact VR.mono a _ _ h
def St.axr(h:SR P H J w){id m d k:Nat}{f:Bool}(z:J.get id=some (.vec m d f))(g:H.gh id=true)(x:aI.val k=some (.l [])):St P H J w H (J.put id (.vec k d f)) w:=by
 have get:∀i u,(J.put id (.vec k d f)).get i=some u->(i=id/\u=.vec k d f)\/(i≠id/\J.get i=some u):=by
  intro i u hi;rw[aA.get_put]at hi;split at hi
  ·next e=>cases hi;exact .inl ⟨e,rfl⟩
  ·next e=>exact .inr ⟨e,hi⟩
 have a:∀q,H id≠some q:=λq o=>by rw[(h.jT id g).1]at o;cases o
 refine⟨Env.le.refl _,⟨h.nH,h.dom,λi u hi=>?_,h.jT,λi u p r q s j l c n t v=>?_,h.ji,λi u q j l c=>?_,h.tabs⟩,dY _,λ_ _ _=>rfl,λi u q j l c n=>?_,rfl,rfl,rfl,rfl,dY _,λ_ h=>.inl h,λ_ h=>.inl h⟩
 ·rcases get i u hi with⟨rfl,rfl⟩|⟨_,b⟩
  ·exact .inr ⟨g,k,d,f,rfl,x⟩
  ·exact h.live i u b
 ·rcases get i u j with⟨rfl,_⟩|⟨_,b⟩
  ·exact absurd t (a q)
  ·rcases get p r c with⟨rfl,_⟩|⟨_,y⟩
   ·exact absurd v (a s)
   ·exact h.sep i u p r q s b l y n t v
 ·rcases get i u j with⟨rfl,_⟩|⟨_,b⟩
  ·exact absurd c (a q)
  ·exact h.lS i u q b l c
 ·rcases get i u j with⟨rfl,_⟩|⟨_,b⟩
  ·exact absurd n (a q)
  ·exact .inr ⟨i,u,q,b,l,c,n,rfl⟩
def aBY(h:SR P H J w){t:TypeId}{a v:AV}{x:Value}{lo hi:Q4}{F G:Wr}(d:V3 P t J a lo hi=some (v,J'))(A:VR H a x)(N:lF H lo F)(O:lF H hi G):
 ∃y w' H',(Instr.sliceAt t x F G none).run P w=.ok y w'/\St P H J w H' J' w'/\VR H' v y:=by
 unfold V3 at d;split at d;rotate_left
 ·cases d
 next e id n hu=>
 split at d;rotate_left
 ·cases d
 next m et f Q s I=>
 split at d;rotate_left
 ·cases d
 next Z=>
 simp only[aK]at Z;obtain⟨⟨c1,c2⟩,c3⟩:=Z;have e1:=bH c1;subst e1;have S:=tq c3;cases lo with
 |some l0=>
  simp only at d;obtain⟨r,hr,e2⟩:=bg.1 d;cases e2;have T:∀U:Env,SR P U (J.kill id) w->St P H J w U (J.kill id) w->VR U (.nd m) x->∃y w' H',(Instr.sliceAt t x F G none).run P w=.ok y w'/\St P H J w H' (J.kill id) w'/\VR H' v y:=by intro U h1 b hv;obtain⟨y,k1,k2⟩:=ajC h1 hr hv (acR b.ext N) (acR b.ext O);exact⟨y,w,U,k1,b,k2⟩
  have B:=A;simp only[VR]at B;obtain⟨ys,k1,B⟩:=B;rcases B with⟨q,i,aa,_⟩|⟨D,_,_⟩
  ·have b:=St.freeze h s rfl S i;obtain⟨o,L,M⟩:=VR.afd (ro':=Gu H.ro w q.bl) h s c2 A (Vt h.ji q.bl) (λq' u=>by rw[i]at u;cases u;unfold Gu;rw[aj rfl]);exact T _ b.rel b (by simp only[VR];exact⟨_,L,rfl,M⟩)
  ·obtain⟨o,L,M⟩:=VR.afd (ro':=H.ro) h s c2 A (λ_ _ h=>h) (λq' u=>by rw[(h.jT id D).1]at u;cases u);have b:=(St.refl h).Uz id;exact T H b.rel b (by simp only[VR];exact⟨_,L,rfl,M⟩)
 |none=>
  simp only at d;split at d;rotate_left
  ·cases d
  next z hh h1 h2=>
  obtain⟨k,hk,e2⟩:=bg.1 d;cases e2;obtain⟨g,g1,g2⟩:=gQ hk;simp only[Nd.den]at g2;split at g2;rotate_left
  ·cases g2
  next p kl li kh c e3 e4 e5=>
  split at g2;rotate_left
  ·cases g2
  next Z=>
  cases g2;obtain⟨b1,b2,b3,b4⟩:=Z;have hz:li=0:=by obtain⟨gz,L,M⟩:=gQ h1;simp only[Nd.den,aZ]at M;subst M;rw[e4]at L;cases L;rfl
  subst hz;have ac:Ob (none:Q4)=some z:=h1;obtain⟨ad,ae,d1,d2,d3⟩:=abM (len:=p.length) ac h2 N O e4 e5 (λhd=>by simp only[Nd.den,e3,aZ,GV.i.injEq]at hd;exact hd.2.symm) b1 b2 b3;have al:(0:Int).toNat=0:=rfl;simp only[VR]at A;obtain⟨ys,y1,A⟩:=A;have E:=yU 100 c2 e3 y1;have af:(p.take c.toNat).drop (0:Int).toNat=p.take c.toNat:=by simp
  rw[af]at g1;have O9:c.toNat<=p.length:=by omega
  rcases A with⟨q,i,aa,rfl⟩|⟨D,rfl,rfl⟩
  ·have ag:=h.at s i;obtain⟨am,cs,V,fr,o,o1,o2,o3,o4,o5,o6,o7,o8,o9⟩:=ag;rw[e3]at o1;cases o1
   have hB:=ES (P:=P) (w:=w) (sl:=true) (cap:=q.sz/q.es) d3 (λk hk=>by have:k<=p.length:=by simpa using hk
                                                                       omega) (by omega) d1 d2
   have ai:0<q.es/\sizeT P e=some q.es:=⟨(o7.room rfl).2.1,(o7.room rfl).2.2⟩
   have an:Q=q.es:=by have:=ai.2;rw[I]at this;cases this;rfl
   have W:OR P H q w (.vec k e f):=by
    have ao:=o3.length;refine⟨p.take c.toNat,cs,V,fr,o.take c.toNat,g1,o2,?_,λy hy=>o4 y (Hg hy),?_,?_,o7,λx A=>o8 x (Hg A),o9⟩
    ·have:∀(p:Q1)(o:Q6)(n:Nat),aP H.ro p o->aP H.ro (p.take n) (o.take n):=by
      intro p;induction p with
      |nil=>intro o n s;simp only[aP]at s;subst s;simp[aP]
      |cons a l ih=>
       intro o n s;simp only[aP]at s;obtain⟨x,us,rfl,a1,a2⟩:=s;cases n with
       |zero=>simp[aP]
       |succ n=>simp only[AA,aP];exact⟨x,us.take n,rfl,a1,ih us n a2⟩
     exact this _ _ _ o3
    ·intro j x hj;refine o5 j x ?_;have X:(dS (o.take c.toNat)) <+: dS o:=by unfold dS;rw[show o=o.take c.toNat++o.drop c.toNat from(EF _ _).symm];rw[acE];simp only[EF];exact List.prefix_append _ _
     obtain⟨r,hr⟩:=X;rw[<-hr,ny (fB.1 hj).1];exact hj
    ·rw[kN];refine jP (vS _ (Nat.min_le_right _ _)) o6
   have b:=St.write h s rfl S i (w':=w) (o':=.vec k e f) rfl (λ_ _=>rfl) rfl rfl rfl W;refine⟨.slice (some ⟨q.bl,q.ba,none⟩) c.toNat (q.sz/q.es),w,H,?_,b,?_⟩
   ·rw[E]at hB;simp only[Instr.sliceAt,Instr.slice,bf hu,aT,aQ,hB.1,jd I,bF];by_cases e0:q.sz/q.es=0
    ·simp[e0]
    ·have e1:¬q.sz/q.es=(0:Int).toNat:=e0;rw[ah e1];simp[qy]
   ·simp only[VR];refine⟨p.take c.toNat,g1,.inl ⟨q,i,?_,?_⟩⟩
    ·rw[kN];omega
    ·rw[kN,Ho O9]
  ·have ak:p=[]:=jl (by simpa using E);subst ak;have ap:c.toNat=0:=by simpa using O9
   have hl:AY P t J .gu ad ae=some .gu:=by simp only[AY,hu,I];simp only[nZ]at d3;rw[d3];rfl
   obtain⟨y,u1,u2⟩:=VH h hl (show VR H .gu (.slice none 0 0) by simp only[VR]) d1 d2;simp only[VR]at u2;subst u2;have Y:aI.val k=some (.l []):=by rw[g1];simp
   refine⟨_,w,H,u1,St.axr h s D Y,?_⟩;simp only[VR];exact⟨[],Y,.inr ⟨D,by trivial,by trivial⟩⟩
def um(a:Wd):TypeDesc:=match a with
 |some k=>.int k
 |none=>.string
def Ux{s:TypeId}{k:AV}{n:Nat}{d:Wd}{y:Value}(h:Pq P s k=some (n,d))(t:VR H k y):
 P.underlying s=some (um d)/\∃g,aI.val n=some g/\zU d g/\GR H.ro g y:=by
 unfold Pq at h;split at h
 ·next v m f i=>
  split at h
  ·next z l=>
   obtain⟨j,o,e⟩:=bg.1 h;cases e;obtain⟨g,b,_,p⟩:=mD i t;obtain⟨u,q,c⟩:=gQ l;simp only[Nd.den,aZ]at c;subst c;obtain⟨r,_,a⟩:=gQ o;simp only[Nd.den,b,q]at a;refine⟨f,g,b,?_,p⟩;cases g<;>simp only[iD,gG,reduceCtorEq]at a
   split at a
   ·next e=>subst e;exact⟨_,rfl⟩
   ·cases a
  ·cases h
 ·next m f i=>
  split at h
  ·next z l=>
   obtain⟨j,o,e⟩:=bg.1 h;cases e;obtain⟨g,b,_,p⟩:=mD i t;obtain⟨u,q,c⟩:=gQ l;simp only[Nd.den,aZ]at c;subst c;obtain⟨r,_,a⟩:=gQ o;simp only[Nd.den,b,q]at a;refine⟨f,g,b,?_,p⟩;cases g<;>simp only[iD,xu,reduceCtorEq]at a
   exact⟨_,rfl⟩
  ·cases h
 ·cases h
def ai3{k:IntKind}{a b:Int}:Instr.sameNow (.int k) (.int k a) (.int k b)=some (a==b):=by simp[Instr.sameNow]
def ai5{a b:Q0}:Instr.sameNow .string (.string ⟨⟨a⟩⟩) (.string ⟨⟨b⟩⟩)=some (a==b):=by simp[Instr.sameNow,H8]
def afR{o:Wd}{n:Nat}{e:AV}{g:GV}{x y:Value}{b:Bool}(h:Zt n e=some b)(p:aI.val n=some g)(z:zU o g)(f:GR H.ro g y)(A:VR H e x):
 Instr.sameNow (um o) y x=some b:=by
 unfold Zt at h;split at h
 ·next m B=>
  obtain⟨i,q,_,l⟩:=mD B A;have s:∃r,(Nd.bin .eql n m).den aI.I aI.val=some r/\r=.b b:=by
   split at h
   ·next D t=>
    cases h;obtain⟨j,r,E,d,u⟩:=mW (H:=H) t;refine⟨r,d,?_⟩;simp only[Nd.den,p,q]at d;have:∃c,r=.b c:=by
     cases g<;>cases i<;>simp only[iD,reduceCtorEq]at d
     ·split at d
      ·simp only[gG,aZ]at d;exact⟨_,d.symm⟩
      ·cases d
     ·simp only[xu,aZ]at d;exact⟨_,d.symm⟩
    obtain⟨c,rfl⟩:=this;have:=u (.bool c) rfl (by simp only[GR]);simp only[VR]at this;cases this;rfl
   ·next j t=>
    split at h
    ·next D F=>
     cases h;obtain⟨M,r,E,d,u⟩:=mW (H:=H) t;refine⟨r,d,?_⟩;simp only[Nd.den,p,q]at d;have:∃c,r=.b c:=by
      cases g<;>cases i<;>simp only[iD,reduceCtorEq]at d
      ·split at d
       ·simp only[gG,aZ]at d;exact⟨_,d.symm⟩
       ·cases d
      ·simp only[xu,aZ]at d;exact⟨_,d.symm⟩
     obtain⟨c,rfl⟩:=this;have G:=u (.bool c) rfl (by simp only[GR]);obtain⟨v,I,L⟩:=Iz F;cases I;have:=L H _ G;simp only[VR]at this;cases this;rfl
    ·cases h
   ·cases h
  obtain⟨r,d,rfl⟩:=s;simp only[Nd.den,p,q]at d;cases o with
  |some k=>
   obtain⟨a,rfl⟩:=z;simp only[GR]at f;subst f;cases i<;>simp only[iD,reduceCtorEq]at d
   split at d
   ·next e=>
    subst e;simp only[gG,aZ,GV.b.injEq]at d;simp only[GR]at l;subst l;show Instr.sameNow (.int _) _ _=_
    rw[ai3,d]
   ·cases d
  |none=>
   obtain⟨a,rfl⟩:=z;simp only[GR]at f;subst f;cases i<;>simp only[iD,xu,reduceCtorEq]at d
   simp only[aZ,GV.b.injEq]at d;simp only[GR]at l;subst l;show Instr.sameNow .string _ _=_
   rw[ai5,d]
 ·cases h
def OX{o:Wd}{n:Nat}{g:GV}{y:Value}(f:aI.val n=some g)(j:zU o g)(k:GR H.ro g y):∀{es:X2}{b:List MapEntry}{i:Nat}{r:Option (Nat×AV)},
 La n es i=some r->AB H es b->∃d,Instr.findNow (um o) y b i=some d/\(match r,d with|none,none=>True|some (_,v),some (_,z)=>VR H v z|_,_=>False)
 |[],b,i,r,h,l=>by
  simp only[La,aZ]at h;subst h;have:b=[]:=by have:=l.1;cases b<;>simp_all
  subst this;exact⟨none,rfl,trivial⟩
 |e::es,b,i,r,h,l=>by
  obtain⟨m,p,rfl,q,s,t⟩:=l.tail;unfold La at h;split at h
  ·next a=>
   cases h;have a:=afR a f j k q;exact⟨some (i,m.val),by simp[Instr.findNow,a],s⟩
  ·next a=>
   have a:=afR a f j k q;obtain⟨d,u,c⟩:=OX f j k h t;exact⟨d,by simp[Instr.findNow,a,u],c⟩
  ·cases h
def ai4{b:Wd}{g a:GV}{y x:Value}{ro:Qf}(e:zU b g)(f:zU b a)(c:GR ro g y)(d:GR ro a x):Instr.sameNow (um b) y x=some (oP g a):=by
 cases b with
 |some k=>
  obtain⟨m,rfl⟩:=e;obtain⟨n,rfl⟩:=f;simp only[GR]at c d;subst c;subst d;show Instr.sameNow (.int _) _ _=_
  rw[ai3];simp[oP]
 |none=>
  obtain⟨m,rfl⟩:=e;obtain⟨n,rfl⟩:=f;simp only[GR]at c d;subst c;subst d;show Instr.sameNow .string _ _=_
  rw[ai5];rfl
def TD{ro:Qf}{e:Wd}{sz:QR}{g:GV}{y:Value}(n:zU e g)(o:GR ro g y):∀{xs:Q1}{c:List MapEntry}{i:Nat},rG ro e sz xs c->
 (iI g xs=none/\Instr.findNow (um e) y c i=some none)\/∃u j z,iI g xs=some u/\Instr.findNow (um e) y c i=some (some (j,z))/\i<=j/\(∃m,c[j-i]? =some m/\Instr.sameNow (um e) y m.key=some true)/\Nb sz u/\GR ro u z
 |[],c,i,h=>by simp only[rG]at h;subst h;exact .inl ⟨rfl,rfl⟩
 |x::xs,c,i,h=>by
  obtain⟨a,b,m,rest,rfl,rfl,h1,p,q,r,h5⟩:=h;have d:=ai4 n h1 o q;cases f:oP g a with
  |true=>rw[f]at d;exact .inr ⟨b,i,m.val,by simp[iI,f],by simp[Instr.findNow,d],dY _,⟨m,by simp,d⟩,p,r⟩
  |false=>
   rw[f]at d;rcases TD (i:=i+1) n o h5 with⟨k,l⟩|⟨u,j,z,k,l,B,⟨s,t,v⟩,A⟩
   ·exact .inl ⟨by simp[iI,f,k],by simp[Instr.findNow,d,l]⟩
   ·refine .inr ⟨u,j,z,by simp[iI,f,k],by simp[Instr.findNow,d,l],by omega,⟨s,?_,v⟩,A⟩;have:j-i=(j-(i+1))+1:=by omega
    rw[this];simpa using t
def ah6{ro:Qf}{f:Wd}{sz:QR}{g u:GV}{e:MapEntry}(i:zU f g)(j:Nb sz u)(h1:GR ro g e.key)(k:GR ro u e.val):∀{xs:Q1}{c:List MapEntry},rG ro f sz xs c->iI g xs=none->
 rG ro f sz (lQ g u xs) (c++[e])
 |[],c,h,_=>by simp only[rG]at h;subst h;exact⟨g,u,e,[],rfl,rfl,i,j,h1,k,rfl⟩
 |x::xs,c,h,d=>by
  obtain⟨a,b,m,rest,rfl,rfl,q1,l,n,o,p⟩:=h;simp only[iI]at d;split at d
  ·cases d
  ·next q=>
   simp only[lQ,ah q];exact⟨a,b,m,rest++[e],rfl,rfl,q1,l,n,o,ah6 i j h1 k p d⟩
def ah7{ro:Qf}{k:Wd}{sz:QR}{g u:GV}{y p:Value}(l:zU k g)(r:Nb sz u)(h1:GR ro g y)(s:GR ro u p):∀{xs:Q1}{d:List MapEntry}{i j:Nat}{z:Value},rG ro k sz xs d->Instr.findNow (um k) y d i=some (some (j,z))->
 rG ro k sz (lQ g u xs) (d.modify (j-i) λe=>{e with key:=y,val:=p})
 |[],d,i,j,z,h,c=>by simp only[rG]at h;subst h;simp[Instr.findNow]at c
 |x::xs,d,i,j,z,h,c=>by
  obtain⟨a,b,m,f,rfl,rfl,t,A,v,B,q⟩:=h;have n:=ai4 l t h1 v;cases o:oP g a with
  |true=>rw[o]at n;simp only[Instr.findNow,n,aZ,og]at c;obtain⟨rfl,rfl⟩:=c;simp only[lQ,o,if_true,AL];exact⟨g,u,{m with key:=y,val:=p},f,rfl,by simp,l,r,h1,s,q⟩
  |false=>
   rw[o]at n;simp only[Instr.findNow,n]at c;have E:i+1<=j:=by
    rcases TD (i:=i+1) l h1 q with⟨_,r2⟩|⟨_,F,_,_,r2,r3,_⟩
    ·rw[c]at r2;cases r2
    ·rw[c]at r2;cases r2;exact r3
   have D:=ah7 l r h1 s q c;have e:j-i=(j-(i+1))+1:=by omega
   rw[e];simp only[lQ,o,gy,if_false,List.modify_succ_cons];exact⟨a,b,m,_,rfl,rfl,t,A,v,B,D⟩
def SC{c:TypeId}{d:Wd}{g:GV}{y:Value}(e:P.underlying c=some (um d))(f:zU d g)(a:GR H.ro g y)(b:Bool):(Instr.checkKey b 10000 c y).run P w=.ok () w:=by
 have h:∀n:Nat,(Instr.checkKey b (n+1) c y).run P w=.ok () w:=λn=>by
  cases d with
  |some k=>obtain⟨m,rfl⟩:=f;simp only[GR]at a;subst a;simp only[Instr.checkKey,aT,bf e,aQ,um,bF]
  |none=>obtain⟨m,rfl⟩:=f;simp only[GR]at a;subst a;simp only[Instr.checkKey,aT,bf e,aQ,um,bF]
 exact h 9999
def aj7{a:TypeId}{v:AV}{n:Nat}{sz:QR}{x:Value}(h:Qw P a v=some (n,sz))(j:VR H v x):∃g,aI.val n=some g/\Nb sz g/\GR H.ro g x/\(match oO P a with
 |some true=>∃k,sizeT P a=some k/\sz=some k
 |some false=>sz=none
 |none=>False):=by
 unfold Qw at h;split at h
 ·next b=>
  split at h
  ·next m k c o=>
   split at h
   ·next p=>
    cases h;obtain⟨l,q,rfl,d,f,i,r⟩:=Kt c j;rw[b];refine⟨_,f,⟨q,rfl,?_,i⟩,r,k,o,rfl⟩;rw[d];exact bH p
   ·cases h
  ·cases h
 ·next b=>
  obtain⟨m,c,e⟩:=bg.1 h;cases e;obtain⟨g,d,f,i⟩:=mD c j;rw[b];exact⟨g,d,f,i,rfl⟩
 ·cases h
def UA{a b:Wd}(h:LK a b=true):a=b:=by
 cases a<;>cases b<;>simp only[LK]at h
 ·rfl
 ·cases h
 ·cases h
 ·rw[Ut h]
def abN{a b:QR}(h:Qq a b=true):a=b:=by
 cases a<;>cases b<;>simp only[Qq]at h
 ·rfl
 ·cases h
 ·cases h
 ·rw[bH h]
def acd{a:TypeId}{z:AV}(h:QA P a=some z):∃x,(zeroValue a).run P w=.ok x w/\VR H z x:=by
 unfold QA at h;split at h
 ·next i hi=>
  split at h
  ·next x b=>
   obtain⟨c,d⟩:=WB (w:=w) (H:=H) hi b h;exact⟨x,c,d⟩
  ·cases h
 ·cases h
def atb:∀(cs:Q1)(n:Nat),cs.length=n->takeN (dQ cs) 0 n=some (dQ cs):=by
 intro cs n a;have b:(dQ cs).length=n:=by rw[l9,a]
 simp only[takeN,bK];rw[lW (by omega),aj b]
def fJ(s:ByteArray):∀(l:List MapEntry)(i:Nat),(∀m∈l,∃t,m.key=.string t)->
 (∃j m,Instr.findNow .string (.string s) l i=some (some (j,m.val))/\m∈l/\m.key=.string s)\/(Instr.findNow .string (.string s) l i=some none/\∀m∈l,m.key≠.string s)
 |[],i,_=>.inr ⟨rfl,λm k=>by simp at k⟩
 |m::l,i,h=>by
  obtain⟨t,n⟩:=h m (by simp);have f:Instr.sameNow .string (.string s) m.key=some (s==t):=by rw[n];rfl
  have g:(s==t)=decide (s=t):=by
   obtain⟨⟨a⟩⟩:=s;obtain⟨⟨b⟩⟩:=t;rw[H8];by_cases c:a=b
   ·subst c;simp
   ·rw[zF (by simpa using c)];simpa using c
  by_cases c:s=t
  ·subst c;rw[g,Bh rfl]at f;exact .inl ⟨i,m,by simp[Instr.findNow,f],by simp,n⟩
  ·rw[g,zF c]at f;rcases fJ s l (i+1) (λm k=>h m (by simp[k]))with⟨j,o,p,q,r⟩|⟨p,q⟩
   ·exact .inl ⟨j,o,by simp[Instr.findNow,f,p],by simp[q],r⟩
   ·refine .inr ⟨by simp[Instr.findNow,f,p],λo d=>?_⟩;simp only[bD]at d;rcases d with rfl|d
    ·rw[n];simpa using λe=>c e.symm
    ·exact q o d
def ae4(s:ByteArray){l c:List MapEntry}(f:l.Perm c)(o:∀m∈c,∃t,m.key=.string t)(i:(c.map (·.key)).Nodup){r:Option (Nat×Value)}(h:Instr.findNow .string (.string s) c 0=some r):
 ∃x,Instr.findNow .string (.string s) l 0=some x/\(match r,x with|none,none=>True|some (_,v),some (_,z)=>v=z|_,_=>False):=by
 have g:∀m∈l,∃t,m.key=.string t:=λm hm=>o m (f.mem_iff.1 hm);have p:∀m∈c,∀d∈c,m.key=d.key->m=d:=by
  clear f o h g;induction c with
  |nil=>intro m hm;simp at hm
  |cons a l B=>
   simp only[gX,List.nodup_cons,nR,not_exists,not_and]at i;intro m hm d b e;simp only[bD]at hm b;rcases hm with rfl|hm<;>rcases b with rfl|b
   ·rfl
   ·exact absurd e.symm (i.1 d b)
   ·exact absurd e (i.1 m hm)
   ·exact B i.2 m hm d b e
 rcases fJ s c 0 o with⟨j,m,q,k,y⟩|⟨q,k⟩<;>rcases fJ s l 0 g with⟨D,d,u,n,A⟩|⟨u,n⟩
 ·rw[q]at h;cases h;refine⟨_,u,?_⟩;have:=p m k d (f.mem_iff.1 n) (by rw[y,A]);subst this;rfl
 ·exact absurd y (n m (f.mem_iff.2 k))
 ·exact absurd A (k d (f.mem_iff.1 n))
 ·rw[q]at h;cases h;exact⟨_,u,trivial⟩
def aBW(h:SR P H J w){t:TypeId}{m k v:AV}{x y:Value}{ok:Bool}(c:VX P t m k ok J=some v)(hx:VR H m x)(hy:VR H k y):
 ∃z,(Instr.lookup t x y ok).run P w=.ok z w/\VR H v z:=by
 unfold VX at c;split at c;rotate_left
 ·cases c
 next D et id hu=>
 simp only[VR]at hx;obtain⟨q,hq,rfl⟩:=hx;split at c
 ·next n kk es hn hg=>
  obtain⟨I,g,g1,g2,G⟩:=Ux hn hy;obtain⟨q',f,E,L,hb,M,Z⟩:=h.obj _ _ hg rfl;rw[hq]at f;cases f;have N:AB H es E.toList:=⟨by simpa using M,λk e hk=>by obtain⟨m,T,o,A⟩:=Z k e hk;exact⟨m,by simpa using T,o,A⟩⟩
  rw[UL hu y ok hb];have l:∀b,(Instr.checkKey b 10000 D y).run P w=.ok () w:=λb=>SC I g2 G b;split at c
  ·next j u U=>
   cases c;obtain⟨V,o,A⟩:=OX g1 g2 G U N;cases V with
   |none=>exact A.elim
   |some p=>
    obtain⟨j',z⟩:=p;have d:(Instr.findKey D y E.toList).run P w=.ok (some (j',z)) w:=by simp only[Instr.findKey,aT,bf I,aQ,o,bF]
    refine⟨if ok then .tuple #[z,.bool true]else z,?_,?_⟩
    ·simp only[sD,aT,aQ,l,d,bF]
    ·cases ok
     ·simpa using A
     ·simp only[VR];exact⟨[z,.bool true],rfl,aF.cons A (aF.cons (by simp[VR]) (by simp[aF]))⟩
  ·next U=>
   obtain⟨V,o,A⟩:=OX g1 g2 G U N;cases V with
   |some p=>exact A.elim
   |none=>
    have d:(Instr.findKey D y E.toList).run P w=.ok none w:=by simp only[Instr.findKey,aT,bf I,aQ,o,bF]
    obtain⟨a,ha,rfl⟩:=bg.1 c;obtain⟨z,h3,O⟩:=acd (w:=w) (H:=H) ha;refine⟨if ok then .tuple #[z,.bool false]else z,?_,?_⟩
    ·simp only[sD,aT,aQ,l,d,h3,bF]
    ·cases ok
     ·simpa using O
     ·simp only[VR];exact⟨[z,.bool false],rfl,aF.cons O (aF.cons (by simp[VR]) (by simp[aF]))⟩
  ·cases c
 ·next n kk es hn hg=>
  obtain⟨I,g,g1,g2,G⟩:=Ux hn hy;obtain⟨q',f,ak,E,L,F,hb,aa,M,Z⟩:=h.obj _ _ hg rfl;rw[hq]at f;cases f;split at c;rotate_left
  ·cases c
  next W=>
  have:=UA W;subst this;have N:AB H (es.map λe=>(AV.s e.1,e.2)) F:=⟨by simpa using M,λk e hk=>by rw[iw]at hk;obtain⟨e0,O,rfl⟩:=bg.1 hk;obtain⟨m,T,o,A⟩:=Z k e0 O;exact⟨m,T,by simp only[VR];exact o,A⟩⟩
  have Q:F.map (·.key)=es.map λe=>Value.string ⟨⟨e.1⟩⟩:=by
   apply J4;intro k;rw[iw,iw];cases he:es[k]? with
   |none=>
    have:F[k]? =none:=by rw[List.getElem?_eq_none_iff]at he⊢;omega
    rw[this];rfl
   |some e=>obtain⟨m,T,o,_⟩:=Z k e he;rw[T];simp[o]
  have ab:∀m∈F,∃t,m.key=.string t:=λm T=>by have:m.key∈F.map (·.key):=acL T;rw[Q]at this;obtain⟨e,_,o⟩:=nR.1 this;exact⟨_,o.symm⟩
  have ac:(F.map (·.key)).Nodup:=by
   rw[Q];have:(es.map λe=>Value.string ⟨⟨e.1⟩⟩)=(es.map (·.1)).map λs=>Value.string ⟨⟨s⟩⟩:=by simp
   rw[this];refine List.Pairwise.map _ (λa b al hc=>al ?_) ak;simpa using hc
  obtain⟨s,am,ax⟩:∃s,y=.string s/\True:=by obtain⟨s0,rfl⟩:=g2;simp only[GR]at G;exact⟨_,G,trivial⟩
  subst am;rw[UL hu _ ok hb];have l:∀b,(Instr.checkKey b 10000 D (.string s)).run P w=.ok () w:=λb=>SC I g2 G b;split at c
  ·next j u U=>
   cases c;obtain⟨V,o,A⟩:=OX g1 g2 G U N;cases V with
   |none=>exact A.elim
   |some p=>
    obtain⟨j',z⟩:=p;obtain⟨r2,h3,O⟩:=ae4 s aa ab ac o;cases r2 with
    |none=>exact O.elim
    |some p2=>
    obtain⟨j2,z2⟩:=p2;have O:z=z2:=O;subst O;have d:(Instr.findKey D (.string s) E.toList).run P w=.ok (some (j2,z)) w:=by simp only[Instr.findKey,aT,bf I,aQ,um,h3,bF]
    refine⟨if ok then .tuple #[z,.bool true]else z,?_,?_⟩
    ·simp only[sD,aT,aQ,l,d,bF]
    ·cases ok
     ·simpa using A
     ·simp only[VR];exact⟨[z,.bool true],rfl,aF.cons A (aF.cons (by simp[VR]) (by simp[aF]))⟩
  ·next U=>
   obtain⟨V,o,A⟩:=OX g1 g2 G U N;cases V with
   |some p=>exact A.elim
   |none=>
    obtain⟨r2,h3,O⟩:=ae4 s aa ab ac o;cases r2 with
    |some p2=>exact O.elim
    |none=>
    have d:(Instr.findKey D (.string s) E.toList).run P w=.ok none w:=by simp only[Instr.findKey,aT,bf I,aQ,um,h3,bF]
    obtain⟨a,ha,rfl⟩:=bg.1 c;obtain⟨z,h5,h6⟩:=acd (w:=w) (H:=H) ha;refine⟨if ok then .tuple #[z,.bool false]else z,?_,?_⟩
    ·simp only[sD,aT,aQ,l,d,h5,bF]
    ·cases ok
     ·simpa using h6
     ·simp only[VR];exact⟨[z,.bool false],rfl,aF.cons h6 (aF.cons (by simp[VR]) (by simp[aF]))⟩
  ·cases c
 ·next n kk j DR sz hn hg=>
  obtain⟨I,g,g1,g2,G⟩:=Ux hn hy;obtain⟨q',f,xs,E,L,hv,hb,Z⟩:=h.obj _ _ hg rfl;rw[hq]at f;cases f;rw[UL hu y ok hb];have l:∀b,(Instr.checkKey b 10000 D y).run P w=.ok () w:=λb=>SC I g2 G b;split at c;rotate_left
  ·cases c
  next W=>
  have:=UA W;subst this;split at c;rotate_left
  ·cases c
  next zn az hz=>
  split at c;rotate_left
  ·cases c
  next M=>
  have:=abN M;subst this;obtain⟨za,an,ao⟩:=xH.1 hz;obtain⟨zv,z1,z2⟩:=acd (w:=w) (H:=H) an;obtain⟨zg,z3,z4,z5,z6⟩:=aj7 ao z2;split at c;rotate_left
  ·cases c
  next u ap=>
  obtain⟨jn,hj,X⟩:=xH.1 ap;obtain⟨rg,r1,r2⟩:=gQ hj;simp only[Nd.den,z3,hv,g1,aZ]at r2;have ad:∀(z:Value)(b:Bool),Nb sz rg->GR H.ro rg z->(iI g xs).isSome=b->sD D et y ok E=sD D et y ok E->(sD D et y ok E).run P w=.ok (if ok then .tuple #[z,.bool b]else z) w->∃z,(sD D et y ok E).run P w=.ok z w/\VR H v z:=by
   intro z b ae Y aq _ B;have af:VR H u z:=by
    obtain⟨r,S,q2⟩:=abL (H:=H) r1 X;cases ai:oO P et with
    |none=>rw[ai]at z6;exact z6.elim
    |some ag=>
     rw[ai]at z6 S;cases ag with
     |true=>obtain⟨kn,k1,k2⟩:=z6;subst k2;obtain⟨cs,rfl,c1,c2⟩:=ae;simp only[k1,GV.cells,atb cs kn c1,gB,aZ]at S;subst S;apply q2;simp only[GR]at Y;obtain⟨vs,rfl,ar⟩:=Y;simp only[VR];exact⟨vs,rfl,(oH _ _).1 ar⟩
     |false=>
      simp only at z6;subst z6;have av:rg.scalar=true:=ae;have hc:rg.cells=[rg]:=by cases rg<;>first|rfl|(simp[GV.scalar]at av)
      simp only[hc,O1,kW,gB,aZ]at S;subst S;exact q2 _ ((lV _ _).1 Y)
   cases ok with
   |false=>simp only[gy,if_false,aZ]at c B;subst c;exact⟨z,B,af⟩
   |true=>
    simp only[if_true]at c B;split at c
    ·next bb aw=>
     cases c;obtain⟨_,gb,_,b2,b3⟩:=mW (H:=H) aw;simp only[Nd.den,hv,g1,aZ]at b2;subst b2;refine⟨_,B,?_⟩;simp only[VR];exact⟨[z,.bool b],rfl,aF.cons af (aF.cons (b3 _ rfl (by simp only[GR];rw[aq])) (by simp[aF]))⟩
    ·cases c
  rcases TD (i:=0) g2 G Z with⟨S,q2⟩|⟨u',j',z,S,q2,_,_,q5,q6⟩
  ·have d:(Instr.findKey D y E.toList).run P w=.ok none w:=by simp only[Instr.findKey,aT,bf I,aQ,q2,bF]
   rw[S,xI]at r2;subst r2;refine ad zv false z4 z5 (by rw[S];rfl) rfl ?_;simp only[sD,aT,aQ,l,d,z1,bF]
  ·have d:(Instr.findKey D y E.toList).run P w=.ok (some (j',z)) w:=by simp only[Instr.findKey,aT,bf I,aQ,q2,bF]
   rw[S,qP]at r2;subst r2;refine ad z true q5 q6 (by rw[S];rfl) rfl ?_;simp only[sD,aT,aQ,l,d,bF]
 ·cases c
def aA6{d:Wd}{g a:GV}{y x:Value}(f:zU d g)(c:GR H.ro g y)(b:Instr.sameNow (um d) y x=some true)(n:Nat):Instr.sameBits (n+1) x y=true:=by
 cases d with
 |some k=>
  obtain⟨m,rfl⟩:=f;simp only[GR]at c;subst c;cases x<;>simp only[Instr.sameNow,um,reduceCtorEq]at b
  split at b
  ·next e=>subst e;simp at b;subst b;simp[Instr.sameBits]
  ·cases b
 |none=>
  obtain⟨m,rfl⟩:=f;simp only[GR]at c;subst c;cases x<;>simp only[Instr.sameNow,um,reduceCtorEq]at b
  next s=>
  obtain⟨⟨l⟩⟩:=s;rw[H8]at b;simp only[Instr.sameBits,H8];simp_all
def ajB(h:SR P H J w){t:TypeId}{m k v:AV}{x y z:Value}(d:VZ P t m k v J=some J')(hx:VR H m x)(hy:VR H k y)(hz:VR H v z):
 ∃w',(Instr.mapUpdate t x y z).run P w=.ok () w'/\St P H J w H J' w':=by
 unfold VZ at d;split at d;rotate_left
 ·cases d
 next U et id hu=>
 simp only[VR]at hx;obtain⟨q,Q,rfl⟩:=hx;split at d;rotate_left
 ·cases d
 next S=>
 have S:=tq S
 have r:∀(o:bC)(n:Nat)(s:Wd)(u:Nat)(A:QR)(j D:Nat)(G:Q1)(c:Array MapEntry)(b:Nat),J.get id=some o->o.own=true->Pq P U k=some (n,s)->Qw P et v=some (u,A)->
  aI.val j=some (.l G)->w.heap[q.bl]? =some (.map c b)->rG H.ro s A G c.toList->fG (.BK j n u)=some D->∃w',(Instr.mapUpdate t (.map (some q.bl)) y z).run P w=.ok () w'/\St P H J w H (J.put id (.smap D s A)) w':=by
  intro o n s u A j D G c b B ho I f V p F L;obtain⟨W,g,g1,g2,M⟩:=Ux I hy;obtain⟨ug,u1,u2,u3,_⟩:=aj7 f hz;obtain⟨rg,r1,r2⟩:=gQ L;simp only[Nd.den,V,g1,u1,aZ]at r2;subst r2;have N:=SC (w:=w) W g2 M false;have O:(getObj q.bl).run P w=.ok (.map c b) w:=by simp[getObj,Sem.run,p]
  rcases TD (i:=0) g2 M F with⟨q1,T⟩|⟨u',i,zz,q1,T,_,⟨m',q3,q4⟩,q5,q6⟩
  ·have E:(Instr.findKey U y c.toList).run P w=.ok none w:=by simp only[Instr.findKey,aT,bf W,aQ,T,bF]
   refine⟨nK w q.bl (.map (c.push {key:=y,val:=z,born:=b}) (b+1)),?_,St.write h B ho S Q Eh (λk X=>Ef X) rfl rfl rfl ?_⟩
   ·simp only[Instr.mapUpdate,aT,bf hu,aQ,O,N,E];exact MN p (by simp)
   ·refine⟨_,_,b+1,r1,BZ p,?_⟩;rw[Array.toList_push];exact ah6 g2 u2 M u3 F q1
  ·have E:(Instr.findKey U y c.toList).run P w=.ok (some (i,zz)) w:=by simp only[Instr.findKey,aT,bf W,aQ,T,bF]
   rw[AO,vJ]at q3;have Zd:(Instr.keyThatStays (((c[i]?).map (·.key)).getD y) y).run P w=.ok y w:=by rw[q3];simp only[gB,qP,Instr.keyThatStays];rw[aj (aA6 (a:=g) g2 M q4 9999)];rfl
   refine⟨nK w q.bl (.map (c.modify i λe=>{e with key:=y,val:=z}) b),?_,St.write h B ho S Q Eh (λk X=>Ef X) rfl rfl rfl ?_⟩
   ·simp only[Instr.mapUpdate,aT,bf hu,aQ,O,N,E,Zd];exact MN p (by simp)
   ·refine⟨_,_,b,r1,BZ p,?_⟩;rw[Array.toList_modify];have:=ah7 (i:=0) g2 u2 M u3 F T;rwa [AO]at this
 split at d
 ·next n s u A I f B=>
  split at d
  ·next j V=>
   obtain⟨D,L,rfl⟩:=bg.1 d;obtain⟨q',l,c,b,p,Y,F⟩:=h.obj _ _ B rfl;rw[Q]at l;cases l;obtain⟨gl,l1,l2⟩:=gQ V;simp only[Nd.den,valsOf,gB,aZ]at l2;subst l2;refine r _ n s u A j D [] c b B rfl I f l1 p ?_ L;simp only[rG];have:c.size=0:=by simpa using Y
   simpa using ace this
  ·cases d
 ·next n s u A j DR aa I f B=>
  split at d
  ·next Z=>
   rw[aK]at Z;have e1:=UA Z.1;have e2:=abN Z.2;subst e1;subst e2;obtain⟨D,L,rfl⟩:=bg.1 d;obtain⟨q',l,G,c,b,hv,p,F⟩:=h.obj _ _ B rfl;rw[Q]at l;cases l;exact r _ n s u A j D G c b B rfl I f hv p F L
  ·cases d
 ·cases d
def au8{v:AV}{x:Value}(h:mapArg v=true)(c:VR H v x):∃k n,x=.int k n:=by
 unfold mapArg at h;split at h
 ·next n=>
  split at h
  ·next a d=>
   obtain⟨g,i,b⟩:=aI.qI _ _ d (by simp);simp only[VR]at c;obtain⟨m,e,_,f⟩:=c;rw[i]at e;cases e;simp only[Nd.den]at b;split at b
   ·cases b;simp only[GR]at f;exact⟨_,_,f⟩
   ·cases b
  ·cases h
 ·next j=>
  obtain⟨n,d⟩:=akB.1 h;obtain⟨k,l⟩:=zo d c;exact⟨k,n,l⟩
def agb{e:TypeId}{size len m:Nat}{cs:Q3}{vs:Q6}(h:UH P e size len cs=some m)(j:aF H cs vs):0<size/\0<len/\cs.length=len*size/\∃gs,aI.val m=some (.l gs)/\gs.length=len/\aF H (bM gs) vs/\∀x∈gs,x.cells.length=size/\x.cells.all GV.scalar=true:=by
 unfold UH at h;split at h;rotate_left
 ·cases h
 split at h;rotate_left
 ·cases h
 next c q=>
 split at h;rotate_left
 ·cases h
 next i=>
 simp only[aK,mY,jm]at i;obtain⟨⟨h1,k⟩,b⟩:=i;have b:=bH b;have a:0<size:=by
  rcases h1 with⟨_,h1⟩|h1
  ·exact h1
  ·have:=bH h1;omega
 have d:c=false->size=1:=by
  intro e;rcases h1 with⟨h1,_⟩|h1
  ·rw[e]at h1;cases h1
  ·exact bH h1
 split at h
 ·next r f=>
  obtain⟨gs,l,n,o,_,p⟩:=E8 d len f j b;obtain⟨g,g1,g2⟩:=gQ h;simp only[Nd.den,l,gB,aZ]at g2;subst g2;exact⟨a,k,b,gs,g1,n,o,p⟩
 ·cases h
def auQ{R:Prop}{t e:TypeId}{size bytes len:Nat}{z:Q3}{D:Wf}{qs:Array (Nat×Value)}{cs:Q3}
 (b:∀(v:AV)(τ:aA),UJ P J e size len cs=(some v,τ)->(∃y w' H',(Instr.buildSlice t len qs).run P w=.ok y w'/\St P H J w H' τ w'/\VR H' v y)->R)
 (h:SR P H J w) (hi:wJ P t=some (e,size,bytes,z)) (g:¬len*size>2^24) (n:AQ (λi=>some (i*size,size)) (if len*size=0 then[]else jv len z) D=some cs) (E:CV H D qs.toList):R:=by
 unfold UJ at b;split at b;rotate_left
 ·exact b _ _ rfl (alm h hi g n E)
 next m d=>
 refine b _ _ rfl ?_;obtain⟨I,_,L,M,o,p⟩:=Bl hi;obtain⟨X,N,q⟩:=Gw L;have a:0<size/\0<len:=by
  unfold UH at d;split at d;rotate_left
  ·cases d
  split at d;rotate_left
  ·cases d
  next O Y=>
  split at d;rotate_left
  ·cases d
  next r=>
  simp only[aK,mY,jm]at r;refine⟨?_,r.1.2⟩;rcases r.1.1 with⟨_,h1⟩|h1
  ·exact h1
  ·have:=bH h1;omega
 have F:¬len*size=0:=by have:=NI a.2 a.1;omega
 simp only[F,if_false]at n;obtain⟨l,Q,k⟩:=KZ n E (QB (q H) o);have s:=k.length;have u:=Dj h (c:=cs) (xs:=l) (elem:=e) (es:=size) (opn:=true) (by rw[s,pq];exact k) (by simpa using J6 s) (by simp) (λ_=>⟨M,a.1,p⟩);obtain⟨_,_,x,Z,g1,g2,_,S⟩:=agb d k;have A:l.size=len*size:=by rw[<-x,s];simp
 have j:l.size/size=len:=by rw[A];exact acQ _ a.1
 obtain⟨T,U⟩:=St.yw (f:=false) (size:=size) (y:=.slice (some ⟨w.heap.size,0,none⟩) len len) u g1 S p (λvs B=>by
  obtain⟨_,_,_,V,G,_,W,_⟩:=agb d B;rw[g1]at G;cases G;exact W) (by
  simp only[VR];refine⟨⟨w.heap.size,0,l.size,size⟩,by simp[Env.put],?_,?_⟩
  ·simp only[xI,AO];rw[j,g2];simp
  ·simp only[xI,AO,j,g2,lD]) (by simp)
 refine⟨_,_,_,?_,T,U⟩;simp only[Instr.buildSlice,aT,bf I,aQ,jd p,uM,ah g,F,if_false,N,bF,Q,newRow,newObj,Sem.run]
structure TR(P:Program)(H:Env)(a:bn)(A:Act):Prop where
 gn:a.gn=P.globals.size
 size:A.tmps.size=a.n
 none:A.defers=[]
 slot:∀t v,a.t.get t=some v->∃x,A.tmps[t]? =some x/\VR H v x
def TR.mono{H H':Env}{a:bn}{A:Act}(h:TR P H a A)(b:H.le H'):TR P H' a A:=
 ⟨h.gn,h.size,h.none,λt v c=>by obtain⟨x,d,e⟩:=h.slot t v c;exact⟨x,d,VR.mono b _ _ e⟩⟩
def TR.put{a f:bn}{A:Act}{dst:Option Tmp}{r:Q4}{x:Value}(h:TR P H a A)(b:a.put dst r=some f)(g:∀v,r=some v->VR H v x):TR P H f (A.put dst x):=by
 unfold bn.put at b;split at b
 ·cases b;exact h
 ·next d=>
  split at b
  ·next i=>
   cases b;refine⟨h.gn,by simp[Act.put,h.size],h.none,λt v c=>?_⟩;rw[Tr.wP]at c;show ∃y,(A.tmps.setIfInBounds d x)[t]? =some y/\_
   rw[CJ];split at c
   ·next e=>
    subst e;rw[aj rfl,aj (by rw[h.size];exact i)];exact⟨x,rfl,g v c⟩
   ·next e=>rw[ah (λj=>e j.symm)];exact h.slot t v c
  ·cases b
def OV{a:bn}{A:Act}(h:SR P H J w)(d:TR P H a A)(x:Operand)(v:AV)(b:a.eval x=some v):VR H v (A.eval x):=by
 cases x with
 |tmp t=>obtain⟨y,i,j⟩:=d.slot t v b;simp only[Act.eval];rw[y9,i];exact j
 |const c=>exact DX _ _ _ b
 |global g=>
  simp only[bn.eval]at b;split at b
  ·next e=>
   cases b;rw[d.gn]at e;obtain⟨l,es,k⟩:=h.nH g (Nat.le_of_lt e);simp only[VR,Act.eval];exact⟨_,k,by simp⟩
  ·cases b
 |func f=>simp only[bn.eval,aZ]at b;subst b;simp only[VR,Act.eval];exact⟨[],[],rfl,by simp[aF],by simp[aF]⟩
def NJ(P:Program)(H:Env)(J:aA)(w:World)(r:Q4)(J':aA)(s:Sem Next):Prop:=
 ∃a b c,s.run P w=.ok a b/\St P H J w c J' b/\(match r with|some v=>∃x,a=.value x/\VR c v x|none=>a=.skip)
def fA{r:AV}{s:Sem Value}(h:∃y w' H',s.run P w=.ok y w'/\St P H J w H' J' w'/\VR H' r y):NJ P H J w (some r) J' (do pure (.value (<-s))):=by obtain⟨y,w',H',a,b,c⟩:=h;exact⟨.value y,w',H',by simp only[aT,a,aQ,bF],b,y,rfl,c⟩
def LY{s:Sem Unit}(h:∃w' H',s.run P w=.ok () w'/\St P H J w H' J' w'):NJ P H J w none J' (do s;pure .skip):=by obtain⟨w',H',a,b⟩:=h;exact⟨.skip,w',H',by simp only[aT,a,aQ,bF],b,rfl⟩
def iP{r:AV}{s:Sem Value}(h:SR P H J w)(a:∃y,s.run P w=.ok y w/\VR H r y):∃y w' H',s.run P w=.ok y w'/\St P H J w H' J w'/\VR H' r y:=by obtain⟨y,b,c⟩:=a;exact⟨y,w,H,b,St.refl h,c⟩
def jL{v:Q4}{r:Q4}(h:eH J v=some (r,J')):∃u,v=some u/\r=some u/\J'=J:=by simp only[eH,bg,og]at h;obtain⟨u,a,b,c⟩:=h;exact⟨u,a,b.symm,c.symm⟩
def Ea{v:Wc}{r:Q4}(h:sK v=some (r,J')):∃u,v=some (u,J')/\r=some u:=by simp only[sK,bg,J9,og]at h;obtain⟨u,s,a,b,c⟩:=h;subst c;exact⟨u,a,b.symm⟩
def abb{v:Option aA}{r:Q4}(h:MH v=some (r,J')):v=some J'/\r=none:=by simp only[MH,bg,og]at h;obtain⟨s,a,b,c⟩:=h;subst c;exact⟨a,b.symm⟩
def ak7{c:Value}{t:Bool}(h:VR H (.b t) c):(asBool c).run P w=.ok t w:=by simp only[VR]at h;subst h;rfl
def alS(h:SR P H J w){ts:Wm}{ty t:TypeId}{x v:AV}{u:Value}(j:ts[0]? =some t)(d:Xn P t x J=some (v,J'))(i:VR H x u):
 ∃y w' H',(Builtin.clear_ ts ty #[u]).run P w=.ok y w'/\St P H J w H' J' w'/\VR H' v y:=by
 have f:∀H':Env,VR H' (.eG []) (.tuple #[]):=λH'=>by simp only[VR];exact⟨[],rfl,by simp[aF]⟩
 unfold Xn at d;split at d
 ·next e b=>
  cases d;simp only[VR]at i;subst i;exact⟨_,w,H,by simp only[Builtin.clear_,j,Ez,kW,aT,bf b,aQ,bF],St.refl h,f _⟩
 ·next e b=>
  cases d;simp only[VR]at i;rcases i with⟨_,S,rfl⟩|⟨bl,F,c,xs,sz,rfl,_⟩
  ·exact⟨_,w,H,by cases S<;>simp only[Builtin.clear_,j,Ez,kW,aT,bf b,aQ,bF],St.refl h,f _⟩
  ·exact⟨_,w,H,by simp only[Builtin.clear_,j,Ez,kW,aT,bf b,aQ,bF,nZ],St.refl h,f _⟩
 ·next e id F n T b=>
  simp only[VR]at i;obtain⟨q,D,_,rfl⟩:=i;split at d
  ·next O=>
   cases d;subst O;exact⟨_,w,H,by simp only[Builtin.clear_,j,Ez,kW,aT,bf b,aQ,bF],St.refl h,f _⟩
  ·next O=>
   split at d
   ·next z c et U V E=>
    split at d
    ·next Q=>
     simp only[bg]at d;obtain⟨c',W,X⟩:=d;cases X;obtain⟨G,Y,o⟩:=Gw V;have I:=QB (n:=n) (size:=z.length) (o H) rfl;have p:=(o H).length;have r:(jv n z).all AV.nU=true:=by rw[List.all_eq_true];intro a s;unfold jv at s;simp only[List.mem_flatten,acN]at s;obtain⟨l,⟨_,rfl⟩,s⟩:=s;exact List.all_eq_true.1 Q.2 a s
     obtain⟨w',A,L⟩:=Wy h E Q.1 D W I r;refine⟨_,w',H,?_,L,f _⟩;have M:(Builtin.zeroCells G.cells n)=(Array.range (n*z.length)).map (G.cells[· % G.cells.size]!):=by unfold Builtin.zeroCells;rw[p];simp
     obtain⟨m,rfl⟩:∃m,n=m+1:=⟨n-1,by omega⟩
     simp only[Builtin.clear_,j,Ez,kW,aT,bf b,aQ,Y];rw[M,A];rfl
    ·cases d
   ·cases d
 ·next k e b=>
  cases d;simp only[VR]at i;subst i;exact⟨_,w,H,by simp only[Builtin.clear_,j,Ez,kW,aT,bf b,aQ,bF],St.refl h,f _⟩
 ·next k e id b=>
  split at d
  ·next es E=>
   split at d
   ·next Z=>
    cases d;simp only[VR]at i;obtain⟨q,D,rfl⟩:=i;obtain⟨q',B,ms,g,N,aa,_⟩:=h.obj _ _ E rfl;rw[D]at B;cases B;refine⟨.tuple #[],nK w q.bl (.map #[] g),H,?_,St.write h E rfl Z D Eh (λk hk=>Ef hk) rfl rfl rfl ⟨#[],g,BZ N,rfl,by simp⟩,f _⟩;simp only[Builtin.clear_,j,Ez,kW,aT,bf b,aQ,getObj,Sem.run,N,MN N (λ_ _ _=>by simp),bF]
   ·cases d
  ·cases d
 ·cases d
def alo(h:SR P H J w){b:Builtin}{ts:Wm}{ty:TypeId}{cs:Array Bool}{args:Q3}{vs:Q6}{r:Q4}(d:Hw P b ts args J=some (r,J'))(j:aF H args vs):
 NJ P H J w r J' (builtin b ts ty cs ⟨vs⟩):=by
 unfold Hw at d;split at d
 ·next x=>
  simp only[aF]at j;obtain⟨u,_,rfl,f,rfl⟩:=j;split at d
  ·next t o=>
   obtain⟨v,g,rfl,rfl⟩:=jL d;exact fA (iP h (af9 h o g f))
  ·cases d
 ·next s x=>
  simp only[aF]at j;obtain⟨u,_,rfl,f,p,_,rfl,i,rfl⟩:=j;obtain⟨v,g,rfl⟩:=Ea d;exact fA (ak2 h g f i)
 ·next s x=>
  simp only[aF]at j;obtain⟨u,_,rfl,f,p,_,rfl,i,rfl⟩:=j;obtain⟨v,g,rfl⟩:=Ea d;exact fA (amh h g f i)
 ·next x=>
  simp only[aF]at j;obtain⟨u,_,rfl,f,rfl⟩:=j;split at d
  ·next t o=>
   obtain⟨v,g,rfl⟩:=Ea d;exact fA (alS h o g f)
  ·cases d
 ·next x=>
  simp only[aF]at j;obtain⟨u,_,rfl,f,rfl⟩:=j;split at d
  ·next t o=>
   split at d
   ·next e l=>
    obtain⟨v,g,rfl,rfl⟩:=jL d;cases g;simp only[VR]at f;subst f;exact fA (iP h ⟨.int .i64 0,by simp[Builtin.cap_,o,bf l,goInt],by simp[VR]⟩)
   ·next e id A n c l=>
    obtain⟨v,g,rfl,rfl⟩:=jL d;cases g;simp only[VR]at f;obtain⟨q,B,_,rfl⟩:=f;exact fA (iP h ⟨.int .i64 c,by simp[Builtin.cap_,o,bf l,goInt],by simp[VR]⟩)
   ·cases d
  ·cases d
 ·simp only[aF]at j;obtain⟨u,_,rfl,f,rfl⟩:=j;obtain⟨v,g,rfl,rfl⟩:=jL d;cases g;simp only[VR]at f;subst f;exact fA (iP h ⟨_,aji,by simp only[VR]⟩)
 ·next id A n G=>
  split at d
  ·cases d
  ·next F=>
   simp only[aF]at j;obtain⟨u,_,rfl,f,rfl⟩:=j;obtain⟨v,g,rfl,rfl⟩:=jL d;cases g;simp only[VR]at f;obtain⟨q,B,I,rfl⟩:=f;refine fA (iP h ⟨_,ajj ?_,by simp only[VR];exact⟨q,B,rfl⟩⟩);intro e;rw[e]at I;have S:n=0:=by omega
   subst S;cases G with
   |none=>exact F ⟨rfl,.inl rfl⟩
   |some c=>simp only[qP]at e;subst e;exact F ⟨rfl,.inr rfl⟩
 ·next x n=>
  simp only[aF]at j;obtain⟨u,_,rfl,f,p,_,rfl,i,rfl⟩:=j;simp only[VR]at i;subst i;split at d
  ·next t O L=>
   have:=RF L;subst this;split at d
   ·next T=>
    subst T;split at d
    ·obtain⟨v,g,rfl,rfl⟩:=jL d;cases g;simp only[VR]at f;subst f;exact fA (iP h ⟨_,abW,by simp only[VR]⟩)
    ·obtain⟨v,g,rfl,rfl⟩:=jL d;cases g;simp only[VR]at f;obtain⟨q,B,rfl⟩:=f;exact fA (iP h ⟨_,abW,by simp only[VR]⟩)
    ·cases d
   ·split at d
    ·next id A=>
     split at d
     ·next e c et U M V=>
      split at d
      ·next F=>
       obtain⟨rfl,W,X,Y,Z,c5⟩:=F;split at d
       ·next r' hr=>
        split at d
        ·next b hb=>
         cases d;simp only[VR]at f;obtain⟨q,B,rfl⟩:=f;obtain⟨y,w',g,m,k⟩:=ajZ (it:=O) (ty:=ty) h M V W X Y Z c5 hr hb B;exact fA ⟨y,w',H,g,m,k⟩
        ·cases d
       ·cases d
      ·cases d
     ·cases d
    ·cases d
  ·cases d
 ·next x y=>
  simp only[aF]at j;obtain⟨u,_,rfl,f,p,_,rfl,i,rfl⟩:=j;split at d
  ·next a Q g m=>
   obtain⟨v,k,rfl,rfl⟩:=jL d;simp only[xH]at k;obtain⟨z,D,E⟩:=k;rw[BX g f,BX m i];exact fA (iP h ⟨z,BQ D w,DX _ _ _ E⟩)
  ·cases d
 ·next x y=>
  simp only[aF]at j;obtain⟨u,_,rfl,f,p,_,rfl,i,rfl⟩:=j;split at d
  ·next a Q g m=>
   obtain⟨v,k,rfl,rfl⟩:=jL d;simp only[xH]at k;obtain⟨z,D,E⟩:=k;rw[BX g f,BX m i];exact fA (iP h ⟨z,BQ D w,DX _ _ _ E⟩)
  ·cases d
 ·next x y z=>
  simp only[aF]at j;obtain⟨u,_,rfl,f,p,_,rfl,i,aa,_,rfl,N,rfl⟩:=j;split at d
  ·next a Q ab g m h4=>
   obtain⟨v,k,rfl,rfl⟩:=jL d;simp only[xH]at k;obtain⟨z,D,E⟩:=k;rw[BX g f,BX m i,BX h4 N];exact fA (iP h ⟨z,BQ D w,DX _ _ _ E⟩)
  ·cases d
 ·cases d
def aCx{a it ty:TypeId}(p:Option Addr):(Builtin.unsafeString_ #[a,it] ty #[.pointer p,.int .i64 0]).run P w=.ok (.string ⟨⟨[]⟩⟩) w:=abW
def aBP(h:SR P H J w){b:Builtin}{ts:Wm}{ty:TypeId}{cs:Array Bool}{args:Q3}{vs:Q6}{r:Q4}(c:JC P b ts args J=some (r,J'))(l:aF H args vs):
 NJ P H J w r J' (builtin b ts ty cs ⟨vs⟩):=by
 unfold JC at c;have mm:∀(I:Bool){x y:AV}{m n:Nat}{v:AV}{u L:Value},iU x=some m->iU y=some n->kK (.mm I m n)=some v->VR H x u->VR H y L->∃k a M,u=.int k a/\L=.int k M/\VR H v (.int k (if I then(if a<M then M else a)else(if M<a then M else a))):=by
  intro I x y m n v u L D N aa z d;obtain⟨g1,a1,a2,a3⟩:=mD D z;obtain⟨g2,b1,O,b3⟩:=mD N d;obtain⟨_,g,_,E,c3⟩:=mW (H:=H) aa;simp only[Nd.den,a1,b1]at E;split at E
  ·next k i k' j T e2=>
   cases T;cases e2;split at E
   ·next F=>
    subst F;cases E;simp only[GR]at a3 b3;exact⟨k,i,j,a3,b3,c3 _ rfl (by simp only[GR])⟩
   ·cases E
  ·cases E
 split at c
 ·next x=>
  simp only[aF]at l;obtain⟨u,_,rfl,z,rfl⟩:=l;split at c
  ·next t ht=>
   obtain⟨v,Q,e⟩:=bg.1 c;cases e;exact fA (iP h (aBU ht Q z))
  ·cases c
 ·next s x=>
  simp only[aF]at l;obtain⟨u,_,rfl,z,L,_,rfl,d,rfl⟩:=l;obtain⟨v,Q,e⟩:=bg.1 c;cases e;exact fA (aBN h Q z d)
 ·next x y=>
  simp only[aF]at l;obtain⟨u,_,rfl,z,L,_,rfl,d,rfl⟩:=l;split at c
  ·next m n D N=>
   obtain⟨v,Q,e⟩:=bg.1 c;cases e;obtain⟨k,a,M,rfl,rfl,h2⟩:=mm false D N Q z d;refine fA (iP h ⟨_,?_,h2⟩);simp[Builtin.min_,Builtin.min2]
  ·cases c
 ·next x y=>
  simp only[aF]at l;obtain⟨u,_,rfl,z,L,_,rfl,d,rfl⟩:=l;split at c
  ·next m n D N=>
   obtain⟨v,Q,e⟩:=bg.1 c;cases e;obtain⟨k,a,M,rfl,rfl,h2⟩:=mm true D N Q z d;refine fA (iP h ⟨_,?_,h2⟩);simp[Builtin.max_,Builtin.max2]
  ·cases c
 ·next id n=>
  split at c
  ·next m et hg=>
   split at c
   ·next B=>
    cases c;simp only[aF]at l;obtain⟨u,_,rfl,z,rfl⟩:=l;simp only[VR]at z;obtain⟨A,k1,z⟩:=z;rcases z with⟨q,U,an,rfl⟩|⟨ao,rfl,rfl⟩
    ·have V:=h.at hg U;have G:=V.Wq;obtain⟨_,_,_,_,ab,_⟩:=V.LW;have W:q.sz/q.es≠0:=by have:=Nat.div_pos G ab;omega
     exact fA (iP h ⟨_,ajj W,by simp only[VR];exact⟨A,_,k1,rfl,λ_=>⟨q,U,rfl⟩⟩⟩)
    ·exact fA (iP h ⟨_,aji,by simp only[VR];exact⟨[],_,k1,rfl,λN=>absurd rfl N⟩⟩)
   ·cases c
  ·cases c
 ·next id n k=>
  split at c
  ·next t it ac=>
   have:=RF ac;subst this;split at c
   ·next e m et f ad hg=>
    split at c
    ·next hc=>
     obtain⟨rfl,c1,E,c3⟩:=hc;split at c
     ·next n' F=>
      split at c
      ·next B=>
       rw[aK]at B;obtain⟨v,D,e⟩:=bg.1 c;cases e;simp only[aF]at l;obtain⟨u,_,rfl,z,L,_,rfl,d,rfl⟩:=l;simp only[VR]at z d;obtain⟨ys,p,k1,rfl,hp⟩:=z;obtain⟨gk,j1,_,j3⟩:=d;obtain⟨ap,j4,j5⟩:=aI.qI k _ F (by simp);rw[j1]at j4;cases j4;obtain⟨nn,gs,b1,O,b3⟩:=mW (H:=H) D;simp only[Nd.den]at O;split at O
       ·next A l=>
        split at O
        ·next ae=>
         obtain⟨b,hb,rfl⟩:=bg.1 O;simp only[Nd.den]at j5;split at j5
         ·next zs hz=>
          cases j5;have X:=yU 100 B.1 l k1;have Y:=yU 100 B.2 l hz;simp only[GR]at j3;subst j3;have Z:∀{H':Env}(y:Value),VR H' (.s b) y->VR H' v y:=by intro H' y hy;obtain⟨_,g2,_,d2,d3⟩:=mW (H:=H') D;simp only[Nd.den,l,aj ae,hb,gB,aZ]at d2;subst d2;exact d3 y rfl ((lV _ _).2 hy)
          by_cases S:A=[]
          ·subst S;have af:zs.length=0:=Y.symm;have ag:b=[]:=by simpa[nD]using hb.symm
           subst ag;rw[af];refine fA ⟨.string ⟨⟨[]⟩⟩,w,H,aCx p,(St.refl h).Uz id,Z _ (by simp only[VR])⟩
          ·have ai:ys≠[]:=by intro e;rw[e]at X;exact S (jl X)
           obtain⟨q,U,rfl⟩:=hp ai;obtain⟨aq,i1,i2,i3,i4,i5,i6,i7,hS⟩:=Na h hg U;rw[l]at i1;cases i1;have ak:bM A=dQ A:=by unfold bM;rw[RQ hb]
           have G:0<A.length:=EC.2 S;have al:takeN (bM A) 0 ((A.length:Nat):Int).toNat=some (dQ A):=by rw[ak];unfold takeN;rw[bK,lW (by rw[l9];simp),aj (by rw[l9];simp)]
           have am:A.length<2^62:=by omega
           obtain⟨y,w',r1,r2,r3⟩:=ajZ (it:=it) (ty:=ty) (off:=0) (n:=A.length) hS ad Et c1 E (by omega) (by omega) c3 al (Oe hb) U;rw[<-Y];refine fA ⟨y,w',H,by simpa using r1,?_,Z _ r3⟩;refine((Qs hg r2).Uz id).sub (λk o F=>?_) (dY _) rfl;rw[aA.yL]at F⊢;split at F
           ·cases F
           ·next T=>
            rw[ah T];unfold kV;rw[aA.get_put,ah T,aA.get_put,ah T];exact F
         ·cases j5
        ·cases O
       ·cases O
      ·cases c
     ·cases c
    ·cases c
   ·cases c
  ·cases c
 ·cases c
def lT(P:Program)(f:FuncId)(args:QQ)(w:World)(R:Value->World->Prop):Prop:=
 (∃v a,(callFunc f args).run P w=.ok (.value v) a/\R v a)\/
 ((callFunc f args).run P w=.ok (.enter f args) w/\Calls P f args w λe a=>∃v,e=.returned v/\R v a)
def rD(P:Program)(call:Caller):Prop:=∀f args J r J',call f args J=some (r,J')->∀H w a,SR P H J w->aF H args a->
 lT P f ⟨a⟩ w λv c=>∃b,St P H J w b J' c/\VR b r v
def FH:Op->Bool
 |.call {callee:=.value _,..}=>true
 |.call {callee:=.invoke _ _,..}=>true
 |_=>false
def au4{f:FuncId}{first a:Q3}{b vs:Q6}(h1:aF H first b)(c:aF H a vs):∃y,(Instr.makeFunc (.func f) ⟨b⟩ ⟨vs⟩).run P w=.ok y w/\VR H (.fn f first a) y:=
 ⟨_,rfl,by simp only[VR];exact⟨b,vs,rfl,h1,c⟩⟩
def LZ{b:QP}{U:Operand->Value}(c:∀x a,b x=some a->VR H a (U x)){o:Option Operand}{r:Q4}(h:Ji b o=some r):lF H r (o.map U):=by
 cases o with
 |none=>simp[Ji]at h;subst h;trivial
 |some x=>simp only[Ji,bg]at h;obtain⟨a,d,rfl⟩:=h;exact c _ _ d
def Jb{α β:Type}(a:Array α)(f:α->β):a.map f=⟨a.toList.map f⟩:=by apply Np;simp
set_option maxHeartbeats 1000000 in
def ahm(h:SR P H J w){call:Caller}{o:Oper}{ev:QP}{U:Operand->Value}(j:∀x a,ev x=some a->VR H a (U x))(hc:FH o.op=false){r:Q4}
 (d:uO P call o ev J=some (r,J')):NJ P H J w r J' (execOp U o):=by
 unfold uO at d;unfold execOp;split at d
 ·next x p=>rw[p];obtain⟨v,h1,rfl,rfl⟩:=jL d;exact⟨_,w,H,rfl,St.refl h,_,rfl,j _ _ h1⟩
 ·next x p=>rw[p];obtain⟨v,h1,rfl,rfl⟩:=jL d;exact⟨_,w,H,rfl,St.refl h,_,rfl,j _ _ h1⟩
 ·next c a b p=>
  rw[p];split at d
  ·next t T=>
   obtain⟨vd,ai,T⟩:=Iz T;obtain⟨v,h1,rfl,rfl⟩:=jL d;refine⟨.value (if t then U a else U b),w,H,?_,St.refl h,_,rfl,?_⟩
   ·simp only[aT,ak7 (T _ _ (j _ _ ai)),aQ,bF]
   ·cases t
    ·exact j _ _ h1
    ·exact j _ _ h1
  ·cases d
 ·next t p=>
  rw[p];simp only[bg]at d;obtain⟨z,hz,e⟩:=d;cases e;exact fA (akV h hz)
 ·next t x p=>
  rw[p];simp only[bg]at d;obtain⟨z,hz,e⟩:=d;cases e;exact fA (adB h (j _ _ hz))
 ·next t M p=>
  rw[p];split at d
  ·next ps V=>
   obtain⟨v,h1,rfl,rfl⟩:=jL d;exact fA (iP h (aln h1 (by rw[Jb];exact Yr j V)))
  ·cases d
 ·next t len M p=>
  rw[p];split at d
  ·next e an bytes z ps hi V=>
   split at d
   ·cases d
   ·next ac=>
    split at d
    ·next cs W=>
     have e1:=CU d;refine auQ (t:=t) (qs:=M.map λ(i,x)=>(i,U x)) (λv τ e2 hr=>?_) h hi ac W (by rw[Jb];exact Yr j V);rw[e2]at e1;cases e1;exact fA hr
    ·cases d
  ·cases d
 ·next t a p=>
  rw[p];split at d
  ·next av N=>
   obtain⟨v,h1,rfl,rfl⟩:=jL d;rcases vg h1 with h1|h1
   ·exact fA (iP h (FM h h1 (j _ _ N)))
   ·exact fA (iP h (aBV h h1 (j _ _ N)))
  ·cases d
 ·next t a x p=>
  rw[p];split at d
  ·next av xv N B=>
   obtain⟨h1,rfl⟩:=abb d;rcases vg h1 with h1|h1
   ·obtain⟨G,I,L⟩:=VN h h1 (j _ _ N) (j _ _ B);exact LY ⟨G,H,I,L⟩
   ·obtain⟨G,I,L⟩:=aBZ h h1 (j _ _ N) (j _ _ B);exact LY ⟨G,H,I,L⟩
  ·cases d
 ·next x p=>
  rw[p];split at d
  ·next id X B=>
   obtain⟨v,h1,rfl,rfl⟩:=jL d;cases h1;have D:=j _ _ B;simp only[VR]at D;obtain⟨q,hq,D⟩:=D;exact⟨.value (U x),w,H,by simp only[D];rfl,St.refl h,_,rfl,j _ _ B⟩
  ·next b X B=>
   obtain⟨v,h1,rfl,rfl⟩:=jL d;cases h1;have D:=j _ _ B;simp only[VR]at D;obtain⟨bl,base,cs,ad,fr,y,_,_,D,_⟩:=D;exact⟨.value (U x),w,H,by simp only[D];rfl,St.refl h,_,rfl,j _ _ B⟩
  ·next m X B=>
   obtain⟨v,h1,rfl,rfl⟩:=jL d;cases h1;have D:=j _ _ B;simp only[VR]at D;obtain⟨g,bl,base,cs,ad,fr,y,_,_,_,D,_⟩:=D;exact⟨.value (U x),w,H,by simp only[D];rfl,St.refl h,_,rfl,j _ _ B⟩
  ·next id m X B=>
   obtain⟨v,h1,rfl,rfl⟩:=jL d;cases h1;have D:=j _ _ B;simp only[VR]at D;obtain⟨q,kk,i,_,_,D⟩:=D;exact⟨.value (U x),w,H,by simp only[D];rfl,St.refl h,_,rfl,j _ _ B⟩
  ·next f fs cs B=>
   obtain⟨v,h1,rfl,rfl⟩:=jL d;cases h1;have D:=j _ _ B;simp only[VR]at D;obtain⟨us,vs,D,_⟩:=D;exact⟨.value (U x),w,H,by simp only[D];rfl,St.refl h,_,rfl,j _ _ B⟩
  ·cases d
 ·next op t x y _ p=>
  rw[p];split at d
  ·next a b A E=>
   obtain⟨v,h1,rfl,rfl⟩:=jL d;rcases vg h1 with h1|h1
   ·exact fA (iP h (alh h h1 (j _ _ A) (j _ _ E)))
   ·exact fA (iP h (aBO h1 (j _ _ A) (j _ _ E)))
  ·cases d
 ·next op t x p=>
  rw[p];split at d
  ·next a A=>
   split at d
   ·next u Q=>
    obtain⟨v,h1,rfl,rfl⟩:=jL d;simp only[xH]at h1;obtain⟨z,hz,wV⟩:=h1;have ae:(Op.unary op (U x)).run P w=.ok z w:=by rw[BX Q (j _ _ A)];exact BQ hz w
    exact fA (iP h ⟨z,ae,DX _ _ _ wV⟩)
   ·obtain⟨v,h1,rfl,rfl⟩:=jL d;exact fA (iP h (aB0 h1 (j _ _ A)))
  ·cases d
 ·next src aq x p=>
  rw[p];split at d
  ·next a A=>
   obtain⟨v,h1,rfl⟩:=Ea d;rcases vg h1 with h1|h1
   ·exact fA (OH h h1 (j _ _ A))
   ·exact fA (aBQ h h1 (j _ _ A))
  ·cases d
 ·next t x p=>
  rw[p];split at d
  ·next a A hi=>
   obtain⟨v,h1,rfl,rfl⟩:=jL d;cases h1;exact fA (iP h (au5 hi (j _ _ A)))
  ·cases d
 ·next f first ao p=>
  rw[p];split at d
  ·next fs cs ak al=>
   obtain⟨v,h1,rfl,rfl⟩:=jL d;cases h1;simp only[Jb];exact fA (iP h (au4 (KX j ak) (KX j al)))
  ·cases d
 ·next t r' p=>
  rw[p];split at d
  ·cases d;exact fA (agM h (.inl rfl))
  ·next x=>
   split at d
   ·next a kt et A Q=>
    split at d
    ·next hm=>
     cases d;obtain⟨k,n,Y⟩:=au8 hm (j _ _ A);exact fA (agM h (.inr ⟨k,n,kt,et,by simp[Y],Q⟩))
    ·cases d
   ·cases d
 ·next t l c p=>
  rw[p];split at d
  ·next a b A E=>
   obtain⟨v,h1,rfl⟩:=Ea d;rcases vg h1 with h1|h1
   ·exact fA (au6 h h1 (j _ _ A) (j _ _ E))
   ·exact fA (aBX h h1 (j _ _ A) (j _ _ E))
  ·cases d
 ·next t x lo hi p=>
  rw[p];split at d
  ·next a ar aw A Z aa=>
   rcases vg d with d|d
   ·obtain⟨v,h1,rfl,rfl⟩:=jL d;rcases vg h1 with h1|h1
    ·exact fA (iP h (VH h h1 (j _ _ A) (LZ j Z) (LZ j aa)))
    ·exact fA (iP h (ajC h h1 (j _ _ A) (LZ j Z) (LZ j aa)))
   ·obtain⟨v,h1,rfl⟩:=Ea d;exact fA (aBY h h1 (j _ _ A) (LZ j Z) (LZ j aa))
  ·cases d
 ·next t x f p=>
  rw[p];split at d
  ·next a A=>
   obtain⟨v,h1,rfl,rfl⟩:=jL d;rcases vg h1 with h1|h1
   ·exact fA (iP h (arx h1 (j _ _ A)))
   ·exact fA (iP h (aBR h1 (j _ _ A)))
  ·cases d
 ·next t x f p=>
  rw[p];split at d
  ·next a A=>
   obtain⟨v,h1,rfl,rfl⟩:=jL d;exact fA (iP h (arz h1 (j _ _ A)))
  ·cases d
 ·next t x ix p=>
  rw[p];split at d
  ·next a k A Y=>
   obtain⟨v,h1,rfl,rfl⟩:=jL d;rcases vg h1 with h1|h1
   ·exact fA (iP h (Pn h1 (j _ _ A) (j _ _ Y)))
   ·exact fA (iP h (aBS h h1 (j _ _ A) (j _ _ Y)))
  ·cases d
 ·next t x ix p=>
  rw[p];split at d
  ·next a k A Y=>
   obtain⟨v,h1,rfl,rfl⟩:=jL d;rcases vg h1 with h1|h1
   ·exact fA (iP h (Zm h1 (j _ _ A) (j _ _ Y)))
   ·exact fA (iP h (aBT h1 (j _ _ A) (j _ _ Y)))
  ·cases d
 ·next t m k ok p=>
  rw[p];split at d
  ·next a b A E=>
   obtain⟨v,h1,rfl,rfl⟩:=jL d;rcases vg h1 with h1|h1
   ·exact fA (iP h (auR h h1 (j _ _ A) (j _ _ E)))
   ·exact fA (iP h (aBW h h1 (j _ _ A) (j _ _ E)))
  ·cases d
 ·next t m k x p=>
  rw[p];split at d
  ·next a b c A E O=>
   obtain⟨h1,rfl⟩:=abb d;rcases vg h1 with h1|h1
   ·obtain⟨G,I,L⟩:=agO h h1 (j _ _ A) (j _ _ E) (j _ _ O);exact LY ⟨G,H,I,L⟩
   ·obtain⟨G,I,L⟩:=ajB h h1 (j _ _ A) (j _ _ E) (j _ _ O);exact LY ⟨G,H,I,L⟩
  ·cases d
 ·next t m k x p=>
  rw[p];split at d
  ·next a b c A E O=>
   obtain⟨h1,rfl⟩:=abb d;rcases vg h1 with h1|h1
   ·obtain⟨G,I,L⟩:=agO h h1 (j _ _ A) (j _ _ E) (j _ _ O);exact LY ⟨G,H,I,L⟩
   ·obtain⟨G,I,L⟩:=ajB h h1 (j _ _ A) (j _ _ E) (j _ _ O);exact LY ⟨G,H,I,L⟩
  ·cases d
 ·next t x p=>
  rw[p];split at d
  ·next s Q hx=>
   cases d;have D:=j _ _ hx;simp only[VR]at D;simp only[D];exact fA (ax1 h Q)
  ·next k e Q hx=>
   cases d;have D:=j _ _ hx;simp only[VR]at D;simp only[D];exact fA (axZ h Q)
  ·next k e id Q hx=>
   split at d
   ·next es hg=>
    cases d;exact fA (ax0 h Q hg (j _ _ hx))
   ·cases d
  ·cases d
 ·next it p=>
  rw[p];split at d
  ·next a A=>
   obtain⟨v,h1,rfl⟩:=Ea d;obtain⟨y,G,I,L,h4⟩:=avZ (ty:=o.type) h h1 (j _ _ A);exact fA ⟨y,G,H,I,L,h4⟩
  ·cases d
 ·next it p=>
  rw[p];have af:VR H (.eG [.b false]) (.tuple #[.bool false]):=by simp only[VR];exact⟨[_],rfl,aF.cons (by simp only[VR]) (by simp[aF])⟩
  split at d
  ·next id A=>
   split at d
   ·next hg=>
    cases d;exact fA (iP h ⟨_,avX (ty:=o.type) h hg (j _ _ A),af⟩)
   ·next m hg=>
    split at d
    ·next hm=>
     cases d;exact fA (iP h ⟨_,avY (ty:=o.type) h hg hm (j _ _ A),af⟩)
    ·cases d
   ·cases d
  ·cases d
 ·next x xt t ok p=>
  rw[p];split at d
  ·next a A=>
   obtain⟨v,h1,rfl,rfl⟩:=jL d;exact fA (iP h (aCq h1 (j _ _ A)))
  ·cases d
 ·next x k p=>
  rw[p];split at d
  ·next l A=>
   obtain⟨v,h1,rfl,rfl⟩:=jL d;exact fA (iP h (aqQ h1 (j _ _ A)))
  ·cases d
 ·next c p=>
  rw[p];split at d
  ·next args ab=>
   split at d
   ·next b E=>
    have D:=KX j ab;have d:Hw P b c.argTypes args J=some (r,J')\/JC P b c.argTypes args J=some (r,J'):=by
     cases ag:abJ b args with
     |true=>rw[ag,cond_true]at d;exact(vg d).symm
     |false=>rw[ag,cond_false]at d;exact vg d
    rcases d with d|d
    ·have F:=alo (cs:=c.args.map fun|.const _=>true|_=>false) (ty:=o.type) h d D;simp only[resolve,E,Jb,pure_bind,invoke];rw[Jb]at F;exact F
    ·have F:=aBP (cs:=c.args.map fun|.const _=>true|_=>false) (ty:=o.type) h d D;simp only[resolve,E,Jb,pure_bind,invoke];rw[Jb]at F;exact F
   ·next f W=>
    rw[p]at hc;exfalso;obtain⟨S,args,am⟩:=c;simp only at W;subst W;simp[FH]at hc
   ·next f ap W=>
    rw[p]at hc;exfalso;obtain⟨S,args,am⟩:=c;simp only at W;subst W;simp[FH]at hc
  ·cases d
 ·cases d
def aek(r:Value)(l:Q6):(#[r]++(⟨l⟩:QQ))=⟨r::l⟩:=by apply Np;simp
def auk(a:String)(r:Value)(l:Q6):invoke (.fn (.method a) #[]) (#[r]++(⟨l⟩:QQ))=callMethod r a ⟨l⟩:=by
 rw[aek];have b:(⟨r::l⟩:QQ)[0]? =some r:=by simp
 have c:(⟨r::l⟩:QQ).extract 1 (⟨r::l⟩:QQ).size=⟨l⟩:=by apply Np;simp
 have:invoke (.fn (.method a) #[]) (⟨r::l⟩:QQ)=(do
  let some recv:=(⟨r::l⟩:QQ)[0]? |stuck "call: a method without a receiver"
  callMethod recv a ((⟨r::l⟩:QQ).extract 1 (⟨r::l⟩:QQ).size)):=rfl
 rw[this,b,c]
def avh(h:SR P H J w){b:String}{a A:AV}{f:FuncId}{x:Value}(c:Rk P b J a=some (f,A))(B:VR H a x)(args:QQ):
 ∃y,(callMethod x b args).run P w=(callFunc f (#[y]++args)).run P w/\VR H A y:=by
 unfold Rk at c;split at c
 ·next t v=>
  simp only[VR]at B;obtain⟨k,rfl,l⟩:=B;split at c
  ·next i d hi o=>
   split at c
   ·next m F=>
    split at c
    ·next D p E G=>
     have r:∀y,(receiverAt t (.val k) p (some ((b.splitOn ".").getLastD b))).run P w=.ok y w->
      (callMethod (.iface t k) b args).run P w=(callFunc D (#[y]++args)).run P w:=by
      intro y I;have s:m.path.isEmpty=true:=by simpa using E
      have:∀n:Nat,(method (n+1) t k b).run P w=.ok (D,y) w:=by intro n;simp only[method,aT,Gv hi,aQ,F,E,follow,bF,G,s,if_true,I]
      simp only[callMethod,aT,program,Sem.run,aQ];rw[show P.types.size+Made.depth=(P.types.size+Made.depth-1)+1 by simp[Made.depth],this];rfl
     split at c
     ·next e=>
      cases c;exact⟨k,r _ (by simp only[receiverAt,aT,bf o,aQ,Go.Place.get,bF]),l⟩
     ·next e=>
      split at c
      ·next id g=>
       simp only[bg,og]at c;obtain⟨z,L,rfl,rfl⟩:=c;obtain⟨y,M,N⟩:=FM h L l;simp only[VR]at l;obtain⟨q,Q,rfl⟩:=l;refine⟨y,r _ ?_,N⟩;have u:(loadVar e ⟨q.bl,q.ba+g,none⟩).run P w=.ok y w:=by simpa[Instr.loadAt,Instr.sureAddr]using M
       have j:∀O:String,(Builtin.ssaWrapNilChk_ #[t] t #[.pointer (some ⟨q.bl,q.ba+g,none⟩),strVal "",strVal O]).run P w=.ok (.pointer (some ⟨q.bl,q.ba+g,none⟩)) w:=λ_=>rfl;have has:(asAddr (.pointer (some ⟨q.bl,q.ba+g,none⟩))).run P w=.ok ⟨q.bl,q.ba+g,none⟩ w:=rfl;simp only[receiverAt,aT,bf o,aQ,Go.Place.get,bF,j,has,u]
      ·cases c
     ·cases c
     ·next S T U=>
      cases c;refine⟨k,r _ ?_,l⟩;simp only[receiverAt,aT,bf o,aQ];cases d<;>simp only[Go.Place.get,bF]
      all_goals simp_all
    ·cases c
   ·cases c
  ·cases c
 ·cases c
def adU(h:SR P H J w){call:Caller}(j:rD P call){o:Oper}{a:bn}{A:Act}(W:TR P H a A)(B:FH o.op=true){r:Q4}{K:Act->World->Prop}{Q:Exit->Act->World->Prop}
 (i:uO P call o a.eval J=some (r,J')) (D:∀v x H' w',r=some v->St P H J w H' J' w'->VR H' v x->K (A.put o.dst x) w'):o.wp P A w K Q:=by
 have E:∀x v,a.eval x=some v->VR H v (A.eval x):=λx v l=>OV h W x v l;unfold uO at i;cases m:o.op with
 |call c=>
  rw[m]at B i;simp only at i;split at i
  ·next args k=>
   obtain⟨n,p,X⟩:=c;cases n with
   |builtin b=>simp[FH]at B
   |invoke rc S=>
    simp only at i;split at i
    ·next f rv t=>
     simp only[xH]at t;obtain⟨iv,F,t⟩:=t;obtain⟨u,G,rfl⟩:=Ea i;have q:=KX E k;obtain⟨y,Y,Z⟩:=avh h t (E _ _ F) (⟨p.toList.map A.eval⟩);have s:=j _ _ _ _ _ G H w (y::p.toList.map A.eval) h (aF.cons Z q);have I:(execOp A.eval o).run P w=(callFunc f ⟨y::p.toList.map A.eval⟩).run P w:=by
      unfold execOp;rw[m];have e0:p.map A.eval=⟨p.toList.map A.eval⟩:=by apply Np;simp
      simp only[resolve,pure_bind,e0];rw[auk,Y,aek]
     unfold Oper.wp;rw[I];rcases s with⟨v,w',d,H',g,l⟩|⟨d,L⟩
     ·rw[d];exact D u v H' w' rfl g l
     ·rw[d];refine Calls.mono L ?_;rintro e w' ⟨v,rfl,H',g,l⟩
      exact D u v H' w' rfl g l
    ·cases i
   |value f=>
    simp only at i;split at i
    ·next fn fi T t=>
     obtain⟨u,G,rfl⟩:=Ea i;have z:=E _ _ t;simp only[VR]at z;obtain⟨U,V,M,N,O⟩:=z;have q:=KX E k;have s:=j _ _ _ _ _ G H w (U++p.toList.map A.eval++V) h ((N.append q).append O);have I:(execOp A.eval o).run P w=(callFunc fn ⟨U++p.toList.map A.eval++V⟩).run P w:=by unfold execOp;rw[m];simp only[resolve,M,Deferred.ofValue,pure_bind,invoke];congr 2;apply Np;simp
     unfold Oper.wp;rw[I];rcases s with⟨v,w',d,H',g,l⟩|⟨d,L⟩
     ·rw[d];exact D u v H' w' rfl g l
     ·rw[d];refine Calls.mono L ?_;rintro e w' ⟨v,rfl,H',g,l⟩
      exact D u v H' w' rfl g l
    ·cases i
  ·cases i
 |_=>rw[m]at B;simp[FH]at B
def aDi{b:W4}{j:Nat}{o:Oper}{d:Nat}{a:bn}{A:Act}{x:Bool}(g:TR P H a A)(h:b[j]? =some o)(i:o.dst=some d)(f:dB (a.t.get d)=some (.b x)):yielded b A.tmps j=some x:=by obtain⟨l,f,c⟩:=Iz f;obtain⟨y,k,e⟩:=g.slot d _ f;have e:=c _ _ e;simp only[VR]at e;subst e;simp only[yielded,h,vU,i,k]
def G5{o:Oper}{f:W4}{a:bn}{A:Act}{b:Bool}(m:TR P H a A)(c:JO o f a=some b):Region.wanted o (yielded f A.tmps)=b:=by
 unfold JO at c;unfold Region.wanted;split at c
 ·next k=>rw[k];cases c;rfl
 ·next j e k=>
  rw[k];split at c
  ·next q n=>
   split at c
   ·next d p=>
    split at c
    ·next x g=>
     cases c;simp only[aDi m n p g];cases x<;>cases e<;>rfl
    ·next l g=>
     cases c;obtain⟨s,g,h⟩:=Iz g;obtain⟨y,r,i⟩:=m.slot d _ g;have i:=h _ _ i;simp only[VR]at i;obtain⟨t,rfl,_⟩:=i;simp only[yielded,n,vU,p,r];cases e<;>rfl
    ·cases c
   ·cases c
  ·cases c
def step_ok(h:SR P H J w){call:Caller}(f:rD P call){k:W4}{i:Nat}{a s:bn}{A:Act}(d:TR P H a A){K:Act->World->Prop}{Q:Exit->Act->World->Prop}
 (c:Xt P call k i a J=some (s,J')) (p:∀H' t w',St P H J w H' J' w'->TR P H' s t->K t w'):wpOp P k Q i K A w:=by
 unfold Xt at c;unfold wpOp;split at c
 ·cases c
 ·next o z=>
  rw[z];simp only;split at c
  ·cases c
  ·next q=>
   rw[G5 d q];simp only[gy,if_false];simp only[bg,og]at c;obtain⟨B,l,rfl,rfl⟩:=c;exact p H _ w (St.refl h) (d.put l (by rintro u j;cases j;exact⟨[],rfl,rfl⟩))
  ·next q=>
   rw[G5 d q];simp only[if_true];split at c
   ·cases c
   ·next r E g=>
    rw[Dq]at g;simp only[bg,og]at c;obtain⟨B,l,rfl,rfl⟩:=c;left;cases y:FH o.op with
    |true=>refine adU h f d y g λv x H' w' D b m=>?_;exact p H' _ w' b ((d.mono b.ext).put l (λu j=>by rw[D]at j;cases j;exact m))
    |false=>
     obtain⟨F,w',H',n,b,e⟩:=ahm h (λx v m=>OV h d x v m) y g;unfold Oper.wp;rw[n];cases r with
     |none=>subst e;exact p H' _ w' b ((d.mono b.ext).put l (by simp))
     |some v=>obtain⟨x,rfl,m⟩:=e;exact p H' _ w' b ((d.mono b.ext).put l (λu j=>by cases j;exact m))
def aho{call:Caller}(b:rD P call){d:W4}{Q:Exit->Act->World->Prop}:∀(l:Q2){H:Env}{J:aA}{w:World}{a g:bn}{A:Act},SR P H J w->TR P H a A->
 Kr P call d l a J=some (g,J')->(∀H' j w',St P H J w H' J' w'->TR P H' g j->Q .normal j w')->wpOps P d Q l A w
 |[],H,J,w,a,g,A,h,k,c,m=>by simp only[Kr,aZ,og]at c;obtain⟨rfl,rfl⟩:=c;exact m H A w (St.refl h) k
 |i::l,H,J,w,a,g,A,h,k,c,m=>by
  rw[wpOps_cons];unfold Kr at c;split at c
  ·next q r p=>
   refine step_ok h b k p λs t w1 e n=>?_;exact aho b l e.rel n c λH' j w' f o=>m H' j w' (e.trans f) o
  ·cases c
def eU.toExit:eU->Exit
 |.normal=>.normal
 |.exit id=>.exit id
 |.ret=>.ret
def QF(P:Program)(g:Caller->Ar):Prop:=∀call,rD P call->∀b a J c J',g call b a J=some (c,J')->∀H w A id Q,SR P H J w->TR P H a A->
 (∀d e f,St P H J w d J' f->TR P d c e->Q .normal e f)->(Code.region id b true).wp P Q A w
def QV(P:Program)(c:xJ):Prop:=∀f g,c f=some g->∀args J r J',g args J=some (r,J')->∀H w a,SR P H J w->aF H args a->
 lT P f ⟨a⟩ w λv d=>∃b,St P H J w b J' d/\VR b r v
def vO(P:Program):Prop:=∀(f:Nat) fn c,P.funcs[f]? =some fn->fn.body=some c->(fn.name == "runtime.NumGoroutine")=false
def NR(P:Program)(run:Code->bn->aA->Option (eU×bn×aA)):Prop:=∀c a J e b J',run c a J=some (e,b,J')->∀H w A Q,SR P H J w->TR P H a A->
 (∀d f g,St P H J w d J' g->TR P d b f->Q e.toExit f g)->c.wp P Q A w
def Qd(h:SR P H J w){a:bn}{A:Act}(i:TR P H a A)(F:ResultVar->Sem Value)(c:∀t,F (.tmp t)=pure (A.tmps.getD t undef))(d:∀a t,F (.cell a t)=(do loadVar t (<-asAddr (A.tmps.getD a undef)))):
 ∀(rs:List ResultVar)(l:Q3),AX P J a rs=some l->∃vs,(rs.mapM F).run P w=.ok vs w/\aF H l vs
 |[],l,b=>by simp only[AX,aZ]at b;subst b;exact⟨[],rfl,by simp[aF]⟩
 |.tmp t::rs,l,b=>by
  unfold AX at b;split at b
  ·next v r e j=>
   cases b;obtain⟨vs,h1,k⟩:=Qd h i F c d rs r j;obtain⟨x,m,f⟩:=i.slot t v e;refine⟨x::vs,?_,aF.cons f k⟩;simp only[acH,c,aT,bF,aQ,h1];rw[y9,m];rfl
  ·cases b
 |.cell t z::rs,l,b=>by
  unfold AX at b;split at b
  ·next v r e j=>
   cases b;obtain⟨vs,h1,k⟩:=Qd h i F c d rs r j;simp only[xH]at e;obtain⟨p,B,e⟩:=e;obtain⟨x,m,f⟩:=i.slot t p B;obtain⟨y,D,E⟩:=FM h e f;refine⟨y::vs,?_,aF.cons E k⟩;have n:∃g,x=.pointer (some g):=by
    cases p<;>simp[vY]at e
    ·simp only[VR]at f;obtain⟨q,_,rfl⟩:=f;exact⟨_,rfl⟩
    ·simp only[VR]at f;obtain⟨I,base,L,u,M,x,_,_,rfl,_⟩:=f;exact⟨_,rfl⟩
   obtain⟨g,rfl⟩:=n;have G:A.tmps.getD t undef=.pointer (some g):=by rw[y9,m];rfl
   have o:(loadVar z g).run P w=.ok y w:=by simpa[Instr.loadAt,Instr.sureAddr]using D
   have s:(asAddr (A.tmps.getD t undef)).run P w=.ok g w:=by rw[G];rfl
   simp only[acH,d,aT,bF,aQ,h1,s,o]
  ·cases b
def aCp{l:Q3}{vs:Q6}(h:aF H l vs):VR H (JG l) (if h:(⟨vs⟩:QQ).size=1 then(⟨vs⟩:QQ)[0]else .tuple ⟨vs⟩):=by
 have b:=h.length;unfold JG;split
 ·next v=>
  simp only[aF]at h;obtain⟨x,_,rfl,c,rfl⟩:=h;simpa using c
 ·next a=>
  have:(⟨vs⟩:QQ).size≠1:=by
   intro e;have:l.length=1:=by rw[b];exact e
   obtain⟨v,rfl⟩:=WT.1 this;exact a v rfl
  rw[dif_neg this];simp only[VR];exact⟨vs,rfl,h⟩
def adk:∀(args:Q3)(k:Nat)(t:Tr AV)(j:Nat),(zu args k t).get j=if k<=j/\j<k+args.length then args[j-k]? else t.get j
 |[],k,t,j=>by simp[zu];omega
 |v::args,k,t,j=>by
  rw[zu,adk args (k+1)];simp only[jw];by_cases h1:k+1<=j/\j<k+1+args.length
  ·rw[aj h1,aj (by omega)];have:j-k=(j-(k+1))+1:=by omega
   rw[this];simp
  ·rw[ah h1,Tr.wP];by_cases a:j=k
   ·subst a;rw[aj rfl,aj (by omega)];simp
   ·rw[ah a,ah (by omega)]
def Yn{args:Q3}{vs:Q6}{n:Nat}(h:aF H args vs):
 TR P H {t:=zu args 0 .nil,n:=max args.length n,gn:=P.globals.size} {tmps:=(⟨vs⟩:QQ)++Array.replicate (n-(⟨vs⟩:QQ).size) undef,defers:=[]}:=by
 have e:=h.length;refine⟨rfl,?_,rfl,λt v a=>?_⟩
 ·simp;omega
 ·rw[adk]at a;split at a
  ·next f=>
   obtain⟨x,b,d⟩:=h.at a;refine⟨x,?_,d⟩;simp only[AO]at b;have c:=(fB.1 b).1;rw[WC (by simpa using c)];simpa using b
  ·simp at a
def adT{F:xJ}{run:Code->bn->aA->Option (eU×bn×aA)}(N:QV P F)(O:vO P)(Q:NR P run):rD P (Ik P F run):=by
 intro f args J r J' d H w G h I;unfold Ik at d;split at d
 ·next g S=>exact N f g S args J r J' d H w G h I
 ·split at d
  ·cases d
  ·next fn o=>
   split at d
   ·cases d
   ·next c D=>
    have x:∀(e:eU) p,(e=.normal\/e=.ret)->run c {t:=zu args 0 .nil,n:=max args.length fn.ntmps,gn:=P.globals.size} J=some (e,p,J')->∀l,AX P J' p fn.results.toList=some l->r=JG l->
     lT P f ⟨G⟩ w λv i=>∃m,St P H J w m J' i/\VR m r v:=by
     intro e p T b l y E;right;refine⟨?_,?_⟩
     ·have q:=O f fn c o D;simp only[callFunc,aT,program,Sem.run,aQ,o];simp only[q,gy,if_false,D,J8,bF]
     ·refine calls_of_wp o D ?_;refine Q c _ _ _ _ _ b H w _ _ h (Yn I) ?_;intro m z i A L;have j:∃s,(results fn z.tmps).run P i=.ok (if h:(⟨s⟩:QQ).size=1 then(⟨s⟩:QQ)[0]else .tuple ⟨s⟩) i/\aF m l s:=by unfold results;rw[WE];simp only[aT,Xi];obtain⟨s,B,u⟩:=Qd A.rel L (fun|.tmp t=>pure (z.tmps.getD t undef)|.cell a t=>do loadVar t (<-asAddr (z.tmps.getD a undef))) (λ_=>rfl) (λ_ _=>rfl) _ _ y;refine⟨s,?_,u⟩;exact tX (λr:Result Q6=>(r.andThen λa i=>Result.ok a.toArray i).andThen λa i=>Sem.run P (pure (if h:a.size=1 then a[0]else Value.tuple a)) i) B
      obtain⟨s,j,u⟩:=j
      have k:z.defers=[]/\∃v,(results fn z.tmps).run P i=.ok v i/\∃M,Ending.returned v=.returned M/\∃m,St P H J w m J' i/\VR m r M:=
       ⟨L.none,_,j,_,rfl,m,A,by rw[E];exact aCp u⟩
      rcases T with rfl|rfl
      ·exact k
      ·exact k
    split at d
    ·next p U b=>
     simp only[bg,og]at d;obtain⟨l,y,B,u⟩:=d;subst u;exact x _ p (.inl rfl) b l y B.symm
    ·next p U b=>
     simp only[bg,og]at d;obtain⟨l,y,B,u⟩:=d;subst u;exact x _ p (.inr rfl) b l y B.symm
    ·cases d
def aeg{G:Caller->Ar}{I:xJ}(W:QF P G)(X:QV P I)(Y:vO P):∀n:Nat,NR P (EI P G I n)/\
 (∀b a J e r J',EI P G I n (.loop b) a J=some (e,r,J')->∀H w A Q,SR P H J w->TR P H a A->(∀H' s w',St P H J w H' J' w'->TR P H' r s->Q e.toExit s w')->Code.rounds P b Q n A w):=by
 intro n;induction n with
 |zero=>exact⟨λc a J e r J' d=>by simp[ac5]at d,λb a J e r J' d=>by simp[ac5]at d⟩
 |succ n Z=>
  obtain⟨i,N⟩:=Z;have o:=adT X Y i;have B:∀b a J e r J',EI P G I (n+1) (.loop b) a J=some (e,r,J')->∀H w A Q,SR P H J w->TR P H a A->(∀H' s w',St P H J w H' J' w'->TR P H' r s->Q e.toExit s w')->Code.rounds P b Q (n+1) A w:=by
   intro b a J e r J' d H w A Q h k j;rw[rounds_succ];simp only[vW,tV]at d;split at d
   ·next L M u=>
    refine i _ _ _ _ _ _ u H w A _ h k ?_;intro l m w1 f g;exact N _ _ _ _ _ _ d l w1 m Q f.rel g λH' s w' p v=>j H' s w' (f.trans p) v
   ·next q=>
    refine i _ _ _ _ _ _ d H w A _ h k ?_;intro l m w1 f g;cases e with
    |normal=>exact absurd d (by intro D;exact q _ _ D)
    |exit id=>exact j l m w1 f g
    |ret=>exact j l m w1 f g
  refine⟨?_,B⟩;intro c a J e r J' d H w A Q h k j;cases c with
  |loop b=>exact wp_loop_rounds (n+1) (B b a J e r J' d H w A Q h k j)
  |skip=>simp only[vW,tV,aZ,og]at d;obtain⟨rfl,rfl,rfl⟩:=d;exact wp_skip (j H A w (St.refl h) k)
  |region id O E=>
   cases E with
   |false=>simp only[vW,tV,bg,og]at d;obtain⟨⟨L,M⟩,u,rfl,rfl,rfl⟩:=d;exact wp_region (aho o _ h k u j)
   |true=>simp only[vW,tV,bg,og]at d;obtain⟨⟨L,M⟩,u,rfl,rfl,rfl⟩:=d;exact W _ o O a J _ _ u H w A id Q h k j
  |seq x y=>
   simp only[vW,tV]at d;refine wp_seq ?_;split at d
   ·next L M u=>
    refine i _ _ _ _ _ _ u H w A _ h k ?_;intro l m w1 f g;exact i _ _ _ _ _ _ d l w1 m Q f.rel g λH' s w' p v=>j H' s w' (f.trans p) v
   ·next q=>
    refine i _ _ _ _ _ _ d H w A _ h k ?_;intro l m w1 f g;cases e with
    |normal=>exact absurd d (by intro D;exact q _ _ D)
    |exit id=>exact j l m w1 f g
    |ret=>exact j l m w1 f g
  |cond x y z=>
   simp only[vW,tV]at d;split at d
   ·next t S=>
    obtain⟨vd,S,F⟩:=Iz S;have V:=F _ _ (OV h k x _ S);simp only[VR]at V;refine wp_cond V ?_;exact i _ _ _ _ _ _ d H w A Q h k j
   ·cases d
  |block id b=>
   simp only[vW,tV]at d;refine wp_block ?_;split at d
   ·next T L M u=>
    refine i _ _ _ _ _ _ u H w A _ h k ?_;intro l m w1 f g;simp only[eU.toExit,Exit.inBlock];split at d
    ·next U=>
     cases d;rw[aj U];exact j l m w1 f g
    ·next U=>
     cases d;rw[ah U];exact j l m w1 f g
   ·next q=>
    refine i _ _ _ _ _ _ d H w A _ h k ?_;intro l m w1 f g;cases e with
    |normal=>exact j l m w1 f g
    |exit T=>exact absurd d (by intro D;exact q _ _ _ D)
    |ret=>exact j l m w1 f g
  |exit id=>simp only[vW,tV,aZ,og]at d;obtain⟨rfl,rfl,rfl⟩:=d;exact wp_exit (j H A w (St.refl h) k)
  |ret=>simp only[vW,tV,aZ,og]at d;obtain⟨rfl,rfl,rfl⟩:=d;exact wp_ret (j H A w (St.refl h) k)
  |rangeFunc _ _ _ _=>simp[vW,tV]at d
  |scope _=>simp[vW,tV]at d
  |label _=>simp[vW,tV]at d
  |goto _=>simp[vW,tV]at d
  |refuse _=>simp[vW,tV]at d
def akG{a:Caller->Ar}{b:xJ}(e:QF P a)(c:QV P b)(d:vO P)(n:Nat):rD P (ac4 P a b n):=
 adT c d (aeg e c d n).1
