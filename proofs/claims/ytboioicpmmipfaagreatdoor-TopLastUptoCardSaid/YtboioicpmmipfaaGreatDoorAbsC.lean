/- Slices that are made, appended to and copied into. -/
import Derived.Test.YtboioicpmmipfaaGreatDoorAbsB
import Derived.Deep.AppendSrc
import Derived.Laws.IdiomCopy
import Derived.Lib.UnsafeStr
set_option linter.all false
namespace Go.aP
noncomputable section
variable[aJ]
variable{P:Program}{H:Env}{F F':aC}{w:World}
def KZ{q:Place}{id len:Nat}{cap:W2}(h0:q.ba=0)(a:len<=cap.getD (q.sz/q.es)):VR (H.put id q) (.sl id 0 len cap) (.slice (some ⟨q.bl,0,none⟩) len (cap.getD (q.sz/q.es))):=by simp only[VR];exact⟨q,by simp[Env.put],by simpa using a,by simp[h0]⟩
def aoG(h:SR P H F w){t e:TypeId}{size bytes len:Nat}{z:Q3}{p:Wo}{qs:Array (Nat×Value)}{cs:Q3}(hi:yR P t=some (e,size,bytes,z))
 (c:¬len*size>2^24) (f:Dc (λi=>some (i*size,size)) (if len*size=0 then[]else kC len z) p=some cs) (q:Ew H p qs.toList):
 ∃y w' H',(Instr.buildSlice t len qs).run P w=.ok y w'/\St P H F w H' (F.new (.cells cs e true false)) w'/\VR H' (.sl F.next 0 len (some len)) y:=by
 obtain⟨r,_,u,A,j,s⟩:=Dz hi;obtain⟨B,v,k⟩:=IU u;by_cases g:len*size=0
 ·simp only[g,if_true]at f;obtain⟨d,l,a⟩:=NT (cs:=#[]) f q (by simp[aG]);have b:=a.length;refine⟨_,_,_,?_,EL h (xs:=d) (es:=0) (opn:=false) ?_ (by simpa using MV b) (λ_=>by simpa using b) aA,KZ (cap:=some len) rfl aA⟩
  ·have o:Array.range 0 =#[]:=rfl;have x:¬(0>2^24):=ah;simp only[Instr.buildSlice,aY,bF r,aX,jP s,xF,g,aj x,if_true,bQ,o,aeC,l,newRow,newObj,Sem.run];rfl
  ·rw[b,Bv];exact a
 ·simp only[g,if_false]at f;obtain⟨d,l,a⟩:=NT f q (Ue (k H) j);have b:=a.length;refine⟨_,_,_,?_,EL h (xs:=d) (es:=0) (opn:=false) ?_ (by simpa using MV b) (λ_=>by simpa using b) aA,KZ (cap:=some len) rfl aA⟩
  ·simp only[Instr.buildSlice,aY,bF r,aX,jP s,xF,aj c,g,if_false,v,bQ,l,newRow,newObj,Sem.run];rfl
  ·rw[b,Bv];exact a
def af2(s:Q0):aG H (yO s) (s.map λb=>.int .u8 b.toNat):=by
 induction s with
 |nil=>simp[yO,aG]
 |cons c s a=>exact aG.cons (by simp[VR]) a
def Yq(h:SR P H F w){size n:Nat}{a:AV}{l:Q3}{x:Value}(d:Bc F size a=some (n,l))(f:VR H a x):
 l.length=n*size/\(∀w':World,(Builtin.lenOf x).run P w'=.ok n w')/\∀k,k<=n->∃O,(∀w':World,w'.heap=w.heap->(Builtin.firstCells size k x).run P w'=.ok ⟨O⟩ w')/\aG H (l.take (k*size)) O:=by
 unfold Bc at d;split at d
 ·cases d;simp only[VR]at f;subst f;refine⟨aA,λ_=>rfl,λk g=>⟨[],λ_ _=>?_,by simp[aG]⟩⟩;simp[Builtin.firstCells]
 ·next id o len W=>
  simp only[VR]at f;obtain⟨q,X,_,rfl⟩:=f;split at d
  ·next c et rw Y Z=>
   simp only[bI]at d;obtain⟨r,Q,e⟩:=d;cases e;obtain⟨q',p,R,t,fr,hb,D⟩:=h.obj _ _ Z rfl;rw[X]at p;cases p;have i:=D.Bd Q;obtain⟨hr1,E,aa⟩:=vg Q;refine⟨E,λ_=>rfl,λk g=>⟨((R.toList.drop (q.ba+o)).take (n*size)).take (k*size),λw' G=>?_,i.take _⟩⟩;have u:k*size<=n*size:=wC _ g;rw[afc,MW u];have S:=D.fits;have ab:=D.le;simp only[Builtin.firstCells];exact FV (by rw[G];exact hb) ah
  ·cases d
 ·next s=>
  split at d
  ·next T=>
   cases d;simp only[VR]at f;subst f;refine⟨by simp[yO,T],λ_=>rfl,λk g=>⟨(s.take k).map λb=>.int .u8 b.toNat,λ_ _=>?_,?_⟩⟩
   ·simp only[Builtin.firstCells,amE,bQ];simp
   ·rw[T,Nat.mul_one];have:=af2 (H:=H) (s.take k);simpa[yO,ae6]using this
  ·cases d
 ·next es=>
  split at d
  ·next v=>
   cases d;simp only[VR]at f;rcases f with⟨rfl,U,rfl⟩|⟨bl,o,c,B,sz,rfl,hc,I,h2,h3⟩
   ·refine⟨aA,λ_=>by cases U<;>rfl,λk g=>⟨[],λ_ _=>?_,by simp[aG]⟩⟩;have L:k=0:=by simpa using g
    subst L;cases U<;>simp[Builtin.firstCells,loadCells,loadCellsFrom]
   have M:=aoh I v;have y:=ahO I;have z:=JO M;have m:=I.length;have N:=y.length;refine⟨by rw[N,z,m],λ_=>rfl,λk g=>⟨(eX B).take (k*size),λw' G=>?_,y.take _⟩⟩;simp only[Builtin.firstCells];by_cases V:es=[]
   ·subst V;simp at m;have:B=[]:=kP m.symm;subst this;simp at g;subst g;simp[loadCells,loadCellsFrom,eX]
   ·obtain⟨R,t,fr,h4,h5,h6⟩:=h3 V;have u:k*size<=B.length*size:=wC _ ah;rw[FV (by rw[G];exact h.jH _ _ h4) ah];congr 2;apply Jh;intro j;rw[oh,oh];split
    ·next hj=>
     have A:j<(eX B).length:=ah;rw[uJ,cO A,yA];exact h6 j _ (cO A)
    ·rfl
  ·cases d
 ·cases d
def aG0(zero:QR)(n:Nat):(Builtin.zeroCells zero n).size=n*zero.size:=by simp[Builtin.zeroCells]
def axi{t:TypeId}(h:Ik P t=true):(∃b,P.underlying t=some (.slice b))\/P.underlying t=some .string:=by
 unfold Ik at h;split at h
 ·next e a=>exact .inl ⟨e,a⟩
 ·next a=>exact .inr a
 ·cases h
def XF(v:Value):v.oneCell'=sW v:=by cases v<;>rfl
def U3{l:Q3}{xs:Q6}(c:aG H l xs)(a:l.all AV.qp=true):∀x∈xs,sW x=true:=by
 intro x g;have d:=c.length;obtain⟨k,e⟩:=Zj.1 g;have b:k<l.length:=by have:=(gy.1 e).1;omega
 obtain⟨y,f,h⟩:=c.at (cO b);rw[e]at f;cases f;exact acj h (List.all_eq_true.1 a _ (iZ b))
def src_ok(h:SR P H F w){size n:Nat}{a:AV}{l:Q3}{x:Value}{f:TypeId}(i:Ik P f=true)(j:Bc F size a=some (n,l))(k:VR H a x)(b:l.all AV.qp=true):
 ∃d,Src P size f x n d w/\aG H l d:=by
 obtain⟨m,o,p⟩:=Yq h j k;obtain⟨d,g,e⟩:=p n (dP _);have q:l.take (n*size)=l:=mF ah;rw[q]at e;have c:=e.length;exact⟨d,⟨axi i,o,g w rfl,g w.drew rfl,by rw[<-c,m],λu r=>by rw[XF];exact U3 e b u r⟩,e⟩
def setCells_nil(w:World)(b o:Nat):w.setCells b o []=w:=rfl
def aG1{e:TypeId}{z:Q3}(h:Bg P e=some z):∃i b,P.info? e=some i/\i.zero=some b/\∀H:Env,aG H z b.cells.toList:=by
 unfold Bg at h;split at h
 ·next i hi=>
  split at h
  ·next b c=>
   simp only[bI]at h;obtain⟨a,d,rfl⟩:=h;exact⟨i,b,hi,c,λH=>BL (FI _ _ _ d)⟩
  ·cases h
 ·cases h
def aa1(h:SR P H F w){t u ty e:TypeId}{size bytes n sLen sCap:Nat}{z new old:Q3}{g os:Q6}{base:XN}{x:Value}
 (hi:yR P t=some (e,size,bytes,z)) (j:Src P size u x n g w) (b:aG H new g) (k:(Builtin.firstCells size sLen (.slice base sLen sCap)).run P w.drew=.ok ⟨os⟩ w.drew) (d:aG H old os)
 (v:old.length=sLen*size) (A:new.length=n*size) (Q:size≠0) (M:sCap<sLen+n) (B:(2*(sLen+n)+2000)*bytes<=2^48\/(2*(sLen+n))*bytes<=2^48) (R:sLen+n<=2^48):
 ∃y w' H',(Builtin.append_ #[t,u] ty #[.slice base sLen sCap,x]).run P w=.ok y w'/\St P H F w H' (F.new (.cells (old++new) e true true)) w'/\VR H' (.sl F.next 0 (sLen+n) none) y:=by
 obtain⟨S,⟨i,N,f,D⟩,T,U,V,W⟩:=Dz hi;obtain⟨Y,s,l,E,X⟩:=aG1 T;rw[N]at l;cases l;subst f;subst D
 have m:=grownCap_ge w (sLen+n) sCap e;have o:Builtin.nextslicecap (sLen+n) sCap*i.bytes<=281474976710656:=by
  have G:=nextslicecap_le M;have O:Builtin.nextslicecap (sLen+n) sCap*i.bytes<=(2*(sLen+n))*i.bytes:=wC _ G;rcases B with p|p
  ·have:(2*(sLen+n))*i.bytes<=(2*(sLen+n)+2000)*i.bytes:=wC _ ah;omega
  ·omega
 have r:=run_append_grow_src w t u ty e i s S N E base sLen sCap os k x n g j M ah o;have I:s.cells.size=i.size:=by have:=(X H).length;simp only[MC]at this;omega
 have L:=EL h.drew (c:=old++new) (xs:=(os++g).toArray++Builtin.zeroCells s.cells (grownCap w (sLen+n) sCap e-(sLen+n))) (elem:=e) (opn:=true) (es:=i.size) ?_ ?_ aA (λ_=>⟨U,ah,W⟩)
 ·have f:((os++g).toArray++Builtin.zeroCells s.cells (grownCap w (sLen+n) sCap e-(sLen+n))).size=grownCap w (sLen+n) sCap e*i.size:=by have G:=d.length;have O:=b.length;simp only[Array.size_append,aG0,List.size_toArray,eP,I];rw[<-G,<-O,v,A,<-uK,<-uK];congr 1;omega
  refine⟨_,_,_,r,(St.drew h).trans L,?_⟩;rw[f];have a:grownCap w (sLen+n) sCap e*i.size/i.size=grownCap w (sLen+n) sCap e:=Zm _ ah;have:=KZ (q:=⟨w.heap.size,0,grownCap w (sLen+n) sCap e*i.size,i.size⟩) (H:=H) (id:=F.next) (len:=sLen+n) (cap:=none) rfl (by simp only[wE,a];exact m);simp only[wE,a]at this;exact this
 ·have p:=d.append b;have Z:=p.length;rw[Array.toList_append,Ur (by simp only[List.toList_toArray];omega),mF (by simp only[List.toList_toArray];omega)];simpa using p
 ·have p:=(d.append b).length;simp only[Array.size_append,List.size_toArray];omega
def U6{α:Type}{ts:Array α}{a b:α}(h:ts.toList=[a,b]):ts =#[a,b]:=by cases ts;simp at h;subst h;rfl
def amC{bl off:Nat}{xs:Q6}{w':World}{cs:QR}{elem:TypeId}{b:Nat×Nat}(e:w.heap[bl]? =some (.cells cs elem b))(f:off+xs.length<=cs.size)
 (c:∀k,off<=k->k<off+xs.length->¬(b.1<=k/\k<b.2)) (a:∀x∈xs,sW x=true) (h:(storeCells ⟨bl,off,none⟩ xs).run P w=.ok () w'):
 (∀j,j<xs.length->(w.cell? ⟨bl,off+j,none⟩).isSome=true)/\(∀j,j<xs.length->w.frozen? ⟨bl,off+j,none⟩=false)/\w.setCells bl off xs=w':=by
 have g:∀j,j<xs.length->(w.cell? ⟨bl,off+j,none⟩).isSome=true:=λj l=>by rw[QC e];have:off+j<cs.size:=ah;simp[this]
 have i:∀j,j<xs.length->w.frozen? ⟨bl,off+j,none⟩=false:=λj l=>by rw[ahX e];have:=c (off+j) ah ah;simpa using this
 refine⟨g,i,?_⟩;have d:=run_storeCells_cells (P:=P) bl off xs 0 w (by simpa using g) (by simpa using i) (λv m=>by rw[XF];exact a v m);rw[h]at d;simp only[qg,Result.ok.injEq]at d;exact d.2.symm
def afG{t b ty e:TypeId}{size:Nat}{x:Value}{p:XN}(c:P.underlying t=some (.slice e))(d:sizeT P e=some size)(a:Src P size b x 0 [] w):
 (Builtin.append_ #[t,b] ty #[.slice p 0 0,x]).run P w=.ok (.slice p 0 0) w:=by
 have f:=a.cells;cases p<;>rcases a.kind with⟨g,hk⟩|hk<;>simp[Builtin.append_,bF c,bF hk,jP d,a.len,f,storeCells]
set_option maxHeartbeats 1000000 in
def EG(h:SR P H F w){t t1 e size bytes:Nat}{z:Q3}{ty:TypeId}{s v:AV}{u u':Value}{n:Nat}{new:Q3}{Q:Q6}(hi:yR P t=some (e,size,bytes,z))(R:Src P size t1 u' n Q w)(j:aG H new Q)(S:new.length=n*size)
 (g:su e size bytes s n new F=some (v,F')) (T:VR H s u):
 ∃y w' H',(Builtin.append_ #[t,t1] ty #[u,u']).run P w=.ok y w'/\St P H F w H' F' w'/\VR H' v y:=by
 unfold su at g;split at g
 ·cases g
 ·next hc=>
  simp only[not_or,Decidable.not_not,Y9]at hc;obtain⟨h0,D,G,L⟩:=hc;obtain⟨A,⟨i,sK,m,av⟩,hz,he,aw,hn⟩:=Dz hi;have ax:=j.length;split at g
  ·
    simp only[VR]at T;subst T;simp only[sliceLen]at G L;split at g
    ·next l=>
     cases g;subst l;have:Q=[]:=by apply kP;omega
     subst this;exact⟨_,w,H,afG A hn R,St.refl h,by simp[VR]⟩
    ·next l=>
     cases g;have:=aa1 (ty:=ty) (old:=[]) (os:=[]) (sLen:=0) (sCap:=0) (base:=none) h hi R j (by simp[Builtin.firstCells]) (by simp[aG]) aA S h0 ah (.inr (by simpa using G)) ah;simpa using this
  ·
    next id d len ai=>
    simp only[VR]at T;obtain⟨q,V,I,rfl⟩:=T;simp only[tX]at I⊢;simp only[sliceLen]at G L;split at g
    ·next f=>
     split at g
     ·next l=>
      cases g;subst l;have:Q=[]:=by apply kP;omega
      subst this;subst m;have:=run_append_room_src w t t1 ty e i A sK q.bl (q.ba+d) len ai u' 0 [] R f aA aA;exact⟨_,w,H,by simpa[setCells_nil]using this,St.refl h,by simp only[VR];exact⟨q,V,by simpa using I,rfl⟩⟩
     ·split at g
      ·next c et aq hg=>
       split at g
       ·next hl=>
        simp only[bI]at g;obtain⟨c',hr,M⟩:=g;cases M;obtain⟨w',N,ab⟩:=Y1 h hg hl V hr j D;obtain⟨q',o,cs,E,fr,Y,r⟩:=h.obj _ _ hg rfl;rw[V]at o;cases o;obtain⟨h5,_,_⟩:=Yh hr;have ak:=r.fits;have al:=r.le;obtain⟨h6,h7,h8⟩:=amC (bl:=q.bl) (off:=q.ba+(d+len*size)) Y ah (λk a b=>by have:=r.free rfl (k-q.ba) ah;rw[Uu ah]at this;exact this) (U3 j D) N
        subst m;have:=run_append_room_src w t t1 ty e i A sK q.bl (q.ba+d) len ai u' n Q R f (by simpa[kE]using h6) (by simpa[kE]using h7);rw[kE,h8]at this;exact⟨_,w',H,this,ab,by simp only[VR];exact⟨q,V,by simpa using f,rfl⟩⟩
       ·cases g
      ·cases g
    ·next f=>
     split at g
     ·next c et rw aq hg=>
      simp only[bI]at g;obtain⟨U,Z,M⟩:=g;cases M;obtain⟨q',o,cs,E,fr,Y,r⟩:=h.obj _ _ hg rfl;rw[V]at o;cases o;have ac:=r.Bd Z;have W:=(vg Z).2.1;exact aa1 (ty:=ty) h hi R j (by simp only[Builtin.firstCells];exact FV Y (r.take Z)) ac W S h0 ah (.inr G) L
     ·cases g
  ·
    next id d len=>
    simp only[VR]at T;obtain⟨q,V,I,rfl⟩:=T;simp only[wE]at I⊢;simp only[sliceLen]at G L;split at g
    ·next l=>
     cases g;subst l;have:Q=[]:=by apply kP;omega
     subst this;subst m;have:=run_append_room_src w t t1 ty e i A sK q.bl (q.ba+d) len ((q.sz-d)/q.es) u' 0 [] R (by simpa using I) aA aA;exact⟨_,w,H,by simpa[setCells_nil]using this,St.refl h,by simp only[VR];exact⟨q,V,by simpa using I,rfl⟩⟩
    ·next l=>
     split at g
     ·next hl=>
      split at g
      ·next c et hg=>
       split at g
       ·next ar=>
        simp only[bI]at g;obtain⟨U,Z,M⟩:=g;cases M;subst ar;obtain⟨q',o,cs,E,fr,Y,r⟩:=h.obj _ _ hg rfl;rw[V]at o;cases o;obtain⟨_,am,aa⟩:=r.room rfl;rw[hn]at aa;cases aa;have ac:=r.Bd Z;obtain⟨ay,W,az⟩:=vg Z;have ak:=r.fits;have al:=r.le;by_cases f:len+n<=(q.sz-d)/q.es
        ·
          have an:(len+n)*q.es<=q.sz-d:=kZ (wC _ f) (Nat.div_mul_le_self _ _);have aD:0<n*q.es:=P6 ah am;rw[uK]at an;have N:=adF (P:=P) Q w q.bl (q.ba+(d+len*q.es)) 0 cs E fr Y ah (U3 j D) (λk a b=>by have:=r.free rfl (k-q.ba) ah;rw[Uu ah]at this;exact this)
          obtain⟨h6,h7,h8⟩:=amC (bl:=q.bl) (off:=q.ba+(d+len*q.es)) Y ah (λk a b=>by have:=r.free rfl (k-q.ba) ah;rw[Uu ah]at this;exact this) (U3 j D) N
          have hr:=run_append_room_src w t t1 ty _ i A sK q.bl (q.ba+d) len ((q.sz-d)/q.es) u' n Q (by rw[m];exact R) f (by rw[m];simpa[kE]using h6) (by rw[m];simpa[kE]using h7);rw[m,kE,h8]at hr;refine⟨_,_,_,hr,St.again (q':=⟨q.bl,q.ba+d,q.sz-d,q.es⟩) h hg rfl hl V rfl FX (λk X=>FW X) rfl rfl rfl ?_,?_⟩
          ·refine⟨_,E,fr,Eb Y,?_⟩;have O:=Env.IK h ⟨q.bl,q.ba+d,q.sz-d,q.es⟩;refine {fits:=by rw[O6];show q.ba+d+(q.sz-d)<=cs.size;omega,le:=by show(U++new).length<=q.sz-d;rw[eP,W,S];omega,shut:=aA,cell:=?_,free:=?_,whole:=?_,room:=λ_=>⟨he,am,hn⟩}
           ·intro k a X;show ∃x,(setFrom cs (q.ba+(d+len*q.es)+0) Q)[q.ba+d+k]? =some x/\_
            rw[qg,Yg _ _ _ _ ah];by_cases aE:k<len*q.es
            ·rw[pF ah]at X;obtain⟨x1,ad,ae⟩:=r.cell _ _ (amR Z X);rw[aj ah];exact⟨x1,by rw[<-ad];congr 1;omega,VR.mono O _ _ ae⟩
            ·rw[yD ah]at X;obtain⟨x1,ad,ae⟩:=j.at X;have aL:k-U.length<new.length:=(gy.1 X).1;rw[au ah];exact⟨x1,by rw[<-ad];congr 1;omega,VR.mono O _ _ ae⟩
           ·intro _ k X;have aM:k<q.sz-d:=X;have:=r.free rfl (d+k) ah;show ¬(fr.1<=q.ba+d+k/\q.ba+d+k<fr.2)
            rw[kE];exact this
           ·intro M;obtain⟨w1,w2,_⟩:=r.whole M;exact⟨w1,by rw[O6];show q.ba+d+(q.sz-d)=cs.size;omega,aA⟩
          ·simp only[VR];exact⟨⟨q.bl,q.ba+d,q.sz-d,q.es⟩,by simp[Env.put],by simpa using f,aA⟩
        ·
          obtain⟨y,w',H',hr,ab,hv⟩:=aa1 (ty:=ty) (base:=some ⟨q.bl,q.ba+d,none⟩) (sLen:=len) (sCap:=(q.sz-d)/q.es) h hi R j (by simp only[Builtin.firstCells];exact FV (w:=w.drew) Y (r.take Z)) ac W S h0 ah (.inr G) L;refine⟨y,w',H',hr,ab.sub ?_ (dP _) rfl,hv⟩;intro ao o' B;rw[aC.rD]at B⊢;split at B
          ·next M=>rw[au (show ao=F.next from M)];exact B
          ·next M=>
           rw[aC.AL]at B;rw[aj (show ¬ao=F.next from M)];split at B
           ·cases B
           ·exact B
       ·cases g
      ·cases g
     ·cases g
  ·
    next es=>
    split at g
    ·next l=>
     cases g;subst l;have ap:=T;simp only[VR]at T;have:Q=[]:=by apply kP;omega
     subst this;rcases T with⟨rfl,pa,rfl⟩|⟨bl,d,c,xs,sz,rfl,hc,_⟩
     ·exact⟨_,w,H,afG (p:=pa) A hn R,St.refl h,by simpa using ap⟩
     subst m;have:=run_append_room_src w t t1 ty e i A sK bl d es.length c u' 0 [] R (by simpa using hc) aA aA;exact⟨_,w,H,by simpa[setCells_nil]using this,St.refl h,by simpa using ap⟩
    ·cases g
  ·cases g
def aoq(h:SR P H F w){ts:Wt}{ty:TypeId}{s x v:AV}{u j:Value}(a:Zu P ts s x F=some (v,F'))(o:VR H s u)(k:VR H x j):
 ∃y w' H',(Builtin.append_ ts ty #[u,j]).run P w=.ok y w'/\St P H F w H' F' w'/\VR H' v y:=by
 unfold Zu at a;split at a
 ·next t q d=>
  have:=U6 d;subst this;split at a
  ·next e l bytes z hi f=>
   split at a
   ·next n new b=>
    have c:new.all AV.qp=true:=by
     unfold su at a;split at a
     ·cases a
     ·next m=>
      simp only[not_or,Decidable.not_not,Y9]at m;exact m.2.1
    obtain⟨r,p,g⟩:=src_ok h f b k c;obtain⟨i,_,_⟩:=Yq h b k;exact EG h hi p g i a o
   ·cases a
  ·cases a
 ·cases a
def Y0{n:Int}(h0:0<=n)(h:n<=2^60):IntKind.i64.wrap n=n:=Go.IntWalk.i64_in _ ah
def ax7(h:SR P H F w){t:TypeId}{l c v:AV}{x y:Value}(k:UM P t l c F=some (v,F'))(R:VR H l x)(S:VR H c y):
 ∃z w' H',(Instr.makeSlice t x y).run P w=.ok z w'/\St P H F w H' F' w'/\VR H' v z:=by
 unfold UM at k;split at k
 ·next e d bytes z j b hi T U=>
  split at k
  ·next V=>
   obtain⟨W,b2,b3,X⟩:=V;cases k;obtain⟨kd,rfl⟩:=BI T R;obtain⟨Y,rfl⟩:=BI U S;obtain⟨E,⟨i,G,Z,p⟩,hz,he,q,I⟩:=Dz hi;obtain⟨L,rG,r⟩:=IU hz;have M:=Y0 W (ah:j<=2^60);have N:=Y0 (ah:0<=b) X;subst p
   have f:∀w:World,(askRoom (b.toNat*i.bytes)).run P w=.ok () w:=λw=>by unfold askRoom;split<;>simp[mark,Sem.run]
   have O:(decide (b<0) ||decide ((i.bytes:Int)*b>2^48))=false:=by simp;omega
   have aa:((b.toNat:Nat):Int)=b:=ah;by_cases o:b.toNat*d=0
   ·have a:(if d=0 then[]else kC b.toNat z)=[]:=by
     split
     ·rfl
     ·next s=>
      have:b.toNat=0:=by rcases Nat.mul_eq_zero.1 o with e|e;exact e;exact absurd e s
      rw[this];rfl
    rw[a];refine⟨_,_,_,?_,EL h (c:=[]) (xs:=#[]) (elem:=e) (es:=0) (opn:=false) (by simp[aG]) aA aA aA,KZ (len:=j.toNat) (cap:=some b.toNat) rfl (by simp;omega)⟩;have B:Array.range 0 =#[]:=rfl;simp only[Instr.makeSlice,aY,bF E,aX,asInt,asIntOf,bQ,IQ G,M,N,O,Bj,xF,f,jP I,o,if_true,newRow,newObj,Sem.run,B,aeC];have D:(decide (j<0) ||decide (j>b))=false:=by simp;omega
    simp only[D,iI,if_false];rfl
   ·have a:(if d=0 then[]else kC b.toNat z)=kC b.toNat z:=by rw[aj];rintro rfl;simp at o
    rw[a];have Q:=Ue (n:=b.toNat) (r H) q;have g:=Q.length;refine⟨_,_,_,?_,EL h (c:=kC b.toNat z) (xs:=(Array.range (b.toNat*d)).map (L.cells[· % L.cells.size]!)) (elem:=e) (es:=0) (opn:=false) (by rw[g,Bv];exact Q) (by simpa using MV g) (λ_=>by simpa using g) aA,KZ (len:=j.toNat) (cap:=some b.toNat) rfl (by simp;omega)⟩;simp only[Instr.makeSlice,aY,bF E,aX,asInt,asIntOf,bQ,IQ G,M,N,O,Bj,xF,f,jP I,o,if_false,rG,newRow,newObj,Sem.run];have D:(decide (j<0) ||decide (j>b))=false:=by simp;omega
    simp only[D,iI,if_false];rfl
  ·cases k
 ·cases k
def ax8{t e:TypeId}{size bytes:Nat}{z:Q3}{kd kd':IntKind}{c a:Int}(hi:yR P t=some (e,size,bytes,z))(h0:size≠0)(u:0<=c)(D:c<=a)(E:bytes*a<=2^48)(v:a<=2^60):
 ∃xs:QR,(Instr.makeSlice t (.int kd c) (.int kd' a)).run P w=.ok (.slice (some ⟨w.heap.size,0,none⟩) c.toNat a.toNat) {w with heap:=w.heap.push (.cells xs e)}/\xs.size=a.toNat*size/\aG H (kC a.toNat z) xs.toList:=by
 obtain⟨l,⟨i,m,x,f⟩,y,G,g,n⟩:=Dz hi;obtain⟨o,A,h⟩:=IU y;have p:=Y0 u (ah:c<=2^60);have q:=Y0 (ah:0<=a) v;subst f
 have b:∀w:World,(askRoom (a.toNat*i.bytes)).run P w=.ok () w:=λw=>by unfold askRoom;split<;>simp[mark,Sem.run]
 have r:(decide (a<0) ||decide ((i.bytes:Int)*a>2^48))=false:=by simp;omega
 have B:((a.toNat:Nat):Int)=a:=ah;have s:(decide (c<0) ||decide (c>a))=false:=by simp;omega
 by_cases d:a.toNat*size=0
 ·have j:a.toNat=0:=by rcases Nat.mul_eq_zero.1 d with e|e;exact e;exact absurd e h0
  refine⟨#[],?_,by simp[d],by rw[j];simp[kC,aG]⟩;have k:Array.range 0 =#[]:=rfl;simp only[Instr.makeSlice,aY,bF l,aX,asInt,asIntOf,bQ,IQ m,p,q,r,Bj,xF,b,jP n,d,if_true,newRow,newObj,Sem.run,k,aeC];simp only[s,iI,if_false]
 ·refine⟨(Array.range (a.toNat*size)).map (o.cells[· % o.cells.size]!),?_,aA,Ue (h H) g⟩;simp only[Instr.makeSlice,aY,bF l,aX,asInt,asIntOf,bQ,IQ m,p,q,r,Bj,xF,b,jP n,d,if_false,A,newRow,newObj,Sem.run];simp only[s,iI,if_false]
def aG.aog{l:Q3}(n:Nat)(h:l.all AV.qp=true):(l.take n).all AV.qp=true:=by rw[List.all_eq_true]at h⊢;exact λx a=>h x (MQ a)
def apZ(h:SR P H F w){ts:Wt}{ty:TypeId}{d x v:AV}{u D:Value}(a:Zw P ts d x F=some (v,F'))(m:VR H d u)(E:VR H x D):
 ∃y w' H',(Builtin.copy_ ts ty #[u,D]).run P w=.ok y w'/\St P H F w H' F' w'/\VR H' v y:=by
 unfold Zw at a;split at a
 ·next t G=>
  split at a
  ·next e i bytes z id L f M hi=>
   obtain⟨g,_,_,_,_,o⟩:=Dz hi;simp only[VR]at m;obtain⟨q,N,O,rfl⟩:=m;split at a
   ·next n new c Y Q b R=>
    split at a
    ·cases a
    ·next Z=>
     split at a
     ·next S=>
      obtain⟨T,j⟩:=S;simp only[bI]at a;obtain⟨c',U,V⟩:=a;cases V;obtain⟨W,r,s⟩:=Yq h b E;obtain⟨X,A,I⟩:=s (Nat.min n f) (Nat.min_le_left _ _);obtain⟨w',k,B⟩:=Y1 h R T N U I (aG.aog _ j);refine⟨.int .i64 (Nat.min n f:Nat),w',H,?_,B,by simp[VR]⟩;simp only[Builtin.copy_,G,yA,Gz,mD,xA,aY,bF g,aX,r,jP o,A w rfl,k,bQ,goInt]
     ·cases a
   ·cases a
  ·next e i bytes z hi=>
   obtain⟨g,_,_,_,_,o⟩:=Dz hi;split at a
   ·next p b=>
    obtain⟨n,new⟩:=p;cases a;simp only[VR]at m;subst m;obtain⟨W,r,s⟩:=Yq h b E;obtain⟨X,A,I⟩:=s 0 (vG _);refine⟨.int .i64 0,w,H,?_,St.refl h,by simp[VR]⟩;have l:Nat.min n 0=0:=Nat.min_zero _;simp only[Builtin.copy_,G,yA,Gz,mD,xA,aY,bF g,aX,r,jP o,l,A w rfl,bQ,goInt];rfl
   ·cases a
  ·cases a
 ·cases a
def Qu:∀{l:Q3}{b:Q0}{xs:Q6},bytesOf l=some b->aG H l xs->xs=b.map λc=>Value.int .u8 c.toNat
 |[],b,xs,h,e=>by simp[bytesOf]at h;subst h;simpa[aG]using e
 |a::l,b,xs,h,e=>by
  simp only[aG]at e;obtain⟨x,rest,rfl,h1,i⟩:=e;unfold bytesOf at h;split at h
  ·next d=>cases d
  ·next n f d=>
   cases d;split at h
   ·next j=>
    simp only[bI]at h;obtain⟨k,g,rfl⟩:=h;simp only[VR]at h1;subst h1;rw[Qu g i];simp only[jc,yC,and_true,Value.int.injEq,true_and];have:(UInt8.ofNat n.toNat).toNat=n.toNat:=by simp;omega
    rw[this];omega
   ·cases h
  ·cases h
def adE(f:Value->ByteArray->Sem (ForInStep ByteArray))(d:∀n r w,(f (.int .u8 n) r).run P w=.ok (.yield (r.push (UInt8.ofNat n.toNat))) w)(b:Q0)(a:ByteArray):
 (forIn (⟨b.map λc=>Value.int .u8 c.toNat⟩:QR) a f).run P w=.ok ⟨⟨a.data.toList++b⟩⟩ w:=by
 rw[<-Array.forIn_toList];simp only;induction b generalizing a with
 |nil=>simp
 |cons c b e=>simp only[jc,List.forIn_cons,aY,d,aX];rw[e];congr 1;simp
def adN{bl:Nat}{cs:QR}{elem:TypeId}{a:Nat×Nat}(h:w.heap[bl]? =some (.cells cs elem a)):w.shape? bl=some (elem,cs.size):=by simp[World.shape?,h]
def aFW(h:SR P H F w){e:TypeId}{s:Q0}(E:e≠0)(G:sizeT P e=some 1):
 ∃y w' H',(Conv.stringToBytes e ⟨⟨s⟩⟩).run P w=.ok y w'/\St P H F w H' (F.new (.cells (yO s) e true true)) w'/\VR H' (.sl F.next 0 s.length none) y:=by
 have g:=grownCap_ge w s.length 0 e;generalize m:grownCap w s.length 0 e=c at g;let d:QR:=(s.map λb=>Value.int .u8 b.toNat).toArray++Array.replicate (c-s.length) (.int .u8 0)
 have j:d.size=c:=by simp[d];omega
 have l:∀(o:Obj)(f:Obj->Obj),(w.heap.push o).modify w.heap.size f=w.heap.push (f o):=by
  intro o f;apply Uf;intro i;rw[MB,Jd,Jd];by_cases n:w.heap.size=i
  ·subst n;simp
  ·rw[aj n];by_cases p:i=w.heap.size
   ·exact absurd p.symm n
   ·rw[aj p,aj p]
 have r:St P H F w.drew (H.put F.next ⟨w.heap.size,0,c,1⟩) (F.new (.cells (yO s) e true true)) {w.drew with heap:=w.heap.push (.cells d e (c,c+1))}:=by
  refine St.alloc (w:=w.drew) h.drew _ _ _ rfl ?_;refine⟨d,e,(c,c+1),by show(w.heap.push _)[w.heap.size]? =_;simp,?_⟩;refine {fits:=by simp[j],le:=by simpa[yO]using g,shut:=aA,cell:=?_,free:=λ_ k t=>?_,whole:=λ_=>⟨rfl,by simp[j],λ_=>rfl⟩,room:=λ_=>⟨E,Nat.one_pos,G⟩}
  ·intro k a t;obtain⟨x,D,I⟩:=(af2 (H:=H.put F.next ⟨w.heap.size,0,c,1⟩) s).at t;refine⟨x,?_,I⟩;have u:=(gy.1 D).1;simp only[mW,d];rw[Y5 (by simpa using u)];simpa using D
  ·have L:k<c:=t;show ¬(c<=0+k/\0+k<c+1)
   omega
 refine⟨.slice (some ⟨w.heap.size,0,none⟩) s.length c,_,_,?_,(St.drew h).trans r,?_⟩
 ·have v:({w.drew with heap:=w.heap.push (.cells d e)}:World).shape? w.heap.size=some (e,c):=by simp[World.shape?,j]
  have z:({w.drew with heap:=w.heap.push (.cells d e)}:World).freeze {block:=w.heap.size,off:=c} 1 ={w.drew with heap:=w.heap.push (.cells d e (c,c+1))}:=by unfold World.freeze;rw[aj ah,l];rfl
  have A:(choose (.appendCap (⟨⟨s⟩⟩:ByteArray).size 0 e)).run P w=.ok c w.drew:=by have:(⟨⟨s⟩⟩:ByteArray).size=s.length:=rfl;rw[this];simp only[choose,Sem.run,Question.forced,iI,if_false];rw[<-m];rfl
  have B:((⟨⟨s⟩⟩:ByteArray).data.map λb=>Value.int .u8 b.toNat)++Array.replicate (c-(⟨⟨s⟩⟩:ByteArray).size) (.int .u8 0)=d:=by have:(⟨⟨s⟩⟩:ByteArray).size=s.length:=rfl;rw[this];simp[d]
  simp only[Conv.stringToBytes,aY,A,aX,B,newRow,newObj,bQ,Sem.run];simp only[markStringish,shape,aY,Sem.run];show((Result.ok (({w.drew with heap:=w.heap.push (.cells d e)}:World).shape? w.heap.size) _).andThen _).andThen _=_
  rw[v];simp only[aX,freeze,Sem.run];exact uT (Result.ok (Value.slice (some ⟨w.heap.size,0,none⟩) s.length c)) z
 ·have:=KZ (q:=⟨w.heap.size,0,c,1⟩) (H:=H) (id:=F.next) (len:=s.length) (cap:=none) rfl (by simp only[wE,Nat.div_one];exact g);simpa using this
def QG(h:SR P H F w){src dst:TypeId}{a v:AV}{x:Value}(f:Am P src dst a F=some (v,F'))(o:VR H a x):
 ∃y w' H',(convert src dst x).run P w=.ok y w'/\St P H F w H' F' w'/\VR H' v y:=by
 unfold Am at f;split at f
 ·next d k kd n p z=>
  cases f;simp only[VR]at o;subst o;exact⟨.int k (k.wrap n),w,H,by simp only[convert,aY,bF p,bF z,aX];rfl,St.refl h,by simp[VR]⟩
 ·next s p z=>
  cases f;simp only[VR]at o;subst o;exact⟨_,w,H,by simp only[convert,aY,bF p,bF z,aX];rfl,St.refl h,by simp[VR]⟩
 ·next e s p z=>
  split at f
  ·next E=>
   split at f
   ·next L=>
    cases f;simp only[VR]at o;subst o;obtain⟨y,w',H',V,X,Y⟩:=aFW h (s:=s) L.1 L.2;exact⟨y,w',H',by simp only[convert,aY,bF p,bF z,aX,bF E];exact V,X,Y⟩
   ·cases f
  ·cases f
 ·next e p z=>
  split at f
  ·next E=>
   cases f;simp only[VR]at o;subst o;exact⟨.string ⟨⟨[]⟩⟩,w,H,by simp only[convert,aY,bF p,bF z,aX,bF E,Conv.bytesToString,bQ];rfl,St.refl h,by simp[VR]⟩
  ·cases f
 ·next e id A len ae p z=>
  split at f
  ·next c et rw af E Q=>
   split at f
   ·next r V=>
    simp only[bI]at f;obtain⟨b,O,Z⟩:=f;cases Z;simp only[VR]at o;obtain⟨q,M,aa,rfl⟩:=o;obtain⟨q',g,W,B,fr,m,G⟩:=h.obj _ _ Q rfl;rw[M]at g;cases g;have Y:=G.Bd V;have D:=Qu O Y;refine⟨.string ⟨⟨b⟩⟩,w,H,?_,St.refl h,by simp[VR]⟩;simp only[convert,aY,bF p,bF z,aX,bF E,Conv.bytesToString];rw[FV m (G.take V),D];simp only[aX];rw[adE _ (λ_ _ _=>rfl)];rfl
   ·cases f
  ·cases f
 ·next e l p z=>
  split at f
  ·next E=>
   simp only[bI]at f;obtain⟨b,O,Z⟩:=f;cases Z;simp only[VR]at o;rcases o with⟨rfl,pa,rfl⟩|⟨bl,A,c,R,sz,rfl,L,g1,g2,g3⟩
   ·simp[bytesOf]at O;subst O;exact⟨.string ⟨⟨[]⟩⟩,w,H,by simp only[convert,aY,bF p,bF z,aX,bF E,Conv.bytesToString,bQ];cases pa<;>simp[loadCells,loadCellsFrom]<;>rfl,St.refl h,by simp[VR]⟩
   have D:=Qu O g1;have S:=g1.length;have ab:eX R=R:=by
    rw[D];clear D O g1 g2 g3 S;unfold eX;induction b with
    |nil=>rfl
    |cons c b ih=>simp only[jc,kY,ih];rfl
   refine⟨.string ⟨⟨b⟩⟩,w,H,?_,St.refl h,by simp[VR]⟩;simp only[convert,aY,bF p,bF z,aX,bF E,Conv.bytesToString];have N:(loadCells ⟨bl,A,none⟩ l.length).run P w=.ok ⟨R⟩ w:=by
    by_cases I:l=[]
    ·subst I;have:R=[]:=kP S.symm;subst this;simp[loadCells,loadCellsFrom]
    ·obtain⟨W,B,fr,h4,h5,h6⟩:=g3 I;rw[ab]at h5 h6;rw[FV (h.jH _ _ h4) ah];congr 2;apply Jh;intro j;rw[oh];split
     ·next hj=>
      have T:j<R.length:=ah;rw[uJ,cO T,yA];exact h6 j _ (cO T)
     ·next hj=>rw[xB ah]
   rw[N,D];simp only[aX];rw[adE _ (λ_ _ _=>rfl)];rfl
  ·cases f
 ·next t id A p z=>
  split at f
  ·next c et rw n Q I=>
   split at f
   ·next L=>
    cases f;obtain⟨c1,c2,c3⟩:=L;simp only[VR]at o;obtain⟨q,M,rfl⟩:=o;obtain⟨q',g,W,B,fr,m,G⟩:=h.obj _ _ Q rfl;rw[M]at g;cases g;have ad:=G.fits;have aa:=G.le;simp only[sizeT,bI]at I;obtain⟨i,hi,rfl⟩:=I;exact⟨_,w,H,Lib.run_to_unsafe w _ p z hi c3 (adN m) (by show q.ba+A<W.size;omega),St.refl h,by simp only[VR];exact⟨q,M,rfl⟩⟩
   ·cases f
  ·cases f
 ·next u id A p z=>
  split at f
  ·next c et rw n Q I=>
   split at f
   ·next L=>
    cases f;obtain⟨c1,c2⟩:=L;simp only[VR]at o;obtain⟨q,M,rfl⟩:=o;obtain⟨q',g,W,B,fr,m,G⟩:=h.obj _ _ Q rfl;rw[M]at g;cases g;obtain⟨w1,w2,w3⟩:=G.whole c1;have ac:=w3 rfl;have U:=G.shut rfl;simp only[sizeT,bI]at I;obtain⟨i,hi,_⟩:=I;refine⟨_,w,H,Lib.run_from_unsafe w _ p z hi (adN m) ?_,St.refl h,by simp only[VR];exact⟨q,M,rfl⟩⟩;subst w1;rw[ac]at w2⊢;simp only[mW]at w2⊢;rw[<-w2,<-U];exact c2
   ·cases f
  ·cases f
 ·cases f
def O7{r:Nat}{o o':Obj}(b:w.heap[r]? =some o)(a:∀c e f,o≠.cells c e f):(setObj r o').run P w=.ok () (pW w r o'):=by simp only[setObj,Sem.run,b];cases o<;>first|(exact absurd rfl (a _ _ _))|rfl
def ajR(h:SR P H F w){t:TypeId}{r:WD}(b:r=none\/∃k n a et,r=some (.int k n)/\P.underlying t=some (.map a et)):
 ∃y w' H',(Instr.makeMap t r).run P w=.ok y w'/\St P H F w H' (F.new (.map [])) w'/\VR H' (.mp F.next) y:=by
 refine⟨.map (some w.heap.size),_,_,?_,St.alloc h (.map []) (.map #[] 0) ⟨w.heap.size,0,0,0⟩ rfl ⟨#[],0,aA,aA,aA⟩,by simp only[VR];exact⟨⟨w.heap.size,0,0,0⟩,by simp[Env.put],rfl⟩⟩;rcases b with rfl|⟨k,n,a,et,rfl,c⟩
 ·simp only[Instr.makeMap,aY,newObj,Sem.run,bQ,aX]
 ·simp only[Instr.makeMap,aY,bF c,asInt,asIntOf,newObj,Sem.run,bQ,aX]
def ajT(h:SR P H F w){t:TypeId}{m k v:AV}{x y z:Value}(n:UN P t m k v F=some F')(hx:VR H m x)(I:VR H k y)(hz:VR H v z):
 ∃w',(Instr.mapUpdate t x y z).run P w=.ok () w'/\St P H F w H F' w':=by
 unfold UN at n;split at n
 ·next kt et id hu=>
  split at n
  ·next es W=>
   split at n
   ·next hc=>
    obtain⟨hl,N⟩:=hc;simp only[VR]at hx;obtain⟨q,X,rfl⟩:=hx;obtain⟨q',O,o,d,Q,A,Y⟩:=h.obj _ _ W rfl;rw[X]at O;cases O;obtain⟨Z,qU,V⟩:=ahN N;have R:=ags (w:=w) qU V I false;have S:(getObj q.bl).run P w=.ok (.map o d) w:=by simp[getObj,Sem.run,Q]
    have T:CZ H es o.toList:=⟨by simpa using A,λk e s=>by obtain⟨m,r,L,M⟩:=Y k e s;exact⟨m,by simpa using r,L,M⟩⟩
    split at n
    ·next i u f=>
     cases n;obtain⟨r',L,M⟩:=find_ok V I f T;cases r' with
     |none=>exact M.elim
     |some p=>
      obtain⟨j',zz⟩:=p;obtain⟨rfl,_,U,_⟩:=M;simp only[mW]at U;have B:i<o.size:=ah;have D:Instr.sameNow Z y (o[i]).key=some true:=by
       have:∀(l:List MapEntry)(k j:Nat)(v:Value),Instr.findNow Z y l k=some (some (j,v))->k<=j/\∃m,l[j-k]? =some m/\Instr.sameNow Z y m.key=some true:=by
        intro l;induction l with
        |nil=>intro k j v E;simp[Instr.findNow]at E
        |cons m l ih=>
         intro k j v E;unfold Instr.findNow at E;split at E
         ·next s=>cases E;exact⟨Nat.le_refl _,m,aA,s⟩
         ·next s=>
          obtain⟨a,m',b,c⟩:=ih _ _ _ E;refine⟨ah,m',?_,c⟩;have:j-k=(j-(k+1))+1:=ah;rw[this];simpa using b
         ·cases E
       obtain⟨_,m,r,aa⟩:=this _ _ _ _ L;simp only[Jp,yA]at r;rw[Eo B]at r;cases r;exact aa
      have ab:=aEn V I D 9999;have G:(Instr.findKey kt y o.toList).run P w=.ok (some (i,zz)) w:=by simp only[Instr.findKey,aY,bF qU,aX,L,bQ]
      have ac:(Instr.keyThatStays (((o[i]?).map (·.key)).getD y) y).run P w=.ok y w:=by rw[Eo B];simp only[iO,tX,Instr.keyThatStays];rw[au ab];rfl
      refine⟨pW w q.bl (.map (o.modify i λe=>{e with key:=y,val:=z}) d),?_,St.write h W rfl hl X FX (λk s=>FW s) rfl rfl rfl ?_⟩
      ·simp only[Instr.mapUpdate,aY,bF hu,aX,S,R,G,ac];exact O7 Q aA
      ·refine⟨_,d,Eb Q,by simpa using A,λj e g=>?_⟩;rw[ae4]at g;split at g
       ·next e1=>
        subst e1;cases g;refine⟨{o[i]with key:=y,val:=z},?_,I,hz⟩;rw[MB,au rfl,Eo B];rfl
       ·next e1=>
        obtain⟨m,r,a,b⟩:=Y j e g;refine⟨m,?_,a,b⟩;rw[MB,aj e1];exact r
    ·next f=>
     cases n;obtain⟨r',L,M⟩:=find_ok V I f T;cases r' with
     |some p=>exact M.elim
     |none=>
      have G:(Instr.findKey kt y o.toList).run P w=.ok none w:=by simp only[Instr.findKey,aY,bF qU,aX,L,bQ]
      refine⟨pW w q.bl (.map (o.push {key:=y,val:=z,born:=d}) (d+1)),?_,St.write h W rfl hl X FX (λk s=>FW s) rfl rfl rfl ?_⟩
      ·simp only[Instr.mapUpdate,aY,bF hu,aX,S,R,G];exact O7 Q aA
      ·refine⟨_,d+1,Eb Q,by simp[A],λj e g=>?_⟩;rw[List.getElem?_append]at g;split at g
       ·next U=>
        obtain⟨m,r,a,b⟩:=Y j e g;refine⟨m,?_,a,b⟩;rw[Jd,aj ah];exact r
       ·next ae=>
        have ad:j-es.length=0:=by have:=(gy.1 g).1;simp at this;omega
        rw[ad]at g;simp at g;subst g;refine⟨{key:=y,val:=z,born:=d},?_,I,hz⟩;rw[Jd,au ah]
    ·cases n
   ·cases n
  ·cases n
 ·cases n
def aBw(h:SR P H F w){t:TypeId}{s:Q0}(a:P.underlying t=some .string):
 ∃y w' H',(Instr.range t (.string ⟨⟨s⟩⟩)).run P w=.ok y w'/\St P H F w H' (F.new (.iter s 0)) w'/\VR H' (.p F.next 0) y:=by
 refine⟨.pointer (some ⟨w.heap.size,0,none⟩),_,_,?_,St.alloc h (.iter s 0) (.stringIter ⟨⟨s⟩⟩ 0) ⟨w.heap.size,0,0,0⟩ rfl ⟨aA,rfl⟩,by simp only[VR];exact⟨⟨w.heap.size,0,0,0⟩,by simp[Env.put],rfl⟩⟩;simp only[Instr.range,aY,bF a,newObj,Sem.run,bQ,aX]
def aBu(h:SR P H F w){t k e:TypeId}(a:P.underlying t=some (.map k e)):
 ∃y w' H',(Instr.range t (.map none)).run P w=.ok y w'/\St P H F w H' (F.new (.iterM none)) w'/\VR H' (.p F.next 0) y:=by
 refine⟨.pointer (some ⟨w.heap.size,0,none⟩),_,_,?_,St.alloc h (.iterM none) (.mapIter none 0 #[] 0) ⟨w.heap.size,0,0,0⟩ rfl ⟨rfl,0,0,aA⟩,by simp only[VR];exact⟨⟨w.heap.size,0,0,0⟩,by simp[Env.put],rfl⟩⟩;simp only[Instr.range,aY,bF a,newObj,Sem.run,bQ,aX]
def aBv(h:SR P H F w){t k e:TypeId}(f:P.underlying t=some (.map k e)){id:Nat}{es:XX}(g:F.get id=some (.map es)){x:Value}(c:VR H (.mp id) x):
 ∃y w' H',(Instr.range t x).run P w=.ok y w'/\St P H F w H' (F.new (.iterM (some id))) w'/\VR H' (.p F.next 0) y:=by
 simp only[VR]at c;obtain⟨q,d,rfl⟩:=c;obtain⟨l,b,m,a,i,j,_⟩:=h.obj _ _ g rfl;rw[d]at b;cases b;refine⟨.pointer (some ⟨w.heap.size,0,none⟩),_,_,?_,St.alloc h (.iterM (some id)) (.mapIter (some q.bl) a #[] a) ⟨w.heap.size,0,0,0⟩ rfl ⟨rfl,a,a,q,(Env.IK h _).pl _ _ d,aA⟩,by simp only[VR];exact⟨⟨w.heap.size,0,0,0⟩,by simp[Env.put],rfl⟩⟩;simp only[Instr.range,aY,bF f,newObj,getObj,i,Sem.run,bQ,aX]
def azb(h:SR P H F w){ty:TypeId}{id:Nat}(d:F.get id=some (.iterM none)){x:Value}(c:VR H (.p id 0) x):
 (Instr.next x false ty).run P w=.ok (.tuple #[.bool false]) w:=by
 simp only[VR]at c;obtain⟨q,e,rfl⟩:=c;obtain⟨i,a,f,b,last,g⟩:=h.obj _ _ d rfl;rw[e]at a;cases a;simp only[f,qg,Instr.next,aY,getObj,Sem.run,g,aX,bQ]
def azc(h:SR P H F w){ty:TypeId}{id m:Nat}(l:F.get id=some (.iterM (some m)))(n:F.get m=some (.map [])){x:Value}(k:VR H (.p id 0) x):
 (Instr.next x false ty).run P w=.ok (.tuple #[.bool false]) w:=by
 simp only[VR]at k;obtain⟨q,o,rfl⟩:=k;obtain⟨z,a,r,c,last,A,d,s⟩:=h.obj _ _ l rfl;rw[o]at a;cases a;obtain⟨B,b,t,e,f,g,_⟩:=h.obj _ _ n rfl;rw[d]at b;cases b;have i:t =#[]:=by apply aeB;simpa using g
 subst i;have j:(choose (.mapNext 1)).run P w=.ok 0 w:=by simp[choose,Sem.run,Question.forced]
 have u:∀p:MapEntry->Bool,(#[]:Array MapEntry).filter p =#[]:=λp=>aA;have v:(if(#[]:Array MapEntry).isEmpty=true then #[none]else(#[]:Array (Option MapEntry)))++Array.map some ((#[]:Array MapEntry)++#[]) =#[none]:=aA;simp only[r,qg,Instr.next,aY,getObj,Sem.run,s,f,aX,bQ,u,v];have y:(#[none]:Array (Option MapEntry)).size=1:=rfl;rw[y,aj aA];simp only[aY,j,aX];rfl
def azd(h:SR P H F w){ty:TypeId}{it v:AV}{x:Value}(a:UQ it F=some (v,F'))(i:VR H it x):
 ∃y w',(Instr.next x true ty).run P w=.ok y w'/\St P H F w H F' w'/\VR H v y:=by
 unfold UQ at a;split at a
 ·next id=>
  split at a
  ·next s pos j=>
   split at a
   ·next m=>
    simp only[VR]at i;obtain⟨q,l,rfl⟩:=i;obtain⟨o,c,f,d⟩:=h.obj _ _ j rfl;rw[l]at c;cases c;have e:(getObj q.bl).run P w=.ok (.stringIter ⟨⟨s⟩⟩ pos) w:=by simp[getObj,Sem.run,f]
    rw[d];split at a
    ·next g=>
     cases a;refine⟨.tuple #[.bool true,.int .i64 pos,.int .i32 (Utf8.decode ⟨⟨s⟩⟩ pos).1],_,?_,St.write h j rfl m l FX (λk n=>FW n) rfl rfl rfl ⟨Eb (o':=.stringIter ⟨⟨s⟩⟩ (pos+(Utf8.decode ⟨⟨s⟩⟩ pos).2)) f,d⟩,?_⟩
     ·have b:pos<(⟨⟨s⟩⟩:ByteArray).size:=g;simp only[Instr.next,qg,aY,e,aX,xF,b,if_true,O7 f aA,bQ,goInt]
     ·simp only[VR];exact⟨_,rfl,aG.cons (by simp[VR]) (aG.cons (by simp[VR]) (aG.cons (by simp[VR]) (by simp[aG])))⟩
    ·next g=>
     cases a;refine⟨.tuple #[.bool false],w,?_,St.refl h,by simp only[VR];exact⟨_,rfl,aG.cons (by simp[VR]) (by simp[aG])⟩⟩;have b:¬pos<(⟨⟨s⟩⟩:ByteArray).size:=g;simp only[Instr.next,qg,aY,e,aX,xF,b,if_false,bQ]
   ·cases a
  ·cases a
 ·cases a
def amo{ts:Wt}{ty:TypeId}:(Builtin.unsafeSliceData_ ts ty #[.slice none 0 0]).run P w=.ok (.pointer none) w:=rfl
def amq{ts:Wt}{ty:TypeId}{a:Addr}{n c:Nat}(b:c≠0):(Builtin.unsafeSliceData_ ts ty #[.slice (some a) n c]).run P w=.ok (.pointer (some a)) w:=by
 show(if c≠0 then pure (.pointer (some a))else _:Sem Value).run P w=_
 rw[au b];rfl
def aek{a it ty:TypeId}{p:XN}:(Builtin.unsafeString_ #[a,it] ty #[.pointer p,.int .i64 0]).run P w=.ok (.string ⟨⟨[]⟩⟩) w:=Lib.run_unsafeString_none w a it ty p
def liesAt_bytes{e:TypeId}(c:P.cellsOf e=1)(a off n:Nat)(d:off+n<=a):liesAt P P.depth e a off e n=true:=by have b:P.depth=(2*(P.types.size+Made.depth)+1)+1:=rfl;rw[b];simp only[liesAt,qF];left;rw[b];simp[rowAt,c,d,sameLayout,Nat.mod_one]
def aCy(i it ty e:TypeId)(p:P.underlying i=some (.pointer e))(o:P.cellsOf e=1)(g off cells:Nat)(k:w.shape? g=some (e,cells))(l:Q0)(h0:l≠[])(q:off+l.length<=cells)(r:l.length<=9223372036854775807)
 (a:∀(j:Nat) x,l[j]? =some x->w.cell? ((⟨g,off,none⟩:Addr).add j)=some (.int .u8 x.toNat)):
 (Builtin.unsafeString_ #[i,it] ty #[.pointer (some ⟨g,off,none⟩),.int .i64 l.length]).run P w=.ok (.string ⟨l.toArray⟩) (w.freeze ⟨g,off,none⟩ l.length):=by
 have t:l.length≠0:=by simpa using h0
 have m:=Lib.run_loadBytes (P:=P) w l ⟨g,off,none⟩ .empty a;have b:=liesAt_bytes (P:=P) o (cells/P.cellsOf e) off l.length (by rw[o];simpa using q);have c:¬(9223372036854775807:Int)<(l.length:Int):=ah
 have d:Builtin.unsafeString_ #[i,it] ty #[.pointer (some ⟨g,off,none⟩),.int .i64 l.length] =
  (do
   let n <-asInt (.int .i64 l.length)
   if n<0 then runtimePanic (.error "unsafe.String: len out of range")
   if n>IntKind.i64.max then unsupported (.unsafePointer "String: a length above the largest int")
   if n=0 then pure (.string .empty)
   else if <-variablesAt ⟨g,off,none⟩ (<-elemOf i) n.toNat then do
    let s <-loadBytes ⟨g,off,none⟩ .empty n.toNat
    freeze ⟨g,off,none⟩ n.toNat
    pure (.string s)
   else unsupported (.unsafePointer "String: not so many bytes at ptr")):=rfl
 rw[d];have f:IntKind.i64.max=9223372036854775807:=rfl;have h:¬(l.length:Int)<0:=ah;simp[asInt,asIntOf,f,c,h,t,variablesAt,k,elemOf,run_underlying p,b,m]
def au2{bl off n:Nat}{cs:QR}{elem:TypeId}{a:Nat×Nat}(h:w.heap[bl]? =some (.cells cs elem a))(b:n≠0):
 w.freeze ⟨bl,off,none⟩ n=pW w bl (.cells cs elem (if a.1==a.2 then(off,off+n)else(min a.1 off,max a.2 (off+n)))):=by
 unfold World.freeze pW;rw[aj b];congr 1;apply Uf;intro i;rw[MB,Ep];by_cases e:bl=i
 ·subst e;have:bl<w.heap.size:=(tH.1 h).1;rw[au rfl,au rfl,au this,h];rfl
 ·rw[aj e,aj e]
def anb(h:SR P H F w){t it ty e:TypeId}{id off:Nat}{n:Int}{c r:Q3}{opn:Bool}{b:Q0}{q:Place}(B:P.underlying t=some (.pointer e))
 (s:F.get id=some (.cells c e true opn)) (D:e≠0) (E:P.cellsOf e=1) (h0:0<n) (G:n<2^62) (I:F.lock<=id) (u:takeN c off n.toNat=some r) (L:bytesOf r=some b) (v:H id=some q):
 ∃y w',(Builtin.unsafeString_ #[t,it] ty #[.pointer (some ⟨q.bl,q.ba+off,none⟩),.int .i64 n]).run P w=.ok y w'/\St P H F w H (F.put id (.cells c e false opn)) w'/\VR H (.s b) y:=by
 obtain⟨U,g,p,d,V,a,i⟩:=h.obj _ _ s rfl;rw[v]at g;cases g;obtain⟨w1,W,X⟩:=i.whole D;subst w1;have z:=i.Bd u;have l:=Qu L z;obtain⟨hr1,M,N⟩:=vg u;have A:=i.fits;have O:=i.le;have m:b.length=n.toNat:=by have:=z.length;rw[l,gU]at this;omega
 have Q:((b.length:Nat):Int)=n:=ah;have f:=aCy (P:=P) (w:=w) t it ty d B E q.bl (q.ba+off) p.size (adN a) b (by intro R;subst R;simp at m;omega) ah ah (λj x S=>by
  rw[tY,QC a];have o:(List.take n.toNat (List.drop (q.ba+off) p.toList))[j]? =some (Value.int .u8 x.toNat):=by rw[l];simp[S]
  rw[oh]at o;split at o
  ·rw[uJ,yA]at o;exact o
  ·cases o)
 rw[Q,au2 a ah]at f;refine⟨_,_,f,St.write h s rfl I v FX (λk T=>FW T) rfl rfl rfl ?_,by simp[VR]⟩;exact⟨p,d,_,Eb a,{i with free:=by simp}⟩
