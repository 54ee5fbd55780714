/- Slices that are made, appended to and copied into. -/
import Derived.Test.YtmkkknckcnpljaaGreatDoorAbsB
import Derived.Deep.AppendSrc
import Derived.Laws.IdiomCopy
import Derived.Lib.UnsafeStr
set_option linter.all false
namespace Go.aO
noncomputable section
variable[aI]
variable{P:Program}{H:Env}{J J':aA}{w:World}
def LU{q:Place}{id len:Nat}{cap:QR}(h0:q.ba=0)(a:len<=cap.getD (q.sz/q.es)):VR (H.put id q) (.sl id 0 len cap) (.slice (some ⟨q.bl,0,none⟩) len (cap.getD (q.sz/q.es))):=by simp only[VR];exact⟨q,by simp[Env.put],by simpa using a,by simp[h0]⟩
def alm(h:SR P H J w){t e:TypeId}{size bytes len:Nat}{z:Q3}{p:Wf}{qs:Array (Nat×Value)}{cs:Q3}(hi:wJ P t=some (e,size,bytes,z))
 (c:¬len*size>2^24) (f:AQ (λi=>some (i*size,size)) (if len*size=0 then[]else jv len z) p=some cs) (q:CV H p qs.toList):
 ∃y w' H',(Instr.buildSlice t len qs).run P w=.ok y w'/\St P H J w H' (J.new (.cells cs e true false)) w'/\VR H' (.sl J.next 0 len (some len)) y:=by
 obtain⟨r,_,u,A,j,s⟩:=Bl hi;obtain⟨B,v,k⟩:=Gw u;by_cases g:len*size=0
 ·simp only[g,if_true]at f;obtain⟨d,l,a⟩:=KZ (cs:=#[]) f q (by simp[aF]);have b:=a.length;refine⟨_,_,_,?_,Dj h (xs:=d) (es:=0) (opn:=false) ?_ (by simpa using J6 b) (λ_=>by simpa using b) (by simp),LU (cap:=some len) rfl (by simp)⟩
  ·have o:Array.range 0 =#[]:=rfl;have x:¬(0>2^24):=by omega
   simp only[Instr.buildSlice,aT,bf r,aQ,jd s,uM,g,ah x,if_true,bF,o,acf,l,newRow,newObj,Sem.run];rfl
  ·rw[b,pq];exact a
 ·simp only[g,if_false]at f;obtain⟨d,l,a⟩:=KZ f q (QB (k H) j);have b:=a.length;refine⟨_,_,_,?_,Dj h (xs:=d) (es:=0) (opn:=false) ?_ (by simpa using J6 b) (λ_=>by simpa using b) (by simp),LU (cap:=some len) rfl (by simp)⟩
  ·simp only[Instr.buildSlice,aT,bf r,aQ,jd s,uM,ah c,g,if_false,v,bF,l,newRow,newObj,Sem.run];rfl
  ·rw[b,pq];exact a
def adC(s:Q0):aF H (wC s) (s.map λb=>.int .u8 b.toNat):=by
 induction s with
 |nil=>simp[wC,aF]
 |cons c s a=>exact aF.cons (by simp[VR]) a
def VK(h:SR P H J w){size n:Nat}{a:AV}{l:Q3}{x:Value}(d:yZ J size a=some (n,l))(f:VR H a x):
 l.length=n*size/\(∀w':World,(Builtin.lenOf x).run P w'=.ok n w')/\∀k,k<=n->∃N,(∀w':World,w'.heap=w.heap->(Builtin.firstCells size k x).run P w'=.ok ⟨N⟩ w')/\aF H (l.take (k*size)) N:=by
 unfold yZ at d;split at d
 ·cases d;simp only[VR]at f;subst f;refine⟨by simp,λ_=>rfl,λk g=>⟨[],λ_ _=>?_,by simp[aF]⟩⟩;simp[Builtin.firstCells]
 ·next id o len W=>
  simp only[VR]at f;obtain⟨q,X,_,rfl⟩:=f;split at d
  ·next c et rw Y Z=>
   simp only[bg]at d;obtain⟨r,O,e⟩:=d;cases e;obtain⟨q',p,Q,t,fr,hb,D⟩:=h.obj _ _ Z rfl;rw[X]at p;cases p;have i:=D.y7 O;obtain⟨aa,E,ab⟩:=ru O;refine⟨E,λ_=>rfl,λk g=>⟨((Q.toList.drop (q.ba+o)).take (n*size)).take (k*size),λw' F=>?_,i.take _⟩⟩;have u:k*size<=n*size:=vS _ g;rw[acO,Ho u];have S:=D.fits;have ac:=D.le;simp only[Builtin.firstCells];exact Ee (by rw[F];exact hb) (by omega)
  ·cases d
 ·next s=>
  split at d
  ·next T=>
   cases d;simp only[VR]at f;subst f;refine⟨by simp[wC,T],λ_=>rfl,λk g=>⟨(s.take k).map λb=>.int .u8 b.toNat,λ_ _=>?_,?_⟩⟩
   ·simp only[Builtin.firstCells,ajw,bF];simp
   ·rw[T,Nat.mul_one];have:=adC (H:=H) (s.take k);simpa[wC,WX]using this
  ·cases d
 ·next es=>
  split at d
  ·next v=>
   cases d;simp only[VR]at f;rcases f with⟨rfl,U,rfl⟩|⟨bl,o,c,B,sz,rfl,hc,G,h2,h3⟩
   ·refine⟨by simp,λ_=>by cases U<;>rfl,λk g=>⟨[],λ_ _=>?_,by simp[aF]⟩⟩;have I:k=0:=by simpa using g
    subst I;cases U<;>simp[Builtin.firstCells,loadCells,loadCellsFrom]
   have L:=akU G v;have y:=ae6 G;have z:=Iq L;have m:=G.length;have M:=y.length;refine⟨by rw[M,z,m],λ_=>rfl,λk g=>⟨(dS B).take (k*size),λw' F=>?_,y.take _⟩⟩;simp only[Builtin.firstCells];by_cases V:es=[]
   ·subst V;simp at m;have:B=[]:=jl m.symm;subst this;simp at g;subst g;simp[loadCells,loadCellsFrom,dS]
   ·obtain⟨Q,t,fr,h4,h5,h6⟩:=h3 V;have u:k*size<=B.length*size:=vS _ (by omega);rw[Ee (by rw[F];exact h.ji _ _ h4) (by omega)];congr 2;apply J4;intro j;rw[mG,mG];split
    ·next hj=>
     have A:j<(dS B).length:=by omega
     rw[rF,bP A,vJ];exact h6 j _ (bP A)
    ·rfl
  ·cases d
 ·cases d
def aDj(zero:QQ)(n:Nat):(Builtin.zeroCells zero n).size=n*zero.size:=by simp[Builtin.zeroCells]
def aum{t:TypeId}(h:FI P t=true):(∃b,P.underlying t=some (.slice b))\/P.underlying t=some .string:=by
 unfold FI at h;split at h
 ·next e a=>exact .inl ⟨e,a⟩
 ·next a=>exact .inr a
 ·cases h
def U4(v:Value):v.oneCell'=pX v:=by cases v<;>rfl
def Ry{l:Q3}{xs:Q6}(c:aF H l xs)(a:l.all AV.nU=true):∀x∈xs,pX x=true:=by
 intro x g;have d:=c.length;obtain⟨k,e⟩:=WY.1 g;have b:k<l.length:=by have:=(fB.1 e).1;omega
 obtain⟨y,f,h⟩:=c.at (bP b);rw[e]at f;cases f;exact aaj h (List.all_eq_true.1 a _ (dW b))
def src_ok(h:SR P H J w){size n:Nat}{a:AV}{l:Q3}{x:Value}{f:TypeId}(i:FI P f=true)(j:yZ J size a=some (n,l))(k:VR H a x)(b:l.all AV.nU=true):
 ∃d,Src P size f x n d w/\aF H l d:=by
 obtain⟨m,o,p⟩:=VK h j k;obtain⟨d,g,e⟩:=p n (dY _);have q:l.take (n*size)=l:=lW (by omega);rw[q]at e;have c:=e.length;exact⟨d,⟨aum i,o,g w rfl,g w.drew rfl,by rw[<-c,m],λu r=>by rw[U4];exact Ry e b u r⟩,e⟩
def setCells_nil(w:World)(b o:Nat):w.setCells b o []=w:=rfl
def aDk{e:TypeId}{z:Q3}(h:y8 P e=some z):∃i b,P.info? e=some i/\i.zero=some b/\∀H:Env,aF H z b.cells.toList:=by
 unfold y8 at h;split at h
 ·next i hi=>
  split at h
  ·next b c=>
   simp only[bg]at h;obtain⟨a,d,rfl⟩:=h;exact⟨i,b,hi,c,λH=>zB (DX _ _ _ d)⟩
  ·cases h
 ·cases h
def YM(h:SR P H J w){t u ty e:TypeId}{size bytes n sLen sCap:Nat}{z new old:Q3}{g os:Q6}{base:Option Addr}{x:Value}
 (hi:wJ P t=some (e,size,bytes,z)) (j:Src P size u x n g w) (b:aF H new g) (k:(Builtin.firstCells size sLen (.slice base sLen sCap)).run P w.drew=.ok ⟨os⟩ w.drew) (d:aF H old os)
 (v:old.length=sLen*size) (A:new.length=n*size) (O:size≠0) (L:sCap<sLen+n) (B:(2*(sLen+n)+2000)*bytes<=2^48\/(2*(sLen+n))*bytes<=2^48) (Q:sLen+n<=2^48):
 ∃y w' H',(Builtin.append_ #[t,u] ty #[.slice base sLen sCap,x]).run P w=.ok y w'/\St P H J w H' (J.new (.cells (old++new) e true true)) w'/\VR H' (.sl J.next 0 (sLen+n) none) y:=by
 obtain⟨S,⟨i,M,f,D⟩,T,U,V,W⟩:=Bl hi;obtain⟨Y,s,l,E,X⟩:=aDk T;rw[M]at l;cases l;subst f;subst D
 have m:=grownCap_ge w (sLen+n) sCap e;have o:Builtin.nextslicecap (sLen+n) sCap*i.bytes<=281474976710656:=by
  have F:=nextslicecap_le L;have N:Builtin.nextslicecap (sLen+n) sCap*i.bytes<=(2*(sLen+n))*i.bytes:=vS _ F;rcases B with p|p
  ·have:(2*(sLen+n))*i.bytes<=(2*(sLen+n)+2000)*i.bytes:=vS _ (by omega);omega
  ·omega
 have r:=run_append_grow_src w t u ty e i s S M E base sLen sCap os k x n g j L (by omega) o;have G:s.cells.size=i.size:=by have:=(X H).length;simp only[JW]at this;omega
 have I:=Dj h.drew (c:=old++new) (xs:=(os++g).toArray++Builtin.zeroCells s.cells (grownCap w (sLen+n) sCap e-(sLen+n))) (elem:=e) (opn:=true) (es:=i.size) ?_ ?_ (by simp) (λ_=>⟨U,by omega,W⟩)
 ·have f:((os++g).toArray++Builtin.zeroCells s.cells (grownCap w (sLen+n) sCap e-(sLen+n))).size=grownCap w (sLen+n) sCap e*i.size:=by have F:=d.length;have N:=b.length;simp only[Array.size_append,aDj,List.size_toArray,eX,G];rw[<-F,<-N,v,A,<-rH,<-rH];congr 1;omega
  refine⟨_,_,_,r,(St.drew h).trans I,?_⟩;rw[f];have a:grownCap w (sLen+n) sCap e*i.size/i.size=grownCap w (sLen+n) sCap e:=acQ _ (by omega);have:=LU (q:=⟨w.heap.size,0,grownCap w (sLen+n) sCap e*i.size,i.size⟩) (H:=H) (id:=J.next) (len:=sLen+n) (cap:=none) rfl (by simp only[xI,a];exact m);simp only[xI,a]at this;exact this
 ·have p:=d.append b;have Z:=p.length;rw[Array.toList_append,QO (by simp only[List.toList_toArray];omega),lW (by simp only[List.toList_toArray];omega)];simpa using p
 ·have p:=(d.append b).length;simp only[Array.size_append,List.size_toArray];omega
def RF{α:Type}{ts:Array α}{a b:α}(h:ts.toList=[a,b]):ts =#[a,b]:=by cases ts;simp at h;subst h;rfl
def aju{bl off:Nat}{xs:Q6}{w':World}{cs:QQ}{elem:TypeId}{b:Nat×Nat}(e:w.heap[bl]? =some (.cells cs elem b))(f:off+xs.length<=cs.size)
 (c:∀k,off<=k->k<off+xs.length->¬(b.1<=k/\k<b.2)) (a:∀x∈xs,pX x=true) (h:(storeCells ⟨bl,off,none⟩ xs).run P w=.ok () w'):
 (∀j,j<xs.length->(w.cell? ⟨bl,off+j,none⟩).isSome=true)/\(∀j,j<xs.length->w.frozen? ⟨bl,off+j,none⟩=false)/\w.setCells bl off xs=w':=by
 have g:∀j,j<xs.length->(w.cell? ⟨bl,off+j,none⟩).isSome=true:=λj l=>by
  rw[OA e];have:off+j<cs.size:=by omega
  simp[this]
 have i:∀j,j<xs.length->w.frozen? ⟨bl,off+j,none⟩=false:=λj l=>by rw[afb e];have:=c (off+j) (by omega) (by omega);simpa using this
 refine⟨g,i,?_⟩;have d:=run_storeCells_cells (P:=P) bl off xs 0 w (by simpa using g) (by simpa using i) (λv m=>by rw[U4];exact a v m);rw[h]at d;simp only[lD,Result.ok.injEq]at d;exact d.2.symm
def adh{t b ty e:TypeId}{size:Nat}{x:Value}{p:Option Addr}(c:P.underlying t=some (.slice e))(d:sizeT P e=some size)(a:Src P size b x 0 [] w):
 (Builtin.append_ #[t,b] ty #[.slice p 0 0,x]).run P w=.ok (.slice p 0 0) w:=by
 have f:=a.cells;cases p<;>rcases a.kind with⟨g,hk⟩|hk<;>simp[Builtin.append_,bf c,bf hk,jd d,a.len,f,storeCells]
set_option maxHeartbeats 1000000 in
def C9(h:SR P H J w){t t1 e size bytes:Nat}{z:Q3}{ty:TypeId}{s v:AV}{u u':Value}{n:Nat}{new:Q3}{O:Q6}(hi:wJ P t=some (e,size,bytes,z))(Q:Src P size t1 u' n O w)(j:aF H new O)(S:new.length=n*size)
 (g:pG e size bytes s n new J=some (v,J')) (T:VR H s u):
 ∃y w' H',(Builtin.append_ #[t,t1] ty #[u,u']).run P w=.ok y w'/\St P H J w H' J' w'/\VR H' v y:=by
 unfold pG at g;split at g
 ·cases g
 ·next hc=>
  simp only[not_or,Decidable.not_not,Bool.not_eq_false]at hc;obtain⟨h0,D,F,I⟩:=hc;obtain⟨A,⟨i,pO,m,av⟩,hz,he,aw,hn⟩:=Bl hi;have ax:=j.length;split at g
  ·
    simp only[VR]at T;subst T;simp only[sliceLen]at F I;split at g
    ·next l=>
     cases g;subst l;have:O=[]:=by apply jl;omega
     subst this;exact⟨_,w,H,adh A hn Q,St.refl h,by simp[VR]⟩
    ·next l=>
     cases g;have:=YM (ty:=ty) (old:=[]) (os:=[]) (sLen:=0) (sCap:=0) (base:=none) h hi Q j (by simp[Builtin.firstCells]) (by simp[aF]) (by simp) S h0 (by omega) (.inr (by simpa using F)) (by omega);simpa using this
  ·
    next id d len ai=>
    simp only[VR]at T;obtain⟨q,V,G,rfl⟩:=T;simp only[qP]at G⊢;simp only[sliceLen]at F I;split at g
    ·next f=>
     split at g
     ·next l=>
      cases g;subst l;have:O=[]:=by apply jl;omega
      subst this;subst m;have:=run_append_room_src w t t1 ty e i A pO q.bl (q.ba+d) len ai u' 0 [] Q f (by simp) (by simp);exact⟨_,w,H,by simpa[setCells_nil]using this,St.refl h,by simp only[VR];exact⟨q,V,by simpa using G,rfl⟩⟩
     ·split at g
      ·next c et aq hg=>
       split at g
       ·next hl=>
        simp only[bg]at g;obtain⟨c',hr,L⟩:=g;cases L;obtain⟨w',M,ab⟩:=Wy h hg hl V hr j D;obtain⟨q',o,cs,E,fr,Y,r⟩:=h.obj _ _ hg rfl;rw[V]at o;cases o;obtain⟨h5,_,_⟩:=VE hr;have ak:=r.fits;have al:=r.le;obtain⟨h6,h7,h8⟩:=aju (bl:=q.bl) (off:=q.ba+(d+len*size)) Y (by omega) (λk a b=>by have:=r.free rfl (k-q.ba) (by omega);rw[QT (by omega)]at this;exact this) (Ry j D) M
        subst m;have:=run_append_room_src w t t1 ty e i A pO q.bl (q.ba+d) len ai u' n O Q f (by simpa[jH]using h6) (by simpa[jH]using h7);rw[jH,h8]at this;exact⟨_,w',H,this,ab,by simp only[VR];exact⟨q,V,by simpa using f,rfl⟩⟩
       ·cases g
      ·cases g
    ·next f=>
     split at g
     ·next c et rw aq hg=>
      simp only[bg]at g;obtain⟨U,Z,L⟩:=g;cases L;obtain⟨q',o,cs,E,fr,Y,r⟩:=h.obj _ _ hg rfl;rw[V]at o;cases o;have ac:=r.y7 Z;have W:=(ru Z).2.1;exact YM (ty:=ty) h hi Q j (by simp only[Builtin.firstCells];exact Ee Y (r.take Z)) ac W S h0 (by omega) (.inr F) I
     ·cases g
  ·
    next id d len=>
    simp only[VR]at T;obtain⟨q,V,G,rfl⟩:=T;simp only[xI]at G⊢;simp only[sliceLen]at F I;split at g
    ·next l=>
     cases g;subst l;have:O=[]:=by apply jl;omega
     subst this;subst m;have:=run_append_room_src w t t1 ty e i A pO q.bl (q.ba+d) len ((q.sz-d)/q.es) u' 0 [] Q (by simpa using G) (by simp) (by simp);exact⟨_,w,H,by simpa[setCells_nil]using this,St.refl h,by simp only[VR];exact⟨q,V,by simpa using G,rfl⟩⟩
    ·next l=>
     split at g
     ·next hl=>
      split at g
      ·next c et hg=>
       split at g
       ·next ar=>
        simp only[bg]at g;obtain⟨U,Z,L⟩:=g;cases L;subst ar;obtain⟨q',o,cs,E,fr,Y,r⟩:=h.obj _ _ hg rfl;rw[V]at o;cases o;obtain⟨_,am,aa⟩:=r.room rfl;rw[hn]at aa;cases aa;have ac:=r.y7 Z;obtain⟨az,W,aD⟩:=ru Z;have ak:=r.fits;have al:=r.le;by_cases f:len+n<=(q.sz-d)/q.es
        ·
          have an:(len+n)*q.es<=q.sz-d:=jP (vS _ f) (Nat.div_mul_le_self _ _);have aE:0<n*q.es:=NI (by omega) am;rw[rH]at an;have M:=abp (P:=P) O w q.bl (q.ba+(d+len*q.es)) 0 cs E fr Y (by omega) (Ry j D) (λk a b=>by have:=r.free rfl (k-q.ba) (by omega);rw[QT (by omega)]at this;exact this)
          obtain⟨h6,h7,h8⟩:=aju (bl:=q.bl) (off:=q.ba+(d+len*q.es)) Y (by omega) (λk a b=>by have:=r.free rfl (k-q.ba) (by omega);rw[QT (by omega)]at this;exact this) (Ry j D) M
          have hr:=run_append_room_src w t t1 ty _ i A pO q.bl (q.ba+d) len ((q.sz-d)/q.es) u' n O (by rw[m];exact Q) f (by rw[m];simpa[jH]using h6) (by rw[m];simpa[jH]using h7);rw[m,jH,h8]at hr;refine⟨_,_,_,hr,St.again (q':=⟨q.bl,q.ba+d,q.sz-d,q.es⟩) h hg rfl hl V rfl Eh (λk X=>Ef X) rfl rfl rfl ?_,?_⟩
          ·refine⟨_,E,fr,BZ Y,?_⟩;have N:=Env.Js h ⟨q.bl,q.ba+d,q.sz-d,q.es⟩;refine {fits:=by rw[ML];show q.ba+d+(q.sz-d)<=cs.size;omega,le:=by show(U++new).length<=q.sz-d;rw[eX,W,S];omega,shut:=by simp,cell:=?_,free:=?_,whole:=?_,room:=λ_=>⟨he,am,hn⟩}
           ·intro k a X;show ∃x,(setFrom cs (q.ba+(d+len*q.es)+0) O)[q.ba+d+k]? =some x/\_
            rw[lD,VD _ _ _ _ (by omega)];by_cases aL:k<len*q.es
            ·rw[ny (by omega)]at X;obtain⟨x1,ad,ae⟩:=r.cell _ _ (ajH Z X);rw[ah (by omega)];exact⟨x1,by rw[<-ad];congr 1;omega,VR.mono N _ _ ae⟩
            ·rw[vK (by omega)]at X;obtain⟨x1,ad,ae⟩:=j.at X;have aM:k-U.length<new.length:=(fB.1 X).1;rw[aj (by omega)];exact⟨x1,by rw[<-ad];congr 1;omega,VR.mono N _ _ ae⟩
           ·intro _ k X;have aR:k<q.sz-d:=X;have:=r.free rfl (d+k) (by omega);show ¬(fr.1<=q.ba+d+k/\q.ba+d+k<fr.2)
            rw[jH];exact this
           ·intro L;obtain⟨w1,w2,_⟩:=r.whole L;exact⟨w1,by rw[ML];show q.ba+d+(q.sz-d)=cs.size;omega,by simp⟩
          ·simp only[VR];exact⟨⟨q.bl,q.ba+d,q.sz-d,q.es⟩,by simp[Env.put],by simpa using f,by simp⟩
        ·
          obtain⟨y,w',H',hr,ab,hv⟩:=YM (ty:=ty) (base:=some ⟨q.bl,q.ba+d,none⟩) (sLen:=len) (sCap:=(q.sz-d)/q.es) h hi Q j (by simp only[Builtin.firstCells];exact Ee (w:=w.drew) Y (r.take Z)) ac W S h0 (by omega) (.inr F) I;refine⟨y,w',H',hr,ab.sub ?_ (dY _) rfl,hv⟩;intro ao o' B;rw[aA.rY]at B⊢;split at B
          ·next L=>rw[aj (show ao=J.next from L)];exact B
          ·next L=>
           rw[aA.yL]at B;rw[ah (show ¬ao=J.next from L)];split at B
           ·cases B
           ·exact B
       ·cases g
      ·cases g
     ·cases g
  ·
    next es=>
    split at g
    ·next l=>
     cases g;subst l;have ap:=T;simp only[VR]at T;have:O=[]:=by apply jl;omega
     subst this;rcases T with⟨rfl,pa,rfl⟩|⟨bl,d,c,xs,sz,rfl,hc,_⟩
     ·exact⟨_,w,H,adh (p:=pa) A hn Q,St.refl h,by simpa using ap⟩
     subst m;have:=run_append_room_src w t t1 ty e i A pO bl d es.length c u' 0 [] Q (by simpa using hc) (by simp) (by simp);exact⟨_,w,H,by simpa[setCells_nil]using this,St.refl h,by simpa using ap⟩
    ·cases g
  ·cases g
def ak2(h:SR P H J w){ts:Wm}{ty:TypeId}{s x v:AV}{u j:Value}(a:Xm P ts s x J=some (v,J'))(o:VR H s u)(k:VR H x j):
 ∃y w' H',(Builtin.append_ ts ty #[u,j]).run P w=.ok y w'/\St P H J w H' J' w'/\VR H' v y:=by
 unfold Xm at a;split at a
 ·next t q d=>
  have:=RF d;subst this;split at a
  ·next e l bytes z hi f=>
   split at a
   ·next n new b=>
    have c:new.all AV.nU=true:=by
     unfold pG at a;split at a
     ·cases a
     ·next m=>
      simp only[not_or,Decidable.not_not,Bool.not_eq_false]at m;exact m.2.1
    obtain⟨r,p,g⟩:=src_ok h f b k c;obtain⟨i,_,_⟩:=VK h b k;exact C9 h hi p g i a o
   ·cases a
  ·cases a
 ·cases a
def Wx{n:Int}(h0:0<=n)(h:n<=2^60):IntKind.i64.wrap n=n:=Go.IntWalk.i64_in _ (by omega)
def au6(h:SR P H J w){t:TypeId}{l c v:AV}{x y:Value}(k:Ri P t l c J=some (v,J'))(Q:VR H l x)(S:VR H c y):
 ∃z w' H',(Instr.makeSlice t x y).run P w=.ok z w'/\St P H J w H' J' w'/\VR H' v z:=by
 unfold Ri at k;split at k
 ·next e d bytes z j b hi T U=>
  split at k
  ·next V=>
   obtain⟨W,b2,b3,X⟩:=V;cases k;obtain⟨kd,rfl⟩:=zo T Q;obtain⟨Y,rfl⟩:=zo U S;obtain⟨E,⟨i,F,Z,p⟩,hz,he,q,G⟩:=Bl hi;obtain⟨I,oM,r⟩:=Gw hz;have L:=Wx W (by omega:j<=2^60);have M:=Wx (by omega:0<=b) X;subst p
   have f:∀w:World,(askRoom (b.toNat*i.bytes)).run P w=.ok () w:=λw=>by unfold askRoom;split<;>simp[mark,Sem.run]
   have N:(decide (b<0) ||decide ((i.bytes:Int)*b>2^48))=false:=by simp;omega
   have aa:((b.toNat:Nat):Int)=b:=by omega
   by_cases o:b.toNat*d=0
   ·have a:(if d=0 then[]else jv b.toNat z)=[]:=by
     split
     ·rfl
     ·next s=>
      have:b.toNat=0:=by rcases Nat.mul_eq_zero.1 o with e|e;exact e;exact absurd e s
      rw[this];rfl
    rw[a];refine⟨_,_,_,?_,Dj h (c:=[]) (xs:=#[]) (elem:=e) (es:=0) (opn:=false) (by simp[aF]) (by simp) (by simp) (by simp),LU (len:=j.toNat) (cap:=some b.toNat) rfl (by simp;omega)⟩;have B:Array.range 0 =#[]:=rfl;simp only[Instr.makeSlice,aT,bf E,aQ,asInt,asIntOf,bF,Gv F,L,M,N,Aq,uM,f,jd G,o,if_true,newRow,newObj,Sem.run,B,acf];have D:(decide (j<0) ||decide (j>b))=false:=by simp;omega
    simp only[D,gy,if_false];rfl
   ·have a:(if d=0 then[]else jv b.toNat z)=jv b.toNat z:=by rw[ah];rintro rfl;simp at o
    rw[a];have O:=QB (n:=b.toNat) (r H) q;have g:=O.length;refine⟨_,_,_,?_,Dj h (c:=jv b.toNat z) (xs:=(Array.range (b.toNat*d)).map (I.cells[· % I.cells.size]!)) (elem:=e) (es:=0) (opn:=false) (by rw[g,pq];exact O) (by simpa using J6 g) (λ_=>by simpa using g) (by simp),LU (len:=j.toNat) (cap:=some b.toNat) rfl (by simp;omega)⟩;simp only[Instr.makeSlice,aT,bf E,aQ,asInt,asIntOf,bF,Gv F,L,M,N,Aq,uM,f,jd G,o,if_false,oM,newRow,newObj,Sem.run];have D:(decide (j<0) ||decide (j>b))=false:=by simp;omega
    simp only[D,gy,if_false];rfl
  ·cases k
 ·cases k
def au7{t e:TypeId}{size bytes:Nat}{z:Q3}{kd kd':IntKind}{c a:Int}(hi:wJ P t=some (e,size,bytes,z))(h0:size≠0)(u:0<=c)(D:c<=a)(E:bytes*a<=2^48)(v:a<=2^60):
 ∃xs:QQ,(Instr.makeSlice t (.int kd c) (.int kd' a)).run P w=.ok (.slice (some ⟨w.heap.size,0,none⟩) c.toNat a.toNat) {w with heap:=w.heap.push (.cells xs e)}/\xs.size=a.toNat*size/\aF H (jv a.toNat z) xs.toList:=by
 obtain⟨l,⟨i,m,x,f⟩,y,F,g,n⟩:=Bl hi;obtain⟨o,A,h⟩:=Gw y;have p:=Wx u (by omega:c<=2^60);have q:=Wx (by omega:0<=a) v;subst f
 have b:∀w:World,(askRoom (a.toNat*i.bytes)).run P w=.ok () w:=λw=>by unfold askRoom;split<;>simp[mark,Sem.run]
 have r:(decide (a<0) ||decide ((i.bytes:Int)*a>2^48))=false:=by simp;omega
 have B:((a.toNat:Nat):Int)=a:=by omega
 have s:(decide (c<0) ||decide (c>a))=false:=by simp;omega
 by_cases d:a.toNat*size=0
 ·have j:a.toNat=0:=by rcases Nat.mul_eq_zero.1 d with e|e;exact e;exact absurd e h0
  refine⟨#[],?_,by simp[d],by rw[j];simp[jv,aF]⟩;have k:Array.range 0 =#[]:=rfl;simp only[Instr.makeSlice,aT,bf l,aQ,asInt,asIntOf,bF,Gv m,p,q,r,Aq,uM,b,jd n,d,if_true,newRow,newObj,Sem.run,k,acf];simp only[s,gy,if_false]
 ·refine⟨(Array.range (a.toNat*size)).map (o.cells[· % o.cells.size]!),?_,by simp,QB (h H) g⟩;simp only[Instr.makeSlice,aT,bf l,aQ,asInt,asIntOf,bF,Gv m,p,q,r,Aq,uM,b,jd n,d,if_false,A,newRow,newObj,Sem.run];simp only[s,gy,if_false]
def aF.akT{l:Q3}(n:Nat)(h:l.all AV.nU=true):(l.take n).all AV.nU=true:=by rw[List.all_eq_true]at h⊢;exact λx a=>h x (Hg a)
def amh(h:SR P H J w){ts:Wm}{ty:TypeId}{d x v:AV}{u D:Value}(a:Xo P ts d x J=some (v,J'))(m:VR H d u)(E:VR H x D):
 ∃y w' H',(Builtin.copy_ ts ty #[u,D]).run P w=.ok y w'/\St P H J w H' J' w'/\VR H' v y:=by
 unfold Xo at a;split at a
 ·next t F=>
  split at a
  ·next e i bytes z id I f L hi=>
   obtain⟨g,_,_,_,_,o⟩:=Bl hi;simp only[VR]at m;obtain⟨q,M,N,rfl⟩:=m;split at a
   ·next n new c Y O b Q=>
    split at a
    ·cases a
    ·next Z=>
     split at a
     ·next S=>
      obtain⟨T,j⟩:=S;simp only[bg]at a;obtain⟨c',U,V⟩:=a;cases V;obtain⟨W,r,s⟩:=VK h b E;obtain⟨X,A,G⟩:=s (Nat.min n f) (Nat.min_le_left _ _);obtain⟨w',k,B⟩:=Wy h Q T M U G (aF.akT _ j);refine⟨.int .i64 (Nat.min n f:Nat),w',H,?_,B,by simp[VR]⟩;simp only[Builtin.copy_,F,vJ,Ez,kW,uH,aT,bf g,aQ,r,jd o,A w rfl,k,bF,goInt]
     ·cases a
   ·cases a
  ·next e i bytes z hi=>
   obtain⟨g,_,_,_,_,o⟩:=Bl hi;split at a
   ·next p b=>
    obtain⟨n,new⟩:=p;cases a;simp only[VR]at m;subst m;obtain⟨W,r,s⟩:=VK h b E;obtain⟨X,A,G⟩:=s 0 (vT _);refine⟨.int .i64 0,w,H,?_,St.refl h,by simp[VR]⟩;have l:Nat.min n 0=0:=Nat.min_zero _;simp only[Builtin.copy_,F,vJ,Ez,kW,uH,aT,bf g,aQ,r,jd o,l,A w rfl,bF,goInt];rfl
   ·cases a
  ·cases a
 ·cases a
def Og:∀{l:Q3}{b:Q0}{xs:Q6},bytesOf l=some b->aF H l xs->xs=b.map λc=>Value.int .u8 c.toNat
 |[],b,xs,h,e=>by simp[bytesOf]at h;subst h;simpa[aF]using e
 |a::l,b,xs,h,e=>by
  simp only[aF]at e;obtain⟨x,rest,rfl,h1,i⟩:=e;unfold bytesOf at h;split at h
  ·next d=>cases d
  ·next n f d=>
   cases d;split at h
   ·next j=>
    simp only[bg]at h;obtain⟨k,g,rfl⟩:=h;simp only[VR]at h1;subst h1;rw[Og g i];simp only[gX,xE,and_true,Value.int.injEq,true_and];have:(UInt8.ofNat n.toNat).toNat=n.toNat:=by simp;omega
    rw[this];omega
   ·cases h
  ·cases h
def abo(f:Value->ByteArray->Sem (ForInStep ByteArray))(d:∀n r w,(f (.int .u8 n) r).run P w=.ok (.yield (r.push (UInt8.ofNat n.toNat))) w)(b:Q0)(a:ByteArray):
 (forIn (⟨b.map λc=>Value.int .u8 c.toNat⟩:QQ) a f).run P w=.ok ⟨⟨a.data.toList++b⟩⟩ w:=by
 rw[<-Array.forIn_toList];simp only;induction b generalizing a with
 |nil=>simp
 |cons c b e=>simp only[gX,List.forIn_cons,aT,d,aQ];rw[e];congr 1;simp
def abu{bl:Nat}{cs:QQ}{elem:TypeId}{a:Nat×Nat}(h:w.heap[bl]? =some (.cells cs elem a)):w.shape? bl=some (elem,cs.size):=by simp[World.shape?,h]
def aCe(h:SR P H J w){e:TypeId}{s:Q0}(E:e≠0)(F:sizeT P e=some 1):
 ∃y w' H',(Conv.stringToBytes e ⟨⟨s⟩⟩).run P w=.ok y w'/\St P H J w H' (J.new (.cells (wC s) e true true)) w'/\VR H' (.sl J.next 0 s.length none) y:=by
 have g:=grownCap_ge w s.length 0 e;generalize m:grownCap w s.length 0 e=c at g;let d:QQ:=(s.map λb=>Value.int .u8 b.toNat).toArray++Array.replicate (c-s.length) (.int .u8 0)
 have j:d.size=c:=by simp[d];omega
 have l:∀(o:Obj)(f:Obj->Obj),(w.heap.push o).modify w.heap.size f=w.heap.push (f o):=by
  intro o f;apply QC;intro i;rw[JV,QD,QD];by_cases n:w.heap.size=i
  ·subst n;simp
  ·rw[ah n];by_cases p:i=w.heap.size
   ·exact absurd p.symm n
   ·rw[ah p,ah p]
 have r:St P H J w.drew (H.put J.next ⟨w.heap.size,0,c,1⟩) (J.new (.cells (wC s) e true true)) {w.drew with heap:=w.heap.push (.cells d e (c,c+1))}:=by
  refine St.alloc (w:=w.drew) h.drew _ _ _ rfl ?_;refine⟨d,e,(c,c+1),by show(w.heap.push _)[w.heap.size]? =_;simp,?_⟩;refine {fits:=by simp[j],le:=by simpa[wC]using g,shut:=by simp,cell:=?_,free:=λ_ k t=>?_,whole:=λ_=>⟨rfl,by simp[j],λ_=>rfl⟩,room:=λ_=>⟨E,Nat.one_pos,F⟩}
  ·intro k a t;obtain⟨x,D,G⟩:=(adC (H:=H.put J.next ⟨w.heap.size,0,c,1⟩) s).at t;refine⟨x,?_,G⟩;have u:=(fB.1 D).1;simp only[jQ,d];rw[WC (by simpa using u)];simpa using D
  ·have I:k<c:=t;show ¬(c<=0+k/\0+k<c+1)
   omega
 refine⟨.slice (some ⟨w.heap.size,0,none⟩) s.length c,_,_,?_,(St.drew h).trans r,?_⟩
 ·have v:({w.drew with heap:=w.heap.push (.cells d e)}:World).shape? w.heap.size=some (e,c):=by simp[World.shape?,j]
  have z:({w.drew with heap:=w.heap.push (.cells d e)}:World).freeze {block:=w.heap.size,off:=c} 1 ={w.drew with heap:=w.heap.push (.cells d e (c,c+1))}:=by unfold World.freeze;rw[ah (by omega),l];rfl
  have A:(choose (.appendCap (⟨⟨s⟩⟩:ByteArray).size 0 e)).run P w=.ok c w.drew:=by have:(⟨⟨s⟩⟩:ByteArray).size=s.length:=rfl;rw[this];simp only[choose,Sem.run,Question.forced,gy,if_false];rw[<-m];rfl
  have B:((⟨⟨s⟩⟩:ByteArray).data.map λb=>Value.int .u8 b.toNat)++Array.replicate (c-(⟨⟨s⟩⟩:ByteArray).size) (.int .u8 0)=d:=by have:(⟨⟨s⟩⟩:ByteArray).size=s.length:=rfl;rw[this];simp[d]
  simp only[Conv.stringToBytes,aT,A,aQ,B,newRow,newObj,bF,Sem.run];simp only[markStringish,shape,aT,Sem.run];show((Result.ok (({w.drew with heap:=w.heap.push (.cells d e)}:World).shape? w.heap.size) _).andThen _).andThen _=_
  rw[v];simp only[aQ,freeze,Sem.run];exact tX (Result.ok (Value.slice (some ⟨w.heap.size,0,none⟩) s.length c)) z
 ·have:=LU (q:=⟨w.heap.size,0,c,1⟩) (H:=H) (id:=J.next) (len:=s.length) (cap:=none) rfl (by simp only[xI,Nat.div_one];exact g);simpa using this
def OH(h:SR P H J w){src dst:TypeId}{a v:AV}{x:Value}(f:yF P src dst a J=some (v,J'))(o:VR H a x):
 ∃y w' H',(convert src dst x).run P w=.ok y w'/\St P H J w H' J' w'/\VR H' v y:=by
 unfold yF at f;split at f
 ·next d k kd n p z=>
  cases f;simp only[VR]at o;subst o;exact⟨.int k (k.wrap n),w,H,by simp only[convert,aT,bf p,bf z,aQ];rfl,St.refl h,by simp[VR]⟩
 ·next s p z=>
  cases f;simp only[VR]at o;subst o;exact⟨_,w,H,by simp only[convert,aT,bf p,bf z,aQ];rfl,St.refl h,by simp[VR]⟩
 ·next e s p z=>
  split at f
  ·next E=>
   split at f
   ·next I=>
    cases f;simp only[VR]at o;subst o;obtain⟨y,w',H',V,X,Y⟩:=aCe h (s:=s) I.1 I.2;exact⟨y,w',H',by simp only[convert,aT,bf p,bf z,aQ,bf E];exact V,X,Y⟩
   ·cases f
  ·cases f
 ·next e p z=>
  split at f
  ·next E=>
   cases f;simp only[VR]at o;subst o;exact⟨.string ⟨⟨[]⟩⟩,w,H,by simp only[convert,aT,bf p,bf z,aQ,bf E,Conv.bytesToString,bF];rfl,St.refl h,by simp[VR]⟩
  ·cases f
 ·next e id A len ae p z=>
  split at f
  ·next c et rw af E O=>
   split at f
   ·next r V=>
    simp only[bg]at f;obtain⟨b,N,Z⟩:=f;cases Z;simp only[VR]at o;obtain⟨q,L,aa,rfl⟩:=o;obtain⟨q',g,W,B,fr,m,F⟩:=h.obj _ _ O rfl;rw[L]at g;cases g;have Y:=F.y7 V;have D:=Og N Y;refine⟨.string ⟨⟨b⟩⟩,w,H,?_,St.refl h,by simp[VR]⟩;simp only[convert,aT,bf p,bf z,aQ,bf E,Conv.bytesToString];rw[Ee m (F.take V),D];simp only[aQ];rw[abo _ (λ_ _ _=>rfl)];rfl
   ·cases f
  ·cases f
 ·next e l p z=>
  split at f
  ·next E=>
   simp only[bg]at f;obtain⟨b,N,Z⟩:=f;cases Z;simp only[VR]at o;rcases o with⟨rfl,pa,rfl⟩|⟨bl,A,c,Q,sz,rfl,I,g1,g2,g3⟩
   ·simp[bytesOf]at N;subst N;exact⟨.string ⟨⟨[]⟩⟩,w,H,by simp only[convert,aT,bf p,bf z,aQ,bf E,Conv.bytesToString,bF];cases pa<;>simp[loadCells,loadCellsFrom]<;>rfl,St.refl h,by simp[VR]⟩
   have D:=Og N g1;have S:=g1.length;have ab:dS Q=Q:=by
    rw[D];clear D N g1 g2 g3 S;unfold dS;induction b with
    |nil=>rfl
    |cons c b ih=>simp only[gX,jF,ih];rfl
   refine⟨.string ⟨⟨b⟩⟩,w,H,?_,St.refl h,by simp[VR]⟩;simp only[convert,aT,bf p,bf z,aQ,bf E,Conv.bytesToString];have M:(loadCells ⟨bl,A,none⟩ l.length).run P w=.ok ⟨Q⟩ w:=by
    by_cases G:l=[]
    ·subst G;have:Q=[]:=jl S.symm;subst this;simp[loadCells,loadCellsFrom]
    ·obtain⟨W,B,fr,h4,h5,h6⟩:=g3 G;rw[ab]at h5 h6;rw[Ee (h.ji _ _ h4) (by omega)];congr 2;apply J4;intro j;rw[mG];split
     ·next hj=>
      have T:j<Q.length:=by omega
      rw[rF,bP T,vJ];exact h6 j _ (bP T)
     ·next hj=>rw[sZ (by omega)]
   rw[M,D];simp only[aQ];rw[abo _ (λ_ _ _=>rfl)];rfl
  ·cases f
 ·next t id A p z=>
  split at f
  ·next c et rw n O G=>
   split at f
   ·next I=>
    cases f;obtain⟨c1,c2,c3⟩:=I;simp only[VR]at o;obtain⟨q,L,rfl⟩:=o;obtain⟨q',g,W,B,fr,m,F⟩:=h.obj _ _ O rfl;rw[L]at g;cases g;have ad:=F.fits;have aa:=F.le;simp only[sizeT,bg]at G;obtain⟨i,hi,rfl⟩:=G;exact⟨_,w,H,Lib.run_to_unsafe w _ p z hi c3 (abu m) (by show q.ba+A<W.size;omega),St.refl h,by simp only[VR];exact⟨q,L,rfl⟩⟩
   ·cases f
  ·cases f
 ·next u id A p z=>
  split at f
  ·next c et rw n O G=>
   split at f
   ·next I=>
    cases f;obtain⟨c1,c2⟩:=I;simp only[VR]at o;obtain⟨q,L,rfl⟩:=o;obtain⟨q',g,W,B,fr,m,F⟩:=h.obj _ _ O rfl;rw[L]at g;cases g;obtain⟨w1,w2,w3⟩:=F.whole c1;have ac:=w3 rfl;have U:=F.shut rfl;simp only[sizeT,bg]at G;obtain⟨i,hi,_⟩:=G;refine⟨_,w,H,Lib.run_from_unsafe w _ p z hi (abu m) ?_,St.refl h,by simp only[VR];exact⟨q,L,rfl⟩⟩;subst w1;rw[ac]at w2⊢;simp only[jQ]at w2⊢;rw[<-w2,<-U];exact c2
   ·cases f
  ·cases f
 ·cases f
def MN{r:Nat}{o o':Obj}(b:w.heap[r]? =some o)(a:∀c e f,o≠.cells c e f):(setObj r o').run P w=.ok () (nK w r o'):=by simp only[setObj,Sem.run,b];cases o<;>first|(exact absurd rfl (a _ _ _))|rfl
def agM(h:SR P H J w){t:TypeId}{r:Wr}(c:r=none\/∃k n a b,r=some (.int k n)/\P.underlying t=some (.map a b)):
 ∃y w' H',(Instr.makeMap t r).run P w=.ok y w'/\St P H J w H' (J.new (.map [])) w'/\VR H' (.mp J.next) y:=by
 refine⟨.map (some w.heap.size),_,_,?_,St.alloc h (.map []) (.map #[] 0) ⟨w.heap.size,0,0,0⟩ rfl ⟨#[],0,by simp,by simp,by simp⟩,by simp only[VR];exact⟨⟨w.heap.size,0,0,0⟩,by simp[Env.put],rfl⟩⟩;rcases c with rfl|⟨k,n,a,b,rfl,d⟩
 ·simp only[Instr.makeMap,aT,newObj,Sem.run,bF,aQ]
 ·simp only[Instr.makeMap,aT,bf d,asInt,asIntOf,newObj,Sem.run,bF,aQ]
def agO(h:SR P H J w){t:TypeId}{m k v:AV}{x y z:Value}(n:Rj P t m k v J=some J')(hx:VR H m x)(G:VR H k y)(hz:VR H v z):
 ∃w',(Instr.mapUpdate t x y z).run P w=.ok () w'/\St P H J w H J' w':=by
 unfold Rj at n;split at n
 ·next kt et id hu=>
  split at n
  ·next es W=>
   split at n
   ·next hc=>
    obtain⟨hl,M⟩:=hc;simp only[VR]at hx;obtain⟨q,X,rfl⟩:=hx;obtain⟨q',N,o,d,O,A,Y⟩:=h.obj _ _ W rfl;rw[X]at N;cases N;obtain⟨Z,oC,V⟩:=ae5 M;have Q:=ad6 (w:=w) oC V G false;have S:(getObj q.bl).run P w=.ok (.map o d) w:=by simp[getObj,Sem.run,O]
    have T:AB H es o.toList:=⟨by simpa using A,λk e s=>by obtain⟨m,r,I,L⟩:=Y k e s;exact⟨m,by simpa using r,I,L⟩⟩
    split at n
    ·next i u f=>
     cases n;obtain⟨r',I,L⟩:=find_ok V G f T;cases r' with
     |none=>exact L.elim
     |some p=>
      obtain⟨j',zz⟩:=p;obtain⟨rfl,_,U,_⟩:=L;simp only[jQ]at U;have B:i<o.size:=by omega
      have D:Instr.sameNow Z y (o[i]).key=some true:=by
       have:∀(l:List MapEntry)(k j:Nat)(v:Value),Instr.findNow Z y l k=some (some (j,v))->k<=j/\∃m,l[j-k]? =some m/\Instr.sameNow Z y m.key=some true:=by
        intro l;induction l with
        |nil=>intro k j v E;simp[Instr.findNow]at E
        |cons m l ih=>
         intro k j v E;unfold Instr.findNow at E;split at E
         ·next s=>cases E;exact⟨Nat.le_refl _,m,by simp,s⟩
         ·next s=>
          obtain⟨a,m',b,c⟩:=ih _ _ _ E;refine⟨by omega,m',?_,c⟩;have:j-k=(j-(k+1))+1:=by omega
          rw[this];simpa using b
         ·cases E
       obtain⟨_,m,r,aa⟩:=this _ _ _ _ I;simp only[AO,vJ]at r;rw[CG B]at r;cases r;exact aa
      have ab:=aA7 V G D 9999;have F:(Instr.findKey kt y o.toList).run P w=.ok (some (i,zz)) w:=by simp only[Instr.findKey,aT,bf oC,aQ,I,bF]
      have Zd:(Instr.keyThatStays (((o[i]?).map (·.key)).getD y) y).run P w=.ok y w:=by rw[CG B];simp only[gB,qP,Instr.keyThatStays];rw[aj ab];rfl
      refine⟨nK w q.bl (.map (o.modify i λe=>{e with key:=y,val:=z}) d),?_,St.write h W rfl hl X Eh (λk s=>Ef s) rfl rfl rfl ?_⟩
      ·simp only[Instr.mapUpdate,aT,bf hu,aQ,S,Q,F,Zd];exact MN O (by simp)
      ·refine⟨_,d,BZ O,by simpa using A,λj e g=>?_⟩;rw[List.getElem?_set]at g;split at g
       ·next e1=>
        subst e1;cases g;refine⟨{o[i]with key:=y,val:=z},?_,G,hz⟩;rw[JV,aj rfl,CG B];rfl
       ·next e1=>
        obtain⟨m,r,a,b⟩:=Y j e g;refine⟨m,?_,a,b⟩;rw[JV,ah e1];exact r
    ·next f=>
     cases n;obtain⟨r',I,L⟩:=find_ok V G f T;cases r' with
     |some p=>exact L.elim
     |none=>
      have F:(Instr.findKey kt y o.toList).run P w=.ok none w:=by simp only[Instr.findKey,aT,bf oC,aQ,I,bF]
      refine⟨nK w q.bl (.map (o.push {key:=y,val:=z,born:=d}) (d+1)),?_,St.write h W rfl hl X Eh (λk s=>Ef s) rfl rfl rfl ?_⟩
      ·simp only[Instr.mapUpdate,aT,bf hu,aQ,S,Q,F];exact MN O (by simp)
      ·refine⟨_,d+1,BZ O,by simp[A],λj e g=>?_⟩;rw[List.getElem?_append]at g;split at g
       ·next U=>
        obtain⟨m,r,a,b⟩:=Y j e g;refine⟨m,?_,a,b⟩;rw[QD,ah (by omega)];exact r
       ·next ad=>
        have ac:j-es.length=0:=by have:=(fB.1 g).1;simp at this;omega
        rw[ac]at g;simp at g;subst g;refine⟨{key:=y,val:=z,born:=d},?_,G,hz⟩;rw[QD,aj (by omega)]
    ·cases n
   ·cases n
  ·cases n
 ·cases n
def ax1(h:SR P H J w){t:TypeId}{s:Q0}(a:P.underlying t=some .string):
 ∃y w' H',(Instr.range t (.string ⟨⟨s⟩⟩)).run P w=.ok y w'/\St P H J w H' (J.new (.iter s 0)) w'/\VR H' (.p J.next 0) y:=by
 refine⟨.pointer (some ⟨w.heap.size,0,none⟩),_,_,?_,St.alloc h (.iter s 0) (.stringIter ⟨⟨s⟩⟩ 0) ⟨w.heap.size,0,0,0⟩ rfl ⟨by simp,rfl⟩,by simp only[VR];exact⟨⟨w.heap.size,0,0,0⟩,by simp[Env.put],rfl⟩⟩;simp only[Instr.range,aT,bf a,newObj,Sem.run,bF,aQ]
def axZ(h:SR P H J w){t k e:TypeId}(a:P.underlying t=some (.map k e)):
 ∃y w' H',(Instr.range t (.map none)).run P w=.ok y w'/\St P H J w H' (J.new (.iterM none)) w'/\VR H' (.p J.next 0) y:=by
 refine⟨.pointer (some ⟨w.heap.size,0,none⟩),_,_,?_,St.alloc h (.iterM none) (.mapIter none 0 #[] 0) ⟨w.heap.size,0,0,0⟩ rfl ⟨rfl,0,0,by simp⟩,by simp only[VR];exact⟨⟨w.heap.size,0,0,0⟩,by simp[Env.put],rfl⟩⟩;simp only[Instr.range,aT,bf a,newObj,Sem.run,bF,aQ]
def ax0(h:SR P H J w){t k e:TypeId}(f:P.underlying t=some (.map k e)){id:Nat}{es:X2}(g:J.get id=some (.map es)){x:Value}(c:VR H (.mp id) x):
 ∃y w' H',(Instr.range t x).run P w=.ok y w'/\St P H J w H' (J.new (.iterM (some id))) w'/\VR H' (.p J.next 0) y:=by
 simp only[VR]at c;obtain⟨q,d,rfl⟩:=c;obtain⟨l,b,m,a,i,j,_⟩:=h.obj _ _ g rfl;rw[d]at b;cases b;refine⟨.pointer (some ⟨w.heap.size,0,none⟩),_,_,?_,St.alloc h (.iterM (some id)) (.mapIter (some q.bl) a #[] a) ⟨w.heap.size,0,0,0⟩ rfl ⟨rfl,a,a,q,(Env.Js h _).pl _ _ d,by simp⟩,by simp only[VR];exact⟨⟨w.heap.size,0,0,0⟩,by simp[Env.put],rfl⟩⟩;simp only[Instr.range,aT,bf f,newObj,getObj,i,Sem.run,bF,aQ]
def avX(h:SR P H J w){ty:TypeId}{id:Nat}(d:J.get id=some (.iterM none)){x:Value}(c:VR H (.p id 0) x):
 (Instr.next x false ty).run P w=.ok (.tuple #[.bool false]) w:=by
 simp only[VR]at c;obtain⟨q,e,rfl⟩:=c;obtain⟨i,a,f,b,last,g⟩:=h.obj _ _ d rfl;rw[e]at a;cases a;simp only[f,lD,Instr.next,aT,getObj,Sem.run,g,aQ,bF]
def avY(h:SR P H J w){ty:TypeId}{id m:Nat}(l:J.get id=some (.iterM (some m)))(n:J.get m=some (.map [])){x:Value}(k:VR H (.p id 0) x):
 (Instr.next x false ty).run P w=.ok (.tuple #[.bool false]) w:=by
 simp only[VR]at k;obtain⟨q,o,rfl⟩:=k;obtain⟨z,a,r,c,last,A,d,s⟩:=h.obj _ _ l rfl;rw[o]at a;cases a;obtain⟨B,b,t,e,f,g,_⟩:=h.obj _ _ n rfl;rw[d]at b;cases b;have i:t =#[]:=by apply ace;simpa using g
 subst i;have j:(choose (.mapNext 1)).run P w=.ok 0 w:=by simp[choose,Sem.run,Question.forced]
 have u:∀p:MapEntry->Bool,(#[]:Array MapEntry).filter p =#[]:=λp=>by simp
 have v:(if(#[]:Array MapEntry).isEmpty=true then #[none]else(#[]:Array (Option MapEntry)))++Array.map some ((#[]:Array MapEntry)++#[]) =#[none]:=by simp
 simp only[r,lD,Instr.next,aT,getObj,Sem.run,s,f,aQ,bF,u,v];have y:(#[none]:Array (Option MapEntry)).size=1:=rfl;rw[y,ah (by simp)];simp only[aT,j,aQ];rfl
def avZ(h:SR P H J w){ty:TypeId}{it v:AV}{x:Value}(a:Rl it J=some (v,J'))(i:VR H it x):
 ∃y w',(Instr.next x true ty).run P w=.ok y w'/\St P H J w H J' w'/\VR H v y:=by
 unfold Rl at a;split at a
 ·next id=>
  split at a
  ·next s pos j=>
   split at a
   ·next m=>
    simp only[VR]at i;obtain⟨q,l,rfl⟩:=i;obtain⟨o,c,f,d⟩:=h.obj _ _ j rfl;rw[l]at c;cases c;have e:(getObj q.bl).run P w=.ok (.stringIter ⟨⟨s⟩⟩ pos) w:=by simp[getObj,Sem.run,f]
    rw[d];split at a
    ·next g=>
     cases a;refine⟨.tuple #[.bool true,.int .i64 pos,.int .i32 (Utf8.decode ⟨⟨s⟩⟩ pos).1],_,?_,St.write h j rfl m l Eh (λk n=>Ef n) rfl rfl rfl ⟨BZ (o':=.stringIter ⟨⟨s⟩⟩ (pos+(Utf8.decode ⟨⟨s⟩⟩ pos).2)) f,d⟩,?_⟩
     ·have b:pos<(⟨⟨s⟩⟩:ByteArray).size:=g;simp only[Instr.next,lD,aT,e,aQ,uM,b,if_true,MN f (by simp),bF,goInt]
     ·simp only[VR];exact⟨_,rfl,aF.cons (by simp[VR]) (aF.cons (by simp[VR]) (aF.cons (by simp[VR]) (by simp[aF])))⟩
    ·next g=>
     cases a;refine⟨.tuple #[.bool false],w,?_,St.refl h,by simp only[VR];exact⟨_,rfl,aF.cons (by simp[VR]) (by simp[aF])⟩⟩;have b:¬pos<(⟨⟨s⟩⟩:ByteArray).size:=g;simp only[Instr.next,lD,aT,e,aQ,uM,b,if_false,bF]
   ·cases a
  ·cases a
 ·cases a
def aji{ts:Wm}{ty:TypeId}:(Builtin.unsafeSliceData_ ts ty #[.slice none 0 0]).run P w=.ok (.pointer none) w:=rfl
def ajj{ts:Wm}{ty:TypeId}{a:Addr}{n c:Nat}(b:c≠0):(Builtin.unsafeSliceData_ ts ty #[.slice (some a) n c]).run P w=.ok (.pointer (some a)) w:=by
 show(if c≠0 then pure (.pointer (some a))else _:Sem Value).run P w=_
 rw[aj b];rfl
def abW{a it ty:TypeId}{p:Option Addr}:(Builtin.unsafeString_ #[a,it] ty #[.pointer p,.int .i64 0]).run P w=.ok (.string ⟨⟨[]⟩⟩) w:=Lib.run_unsafeString_none w a it ty p
def liesAt_bytes{e:TypeId}(c:P.cellsOf e=1)(a off n:Nat)(d:off+n<=a):liesAt P P.depth e a off e n=true:=by have b:P.depth=(2*(P.types.size+Made.depth)+1)+1:=rfl;rw[b];simp only[liesAt,mY];left;rw[b];simp[rowAt,c,d,sameLayout,Nat.mod_one]
def azh(i it ty e:TypeId)(p:P.underlying i=some (.pointer e))(o:P.cellsOf e=1)(g off cells:Nat)(k:w.shape? g=some (e,cells))(l:Q0)(h0:l≠[])(q:off+l.length<=cells)(r:l.length<=9223372036854775807)
 (a:∀(j:Nat) x,l[j]? =some x->w.cell? ((⟨g,off,none⟩:Addr).add j)=some (.int .u8 x.toNat)):
 (Builtin.unsafeString_ #[i,it] ty #[.pointer (some ⟨g,off,none⟩),.int .i64 l.length]).run P w=.ok (.string ⟨l.toArray⟩) (w.freeze ⟨g,off,none⟩ l.length):=by
 have t:l.length≠0:=by simpa using h0
 have m:=Lib.run_loadBytes (P:=P) w l ⟨g,off,none⟩ .empty a;have b:=liesAt_bytes (P:=P) o (cells/P.cellsOf e) off l.length (by rw[o];simpa using q);have c:¬(9223372036854775807:Int)<(l.length:Int):=by omega
 have d:Builtin.unsafeString_ #[i,it] ty #[.pointer (some ⟨g,off,none⟩),.int .i64 l.length] =
  (do
   let n <-asInt (.int .i64 l.length)
   if n<0 then runtimePanic (.error "unsafe.String: len out of range")
   if n>IntKind.i64.max then unsupported (.unsafePointer "String: a length above the largest int")
   if n=0 then pure (.string .empty)
   else if <-variablesAt ⟨g,off,none⟩ (<-elemOf i) n.toNat then do
    let s <-loadBytes ⟨g,off,none⟩ .empty n.toNat
    freeze ⟨g,off,none⟩ n.toNat
    pure (.string s)
   else unsupported (.unsafePointer "String: not so many bytes at ptr")):=rfl
 rw[d];have f:IntKind.i64.max=9223372036854775807:=rfl;have h:¬(l.length:Int)<0:=by omega
 simp[asInt,asIntOf,f,c,h,t,variablesAt,k,elemOf,run_underlying p,b,m]
def arU{bl off n:Nat}{cs:QQ}{elem:TypeId}{a:Nat×Nat}(h:w.heap[bl]? =some (.cells cs elem a))(b:n≠0):
 w.freeze ⟨bl,off,none⟩ n=nK w bl (.cells cs elem (if a.1==a.2 then(off,off+n)else(min a.1 off,max a.2 (off+n)))):=by
 unfold World.freeze nK;rw[ah b];congr 1;apply QC;intro i;rw[JV,CJ];by_cases e:bl=i
 ·subst e;have:bl<w.heap.size:=(qj.1 h).1;rw[aj rfl,aj rfl,aj this,h];rfl
 ·rw[ah e,ah e]
def ajZ(h:SR P H J w){t it ty e:TypeId}{id off:Nat}{n:Int}{c r:Q3}{opn:Bool}{b:Q0}{q:Place}(B:P.underlying t=some (.pointer e))
 (s:J.get id=some (.cells c e true opn)) (D:e≠0) (E:P.cellsOf e=1) (h0:0<n) (F:n<2^62) (G:J.lock<=id) (u:takeN c off n.toNat=some r) (I:bytesOf r=some b) (v:H id=some q):
 ∃y w',(Builtin.unsafeString_ #[t,it] ty #[.pointer (some ⟨q.bl,q.ba+off,none⟩),.int .i64 n]).run P w=.ok y w'/\St P H J w H (J.put id (.cells c e false opn)) w'/\VR H (.s b) y:=by
 obtain⟨V,g,p,d,W,a,i⟩:=h.obj _ _ s rfl;rw[v]at g;cases g;obtain⟨w1,X,Y⟩:=i.whole D;subst w1;have z:=i.y7 u;have l:=Og I z;obtain⟨L,M,N⟩:=ru u;have A:=i.fits;have O:=i.le;have m:b.length=n.toNat:=by have:=z.length;rw[l,je]at this;omega
 have Q:((b.length:Nat):Int)=n:=by omega
 have f:=azh (P:=P) (w:=w) t it ty d B E q.bl (q.ba+off) p.size (abu a) b (by intro S;subst S;simp at m;omega) (by omega) (by omega) (λj x T=>by
  rw[qy,OA a];have o:(List.take n.toNat (List.drop (q.ba+off) p.toList))[j]? =some (Value.int .u8 x.toNat):=by rw[l];simp[T]
  rw[mG]at o;split at o
  ·rw[rF,vJ]at o;exact o
  ·cases o)
 rw[Q,arU a (by omega)]at f;refine⟨_,_,f,St.write h s rfl G v Eh (λk U=>Ef U) rfl rfl rfl ?_,by simp[VR]⟩;exact⟨p,d,_,BZ a,{i with free:=by simp}⟩
