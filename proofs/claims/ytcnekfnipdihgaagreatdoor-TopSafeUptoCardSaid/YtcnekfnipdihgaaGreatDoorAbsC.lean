/- Slices that are made, appended to and copied into. -/
import Derived.Test.YtcnekfnipdihgaaGreatDoorAbsB
import Derived.Deep.AppendSrc
import Derived.Laws.IdiomCopy
import Derived.Lib.UnsafeStr
set_option linter.all false
namespace Go.aP
noncomputable section
variable[aJ]
variable{P:Program}{F:Env}{J J':aC}{w:World}
def KC{q:Place}{id len:Nat}{cap:W3}(h0:q.ba=0)(a:len<=cap.getD (q.sz/q.es)):VR (F.put id q) (.sl id 0 len cap) (.slice (some ⟨q.bl,0,none⟩) len (cap.getD (q.sz/q.es))):=by simp only[VR];exact⟨q,by simp[Env.put],by simpa using a,by simp[h0]⟩
def an6(h:SR P F J w){t e:TypeId}{size bytes len:Nat}{z:Q6}{p:Wr}{qs:Array (Nat×Value)}{cs:Q6}(hi:yC P t=some (e,size,bytes,z))
 (c:¬len*size>2^24) (f:Cj (λi=>some (i*size,size)) (if len*size=0 then[]else jS len z) p=some cs) (q:Ed F p qs.toList):
 ∃y w' F',(Instr.buildSlice t len qs).run P w=.ok y w'/\St P F J w F' (J.new (.cells cs e true false)) w'/\VR F' (.sl J.next 0 len (some len)) y:=by
 obtain⟨r,_,u,A,j,s⟩:=CZ hi;obtain⟨B,v,k⟩:=Ig u;by_cases g:len*size=0
 ·simp only[g,if_true]at f;obtain⟨d,l,a⟩:=ND (cs:=#[]) f q (by simp[aG]);have b:=a.length;refine⟨_,_,_,?_,Es h (xs:=d) (es:=0) (opn:=false) ?_ (by simpa using L9 b) (λ_=>by simpa using b) aA,KC (cap:=some len) rfl aA⟩
  ·have o:Array.range 0 =#[]:=rfl;have x:¬(0>2^24):=ah;simp only[Instr.buildSlice,aY,bD r,aX,jG s,xg,g,aj x,if_true,bP,o,aeg,l,newRow,newObj,Sem.run];rfl
  ·rw[b,AP];exact a
 ·simp only[g,if_false]at f;obtain⟨d,l,a⟩:=ND f q (TQ (k F) j);have b:=a.length;refine⟨_,_,_,?_,Es h (xs:=d) (es:=0) (opn:=false) ?_ (by simpa using L9 b) (λ_=>by simpa using b) aA,KC (cap:=some len) rfl aA⟩
  ·simp only[Instr.buildSlice,aY,bD r,aX,jG s,xg,aj c,g,if_false,v,bP,l,newRow,newObj,Sem.run];rfl
  ·rw[b,AP];exact a
def afK(s:Q2):aG F (yw s) (s.map λb=>.int .u8 b.toNat):=by
 induction s with
 |nil=>simp[yw,aG]
 |cons c s a=>exact aG.cons (by simp[VR]) a
def Yl(h:SR P F J w){size n:Nat}{a:AV}{l:Q6}{x:Value}(d:Aq J size a=some (n,l))(f:VR F a x):
 l.length=n*size/\(∀w':World,(Builtin.lenOf x).run P w'=.ok n w')/\∀k,k<=n->∃N,(∀w':World,w'.heap=w.heap->(Builtin.firstCells size k x).run P w'=.ok ⟨N⟩ w')/\aG F (l.take (k*size)) N:=by
 unfold Aq at d;split at d
 ·cases d;simp only[VR]at f;subst f;refine⟨aA,λ_=>rfl,λk g=>⟨[],λ_ _=>?_,by simp[aG]⟩⟩;simp[Builtin.firstCells]
 ·next id o len W=>
  simp only[VR]at f;obtain⟨q,X,_,rfl⟩:=f;split at d
  ·next c et rw Y Z=>
   simp only[bG]at d;obtain⟨r,O,e⟩:=d;cases e;obtain⟨q',p,Q,t,fr,hb,D⟩:=h.obj _ _ Z rfl;rw[X]at p;cases p;have i:=D.Ar O;obtain⟨aa,E,ab⟩:=uJ O;refine⟨E,λ_=>rfl,λk g=>⟨((Q.toList.drop (q.ba+o)).take (n*size)).take (k*size),λw' G=>?_,i.take _⟩⟩;have u:k*size<=n*size:=uQ _ g;rw[aeQ,Mc u];have R:=D.fits;have ac:=D.le;simp only[Builtin.firstCells];exact Fe (by rw[G];exact hb) ah
  ·cases d
 ·next s=>
  split at d
  ·next S=>
   cases d;simp only[VR]at f;subst f;refine⟨by simp[yw,S],λ_=>rfl,λk g=>⟨(s.take k).map λb=>.int .u8 b.toNat,λ_ _=>?_,?_⟩⟩
   ·simp only[Builtin.firstCells,al7,bP];simp
   ·rw[S,Nat.mul_one];have:=afK (F:=F) (s.take k);simpa[yw,aeM]using this
  ·cases d
 ·next es=>
  split at d
  ·next v=>
   cases d;simp only[VR]at f;rcases f with⟨rfl,T,rfl⟩|⟨bl,o,c,B,sz,rfl,hc,H,h2,h3⟩
   ·refine⟨aA,λ_=>by cases T<;>rfl,λk g=>⟨[],λ_ _=>?_,by simp[aG]⟩⟩;have I:k=0:=by simpa using g
    subst I;cases T<;>simp[Builtin.firstCells,loadCells,loadCellsFrom]
   have L:=anH H v;have y:=aht H;have z:=Gy L;have m:=H.length;have M:=y.length;refine⟨by rw[M,z,m],λ_=>rfl,λk g=>⟨(dR B).take (k*size),λw' G=>?_,y.take _⟩⟩;simp only[Builtin.firstCells];by_cases U:es=[]
   ·subst U;simp at m;have:B=[]:=jT m.symm;subst this;simp at g;subst g;simp[loadCells,loadCellsFrom,dR]
   ·obtain⟨Q,t,fr,h4,h5,h6⟩:=h3 U;have u:k*size<=B.length*size:=uQ _ ah;rw[Fe (by rw[G];exact h.jl _ _ h4) ah];congr 2;apply IK;intro j;rw[mW,mW];split
    ·next hj=>
     have A:j<(dR B).length:=ah;rw[uh,bV A,xR];exact h6 j _ (bV A)
    ·rfl
  ·cases d
 ·cases d
def aFT(zero:W2)(n:Nat):(Builtin.zeroCells zero n).size=n*zero.size:=by simp[Builtin.zeroCells]
def awl{t:TypeId}(h:Ho P t=true):(∃b,P.underlying t=some (.slice b))\/P.underlying t=some .string:=by
 unfold Ho at h;split at h
 ·next e a=>exact .inl ⟨e,a⟩
 ·next a=>exact .inr a
 ·cases h
def Sr(v:Value):v.oneCell'=qw v:=by cases v<;>rfl
def UQ{l:Q6}{xs:Qt}(c:aG F l xs)(a:l.all AV.pF=true):∀x∈xs,qw x=true:=by
 intro x g;have d:=c.length;obtain⟨k,e⟩:=Ze.1 g;have b:k<l.length:=by have:=(fV.1 e).1;omega
 obtain⟨y,f,h⟩:=c.at (bV b);rw[e]at f;cases f;exact ab5 h (List.all_eq_true.1 a _ (gY b))
def src_ok(h:SR P F J w){size n:Nat}{a:AV}{l:Q6}{x:Value}{f:TypeId}(i:Ho P f=true)(j:Aq J size a=some (n,l))(k:VR F a x)(b:l.all AV.pF=true):
 ∃d,Src P size f x n d w/\aG F l d:=by
 obtain⟨m,o,p⟩:=Yl h j k;obtain⟨d,g,e⟩:=p n (dK _);have q:l.take (n*size)=l:=lS ah;rw[q]at e;have c:=e.length;exact⟨d,⟨awl i,o,g w rfl,g w.drew rfl,by rw[<-c,m],λu r=>by rw[Sr];exact UQ e b u r⟩,e⟩
def setCells_nil(w:World)(b o:Nat):w.setCells b o []=w:=rfl
def aFU{e:TypeId}{z:Q6}(h:Aw P e=some z):∃i b,P.info? e=some i/\i.zero=some b/\∀F:Env,aG F z b.cells.toList:=by
 unfold Aw at h;split at h
 ·next i hi=>
  split at h
  ·next b c=>
   simp only[bG]at h;obtain⟨a,d,rfl⟩:=h;exact⟨i,b,hi,c,λF=>Bc (EW _ _ _ d)⟩
  ·cases h
 ·cases h
def aaS(h:SR P F J w){t u ty e:TypeId}{size bytes n sLen sCap:Nat}{z new old:Q6}{g os:Qt}{base:Ys}{x:Value}
 (hi:yC P t=some (e,size,bytes,z)) (j:Src P size u x n g w) (b:aG F new g) (k:(Builtin.firstCells size sLen (.slice base sLen sCap)).run P w.drew=.ok ⟨os⟩ w.drew) (d:aG F old os)
 (v:old.length=sLen*size) (A:new.length=n*size) (O:size≠0) (L:sCap<sLen+n) (B:(2*(sLen+n)+2000)*bytes<=2^48\/(2*(sLen+n))*bytes<=2^48) (Q:sLen+n<=2^48):
 ∃y w' F',(Builtin.append_ #[t,u] ty #[.slice base sLen sCap,x]).run P w=.ok y w'/\St P F J w F' (J.new (.cells (old++new) e true true)) w'/\VR F' (.sl J.next 0 (sLen+n) none) y:=by
 obtain⟨R,⟨i,M,f,D⟩,S,T,U,W⟩:=CZ hi;obtain⟨Y,s,l,E,X⟩:=aFU S;rw[M]at l;cases l;subst f;subst D
 have m:=grownCap_ge w (sLen+n) sCap e;have o:Builtin.nextslicecap (sLen+n) sCap*i.bytes<=281474976710656:=by
  have G:=nextslicecap_le L;have N:Builtin.nextslicecap (sLen+n) sCap*i.bytes<=(2*(sLen+n))*i.bytes:=uQ _ G;rcases B with p|p
  ·have:(2*(sLen+n))*i.bytes<=(2*(sLen+n)+2000)*i.bytes:=uQ _ ah;omega
  ·omega
 have r:=run_append_grow_src w t u ty e i s R M E base sLen sCap os k x n g j L ah o;have H:s.cells.size=i.size:=by have:=(X F).length;simp only[IC]at this;omega
 have I:=Es h.drew (c:=old++new) (xs:=(os++g).toArray++Builtin.zeroCells s.cells (grownCap w (sLen+n) sCap e-(sLen+n))) (elem:=e) (opn:=true) (es:=i.size) ?_ ?_ aA (λ_=>⟨T,ah,W⟩)
 ·have f:((os++g).toArray++Builtin.zeroCells s.cells (grownCap w (sLen+n) sCap e-(sLen+n))).size=grownCap w (sLen+n) sCap e*i.size:=by have G:=d.length;have N:=b.length;simp only[Array.size_append,aFT,List.size_toArray,dM,H];rw[<-G,<-N,v,A,<-uj,<-uj];congr 1;omega
  refine⟨_,_,_,r,(St.drew h).trans I,?_⟩;rw[f];have a:grownCap w (sLen+n) sCap e*i.size/i.size=grownCap w (sLen+n) sCap e:=Uk _ ah;have:=KC (q:=⟨w.heap.size,0,grownCap w (sLen+n) sCap e*i.size,i.size⟩) (F:=F) (id:=J.next) (len:=sLen+n) (cap:=none) rfl (by simp only[uS,a];exact m);simp only[uS,a]at this;exact this
 ·have p:=d.append b;have Z:=p.length;rw[Array.toList_append,Uf (by simp only[List.toList_toArray];omega),lS (by simp only[List.toList_toArray];omega)];simpa using p
 ·have p:=(d.append b).length;simp only[Array.size_append,List.size_toArray];omega
def UZ{α:Type}{ts:Array α}{a b:α}(h:ts.toList=[a,b]):ts =#[a,b]:=by cases ts;simp at h;subst h;rfl
def al5{bl off:Nat}{xs:Qt}{w':World}{cs:W2}{elem:TypeId}{b:Nat×Nat}(e:w.heap[bl]? =some (.cells cs elem b))(f:off+xs.length<=cs.size)
 (c:∀k,off<=k->k<off+xs.length->¬(b.1<=k/\k<b.2)) (a:∀x∈xs,qw x=true) (h:(storeCells ⟨bl,off,none⟩ xs).run P w=.ok () w'):
 (∀j,j<xs.length->(w.cell? ⟨bl,off+j,none⟩).isSome=true)/\(∀j,j<xs.length->w.frozen? ⟨bl,off+j,none⟩=false)/\w.setCells bl off xs=w':=by
 have g:∀j,j<xs.length->(w.cell? ⟨bl,off+j,none⟩).isSome=true:=λj l=>by rw[QA e];have:off+j<cs.size:=ah;simp[this]
 have i:∀j,j<xs.length->w.frozen? ⟨bl,off+j,none⟩=false:=λj l=>by rw[ahC e];have:=c (off+j) ah ah;simpa using this
 refine⟨g,i,?_⟩;have d:=run_storeCells_cells (P:=P) bl off xs 0 w (by simpa using g) (by simpa using i) (λv m=>by rw[Sr];exact a v m);rw[h]at d;simp only[oW,Result.ok.injEq]at d;exact d.2.symm
def afn{t b ty e:TypeId}{size:Nat}{x:Value}{p:Ys}(c:P.underlying t=some (.slice e))(d:sizeT P e=some size)(a:Src P size b x 0 [] w):
 (Builtin.append_ #[t,b] ty #[.slice p 0 0,x]).run P w=.ok (.slice p 0 0) w:=by
 have f:=a.cells;cases p<;>rcases a.kind with⟨g,hk⟩|hk<;>simp[Builtin.append_,bD c,bD hk,jG d,a.len,f,storeCells]
set_option maxHeartbeats 1000000 in
def Ej(h:SR P F J w){t t1 e size bytes:Nat}{z:Q6}{ty:TypeId}{s v:AV}{u u':Value}{n:Nat}{new:Q6}{O:Qt}(hi:yC P t=some (e,size,bytes,z))(Q:Src P size t1 u' n O w)(j:aG F new O)(R:new.length=n*size)
 (g:ru e size bytes s n new J=some (v,J')) (S:VR F s u):
 ∃y w' F',(Builtin.append_ #[t,t1] ty #[u,u']).run P w=.ok y w'/\St P F J w F' J' w'/\VR F' v y:=by
 unfold ru at g;split at g
 ·cases g
 ·next hc=>
  simp only[not_or,Decidable.not_not,Y2]at hc;obtain⟨h0,D,G,I⟩:=hc;obtain⟨A,⟨i,rH,m,av⟩,hz,he,aw,hn⟩:=CZ hi;have ax:=j.length;split at g
  ·
    simp only[VR]at S;subst S;simp only[sliceLen]at G I;split at g
    ·next l=>
     cases g;subst l;have:O=[]:=by apply jT;omega
     subst this;exact⟨_,w,F,afn A hn Q,St.refl h,by simp[VR]⟩
    ·next l=>
     cases g;have:=aaS (ty:=ty) (old:=[]) (os:=[]) (sLen:=0) (sCap:=0) (base:=none) h hi Q j (by simp[Builtin.firstCells]) (by simp[aG]) aA R h0 ah (.inr (by simpa using G)) ah;simpa using this
  ·
    next id d len ai=>
    simp only[VR]at S;obtain⟨q,U,H,rfl⟩:=S;simp only[sH]at H⊢;simp only[sliceLen]at G I;split at g
    ·next f=>
     split at g
     ·next l=>
      cases g;subst l;have:O=[]:=by apply jT;omega
      subst this;subst m;have:=run_append_room_src w t t1 ty e i A rH q.bl (q.ba+d) len ai u' 0 [] Q f aA aA;exact⟨_,w,F,by simpa[setCells_nil]using this,St.refl h,by simp only[VR];exact⟨q,U,by simpa using H,rfl⟩⟩
     ·split at g
      ·next c et aq hg=>
       split at g
       ·next hl=>
        simp only[bG]at g;obtain⟨c',hr,L⟩:=g;cases L;obtain⟨w',M,ab⟩:=YT h hg hl U hr j D;obtain⟨q',o,cs,E,fr,Y,r⟩:=h.obj _ _ hg rfl;rw[U]at o;cases o;obtain⟨h5,_,_⟩:=Yf hr;have ak:=r.fits;have al:=r.le;obtain⟨h6,h7,h8⟩:=al5 (bl:=q.bl) (off:=q.ba+(d+len*size)) Y ah (λk a b=>by have:=r.free rfl (k-q.ba) ah;rw[Ui ah]at this;exact this) (UQ j D) M
        subst m;have:=run_append_room_src w t t1 ty e i A rH q.bl (q.ba+d) len ai u' n O Q f (by simpa[jV]using h6) (by simpa[jV]using h7);rw[jV,h8]at this;exact⟨_,w',F,this,ab,by simp only[VR];exact⟨q,U,by simpa using f,rfl⟩⟩
       ·cases g
      ·cases g
    ·next f=>
     split at g
     ·next c et rw aq hg=>
      simp only[bG]at g;obtain⟨T,Z,L⟩:=g;cases L;obtain⟨q',o,cs,E,fr,Y,r⟩:=h.obj _ _ hg rfl;rw[U]at o;cases o;have ac:=r.Ar Z;have W:=(uJ Z).2.1;exact aaS (ty:=ty) h hi Q j (by simp only[Builtin.firstCells];exact Fe Y (r.take Z)) ac W R h0 ah (.inr G) I
     ·cases g
  ·
    next id d len=>
    simp only[VR]at S;obtain⟨q,U,H,rfl⟩:=S;simp only[uS]at H⊢;simp only[sliceLen]at G I;split at g
    ·next l=>
     cases g;subst l;have:O=[]:=by apply jT;omega
     subst this;subst m;have:=run_append_room_src w t t1 ty e i A rH q.bl (q.ba+d) len ((q.sz-d)/q.es) u' 0 [] Q (by simpa using H) aA aA;exact⟨_,w,F,by simpa[setCells_nil]using this,St.refl h,by simp only[VR];exact⟨q,U,by simpa using H,rfl⟩⟩
    ·next l=>
     split at g
     ·next hl=>
      split at g
      ·next c et hg=>
       split at g
       ·next ar=>
        simp only[bG]at g;obtain⟨T,Z,L⟩:=g;cases L;subst ar;obtain⟨q',o,cs,E,fr,Y,r⟩:=h.obj _ _ hg rfl;rw[U]at o;cases o;obtain⟨_,am,aa⟩:=r.room rfl;rw[hn]at aa;cases aa;have ac:=r.Ar Z;obtain⟨ay,W,az⟩:=uJ Z;have ak:=r.fits;have al:=r.le;by_cases f:len+n<=(q.sz-d)/q.es
        ·
          have an:(len+n)*q.es<=q.sz-d:=kR (uQ _ f) (Nat.div_mul_le_self _ _);have aD:0<n*q.es:=PO ah am;rw[uj]at an;have M:=adr (P:=P) O w q.bl (q.ba+(d+len*q.es)) 0 cs E fr Y ah (UQ j D) (λk a b=>by have:=r.free rfl (k-q.ba) ah;rw[Ui ah]at this;exact this)
          obtain⟨h6,h7,h8⟩:=al5 (bl:=q.bl) (off:=q.ba+(d+len*q.es)) Y ah (λk a b=>by have:=r.free rfl (k-q.ba) ah;rw[Ui ah]at this;exact this) (UQ j D) M
          have hr:=run_append_room_src w t t1 ty _ i A rH q.bl (q.ba+d) len ((q.sz-d)/q.es) u' n O (by rw[m];exact Q) f (by rw[m];simpa[jV]using h6) (by rw[m];simpa[jV]using h7);rw[m,jV,h8]at hr;refine⟨_,_,_,hr,St.again (q':=⟨q.bl,q.ba+d,q.sz-d,q.es⟩) h hg rfl hl U rfl Fj (λk X=>Fh X) rfl rfl rfl ?_,?_⟩
          ·refine⟨_,E,fr,DJ Y,?_⟩;have N:=Env.Ib h ⟨q.bl,q.ba+d,q.sz-d,q.es⟩;refine {fits:=by rw[OQ];show q.ba+d+(q.sz-d)<=cs.size;omega,le:=by show(T++new).length<=q.sz-d;rw[dM,W,R];omega,shut:=aA,cell:=?_,free:=?_,whole:=?_,room:=λ_=>⟨he,am,hn⟩}
           ·intro k a X;show ∃x,(setFrom cs (q.ba+(d+len*q.es)+0) O)[q.ba+d+k]? =some x/\_
            rw[oW,Ye _ _ _ _ ah];by_cases aE:k<len*q.es
            ·rw[oG ah]at X;obtain⟨x1,ad,ae⟩:=r.cell _ _ (amk Z X);rw[aj ah];exact⟨x1,by rw[<-ad];congr 1;omega,VR.mono N _ _ ae⟩
            ·rw[xW ah]at X;obtain⟨x1,ad,ae⟩:=j.at X;have aL:k-T.length<new.length:=(fV.1 X).1;rw[au ah];exact⟨x1,by rw[<-ad];congr 1;omega,VR.mono N _ _ ae⟩
           ·intro _ k X;have aM:k<q.sz-d:=X;have:=r.free rfl (d+k) ah;show ¬(fr.1<=q.ba+d+k/\q.ba+d+k<fr.2)
            rw[jV];exact this
           ·intro L;obtain⟨w1,w2,_⟩:=r.whole L;exact⟨w1,by rw[OQ];show q.ba+d+(q.sz-d)=cs.size;omega,aA⟩
          ·simp only[VR];exact⟨⟨q.bl,q.ba+d,q.sz-d,q.es⟩,by simp[Env.put],by simpa using f,aA⟩
        ·
          obtain⟨y,w',F',hr,ab,hv⟩:=aaS (ty:=ty) (base:=some ⟨q.bl,q.ba+d,none⟩) (sLen:=len) (sCap:=(q.sz-d)/q.es) h hi Q j (by simp only[Builtin.firstCells];exact Fe (w:=w.drew) Y (r.take Z)) ac W R h0 ah (.inr G) I;refine⟨y,w',F',hr,ab.sub ?_ (dK _) rfl,hv⟩;intro ao o' B;rw[aC.qK]at B⊢;split at B
          ·next L=>rw[au (show ao=J.next from L)];exact B
          ·next L=>
           rw[aC.Ad]at B;rw[aj (show ¬ao=J.next from L)];split at B
           ·cases B
           ·exact B
       ·cases g
      ·cases g
     ·cases g
  ·
    next es=>
    split at g
    ·next l=>
     cases g;subst l;have ap:=S;simp only[VR]at S;have:O=[]:=by apply jT;omega
     subst this;rcases S with⟨rfl,pa,rfl⟩|⟨bl,d,c,xs,sz,rfl,hc,_⟩
     ·exact⟨_,w,F,afn (p:=pa) A hn Q,St.refl h,by simpa using ap⟩
     subst m;have:=run_append_room_src w t t1 ty e i A rH bl d es.length c u' 0 [] Q (by simpa using hc) aA aA;exact⟨_,w,F,by simpa[setCells_nil]using this,St.refl h,by simpa using ap⟩
    ·cases g
  ·cases g
def anO(h:SR P F J w){ts:Ww}{ty:TypeId}{s x v:AV}{u j:Value}(a:Zo P ts s x J=some (v,J'))(o:VR F s u)(k:VR F x j):
 ∃y w' F',(Builtin.append_ ts ty #[u,j]).run P w=.ok y w'/\St P F J w F' J' w'/\VR F' v y:=by
 unfold Zo at a;split at a
 ·next t q d=>
  have:=UZ d;subst this;split at a
  ·next e l bytes z hi f=>
   split at a
   ·next n new b=>
    have c:new.all AV.pF=true:=by
     unfold ru at a;split at a
     ·cases a
     ·next m=>
      simp only[not_or,Decidable.not_not,Y2]at m;exact m.2.1
    obtain⟨r,p,g⟩:=src_ok h f b k c;obtain⟨i,_,_⟩:=Yl h b k;exact Ej h hi p g i a o
   ·cases a
  ·cases a
 ·cases a
def YS{n:Int}(h0:0<=n)(h:n<=2^60):IntKind.i64.wrap n=n:=Go.IntWalk.i64_in _ ah
def aw7(h:SR P F J w){t:TypeId}{l c v:AV}{x y:Value}(k:UA P t l c J=some (v,J'))(Q:VR F l x)(R:VR F c y):
 ∃z w' F',(Instr.makeSlice t x y).run P w=.ok z w'/\St P F J w F' J' w'/\VR F' v z:=by
 unfold UA at k;split at k
 ·next e d bytes z j b hi S T=>
  split at k
  ·next U=>
   obtain⟨W,b2,b3,X⟩:=U;cases k;obtain⟨kd,rfl⟩:=AZ S Q;obtain⟨Y,rfl⟩:=AZ T R;obtain⟨E,⟨i,G,Z,p⟩,hz,he,q,H⟩:=CZ hi;obtain⟨I,qM,r⟩:=Ig hz;have L:=YS W (ah:j<=2^60);have M:=YS (ah:0<=b) X;subst p
   have f:∀w:World,(askRoom (b.toNat*i.bytes)).run P w=.ok () w:=λw=>by unfold askRoom;split<;>simp[mark,Sem.run]
   have N:(decide (b<0) ||decide ((i.bytes:Int)*b>2^48))=false:=by simp;omega
   have aa:((b.toNat:Nat):Int)=b:=ah;by_cases o:b.toNat*d=0
   ·have a:(if d=0 then[]else jS b.toNat z)=[]:=by
     split
     ·rfl
     ·next s=>
      have:b.toNat=0:=by rcases Nat.mul_eq_zero.1 o with e|e;exact e;exact absurd e s
      rw[this];rfl
    rw[a];refine⟨_,_,_,?_,Es h (c:=[]) (xs:=#[]) (elem:=e) (es:=0) (opn:=false) (by simp[aG]) aA aA aA,KC (len:=j.toNat) (cap:=some b.toNat) rfl (by simp;omega)⟩;have B:Array.range 0 =#[]:=rfl;simp only[Instr.makeSlice,aY,bD E,aX,asInt,asIntOf,bP,Ie G,L,M,N,AA,xg,f,jG H,o,if_true,newRow,newObj,Sem.run,B,aeg];have D:(decide (j<0) ||decide (j>b))=false:=by simp;omega
    simp only[D,iJ,if_false];rfl
   ·have a:(if d=0 then[]else jS b.toNat z)=jS b.toNat z:=by rw[aj];rintro rfl;simp at o
    rw[a];have O:=TQ (n:=b.toNat) (r F) q;have g:=O.length;refine⟨_,_,_,?_,Es h (c:=jS b.toNat z) (xs:=(Array.range (b.toNat*d)).map (I.cells[· % I.cells.size]!)) (elem:=e) (es:=0) (opn:=false) (by rw[g,AP];exact O) (by simpa using L9 g) (λ_=>by simpa using g) aA,KC (len:=j.toNat) (cap:=some b.toNat) rfl (by simp;omega)⟩;simp only[Instr.makeSlice,aY,bD E,aX,asInt,asIntOf,bP,Ie G,L,M,N,AA,xg,f,jG H,o,if_false,qM,newRow,newObj,Sem.run];have D:(decide (j<0) ||decide (j>b))=false:=by simp;omega
    simp only[D,iJ,if_false];rfl
  ·cases k
 ·cases k
def aw8{t e:TypeId}{size bytes:Nat}{z:Q6}{kd kd':IntKind}{c a:Int}(hi:yC P t=some (e,size,bytes,z))(h0:size≠0)(u:0<=c)(D:c<=a)(E:bytes*a<=2^48)(v:a<=2^60):
 ∃xs:W2,(Instr.makeSlice t (.int kd c) (.int kd' a)).run P w=.ok (.slice (some ⟨w.heap.size,0,none⟩) c.toNat a.toNat) {w with heap:=w.heap.push (.cells xs e)}/\xs.size=a.toNat*size/\aG F (jS a.toNat z) xs.toList:=by
 obtain⟨l,⟨i,m,x,f⟩,y,G,g,n⟩:=CZ hi;obtain⟨o,A,h⟩:=Ig y;have p:=YS u (ah:c<=2^60);have q:=YS (ah:0<=a) v;subst f
 have b:∀w:World,(askRoom (a.toNat*i.bytes)).run P w=.ok () w:=λw=>by unfold askRoom;split<;>simp[mark,Sem.run]
 have r:(decide (a<0) ||decide ((i.bytes:Int)*a>2^48))=false:=by simp;omega
 have B:((a.toNat:Nat):Int)=a:=ah;have s:(decide (c<0) ||decide (c>a))=false:=by simp;omega
 by_cases d:a.toNat*size=0
 ·have j:a.toNat=0:=by rcases Nat.mul_eq_zero.1 d with e|e;exact e;exact absurd e h0
  refine⟨#[],?_,by simp[d],by rw[j];simp[jS,aG]⟩;have k:Array.range 0 =#[]:=rfl;simp only[Instr.makeSlice,aY,bD l,aX,asInt,asIntOf,bP,Ie m,p,q,r,AA,xg,b,jG n,d,if_true,newRow,newObj,Sem.run,k,aeg];simp only[s,iJ,if_false]
 ·refine⟨(Array.range (a.toNat*size)).map (o.cells[· % o.cells.size]!),?_,aA,TQ (h F) g⟩;simp only[Instr.makeSlice,aY,bD l,aX,asInt,asIntOf,bP,Ie m,p,q,r,AA,xg,b,jG n,d,if_false,A,newRow,newObj,Sem.run];simp only[s,iJ,if_false]
def aG.anG{l:Q6}(n:Nat)(h:l.all AV.pF=true):(l.take n).all AV.pF=true:=by rw[List.all_eq_true]at h⊢;exact λx a=>h x (L6 a)
def apq(h:SR P F J w){ts:Ww}{ty:TypeId}{d x v:AV}{u D:Value}(a:Zq P ts d x J=some (v,J'))(m:VR F d u)(E:VR F x D):
 ∃y w' F',(Builtin.copy_ ts ty #[u,D]).run P w=.ok y w'/\St P F J w F' J' w'/\VR F' v y:=by
 unfold Zq at a;split at a
 ·next t G=>
  split at a
  ·next e i bytes z id I f L hi=>
   obtain⟨g,_,_,_,_,o⟩:=CZ hi;simp only[VR]at m;obtain⟨q,M,N,rfl⟩:=m;split at a
   ·next n new c Y O b Q=>
    split at a
    ·cases a
    ·next Z=>
     split at a
     ·next R=>
      obtain⟨S,j⟩:=R;simp only[bG]at a;obtain⟨c',T,U⟩:=a;cases U;obtain⟨W,r,s⟩:=Yl h b E;obtain⟨X,A,H⟩:=s (Nat.min n f) (Nat.min_le_left _ _);obtain⟨w',k,B⟩:=YT h Q S M T H (aG.anG _ j);refine⟨.int .i64 (Nat.min n f:Nat),w',F,?_,B,by simp[VR]⟩;simp only[Builtin.copy_,G,xR,F7,kQ,vT,aY,bD g,aX,r,jG o,A w rfl,k,bP,goInt]
     ·cases a
   ·cases a
  ·next e i bytes z hi=>
   obtain⟨g,_,_,_,_,o⟩:=CZ hi;split at a
   ·next p b=>
    obtain⟨n,new⟩:=p;cases a;simp only[VR]at m;subst m;obtain⟨W,r,s⟩:=Yl h b E;obtain⟨X,A,H⟩:=s 0 (sG _);refine⟨.int .i64 0,w,F,?_,St.refl h,by simp[VR]⟩;have l:Nat.min n 0=0:=Nat.min_zero _;simp only[Builtin.copy_,G,xR,F7,kQ,vT,aY,bD g,aX,r,jG o,l,A w rfl,bP,goInt];rfl
   ·cases a
  ·cases a
 ·cases a
def Qp:∀{l:Q6}{b:Q2}{xs:Qt},bytesOf l=some b->aG F l xs->xs=b.map λc=>Value.int .u8 c.toNat
 |[],b,xs,h,e=>by simp[bytesOf]at h;subst h;simpa[aG]using e
 |a::l,b,xs,h,e=>by
  simp only[aG]at e;obtain⟨x,rest,rfl,h1,i⟩:=e;unfold bytesOf at h;split at h
  ·next d=>cases d
  ·next n f d=>
   cases d;split at h
   ·next j=>
    simp only[bG]at h;obtain⟨k,g,rfl⟩:=h;simp only[VR]at h1;subst h1;rw[Qp g i];simp only[iU,xU,and_true,Value.int.injEq,true_and];have:(UInt8.ofNat n.toNat).toNat=n.toNat:=by simp;omega
    rw[this];omega
   ·cases h
  ·cases h
def adq(f:Value->ByteArray->Sem (ForInStep ByteArray))(d:∀n r w,(f (.int .u8 n) r).run P w=.ok (.yield (r.push (UInt8.ofNat n.toNat))) w)(b:Q2)(a:ByteArray):
 (forIn (⟨b.map λc=>Value.int .u8 c.toNat⟩:W2) a f).run P w=.ok ⟨⟨a.data.toList++b⟩⟩ w:=by
 rw[<-Array.forIn_toList];simp only;induction b generalizing a with
 |nil=>simp
 |cons c b e=>simp only[iU,List.forIn_cons,aY,d,aX];rw[e];congr 1;simp
def adx{bl:Nat}{cs:W2}{elem:TypeId}{a:Nat×Nat}(h:w.heap[bl]? =some (.cells cs elem a)):w.shape? bl=some (elem,cs.size):=by simp[World.shape?,h]
def aEG(h:SR P F J w){e:TypeId}{s:Q2}(E:e≠0)(G:sizeT P e=some 1):
 ∃y w' F',(Conv.stringToBytes e ⟨⟨s⟩⟩).run P w=.ok y w'/\St P F J w F' (J.new (.cells (yw s) e true true)) w'/\VR F' (.sl J.next 0 s.length none) y:=by
 have g:=grownCap_ge w s.length 0 e;generalize m:grownCap w s.length 0 e=c at g;let d:W2:=(s.map λb=>Value.int .u8 b.toNat).toArray++Array.replicate (c-s.length) (.int .u8 0)
 have j:d.size=c:=by simp[d];omega
 have l:∀(o:Obj)(f:Obj->Obj),(w.heap.push o).modify w.heap.size f=w.heap.push (f o):=by
  intro o f;apply TS;intro i;rw[LK,IB,IB];by_cases n:w.heap.size=i
  ·subst n;simp
  ·rw[aj n];by_cases p:i=w.heap.size
   ·exact absurd p.symm n
   ·rw[aj p,aj p]
 have r:St P F J w.drew (F.put J.next ⟨w.heap.size,0,c,1⟩) (J.new (.cells (yw s) e true true)) {w.drew with heap:=w.heap.push (.cells d e (c,c+1))}:=by
  refine St.alloc (w:=w.drew) h.drew _ _ _ rfl ?_;refine⟨d,e,(c,c+1),by show(w.heap.push _)[w.heap.size]? =_;simp,?_⟩;refine {fits:=by simp[j],le:=by simpa[yw]using g,shut:=aA,cell:=?_,free:=λ_ k t=>?_,whole:=λ_=>⟨rfl,by simp[j],λ_=>rfl⟩,room:=λ_=>⟨E,Nat.one_pos,G⟩}
  ·intro k a t;obtain⟨x,D,H⟩:=(afK (F:=F.put J.next ⟨w.heap.size,0,c,1⟩) s).at t;refine⟨x,?_,H⟩;have u:=(fV.1 D).1;simp only[l9,d];rw[YX (by simpa using u)];simpa using D
  ·have I:k<c:=t;show ¬(c<=0+k/\0+k<c+1)
   omega
 refine⟨.slice (some ⟨w.heap.size,0,none⟩) s.length c,_,_,?_,(St.drew h).trans r,?_⟩
 ·have v:({w.drew with heap:=w.heap.push (.cells d e)}:World).shape? w.heap.size=some (e,c):=by simp[World.shape?,j]
  have z:({w.drew with heap:=w.heap.push (.cells d e)}:World).freeze {block:=w.heap.size,off:=c} 1 ={w.drew with heap:=w.heap.push (.cells d e (c,c+1))}:=by unfold World.freeze;rw[aj ah,l];rfl
  have A:(choose (.appendCap (⟨⟨s⟩⟩:ByteArray).size 0 e)).run P w=.ok c w.drew:=by have:(⟨⟨s⟩⟩:ByteArray).size=s.length:=rfl;rw[this];simp only[choose,Sem.run,Question.forced,iJ,if_false];rw[<-m];rfl
  have B:((⟨⟨s⟩⟩:ByteArray).data.map λb=>Value.int .u8 b.toNat)++Array.replicate (c-(⟨⟨s⟩⟩:ByteArray).size) (.int .u8 0)=d:=by have:(⟨⟨s⟩⟩:ByteArray).size=s.length:=rfl;rw[this];simp[d]
  simp only[Conv.stringToBytes,aY,A,aX,B,newRow,newObj,bP,Sem.run];simp only[markStringish,shape,aY,Sem.run];show((Result.ok (({w.drew with heap:=w.heap.push (.cells d e)}:World).shape? w.heap.size) _).andThen _).andThen _=_
  rw[v];simp only[aX,freeze,Sem.run];exact uD (Result.ok (Value.slice (some ⟨w.heap.size,0,none⟩) s.length c)) z
 ·have:=KC (q:=⟨w.heap.size,0,c,1⟩) (F:=F) (id:=J.next) (len:=s.length) (cap:=none) rfl (by simp only[uS,Nat.div_one];exact g);simpa using this
def QC(h:SR P F J w){src dst:TypeId}{a v:AV}{x:Value}(f:zQ P src dst a J=some (v,J'))(o:VR F a x):
 ∃y w' F',(convert src dst x).run P w=.ok y w'/\St P F J w F' J' w'/\VR F' v y:=by
 unfold zQ at f;split at f
 ·next d k kd n p z=>
  cases f;simp only[VR]at o;subst o;exact⟨.int k (k.wrap n),w,F,by simp only[convert,aY,bD p,bD z,aX];rfl,St.refl h,by simp[VR]⟩
 ·next s p z=>
  cases f;simp only[VR]at o;subst o;exact⟨_,w,F,by simp only[convert,aY,bD p,bD z,aX];rfl,St.refl h,by simp[VR]⟩
 ·next e s p z=>
  split at f
  ·next E=>
   split at f
   ·next I=>
    cases f;simp only[VR]at o;subst o;obtain⟨y,w',F',U,X,Y⟩:=aEG h (s:=s) I.1 I.2;exact⟨y,w',F',by simp only[convert,aY,bD p,bD z,aX,bD E];exact U,X,Y⟩
   ·cases f
  ·cases f
 ·next e p z=>
  split at f
  ·next E=>
   cases f;simp only[VR]at o;subst o;exact⟨.string ⟨⟨[]⟩⟩,w,F,by simp only[convert,aY,bD p,bD z,aX,bD E,Conv.bytesToString,bP];rfl,St.refl h,by simp[VR]⟩
  ·cases f
 ·next e id A len ae p z=>
  split at f
  ·next c et rw af E O=>
   split at f
   ·next r U=>
    simp only[bG]at f;obtain⟨b,N,Z⟩:=f;cases Z;simp only[VR]at o;obtain⟨q,L,aa,rfl⟩:=o;obtain⟨q',g,W,B,fr,m,G⟩:=h.obj _ _ O rfl;rw[L]at g;cases g;have Y:=G.Ar U;have D:=Qp N Y;refine⟨.string ⟨⟨b⟩⟩,w,F,?_,St.refl h,by simp[VR]⟩;simp only[convert,aY,bD p,bD z,aX,bD E,Conv.bytesToString];rw[Fe m (G.take U),D];simp only[aX];rw[adq _ (λ_ _ _=>rfl)];rfl
   ·cases f
  ·cases f
 ·next e l p z=>
  split at f
  ·next E=>
   simp only[bG]at f;obtain⟨b,N,Z⟩:=f;cases Z;simp only[VR]at o;rcases o with⟨rfl,pa,rfl⟩|⟨bl,A,c,Q,sz,rfl,I,g1,g2,g3⟩
   ·simp[bytesOf]at N;subst N;exact⟨.string ⟨⟨[]⟩⟩,w,F,by simp only[convert,aY,bD p,bD z,aX,bD E,Conv.bytesToString,bP];cases pa<;>simp[loadCells,loadCellsFrom]<;>rfl,St.refl h,by simp[VR]⟩
   have D:=Qp N g1;have R:=g1.length;have ab:dR Q=Q:=by
    rw[D];clear D N g1 g2 g3 R;unfold dR;induction b with
    |nil=>rfl
    |cons c b ih=>simp only[iU,kP,ih];rfl
   refine⟨.string ⟨⟨b⟩⟩,w,F,?_,St.refl h,by simp[VR]⟩;simp only[convert,aY,bD p,bD z,aX,bD E,Conv.bytesToString];have M:(loadCells ⟨bl,A,none⟩ l.length).run P w=.ok ⟨Q⟩ w:=by
    by_cases H:l=[]
    ·subst H;have:Q=[]:=jT R.symm;subst this;simp[loadCells,loadCellsFrom]
    ·obtain⟨W,B,fr,h4,h5,h6⟩:=g3 H;rw[ab]at h5 h6;rw[Fe (h.jl _ _ h4) ah];congr 2;apply IK;intro j;rw[mW];split
     ·next hj=>
      have S:j<Q.length:=ah;rw[uh,bV S,xR];exact h6 j _ (bV S)
     ·next hj=>rw[wV ah]
   rw[M,D];simp only[aX];rw[adq _ (λ_ _ _=>rfl)];rfl
  ·cases f
 ·next t id A p z=>
  split at f
  ·next c et rw n O H=>
   split at f
   ·next I=>
    cases f;obtain⟨c1,c2,c3⟩:=I;simp only[VR]at o;obtain⟨q,L,rfl⟩:=o;obtain⟨q',g,W,B,fr,m,G⟩:=h.obj _ _ O rfl;rw[L]at g;cases g;have ad:=G.fits;have aa:=G.le;simp only[sizeT,bG]at H;obtain⟨i,hi,rfl⟩:=H;exact⟨_,w,F,Lib.run_to_unsafe w _ p z hi c3 (adx m) (by show q.ba+A<W.size;omega),St.refl h,by simp only[VR];exact⟨q,L,rfl⟩⟩
   ·cases f
  ·cases f
 ·next u id A p z=>
  split at f
  ·next c et rw n O H=>
   split at f
   ·next I=>
    cases f;obtain⟨c1,c2⟩:=I;simp only[VR]at o;obtain⟨q,L,rfl⟩:=o;obtain⟨q',g,W,B,fr,m,G⟩:=h.obj _ _ O rfl;rw[L]at g;cases g;obtain⟨w1,w2,w3⟩:=G.whole c1;have ac:=w3 rfl;have T:=G.shut rfl;simp only[sizeT,bG]at H;obtain⟨i,hi,_⟩:=H;refine⟨_,w,F,Lib.run_from_unsafe w _ p z hi (adx m) ?_,St.refl h,by simp only[VR];exact⟨q,L,rfl⟩⟩;subst w1;rw[ac]at w2⊢;simp only[l9]at w2⊢;rw[<-w2,<-T];exact c2
   ·cases f
  ·cases f
 ·cases f
def OT{r:Nat}{o o':Obj}(b:w.heap[r]? =some o)(a:∀c e f,o≠.cells c e f):(setObj r o').run P w=.ok () (oP w r o'):=by simp only[setObj,Sem.run,b];cases o<;>first|(exact absurd rfl (a _ _ _))|rfl
def ajr(h:SR P F J w){t:TypeId}{r:WF}(b:r=none\/∃k n a et,r=some (.int k n)/\P.underlying t=some (.map a et)):
 ∃y w' F',(Instr.makeMap t r).run P w=.ok y w'/\St P F J w F' (J.new (.map [])) w'/\VR F' (.mp J.next) y:=by
 refine⟨.map (some w.heap.size),_,_,?_,St.alloc h (.map []) (.map #[] 0) ⟨w.heap.size,0,0,0⟩ rfl ⟨#[],0,aA,aA,aA⟩,by simp only[VR];exact⟨⟨w.heap.size,0,0,0⟩,by simp[Env.put],rfl⟩⟩;rcases b with rfl|⟨k,n,a,et,rfl,c⟩
 ·simp only[Instr.makeMap,aY,newObj,Sem.run,bP,aX]
 ·simp only[Instr.makeMap,aY,bD c,asInt,asIntOf,newObj,Sem.run,bP,aX]
def ajt(h:SR P F J w){t:TypeId}{m k v:AV}{x y z:Value}(n:UC P t m k v J=some J')(hx:VR F m x)(H:VR F k y)(hz:VR F v z):
 ∃w',(Instr.mapUpdate t x y z).run P w=.ok () w'/\St P F J w F J' w':=by
 unfold UC at n;split at n
 ·next kt et id hu=>
  split at n
  ·next es W=>
   split at n
   ·next hc=>
    obtain⟨hl,M⟩:=hc;simp only[VR]at hx;obtain⟨q,X,rfl⟩:=hx;obtain⟨q',N,o,d,O,A,Y⟩:=h.obj _ _ W rfl;rw[X]at N;cases N;obtain⟨Z,ql,U⟩:=ahs M;have Q:=af8 (w:=w) ql U H false;have R:(getObj q.bl).run P w=.ok (.map o d) w:=by simp[getObj,Sem.run,O]
    have S:Cc F es o.toList:=⟨by simpa using A,λk e s=>by obtain⟨m,r,I,L⟩:=Y k e s;exact⟨m,by simpa using r,I,L⟩⟩
    split at n
    ·next i u f=>
     cases n;obtain⟨r',I,L⟩:=find_ok U H f S;cases r' with
     |none=>exact L.elim
     |some p=>
      obtain⟨j',zz⟩:=p;obtain⟨rfl,_,T,_⟩:=L;simp only[l9]at T;have B:i<o.size:=ah;have D:Instr.sameNow Z y (o[i]).key=some true:=by
       have:∀(l:List MapEntry)(k j:Nat)(v:Value),Instr.findNow Z y l k=some (some (j,v))->k<=j/\∃m,l[j-k]? =some m/\Instr.sameNow Z y m.key=some true:=by
        intro l;induction l with
        |nil=>intro k j v E;simp[Instr.findNow]at E
        |cons m l ih=>
         intro k j v E;unfold Instr.findNow at E;split at E
         ·next s=>cases E;exact⟨Nat.le_refl _,m,aA,s⟩
         ·next s=>
          obtain⟨a,m',b,c⟩:=ih _ _ _ E;refine⟨ah,m',?_,c⟩;have:j-k=(j-(k+1))+1:=ah;rw[this];simpa using b
         ·cases E
       obtain⟨_,m,r,aa⟩:=this _ _ _ _ I;simp only[IY,xR]at r;rw[D8 B]at r;cases r;exact aa
      have ab:=aC9 U H D 9999;have G:(Instr.findKey kt y o.toList).run P w=.ok (some (i,zz)) w:=by simp only[Instr.findKey,aY,bD ql,aX,I,bP]
      have ac:(Instr.keyThatStays (((o[i]?).map (·.key)).getD y) y).run P w=.ok y w:=by rw[D8 B];simp only[iH,sH,Instr.keyThatStays];rw[au ab];rfl
      refine⟨oP w q.bl (.map (o.modify i λe=>{e with key:=y,val:=z}) d),?_,St.write h W rfl hl X Fj (λk s=>Fh s) rfl rfl rfl ?_⟩
      ·simp only[Instr.mapUpdate,aY,bD hu,aX,R,Q,G,ac];exact OT O aA
      ·refine⟨_,d,DJ O,by simpa using A,λj e g=>?_⟩;rw[aeJ]at g;split at g
       ·next e1=>
        subst e1;cases g;refine⟨{o[i]with key:=y,val:=z},?_,H,hz⟩;rw[LK,au rfl,D8 B];rfl
       ·next e1=>
        obtain⟨m,r,a,b⟩:=Y j e g;refine⟨m,?_,a,b⟩;rw[LK,aj e1];exact r
    ·next f=>
     cases n;obtain⟨r',I,L⟩:=find_ok U H f S;cases r' with
     |some p=>exact L.elim
     |none=>
      have G:(Instr.findKey kt y o.toList).run P w=.ok none w:=by simp only[Instr.findKey,aY,bD ql,aX,I,bP]
      refine⟨oP w q.bl (.map (o.push {key:=y,val:=z,born:=d}) (d+1)),?_,St.write h W rfl hl X Fj (λk s=>Fh s) rfl rfl rfl ?_⟩
      ·simp only[Instr.mapUpdate,aY,bD hu,aX,R,Q,G];exact OT O aA
      ·refine⟨_,d+1,DJ O,by simp[A],λj e g=>?_⟩;rw[List.getElem?_append]at g;split at g
       ·next T=>
        obtain⟨m,r,a,b⟩:=Y j e g;refine⟨m,?_,a,b⟩;rw[IB,aj ah];exact r
       ·next ae=>
        have ad:j-es.length=0:=by have:=(fV.1 g).1;simp at this;omega
        rw[ad]at g;simp at g;subst g;refine⟨{key:=y,val:=z,born:=d},?_,H,hz⟩;rw[IB,au ah]
    ·cases n
   ·cases n
  ·cases n
 ·cases n
def aAv(h:SR P F J w){t:TypeId}{s:Q2}(a:P.underlying t=some .string):
 ∃y w' F',(Instr.range t (.string ⟨⟨s⟩⟩)).run P w=.ok y w'/\St P F J w F' (J.new (.iter s 0)) w'/\VR F' (.p J.next 0) y:=by
 refine⟨.pointer (some ⟨w.heap.size,0,none⟩),_,_,?_,St.alloc h (.iter s 0) (.stringIter ⟨⟨s⟩⟩ 0) ⟨w.heap.size,0,0,0⟩ rfl ⟨aA,rfl⟩,by simp only[VR];exact⟨⟨w.heap.size,0,0,0⟩,by simp[Env.put],rfl⟩⟩;simp only[Instr.range,aY,bD a,newObj,Sem.run,bP,aX]
def aAt(h:SR P F J w){t k e:TypeId}(a:P.underlying t=some (.map k e)):
 ∃y w' F',(Instr.range t (.map none)).run P w=.ok y w'/\St P F J w F' (J.new (.iterM none)) w'/\VR F' (.p J.next 0) y:=by
 refine⟨.pointer (some ⟨w.heap.size,0,none⟩),_,_,?_,St.alloc h (.iterM none) (.mapIter none 0 #[] 0) ⟨w.heap.size,0,0,0⟩ rfl ⟨rfl,0,0,aA⟩,by simp only[VR];exact⟨⟨w.heap.size,0,0,0⟩,by simp[Env.put],rfl⟩⟩;simp only[Instr.range,aY,bD a,newObj,Sem.run,bP,aX]
def aAu(h:SR P F J w){t k e:TypeId}(f:P.underlying t=some (.map k e)){id:Nat}{es:K1}(g:J.get id=some (.map es)){x:Value}(c:VR F (.mp id) x):
 ∃y w' F',(Instr.range t x).run P w=.ok y w'/\St P F J w F' (J.new (.iterM (some id))) w'/\VR F' (.p J.next 0) y:=by
 simp only[VR]at c;obtain⟨q,d,rfl⟩:=c;obtain⟨l,b,m,a,i,j,_⟩:=h.obj _ _ g rfl;rw[d]at b;cases b;refine⟨.pointer (some ⟨w.heap.size,0,none⟩),_,_,?_,St.alloc h (.iterM (some id)) (.mapIter (some q.bl) a #[] a) ⟨w.heap.size,0,0,0⟩ rfl ⟨rfl,a,a,q,(Env.Ib h _).pl _ _ d,aA⟩,by simp only[VR];exact⟨⟨w.heap.size,0,0,0⟩,by simp[Env.put],rfl⟩⟩;simp only[Instr.range,aY,bD f,newObj,getObj,i,Sem.run,bP,aX]
def ax9(h:SR P F J w){ty:TypeId}{id:Nat}(d:J.get id=some (.iterM none)){x:Value}(c:VR F (.p id 0) x):
 (Instr.next x false ty).run P w=.ok (.tuple #[.bool false]) w:=by
 simp only[VR]at c;obtain⟨q,e,rfl⟩:=c;obtain⟨i,a,f,b,last,g⟩:=h.obj _ _ d rfl;rw[e]at a;cases a;simp only[f,oW,Instr.next,aY,getObj,Sem.run,g,aX,bP]
def aya(h:SR P F J w){ty:TypeId}{id m:Nat}(l:J.get id=some (.iterM (some m)))(n:J.get m=some (.map [])){x:Value}(k:VR F (.p id 0) x):
 (Instr.next x false ty).run P w=.ok (.tuple #[.bool false]) w:=by
 simp only[VR]at k;obtain⟨q,o,rfl⟩:=k;obtain⟨z,a,r,c,last,A,d,s⟩:=h.obj _ _ l rfl;rw[o]at a;cases a;obtain⟨B,b,t,e,f,g,_⟩:=h.obj _ _ n rfl;rw[d]at b;cases b;have i:t =#[]:=by apply aef;simpa using g
 subst i;have j:(choose (.mapNext 1)).run P w=.ok 0 w:=by simp[choose,Sem.run,Question.forced]
 have u:∀p:MapEntry->Bool,(#[]:Array MapEntry).filter p =#[]:=λp=>aA;have v:(if(#[]:Array MapEntry).isEmpty=true then #[none]else(#[]:Array (Option MapEntry)))++Array.map some ((#[]:Array MapEntry)++#[]) =#[none]:=aA;simp only[r,oW,Instr.next,aY,getObj,Sem.run,s,f,aX,bP,u,v];have y:(#[none]:Array (Option MapEntry)).size=1:=rfl;rw[y,aj aA];simp only[aY,j,aX];rfl
def ayb(h:SR P F J w){ty:TypeId}{it v:AV}{x:Value}(a:UE it J=some (v,J'))(i:VR F it x):
 ∃y w',(Instr.next x true ty).run P w=.ok y w'/\St P F J w F J' w'/\VR F v y:=by
 unfold UE at a;split at a
 ·next id=>
  split at a
  ·next s pos j=>
   split at a
   ·next m=>
    simp only[VR]at i;obtain⟨q,l,rfl⟩:=i;obtain⟨o,c,f,d⟩:=h.obj _ _ j rfl;rw[l]at c;cases c;have e:(getObj q.bl).run P w=.ok (.stringIter ⟨⟨s⟩⟩ pos) w:=by simp[getObj,Sem.run,f]
    rw[d];split at a
    ·next g=>
     cases a;refine⟨.tuple #[.bool true,.int .i64 pos,.int .i32 (Utf8.decode ⟨⟨s⟩⟩ pos).1],_,?_,St.write h j rfl m l Fj (λk n=>Fh n) rfl rfl rfl ⟨DJ (o':=.stringIter ⟨⟨s⟩⟩ (pos+(Utf8.decode ⟨⟨s⟩⟩ pos).2)) f,d⟩,?_⟩
     ·have b:pos<(⟨⟨s⟩⟩:ByteArray).size:=g;simp only[Instr.next,oW,aY,e,aX,xg,b,if_true,OT f aA,bP,goInt]
     ·simp only[VR];exact⟨_,rfl,aG.cons (by simp[VR]) (aG.cons (by simp[VR]) (aG.cons (by simp[VR]) (by simp[aG])))⟩
    ·next g=>
     cases a;refine⟨.tuple #[.bool false],w,?_,St.refl h,by simp only[VR];exact⟨_,rfl,aG.cons (by simp[VR]) (by simp[aG])⟩⟩;have b:¬pos<(⟨⟨s⟩⟩:ByteArray).size:=g;simp only[Instr.next,oW,aY,e,aX,xg,b,if_false,bP]
   ·cases a
  ·cases a
 ·cases a
def alU{ts:Ww}{ty:TypeId}:(Builtin.unsafeSliceData_ ts ty #[.slice none 0 0]).run P w=.ok (.pointer none) w:=rfl
def alV{ts:Ww}{ty:TypeId}{a:Addr}{n c:Nat}(b:c≠0):(Builtin.unsafeSliceData_ ts ty #[.slice (some a) n c]).run P w=.ok (.pointer (some a)) w:=by
 show(if c≠0 then pure (.pointer (some a))else _:Sem Value).run P w=_
 rw[au b];rfl
def adZ{a it ty:TypeId}{p:Ys}:(Builtin.unsafeString_ #[a,it] ty #[.pointer p,.int .i64 0]).run P w=.ok (.string ⟨⟨[]⟩⟩) w:=Lib.run_unsafeString_none w a it ty p
def liesAt_bytes{e:TypeId}(c:P.cellsOf e=1)(a off n:Nat)(d:off+n<=a):liesAt P P.depth e a off e n=true:=by have b:P.depth=(2*(P.types.size+Made.depth)+1)+1:=rfl;rw[b];simp only[liesAt,oV];left;rw[b];simp[rowAt,c,d,sameLayout,Nat.mod_one]
def aBt(i it ty e:TypeId)(p:P.underlying i=some (.pointer e))(o:P.cellsOf e=1)(g off cells:Nat)(k:w.shape? g=some (e,cells))(l:Q2)(h0:l≠[])(q:off+l.length<=cells)(r:l.length<=9223372036854775807)
 (a:∀(j:Nat) x,l[j]? =some x->w.cell? ((⟨g,off,none⟩:Addr).add j)=some (.int .u8 x.toNat)):
 (Builtin.unsafeString_ #[i,it] ty #[.pointer (some ⟨g,off,none⟩),.int .i64 l.length]).run P w=.ok (.string ⟨l.toArray⟩) (w.freeze ⟨g,off,none⟩ l.length):=by
 have t:l.length≠0:=by simpa using h0
 have m:=Lib.run_loadBytes (P:=P) w l ⟨g,off,none⟩ .empty a;have b:=liesAt_bytes (P:=P) o (cells/P.cellsOf e) off l.length (by rw[o];simpa using q);have c:¬(9223372036854775807:Int)<(l.length:Int):=ah
 have d:Builtin.unsafeString_ #[i,it] ty #[.pointer (some ⟨g,off,none⟩),.int .i64 l.length] =
  (do
   let n <-asInt (.int .i64 l.length)
   if n<0 then runtimePanic (.error "unsafe.String: len out of range")
   if n>IntKind.i64.max then unsupported (.unsafePointer "String: a length above the largest int")
   if n=0 then pure (.string .empty)
   else if <-variablesAt ⟨g,off,none⟩ (<-elemOf i) n.toNat then do
    let s <-loadBytes ⟨g,off,none⟩ .empty n.toNat
    freeze ⟨g,off,none⟩ n.toNat
    pure (.string s)
   else unsupported (.unsafePointer "String: not so many bytes at ptr")):=rfl
 rw[d];have f:IntKind.i64.max=9223372036854775807:=rfl;have h:¬(l.length:Int)<0:=ah;simp[asInt,asIntOf,f,c,h,t,variablesAt,k,elemOf,run_underlying p,b,m]
def auf{bl off n:Nat}{cs:W2}{elem:TypeId}{a:Nat×Nat}(h:w.heap[bl]? =some (.cells cs elem a))(b:n≠0):
 w.freeze ⟨bl,off,none⟩ n=oP w bl (.cells cs elem (if a.1==a.2 then(off,off+n)else(min a.1 off,max a.2 (off+n)))):=by
 unfold World.freeze oP;rw[aj b];congr 1;apply TS;intro i;rw[LK,D9];by_cases e:bl=i
 ·subst e;have:bl<w.heap.size:=(rX.1 h).1;rw[au rfl,au rfl,au this,h];rfl
 ·rw[aj e,aj e]
def amH(h:SR P F J w){t it ty e:TypeId}{id off:Nat}{n:Int}{c r:Q6}{opn:Bool}{b:Q2}{q:Place}(B:P.underlying t=some (.pointer e))
 (s:J.get id=some (.cells c e true opn)) (D:e≠0) (E:P.cellsOf e=1) (h0:0<n) (G:n<2^62) (H:J.lock<=id) (u:takeN c off n.toNat=some r) (I:bytesOf r=some b) (v:F id=some q):
 ∃y w',(Builtin.unsafeString_ #[t,it] ty #[.pointer (some ⟨q.bl,q.ba+off,none⟩),.int .i64 n]).run P w=.ok y w'/\St P F J w F (J.put id (.cells c e false opn)) w'/\VR F (.s b) y:=by
 obtain⟨U,g,p,d,W,a,i⟩:=h.obj _ _ s rfl;rw[v]at g;cases g;obtain⟨w1,X,Y⟩:=i.whole D;subst w1;have z:=i.Ar u;have l:=Qp I z;obtain⟨L,M,N⟩:=uJ u;have A:=i.fits;have O:=i.le;have m:b.length=n.toNat:=by have:=z.length;rw[l,gG]at this;omega
 have Q:((b.length:Nat):Int)=n:=ah;have f:=aBt (P:=P) (w:=w) t it ty d B E q.bl (q.ba+off) p.size (adx a) b (by intro R;subst R;simp at m;omega) ah ah (λj x S=>by
  rw[sK,QA a];have o:(List.take n.toNat (List.drop (q.ba+off) p.toList))[j]? =some (Value.int .u8 x.toNat):=by rw[l];simp[S]
  rw[mW]at o;split at o
  ·rw[uh,xR]at o;exact o
  ·cases o)
 rw[Q,auf a ah]at f;refine⟨_,_,f,St.write h s rfl H v Fj (λk T=>Fh T) rfl rfl rfl ?_,by simp[VR]⟩;exact⟨p,d,_,DJ a,{i with free:=by simp}⟩
