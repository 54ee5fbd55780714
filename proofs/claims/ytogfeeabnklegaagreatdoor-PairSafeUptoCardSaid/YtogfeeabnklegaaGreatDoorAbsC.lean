/- Slices that are made, appended to and copied into. -/
import Derived.Test.YtogfeeabnklegaaGreatDoorAbsB
import Derived.Deep.AppendSrc
import Derived.Laws.IdiomCopy
import Derived.Lib.UnsafeStr
set_option linter.all false
namespace Go.aP
noncomputable section
variable[aJ]
variable{P:Program}{F:Env}{J J':aC}{w:World}
def OE{q:Place}{id len:Nat}{cap:W2}(h0:q.ba=0)(a:len<=cap.getD (q.sz/q.es)):VR (F.put id q) (.sl id 0 len cap) (.slice (some ⟨q.bl,0,none⟩) len (cap.getD (q.sz/q.es))):=by simp only[VR];exact⟨q,by simp[Env.put],by simpa using a,by simp[h0]⟩
def aoj(h:SR P F J w){t e:TypeId}{size bytes len:Nat}{z:Q3}{p:Wo}{qs:Array (Nat×Value)}{cs:Q3}(hi:yN P t=some (e,size,bytes,z))
 (c:¬len*size>2^24) (f:Di (λi=>some (i*size,size)) (if len*size=0 then[]else ku len z) p=some cs) (q:Ey F p qs.toList):
 ∃y w' F',(Instr.buildSlice t len qs).run P w=.ok y w'/\St P F J w F' (J.new (.cells cs e true false)) w'/\VR F' (.sl J.next 0 len (some len)) y:=by
 obtain⟨r,_,u,A,j,s⟩:=DC hi;obtain⟨D,v,k⟩:=IU u;by_cases g:len*size=0
 ·simp only[g,if_true]at f;obtain⟨d,l,a⟩:=N7 (cs:=#[]) f q (by simp[aG]);have b:=a.length;refine⟨_,_,_,?_,EO h (xs:=d) (es:=0) (opn:=false) ?_ (by simpa using MW b) (λ_=>by simpa using b) aA,OE (cap:=some len) rfl aA⟩
  ·have o:Array.range 0 =#[]:=rfl;have x:¬(0>2^24):=ah;simp only[Instr.buildSlice,aZ,bG r,aY,jO s,xF,g,aj x,if_true,bQ,o,aen,l,newRow,newObj,Sem.run];rfl
  ·rw[b,Bz];exact a
 ·simp only[g,if_false]at f;obtain⟨d,l,a⟩:=N7 f q (Ui (k F) j);have b:=a.length;refine⟨_,_,_,?_,EO h (xs:=d) (es:=0) (opn:=false) ?_ (by simpa using MW b) (λ_=>by simpa using b) aA,OE (cap:=some len) rfl aA⟩
  ·simp only[Instr.buildSlice,aZ,bG r,aY,jO s,xF,aj c,g,if_false,v,bQ,l,newRow,newObj,Sem.run];rfl
  ·rw[b,Bz];exact a
def afO(s:Q0):aG F (yK s) (s.map λb=>.int .u8 b.toNat):=by
 induction s with
 |nil=>simp[yK,aG]
 |cons c s a=>exact aG.cons (by simp[VR]) a
def Yv(h:SR P F J w){size n:Nat}{a:AV}{l:Q3}{x:Value}(d:Bd J size a=some (n,l))(f:VR F a x):
 l.length=n*size/\(∀w':World,(Builtin.lenOf x).run P w'=.ok n w')/\∀k,k<=n->∃O,(∀w':World,w'.heap=w.heap->(Builtin.firstCells size k x).run P w'=.ok ⟨O⟩ w')/\aG F (l.take (k*size)) O:=by
 unfold Bd at d;split at d
 ·cases d;simp only[VR]at f;subst f;refine⟨aA,λ_=>rfl,λk g=>⟨[],λ_ _=>?_,by simp[aG]⟩⟩;simp[Builtin.firstCells]
 ·next id o len W=>
  simp only[VR]at f;obtain⟨q,X,_,rfl⟩:=f;split at d
  ·next c et rw Y Z=>
   simp only[bJ]at d;obtain⟨r,Q,e⟩:=d;cases e;obtain⟨q',p,R,t,fr,hb,E⟩:=h.obj _ _ Z rfl;rw[X]at p;cases p;have i:=E.Bf Q;obtain⟨hr1,G,aa⟩:=vg Q;refine⟨G,λ_=>rfl,λk g=>⟨((R.toList.drop (q.ba+o)).take (n*size)).take (k*size),λw' H=>?_,i.take _⟩⟩;have u:k*size<=n*size:=wC _ g;rw[aeZ,MX u];have S:=E.fits;have ab:=E.le;simp only[Builtin.firstCells];exact FY (by rw[H];exact hb) ah
  ·cases d
 ·next s=>
  split at d
  ·next T=>
   cases d;simp only[VR]at f;subst f;refine⟨by simp[yK,T],λ_=>rfl,λk g=>⟨(s.take k).map λb=>.int .u8 b.toNat,λ_ _=>?_,?_⟩⟩
   ·simp only[Builtin.firstCells,amn,bQ];simp
   ·rw[T,Nat.mul_one];have:=afO (F:=F) (s.take k);simpa[yK,aeT]using this
  ·cases d
 ·next es=>
  split at d
  ·next v=>
   cases d;simp only[VR]at f;rcases f with⟨rfl,U,rfl⟩|⟨bl,o,c,D,sz,rfl,hc,I,h2,h3⟩
   ·refine⟨aA,λ_=>by cases U<;>rfl,λk g=>⟨[],λ_ _=>?_,by simp[aG]⟩⟩;have L:k=0:=by simpa using g
    subst L;cases U<;>simp[Builtin.firstCells,loadCells,loadCellsFrom]
   have M:=anU I v;have y:=ahy I;have z:=JL M;have m:=I.length;have N:=y.length;refine⟨by rw[N,z,m],λ_=>rfl,λk g=>⟨(eP D).take (k*size),λw' H=>?_,y.take _⟩⟩;simp only[Builtin.firstCells];by_cases V:es=[]
   ·subst V;simp at m;have:D=[]:=kK m.symm;subst this;simp at g;subst g;simp[loadCells,loadCellsFrom,eP]
   ·obtain⟨R,t,fr,h4,h5,h6⟩:=h3 V;have u:k*size<=D.length*size:=wC _ ah;rw[FY (by rw[H];exact h.jF _ _ h4) ah];congr 2;apply Jf;intro j;rw[oh,oh];split
    ·next hj=>
     have A:j<(eP D).length:=ah;rw[uI,bZ A,yw];exact h6 j _ (bZ A)
    ·rfl
  ·cases d
 ·cases d
def aF0(zero:QR)(n:Nat):(Builtin.zeroCells zero n).size=n*zero.size:=by simp[Builtin.zeroCells]
def awD{t:TypeId}(h:Il P t=true):(∃b,P.underlying t=some (.slice b))\/P.underlying t=some .string:=by
 unfold Il at h;split at h
 ·next e a=>exact .inl ⟨e,a⟩
 ·next a=>exact .inr a
 ·cases h
def XE(v:Value):v.oneCell'=sW v:=by cases v<;>rfl
def U5{l:Q3}{xs:Q6}(c:aG F l xs)(a:l.all AV.ql=true):∀x∈xs,sW x=true:=by
 intro x g;have d:=c.length;obtain⟨k,e⟩:=Zn.1 g;have b:k<l.length:=by have:=(gu.1 e).1;omega
 obtain⟨y,f,h⟩:=c.at (bZ b);rw[e]at f;cases f;exact ach h (List.all_eq_true.1 a _ (iT b))
def src_ok(h:SR P F J w){size n:Nat}{a:AV}{l:Q3}{x:Value}{f:TypeId}(i:Il P f=true)(j:Bd J size a=some (n,l))(k:VR F a x)(b:l.all AV.ql=true):
 ∃d,Src P size f x n d w/\aG F l d:=by
 obtain⟨m,o,p⟩:=Yv h j k;obtain⟨d,g,e⟩:=p n (dP _);have q:l.take (n*size)=l:=mg ah;rw[q]at e;have c:=e.length;exact⟨d,⟨awD i,o,g w rfl,g w.drew rfl,by rw[<-c,m],λu r=>by rw[XE];exact U5 e b u r⟩,e⟩
def setCells_nil(w:World)(b o:Nat):w.setCells b o []=w:=rfl
def aF1{e:TypeId}{z:Q3}(h:Bh P e=some z):∃i b,P.info? e=some i/\i.zero=some b/\∀F:Env,aG F z b.cells.toList:=by
 unfold Bh at h;split at h
 ·next i hi=>
  split at h
  ·next b c=>
   simp only[bJ]at h;obtain⟨a,d,rfl⟩:=h;exact⟨i,b,hi,c,λF=>BN (FN _ _ _ d)⟩
  ·cases h
 ·cases h
def aaY(h:SR P F J w){t u ty e:TypeId}{size bytes n sLen sCap:Nat}{z new old:Q3}{g os:Q6}{base:XN}{x:Value}
 (hi:yN P t=some (e,size,bytes,z)) (j:Src P size u x n g w) (b:aG F new g) (k:(Builtin.firstCells size sLen (.slice base sLen sCap)).run P w.drew=.ok ⟨os⟩ w.drew) (d:aG F old os)
 (v:old.length=sLen*size) (A:new.length=n*size) (Q:size≠0) (M:sCap<sLen+n) (D:(2*(sLen+n)+2000)*bytes<=2^48\/(2*(sLen+n))*bytes<=2^48) (R:sLen+n<=2^48):
 ∃y w' F',(Builtin.append_ #[t,u] ty #[.slice base sLen sCap,x]).run P w=.ok y w'/\St P F J w F' (J.new (.cells (old++new) e true true)) w'/\VR F' (.sl J.next 0 (sLen+n) none) y:=by
 obtain⟨S,⟨i,N,f,E⟩,T,U,V,W⟩:=DC hi;obtain⟨Y,s,l,G,X⟩:=aF1 T;rw[N]at l;cases l;subst f;subst E
 have m:=grownCap_ge w (sLen+n) sCap e;have o:Builtin.nextslicecap (sLen+n) sCap*i.bytes<=281474976710656:=by
  have H:=nextslicecap_le M;have O:Builtin.nextslicecap (sLen+n) sCap*i.bytes<=(2*(sLen+n))*i.bytes:=wC _ H;rcases D with p|p
  ·have:(2*(sLen+n))*i.bytes<=(2*(sLen+n)+2000)*i.bytes:=wC _ ah;omega
  ·omega
 have r:=run_append_grow_src w t u ty e i s S N G base sLen sCap os k x n g j M ah o;have I:s.cells.size=i.size:=by have:=(X F).length;simp only[MF]at this;omega
 have L:=EO h.drew (c:=old++new) (xs:=(os++g).toArray++Builtin.zeroCells s.cells (grownCap w (sLen+n) sCap e-(sLen+n))) (elem:=e) (opn:=true) (es:=i.size) ?_ ?_ aA (λ_=>⟨U,ah,W⟩)
 ·have f:((os++g).toArray++Builtin.zeroCells s.cells (grownCap w (sLen+n) sCap e-(sLen+n))).size=grownCap w (sLen+n) sCap e*i.size:=by have H:=d.length;have O:=b.length;simp only[Array.size_append,aF0,List.size_toArray,eH,I];rw[<-H,<-O,v,A,<-uJ,<-uJ];congr 1;omega
  refine⟨_,_,_,r,(St.drew h).trans L,?_⟩;rw[f];have a:grownCap w (sLen+n) sCap e*i.size/i.size=grownCap w (sLen+n) sCap e:=Zq _ ah;have:=OE (q:=⟨w.heap.size,0,grownCap w (sLen+n) sCap e*i.size,i.size⟩) (F:=F) (id:=J.next) (len:=sLen+n) (cap:=none) rfl (by simp only[xC,a];exact m);simp only[xC,a]at this;exact this
 ·have p:=d.append b;have Z:=p.length;rw[Array.toList_append,Uw (by simp only[List.toList_toArray];omega),mg (by simp only[List.toList_toArray];omega)];simpa using p
 ·have p:=(d.append b).length;simp only[Array.size_append,List.size_toArray];omega
def U8{α:Type}{ts:Array α}{a b:α}(h:ts.toList=[a,b]):ts =#[a,b]:=by cases ts;simp at h;subst h;rfl
def aml{bl off:Nat}{xs:Q6}{w':World}{cs:QR}{elem:TypeId}{b:Nat×Nat}(e:w.heap[bl]? =some (.cells cs elem b))(f:off+xs.length<=cs.size)
 (c:∀k,off<=k->k<off+xs.length->¬(b.1<=k/\k<b.2)) (a:∀x∈xs,sW x=true) (h:(storeCells ⟨bl,off,none⟩ xs).run P w=.ok () w'):
 (∀j,j<xs.length->(w.cell? ⟨bl,off+j,none⟩).isSome=true)/\(∀j,j<xs.length->w.frozen? ⟨bl,off+j,none⟩=false)/\w.setCells bl off xs=w':=by
 have g:∀j,j<xs.length->(w.cell? ⟨bl,off+j,none⟩).isSome=true:=λj l=>by rw[QH e];have:off+j<cs.size:=ah;simp[this]
 have i:∀j,j<xs.length->w.frozen? ⟨bl,off+j,none⟩=false:=λj l=>by rw[ahH e];have:=c (off+j) ah ah;simpa using this
 refine⟨g,i,?_⟩;have d:=run_storeCells_cells (P:=P) bl off xs 0 w (by simpa using g) (by simpa using i) (λv m=>by rw[XE];exact a v m);rw[h]at d;simp only[pY,Result.ok.injEq]at d;exact d.2.symm
def aft{t b ty e:TypeId}{size:Nat}{x:Value}{p:XN}(c:P.underlying t=some (.slice e))(d:sizeT P e=some size)(a:Src P size b x 0 [] w):
 (Builtin.append_ #[t,b] ty #[.slice p 0 0,x]).run P w=.ok (.slice p 0 0) w:=by
 have f:=a.cells;cases p<;>rcases a.kind with⟨g,hk⟩|hk<;>simp[Builtin.append_,bG c,bG hk,jO d,a.len,f,storeCells]
set_option maxHeartbeats 1000000 in
def EH(h:SR P F J w){t t1 e size bytes:Nat}{z:Q3}{ty:TypeId}{s v:AV}{u u':Value}{n:Nat}{new:Q3}{Q:Q6}(hi:yN P t=some (e,size,bytes,z))(R:Src P size t1 u' n Q w)(j:aG F new Q)(S:new.length=n*size)
 (g:su e size bytes s n new J=some (v,J')) (T:VR F s u):
 ∃y w' F',(Builtin.append_ #[t,t1] ty #[u,u']).run P w=.ok y w'/\St P F J w F' J' w'/\VR F' v y:=by
 unfold su at g;split at g
 ·cases g
 ·next hc=>
  simp only[not_or,Decidable.not_not,Zd]at hc;obtain⟨h0,E,H,L⟩:=hc;obtain⟨A,⟨i,sK,m,av⟩,hz,he,aw,hn⟩:=DC hi;have ax:=j.length;split at g
  ·
    simp only[VR]at T;subst T;simp only[sliceLen]at H L;split at g
    ·next l=>
     cases g;subst l;have:Q=[]:=by apply kK;omega
     subst this;exact⟨_,w,F,aft A hn R,St.refl h,by simp[VR]⟩
    ·next l=>
     cases g;have:=aaY (ty:=ty) (old:=[]) (os:=[]) (sLen:=0) (sCap:=0) (base:=none) h hi R j (by simp[Builtin.firstCells]) (by simp[aG]) aA S h0 ah (.inr (by simpa using H)) ah;simpa using this
  ·
    next id d len ai=>
    simp only[VR]at T;obtain⟨q,V,I,rfl⟩:=T;simp only[uK]at I⊢;simp only[sliceLen]at H L;split at g
    ·next f=>
     split at g
     ·next l=>
      cases g;subst l;have:Q=[]:=by apply kK;omega
      subst this;subst m;have:=run_append_room_src w t t1 ty e i A sK q.bl (q.ba+d) len ai u' 0 [] R f aA aA;exact⟨_,w,F,by simpa[setCells_nil]using this,St.refl h,by simp only[VR];exact⟨q,V,by simpa using I,rfl⟩⟩
     ·split at g
      ·next c et aq hg=>
       split at g
       ·next hl=>
        simp only[bJ]at g;obtain⟨c',hr,M⟩:=g;cases M;obtain⟨w',N,ab⟩:=Y5 h hg hl V hr j E;obtain⟨q',o,cs,G,fr,Y,r⟩:=h.obj _ _ hg rfl;rw[V]at o;cases o;obtain⟨h5,_,_⟩:=Yj hr;have ak:=r.fits;have al:=r.le;obtain⟨h6,h7,h8⟩:=aml (bl:=q.bl) (off:=q.ba+(d+len*size)) Y ah (λk a b=>by have:=r.free rfl (k-q.ba) ah;rw[Uz ah]at this;exact this) (U5 j E) N
        subst m;have:=run_append_room_src w t t1 ty e i A sK q.bl (q.ba+d) len ai u' n Q R f (by simpa[kC]using h6) (by simpa[kC]using h7);rw[kC,h8]at this;exact⟨_,w',F,this,ab,by simp only[VR];exact⟨q,V,by simpa using f,rfl⟩⟩
       ·cases g
      ·cases g
    ·next f=>
     split at g
     ·next c et rw aq hg=>
      simp only[bJ]at g;obtain⟨U,Z,M⟩:=g;cases M;obtain⟨q',o,cs,G,fr,Y,r⟩:=h.obj _ _ hg rfl;rw[V]at o;cases o;have ac:=r.Bf Z;have W:=(vg Z).2.1;exact aaY (ty:=ty) h hi R j (by simp only[Builtin.firstCells];exact FY Y (r.take Z)) ac W S h0 ah (.inr H) L
     ·cases g
  ·
    next id d len=>
    simp only[VR]at T;obtain⟨q,V,I,rfl⟩:=T;simp only[xC]at I⊢;simp only[sliceLen]at H L;split at g
    ·next l=>
     cases g;subst l;have:Q=[]:=by apply kK;omega
     subst this;subst m;have:=run_append_room_src w t t1 ty e i A sK q.bl (q.ba+d) len ((q.sz-d)/q.es) u' 0 [] R (by simpa using I) aA aA;exact⟨_,w,F,by simpa[setCells_nil]using this,St.refl h,by simp only[VR];exact⟨q,V,by simpa using I,rfl⟩⟩
    ·next l=>
     split at g
     ·next hl=>
      split at g
      ·next c et hg=>
       split at g
       ·next ar=>
        simp only[bJ]at g;obtain⟨U,Z,M⟩:=g;cases M;subst ar;obtain⟨q',o,cs,G,fr,Y,r⟩:=h.obj _ _ hg rfl;rw[V]at o;cases o;obtain⟨_,am,aa⟩:=r.room rfl;rw[hn]at aa;cases aa;have ac:=r.Bf Z;obtain⟨ay,W,az⟩:=vg Z;have ak:=r.fits;have al:=r.le;by_cases f:len+n<=(q.sz-d)/q.es
        ·
          have an:(len+n)*q.es<=q.sz-d:=kW (wC _ f) (Nat.div_mul_le_self _ _);have aD:0<n*q.es:=Qd ah am;rw[uJ]at an;have N:=adx (P:=P) Q w q.bl (q.ba+(d+len*q.es)) 0 cs G fr Y ah (U5 j E) (λk a b=>by have:=r.free rfl (k-q.ba) ah;rw[Uz ah]at this;exact this)
          obtain⟨h6,h7,h8⟩:=aml (bl:=q.bl) (off:=q.ba+(d+len*q.es)) Y ah (λk a b=>by have:=r.free rfl (k-q.ba) ah;rw[Uz ah]at this;exact this) (U5 j E) N
          have hr:=run_append_room_src w t t1 ty _ i A sK q.bl (q.ba+d) len ((q.sz-d)/q.es) u' n Q (by rw[m];exact R) f (by rw[m];simpa[kC]using h6) (by rw[m];simpa[kC]using h7);rw[m,kC,h8]at hr;refine⟨_,_,_,hr,St.again (q':=⟨q.bl,q.ba+d,q.sz-d,q.es⟩) h hg rfl hl V rfl F5 (λk X=>FZ X) rfl rfl rfl ?_,?_⟩
          ·refine⟨_,G,fr,Ed Y,?_⟩;have O:=Env.IK h ⟨q.bl,q.ba+d,q.sz-d,q.es⟩;refine {fits:=by rw[Pj];show q.ba+d+(q.sz-d)<=cs.size;omega,le:=by show(U++new).length<=q.sz-d;rw[eH,W,S];omega,shut:=aA,cell:=?_,free:=?_,whole:=?_,room:=λ_=>⟨he,am,hn⟩}
           ·intro k a X;show ∃x,(setFrom cs (q.ba+(d+len*q.es)+0) Q)[q.ba+d+k]? =some x/\_
            rw[pY,Yi _ _ _ _ ah];by_cases aE:k<len*q.es
            ·rw[pG ah]at X;obtain⟨x1,ad,ae⟩:=r.cell _ _ (amA Z X);rw[aj ah];exact⟨x1,by rw[<-ad];congr 1;omega,VR.mono O _ _ ae⟩
            ·rw[yB ah]at X;obtain⟨x1,ad,ae⟩:=j.at X;have aL:k-U.length<new.length:=(gu.1 X).1;rw[au ah];exact⟨x1,by rw[<-ad];congr 1;omega,VR.mono O _ _ ae⟩
           ·intro _ k X;have aM:k<q.sz-d:=X;have:=r.free rfl (d+k) ah;show ¬(fr.1<=q.ba+d+k/\q.ba+d+k<fr.2)
            rw[kC];exact this
           ·intro M;obtain⟨w1,w2,_⟩:=r.whole M;exact⟨w1,by rw[Pj];show q.ba+d+(q.sz-d)=cs.size;omega,aA⟩
          ·simp only[VR];exact⟨⟨q.bl,q.ba+d,q.sz-d,q.es⟩,by simp[Env.put],by simpa using f,aA⟩
        ·
          obtain⟨y,w',F',hr,ab,hv⟩:=aaY (ty:=ty) (base:=some ⟨q.bl,q.ba+d,none⟩) (sLen:=len) (sCap:=(q.sz-d)/q.es) h hi R j (by simp only[Builtin.firstCells];exact FY (w:=w.drew) Y (r.take Z)) ac W S h0 ah (.inr H) L;refine⟨y,w',F',hr,ab.sub ?_ (dP _) rfl,hv⟩;intro ao o' D;rw[aC.rD]at D⊢;split at D
          ·next M=>rw[au (show ao=J.next from M)];exact D
          ·next M=>
           rw[aC.AL]at D;rw[aj (show ¬ao=J.next from M)];split at D
           ·cases D
           ·exact D
       ·cases g
      ·cases g
     ·cases g
  ·
    next es=>
    split at g
    ·next l=>
     cases g;subst l;have ap:=T;simp only[VR]at T;have:Q=[]:=by apply kK;omega
     subst this;rcases T with⟨rfl,pa,rfl⟩|⟨bl,d,c,xs,sz,rfl,hc,_⟩
     ·exact⟨_,w,F,aft (p:=pa) A hn R,St.refl h,by simpa using ap⟩
     subst m;have:=run_append_room_src w t t1 ty e i A sK bl d es.length c u' 0 [] R (by simpa using hc) aA aA;exact⟨_,w,F,by simpa[setCells_nil]using this,St.refl h,by simpa using ap⟩
    ·cases g
  ·cases g
def an3(h:SR P F J w){ts:Ww}{ty:TypeId}{s x v:AV}{u j:Value}(a:Zx P ts s x J=some (v,J'))(o:VR F s u)(k:VR F x j):
 ∃y w' F',(Builtin.append_ ts ty #[u,j]).run P w=.ok y w'/\St P F J w F' J' w'/\VR F' v y:=by
 unfold Zx at a;split at a
 ·next t q d=>
  have:=U8 d;subst this;split at a
  ·next e l bytes z hi f=>
   split at a
   ·next n new b=>
    have c:new.all AV.ql=true:=by
     unfold su at a;split at a
     ·cases a
     ·next m=>
      simp only[not_or,Decidable.not_not,Zd]at m;exact m.2.1
    obtain⟨r,p,g⟩:=src_ok h f b k c;obtain⟨i,_,_⟩:=Yv h b k;exact EH h hi p g i a o
   ·cases a
  ·cases a
 ·cases a
def Y4{n:Int}(h0:0<=n)(h:n<=2^60):IntKind.i64.wrap n=n:=Go.IntWalk.i64_in _ ah
def axp(h:SR P F J w){t:TypeId}{l c v:AV}{x y:Value}(k:UR P t l c J=some (v,J'))(R:VR F l x)(S:VR F c y):
 ∃z w' F',(Instr.makeSlice t x y).run P w=.ok z w'/\St P F J w F' J' w'/\VR F' v z:=by
 unfold UR at k;split at k
 ·next e d bytes z j b hi T U=>
  split at k
  ·next V=>
   obtain⟨W,b2,b3,X⟩:=V;cases k;obtain⟨kd,rfl⟩:=BJ T R;obtain⟨Y,rfl⟩:=BJ U S;obtain⟨G,⟨i,H,Z,p⟩,hz,he,q,I⟩:=DC hi;obtain⟨L,rG,r⟩:=IU hz;have M:=Y4 W (ah:j<=2^60);have N:=Y4 (ah:0<=b) X;subst p
   have f:∀w:World,(askRoom (b.toNat*i.bytes)).run P w=.ok () w:=λw=>by unfold askRoom;split<;>simp[mark,Sem.run]
   have O:(decide (b<0) ||decide ((i.bytes:Int)*b>2^48))=false:=by simp;omega
   have aa:((b.toNat:Nat):Int)=b:=ah;by_cases o:b.toNat*d=0
   ·have a:(if d=0 then[]else ku b.toNat z)=[]:=by
     split
     ·rfl
     ·next s=>
      have:b.toNat=0:=by rcases Nat.mul_eq_zero.1 o with e|e;exact e;exact absurd e s
      rw[this];rfl
    rw[a];refine⟨_,_,_,?_,EO h (c:=[]) (xs:=#[]) (elem:=e) (es:=0) (opn:=false) (by simp[aG]) aA aA aA,OE (len:=j.toNat) (cap:=some b.toNat) rfl (by simp;omega)⟩;have D:Array.range 0 =#[]:=rfl;simp only[Instr.makeSlice,aZ,bG G,aY,asInt,asIntOf,bQ,IQ H,M,N,O,Bl,xF,f,jO I,o,if_true,newRow,newObj,Sem.run,D,aen];have E:(decide (j<0) ||decide (j>b))=false:=by simp;omega
    simp only[E,iZ,if_false];rfl
   ·have a:(if d=0 then[]else ku b.toNat z)=ku b.toNat z:=by rw[aj];rintro rfl;simp at o
    rw[a];have Q:=Ui (n:=b.toNat) (r F) q;have g:=Q.length;refine⟨_,_,_,?_,EO h (c:=ku b.toNat z) (xs:=(Array.range (b.toNat*d)).map (L.cells[· % L.cells.size]!)) (elem:=e) (es:=0) (opn:=false) (by rw[g,Bz];exact Q) (by simpa using MW g) (λ_=>by simpa using g) aA,OE (len:=j.toNat) (cap:=some b.toNat) rfl (by simp;omega)⟩;simp only[Instr.makeSlice,aZ,bG G,aY,asInt,asIntOf,bQ,IQ H,M,N,O,Bl,xF,f,jO I,o,if_false,rG,newRow,newObj,Sem.run];have E:(decide (j<0) ||decide (j>b))=false:=by simp;omega
    simp only[E,iZ,if_false];rfl
  ·cases k
 ·cases k
def axq{t e:TypeId}{size bytes:Nat}{z:Q3}{kd kd':IntKind}{c a:Int}(hi:yN P t=some (e,size,bytes,z))(h0:size≠0)(u:0<=c)(E:c<=a)(G:bytes*a<=2^48)(v:a<=2^60):
 ∃xs:QR,(Instr.makeSlice t (.int kd c) (.int kd' a)).run P w=.ok (.slice (some ⟨w.heap.size,0,none⟩) c.toNat a.toNat) {w with heap:=w.heap.push (.cells xs e)}/\xs.size=a.toNat*size/\aG F (ku a.toNat z) xs.toList:=by
 obtain⟨l,⟨i,m,x,f⟩,y,H,g,n⟩:=DC hi;obtain⟨o,A,h⟩:=IU y;have p:=Y4 u (ah:c<=2^60);have q:=Y4 (ah:0<=a) v;subst f
 have b:∀w:World,(askRoom (a.toNat*i.bytes)).run P w=.ok () w:=λw=>by unfold askRoom;split<;>simp[mark,Sem.run]
 have r:(decide (a<0) ||decide ((i.bytes:Int)*a>2^48))=false:=by simp;omega
 have D:((a.toNat:Nat):Int)=a:=ah;have s:(decide (c<0) ||decide (c>a))=false:=by simp;omega
 by_cases d:a.toNat*size=0
 ·have j:a.toNat=0:=by rcases Nat.mul_eq_zero.1 d with e|e;exact e;exact absurd e h0
  refine⟨#[],?_,by simp[d],by rw[j];simp[ku,aG]⟩;have k:Array.range 0 =#[]:=rfl;simp only[Instr.makeSlice,aZ,bG l,aY,asInt,asIntOf,bQ,IQ m,p,q,r,Bl,xF,b,jO n,d,if_true,newRow,newObj,Sem.run,k,aen];simp only[s,iZ,if_false]
 ·refine⟨(Array.range (a.toNat*size)).map (o.cells[· % o.cells.size]!),?_,aA,Ui (h F) g⟩;simp only[Instr.makeSlice,aZ,bG l,aY,asInt,asIntOf,bQ,IQ m,p,q,r,Bl,xF,b,jO n,d,if_false,A,newRow,newObj,Sem.run];simp only[s,iZ,if_false]
def aG.anT{l:Q3}(n:Nat)(h:l.all AV.ql=true):(l.take n).all AV.ql=true:=by rw[List.all_eq_true]at h⊢;exact λx a=>h x (MR a)
def apx(h:SR P F J w){ts:Ww}{ty:TypeId}{d x v:AV}{u E:Value}(a:Zz P ts d x J=some (v,J'))(m:VR F d u)(G:VR F x E):
 ∃y w' F',(Builtin.copy_ ts ty #[u,E]).run P w=.ok y w'/\St P F J w F' J' w'/\VR F' v y:=by
 unfold Zz at a;split at a
 ·next t H=>
  split at a
  ·next e i bytes z id L f M hi=>
   obtain⟨g,_,_,_,_,o⟩:=DC hi;simp only[VR]at m;obtain⟨q,N,O,rfl⟩:=m;split at a
   ·next n new c Y Q b R=>
    split at a
    ·cases a
    ·next Z=>
     split at a
     ·next S=>
      obtain⟨T,j⟩:=S;simp only[bJ]at a;obtain⟨c',U,V⟩:=a;cases V;obtain⟨W,r,s⟩:=Yv h b G;obtain⟨X,A,I⟩:=s (Nat.min n f) (Nat.min_le_left _ _);obtain⟨w',k,D⟩:=Y5 h R T N U I (aG.anT _ j);refine⟨.int .i64 (Nat.min n f:Nat),w',F,?_,D,by simp[VR]⟩;simp only[Builtin.copy_,H,yw,GH,l9,xw,aZ,bG g,aY,r,jO o,A w rfl,k,bQ,goInt]
     ·cases a
   ·cases a
  ·next e i bytes z hi=>
   obtain⟨g,_,_,_,_,o⟩:=DC hi;split at a
   ·next p b=>
    obtain⟨n,new⟩:=p;cases a;simp only[VR]at m;subst m;obtain⟨W,r,s⟩:=Yv h b G;obtain⟨X,A,I⟩:=s 0 (vG _);refine⟨.int .i64 0,w,F,?_,St.refl h,by simp[VR]⟩;have l:Nat.min n 0=0:=Nat.min_zero _;simp only[Builtin.copy_,H,yw,GH,l9,xw,aZ,bG g,aY,r,jO o,l,A w rfl,bQ,goInt];rfl
   ·cases a
  ·cases a
 ·cases a
def QC:∀{l:Q3}{b:Q0}{xs:Q6},bytesOf l=some b->aG F l xs->xs=b.map λc=>Value.int .u8 c.toNat
 |[],b,xs,h,e=>by simp[bytesOf]at h;subst h;simpa[aG]using e
 |a::l,b,xs,h,e=>by
  simp only[aG]at e;obtain⟨x,rest,rfl,h1,i⟩:=e;unfold bytesOf at h;split at h
  ·next d=>cases d
  ·next n f d=>
   cases d;split at h
   ·next j=>
    simp only[bJ]at h;obtain⟨k,g,rfl⟩:=h;simp only[VR]at h1;subst h1;rw[QC g i];simp only[iU,yA,and_true,Value.int.injEq,true_and];have:(UInt8.ofNat n.toNat).toNat=n.toNat:=by simp;omega
    rw[this];omega
   ·cases h
  ·cases h
def adw(f:Value->ByteArray->Sem (ForInStep ByteArray))(d:∀n r w,(f (.int .u8 n) r).run P w=.ok (.yield (r.push (UInt8.ofNat n.toNat))) w)(b:Q0)(a:ByteArray):
 (forIn (⟨b.map λc=>Value.int .u8 c.toNat⟩:QR) a f).run P w=.ok ⟨⟨a.data.toList++b⟩⟩ w:=by
 rw[<-Array.forIn_toList];simp only;induction b generalizing a with
 |nil=>simp
 |cons c b e=>simp only[iU,List.forIn_cons,aZ,d,aY];rw[e];congr 1;simp
def adD{bl:Nat}{cs:QR}{elem:TypeId}{a:Nat×Nat}(h:w.heap[bl]? =some (.cells cs elem a)):w.shape? bl=some (elem,cs.size):=by simp[World.shape?,h]
def aE0(h:SR P F J w){e:TypeId}{s:Q0}(G:e≠0)(H:sizeT P e=some 1):
 ∃y w' F',(Conv.stringToBytes e ⟨⟨s⟩⟩).run P w=.ok y w'/\St P F J w F' (J.new (.cells (yK s) e true true)) w'/\VR F' (.sl J.next 0 s.length none) y:=by
 have g:=grownCap_ge w s.length 0 e;generalize m:grownCap w s.length 0 e=c at g;let d:QR:=(s.map λb=>Value.int .u8 b.toNat).toArray++Array.replicate (c-s.length) (.int .u8 0)
 have j:d.size=c:=by simp[d];omega
 have l:∀(o:Obj)(f:Obj->Obj),(w.heap.push o).modify w.heap.size f=w.heap.push (f o):=by
  intro o f;apply Uj;intro i;rw[MC,P6,P6];by_cases n:w.heap.size=i
  ·subst n;simp
  ·rw[aj n];by_cases p:i=w.heap.size
   ·exact absurd p.symm n
   ·rw[aj p,aj p]
 have r:St P F J w.drew (F.put J.next ⟨w.heap.size,0,c,1⟩) (J.new (.cells (yK s) e true true)) {w.drew with heap:=w.heap.push (.cells d e (c,c+1))}:=by
  refine St.alloc (w:=w.drew) h.drew _ _ _ rfl ?_;refine⟨d,e,(c,c+1),by show(w.heap.push _)[w.heap.size]? =_;simp,?_⟩;refine {fits:=by simp[j],le:=by simpa[yK]using g,shut:=aA,cell:=?_,free:=λ_ k t=>?_,whole:=λ_=>⟨rfl,by simp[j],λ_=>rfl⟩,room:=λ_=>⟨G,Nat.one_pos,H⟩}
  ·intro k a t;obtain⟨x,E,I⟩:=(afO (F:=F.put J.next ⟨w.heap.size,0,c,1⟩) s).at t;refine⟨x,?_,I⟩;have u:=(gu.1 E).1;simp only[mQ,d];rw[Y9 (by simpa using u)];simpa using E
  ·have L:k<c:=t;show ¬(c<=0+k/\0+k<c+1)
   omega
 refine⟨.slice (some ⟨w.heap.size,0,none⟩) s.length c,_,_,?_,(St.drew h).trans r,?_⟩
 ·have v:({w.drew with heap:=w.heap.push (.cells d e)}:World).shape? w.heap.size=some (e,c):=by simp[World.shape?,j]
  have z:({w.drew with heap:=w.heap.push (.cells d e)}:World).freeze {block:=w.heap.size,off:=c} 1 ={w.drew with heap:=w.heap.push (.cells d e (c,c+1))}:=by unfold World.freeze;rw[aj ah,l];rfl
  have A:(choose (.appendCap (⟨⟨s⟩⟩:ByteArray).size 0 e)).run P w=.ok c w.drew:=by have:(⟨⟨s⟩⟩:ByteArray).size=s.length:=rfl;rw[this];simp only[choose,Sem.run,Question.forced,iZ,if_false];rw[<-m];rfl
  have D:((⟨⟨s⟩⟩:ByteArray).data.map λb=>Value.int .u8 b.toNat)++Array.replicate (c-(⟨⟨s⟩⟩:ByteArray).size) (.int .u8 0)=d:=by have:(⟨⟨s⟩⟩:ByteArray).size=s.length:=rfl;rw[this];simp[d]
  simp only[Conv.stringToBytes,aZ,A,aY,D,newRow,newObj,bQ,Sem.run];simp only[markStringish,shape,aZ,Sem.run];show((Result.ok (({w.drew with heap:=w.heap.push (.cells d e)}:World).shape? w.heap.size) _).andThen _).andThen _=_
  rw[v];simp only[aY,freeze,Sem.run];exact uS (Result.ok (Value.slice (some ⟨w.heap.size,0,none⟩) s.length c)) z
 ·have:=OE (q:=⟨w.heap.size,0,c,1⟩) (F:=F) (id:=J.next) (len:=s.length) (cap:=none) rfl (by simp only[xC,Nat.div_one];exact g);simpa using this
def QL(h:SR P F J w){src dst:TypeId}{a v:AV}{x:Value}(f:Aq P src dst a J=some (v,J'))(o:VR F a x):
 ∃y w' F',(convert src dst x).run P w=.ok y w'/\St P F J w F' J' w'/\VR F' v y:=by
 unfold Aq at f;split at f
 ·next d k kd n p z=>
  cases f;simp only[VR]at o;subst o;exact⟨.int k (k.wrap n),w,F,by simp only[convert,aZ,bG p,bG z,aY];rfl,St.refl h,by simp[VR]⟩
 ·next s p z=>
  cases f;simp only[VR]at o;subst o;exact⟨_,w,F,by simp only[convert,aZ,bG p,bG z,aY];rfl,St.refl h,by simp[VR]⟩
 ·next e s p z=>
  split at f
  ·next G=>
   split at f
   ·next L=>
    cases f;simp only[VR]at o;subst o;obtain⟨y,w',F',V,X,Y⟩:=aE0 h (s:=s) L.1 L.2;exact⟨y,w',F',by simp only[convert,aZ,bG p,bG z,aY,bG G];exact V,X,Y⟩
   ·cases f
  ·cases f
 ·next e p z=>
  split at f
  ·next G=>
   cases f;simp only[VR]at o;subst o;exact⟨.string ⟨⟨[]⟩⟩,w,F,by simp only[convert,aZ,bG p,bG z,aY,bG G,Conv.bytesToString,bQ];rfl,St.refl h,by simp[VR]⟩
  ·cases f
 ·next e id A len ae p z=>
  split at f
  ·next c et rw af G Q=>
   split at f
   ·next r V=>
    simp only[bJ]at f;obtain⟨b,O,Z⟩:=f;cases Z;simp only[VR]at o;obtain⟨q,M,aa,rfl⟩:=o;obtain⟨q',g,W,D,fr,m,H⟩:=h.obj _ _ Q rfl;rw[M]at g;cases g;have Y:=H.Bf V;have E:=QC O Y;refine⟨.string ⟨⟨b⟩⟩,w,F,?_,St.refl h,by simp[VR]⟩;simp only[convert,aZ,bG p,bG z,aY,bG G,Conv.bytesToString];rw[FY m (H.take V),E];simp only[aY];rw[adw _ (λ_ _ _=>rfl)];rfl
   ·cases f
  ·cases f
 ·next e l p z=>
  split at f
  ·next G=>
   simp only[bJ]at f;obtain⟨b,O,Z⟩:=f;cases Z;simp only[VR]at o;rcases o with⟨rfl,pa,rfl⟩|⟨bl,A,c,R,sz,rfl,L,g1,g2,g3⟩
   ·simp[bytesOf]at O;subst O;exact⟨.string ⟨⟨[]⟩⟩,w,F,by simp only[convert,aZ,bG p,bG z,aY,bG G,Conv.bytesToString,bQ];cases pa<;>simp[loadCells,loadCellsFrom]<;>rfl,St.refl h,by simp[VR]⟩
   have E:=QC O g1;have S:=g1.length;have ab:eP R=R:=by
    rw[E];clear E O g1 g2 g3 S;unfold eP;induction b with
    |nil=>rfl
    |cons c b ih=>simp only[iU,kV,ih];rfl
   refine⟨.string ⟨⟨b⟩⟩,w,F,?_,St.refl h,by simp[VR]⟩;simp only[convert,aZ,bG p,bG z,aY,bG G,Conv.bytesToString];have N:(loadCells ⟨bl,A,none⟩ l.length).run P w=.ok ⟨R⟩ w:=by
    by_cases I:l=[]
    ·subst I;have:R=[]:=kK S.symm;subst this;simp[loadCells,loadCellsFrom]
    ·obtain⟨W,D,fr,h4,h5,h6⟩:=g3 I;rw[ab]at h5 h6;rw[FY (h.jF _ _ h4) ah];congr 2;apply Jf;intro j;rw[oh];split
     ·next hj=>
      have T:j<R.length:=ah;rw[uI,bZ T,yw];exact h6 j _ (bZ T)
     ·next hj=>rw[xA ah]
   rw[N,E];simp only[aY];rw[adw _ (λ_ _ _=>rfl)];rfl
  ·cases f
 ·next t id A p z=>
  split at f
  ·next c et rw n Q I=>
   split at f
   ·next L=>
    cases f;obtain⟨c1,c2,c3⟩:=L;simp only[VR]at o;obtain⟨q,M,rfl⟩:=o;obtain⟨q',g,W,D,fr,m,H⟩:=h.obj _ _ Q rfl;rw[M]at g;cases g;have ad:=H.fits;have aa:=H.le;simp only[sizeT,bJ]at I;obtain⟨i,hi,rfl⟩:=I;exact⟨_,w,F,Lib.run_to_unsafe w _ p z hi c3 (adD m) (by show q.ba+A<W.size;omega),St.refl h,by simp only[VR];exact⟨q,M,rfl⟩⟩
   ·cases f
  ·cases f
 ·next u id A p z=>
  split at f
  ·next c et rw n Q I=>
   split at f
   ·next L=>
    cases f;obtain⟨c1,c2⟩:=L;simp only[VR]at o;obtain⟨q,M,rfl⟩:=o;obtain⟨q',g,W,D,fr,m,H⟩:=h.obj _ _ Q rfl;rw[M]at g;cases g;obtain⟨w1,w2,w3⟩:=H.whole c1;have ac:=w3 rfl;have U:=H.shut rfl;simp only[sizeT,bJ]at I;obtain⟨i,hi,_⟩:=I;refine⟨_,w,F,Lib.run_from_unsafe w _ p z hi (adD m) ?_,St.refl h,by simp only[VR];exact⟨q,M,rfl⟩⟩;subst w1;rw[ac]at w2⊢;simp only[mQ]at w2⊢;rw[<-w2,<-U];exact c2
   ·cases f
  ·cases f
 ·cases f
def Pm{r:Nat}{o o':Obj}(b:w.heap[r]? =some o)(a:∀c e f,o≠.cells c e f):(setObj r o').run P w=.ok () (pW w r o'):=by simp only[setObj,Sem.run,b];cases o<;>first|(exact absurd rfl (a _ _ _))|rfl
def ajx(h:SR P F J w){t:TypeId}{r:WD}(b:r=none\/∃k n a et,r=some (.int k n)/\P.underlying t=some (.map a et)):
 ∃y w' F',(Instr.makeMap t r).run P w=.ok y w'/\St P F J w F' (J.new (.map [])) w'/\VR F' (.mp J.next) y:=by
 refine⟨.map (some w.heap.size),_,_,?_,St.alloc h (.map []) (.map #[] 0) ⟨w.heap.size,0,0,0⟩ rfl ⟨#[],0,aA,aA,aA⟩,by simp only[VR];exact⟨⟨w.heap.size,0,0,0⟩,by simp[Env.put],rfl⟩⟩;rcases b with rfl|⟨k,n,a,et,rfl,c⟩
 ·simp only[Instr.makeMap,aZ,newObj,Sem.run,bQ,aY]
 ·simp only[Instr.makeMap,aZ,bG c,asInt,asIntOf,newObj,Sem.run,bQ,aY]
def ajz(h:SR P F J w){t:TypeId}{m k v:AV}{x y z:Value}(n:UU P t m k v J=some J')(hx:VR F m x)(I:VR F k y)(hz:VR F v z):
 ∃w',(Instr.mapUpdate t x y z).run P w=.ok () w'/\St P F J w F J' w':=by
 unfold UU at n;split at n
 ·next kt et id hu=>
  split at n
  ·next es W=>
   split at n
   ·next hc=>
    obtain⟨hl,N⟩:=hc;simp only[VR]at hx;obtain⟨q,X,rfl⟩:=hx;obtain⟨q',O,o,d,Q,A,Y⟩:=h.obj _ _ W rfl;rw[X]at O;cases O;obtain⟨Z,qU,V⟩:=ahx N;have R:=agb (w:=w) qU V I false;have S:(getObj q.bl).run P w=.ok (.map o d) w:=by simp[getObj,Sem.run,Q]
    have T:Df F es o.toList:=⟨by simpa using A,λk e s=>by obtain⟨m,r,L,M⟩:=Y k e s;exact⟨m,by simpa using r,L,M⟩⟩
    split at n
    ·next i u f=>
     cases n;obtain⟨r',L,M⟩:=find_ok V I f T;cases r' with
     |none=>exact M.elim
     |some p=>
      obtain⟨j',zz⟩:=p;obtain⟨rfl,_,U,_⟩:=M;simp only[mQ]at U;have D:i<o.size:=ah;have E:Instr.sameNow Z y (o[i]).key=some true:=by
       have:∀(l:List MapEntry)(k j:Nat)(v:Value),Instr.findNow Z y l k=some (some (j,v))->k<=j/\∃m,l[j-k]? =some m/\Instr.sameNow Z y m.key=some true:=by
        intro l;induction l with
        |nil=>intro k j v G;simp[Instr.findNow]at G
        |cons m l ih=>
         intro k j v G;unfold Instr.findNow at G;split at G
         ·next s=>cases G;exact⟨Nat.le_refl _,m,aA,s⟩
         ·next s=>
          obtain⟨a,m',b,c⟩:=ih _ _ _ G;refine⟨ah,m',?_,c⟩;have:j-k=(j-(k+1))+1:=ah;rw[this];simpa using b
         ·cases G
       obtain⟨_,m,r,aa⟩:=this _ _ _ _ L;simp only[Jm,yw]at r;rw[Ep D]at r;cases r;exact aa
      have ab:=aDs V I E 9999;have H:(Instr.findKey kt y o.toList).run P w=.ok (some (i,zz)) w:=by simp only[Instr.findKey,aZ,bG qU,aY,L,bQ]
      have ac:(Instr.keyThatStays (((o[i]?).map (·.key)).getD y) y).run P w=.ok y w:=by rw[Ep D];simp only[iJ,uK,Instr.keyThatStays];rw[au ab];rfl
      refine⟨pW w q.bl (.map (o.modify i λe=>{e with key:=y,val:=z}) d),?_,St.write h W rfl hl X F5 (λk s=>FZ s) rfl rfl rfl ?_⟩
      ·simp only[Instr.mapUpdate,aZ,bG hu,aY,S,R,H,ac];exact Pm Q aA
      ·refine⟨_,d,Ed Q,by simpa using A,λj e g=>?_⟩;rw[aeR]at g;split at g
       ·next e1=>
        subst e1;cases g;refine⟨{o[i]with key:=y,val:=z},?_,I,hz⟩;rw[MC,au rfl,Ep D];rfl
       ·next e1=>
        obtain⟨m,r,a,b⟩:=Y j e g;refine⟨m,?_,a,b⟩;rw[MC,aj e1];exact r
    ·next f=>
     cases n;obtain⟨r',L,M⟩:=find_ok V I f T;cases r' with
     |some p=>exact M.elim
     |none=>
      have H:(Instr.findKey kt y o.toList).run P w=.ok none w:=by simp only[Instr.findKey,aZ,bG qU,aY,L,bQ]
      refine⟨pW w q.bl (.map (o.push {key:=y,val:=z,born:=d}) (d+1)),?_,St.write h W rfl hl X F5 (λk s=>FZ s) rfl rfl rfl ?_⟩
      ·simp only[Instr.mapUpdate,aZ,bG hu,aY,S,R,H];exact Pm Q aA
      ·refine⟨_,d+1,Ed Q,by simp[A],λj e g=>?_⟩;rw[List.getElem?_append]at g;split at g
       ·next U=>
        obtain⟨m,r,a,b⟩:=Y j e g;refine⟨m,?_,a,b⟩;rw[P6,aj ah];exact r
       ·next ae=>
        have ad:j-es.length=0:=by have:=(gu.1 g).1;simp at this;omega
        rw[ad]at g;simp at g;subst g;refine⟨{key:=y,val:=z,born:=d},?_,I,hz⟩;rw[P6,au ah]
    ·cases n
   ·cases n
  ·cases n
 ·cases n
def aAL(h:SR P F J w){t:TypeId}{s:Q0}(a:P.underlying t=some .string):
 ∃y w' F',(Instr.range t (.string ⟨⟨s⟩⟩)).run P w=.ok y w'/\St P F J w F' (J.new (.iter s 0)) w'/\VR F' (.p J.next 0) y:=by
 refine⟨.pointer (some ⟨w.heap.size,0,none⟩),_,_,?_,St.alloc h (.iter s 0) (.stringIter ⟨⟨s⟩⟩ 0) ⟨w.heap.size,0,0,0⟩ rfl ⟨aA,rfl⟩,by simp only[VR];exact⟨⟨w.heap.size,0,0,0⟩,by simp[Env.put],rfl⟩⟩;simp only[Instr.range,aZ,bG a,newObj,Sem.run,bQ,aY]
def aAJ(h:SR P F J w){t k e:TypeId}(a:P.underlying t=some (.map k e)):
 ∃y w' F',(Instr.range t (.map none)).run P w=.ok y w'/\St P F J w F' (J.new (.iterM none)) w'/\VR F' (.p J.next 0) y:=by
 refine⟨.pointer (some ⟨w.heap.size,0,none⟩),_,_,?_,St.alloc h (.iterM none) (.mapIter none 0 #[] 0) ⟨w.heap.size,0,0,0⟩ rfl ⟨rfl,0,0,aA⟩,by simp only[VR];exact⟨⟨w.heap.size,0,0,0⟩,by simp[Env.put],rfl⟩⟩;simp only[Instr.range,aZ,bG a,newObj,Sem.run,bQ,aY]
def aAK(h:SR P F J w){t k e:TypeId}(f:P.underlying t=some (.map k e)){id:Nat}{es:XX}(g:J.get id=some (.map es)){x:Value}(c:VR F (.mp id) x):
 ∃y w' F',(Instr.range t x).run P w=.ok y w'/\St P F J w F' (J.new (.iterM (some id))) w'/\VR F' (.p J.next 0) y:=by
 simp only[VR]at c;obtain⟨q,d,rfl⟩:=c;obtain⟨l,b,m,a,i,j,_⟩:=h.obj _ _ g rfl;rw[d]at b;cases b;refine⟨.pointer (some ⟨w.heap.size,0,none⟩),_,_,?_,St.alloc h (.iterM (some id)) (.mapIter (some q.bl) a #[] a) ⟨w.heap.size,0,0,0⟩ rfl ⟨rfl,a,a,q,(Env.IK h _).pl _ _ d,aA⟩,by simp only[VR];exact⟨⟨w.heap.size,0,0,0⟩,by simp[Env.put],rfl⟩⟩;simp only[Instr.range,aZ,bG f,newObj,getObj,i,Sem.run,bQ,aY]
def ayu(h:SR P F J w){ty:TypeId}{id:Nat}(d:J.get id=some (.iterM none)){x:Value}(c:VR F (.p id 0) x):
 (Instr.next x false ty).run P w=.ok (.tuple #[.bool false]) w:=by
 simp only[VR]at c;obtain⟨q,e,rfl⟩:=c;obtain⟨i,a,f,b,last,g⟩:=h.obj _ _ d rfl;rw[e]at a;cases a;simp only[f,pY,Instr.next,aZ,getObj,Sem.run,g,aY,bQ]
def ayv(h:SR P F J w){ty:TypeId}{id m:Nat}(l:J.get id=some (.iterM (some m)))(n:J.get m=some (.map [])){x:Value}(k:VR F (.p id 0) x):
 (Instr.next x false ty).run P w=.ok (.tuple #[.bool false]) w:=by
 simp only[VR]at k;obtain⟨q,o,rfl⟩:=k;obtain⟨z,a,r,c,last,A,d,s⟩:=h.obj _ _ l rfl;rw[o]at a;cases a;obtain⟨D,b,t,e,f,g,_⟩:=h.obj _ _ n rfl;rw[d]at b;cases b;have i:t =#[]:=by apply aem;simpa using g
 subst i;have j:(choose (.mapNext 1)).run P w=.ok 0 w:=by simp[choose,Sem.run,Question.forced]
 have u:∀p:MapEntry->Bool,(#[]:Array MapEntry).filter p =#[]:=λp=>aA;have v:(if(#[]:Array MapEntry).isEmpty=true then #[none]else(#[]:Array (Option MapEntry)))++Array.map some ((#[]:Array MapEntry)++#[]) =#[none]:=aA;simp only[r,pY,Instr.next,aZ,getObj,Sem.run,s,f,aY,bQ,u,v];have y:(#[none]:Array (Option MapEntry)).size=1:=rfl;rw[y,aj aA];simp only[aZ,j,aY];rfl
def ayw(h:SR P F J w){ty:TypeId}{it v:AV}{x:Value}(a:UY it J=some (v,J'))(i:VR F it x):
 ∃y w',(Instr.next x true ty).run P w=.ok y w'/\St P F J w F J' w'/\VR F v y:=by
 unfold UY at a;split at a
 ·next id=>
  split at a
  ·next s pos j=>
   split at a
   ·next m=>
    simp only[VR]at i;obtain⟨q,l,rfl⟩:=i;obtain⟨o,c,f,d⟩:=h.obj _ _ j rfl;rw[l]at c;cases c;have e:(getObj q.bl).run P w=.ok (.stringIter ⟨⟨s⟩⟩ pos) w:=by simp[getObj,Sem.run,f]
    rw[d];split at a
    ·next g=>
     cases a;refine⟨.tuple #[.bool true,.int .i64 pos,.int .i32 (Utf8.decode ⟨⟨s⟩⟩ pos).1],_,?_,St.write h j rfl m l F5 (λk n=>FZ n) rfl rfl rfl ⟨Ed (o':=.stringIter ⟨⟨s⟩⟩ (pos+(Utf8.decode ⟨⟨s⟩⟩ pos).2)) f,d⟩,?_⟩
     ·have b:pos<(⟨⟨s⟩⟩:ByteArray).size:=g;simp only[Instr.next,pY,aZ,e,aY,xF,b,if_true,Pm f aA,bQ,goInt]
     ·simp only[VR];exact⟨_,rfl,aG.cons (by simp[VR]) (aG.cons (by simp[VR]) (aG.cons (by simp[VR]) (by simp[aG])))⟩
    ·next g=>
     cases a;refine⟨.tuple #[.bool false],w,?_,St.refl h,by simp only[VR];exact⟨_,rfl,aG.cons (by simp[VR]) (by simp[aG])⟩⟩;have b:¬pos<(⟨⟨s⟩⟩:ByteArray).size:=g;simp only[Instr.next,pY,aZ,e,aY,xF,b,if_false,bQ]
   ·cases a
  ·cases a
 ·cases a
def al8{ts:Ww}{ty:TypeId}:(Builtin.unsafeSliceData_ ts ty #[.slice none 0 0]).run P w=.ok (.pointer none) w:=rfl
def al9{ts:Ww}{ty:TypeId}{a:Addr}{n c:Nat}(b:c≠0):(Builtin.unsafeSliceData_ ts ty #[.slice (some a) n c]).run P w=.ok (.pointer (some a)) w:=by
 show(if c≠0 then pure (.pointer (some a))else _:Sem Value).run P w=_
 rw[au b];rfl
def ad7{a it ty:TypeId}{p:XN}:(Builtin.unsafeString_ #[a,it] ty #[.pointer p,.int .i64 0]).run P w=.ok (.string ⟨⟨[]⟩⟩) w:=Lib.run_unsafeString_none w a it ty p
def liesAt_bytes{e:TypeId}(c:P.cellsOf e=1)(a off n:Nat)(d:off+n<=a):liesAt P P.depth e a off e n=true:=by have b:P.depth=(2*(P.types.size+Made.depth)+1)+1:=rfl;rw[b];simp only[liesAt,qF];left;rw[b];simp[rowAt,c,d,sameLayout,Nat.mod_one]
def aBK(i it ty e:TypeId)(p:P.underlying i=some (.pointer e))(o:P.cellsOf e=1)(g off cells:Nat)(k:w.shape? g=some (e,cells))(l:Q0)(h0:l≠[])(q:off+l.length<=cells)(r:l.length<=9223372036854775807)
 (a:∀(j:Nat) x,l[j]? =some x->w.cell? ((⟨g,off,none⟩:Addr).add j)=some (.int .u8 x.toNat)):
 (Builtin.unsafeString_ #[i,it] ty #[.pointer (some ⟨g,off,none⟩),.int .i64 l.length]).run P w=.ok (.string ⟨l.toArray⟩) (w.freeze ⟨g,off,none⟩ l.length):=by
 have t:l.length≠0:=by simpa using h0
 have m:=Lib.run_loadBytes (P:=P) w l ⟨g,off,none⟩ .empty a;have b:=liesAt_bytes (P:=P) o (cells/P.cellsOf e) off l.length (by rw[o];simpa using q);have c:¬(9223372036854775807:Int)<(l.length:Int):=ah
 have d:Builtin.unsafeString_ #[i,it] ty #[.pointer (some ⟨g,off,none⟩),.int .i64 l.length] =
  (do
   let n <-asInt (.int .i64 l.length)
   if n<0 then runtimePanic (.error "unsafe.String: len out of range")
   if n>IntKind.i64.max then unsupported (.unsafePointer "String: a length above the largest int")
   if n=0 then pure (.string .empty)
   else if <-variablesAt ⟨g,off,none⟩ (<-elemOf i) n.toNat then do
    let s <-loadBytes ⟨g,off,none⟩ .empty n.toNat
    freeze ⟨g,off,none⟩ n.toNat
    pure (.string s)
   else unsupported (.unsafePointer "String: not so many bytes at ptr")):=rfl
 rw[d];have f:IntKind.i64.max=9223372036854775807:=rfl;have h:¬(l.length:Int)<0:=ah;simp[asInt,asIntOf,f,c,h,t,variablesAt,k,elemOf,run_underlying p,b,m]
def aut{bl off n:Nat}{cs:QR}{elem:TypeId}{a:Nat×Nat}(h:w.heap[bl]? =some (.cells cs elem a))(b:n≠0):
 w.freeze ⟨bl,off,none⟩ n=pW w bl (.cells cs elem (if a.1==a.2 then(off,off+n)else(min a.1 off,max a.2 (off+n)))):=by
 unfold World.freeze pW;rw[aj b];congr 1;apply Uj;intro i;rw[MC,Es];by_cases e:bl=i
 ·subst e;have:bl<w.heap.size:=(tH.1 h).1;rw[au rfl,au rfl,au this,h];rfl
 ·rw[aj e,aj e]
def amR(h:SR P F J w){t it ty e:TypeId}{id off:Nat}{n:Int}{c r:Q3}{opn:Bool}{b:Q0}{q:Place}(D:P.underlying t=some (.pointer e))
 (s:J.get id=some (.cells c e true opn)) (E:e≠0) (G:P.cellsOf e=1) (h0:0<n) (H:n<2^62) (I:J.lock<=id) (u:takeN c off n.toNat=some r) (L:bytesOf r=some b) (v:F id=some q):
 ∃y w',(Builtin.unsafeString_ #[t,it] ty #[.pointer (some ⟨q.bl,q.ba+off,none⟩),.int .i64 n]).run P w=.ok y w'/\St P F J w F (J.put id (.cells c e false opn)) w'/\VR F (.s b) y:=by
 obtain⟨U,g,p,d,V,a,i⟩:=h.obj _ _ s rfl;rw[v]at g;cases g;obtain⟨w1,W,X⟩:=i.whole E;subst w1;have z:=i.Bf u;have l:=QC L z;obtain⟨hr1,M,N⟩:=vg u;have A:=i.fits;have O:=i.le;have m:b.length=n.toNat:=by have:=z.length;rw[l,gB]at this;omega
 have Q:((b.length:Nat):Int)=n:=ah;have f:=aBK (P:=P) (w:=w) t it ty d D G q.bl (q.ba+off) p.size (adD a) b (by intro R;subst R;simp at m;omega) ah ah (λj x S=>by
  rw[tX,QH a];have o:(List.take n.toNat (List.drop (q.ba+off) p.toList))[j]? =some (Value.int .u8 x.toNat):=by rw[l];simp[S]
  rw[oh]at o;split at o
  ·rw[uI,yw]at o;exact o
  ·cases o)
 rw[Q,aut a ah]at f;refine⟨_,_,f,St.write h s rfl I v F5 (λk T=>FZ T) rfl rfl rfl ?_,by simp[VR]⟩;exact⟨p,d,_,Ed a,{i with free:=by simp}⟩
