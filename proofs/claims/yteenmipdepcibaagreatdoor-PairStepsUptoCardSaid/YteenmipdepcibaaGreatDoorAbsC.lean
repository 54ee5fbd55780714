/- Slices that are made, appended to and copied into. -/
import Derived.Test.YteenmipdepcibaaGreatDoorAbsB
import Derived.Deep.AppendSrc
import Derived.Laws.IdiomCopy
import Derived.Lib.UnsafeStr
set_option linter.unusedSimpArgs false
set_option linter.unusedSectionVars false
set_option linter.unusedVariables false
namespace Go.aN
noncomputable section
variable[aH]
variable{P:Program}{F:Env}{J J':aA}{w:World}
theorem Lm{q:Place}{id len:Nat}{cap:QR}(h0:q.ba=0)(hc:len<=cap.getD (q.sz/q.es)):VR (F.put id q) (.sl id 0 len cap) (.slice (some ⟨q.bl,0,none⟩) len (cap.getD (q.sz/q.es))):=by simp only[VR];exact⟨q,by simp[Env.put],by simpa using hc,by simp[h0]⟩
theorem akL(h:SR P F J w){t e:TypeId}{size bytes len:Nat}{z:Q3}{ps:Wf}{qs:Array (Nat×Value)}{cs:Q3}(hi:vW P t=some (e,size,bytes,z))
 (hlen:¬len*size>2^24) (hf:zU (λi=>some (i*size,size)) (if len*size=0 then[]else jk len z) ps=some cs) (hp:BN F ps qs.toList):
 ∃y w' F',(Instr.buildSlice t len qs).run P w=.ok y w'/\St P F J w F' (J.new (.cells cs e true false)) w'/\VR F' (.sl J.next 0 len (some len)) y:=by
 obtain⟨hu,_,hz,he,hzl,hn⟩:=Ar hi;obtain⟨zv,oN,hzv⟩:=FK hz;by_cases h0:len*size=0
 ·simp only[h0,if_true]at hf;obtain⟨xs,OL,hxs⟩:=KF (cs:=#[]) hf hp (by simp[aC]);have hl:=hxs.length;refine⟨_,_,_,?_,Cm h (xs:=xs) (es:=0) (opn:=false) ?_ (by simpa using JO hl) (λ_=>by simpa using hl) (by simp),Lm (cap:=some len) rfl (by simp)⟩
  ·have hr0:Array.range 0 =#[]:=rfl;have hg:¬(0>2^24):=by omega
   simp only[Instr.buildSlice,aS,aX hu,aQ,iY hn,uG,h0,ah hg,if_true,bF,hr0,abR,OL,newRow,newObj,Sem.run];rfl
  ·rw[hl,yO];exact hxs
 ·simp only[h0,if_false]at hf;obtain⟨xs,OL,hxs⟩:=KF hf hp (Qq (hzv F) hzl);have hl:=hxs.length;refine⟨_,_,_,?_,Cm h (xs:=xs) (es:=0) (opn:=false) ?_ (by simpa using JO hl) (λ_=>by simpa using hl) (by simp),Lm (cap:=some len) rfl (by simp)⟩
  ·simp only[Instr.buildSlice,aS,aX hu,aQ,iY hn,uG,ah hlen,h0,if_false,oN,bF,OL,newRow,newObj,Sem.run];rfl
  ·rw[hl,yO];exact hxs
theorem adg(s:Q0):aC F (vT s) (s.map λb=>.int .u8 b.toNat):=by
 induction s with
 |nil=>simp[vT,aC]
 |cons c s ih=>exact aC.cons (by simp[VR]) ih
theorem Vy(h:SR P F J w){size n:Nat}{a:AV}{l:Q3}{x:Value}(hs:yE J size a=some (n,l))(hx:VR F a x):
 l.length=n*size/\(∀w':World,(Builtin.lenOf x).run P w'=.ok n w')/\∀k,k<=n->∃ys,(∀w':World,w'.heap=w.heap->(Builtin.firstCells size k x).run P w'=.ok ⟨ys⟩ w')/\aC F (l.take (k*size)) ys:=by
 unfold yE at hs;split at hs
 ·cases hs;simp only[VR]at hx;subst hx;refine⟨by simp,λ_=>rfl,λk hk=>⟨[],λ_ _=>?_,by simp[aC]⟩⟩;simp[Builtin.firstCells]
 ·next id off len cap=>
  simp only[VR]at hx;obtain⟨q,hq,_,rfl⟩:=hx;split at hs
  ·next c et rw opn hg=>
   simp only[aZ]at hs;obtain⟨r,hr,e⟩:=hs;cases e;obtain⟨q',hq',cs,elem,fr,hb,rr⟩:=h.obj _ _ hg rfl;rw[hq]at hq';cases hq';have hfull:=rr.yF hr;obtain⟨hr1,hr2,hr3⟩:=qV hr;refine⟨hr2,λ_=>rfl,λk hk=>⟨((cs.toList.drop (q.ba+off)).take (n*size)).take (k*size),λw' hw=>?_,hfull.take _⟩⟩;have hks:k*size<=n*size:=rF _ hk;rw[acs,JQ hks];have hfit:=rr.fits;have hle:=rr.le;simp only[Builtin.firstCells];exact Dy (by rw[hw];exact hb) (by omega)
  ·cases hs
 ·next s=>
  split at hs
  ·next e1=>
   cases hs;simp only[VR]at hx;subst hx;refine⟨by simp[vT,e1],λ_=>rfl,λk hk=>⟨(s.take k).map λb=>.int .u8 b.toNat,λ_ _=>?_,?_⟩⟩
   ·simp only[Builtin.firstCells,aiZ,bF];simp
   ·rw[e1,Nat.mul_one];have:=adg (F:=F) (s.take k);simpa[vT,acj]using this
  ·cases hs
 ·next es=>
  split at hs
  ·next hall=>
   cases hs;simp only[VR]at hx;rcases hx with⟨rfl,pa,rfl⟩|⟨bl,off,c,xs,sz,rfl,hc,h1,h2,h3⟩
   ·refine⟨by simp,λ_=>by cases pa<;>rfl,λk hk=>⟨[],λ_ _=>?_,by simp[aC]⟩⟩;have hk0:k=0:=by simpa using hk
    subst hk0;cases pa<;>simp[Builtin.firstCells,loadCells,loadCellsFrom]
   have hsz:=akm h1 hall;have hfl:=aeV h1;have hlen:=ED hsz;have hl1:=h1.length;have hl2:=hfl.length;refine⟨by rw[hl2,hlen,hl1],λ_=>rfl,λk hk=>⟨(bY xs).take (k*size),λw' hw=>?_,hfl.take _⟩⟩;simp only[Builtin.firstCells];by_cases hn:es=[]
   ·subst hn;simp at hl1;have:xs=[]:=jw hl1.symm;subst this;simp at hk;subst hk;simp[loadCells,loadCellsFrom,bY]
   ·obtain⟨cs,elem,fr,h4,h5,h6⟩:=h3 hn;have hks:k*size<=xs.length*size:=rF _ (by omega);rw[Dy (by rw[hw];exact h.iT _ _ h4) (by omega)];congr 2;apply JG;intro j;rw[kS,kS];split
    ·next hj=>
     have hlt:j<(bY xs).length:=by omega
     rw[ru,bK hlt,vC];exact h6 j _ (bK hlt)
    ·rfl
  ·cases hs
 ·cases hs
theorem aBj(zero:QQ)(n:Nat):(Builtin.zeroCells zero n).size=n*zero.size:=by simp[Builtin.zeroCells]
theorem asv{t:TypeId}(h:EX P t=true):(∃e',P.underlying t=some (.slice e'))\/P.underlying t=some .string:=by
 unfold EX at h;split at h
 ·next e hu=>exact .inl ⟨e,hu⟩
 ·next hu=>exact .inr hu
 ·cases h
theorem Pn(v:Value):v.oneCell'=nZ v:=by cases v<;>rfl
theorem Rf{l:Q3}{xs:Q6}(hv:aC F l xs)(hone:l.all AV.nH=true):∀x∈xs,nZ x=true:=by
 intro x hx;have hlen:=hv.length;obtain⟨k,hk⟩:=WR.1 hx;have hlt:k<l.length:=by have:=(eU.1 hk).1;omega
 obtain⟨y,hy,uQ⟩:=hv.at (bK hlt);rw[hk]at hy;cases hy;exact ZO uQ (List.all_eq_true.1 hone _ (gK hlt))
theorem src_ok(h:SR P F J w){size n:Nat}{a:AV}{l:Q3}{x:Value}{t1:TypeId}(ht:EX P t1=true)(hs:yE J size a=some (n,l))(hx:VR F a x)(hone:l.all AV.nH=true):
 ∃ys,Src P size t1 x n ys w/\aC F l ys:=by
 obtain⟨h1,h2,h3⟩:=Vy h hs hx;obtain⟨ys,h4,h5⟩:=h3 n (bV _);have hl:l.take (n*size)=l:=jZ (by omega);rw[hl]at h5;have hlen:=h5.length;exact⟨ys,⟨asv ht,h2,h4 w rfl,h4 w.drew rfl,by rw[<-hlen,h1],λu hu=>by rw[Pn];exact Rf h5 hone u hu⟩,h5⟩
theorem setCells_nil(w:World)(b o:Nat):w.setCells b o []=w:=rfl
theorem aBk{e:TypeId}{z:Q3}(h:yH P e=some z):∃i zv,P.info? e=some i/\i.zero=some zv/\∀F:Env,aC F z zv.cells.toList:=by
 unfold yH at h;split at h
 ·next i hi=>
  split at h
  ·next zv hz=>
   simp only[aZ]at h;obtain⟨a,ha,rfl⟩:=h;exact⟨i,zv,hi,hz,λF=>yX (Dq _ _ _ ha)⟩
  ·cases h
 ·cases h
theorem YC(h:SR P F J w){t t1 ty e:TypeId}{size bytes n sLen sCap:Nat}{z new old:Q3}{ys os:Q6}{base:Wz}{x:Value}
 (hi:vW P t=some (e,size,bytes,z)) (hsrc:Src P size t1 x n ys w) (hys:aC F new ys) (hold:(Builtin.firstCells size sLen (.slice base sLen sCap)).run P w.drew=.ok ⟨os⟩ w.drew) (hos:aC F old os)
 (hol:old.length=sLen*size) (hnl:new.length=n*size) (hs0:size≠0) (hg:sCap<sLen+n) (hb1:(2*(sLen+n)+2000)*bytes<=2^48\/(2*(sLen+n))*bytes<=2^48) (hb2:sLen+n<=2^48):
 ∃y w' F',(Builtin.append_ #[t,t1] ty #[.slice base sLen sCap,x]).run P w=.ok y w'/\St P F J w F' (J.new (.cells (old++new) e true true)) w'/\VR F' (.sl J.next 0 (sLen+n) none) y:=by
 obtain⟨hu,⟨i,pJ,hsz,hby⟩,hz,he,hzl,hn⟩:=Ar hi;obtain⟨i',zv,afD,hzv,oN⟩:=aBk hz;rw[pJ]at afD;cases afD;subst hsz;subst hby
 have hcap:=grownCap_ge w (sLen+n) sCap e;have hfit:Builtin.nextslicecap (sLen+n) sCap*i.bytes<=281474976710656:=by
  have h1:=nextslicecap_le hg;have h2:Builtin.nextslicecap (sLen+n) sCap*i.bytes<=(2*(sLen+n))*i.bytes:=rF _ h1;rcases hb1 with h3|h3
  ·have:(2*(sLen+n))*i.bytes<=(2*(sLen+n)+2000)*i.bytes:=rF _ (by omega);omega
  ·omega
 have hrun:=run_append_grow_src w t t1 ty e i zv hu pJ hzv base sLen sCap os hold x n ys hsrc hg (by omega) hfit;have hzs:zv.cells.size=i.size:=by have:=(oN F).length;simp only[Jy]at this;omega
 have hst:=Cm h.drew (c:=old++new) (xs:=(os++ys).toArray++Builtin.zeroCells zv.cells (grownCap w (sLen+n) sCap e-(sLen+n))) (elem:=e) (opn:=true) (es:=i.size) ?_ ?_ (by simp) (λ_=>⟨he,by omega,hn⟩)
 ·have hsz:((os++ys).toArray++Builtin.zeroCells zv.cells (grownCap w (sLen+n) sCap e-(sLen+n))).size=grownCap w (sLen+n) sCap e*i.size:=by have h1:=hos.length;have h2:=hys.length;simp only[Array.size_append,aBj,List.size_toArray,fU,hzs];rw[<-h1,<-h2,hol,hnl,<-qM,<-qM];congr 1;omega
  refine⟨_,_,_,hrun,(St.drew h).trans hst,?_⟩;rw[hsz];have hdiv:grownCap w (sLen+n) sCap e*i.size/i.size=grownCap w (sLen+n) sCap e:=QE _ (by omega);have:=Lm (q:=⟨w.heap.size,0,grownCap w (sLen+n) sCap e*i.size,i.size⟩) (F:=F) (id:=J.next) (len:=sLen+n) (cap:=none) rfl (by simp only[uD,hdiv];exact hcap);simp only[uD,hdiv]at this;exact this
 ·have h3:=hos.append hys;have h4:=h3.length;rw[Array.toList_append,QA (by simp only[List.toList_toArray];omega),jZ (by simp only[List.toList_toArray];omega)];simpa using h3
 ·have h3:=(hos.append hys).length;simp only[Array.size_append,List.size_toArray];omega
theorem Rj{α:Type}{ts:Array α}{a b:α}(h:ts.toList=[a,b]):ts =#[a,b]:=by cases ts;simp at h;subst h;rfl
theorem aiX{bl off:Nat}{xs:Q6}{w':World}{cs:QQ}{elem:TypeId}{fr:Nat×Nat}(hb:w.heap[bl]? =some (.cells cs elem fr))(hfit:off+xs.length<=cs.size)
 (hfr:∀k,off<=k->k<off+xs.length->¬(fr.1<=k/\k<fr.2)) (hone:∀x∈xs,nZ x=true) (h:(storeCells ⟨bl,off,none⟩ xs).run P w=.ok () w'):
 (∀j,j<xs.length->(w.cell? ⟨bl,off+j,none⟩).isSome=true)/\(∀j,j<xs.length->w.frozen? ⟨bl,off+j,none⟩=false)/\w.setCells bl off xs=w':=by
 have h1:∀j,j<xs.length->(w.cell? ⟨bl,off+j,none⟩).isSome=true:=λj hj=>by
  rw[Oc hb];have:off+j<cs.size:=by omega
  simp[this]
 have h2:∀j,j<xs.length->w.frozen? ⟨bl,off+j,none⟩=false:=λj hj=>by rw[ae2 hb];have:=hfr (off+j) (by omega) (by omega);simpa using this
 refine⟨h1,h2,?_⟩;have h3:=run_storeCells_cells (P:=P) bl off xs 0 w (by simpa using h1) (by simpa using h2) (λv hv=>by rw[Pn];exact hone v hv);rw[h]at h3;simp only[nC,Result.ok.injEq]at h3;exact h3.2.symm
theorem acW{t t1 ty e:TypeId}{size:Nat}{x:Value}{p:Wz}(hu:P.underlying t=some (.slice e))(hn:sizeT P e=some size)(hsrc:Src P size t1 x 0 [] w):
 (Builtin.append_ #[t,t1] ty #[.slice p 0 0,x]).run P w=.ok (.slice p 0 0) w:=by
 have hc:=hsrc.cells;cases p<;>rcases hsrc.kind with⟨e',hk⟩|hk<;>simp[Builtin.append_,aX hu,aX hk,iY hn,hsrc.len,hc,storeCells]
set_option maxHeartbeats 1000000 in
theorem BX(h:SR P F J w){t t1 e size bytes:Nat}{z:Q3}{ty:TypeId}{s v:AV}{u u':Value}{n:Nat}{new:Q3}{ys:Q6}(hi:vW P t=some (e,size,bytes,z))(hS:Src P size t1 u' n ys w)(hys:aC F new ys)(hnl:new.length=n*size)
 (hs:pz e size bytes s n new J=some (v,J')) (hu:VR F s u):
 ∃y w' F',(Builtin.append_ #[t,t1] ty #[u,u']).run P w=.ok y w'/\St P F J w F' J' w'/\VR F' v y:=by
 unfold pz at hs;split at hs
 ·cases hs
 ·next hc=>
  simp only[not_or,Decidable.not_not,Bool.not_eq_false]at hc;obtain⟨h0,hone,hb1,hb2⟩:=hc;obtain⟨hut,⟨i,pJ,hsz,hby⟩,hz,he,hzl,hn⟩:=Ar hi;have hyl:=hys.length;split at hs
  ·
    simp only[VR]at hu;subst hu;simp only[sliceLen]at hb1 hb2;split at hs
    ·next hn0=>
     cases hs;subst hn0;have:ys=[]:=by apply jw;omega
     subst this;exact⟨_,w,F,acW hut hn hS,St.refl h,by simp[VR]⟩
    ·next hn0=>
     cases hs;have:=YC (ty:=ty) (old:=[]) (os:=[]) (sLen:=0) (sCap:=0) (base:=none) h hi hS hys (by simp[Builtin.firstCells]) (by simp[aC]) (by simp) hnl h0 (by omega) (.inr (by simpa using hb1)) (by omega);simpa using this
  ·
    next id off len cap=>
    simp only[VR]at hu;obtain⟨q,hq,hle,rfl⟩:=hu;simp only[qN]at hle⊢;simp only[sliceLen]at hb1 hb2;split at hs
    ·next hroom=>
     split at hs
     ·next hn0=>
      cases hs;subst hn0;have:ys=[]:=by apply jw;omega
      subst this;subst hsz;have:=run_append_room_src w t t1 ty e i hut pJ q.bl (q.ba+off) len cap u' 0 [] hS hroom (by simp) (by simp);exact⟨_,w,F,by simpa[setCells_nil]using this,St.refl h,by simp only[VR];exact⟨q,hq,by simpa using hle,rfl⟩⟩
     ·split at hs
      ·next c et opn hg=>
       split at hs
       ·next hl=>
        simp only[aZ]at hs;obtain⟨c',hr,e1⟩:=hs;cases e1;obtain⟨w',hrun,hst⟩:=Wq h hg hl hq hr hys hone;obtain⟨q',hq',cs,elem,fr,hb,rr⟩:=h.obj _ _ hg rfl;rw[hq]at hq';cases hq';obtain⟨h5,_,_⟩:=Vq hr;have hfit:=rr.fits;have hle2:=rr.le;obtain⟨h6,h7,h8⟩:=aiX (bl:=q.bl) (off:=q.ba+(off+len*size)) hb (by omega) (λk a b=>by have:=rr.free rfl (k-q.ba) (by omega);rw[QC (by omega)]at this;exact this) (Rf hys hone) hrun
        subst hsz;have:=run_append_room_src w t t1 ty e i hut pJ q.bl (q.ba+off) len cap u' n ys hS hroom (by simpa[jL]using h6) (by simpa[jL]using h7);rw[jL,h8]at this;exact⟨_,w',F,this,hst,by simp only[VR];exact⟨q,hq,by simpa using hroom,rfl⟩⟩
       ·cases hs
      ·cases hs
    ·next hroom=>
     split at hs
     ·next c et rw opn hg=>
      simp only[aZ]at hs;obtain⟨old,ho,e1⟩:=hs;cases e1;obtain⟨q',hq',cs,elem,fr,hb,rr⟩:=h.obj _ _ hg rfl;rw[hq]at hq';cases hq';have hov:=rr.yF ho;have hol:=(qV ho).2.1;exact YC (ty:=ty) h hi hS hys (by simp only[Builtin.firstCells];exact Dy hb (rr.take ho)) hov hol hnl h0 (by omega) (.inr hb1) hb2
     ·cases hs
  ·
    next id off len=>
    simp only[VR]at hu;obtain⟨q,hq,hle,rfl⟩:=hu;simp only[uD]at hle⊢;simp only[sliceLen]at hb1 hb2;split at hs
    ·next hn0=>
     cases hs;subst hn0;have:ys=[]:=by apply jw;omega
     subst this;subst hsz;have:=run_append_room_src w t t1 ty e i hut pJ q.bl (q.ba+off) len ((q.sz-off)/q.es) u' 0 [] hS (by simpa using hle) (by simp) (by simp);exact⟨_,w,F,by simpa[setCells_nil]using this,St.refl h,by simp only[VR];exact⟨q,hq,by simpa using hle,rfl⟩⟩
    ·next hn0=>
     split at hs
     ·next hl=>
      split at hs
      ·next c et hg=>
       split at hs
       ·next het=>
        simp only[aZ]at hs;obtain⟨old,ho,e1⟩:=hs;cases e1;subst het;obtain⟨q',hq',cs,elem,fr,hb,rr⟩:=h.obj _ _ hg rfl;rw[hq]at hq';cases hq';obtain⟨_,hes,hsz2⟩:=rr.room rfl;rw[hn]at hsz2;cases hsz2;have hov:=rr.yF ho;obtain⟨ho1,hol,ho3⟩:=qV ho;have hfit:=rr.fits;have hle2:=rr.le;by_cases hroom:len+n<=(q.sz-off)/q.es
        ·
          have hcap:(len+n)*q.es<=q.sz-off:=jD (rF _ hroom) (Nat.div_mul_le_self _ _);have aCS:0<n*q.es:=Nw (by omega) hes;rw[qM]at hcap;have hrun:=aa0 (P:=P) ys w q.bl (q.ba+(off+len*q.es)) 0 cs elem fr hb (by omega) (Rf hys hone) (λk a b=>by have:=rr.free rfl (k-q.ba) (by omega);rw[QC (by omega)]at this;exact this)
          obtain⟨h6,h7,h8⟩:=aiX (bl:=q.bl) (off:=q.ba+(off+len*q.es)) hb (by omega) (λk a b=>by have:=rr.free rfl (k-q.ba) (by omega);rw[QC (by omega)]at this;exact this) (Rf hys hone) hrun
          have hr:=run_append_room_src w t t1 ty _ i hut pJ q.bl (q.ba+off) len ((q.sz-off)/q.es) u' n ys (by rw[hsz];exact hS) hroom (by rw[hsz];simpa[jL]using h6) (by rw[hsz];simpa[jL]using h7);rw[hsz,jL,h8]at hr;refine⟨_,_,_,hr,St.again (q':=⟨q.bl,q.ba+off,q.sz-off,q.es⟩) h hg rfl hl hq rfl DC (λk hk=>Dz hk) rfl rfl rfl ?_,?_⟩
          ·refine⟨_,elem,fr,Bj hb,?_⟩;have hmono:=Env.FD h ⟨q.bl,q.ba+off,q.sz-off,q.es⟩;refine {fits:=by rw[Me];show q.ba+off+(q.sz-off)<=cs.size;omega,le:=by show(old++new).length<=q.sz-off;rw[fU,hol,hnl];omega,shut:=by simp,cell:=?_,free:=?_,whole:=?_,room:=λ_=>⟨he,hes,hn⟩}
           ·intro k a hk;show ∃x,(setFrom cs (q.ba+(off+len*q.es)+0) ys)[q.ba+off+k]? =some x/\_
            rw[nC,Vp _ _ _ _ (by omega)];by_cases hlt:k<len*q.es
            ·rw[mP (by omega)]at hk;obtain⟨x1,hx1,hv1⟩:=rr.cell _ _ (aja ho hk);rw[ah (by omega)];exact⟨x1,by rw[<-hx1];congr 1;omega,VR.mono hmono _ _ hv1⟩
            ·rw[vF (by omega)]at hk;obtain⟨x1,hx1,hv1⟩:=hys.at hk;have hkl:k-old.length<new.length:=(eU.1 hk).1;rw[aj (by omega)];exact⟨x1,by rw[<-hx1];congr 1;omega,VR.mono hmono _ _ hv1⟩
           ·intro _ k hk;have hk':k<q.sz-off:=hk;have:=rr.free rfl (off+k) (by omega);show ¬(fr.1<=q.ba+off+k/\q.ba+off+k<fr.2)
            rw[jL];exact this
           ·intro e1;obtain⟨w1,w2,_⟩:=rr.whole e1;exact⟨w1,by rw[Me];show q.ba+off+(q.sz-off)=cs.size;omega,by simp⟩
          ·simp only[VR];exact⟨⟨q.bl,q.ba+off,q.sz-off,q.es⟩,by simp[Env.put],by simpa using hroom,by simp⟩
        ·
          obtain⟨y,w',F',hr,hst,hv⟩:=YC (ty:=ty) (base:=some ⟨q.bl,q.ba+off,none⟩) (sLen:=len) (sCap:=(q.sz-off)/q.es) h hi hS hys (by simp only[Builtin.firstCells];exact Dy (w:=w.drew) hb (rr.take ho)) hov hol hnl h0 (by omega) (.inr hb1) hb2;refine⟨y,w',F',hr,hst.sub ?_ (bV _) rfl,hv⟩;intro id' o' hid;rw[aA.oK]at hid⊢;split at hid
          ·next e1=>rw[aj (show id'=J.next from e1)];exact hid
          ·next e1=>
           rw[aA.yh]at hid;rw[ah (show ¬id'=J.next from e1)];split at hid
           ·cases hid
           ·exact hid
       ·cases hs
      ·cases hs
     ·cases hs
  ·
    next es=>
    split at hs
    ·next hn0=>
     cases hs;subst hn0;have hu0:=hu;simp only[VR]at hu;have:ys=[]:=by apply jw;omega
     subst this;rcases hu with⟨rfl,pa,rfl⟩|⟨bl,off,c,xs,sz,rfl,hc,_⟩
     ·exact⟨_,w,F,acW (p:=pa) hut hn hS,St.refl h,by simpa using hu0⟩
     subst hsz;have:=run_append_room_src w t t1 ty e i hut pJ bl off es.length c u' 0 [] hS (by simpa using hc) (by simp) (by simp);exact⟨_,w,F,by simpa[setCells_nil]using this,St.refl h,by simpa using hu0⟩
    ·cases hs
  ·cases hs
theorem akt(h:SR P F J w){ts:Wm}{ty:TypeId}{s x v:AV}{u u':Value}(hs:Xb P ts s x J=some (v,J'))(hu:VR F s u)(hx:VR F x u'):
 ∃y w' F',(Builtin.append_ ts ty #[u,u']).run P w=.ok y w'/\St P F J w F' J' w'/\VR F' v y:=by
 unfold Xb at hs;split at hs
 ·next t t1 hts=>
  have:=Rj hts;subst this;split at hs
  ·next e size bytes z hi arX=>
   split at hs
   ·next n new hsrc=>
    have hone:new.all AV.nH=true:=by
     unfold pz at hs;split at hs
     ·cases hs
     ·next hc=>
      simp only[not_or,Decidable.not_not,Bool.not_eq_false]at hc;exact hc.2.1
    obtain⟨ys,hS,hys⟩:=src_ok h arX hsrc hx hone;obtain⟨hnl,_,_⟩:=Vy h hsrc hx;exact BX h hi hS hys hnl hs hu
   ·cases hs
  ·cases hs
 ·cases hs
theorem Wp{n:Int}(h0:0<=n)(h:n<=2^60):IntKind.i64.wrap n=n:=Go.IntWalk.i64_in _ (by omega)
theorem ati(h:SR P F J w){t:TypeId}{l c v:AV}{x y:Value}(hs:QU P t l c J=some (v,J'))(hx:VR F l x)(hy:VR F c y):
 ∃z w' F',(Instr.makeSlice t x y).run P w=.ok z w'/\St P F J w F' J' w'/\VR F' v z:=by
 unfold QU at hs;split at hs
 ·next e size bytes z l' c' hi hl hc=>
  split at hs
  ·next hb=>
   obtain⟨b1,b2,b3,b4⟩:=hb;cases hs;obtain⟨kd,rfl⟩:=yS hl hx;obtain⟨kd',rfl⟩:=yS hc hy;obtain⟨hu,⟨i,pJ,hsz,hby⟩,hz,he,hzl,hn⟩:=Ar hi;obtain⟨zv,oN,hzv⟩:=FK hz;have wl:=Wp b1 (by omega:l'<=2^60);have wc:=Wp (by omega:0<=c') b4;subst hby
   have hroom:∀w:World,(askRoom (c'.toNat*i.bytes)).run P w=.ok () w:=λw=>by unfold askRoom;split<;>simp[mark,Sem.run]
   have t1:(decide (c'<0) ||decide ((i.bytes:Int)*c'>2^48))=false:=by simp;omega
   have hc0:((c'.toNat:Nat):Int)=c':=by omega
   by_cases h0:c'.toNat*size=0
   ·have hcells:(if size=0 then[]else jk c'.toNat z)=[]:=by
     split
     ·rfl
     ·next hne=>
      have:c'.toNat=0:=by rcases Nat.mul_eq_zero.1 h0 with e|e;exact e;exact absurd e hne
      rw[this];rfl
    rw[hcells];refine⟨_,_,_,?_,Cm h (c:=[]) (xs:=#[]) (elem:=e) (es:=0) (opn:=false) (by simp[aC]) (by simp) (by simp) (by simp),Lm (len:=l'.toNat) (cap:=some c'.toNat) rfl (by simp;omega)⟩;have hr0:Array.range 0 =#[]:=rfl;simp only[Instr.makeSlice,aS,aX hu,aQ,asInt,asIntOf,bF,FI pJ,wl,wc,t1,zJ,uG,hroom,iY hn,h0,if_true,newRow,newObj,Sem.run,hr0,abR];have t2:(decide (l'<0) ||decide (l'>c'))=false:=by simp;omega
    simp only[t2,iO,if_false];rfl
   ·have hcells:(if size=0 then[]else jk c'.toNat z)=jk c'.toNat z:=by rw[ah];rintro rfl;simp at h0
    rw[hcells];have hV:=Qq (n:=c'.toNat) (hzv F) hzl;have hlen:=hV.length;refine⟨_,_,_,?_,Cm h (c:=jk c'.toNat z) (xs:=(Array.range (c'.toNat*size)).map (zv.cells[· % zv.cells.size]!)) (elem:=e) (es:=0) (opn:=false) (by rw[hlen,yO];exact hV) (by simpa using JO hlen) (λ_=>by simpa using hlen) (by simp),Lm (len:=l'.toNat) (cap:=some c'.toNat) rfl (by simp;omega)⟩;simp only[Instr.makeSlice,aS,aX hu,aQ,asInt,asIntOf,bF,FI pJ,wl,wc,t1,zJ,uG,hroom,iY hn,h0,if_false,oN,newRow,newObj,Sem.run];have t2:(decide (l'<0) ||decide (l'>c'))=false:=by simp;omega
    simp only[t2,iO,if_false];rfl
  ·cases hs
 ·cases hs
theorem atj{t e:TypeId}{size bytes:Nat}{z:Q3}{kd kd':IntKind}{l' c':Int}(hi:vW P t=some (e,size,bytes,z))(h0:size≠0)(b1:0<=l')(b2:l'<=c')(b3:bytes*c'<=2^48)(b4:c'<=2^60):
 ∃xs:QQ,(Instr.makeSlice t (.int kd l') (.int kd' c')).run P w=.ok (.slice (some ⟨w.heap.size,0,none⟩) l'.toNat c'.toNat) {w with heap:=w.heap.push (.cells xs e)}/\xs.size=c'.toNat*size/\aC F (jk c'.toNat z) xs.toList:=by
 obtain⟨hu,⟨i,pJ,hsz,hby⟩,hz,he,hzl,hn⟩:=Ar hi;obtain⟨zv,oN,hzv⟩:=FK hz;have wl:=Wp b1 (by omega:l'<=2^60);have wc:=Wp (by omega:0<=c') b4;subst hby
 have hroom:∀w:World,(askRoom (c'.toNat*i.bytes)).run P w=.ok () w:=λw=>by unfold askRoom;split<;>simp[mark,Sem.run]
 have t1:(decide (c'<0) ||decide ((i.bytes:Int)*c'>2^48))=false:=by simp;omega
 have hc0:((c'.toNat:Nat):Int)=c':=by omega
 have t2:(decide (l'<0) ||decide (l'>c'))=false:=by simp;omega
 by_cases h1:c'.toNat*size=0
 ·have hcz:c'.toNat=0:=by rcases Nat.mul_eq_zero.1 h1 with e|e;exact e;exact absurd e h0
  refine⟨#[],?_,by simp[h1],by rw[hcz];simp[jk,aC]⟩;have hr0:Array.range 0 =#[]:=rfl;simp only[Instr.makeSlice,aS,aX hu,aQ,asInt,asIntOf,bF,FI pJ,wl,wc,t1,zJ,uG,hroom,iY hn,h1,if_true,newRow,newObj,Sem.run,hr0,abR];simp only[t2,iO,if_false]
 ·refine⟨(Array.range (c'.toNat*size)).map (zv.cells[· % zv.cells.size]!),?_,by simp,Qq (hzv F) hzl⟩;simp only[Instr.makeSlice,aS,aX hu,aQ,asInt,asIntOf,bF,FI pJ,wl,wc,t1,zJ,uG,hroom,iY hn,h1,if_false,oN,newRow,newObj,Sem.run];simp only[t2,iO,if_false]
theorem aC.akk{l:Q3}(n:Nat)(h:l.all AV.nH=true):(l.take n).all AV.nH=true:=by rw[List.all_eq_true]at h⊢;exact λx hx=>h x (JK hx)
theorem alX(h:SR P F J w){ts:Wm}{ty:TypeId}{d x v:AV}{u u':Value}(hs:Xd P ts d x J=some (v,J'))(hu:VR F d u)(hx:VR F x u'):
 ∃y w' F',(Builtin.copy_ ts ty #[u,u']).run P w=.ok y w'/\St P F J w F' J' w'/\VR F' v y:=by
 unfold Xd at hs;split at hs
 ·next t ht=>
  split at hs
  ·next e size bytes z id off dLen cap hi=>
   obtain⟨hut,_,_,_,_,hn⟩:=Ar hi;simp only[VR]at hu;obtain⟨q,hq,hle,rfl⟩:=hu;split at hs
   ·next n new c et opn hsrc hg=>
    split at hs
    ·cases hs
    ·next h0=>
     split at hs
     ·next hc=>
      obtain⟨hl,hone⟩:=hc;simp only[aZ]at hs;obtain⟨c',hr,e1⟩:=hs;cases e1;obtain⟨h1,h2,h3⟩:=Vy h hsrc hx;obtain⟨ys,h4,h5⟩:=h3 (Nat.min n dLen) (Nat.min_le_left _ _);obtain⟨w',hrun,hst⟩:=Wq h hg hl hq hr h5 (aC.akk _ hone);refine⟨.int .i64 (Nat.min n dLen:Nat),w',F,?_,hst,by simp[VR]⟩;simp only[Builtin.copy_,ht,vC,Ec,jS,uw,aS,aX hut,aQ,h2,iY hn,h4 w rfl,hrun,bF,goInt]
     ·cases hs
   ·cases hs
  ·next e size bytes z hi=>
   obtain⟨hut,_,_,_,_,hn⟩:=Ar hi;split at hs
   ·next p hsrc=>
    obtain⟨n,new⟩:=p;cases hs;simp only[VR]at hu;subst hu;obtain⟨h1,h2,h3⟩:=Vy h hsrc hx;obtain⟨ys,h4,h5⟩:=h3 0 (ql _);refine⟨.int .i64 0,w,F,?_,St.refl h,by simp[VR]⟩;have hmin:Nat.min n 0=0:=Nat.min_zero _;simp only[Builtin.copy_,ht,vC,Ec,jS,uw,aS,aX hut,aQ,h2,iY hn,hmin,h4 w rfl,bF,goInt];rfl
   ·cases hs
  ·cases hs
 ·cases hs
theorem N8:∀{l:Q3}{b:Q0}{xs:Q6},bytesOf l=some b->aC F l xs->xs=b.map λc=>Value.int .u8 c.toNat
 |[],b,xs,h,hx=>by simp[bytesOf]at h;subst h;simpa[aC]using hx
 |a::l,b,xs,h,hx=>by
  simp only[aC]at hx;obtain⟨x,rest,rfl,h1,h2⟩:=hx;unfold bytesOf at h;split at h
  ·next heq=>cases heq
  ·next n rest' heq=>
   cases heq;split at h
   ·next hb=>
    simp only[aZ]at h;obtain⟨b',hb',rfl⟩:=h;simp only[VR]at h1;subst h1;rw[N8 hb' h2];simp only[iD,yL,and_true,Value.int.injEq,true_and];have:(UInt8.ofNat n.toNat).toNat=n.toNat:=by simp;omega
    rw[this];omega
   ·cases h
  ·cases h
theorem aaZ(f:Value->ByteArray->Sem (ForInStep ByteArray))(hf:∀n r w,(f (.int .u8 n) r).run P w=.ok (.yield (r.push (UInt8.ofNat n.toNat))) w)(b:Q0)(acc:ByteArray):
 (forIn (⟨b.map λc=>Value.int .u8 c.toNat⟩:QQ) acc f).run P w=.ok ⟨⟨acc.data.toList++b⟩⟩ w:=by
 rw[<-Array.forIn_toList];simp only;induction b generalizing acc with
 |nil=>simp
 |cons c b ih=>simp only[iD,List.forIn_cons,aS,hf,aQ];rw[ih];congr 1;simp
theorem aa5{bl:Nat}{cs:QQ}{elem:TypeId}{fr:Nat×Nat}(h:w.heap[bl]? =some (.cells cs elem fr)):w.shape? bl=some (elem,cs.size):=by simp[World.shape?,h]
theorem aAm(h:SR P F J w){e:TypeId}{s:Q0}(he:e≠0)(hn:sizeT P e=some 1):
 ∃y w' F',(Conv.stringToBytes e ⟨⟨s⟩⟩).run P w=.ok y w'/\St P F J w F' (J.new (.cells (vT s) e true true)) w'/\VR F' (.sl J.next 0 s.length none) y:=by
 have hge:=grownCap_ge w s.length 0 e;generalize hcap:grownCap w s.length 0 e=cap at hge;let xs:QQ:=(s.map λb=>Value.int .u8 b.toNat).toArray++Array.replicate (cap-s.length) (.int .u8 0)
 have hsz:xs.size=cap:=by simp[xs];omega
 have hpush:∀(o:Obj)(f:Obj->Obj),(w.heap.push o).modify w.heap.size f=w.heap.push (f o):=by
  intro o f;apply Qr;intro i;rw[Jw,Nk,Nk];by_cases e1:w.heap.size=i
  ·subst e1;simp
  ·rw[ah e1];by_cases e2:i=w.heap.size
   ·exact absurd e2.symm e1
   ·rw[ah e2,ah e2]
 have hst:St P F J w.drew (F.put J.next ⟨w.heap.size,0,cap,1⟩) (J.new (.cells (vT s) e true true)) {w.drew with heap:=w.heap.push (.cells xs e (cap,cap+1))}:=by
  refine St.alloc (w:=w.drew) h.drew _ _ _ rfl ?_;refine⟨xs,e,(cap,cap+1),by show(w.heap.push _)[w.heap.size]? =_;simp,?_⟩;refine {fits:=by simp[hsz],le:=by simpa[vT]using hge,shut:=by simp,cell:=?_,free:=λ_ k hk=>?_,whole:=λ_=>⟨rfl,by simp[hsz],λ_=>rfl⟩,room:=λ_=>⟨he,Nat.one_pos,hn⟩}
  ·intro k a hk;obtain⟨x,hx,hv⟩:=(adg (F:=F.put J.next ⟨w.heap.size,0,cap,1⟩) s).at hk;refine⟨x,?_,hv⟩;have hkl:=(eU.1 hx).1;simp only[kH,xs];rw[Wv (by simpa using hkl)];simpa using hx
  ·have hk':k<cap:=hk;show ¬(cap<=0+k/\0+k<cap+1)
   omega
 refine⟨.slice (some ⟨w.heap.size,0,none⟩) s.length cap,_,_,?_,(St.drew h).trans hst,?_⟩
 ·have hsh:({w.drew with heap:=w.heap.push (.cells xs e)}:World).shape? w.heap.size=some (e,cap):=by simp[World.shape?,hsz]
  have hfz:({w.drew with heap:=w.heap.push (.cells xs e)}:World).freeze {block:=w.heap.size,off:=cap} 1 ={w.drew with heap:=w.heap.push (.cells xs e (cap,cap+1))}:=by unfold World.freeze;rw[ah (by omega),hpush];rfl
  have hch:(choose (.appendCap (⟨⟨s⟩⟩:ByteArray).size 0 e)).run P w=.ok cap w.drew:=by have:(⟨⟨s⟩⟩:ByteArray).size=s.length:=rfl;rw[this];simp only[choose,Sem.run,Question.forced,iO,if_false];rw[<-hcap];rfl
  have hxs:((⟨⟨s⟩⟩:ByteArray).data.map λb=>Value.int .u8 b.toNat)++Array.replicate (cap-(⟨⟨s⟩⟩:ByteArray).size) (.int .u8 0)=xs:=by have:(⟨⟨s⟩⟩:ByteArray).size=s.length:=rfl;rw[this];simp[xs]
  simp only[Conv.stringToBytes,aS,hch,aQ,hxs,newRow,newObj,bF,Sem.run];simp only[markStringish,shape,aS,Sem.run];show((Result.ok (({w.drew with heap:=w.heap.push (.cells xs e)}:World).shape? w.heap.size) _).andThen _).andThen _=_
  rw[hsh];simp only[aQ,freeze,Sem.run];exact uK (Result.ok (Value.slice (some ⟨w.heap.size,0,none⟩) s.length cap)) hfz
 ·have:=Lm (q:=⟨w.heap.size,0,cap,1⟩) (F:=F) (id:=J.next) (len:=s.length) (cap:=none) rfl (by simp only[uD,Nat.div_one];exact hge);simpa using this
theorem Og(h:SR P F J w){src dst:TypeId}{a v:AV}{x:Value}(hs:xY P src dst a J=some (v,J'))(hx:VR F a x):
 ∃y w' F',(convert src dst x).run P w=.ok y w'/\St P F J w F' J' w'/\VR F' v y:=by
 unfold xY at hs;split at hs
 ·next d k kd n h1 h2=>
  cases hs;simp only[VR]at hx;subst hx;exact⟨.int k (k.wrap n),w,F,by simp only[convert,aS,aX h1,aX h2,aQ];rfl,St.refl h,by simp[VR]⟩
 ·next s h1 h2=>
  cases hs;simp only[VR]at hx;subst hx;exact⟨_,w,F,by simp only[convert,aS,aX h1,aX h2,aQ];rfl,St.refl h,by simp[VR]⟩
 ·next e s h1 h2=>
  split at hs
  ·next h3=>
   split at hs
   ·next hc=>
    cases hs;simp only[VR]at hx;subst hx;obtain⟨y,w',F',hr,hst,hv⟩:=aAm h (s:=s) hc.1 hc.2;exact⟨y,w',F',by simp only[convert,aS,aX h1,aX h2,aQ,aX h3];exact hr,hst,hv⟩
   ·cases hs
  ·cases hs
 ·next e h1 h2=>
  split at hs
  ·next h3=>
   cases hs;simp only[VR]at hx;subst hx;exact⟨.string ⟨⟨[]⟩⟩,w,F,by simp only[convert,aS,aX h1,aX h2,aQ,aX h3,Conv.bytesToString,bF];rfl,St.refl h,by simp[VR]⟩
  ·cases hs
 ·next e id off len cap h1 h2=>
  split at hs
  ·next c et rw opn h3 hg=>
   split at hs
   ·next r hr=>
    simp only[aZ]at hs;obtain⟨b,hb,e1⟩:=hs;cases e1;simp only[VR]at hx;obtain⟨q,hq,hle,rfl⟩:=hx;obtain⟨q',hq',cs,elem,fr,hblk,rr⟩:=h.obj _ _ hg rfl;rw[hq]at hq';cases hq';have hv:=rr.yF hr;have hxs:=N8 hb hv;refine⟨.string ⟨⟨b⟩⟩,w,F,?_,St.refl h,by simp[VR]⟩;simp only[convert,aS,aX h1,aX h2,aQ,aX h3,Conv.bytesToString];rw[Dy hblk (rr.take hr),hxs];simp only[aQ];rw[aaZ _ (λ_ _ _=>rfl)];rfl
   ·cases hs
  ·cases hs
 ·next e l h1 h2=>
  split at hs
  ·next h3=>
   simp only[aZ]at hs;obtain⟨b,hb,e1⟩:=hs;cases e1;simp only[VR]at hx;rcases hx with⟨rfl,pa,rfl⟩|⟨bl,off,c,xs,sz,rfl,hc,g1,g2,g3⟩
   ·simp[bytesOf]at hb;subst hb;exact⟨.string ⟨⟨[]⟩⟩,w,F,by simp only[convert,aS,aX h1,aX h2,aQ,aX h3,Conv.bytesToString,bF];cases pa<;>simp[loadCells,loadCellsFrom]<;>rfl,St.refl h,by simp[VR]⟩
   have hxs:=N8 hb g1;have hl1:=g1.length;have hcl:bY xs=xs:=by
    rw[hxs];clear hxs hb g1 g2 g3 hl1;unfold bY;induction b with
    |nil=>rfl
    |cons c b ih=>simp only[iD,jC,ih];rfl
   refine⟨.string ⟨⟨b⟩⟩,w,F,?_,St.refl h,by simp[VR]⟩;simp only[convert,aS,aX h1,aX h2,aQ,aX h3,Conv.bytesToString];have hload:(loadCells ⟨bl,off,none⟩ l.length).run P w=.ok ⟨xs⟩ w:=by
    by_cases hn:l=[]
    ·subst hn;have:xs=[]:=jw hl1.symm;subst this;simp[loadCells,loadCellsFrom]
    ·obtain⟨cs,elem,fr,h4,h5,h6⟩:=g3 hn;rw[hcl]at h5 h6;rw[Dy (h.iT _ _ h4) (by omega)];congr 2;apply JG;intro j;rw[kS];split
     ·next hj=>
      have hlt:j<xs.length:=by omega
      rw[ru,bK hlt,vC];exact h6 j _ (bK hlt)
     ·next hj=>rw[vG (by omega)]
   rw[hload,hxs];simp only[aQ];rw[aaZ _ (λ_ _ _=>rfl)];rfl
  ·cases hs
 ·next t id off h1 h2=>
  split at hs
  ·next c et rw n hg hn=>
   split at hs
   ·next hc=>
    cases hs;obtain⟨c1,c2,c3⟩:=hc;simp only[VR]at hx;obtain⟨q,hq,rfl⟩:=hx;obtain⟨q',hq',cs,elem,fr,hblk,rr⟩:=h.obj _ _ hg rfl;rw[hq]at hq';cases hq';have hfit:=rr.fits;have hle:=rr.le;simp only[sizeT,aZ]at hn;obtain⟨i,hi,rfl⟩:=hn;exact⟨_,w,F,Lib.run_to_unsafe w _ h1 h2 hi c3 (aa5 hblk) (by show q.ba+off<cs.size;omega),St.refl h,by simp only[VR];exact⟨q,hq,rfl⟩⟩
   ·cases hs
  ·cases hs
 ·next u id off h1 h2=>
  split at hs
  ·next c et rw n hg hn=>
   split at hs
   ·next hc=>
    cases hs;obtain⟨c1,c2⟩:=hc;simp only[VR]at hx;obtain⟨q,hq,rfl⟩:=hx;obtain⟨q',hq',cs,elem,fr,hblk,rr⟩:=h.obj _ _ hg rfl;rw[hq]at hq';cases hq';obtain⟨w1,w2,w3⟩:=rr.whole c1;have hba:=w3 rfl;have hlen:=rr.shut rfl;simp only[sizeT,aZ]at hn;obtain⟨i,hi,_⟩:=hn;refine⟨_,w,F,Lib.run_from_unsafe w _ h1 h2 hi (aa5 hblk) ?_,St.refl h,by simp only[VR];exact⟨q,hq,rfl⟩⟩;subst w1;rw[hba]at w2⊢;simp only[kH]at w2⊢;rw[<-w2,<-hlen];exact c2
   ·cases hs
  ·cases hs
 ·cases hs
theorem MB{r:Nat}{o o':Obj}(hb:w.heap[r]? =some o)(hno:∀c e f,o≠.cells c e f):(setObj r o').run P w=.ok () (ng w r o'):=by simp only[setObj,Sem.run,hb];cases o<;>first|(exact absurd rfl (hno _ _ _))|rfl
theorem agF(h:SR P F J w){t:TypeId}{r:Wt}(hr:r=none\/∃k n kt et,r=some (.int k n)/\P.underlying t=some (.map kt et)):
 ∃y w' F',(Instr.makeMap t r).run P w=.ok y w'/\St P F J w F' (J.new (.map [])) w'/\VR F' (.mp J.next) y:=by
 refine⟨.map (some w.heap.size),_,_,?_,St.alloc h (.map []) (.map #[] 0) ⟨w.heap.size,0,0,0⟩ rfl ⟨#[],0,by simp,by simp,by simp⟩,by simp only[VR];exact⟨⟨w.heap.size,0,0,0⟩,by simp[Env.put],rfl⟩⟩;rcases hr with rfl|⟨k,n,kt,et,rfl,hu⟩
 ·simp only[Instr.makeMap,aS,newObj,Sem.run,bF,aQ]
 ·simp only[Instr.makeMap,aS,aX hu,asInt,asIntOf,newObj,Sem.run,bF,aQ]
theorem agH(h:SR P F J w){t:TypeId}{m k v:AV}{x y z:Value}(hs:QV P t m k v J=some J')(hx:VR F m x)(hy:VR F k y)(hz:VR F v z):
 ∃w',(Instr.mapUpdate t x y z).run P w=.ok () w'/\St P F J w F J' w':=by
 unfold QV at hs;split at hs
 ·next kt et id hu=>
  split at hs
  ·next es hg=>
   split at hs
   ·next hc=>
    obtain⟨hl,hfit⟩:=hc;simp only[VR]at hx;obtain⟨q,hq,rfl⟩:=hx;obtain⟨q',hq',ms,clock,hb,hsz,hp⟩:=h.obj _ _ hg rfl;rw[hq]at hq';cases hq';obtain⟨kd,nY,hf⟩:=aeU hfit;have hck:=adG (w:=w) nY hf hy false;have hgo:(getObj q.bl).run P w=.ok (.map ms clock) w:=by simp[getObj,Sem.run,hb]
    have hmr:zO F es ms.toList:=⟨by simpa using hsz,λk e hk=>by obtain⟨m,hm,h1,h2⟩:=hp k e hk;exact⟨m,by simpa using hm,h1,h2⟩⟩
    split at hs
    ·next i u hfound=>
     cases hs;obtain⟨r',h1,h2⟩:=find_ok hf hy hfound hmr;cases r' with
     |none=>exact h2.elim
     |some p=>
      obtain⟨j',zz⟩:=p;obtain⟨rfl,_,hlt,_⟩:=h2;simp only[kH]at hlt;have hil:i<ms.size:=by omega
      have hsame:Instr.sameNow kd y (ms[i]).key=some true:=by
       have:∀(l:List MapEntry)(k j:Nat)(v:Value),Instr.findNow kd y l k=some (some (j,v))->k<=j/\∃m,l[j-k]? =some m/\Instr.sameNow kd y m.key=some true:=by
        intro l;induction l with
        |nil=>intro k j v hh;simp[Instr.findNow]at hh
        |cons m l ih=>
         intro k j v hh;unfold Instr.findNow at hh;split at hh
         ·next hk=>cases hh;exact⟨Nat.le_refl _,m,by simp,hk⟩
         ·next hk=>
          obtain⟨a,m',b,c⟩:=ih _ _ _ hh;refine⟨by omega,m',?_,c⟩;have:j-k=(j-(k+1))+1:=by omega
          rw[this];simpa using b
         ·cases hh
       obtain⟨_,m,hm,hmm⟩:=this _ _ _ _ h1;simp only[Gi,vC]at hm;rw[BH hil]at hm;cases hm;exact hmm
      have arx:=ayU hf hy hsame 9999;have hfk:(Instr.findKey kt y ms.toList).run P w=.ok (some (i,zz)) w:=by simp only[Instr.findKey,aS,aX nY,aQ,h1,bF]
      have Y1:(Instr.keyThatStays (((ms[i]?).map (·.key)).getD y) y).run P w=.ok y w:=by rw[BH hil];simp only[gI,qN,Instr.keyThatStays];rw[aj arx];rfl
      refine⟨ng w q.bl (.map (ms.modify i λe=>{e with key:=y,val:=z}) clock),?_,St.write h hg rfl hl hq DC (λk hk=>Dz hk) rfl rfl rfl ?_⟩
      ·simp only[Instr.mapUpdate,aS,aX hu,aQ,hgo,hck,hfk,Y1];exact MB hb (by simp)
      ·refine⟨_,clock,Bj hb,by simpa using hsz,λj e hj=>?_⟩;rw[List.getElem?_set]at hj;split at hj
       ·next e1=>
        subst e1;cases hj;refine⟨{ms[i]with key:=y,val:=z},?_,hy,hz⟩;rw[Jw,aj rfl,BH hil];rfl
       ·next e1=>
        obtain⟨m,hm,a,b⟩:=hp j e hj;refine⟨m,?_,a,b⟩;rw[Jw,ah e1];exact hm
    ·next hfound=>
     cases hs;obtain⟨r',h1,h2⟩:=find_ok hf hy hfound hmr;cases r' with
     |some p=>exact h2.elim
     |none=>
      have hfk:(Instr.findKey kt y ms.toList).run P w=.ok none w:=by simp only[Instr.findKey,aS,aX nY,aQ,h1,bF]
      refine⟨ng w q.bl (.map (ms.push {key:=y,val:=z,born:=clock}) (clock+1)),?_,St.write h hg rfl hl hq DC (λk hk=>Dz hk) rfl rfl rfl ?_⟩
      ·simp only[Instr.mapUpdate,aS,aX hu,aQ,hgo,hck,hfk];exact MB hb (by simp)
      ·refine⟨_,clock+1,Bj hb,by simp[hsz],λj e hj=>?_⟩;rw[List.getElem?_append]at hj;split at hj
       ·next hlt=>
        obtain⟨m,hm,a,b⟩:=hp j e hj;refine⟨m,?_,a,b⟩;rw[Nk,ah (by omega)];exact hm
       ·next hge=>
        have hj0:j-es.length=0:=by have:=(eU.1 hj).1;simp at this;omega
        rw[hj0]at hj;simp at hj;subst hj;refine⟨{key:=y,val:=z,born:=clock},?_,hy,hz⟩;rw[Nk,aj (by omega)]
    ·cases hs
   ·cases hs
  ·cases hs
 ·cases hs
theorem awx(h:SR P F J w){t:TypeId}{s:Q0}(hu:P.underlying t=some .string):
 ∃y w' F',(Instr.range t (.string ⟨⟨s⟩⟩)).run P w=.ok y w'/\St P F J w F' (J.new (.iter s 0)) w'/\VR F' (.p J.next 0) y:=by
 refine⟨.pointer (some ⟨w.heap.size,0,none⟩),_,_,?_,St.alloc h (.iter s 0) (.stringIter ⟨⟨s⟩⟩ 0) ⟨w.heap.size,0,0,0⟩ rfl ⟨by simp,rfl⟩,by simp only[VR];exact⟨⟨w.heap.size,0,0,0⟩,by simp[Env.put],rfl⟩⟩;simp only[Instr.range,aS,aX hu,newObj,Sem.run,bF,aQ]
theorem awv(h:SR P F J w){t k e:TypeId}(hu:P.underlying t=some (.map k e)):
 ∃y w' F',(Instr.range t (.map none)).run P w=.ok y w'/\St P F J w F' (J.new (.iterM none)) w'/\VR F' (.p J.next 0) y:=by
 refine⟨.pointer (some ⟨w.heap.size,0,none⟩),_,_,?_,St.alloc h (.iterM none) (.mapIter none 0 #[] 0) ⟨w.heap.size,0,0,0⟩ rfl ⟨rfl,0,0,by simp⟩,by simp only[VR];exact⟨⟨w.heap.size,0,0,0⟩,by simp[Env.put],rfl⟩⟩;simp only[Instr.range,aS,aX hu,newObj,Sem.run,bF,aQ]
theorem aww(h:SR P F J w){t k e:TypeId}(hu:P.underlying t=some (.map k e)){id:Nat}{es:Xs}(hg:J.get id=some (.map es)){x:Value}(hx:VR F (.mp id) x):
 ∃y w' F',(Instr.range t x).run P w=.ok y w'/\St P F J w F' (J.new (.iterM (some id))) w'/\VR F' (.p J.next 0) y:=by
 simp only[VR]at hx;obtain⟨q,hq,rfl⟩:=hx;obtain⟨q',hq',ms,clock,hb,hsz,_⟩:=h.obj _ _ hg rfl;rw[hq]at hq';cases hq';refine⟨.pointer (some ⟨w.heap.size,0,none⟩),_,_,?_,St.alloc h (.iterM (some id)) (.mapIter (some q.bl) clock #[] clock) ⟨w.heap.size,0,0,0⟩ rfl ⟨rfl,clock,clock,q,(Env.FD h _).pl _ _ hq,by simp⟩,by simp only[VR];exact⟨⟨w.heap.size,0,0,0⟩,by simp[Env.put],rfl⟩⟩;simp only[Instr.range,aS,aX hu,newObj,getObj,hb,Sem.run,bF,aQ]
theorem aus(h:SR P F J w){ty:TypeId}{id:Nat}(hg:J.get id=some (.iterM none)){x:Value}(hx:VR F (.p id 0) x):
 (Instr.next x false ty).run P w=.ok (.tuple #[.bool false]) w:=by
 simp only[VR]at hx;obtain⟨q,hq,rfl⟩:=hx;obtain⟨q',hq',h0,since,last,hb⟩:=h.obj _ _ hg rfl;rw[hq]at hq';cases hq';simp only[h0,nC,Instr.next,aS,getObj,Sem.run,hb,aQ,bF]
theorem aut(h:SR P F J w){ty:TypeId}{id m:Nat}(hg:J.get id=some (.iterM (some m)))(hm:J.get m=some (.map [])){x:Value}(hx:VR F (.p id 0) x):
 (Instr.next x false ty).run P w=.ok (.tuple #[.bool false]) w:=by
 simp only[VR]at hx;obtain⟨q,hq,rfl⟩:=hx;obtain⟨q',hq',h0,since,last,q2,hq2,hb⟩:=h.obj _ _ hg rfl;rw[hq]at hq';cases hq';obtain⟨q3,hq3,ms,clock,hb2,hsz,_⟩:=h.obj _ _ hm rfl;rw[hq2]at hq3;cases hq3;have hms:ms =#[]:=by apply abQ;simpa using hsz
 subst hms;have hch:(choose (.mapNext 1)).run P w=.ok 0 w:=by simp[choose,Sem.run,Question.forced]
 have hf:∀p:MapEntry->Bool,(#[]:Array MapEntry).filter p =#[]:=λp=>by simp
 have h2:(if(#[]:Array MapEntry).isEmpty=true then #[none]else(#[]:Array (Option MapEntry)))++Array.map some ((#[]:Array MapEntry)++#[]) =#[none]:=by simp
 simp only[h0,nC,Instr.next,aS,getObj,Sem.run,hb,hb2,aQ,bF,hf,h2];have h3:(#[none]:Array (Option MapEntry)).size=1:=rfl;rw[h3,ah (by simp)];simp only[aS,hch,aQ];rfl
theorem auu(h:SR P F J w){ty:TypeId}{it v:AV}{x:Value}(hs:QX it J=some (v,J'))(hx:VR F it x):
 ∃y w',(Instr.next x true ty).run P w=.ok y w'/\St P F J w F J' w'/\VR F v y:=by
 unfold QX at hs;split at hs
 ·next id=>
  split at hs
  ·next s pos hg=>
   split at hs
   ·next hl=>
    simp only[VR]at hx;obtain⟨q,hq,rfl⟩:=hx;obtain⟨q',hq',hb,hba⟩:=h.obj _ _ hg rfl;rw[hq]at hq';cases hq';have hgo:(getObj q.bl).run P w=.ok (.stringIter ⟨⟨s⟩⟩ pos) w:=by simp[getObj,Sem.run,hb]
    rw[hba];split at hs
    ·next hp=>
     cases hs;refine⟨.tuple #[.bool true,.int .i64 pos,.int .i32 (Utf8.decode ⟨⟨s⟩⟩ pos).1],_,?_,St.write h hg rfl hl hq DC (λk hk=>Dz hk) rfl rfl rfl ⟨Bj (o':=.stringIter ⟨⟨s⟩⟩ (pos+(Utf8.decode ⟨⟨s⟩⟩ pos).2)) hb,hba⟩,?_⟩
     ·have hp':pos<(⟨⟨s⟩⟩:ByteArray).size:=hp;simp only[Instr.next,nC,aS,hgo,aQ,uG,hp',if_true,MB hb (by simp),bF,goInt]
     ·simp only[VR];exact⟨_,rfl,aC.cons (by simp[VR]) (aC.cons (by simp[VR]) (aC.cons (by simp[VR]) (by simp[aC])))⟩
    ·next hp=>
     cases hs;refine⟨.tuple #[.bool false],w,?_,St.refl h,by simp only[VR];exact⟨_,rfl,aC.cons (by simp[VR]) (by simp[aC])⟩⟩;have hp':¬pos<(⟨⟨s⟩⟩:ByteArray).size:=hp;simp only[Instr.next,nC,aS,hgo,aQ,uG,hp',if_false,bF]
   ·cases hs
  ·cases hs
 ·cases hs
theorem aiK{ts:Wm}{ty:TypeId}:(Builtin.unsafeSliceData_ ts ty #[.slice none 0 0]).run P w=.ok (.pointer none) w:=rfl
theorem aiL{ts:Wm}{ty:TypeId}{a:Addr}{n c:Nat}(hc:c≠0):(Builtin.unsafeSliceData_ ts ty #[.slice (some a) n c]).run P w=.ok (.pointer (some a)) w:=by
 show(if c≠0 then pure (.pointer (some a))else _:Sem Value).run P w=_
 rw[aj hc];rfl
theorem abA{pt it ty:TypeId}{p:Wz}:(Builtin.unsafeString_ #[pt,it] ty #[.pointer p,.int .i64 0]).run P w=.ok (.string ⟨⟨[]⟩⟩) w:=Lib.run_unsafeString_none w pt it ty p
theorem liesAt_bytes{e:TypeId}(hc:P.cellsOf e=1)(count off n:Nat)(hn:off+n<=count):liesAt P P.depth e count off e n=true:=by have hd:P.depth=(2*(P.types.size+Made.depth)+1)+1:=rfl;rw[hd];simp only[liesAt,nO];left;rw[hd];simp[rowAt,hc,hn,sameLayout,Nat.mod_one]
theorem axm(pt it ty e:TypeId)(hp:P.underlying pt=some (.pointer e))(hc:P.cellsOf e=1)(g off cells:Nat)(hsh:w.shape? g=some (e,cells))(l:Q0)(h0:l≠[])(hn:off+l.length<=cells)(h63:l.length<=9223372036854775807)
 (hcell:∀(j:Nat) x,l[j]? =some x->w.cell? ((⟨g,off,none⟩:Addr).add j)=some (.int .u8 x.toNat)):
 (Builtin.unsafeString_ #[pt,it] ty #[.pointer (some ⟨g,off,none⟩),.int .i64 l.length]).run P w=.ok (.string ⟨l.toArray⟩) (w.freeze ⟨g,off,none⟩ l.length):=by
 have hl:l.length≠0:=by simpa using h0
 have hlb:=Lib.run_loadBytes (P:=P) w l ⟨g,off,none⟩ .empty hcell;have hlies:=liesAt_bytes (P:=P) hc (cells/P.cellsOf e) off l.length (by rw[hc];simpa using hn);have h63':¬(9223372036854775807:Int)<(l.length:Int):=by omega
 have hdef:Builtin.unsafeString_ #[pt,it] ty #[.pointer (some ⟨g,off,none⟩),.int .i64 l.length] =
  (do
   let n <-asInt (.int .i64 l.length)
   if n<0 then runtimePanic (.error "unsafe.String: len out of range")
   if n>IntKind.i64.max then unsupported (.unsafePointer "String: a length above the largest int")
   if n=0 then pure (.string .empty)
   else if <-variablesAt ⟨g,off,none⟩ (<-elemOf pt) n.toNat then do
    let s <-loadBytes ⟨g,off,none⟩ .empty n.toNat
    freeze ⟨g,off,none⟩ n.toNat
    pure (.string s)
   else unsupported (.unsafePointer "String: not so many bytes at ptr")):=rfl
 rw[hdef];have hmax:IntKind.i64.max=9223372036854775807:=rfl;have hneg:¬(l.length:Int)<0:=by omega
 simp[asInt,asIntOf,hmax,h63',hneg,hl,variablesAt,hsh,elemOf,run_underlying hp,hlies,hlb]
theorem aqp{bl off n:Nat}{cs:QQ}{elem:TypeId}{fr:Nat×Nat}(h:w.heap[bl]? =some (.cells cs elem fr))(hn:n≠0):
 w.freeze ⟨bl,off,none⟩ n=ng w bl (.cells cs elem (if fr.1==fr.2 then(off,off+n)else(min fr.1 off,max fr.2 (off+n)))):=by
 unfold World.freeze ng;rw[ah hn];congr 1;apply Qr;intro i;rw[Jw,BI];by_cases e:bl=i
 ·subst e;have:bl<w.heap.size:=(qh.1 h).1;rw[aj rfl,aj rfl,aj this,h];rfl
 ·rw[ah e,ah e]
theorem ajq(h:SR P F J w){t it ty e:TypeId}{id off:Nat}{n:Int}{c r:Q3}{opn:Bool}{b:Q0}{q:Place}(hu:P.underlying t=some (.pointer e))
 (hg:J.get id=some (.cells c e true opn)) (he:e≠0) (hc:P.cellsOf e=1) (h0:0<n) (h62:n<2^62) (hl:J.lock<=id) (hr:takeN c off n.toNat=some r) (hb:bytesOf r=some b) (hq:F id=some q):
 ∃y w',(Builtin.unsafeString_ #[t,it] ty #[.pointer (some ⟨q.bl,q.ba+off,none⟩),.int .i64 n]).run P w=.ok y w'/\St P F J w F (J.put id (.cells c e false opn)) w'/\VR F (.s b) y:=by
 obtain⟨q',hq',cs,elem,fr,hblk,rr⟩:=h.obj _ _ hg rfl;rw[hq]at hq';cases hq';obtain⟨w1,w2,w3⟩:=rr.whole he;subst w1;have hv:=rr.yF hr;have hxs:=N8 hb hv;obtain⟨hr1,hr2,hr3⟩:=qV hr;have hfit:=rr.fits;have hle:=rr.le;have hlen:b.length=n.toNat:=by have:=hv.length;rw[hxs,fE]at this;omega
 have hn:((b.length:Nat):Int)=n:=by omega
 have hrun:=axm (P:=P) (w:=w) t it ty elem hu hc q.bl (q.ba+off) cs.size (aa5 hblk) b (by intro e1;subst e1;simp at hlen;omega) (by omega) (by omega) (λj x hj=>by
  rw[qw,Oc hblk];have h5:(List.take n.toNat (List.drop (q.ba+off) cs.toList))[j]? =some (Value.int .u8 x.toNat):=by rw[hxs];simp[hj]
  rw[kS]at h5;split at h5
  ·rw[ru,vC]at h5;exact h5
  ·cases h5)
 rw[hn,aqp hblk (by omega)]at hrun;refine⟨_,_,hrun,St.write h hg rfl hl hq DC (λk hk=>Dz hk) rfl rfl rfl ?_,by simp[VR]⟩;exact⟨cs,elem,_,Bj hblk,{rr with free:=by simp}⟩
