/- The operations, one by one: what the model's operation does where the evaluator's answers. -/
import Derived.Test.YthgifdbaegpbpaaGreatDoorAbsA
import Derived.Lib.Builder
namespace Go.aP
noncomputable section
variable [aC]
set_option linter.unusedSectionVars false
set_option linter.unusedVariables false
set_option linter.unusedSimpArgs false
variable {P:Program} {η:Env} {σ σ':ah} {w:World}
theorem aV {t:TypeId} {d:TypeDesc} (h:P.underlying t=some d):(underlying t).run P w=.ok d w:=by
 simp [underlying,program,Sem.run,h]
theorem fQ {t:TypeId} {n:Nat} (h:sizeT P t=some n):(sizeOf t).run P w=.ok n w:=by
 simp only [sizeT,Option.map_eq_some_iff] at h
 obtain ⟨i,hi,rfl⟩:=h
 simp [sizeOf,typeInfo,program,Sem.run,hi]
theorem AZ {t:TypeId} {b:Bool} (h:kX P t=some b):(isAgg t).run P w=.ok b w:=by
 unfold kX at h
 split at h<;>cases h
 ·next h'=>simp [isAgg,aV h']
 ·next h'=>simp [isAgg,aV h']
 ·next d h' h1 h2=>
  cases d<;>simp_all [isAgg,aV]
theorem y9 {t:TypeId} {i:TypeInfo} (h:P.info? t=some i):(typeInfo t).run P w=.ok i w:=by
 simp [typeInfo,program,Sem.run,h]
theorem acK {v:Value} (h:mW v=true):v.cells = #[v]:=by cases v<;>simp [mW] at h<;>rfl
theorem GR.mW {ro:Nat→Option Obj} {g:GV} {v:Value} (h:GR ro g v) (hs:g.scalar=true):mW v=true:=by
 cases g<;>simp only [GR] at h
 case g cs=>cases hs
 case l xs=>rcases h with ⟨_,_,rfl⟩ | ⟨bl,off,c,ys,sz,rfl,_⟩<;>rfl
 all_goals subst h;rfl
def AV.sym:AV→Bool
 | .nd _ | .rx _ _ | .sv _ _ | .pv _ _ _ | .pd _ _=>true
 | _=>false
theorem VR.aen {a:AV} {v:Value} (ha:a.sym=true) (h:VR η a v):mW v=true:=by
 cases a<;>simp only [VR] at h<;>first | (cases ha;done) | skip
 case nd n=>obtain ⟨g,_,h2,h3⟩:=h;exact h3.mW h2
 case rx n off=>obtain ⟨g,bl,base,cs,elem,fr,x,h1,h2,h3,rfl,_⟩:=h;rfl
 case sv id n=>obtain ⟨xs,_,⟨q,_,_,rfl⟩ | ⟨_,_,rfl⟩⟩:=h<;>rfl
 case pv id n off=>obtain ⟨q,k,i,_,_,rfl⟩:=h;rfl
 case pd id n=>obtain ⟨xs,p,_,rfl,_⟩:=h;rfl
theorem afO {a:AV} {v:Value} (ha:a.sym=true) (h:VR η a v):aj η a.cells v.cells.toList:=by
 have h1:=acK (VR.aen ha h)
 have h2:a.cells=[a]:=by cases a<;>first | rfl | (cases ha)
 rw [h1,h2]
 exact aj.cons h (by simp [aj])
theorem sD {a:AV} {v:Value} (h:VR η a v):aj η a.cells v.cells.toList:=by
 by_cases hs:a.sym=true
 ·exact afO hs h
 cases a<;>first | (exact absurd rfl hs) | skip
 all_goals simp only [VR] at h
 case agg l=>obtain ⟨vs,rfl,h1⟩:=h;simpa [AV.cells,Value.cells] using h1
 case bV l=>obtain ⟨vs,rfl,h1⟩:=h;simp only [AV.cells,Value.cells];exact aj.cons (by simp only [VR];exact ⟨vs,rfl,h1⟩) (by simp [aj])
 case p id off=>obtain ⟨q,hq,rfl⟩:=h;exact aj.cons (by simp only [VR];exact ⟨q,hq,rfl⟩) (by simp [aj])
 case sl id off len cap=>obtain ⟨q,hq,hle,rfl⟩:=h;exact aj.cons (by simp only [VR];exact ⟨q,hq,hle,rfl⟩) (by simp [aj])
 case mp id=>obtain ⟨q,hq,rfl⟩:=h;exact aj.cons (by simp only [VR];exact ⟨q,hq,rfl⟩) (by simp [aj])
 case fn f fi cs=>obtain ⟨us,vs,rfl,h1,h2⟩:=h;exact aj.cons (by simp only [VR];exact ⟨us,vs,rfl,h1,h2⟩) (by simp [aj])
 case dD t b=>obtain ⟨x,rfl,h1⟩:=h;exact aj.cons (by simp only [VR];exact ⟨x,rfl,h1⟩) (by simp [aj])
 case z k lo hi=>obtain ⟨n,h1,h2,rfl⟩:=h;exact aj.cons (by simp only [VR];exact ⟨n,h1,h2,rfl⟩) (by simp [aj])
 case ro l=>
  have h':VR η (.ro l) v:=by simp only [VR];exact h
  rcases h with ⟨_,_,rfl⟩ | ⟨bl,off,c,xs,sz,rfl,h1⟩
  ·exact aj.cons h' (by simp [aj])
  ·exact aj.cons h' (by simp [aj])
 case rp a off=>obtain ⟨bl,base,cs,elem,fr,x,h1,h2,rfl,h3⟩:=h;exact aj.cons (by simp only [VR];exact ⟨bl,base,cs,elem,fr,x,h1,h2,rfl,h3⟩) (by simp [aj])
 all_goals subst h;exact aj.cons (by simp only [VR]) (by simp [aj])
theorem QU {a:AV} {v:Value} (h:VR η a v) (ha:a.jJ=true):mW v=true:=by
 by_cases hs:a.sym=true
 ·exact h.aen hs
 cases a<;>first | (exact absurd rfl hs) | skip
 all_goals simp only [VR] at h
 all_goals simp [AV.jJ] at ha
 case p id off=>obtain ⟨q,hq,rfl⟩:=h;rfl
 case sl id off len cap=>obtain ⟨q,hq,_,rfl⟩:=h;rfl
 case mp id=>obtain ⟨q,hq,rfl⟩:=h;rfl
 case fn f fi cs=>obtain ⟨us,vs,rfl,h1,h2⟩:=h;rfl
 case dD t b=>obtain ⟨x,rfl,h1⟩:=h;rfl
 case z k lo hi=>obtain ⟨n,h1,h2,rfl⟩:=h;rfl
 case ro l=>rcases h with ⟨_,_,rfl⟩ | ⟨bl,off,c,xs,sz,rfl,h1⟩<;>rfl
 case rp a off=>obtain ⟨bl,base,cs,elem,fr,x,h1,h2,rfl,h3⟩:=h;rfl
 all_goals subst h;rfl
theorem BU {xs:List Value} {sz:Nat} (h:∀x∈xs,x.cells.size=sz):(cu xs).length=xs.length * sz:=by
 induction xs with
 | nil=>simp [cu]
 | cons x xs ih=>
  have h0:=h x (by simp)
  have:=ih fun y hy=>h y (by simp [hy])
  simp only [cu,List.flatMap_cons,List.length_append,List.length_cons] at this ⊢
  rw [this,Nat.add_mul,Nat.one_mul,Nat.add_comm]
  simp [h0]
theorem XJ {xs:List Value} {sz:Nat} (h:∀x∈xs,x.cells.size=sz) (i:Nat):(cu xs).drop (i * sz)=cu (xs.drop i):=by
 induction xs generalizing i with
 | nil=>simp [cu]
 | cons x xs ih=>
  cases i with
  | zero=>simp
  | succ i=>
   have h0:=h x (by simp)
   have:=ih (fun y hy=>h y (by simp [hy])) i
   simp only [List.drop_succ_cons]
   rw [← this]
   simp only [cu,List.flatMap_cons]
   have hl:x.cells.toList.length=sz:=by simpa using h0
   rw [show (i+1) * sz=x.cells.toList.length+i * sz by rw [hl,Nat.add_mul,Nat.one_mul,Nat.add_comm]]
   rw [List.drop_append,List.drop_of_length_le (by omega),List.nil_append,Nat.add_sub_cancel_left]
theorem afK {xs:List Value} {sz:Nat} (h:∀x∈xs,x.cells.size=sz) (i:Nat):(cu xs).take (i * sz)=cu (xs.take i):=by
 induction xs generalizing i with
 | nil=>simp [cu]
 | cons x xs ih=>
  cases i with
  | zero=>simp [cu]
  | succ i=>
   have h0:=h x (by simp)
   have:=ih (fun y hy=>h y (by simp [hy])) i
   simp only [List.take_succ_cons]
   simp only [cu,List.flatMap_cons] at this ⊢
   have hl:x.cells.toList.length=sz:=by simpa using h0
   rw [show (i+1) * sz=x.cells.toList.length+i * sz by rw [hl,Nat.add_mul,Nat.one_mul,Nat.add_comm]]
   rw [List.take_length_add_append,this]
theorem XH {xs:List Value} {sz i:Nat} {x:Value} (h:∀x∈xs,x.cells.size=sz) (hi:xs[i]? = some x) (k:Nat) (hk:k < sz):(cu xs)[i * sz+k]? = x.cells[k]?:=by
 have h1:=XJ h i
 have hlt:=(List.getElem?_eq_some_iff.1 hi).1
 have hd:xs.drop i=x::xs.drop (i+1):=by
  rw [← (List.getElem?_eq_some_iff.1 hi).2];exact List.drop_eq_getElem_cons hlt
 have:(cu xs)[i * sz+k]? = ((cu xs).drop (i * sz))[k]?:=by rw [List.getElem?_drop]
 rw [this,h1,hd]
 have hs:=h x (List.mem_of_getElem? hi)
 simp only [cu,List.flatMap_cons]
 rw [List.getElem?_append_left (by simpa [hs] using hk)]
 simp
theorem H7 {a:AV} {v:Value} (h:VR η a v):a.cells.length=v.cells.size:=by
 have:=(sD h).length;simpa using this
theorem aaT {l:List AV} {xs:List Value} (h:aj η l xs):aj η (l.flatMap AV.cells) (cu xs):=by
 induction l generalizing xs with
 | nil=>simp only [aj] at h;subst h;simp [aj,cu]
 | cons a l ih=>
  simp only [aj] at h
  obtain ⟨x,ys,rfl,h1,h2⟩:=h
  simp only [List.flatMap_cons,cu]
  exact aj.append (sD h1) (ih h2)
theorem afd {l:List AV} {xs:List Value} {n:Nat} (h:aj η l xs) (ha:l.all (fun a=>a.cells.length==n)=true):∀x∈xs,x.cells.size=n:=by
 intro x hx
 obtain ⟨k,hk⟩:=List.mem_iff_getElem?.1 hx
 have hlt:k < l.length:=by have:=(List.getElem?_eq_some_iff.1 hk).1;have:=h.length;omega
 obtain ⟨y,hy,oN⟩:=h.at (List.getElem?_eq_getElem hlt)
 rw [hk] at hy;cases hy
 have:=List.all_eq_true.1 ha _ (List.getElem_mem hlt)
 rw [← H7 oN]
 simpa using this
theorem amI {l:List AV} {v:Value} (h:VR η (.ro l) v) {i size:Nat} {a:AV} (hi:l[i]? = some a) (hs:a.cells.length=size) :
 ∃bl off c cs elem fr x,v=.slice (some ⟨bl,off,none⟩) l.length c∧l.length≤c∧η.ro bl=some (.cells cs elem fr)∧VR η a x∧off+i * size+x.cells.size≤cs.size∧xU cs (off+i * size) x.cells.toList:=by
 simp only [VR] at h
 rcases h with ⟨rfl,_⟩ | ⟨bl,off,c,xs,sz,rfl,hc,h1,h2,h3⟩
 ·simp at hi
 obtain ⟨x,hx,iL⟩:=h1.at hi
 obtain ⟨cs,elem,fr,h4,h5,h6⟩:=h3 (by intro e;subst e;simp at hi)
 have hsz:=h2 x (List.mem_of_getElem? hx)
 have:sz=size:=by rw [← hsz,← H7 iL,hs]
 subst this
 have hlen:=BU h2
 have hlt:=(List.getElem?_eq_some_iff.1 hx).1
 have hmul:(i+1) * sz≤xs.length * sz:=Nat.mul_le_mul_right _ hlt
 rw [Nat.add_mul,Nat.one_mul] at hmul
 refine ⟨bl,off,c,cs,elem,fr,x,rfl,hc,h4,iL,by omega,fun k y hk=>?_⟩
 have hks:k < sz:=by have:=(List.getElem?_eq_some_iff.1 hk).1;simp at this;omega
 have:=h6 (i * sz+k) y (by rw [XH h2 hx k hks];simpa using hk)
 rw [← Nat.add_assoc] at this
 exact this
theorem zf {t:TypeId} {zc:List AV} (h:rV P t=some zc):∃z,(∀w,(zeroValue t).run P w=.ok z w)∧∀η:Env,aj η zc z.cells.toList:=by
 unfold rV at h
 split at h
 ·next i hi=>
  split at h
  ·next z hz=>
   simp only [Option.map_eq_some_iff] at h
   obtain ⟨a,ha,rfl⟩:=h
   exact ⟨z,fun w=>by simp [zeroValue,y9 hi,hz],fun η=>sD (wM _ _ _ ha)⟩
  ·cases h
 ·cases h
theorem mY {l r:List AV} {off n:Nat} (h:takeN l off n=some r):r=(l.drop off).take n∧r.length=n∧(n=0∨off+n≤l.length):=by
 simp only [takeN] at h
 split at h
 ·next h1=>
  cases h
  refine ⟨rfl,h1, ?_⟩
  simp at h1;omega
 ·cases h
theorem aew {l r:List AV} {off n:Nat} (h:takeN l off n=some r) {k:Nat} {a:AV} (hk:r[k]? = some a):l[off+k]? = some a:=by
 obtain ⟨rfl,_,_⟩:=mY h
 rw [List.getElem?_take] at hk
 split at hk
 ·rw [List.getElem?_drop] at hk;exact hk
 ·cases hk
theorem ng.take {q:Place} {c:List AV} {et:TypeId} {rw opn:Bool} {cs:Array Value} {elem:TypeId} {fr:Nat×Nat} (r:ng P η q c et rw opn cs elem fr)
 {off n:Nat} {l:List AV} (h:takeN c off n=some l):q.ba+off+n≤cs.size∨n=0:=by
 obtain ⟨_,_,h1⟩:=mY h
 have:=r.fits;have:=r.le
 omega
theorem ng.rU {q:Place} {c:List AV} {et:TypeId} {rw opn:Bool} {cs:Array Value} {elem:TypeId} {fr:Nat×Nat} (r:ng P η q c et rw opn cs elem fr)
 {off n:Nat} {l:List AV} (h:takeN c off n=some l):aj η l ((cs.toList.drop (q.ba+off)).take n):=by
 obtain ⟨hl,hlen,h1⟩:=mY h
 have h2:=r.fits;have h3:=r.le
 refine aj.of ?_ fun k a hk=>?_
 ·simp;omega
 ·have h4:=aew h hk
  obtain ⟨x,hx,hv⟩:=r.cell _ _ h4
  refine ⟨x, ?_,hv⟩
  have hkn:k < n:=by have:=(List.getElem?_eq_some_iff.1 hk).1;omega
  rw [List.getElem?_take,if_pos hkn,List.getElem?_drop]
  rw [← Nat.add_assoc] at hx
  simpa using hx
theorem xq {bl off n:Nat} {cs:Array Value} {elem:TypeId} {fr:Nat×Nat} (h:w.heap[bl]? = some (.cells cs elem fr)) (hle:off+n≤cs.size∨n=0) :
 (loadCells ⟨bl,off,none⟩ n).run P w=.ok ⟨(cs.toList.drop off).take n⟩ w:=by
 rcases hle with h1 | rfl
 ·exact run_loadCells h h1
 ·simp [loadCells,loadCellsFrom]
theorem yD (h:SR P η σ w) {t:TypeId} {a v:AV} {x:Value} (ha:pK P t σ a=some v) (hx:VR η a x) :
 ∃y,(Instr.loadAt t x).run P w=.ok y w∧VR η v y:=by
 unfold pK at ha
 split at ha
 ·next id off=>
  split at ha
  ·next c et rw opn hg=>
   obtain ⟨q,hq,cs,elem,fr,hb,r⟩:=h.obj _ _ hg rfl
   simp only [VR] at hx
   obtain ⟨q',hq',rfl⟩:=hx
   rw [hq] at hq';cases hq'
   split at ha
   ·next hagg=>
    split at ha
    ·next n hn=>
     simp only [Option.map_eq_some_iff] at ha
     obtain ⟨l,hl,rfl⟩:=ha
     refine ⟨.agg ⟨(cs.toList.drop (q.ba+off)).take n⟩, ?_, ?_⟩
     ·simp only [Instr.loadAt,Instr.sureAddr,Sem.run_bind,Sem.run_pure,Result.andThen_ok,loadVar,AZ hagg,if_true,fQ hn,Sem.run_ite]
      rw [xq hb (r.take hl)];rfl
     ·simp only [VR];exact ⟨_,rfl,r.rU hl⟩
    ·cases ha
   ·next hagg=>
    obtain ⟨x,hx,hv⟩:=r.cell _ _ ha
    refine ⟨x, ?_,hv⟩
    simp only [Instr.loadAt,Instr.sureAddr,Sem.run_bind,Sem.run_pure,Result.andThen_ok,loadVar,AZ hagg,Sem.run_ite]
    exact adA hb hx
   ·cases ha
  ·cases ha
 ·next e off=>
  simp only [VR] at hx
  obtain ⟨bl,base,cs,elem,fr,x,h1,h2,rfl,h3,h4⟩:=hx
  have hb:=h.fP _ _ h1
  have hcv:=sD h2
  have hcl:=H7 h2
  split at ha
  ·next hagg=>
   split at ha
   ·next n hn=>
    simp only [Option.map_eq_some_iff] at ha
    obtain ⟨l,hl,rfl⟩:=ha
    obtain ⟨hl1,hl2,hl3⟩:=mY hl
    have hfit:base+off+n≤cs.size∨n=0:=by omega
    refine ⟨.agg ⟨(cs.toList.drop (base+off)).take n⟩, ?_, ?_⟩
    ·simp only [Instr.loadAt,Instr.sureAddr,Sem.run_bind,Sem.run_pure,Result.andThen_ok,loadVar,AZ hagg,if_true,fQ hn,Sem.run_ite]
     rw [xq hb hfit];rfl
    ·simp only [VR]
     refine ⟨_,rfl, ?_⟩
     have heq:(cs.toList.drop (base+off)).take n=(x.cells.toList.drop off).take n:=by
      apply List.ext_getElem?
      intro k
      rw [List.getElem?_take,List.getElem?_take]
      split
      ·next hk=>
       rw [List.getElem?_drop,List.getElem?_drop]
       have hlt:off+k < x.cells.toList.length:=by simp;omega
       have:=h4 (off+k) _ (List.getElem?_eq_getElem hlt)
       rw [List.getElem?_eq_getElem hlt,Array.getElem?_toList,Nat.add_assoc]
       exact this
      ·rfl
     rw [heq,hl1]
     exact (hcv.drop off).take n
   ·cases ha
  ·next hagg=>
   obtain ⟨y,hy,hv⟩:=hcv.at ha
   refine ⟨y, ?_,hv⟩
   simp only [Instr.loadAt,Instr.sureAddr,Sem.run_bind,Sem.run_pure,Result.andThen_ok,loadVar,AZ hagg,Sem.run_ite]
   exact adA hb (h4 off y hy)
  ·cases ha
 ·cases ha
theorem LV {l l' vs:List AV} {off:Nat} (h:tC l off vs=some l'):off+vs.length≤l.length∧l'.length=l.length∧
 ∀ (k:Nat),l'[k]? = if off≤k∧k < off+vs.length then vs[k - off]? else l[k]?:=by
 unfold tC at h
 split at h
 ·next h1=>
  cases h
  refine ⟨h1,by simp;omega,fun k=>?_⟩
  by_cases h2:k < off
  ·rw [if_neg (by omega),List.append_assoc,List.getElem?_append_left (by simp;omega),List.getElem?_take,if_pos h2]
  ·by_cases h3:k < off+vs.length
   ·rw [if_pos ⟨by omega,h3⟩,List.getElem?_append_left (by simp;omega),List.getElem?_append_right (by simp;omega)]
    simp;congr 1;omega
   ·rw [if_neg (by omega),List.getElem?_append_right (by simp;omega),List.getElem?_drop]
    congr 1;simp;omega
 ·cases h
theorem Nl (h:SR P η σ w) {id off:Nat} {c c':List AV} {et:TypeId} {opn:Bool} {vs:List AV} {xs:List Value} {q:Place} (hg:σ.get id=some (.cells c et true opn)) (hl:σ.lock≤id)
 (hq:η id=some q) (hs:tC c off vs=some c') (hv:aj η vs xs) (hone:vs.all AV.jJ=true) :
 ∃w',(storeCells ⟨q.bl,q.ba+off,none⟩ xs).run P w=.ok () w'∧St P η σ w η (σ.put id (.cells c' et true opn)) w':=by
 obtain ⟨q',hq',cs,elem,fr,hb,r⟩:=h.obj _ _ hg rfl
 rw [hq] at hq';cases hq'
 obtain ⟨h1,h2,h3⟩:=LV hs
 have hlen:=hv.length
 have hf:=r.fits;have hle:=r.le
 have hxs:∀x∈xs,mW x=true:=by
  intro x hx
  obtain ⟨k,hk⟩:=List.mem_iff_getElem?.1 hx
  have hlt:k < vs.length:=by have:=(List.getElem?_eq_some_iff.1 hk).1;omega
  obtain ⟨y,hy,oN⟩:=hv.at (List.getElem?_eq_getElem hlt)
  rw [hk] at hy;cases hy
  exact QU oN (List.all_eq_true.1 hone _ (List.getElem_mem hlt))
 have hrun:=SA (P:=P) xs w q.bl (q.ba+off) 0 cs elem fr hb (by omega) hxs (fun k a b=>by
  have:=r.free rfl (k - q.ba) (by omega)
  rw [Nat.add_sub_cancel' (by omega)] at this;exact this)
 refine ⟨_,hrun, ?_⟩
 refine St.write h hg rfl hl hq xw (fun k hk=>xu hk) rfl rfl rfl ?_
 refine ⟨_,elem,fr,uY hb, ?_⟩
 refine { fits:=by rw [DJ];exact hf,le:=by omega,shut:=fun e=>by rw [h2];exact r.shut e,cell:=?_,free:=fun e=>r.free e,whole:=fun e=>by rw [DJ];exact r.whole e,room:=r.room }
 intro k a hk
 rw [h3] at hk
 rw [LU _ _ _ _ (by omega)]
 split at hk
 ·next h4=>
  rw [if_pos (by omega)]
  obtain ⟨x,hx,iL⟩:=hv.at hk
  refine ⟨x, ?_,iL⟩
  rw [← hx];congr 1;omega
 ·next h4=>
  rw [if_neg (by omega)]
  exact r.cell k a hk
theorem L6 (h:SR P η σ w) {t:TypeId} {a v:AV} {x y:Value} (hs:xK P t σ a v=some σ') (hx:VR η a x) (hy:VR η v y) :
 ∃w',(Instr.storeAt t x y).run P w=.ok () w'∧St P η σ w η σ' w':=by
 unfold xK at hs
 split at hs
 ·next id off=>
  split at hs
  ·next c et opn hg=>
   split at hs
   ·next hc=>
    obtain ⟨hl,hsz,hone⟩:=hc
    simp only [Option.map_eq_some_iff] at hs
    obtain ⟨c',hr,rfl⟩:=hs
    simp only [VR] at hx
    obtain ⟨q,hq,rfl⟩:=hx
    have hcells:=sD hy
    obtain ⟨w',hrun,hst⟩:=Nl h hg hl hq hr hcells hone
    refine ⟨w', ?_,hst⟩
    have hlen:=hcells.length
    simp only [Instr.storeAt,Instr.sureAddr,Sem.run_bind,Sem.run_pure,Result.andThen_ok,storeVar,fQ hsz,Sem.run_ite]
    rw [if_neg (by simp at hlen ⊢;omega)]
    simpa using hrun
   ·cases hs
  ·cases hs
 ·cases hs
end
end Go.aP
namespace Go.aP
noncomputable section
variable [aC]
set_option linter.unusedSectionVars false
set_option linter.unusedVariables false
set_option linter.unusedSimpArgs false
variable {P:Program} {η:Env} {σ σ':ah} {w:World}
theorem rZ {a:AV} {n:Int} {x:Value} (h:pJ a=some n) (hx:VR η a x):∃k,x=.int k n:=by
 cases a<;>simp [pJ] at h
 subst h;simp only [VR] at hx;exact ⟨_,hx⟩
theorem uX {a:AV} {v:Value} {x:Value} (h:qC a=some v) (hx:VR η a x):x=v:=aeB 4 a v x h hx
theorem acR {t:TypeId} {cs:List AV} {vs:List Value} {off:Nat} {v:AV} (h:G8 P t cs off=some v) (hv:aj η cs vs) :
 ∃y,(part t ⟨vs⟩ off).run P w=.ok y w∧VR η v y:=by
 unfold G8 at h
 split at h
 ·next hagg=>
  split at h
  ·next n hn=>
   simp only [Option.map_eq_some_iff] at h
   obtain ⟨l,hl,rfl⟩:=h
   refine ⟨.agg ((⟨vs⟩:Array Value).extract off (off+n)), ?_, ?_⟩
   ·simp [part,AZ hagg,fQ hn]
   ·simp only [VR]
    obtain ⟨rfl,_,_⟩:=mY hl
    refine ⟨(vs.drop off).take n, ?_,(hv.drop off).take n⟩
    simp
  ·cases h
 ·next hagg=>
  obtain ⟨x,hx,iL⟩:=hv.at h
  refine ⟨x, ?_,iL⟩
  simp [part,AZ hagg,hx]
 ·cases h
theorem ahQ {t:TypeId} {a v:AV} {x:Value} {f:Nat} (h:GN P t a f=some v) (hx:VR η a x) :
 ∃y,(Instr.field t x f).run P w=.ok y w∧VR η v y:=by
 unfold GN at h
 split at h
 ·next fields cs hu=>
  split at h
  ·next fd hf=>
   simp only [VR] at hx
   obtain ⟨vs,rfl,hv⟩:=hx
   obtain ⟨y,hy,oN⟩:=acR (w:=w) h hv
   exact ⟨y,by simp [Instr.field,aV hu,hf,asAgg,hy],oN⟩
  ·cases h
 ·cases h
theorem ahP {t:TypeId} {a v:AV} {x:Value} {f:Nat} (h:GU P t a f=some v) (hx:VR η a x) :
 ∃y,(Instr.fieldAt t x f).run P w=.ok y w∧VR η v y:=by
 unfold GU at h
 split at h
 ·next fields id off hu=>
  split at h
  ·next fd hf=>
   split at h
   ·next n hn=>
    split at h
    ·cases h
    ·next h0=>
     cases h
     simp only [VR] at hx
     obtain ⟨q,hq,rfl⟩:=hx
     refine ⟨.pointer (some ⟨q.bl,q.ba+off+fd.offset,none⟩), ?_, ?_⟩
     ·simp [Instr.fieldAt,aV hu,hf,Instr.sureAddr,fieldPlace,fQ hn,h0,lW]
     ·simp only [VR];exact ⟨q,hq,by rw [Nat.add_assoc]⟩
   ·cases h
  ·cases h
 ·next fields b off hu=>
  split at h
  ·next fd hf=>
   split at h
   ·next n hn=>
    split at h
    ·cases h
    ·next h0=>
     cases h
     simp only [VR] at hx
     obtain ⟨bl,base,cs,elem,fr,x,h1,h2,rfl,h3⟩:=hx
     refine ⟨.pointer (some ⟨bl,base+off+fd.offset,none⟩), ?_, ?_⟩
     ·simp [Instr.fieldAt,aV hu,hf,Instr.sureAddr,fieldPlace,fQ hn,h0,lW]
     ·simp only [VR];exact ⟨bl,base,cs,elem,fr,x,h1,h2,by rw [Nat.add_assoc],h3⟩
   ·cases h
  ·cases h
 ·cases h
theorem I9 {t:TypeId} {a i v:AV} {x y:Value} (h:uy P t a i=some v) (hx:VR η a x) (hy:VR η i y) :
 ∃z,(Instr.indexAt t x y).run P w=.ok z w∧VR η v z:=by
 unfold uy at h
 split at h
 ·next e id off len cap k hu hk=>
  obtain ⟨kd,rfl⟩:=rZ hk hy
  split at h
  ·next size hn=>
   split at h
   ·next hr=>
    cases h
    simp only [VR] at hx
    obtain ⟨q,hq,hle,rfl⟩:=hx
    refine ⟨.pointer (some ⟨q.bl,q.ba+off+k.toNat * size,none⟩), ?_, ?_⟩
    ·simp [Instr.indexAt,asIntOf,aV hu,fQ hn,hr,lW]
    ·simp only [VR];exact ⟨q,hq,by rw [Nat.add_assoc]⟩
   ·cases h
  ·cases h
 ·next len e id off k hu hk=>
  obtain ⟨kd,rfl⟩:=rZ hk hy
  split at h
  ·next size hn=>
   split at h
   ·next hr=>
    cases h
    simp only [VR] at hx
    obtain ⟨q,hq,rfl⟩:=hx
    refine ⟨.pointer (some ⟨q.bl,q.ba+off+k.toNat * size,none⟩), ?_, ?_⟩
    ·simp [Instr.indexAt,asIntOf,aV hu,fQ hn,hr,lW,Instr.sureAddr]
    ·simp only [VR];exact ⟨q,hq,by rw [Nat.add_assoc]⟩
   ·cases h
  ·cases h
 ·next e l k hu hk=>
  obtain ⟨kd,rfl⟩:=rZ hk hy
  split at h
  ·next size hn=>
   split at h
   ·next h0=>
    split at h
    ·next b hb=>
     split at h
     ·next hsz=>
      cases h
      obtain ⟨bl,off,c,cs,elem,fr,x,rfl,hc,h1,h2,h3,h4⟩:=amI hx hb hsz
      have hlt:=(List.getElem?_eq_some_iff.1 hb).1
      have hr:0≤k∧k < (l.length:Int):=⟨h0,by omega⟩
      refine ⟨.pointer (some ⟨bl,off+k.toNat * size,none⟩), ?_, ?_⟩
      ·simp [Instr.indexAt,asIntOf,aV hu,fQ hn,hr,lW]
      ·simp only [VR];exact ⟨bl,off+k.toNat * size,cs,elem,fr,x,h1,h2,rfl,h3,h4⟩
     ·cases h
    ·cases h
   ·cases h
  ·cases h
 ·next len e b off k hu hk=>
  obtain ⟨kd,rfl⟩:=rZ hk hy
  split at h
  ·next size hn=>
   split at h
   ·next hr=>
    cases h
    simp only [VR] at hx
    obtain ⟨bl,base,cs,elem,fr,x,h1,h2,rfl,h3⟩:=hx
    refine ⟨.pointer (some ⟨bl,base+off+k.toNat * size,none⟩), ?_, ?_⟩
    ·simp [Instr.indexAt,asIntOf,aV hu,fQ hn,hr,lW,Instr.sureAddr]
    ·simp only [VR];exact ⟨bl,base,cs,elem,fr,x,h1,h2,by rw [Nat.add_assoc],h3⟩
   ·cases h
  ·cases h
 ·cases h
theorem aic (s:List UInt8) (k:Nat):((⟨⟨s⟩⟩:ByteArray)[k]?)=s[k]?:=by
 rw [getElem?_def,getElem?_def]
 rfl
theorem PX {t:TypeId} {a i v:AV} {x y:Value} (h:xJ P t a i=some v) (hx:VR η a x) (hy:VR η i y) :
 ∃z,(Instr.index t x y).run P w=.ok z w∧VR η v z:=by
 unfold xJ at h
 split at h
 ·next s k hu hk=>
  obtain ⟨kd,rfl⟩:=rZ hk hy
  split at h
  ·next h0=>
   split at h
   ·next c hc=>
    cases h
    simp only [VR] at hx;subst hx
    refine ⟨.int .u8 c.toNat, ?_,by simp [VR]⟩
    simp [Instr.index,asIntOf,aV hu,h0,aic,hc]
   ·cases h
  ·cases h
 ·next len e cs k hu hk=>
  obtain ⟨kd,rfl⟩:=rZ hk hy
  split at h
  ·next size hn=>
   split at h
   ·next hr=>
    simp only [VR] at hx
    obtain ⟨vs,rfl,hv⟩:=hx
    obtain ⟨z,hz,qp⟩:=acR (w:=w) h hv
    exact ⟨z,by simp [Instr.index,asIntOf,aV hu,fQ hn,hr,hz],qp⟩
   ·cases h
  ·cases h
 ·cases h
def iR (η:Env):Option AV→Option Value→Prop
 | none,none=>True
 | some a,some x=>VR η a x
 | _,_=>False
theorem xQ {sl:Bool} {len cap:Nat} {room:Nat→Bool} {lo hi:Option AV} {lo' hi':Option Value} {l h:Nat} (hb:qG len room lo hi=some (l,h)) (hroom:∀k,room k=true→k≤cap) (hlc:len≤cap)
 (hlo:iR η lo lo') (hhi:iR η hi hi') :
 (Instr.sliceBounds sl len cap lo' hi' none).run P w=.ok (l,h,cap) w∧l≤h∧h≤cap:=by
 unfold qG at hb
 split at hb
 ·cases hb
 next hh e=>
 split at hb
 ·cases hb
 next ll e2=>
 simp only [Option.some.injEq,Prod.mk.injEq] at hb
 obtain ⟨rfl,rfl⟩:=hb
 have hH:∀c,(match hi' with | some v=>Instr.sliceBound v cap c | none=>pure len).run P w=.ok hh w∧hh≤cap:=by
  intro c
  cases hi with
  | none=>cases hi' with
   | none=>simp [uw] at e;subst e;exact ⟨rfl,hlc⟩
   | some _=>exact hhi.elim
  | some a=>cases hi' with
   | none=>exact hhi.elim
   | some x=>
    simp only [uw] at e;simp only [iR] at hhi
    split at e
    ·next n hn=>
     obtain ⟨kd,rfl⟩:=rZ hn hhi
     split at e
     ·next h1=>
      cases e
      have:=hroom _ h1.2
      refine ⟨?_,this⟩
      simp [Instr.sliceBound,asIntOf,h1.1]
      intro hbad;omega
     ·cases e
    ·cases e
 have hL:∀c,(match lo' with | some v=>Instr.sliceBound v hh c | none=>pure 0).run P w=.ok ll w∧ll≤hh:=by
  intro c
  cases lo with
  | none=>cases lo' with
   | none=>simp [BH] at e2;subst e2;exact ⟨rfl,Nat.zero_le _⟩
   | some _=>exact hlo.elim
  | some a=>cases lo' with
   | none=>exact hlo.elim
   | some x=>
    simp only [BH] at e2;simp only [iR] at hlo
    split at e2
    ·next n hn=>
     obtain ⟨kd,rfl⟩:=rZ hn hlo
     split at e2
     ·next h1=>
      cases e2
      refine ⟨?_,by omega⟩
      simp [Instr.sliceBound,asIntOf,h1.1]
      intro hbad;omega
     ·cases e2
    ·cases e2
 refine ⟨?_,(hL .index).2,(hH .index).2⟩
 unfold Instr.sliceBounds
 have h1:=hH (if sl then .sliceAcap else .sliceAlen)
 have h2:=hL (if (none:Option Value).isSome then .slice3C else .sliceB)
 cases hi'<;>simp only [Sem.run_bind,Sem.run_pure,Result.andThen_ok] at h1 h2 ⊢<;>cases lo'<;>simp only [Sem.run_bind,Sem.run_pure,Result.andThen_ok] at h1 h2 ⊢<;>simp_all
end
end Go.aP
namespace Go.aP
noncomputable section
variable [aC]
set_option linter.unusedSectionVars false
set_option linter.unusedVariables false
set_option linter.unusedSimpArgs false
variable {P:Program} {η:Env} {σ σ':ah} {w:World}
theorem strSize (s:List UInt8):(⟨⟨s⟩⟩:ByteArray).size=s.length:=rfl
theorem aek (s:List UInt8) (l h:Nat):(⟨⟨s⟩⟩:ByteArray).extract l h=⟨⟨(s.take h).drop l⟩⟩:=by
 apply ByteArray.ext
 rw [ByteArray.data_extract]
 apply Array.ext'
 simp [List.drop_take,List.extract_eq_take_drop]
theorem FZ {ad:Addr} {c:Nat} (hs:ad.spot=none:=by rfl):VR η (.ro []) (.slice (some ad) 0 c):=by
 simp only [VR]
 obtain ⟨bl,off,sp⟩:=ad
 simp only at hs;subst hs
 right
 exact ⟨bl,off,c,[],0,rfl,Nat.zero_le _,by simp [aj],by simp,fun h=>absurd rfl h⟩
theorem Ud {len:Nat} {room:Nat→Bool} {lo hi:Option AV} {l h:Nat} (hb:qG len room lo hi=some (l,h)) (hr:∀k,room k=true→k≤len):h≤len:=by
 unfold qG at hb
 split at hb
 ·cases hb
 ·next e=>
  split at hb
  ·cases hb
  ·cases hb
   cases hi with
   | none=>simp [uw] at e;omega
   | some v=>
    simp only [uw] at e
    split at e
    ·split at e
     ·next h1=>cases e;exact hr _ h1.2
     ·cases e
    ·cases e
theorem LW (h:SR P η σ w) {t:TypeId} {a v:AV} {x:Value} {lo hi:Option AV} {lo' hi':Option Value} (hs:uD P t σ a lo hi=some v) (hx:VR η a x) (hlo:iR η lo lo') (hhi:iR η hi hi') :
 ∃y,(Instr.sliceAt t x lo' hi' none).run P w=.ok y w∧VR η v y:=by
 unfold uD at hs
 split at hs
 ·next s hu=>
  simp only [Option.map_eq_some_iff,Prod.exists] at hs
  obtain ⟨l,hh,hb,rfl⟩:=hs
  simp only [VR] at hx;subst hx
  have hB:=xQ (P:=P) (w:=w) (sl:=false) (cap:=s.length) hb (fun k hk=>by simpa using hk) (Nat.le_refl _) hlo hhi
  refine ⟨.string ⟨⟨(s.take hh).drop l⟩⟩, ?_,by simp [VR]⟩
  simp only [Instr.sliceAt,Instr.slice,aV hu,Sem.run_bind,Result.andThen_ok,strSize,Option.isSome_none,Bool.false_eq_true,if_false,hB.1,Sem.run_pure,aek,Sem.run_ite]
 ·next e id off len cap hu=>
  simp only [VR] at hx
  obtain ⟨q,hq,hle,rfl⟩:=hx
  split at hs
  ·next size c hn=>
   simp only [Option.bind_eq_some_iff,Prod.exists] at hs
   obtain ⟨l,hh,hb,hs⟩:=hs
   simp only [Option.getD_some] at hle ⊢
   have hB:=xQ (P:=P) (w:=w) (sl:=true) (cap:=c) hb (fun k hk=>by simpa using hk) hle hlo hhi
   split at hs
   ·next e1=>
    cases hs
    subst e1
    refine ⟨.slice (some ⟨q.bl,q.ba+off,none⟩) (hh - c) 0, ?_, ?_⟩
    ·simp only [Instr.sliceAt,Instr.slice,aV hu,Sem.run_bind,Result.andThen_ok,hB.1,fQ hn,Sem.run_pure,if_true,Nat.sub_self]
    ·simp only [VR];exact ⟨q,hq,by simp;omega,rfl⟩
   ·next e1=>
    cases hs
    refine ⟨.slice (some ⟨q.bl,q.ba+off+l * size,none⟩) (hh - l) (c - l), ?_, ?_⟩
    ·simp only [Instr.sliceAt,Instr.slice,aV hu,Sem.run_bind,Result.andThen_ok,hB.1,fQ hn,Sem.run_pure,if_neg e1,Option.map_some,lW]
    ·simp only [VR];exact ⟨q,hq,by simp;omega,by rw [Nat.add_assoc];rfl⟩
  ·next size hn=>
   split at hs
   ·next c et rw hg=>
    split at hs
    ·next het=>
     simp only [Option.bind_eq_some_iff,Prod.exists] at hs
     obtain ⟨l,hh,hb,hs⟩:=hs
     obtain ⟨q',hq',cs,elem,fr,hbk,r⟩:=h.obj _ _ hg rfl
     rw [hq] at hq';cases hq'
     obtain ⟨_,hes,hsz⟩:=r.room rfl
     rw [het,hn] at hsz
     cases hsz
     simp only [Option.getD_none] at hle ⊢
     have hB:=xQ (P:=P) (w:=w) (sl:=true) (cap:=(q.sz - off) / q.es) hb (fun k hk=>by simp at hk;omega) hle hlo hhi
     have E9:hh≤len:=by
      unfold qG at hb
      split at hb
      ·cases hb
      ·next e=>
       split at hb
       ·cases hb
       ·cases hb
        cases hi with
        | none=>simp [uw] at e;omega
        | some v=>
         simp only [uw] at e
         split at e
         ·split at e
          ·next h1=>cases e;simpa using h1.2
          ·cases e
         ·cases e
     have hsub:(q.sz - off) / q.es - l=(q.sz - (off+l * q.es)) / q.es:=by
      rw [← Nat.sub_sub,Nat.mul_comm l,Nat.sub_mul_div]
     split at hs
     ·next e1=>
      cases hs
      refine ⟨.slice (some ⟨q.bl,q.ba+off+l * q.es,none⟩) (hh - l) ((q.sz - off) / q.es - l), ?_, ?_⟩
      ·simp only [Instr.sliceAt,Instr.slice,aV hu,Sem.run_bind,Result.andThen_ok,hB.1,fQ hn,Sem.run_pure,Option.map_some,lW]
       rw [if_neg (by omega)]
      ·simp only [VR]
       refine ⟨q,hq, ?_, ?_⟩
       ·simp only [Option.getD_none];rw [← hsub];omega
       ·simp only [Option.getD_none];rw [← hsub,Nat.add_assoc]
     ·split at hs
      ·next e1 e2=>
       cases hs
       subst e2
       refine ⟨.slice (some ⟨q.bl,q.ba+off,none⟩) (hh - 0) ((q.sz - off) / q.es - 0), ?_, ?_⟩
       ·simp only [Instr.sliceAt,Instr.slice,aV hu,Sem.run_bind,Result.andThen_ok,hB.1,fQ hn,Sem.run_pure,Option.map_some,lW]
        split<;>simp
       ·simp only [VR];exact ⟨q,hq,by simp;omega,by simp⟩
      ·split at hs
       ·next e1 e2 e3=>
        cases hs
        subst e3
        simp only [Instr.sliceAt,Instr.slice,aV hu,Sem.run_bind,Result.andThen_ok,hB.1,fQ hn,Sem.run_pure,Option.map_some,lW,Nat.sub_self]
        by_cases e4:(q.sz - off) / q.es=hh
        ·rw [if_pos e4];exact ⟨_,rfl,FZ⟩
        ·rw [if_neg e4];exact ⟨_,rfl,FZ⟩
       ·cases hs
    ·cases hs
   ·cases hs
  ·cases hs
 ·next e hu=>
  split at hs
  ·next n hn=>
   simp only [Option.map_eq_some_iff,Prod.exists] at hs
   obtain ⟨l,hh,hb,rfl⟩:=hs
   simp only [VR] at hx;subst hx
   have hB:=xQ (P:=P) (w:=w) (sl:=true) (cap:=0) hb (fun k hk=>by simpa using hk) (Nat.le_refl _) hlo hhi
   have hl0:l=0:=by omega
   have hh0:hh=0:=by omega
   subst hl0;subst hh0
   refine ⟨.slice none 0 0, ?_,by simp [VR]⟩
   simp only [Instr.sliceAt,Instr.slice,aV hu,Sem.run_bind,Result.andThen_ok,hB.1,fQ hn,Sem.run_pure,if_true,Nat.sub_self]
  ·cases hs
 ·next e es hu=>
  split at hs
  ·next size hn=>
   simp only [Option.bind_eq_some_iff,Prod.exists] at hs
   obtain ⟨l,hh,hb,hs⟩:=hs
   have hx0:=hx
   simp only [VR] at hx
   rcases hx with ⟨rfl,pa,rfl⟩ | ⟨bl,off,c,xs,sz,rfl,hc,h1,h2,h3⟩
   ·have hB:=xQ (P:=P) (w:=w) (sl:=true) (cap:=0) hb (fun k hk=>by simpa using hk) (Nat.le_refl _) hlo hhi
    have hl0:l=0:=by omega
    have hh0:hh=0:=by omega
    subst hl0;subst hh0
    simp [G9] at hs
    subst hs
    refine ⟨.slice pa 0 0, ?_,by simp [VR]⟩
    have hB1:=hB.1
    rw [List.length_nil] at hB1
    simp only [Instr.sliceAt,Instr.slice,aV hu,Sem.run_bind,Result.andThen_ok,hB1,fQ hn,Sem.run_pure,if_true,Nat.sub_self]
   have hB:=xQ (P:=P) (w:=w) (sl:=true) (cap:=c) hb (fun k hk=>by simp at hk;omega) hc hlo hhi
   have E9:=Ud hb (fun k hk=>by simpa using hk)
   simp only [Instr.sliceAt,Instr.slice,aV hu,Sem.run_bind,Result.andThen_ok,hB.1,fQ hn,Sem.run_pure,Option.map_some,lW]
   unfold G9 at hs
   split at hs
   ·next e1=>
    cases hs;subst e1
    simp only [Nat.sub_self]
    by_cases e4:c=hh
    ·rw [if_pos e4];exact ⟨_,rfl,FZ⟩
    ·rw [if_neg e4];exact ⟨_,rfl,FZ⟩
   ·next e1=>
    split at hs
    ·next a ha=>
     split at hs
     ·next hsz=>
      cases hs
      obtain ⟨x,hxx,iL⟩:=h1.at ha
      have hsx:=h2 x (List.mem_of_getElem? hxx)
      have:sz=size:=by rw [← hsx,← H7 iL,hsz]
      subst this
      obtain ⟨cs,elem,fr,h4,h5,h6⟩:=h3 (by intro e;subst e;simp at ha)
      rw [if_neg (by omega)]
      refine ⟨_,rfl, ?_⟩
      have hlen:=h1.length
      simp only [VR]
      right
      refine ⟨bl,off+l * sz,c - l,(xs.take hh).drop l,sz,by congr 1;simp;omega,by simp;omega,(h1.take hh).drop l,fun y hy=>h2 y (List.mem_of_mem_take (List.mem_of_mem_drop hy)),fun _=>⟨cs,elem,fr,h4, ?_, ?_⟩⟩
      ·rw [BU (fun y hy=>h2 y (List.mem_of_mem_take (List.mem_of_mem_drop hy)))]
       have hL:=BU h2
       have hm:((xs.take hh).drop l).length=hh - l:=by simp;omega
       rw [hm]
       have h7:l * sz+(hh - l) * sz=hh * sz:=by rw [← Nat.add_mul];congr 1;omega
       have h8:hh * sz≤xs.length * sz:=Nat.mul_le_mul_right _ (by omega)
       omega
      ·intro k y hk
       rw [← XJ (fun y hy=>h2 y (List.mem_of_mem_take hy)),← afK h2,List.getElem?_drop,List.getElem?_take] at hk
       split at hk
       ·have:=h6 _ _ hk;rw [← Nat.add_assoc] at this;exact this
       ·cases hk
     ·cases hs
    ·cases hs
  ·cases hs
 ·next n e id off hu=>
  simp only [VR] at hx
  obtain ⟨q,hq,rfl⟩:=hx
  split at hs
  ·next size hn=>
   simp only [Option.map_eq_some_iff,Prod.exists] at hs
   obtain ⟨l,hh,hb,rfl⟩:=hs
   have hB:=xQ (P:=P) (w:=w) (sl:=false) (cap:=n) hb (fun k hk=>by simpa using hk) (Nat.le_refl _) hlo hhi
   have E9:=Ud hb (fun k hk=>by simpa using hk)
   simp only [Instr.sliceAt,Instr.sureAddr,aV hu,Sem.run_bind,Result.andThen_ok,hB.1,fQ hn,Sem.run_pure]
   by_cases e1:n=l
   ·subst e1
    rw [if_pos rfl,if_pos rfl]
    refine ⟨_,rfl, ?_⟩
    simp only [VR]
    exact ⟨q,hq,by simp;omega,by simp⟩
   ·rw [if_neg e1,if_neg e1]
    refine ⟨_,rfl, ?_⟩
    simp only [VR,lW]
    exact ⟨q,hq,by simp;omega,by simp [Nat.add_assoc]⟩
  ·cases hs
 ·cases hs
end
end Go.aP
namespace Go.aP
noncomputable section
variable [aC]
set_option linter.unusedSectionVars false
set_option linter.unusedVariables false
set_option linter.unusedSimpArgs false
variable {P:Program} {η:Env} {σ σ':ah} {w:World}
theorem abM (h:SR P η σ w) {t:TypeId} {ts:Array TypeId} {ty:TypeId} {a v:AV} {x:Value} (ht:ts[0]? = some t) (hs:GX P σ t a=some v) (hx:VR η a x) :
 ∃y,(Builtin.len_ ts ty #[x]).run P w=.ok y w∧VR η v y:=by
 unfold GX at hs
 split at hs
 ·next s hu=>cases hs;simp only [VR] at hx;subst hx;exact ⟨.int .i64 s.length,by simp [Builtin.len_,ht,aV hu,goInt,strSize],by simp [VR]⟩
 ·next e hu=>cases hs;simp only [VR] at hx;subst hx;exact ⟨.int .i64 0,by simp [Builtin.len_,ht,aV hu,goInt],by simp [VR]⟩
 ·next e id off n cap hu=>cases hs;simp only [VR] at hx;obtain ⟨q,hq,_,rfl⟩:=hx;exact ⟨.int .i64 n,by simp [Builtin.len_,ht,aV hu,goInt],by simp [VR]⟩
 ·next e l hu=>cases hs;simp only [VR] at hx;rcases hx with ⟨rfl,_,rfl⟩ | ⟨bl,off,c,xs,sz,rfl,_⟩;exact ⟨.int .i64 0,by simp [Builtin.len_,ht,aV hu,goInt],by simp [VR]⟩;exact ⟨.int .i64 l.length,by simp [Builtin.len_,ht,aV hu,goInt],by simp [VR]⟩
 ·next e1 e2 hu=>cases hs;simp only [VR] at hx;subst hx;exact ⟨.int .i64 0,by simp [Builtin.len_,ht,aV hu,goInt],by simp [VR]⟩
 ·next e1 e2 id hu=>
  split at hs
  ·next es hg=>
   cases hs
   simp only [VR] at hx;obtain ⟨q,hq,rfl⟩:=hx
   obtain ⟨q',hq',ms,clock,hb,hsz,_⟩:=h.obj _ _ hg rfl
   rw [hq] at hq';cases hq'
   refine ⟨.int .i64 es.length, ?_,by simp [VR]⟩
   simp [Builtin.len_,ht,aV hu,goInt,getObj,Sem.run,hb,hsz]
  ·cases hs
 ·next _ n _ hu=>cases hs;exact ⟨.int .i64 n,by cases x<;>simp [Builtin.len_,ht,aV hu,goInt],by simp [VR]⟩
 ·cases hs
theorem afo (b o i j:Nat):((⟨b,o+i,none⟩:Addr)==⟨b,o+j,none⟩)=(i==j):=by
 rw [Bool.eq_iff_iff];simp
section
variable {t e:TypeId}
theorem aaK {n:Nat} (hu:P.underlying t=some (.pointer e)) (hn:sizeT P e=some n) (h0:n≠0) (b o i j:Nat) :
 (Op.equal t (.pointer (some ⟨b,o+i,none⟩)) (.pointer (some ⟨b,o+j,none⟩))).run P w=.ok (i==j) w:=by
 have H:∀d:Nat,(Op.equalIn (d+1) t (.pointer (some ⟨b,o+i,none⟩)) (.pointer (some ⟨b,o+j,none⟩))).run P w=.ok (i==j) w:=fun d=>by
  simp only [Op.equalIn,Sem.run_bind,aV hu,Result.andThen_ok,fQ hn,if_pos h0,Sem.run_ite]
  simp only [sameAddr,beq_self_eq_true,if_true,Sem.run_pure,afo,Sem.run_bind,Result.andThen_ok]
 exact H 9999
theorem yc (hu:P.underlying t=some (.pointer e)) (a:Addr):(Op.equal t (.pointer (some a)) (.pointer none)).run P w=.ok false w:=by
 have H:∀d:Nat,(Op.equalIn (d+1) t (.pointer (some a)) (.pointer none)).run P w=.ok false w:=fun d=>by
  simp only [Op.equalIn,Sem.run_bind,aV hu,Result.andThen_ok,Sem.run_pure]
 exact H 9999
theorem xZ (hu:P.underlying t=some (.pointer e)) (a:Addr):(Op.equal t (.pointer none) (.pointer (some a))).run P w=.ok false w:=by
 have H:∀d:Nat,(Op.equalIn (d+1) t (.pointer none) (.pointer (some a))).run P w=.ok false w:=fun d=>by
  simp only [Op.equalIn,Sem.run_bind,aV hu,Result.andThen_ok,Sem.run_pure,Option.isNone_some]
 exact H 9999
theorem Ik (hu:P.underlying t=some (.slice e)) (a:Addr) (l c:Nat):(Op.equal t (.slice (some a) l c) (.slice none 0 0)).run P w=.ok false w:=by
 have H:∀d:Nat,(Op.equalIn (d+1) t (.slice (some a) l c) (.slice none 0 0)).run P w=.ok false w:=fun d=>by
  simp only [Op.equalIn,Sem.run_bind,aV hu,Result.andThen_ok,Sem.run_pure]
 exact H 9999
theorem Ij (hu:P.underlying t=some (.slice e)) (a:Addr) (l c:Nat):(Op.equal t (.slice none 0 0) (.slice (some a) l c)).run P w=.ok false w:=by
 have H:∀d:Nat,(Op.equalIn (d+1) t (.slice none 0 0) (.slice (some a) l c)).run P w=.ok false w:=fun d=>by
  simp only [Op.equalIn,Sem.run_bind,aV hu,Result.andThen_ok,Sem.run_pure,Option.isNone_some]
 exact H 9999
theorem aaG {ms:Array (String×TypeId)} (hu:P.underlying t=some (.interface ms)) (u:TypeId) (x:Value):(Op.equal t (.iface u x) .nilIface).run P w=.ok false w:=by
 have H:∀d:Nat,(Op.equalIn (d+1) t (.iface u x) .nilIface).run P w=.ok false w:=fun d=>by
  simp only [Op.equalIn,Sem.run_bind,aV hu,Result.andThen_ok,Sem.run_pure]
 exact H 9999
theorem aaI {ms:Array (String×TypeId)} (hu:P.underlying t=some (.interface ms)) (u:TypeId) (x:Value):(Op.equal t .nilIface (.iface u x)).run P w=.ok false w:=by
 have H:∀d:Nat,(Op.equalIn (d+1) t .nilIface (.iface u x)).run P w=.ok false w:=fun d=>by
  simp only [Op.equalIn,Sem.run_bind,aV hu,Result.andThen_ok,Sem.run_pure]
 exact H 9999
theorem aaH {k:TypeId} (hu:P.underlying t=some (.map k e)) (r:Nat):(Op.equal t (.map (some r)) (.map none)).run P w=.ok false w:=by
 have H:∀d:Nat,(Op.equalIn (d+1) t (.map (some r)) (.map none)).run P w=.ok false w:=fun d=>by
  simp only [Op.equalIn,Sem.run_bind,aV hu,Result.andThen_ok,Sem.run_pure]
 exact H 9999
theorem aaJ {k:TypeId} (hu:P.underlying t=some (.map k e)) (r:Nat):(Op.equal t (.map none) (.map (some r))).run P w=.ok false w:=by
 have H:∀d:Nat,(Op.equalIn (d+1) t (.map none) (.map (some r))).run P w=.ok false w:=fun d=>by
  simp only [Op.equalIn,Sem.run_bind,aV hu,Result.andThen_ok,Sem.run_pure,Option.isNone_some]
 exact H 9999
end
theorem mF {t:TypeId} {x y:Operand} {u u':Value} {r:Bool} (h:(Op.equal t u u').run P w=.ok r w)
 (hb:binOp .eql t u u'=(do pure (.bool (← Op.equal t u u')))) (hg:(eqGuard .eql t x y u u').run P w=.ok () w) :
 (do eqGuard .eql t x y u u';binOp .eql t u u':Sem Value).run P w=.ok (.bool r) w:=by
 simp only [Sem.run_bind,hg,Result.andThen_ok,hb,h,Sem.run_pure]
theorem mG {t:TypeId} {x y:Operand} {u u':Value} {r:Bool} (h:(Op.equal t u u').run P w=.ok r w)
 (hb:binOp .neq t u u'=(do pure (.bool (!(← Op.equal t u u'))))) (hg:(eqGuard .neq t x y u u').run P w=.ok () w) :
 (do eqGuard .neq t x y u u';binOp .neq t u u':Sem Value).run P w=.ok (.bool (!r)) w:=by
 simp only [Sem.run_bind,hg,Result.andThen_ok,hb,h,Sem.run_pure]
theorem XY {op:BinOp} {t:TypeId} {x y:Operand} {k:IntKind} {a b c d m n:Int} {v:AV} (hs:Ia op a b c d=some v) (h1:a≤m) (h2:m≤b) (h3:c≤n) (h4:n≤d) :
 ∃z,(do eqGuard op t x y (.int k m) (.int k n);binOp op t (.int k m) (.int k n):Sem Value).run P w=.ok z w∧VR η v z:=by
 have key:∀ (op:BinOp) (r:Bool),(eqGuard op t x y (.int k m) (.int k n)).run P w=.ok () w→binOp op t (.int k m) (.int k n)=(if k≠k then stuck "BinOp: operands of different kinds" else Op.intCmp op m n)→Op.intCmp op m n=pure (.bool r)→
  (do eqGuard op t x y (.int k m) (.int k n);binOp op t (.int k m) (.int k n):Sem Value).run P w=.ok (.bool r) w:=by
  intro op r hg hb hc
  rw [Sem.run_bind,hg,Result.andThen_ok,hb,if_neg (by simp),hc]
  rfl
 cases op<;>simp only [Ia,reduceCtorEq] at hs
 all_goals split at hs
 all_goals try split at hs
 all_goals cases hs
 all_goals refine ⟨_,key _ _ rfl rfl rfl, ?_⟩
 all_goals simp only [VR,Value.bool.injEq]
 all_goals first | (exact decide_eq_true (by omega)) | (exact decide_eq_false (by omega)) | (simp;omega) | skip
theorem afs (h:SR P η σ w) {op:BinOp} {t:TypeId} {x y:Operand} {a b v:AV} {u u':Value} (hs:nX P op t x y a b=some v) (hx:VR η a u) (hy:VR η b u') :
 ∃z,(do eqGuard op t x y u u';binOp op t u u':Sem Value).run P w=.ok z w∧VR η v z:=by
 unfold nX at hs
 split at hs
 ·split at hs
  ·next e hu=>
   split at hs
   ·next n hn=>
    split at hs
    ·next hc=>
     cases hs
     obtain ⟨rfl,h0⟩:=hc
     simp only [VR] at hx hy
     obtain ⟨q,hq,rfl⟩:=hx
     obtain ⟨q',hq',rfl⟩:=hy
     rw [hq] at hq';cases hq'
     exact ⟨_,mF (aaK hu hn h0 _ _ _ _) rfl rfl,by simp only [VR]⟩
    ·cases hs
   ·cases hs
  ·cases hs
 ·split at hs
  ·next e hu=>
   split at hs
   ·next n hn=>
    split at hs
    ·next hc=>
     cases hs
     obtain ⟨rfl,h0⟩:=hc
     simp only [VR] at hx hy
     obtain ⟨q,hq,rfl⟩:=hx
     obtain ⟨q',hq',rfl⟩:=hy
     rw [hq] at hq';cases hq'
     exact ⟨_,mG (aaK hu hn h0 _ _ _ _) rfl rfl,by simp only [VR]⟩
    ·cases hs
   ·cases hs
  ·cases hs
 ·split at hs
  ·next hu=>cases hs;simp only [VR] at hx hy;obtain ⟨q,hq,rfl⟩:=hx;subst hy;exact ⟨_,mF (yc hu _) rfl rfl,by simp only [VR]⟩
  ·cases hs
 ·split at hs
  ·next hu=>cases hs;simp only [VR] at hx hy;obtain ⟨q,hq,rfl⟩:=hy;subst hx;exact ⟨_,mF (xZ hu _) rfl rfl,by simp only [VR]⟩
  ·cases hs
 ·split at hs
  ·next hu=>cases hs;simp only [VR] at hx hy;obtain ⟨q,hq,rfl⟩:=hx;subst hy;exact ⟨_,mG (yc hu _) rfl rfl,by simp only [VR];rfl⟩
  ·cases hs
 ·split at hs
  ·next hu=>cases hs;simp only [VR] at hx hy;obtain ⟨q,hq,rfl⟩:=hy;subst hx;exact ⟨_,mG (xZ hu _) rfl rfl,by simp only [VR];rfl⟩
  ·cases hs
 ·split at hs
  ·next hu=>cases hs;simp only [VR] at hx hy;obtain ⟨bl,off,c,xs,sz,rfl,_⟩:=hx.resolve_left (by simp);subst hy;exact ⟨_,mF (Ik hu _ _ _) rfl rfl,by simp only [VR]⟩
  ·cases hs
 ·split at hs
  ·next hu=>cases hs;simp only [VR] at hx hy;obtain ⟨bl,off,c,xs,sz,rfl,_⟩:=hy.resolve_left (by simp);subst hx;exact ⟨_,mF (Ij hu _ _ _) rfl rfl,by simp only [VR]⟩
  ·cases hs
 ·split at hs
  ·next hu=>cases hs;simp only [VR] at hx hy;obtain ⟨bl,off,c,xs,sz,rfl,_⟩:=hx.resolve_left (by simp);subst hy;exact ⟨_,mG (Ik hu _ _ _) rfl rfl,by simp only [VR];rfl⟩
  ·cases hs
 ·split at hs
  ·next hu=>cases hs;simp only [VR] at hx hy;obtain ⟨bl,off,c,xs,sz,rfl,_⟩:=hy.resolve_left (by simp);subst hx;exact ⟨_,mG (Ij hu _ _ _) rfl rfl,by simp only [VR];rfl⟩
  ·cases hs
 ·split at hs
  ·next hu=>cases hs;simp only [VR] at hx hy;obtain ⟨bl,base,cs,elem,fr,x,_,_,rfl,_⟩:=hx;subst hy;exact ⟨_,mF (yc hu _) rfl rfl,by simp only [VR]⟩
  ·cases hs
 ·split at hs
  ·next hu=>cases hs;simp only [VR] at hx hy;obtain ⟨bl,base,cs,elem,fr,x,_,_,rfl,_⟩:=hy;subst hx;exact ⟨_,mF (xZ hu _) rfl rfl,by simp only [VR]⟩
  ·cases hs
 ·split at hs
  ·next hu=>cases hs;simp only [VR] at hx hy;obtain ⟨bl,base,cs,elem,fr,x,_,_,rfl,_⟩:=hx;subst hy;exact ⟨_,mG (yc hu _) rfl rfl,by simp only [VR];rfl⟩
  ·cases hs
 ·split at hs
  ·next hu=>cases hs;simp only [VR] at hx hy;obtain ⟨bl,base,cs,elem,fr,x,_,_,rfl,_⟩:=hy;subst hx;exact ⟨_,mG (xZ hu _) rfl rfl,by simp only [VR];rfl⟩
  ·cases hs
 ·split at hs
  ·next hu=>cases hs;simp only [VR] at hx hy;obtain ⟨q,hq,_,rfl⟩:=hx;subst hy;exact ⟨_,mF (Ik hu _ _ _) rfl rfl,by simp only [VR]⟩
  ·cases hs
 ·split at hs
  ·next hu=>cases hs;simp only [VR] at hx hy;obtain ⟨q,hq,_,rfl⟩:=hy;subst hx;exact ⟨_,mF (Ij hu _ _ _) rfl rfl,by simp only [VR]⟩
  ·cases hs
 ·split at hs
  ·next hu=>cases hs;simp only [VR] at hx hy;obtain ⟨q,hq,_,rfl⟩:=hx;subst hy;exact ⟨_,mG (Ik hu _ _ _) rfl rfl,by simp only [VR];rfl⟩
  ·cases hs
 ·split at hs
  ·next hu=>cases hs;simp only [VR] at hx hy;obtain ⟨q,hq,_,rfl⟩:=hy;subst hx;exact ⟨_,mG (Ij hu _ _ _) rfl rfl,by simp only [VR];rfl⟩
  ·cases hs
 ·split at hs
  ·next hu=>cases hs;simp only [VR] at hx hy;obtain ⟨q,rfl,hq⟩:=hx;subst hy;exact ⟨_,mF (aaG hu _ _) rfl rfl,by simp only [VR]⟩
  ·cases hs
 ·split at hs
  ·next hu=>cases hs;simp only [VR] at hx hy;obtain ⟨q,rfl,hq⟩:=hy;subst hx;exact ⟨_,mF (aaI hu _ _) rfl rfl,by simp only [VR]⟩
  ·cases hs
 ·split at hs
  ·next hu=>cases hs;simp only [VR] at hx hy;obtain ⟨q,rfl,hq⟩:=hx;subst hy;exact ⟨_,mG (aaG hu _ _) rfl rfl,by simp only [VR];rfl⟩
  ·cases hs
 ·split at hs
  ·next hu=>cases hs;simp only [VR] at hx hy;obtain ⟨q,rfl,hq⟩:=hy;subst hx;exact ⟨_,mG (aaI hu _ _) rfl rfl,by simp only [VR];rfl⟩
  ·cases hs
 ·split at hs
  ·next hu=>cases hs;simp only [VR] at hx hy;obtain ⟨q,hq,rfl⟩:=hx;subst hy;exact ⟨_,mF (aaH hu _) rfl rfl,by simp only [VR]⟩
  ·cases hs
 ·split at hs
  ·next hu=>cases hs;simp only [VR] at hx hy;obtain ⟨q,hq,rfl⟩:=hy;subst hx;exact ⟨_,mF (aaJ hu _) rfl rfl,by simp only [VR]⟩
  ·cases hs
 ·split at hs
  ·next hu=>cases hs;simp only [VR] at hx hy;obtain ⟨q,hq,rfl⟩:=hx;subst hy;exact ⟨_,mG (aaH hu _) rfl rfl,by simp only [VR];rfl⟩
  ·cases hs
 ·split at hs
  ·next hu=>cases hs;simp only [VR] at hx hy;obtain ⟨q,hq,rfl⟩:=hy;subst hx;exact ⟨_,mG (aaJ hu _) rfl rfl,by simp only [VR];rfl⟩
  ·cases hs
 ·split at hs
  ·next hk=>subst hk;simp only [VR] at hx hy;obtain ⟨m,h1,h2,rfl⟩:=hx;subst hy;exact XY hs h1 h2 (Int.le_refl _) (Int.le_refl _)
  ·cases hs
 ·split at hs
  ·next hk=>subst hk;simp only [VR] at hx hy;obtain ⟨m,h1,h2,rfl⟩:=hy;subst hx;exact XY hs (Int.le_refl _) (Int.le_refl _) h1 h2
  ·cases hs
 ·split at hs
  ·next u1 u2 h1 h2=>
   simp only [Option.bind_eq_some_iff] at hs
   obtain ⟨z,hz,hv⟩:=hs
   rw [uX h1 hx,uX h2 hy]
   exact ⟨z,uU hz w,wM _ _ _ hv⟩
  ·cases hs
end
end Go.aP
namespace Go.aP
noncomputable section
variable [aC]
set_option linter.unusedSectionVars false
set_option linter.unusedVariables false
set_option linter.unusedSimpArgs false
variable {P:Program} {η:Env} {σ σ':ah} {w:World}
def vG (η:Env):List (Nat×AV)→List (Nat×Value)→Prop
 | [],ps=>ps=[]
 | (i,a)::l,ps=>∃x rest,ps=(i,x)::rest∧VR η a x∧vG η l rest
theorem aaV (off:Nat):∀ (l:List Value) (k:Nat) (cs:Array Value),
 (l.zipIdx k).foldl (fun cs (c,j)=>cs.setIfInBounds (off+j) c) cs=setFrom cs (off+k) l
 | [],_,_=>rfl
 | v::l,k,cs=>by
  simp only [List.zipIdx_cons,List.foldl_cons]
  rw [aaV off l (k+1)]
  rfl
theorem anv {c c' vs:List AV} {off:Nat} {cs:Array Value} {xs:List Value} (h:tC c off vs=some c') (hc:aj η c cs.toList) (hv:aj η vs xs):aj η c' (setFrom cs off xs).toList:=by
 obtain ⟨h1,h2,h3⟩:=LV h
 have hl:=hc.length;have hl':=hv.length
 simp only [Array.length_toList] at hl
 refine aj.of ?_ fun k a hk=>?_
 ·have:=DJ xs cs off;simp only [Array.length_toList];omega
 ·rw [h3] at hk
  rw [Array.getElem?_toList,LU _ _ _ _ (by omega)]
  split at hk
  ·next h4=>
   rw [if_pos (by omega)]
   obtain ⟨x,hx,iL⟩:=hv.at hk
   exact ⟨x,hx,iL⟩
  ·rw [if_neg (by omega)]
   obtain ⟨x,hx,iL⟩:=hc.at hk
   rw [Array.getElem?_toList] at hx
   exact ⟨x,hx,iL⟩
theorem CO {place:Nat→Option (Nat×Nat)}:∀ {ps:List (Nat×AV)} {qs:List (Nat×Value)} {c c':List AV} {cs:Array Value},
 uq place c ps=some c'→vG η ps qs→aj η c cs.toList→∃cs',Instr.fill place cs qs=some cs'∧aj η c' cs'.toList
 | [],qs,c,c',cs,h,hp,hc=>by
  simp only [vG] at hp;subst hp
  simp only [uq,Option.some.injEq] at h;subst h
  exact ⟨cs,rfl,hc⟩
 | (i,a)::ps,qs,c,c',cs,h,hp,hc=>by
  simp only [vG] at hp
  obtain ⟨x,rest,rfl,hx,hp⟩:=hp
  unfold uq at h
  split at h
  ·cases h
  ·next off size hpl=>
   split at h
   ·next hsz=>
    split at h
    ·next c1 hr=>
     have hcells:=sD hx
     have hlen:=hcells.length
     have h1:=anv hr hc hcells
     obtain ⟨hb,_,_⟩:=LV hr
     have hcl:=hc.length
     simp only [Array.length_toList] at hlen hcl
     obtain ⟨cs',hf,hv⟩:=CO h hp h1
     refine ⟨cs', ?_,hv⟩
     unfold Instr.fill
     simp only [hpl]
     rw [if_neg (by simp;omega)]
     rw [← hf]
     congr 1
     have hz:=aaV off x.cells.toList 0 cs
     rw [Nat.add_zero] at hz
     rw [← hz,← Array.foldl_toList,Array.toList_zipIdx]
    ·cases h
   ·cases h
theorem OG {ev:Operand→Option AV} {ρ:Operand→Value} (hρ:∀x a,ev x=some a→VR η a (ρ x)):∀ {l:List (Nat×Operand)} {ps:List (Nat×AV)},
 yh ev l=some ps→vG η ps (l.map fun (i,x)=>(i,ρ x))
 | [],ps,h=>by simp [yh] at h;subst h;simp [vG]
 | (i,x)::l,ps,h=>by
  unfold yh at h
  split at h
  ·next v r hv hr=>
   cases h
   exact ⟨ρ x,_,rfl,hρ _ _ hv,OG hρ hr⟩
  ·cases h
theorem Cm {ev:Operand→Option AV} {ρ:Operand→Value} (hρ:∀x a,ev x=some a→VR η a (ρ x)):∀ {l:List Operand} {vs:List AV},
 uM ev l=some vs→aj η vs (l.map ρ)
 | [],vs,h=>by simp [uM] at h;subst h;simp [aj]
 | x::l,vs,h=>by
  unfold uM at h
  split at h
  ·next v r hv hr=>
   cases h
   exact aj.cons (hρ _ _ hv) (Cm hρ hr)
  ·cases h
theorem ach:∀ {fs:List Field} {ps:List (Nat×Nat)},F8 P fs=some ps→(fs.mapM fun f=>do pure (f.offset,← sizeOf f.type):Sem (List (Nat×Nat))).run P w=.ok ps w
 | [],ps,h=>by simp [F8] at h;subst h;rfl
 | f::fs,ps,h=>by
  unfold F8 at h
  split at h
  ·next n r hn hr=>
   cases h
   simp only [List.mapM_cons,Sem.run_bind,fQ hn,Result.andThen_ok,Sem.run_pure,ach hr]
  ·cases h
theorem afx {t:TypeId} {ps:List (Nat×AV)} {qs:Array (Nat×Value)} {v:AV} (hs:GK P t ps=some v) (hp:vG η ps qs.toList) :
 ∃y,(Instr.build t qs).run P w=.ok y w∧VR η v y:=by
 unfold GK at hs
 split at hs
 ·next zero fields hz hu=>
  obtain ⟨z,kV,hzv⟩:=zf hz
  split at hs
  ·next places hpl=>
   simp only [Option.map_eq_some_iff] at hs
   obtain ⟨c,hf,rfl⟩:=hs
   obtain ⟨cs,hf',hv⟩:=CO hf hp (hzv η)
   refine ⟨.agg cs, ?_,by simp only [VR];exact ⟨cs.toList,rfl,hv⟩⟩
   have hm:(fields.mapM fun f=>do pure (f.offset,← sizeOf f.type):Sem (Array (Nat×Nat))).run P w=.ok ⟨places⟩ w:=by
    rw [Array.mapM_eq_mapM_toList]
    simp only [Sem.run_map,ach hpl,Result.andThen_ok]
   simp only [Instr.build,Sem.run_bind,kV,Result.andThen_ok,aV hu,hm]
   have:(fun i:Nat=>(⟨places⟩:Array (Nat×Nat))[i]?)=fun i:Nat=>places[i]?:=by funext i;simp
   rw [this,hf']
   rfl
  ·cases hs
 ·next zero n elem hz hu=>
  obtain ⟨z,kV,hzv⟩:=zf hz
  split at hs
  ·next size hn=>
   simp only [Option.map_eq_some_iff] at hs
   obtain ⟨c,hf,rfl⟩:=hs
   obtain ⟨cs,hf',hv⟩:=CO hf hp (hzv η)
   refine ⟨.agg cs, ?_,by simp only [VR];exact ⟨cs.toList,rfl,hv⟩⟩
   simp only [Instr.build,Sem.run_bind,kV,Result.andThen_ok,aV hu,fQ hn,hf']
   rfl
  ·cases hs
 ·cases hs
theorem aj9 {t:TypeId} {a:AV} {x:Value} (h:Ag P t=some false) (hx:VR η a x):∃y,(Instr.makeInterface t x).run P w=.ok y w∧VR η (.dD t a) y:=by
 unfold Ag at h
 split at h<;>cases h
 next d hno hu=>
 refine ⟨.iface t x, ?_,by simp only [VR];exact ⟨x,rfl,hx⟩⟩
 simp only [Instr.makeInterface,Sem.run_bind,aV hu,Result.andThen_ok]
 cases d<;>simp_all
theorem Nq {t:TypeId} {i:TypeInfo} {z:Value} {a:AV} (hi:P.info? t=some i) (hz:i.zero=some z) (ha:jg 4 z=some a):(zeroValue t).run P w=.ok z w∧VR η a z:=
 ⟨by simp [zeroValue,y9 hi,hz],wM _ _ _ ha⟩
theorem aqv {t xt:TypeId} {a v:AV} {x:Value} {ok:Bool} (hs:He P a t ok=some v) (hx:VR η a x) :
 ∃y,(Instr.typeAssert x xt t ok).run P w=.ok y w∧VR η v y:=by
 unfold He at hs
 split at hs
 ·next u b hi=>
  simp only [VR] at hx
  obtain ⟨y,rfl,hy⟩:=hx
  have hd:∃d,P.underlying t=some d∧∀ms,d≠.interface ms:=by
   unfold Ag at hi
   split at hi<;>cases hi
   next d hno hu=>exact ⟨d,hu,fun ms e=>hno ms e⟩
  obtain ⟨d,hu,hno⟩:=hd
  split at hs
  ·next e=>
   cases hs
   subst e
   refine ⟨if ok then .tuple #[y,.bool true] else y, ?_, ?_⟩
   ·simp only [Instr.typeAssert,Sem.run_bind,aV hu,Result.andThen_ok]
    cases d<;>simp_all
   ·cases ok
    ·simpa using hy
    ·simp only [VR];exact ⟨[y,.bool true],rfl,aj.cons hy (aj.cons (by simp [VR]) (by simp [aj]))⟩
  ·next e=>
   split at hs
   ·next hok=>
    split at hs
    ·next i lI=>
     split at hs
     ·next z hz=>
      simp only [Option.map_eq_some_iff] at hs
      obtain ⟨a,ha,rfl⟩:=hs
      obtain ⟨h1,h2⟩:=Nq (w:=w) (η:=η) lI hz ha
      refine ⟨.tuple #[z,.bool false], ?_, ?_⟩
      ·subst hok
       simp only [Instr.typeAssert,Sem.run_bind,aV hu,Result.andThen_ok]
       have e':¬ u=t:=e
       cases d<;>simp_all
      ·simp only [VR];exact ⟨[z,.bool false],rfl,aj.cons h2 (aj.cons (by simp [VR]) (by simp [aj]))⟩
     ·cases hs
    ·cases hs
   ·cases hs
 ·next hi=>
  simp only [VR] at hx;subst hx
  have hd:∃d,P.underlying t=some d∧∀ms,d≠.interface ms:=by
   unfold Ag at hi
   split at hi<;>cases hi
   next d hno hu=>exact ⟨d,hu,fun ms e=>hno ms e⟩
  obtain ⟨d,hu,hno⟩:=hd
  split at hs
  ·next hok=>
   split at hs
   ·next i lI=>
    split at hs
    ·next z hz=>
     simp only [Option.map_eq_some_iff] at hs
     obtain ⟨a,ha,rfl⟩:=hs
     obtain ⟨h1,h2⟩:=Nq (w:=w) (η:=η) lI hz ha
     refine ⟨.tuple #[z,.bool false], ?_, ?_⟩
     ·subst hok
      simp only [Instr.typeAssert,Sem.run_bind,aV hu,Result.andThen_ok]
      cases d<;>simp_all
     ·simp only [VR];exact ⟨[z,.bool false],rfl,aj.cons h2 (aj.cons (by simp [VR]) (by simp [aj]))⟩
    ·cases hs
   ·cases hs
  ·cases hs
 ·cases hs
theorem ahc {l:List AV} {k:Nat} {v:AV} {x:Value} (hs:l[k]? = some v) (hx:VR η (.bV l) x):∃y,(Instr.extract x k).run P w=.ok y w∧VR η v y:=by
 simp only [VR] at hx
 obtain ⟨vs,rfl,hv⟩:=hx
 obtain ⟨y,hy,oN⟩:=hv.at hs
 exact ⟨y,by simp [Instr.extract,hy],oN⟩
theorem BM (s s':List UInt8):((⟨⟨s⟩⟩:ByteArray)==⟨⟨s'⟩⟩)=(s==s'):=by
 show ByteArray.beq _ _=_
 unfold ByteArray.beq
 simp
theorem aby {kd:TypeDesc} {a b:AV} {x y:Value} {r:Bool} (hf:match kd,a with | .int _,.i _ _ | .int _,.z _ _ _ | .string,.s _ | .bool,.b _=>True | _,_=>False) (h:P9 a b=some r) (hx:VR η a x) (hy:VR η b y) :
 Instr.sameNow kd x y=some r:=by
 unfold P9 at h
 split at h
 ·next k n k' n'=>
  simp only [VR] at hx hy;subst hx;subst hy
  cases kd<;>simp at hf
  simp only [Instr.sameNow];split at h
  ·next e=>rw [if_pos e];exact h
  ·cases h
 ·next s s'=>
  simp only [VR] at hx hy;subst hx;subst hy
  cases kd<;>simp at hf
  simp only [Instr.sameNow]
  rw [← h,BM]
 ·next s s'=>
  simp only [VR] at hx hy;subst hx;subst hy
  cases kd<;>simp at hf
  simp only [Instr.sameNow];exact h
 ·next k lo hi k' n=>
  simp only [VR] at hx hy;obtain ⟨m,h1,h2,rfl⟩:=hx;subst hy
  cases kd<;>simp at hf
  split at h
  ·next e=>
   cases h
   obtain ⟨e,e2⟩:=e
   simp only [Instr.sameNow]
   rw [if_pos e]
   have:m≠n:=by omega
   simp [this]
  ·cases h
 ·cases h
end
end Go.aP
namespace Go.aP
noncomputable section
variable [aC]
set_option linter.unusedSectionVars false
set_option linter.unusedVariables false
set_option linter.unusedSimpArgs false
variable {P:Program} {η:Env} {σ σ':ah} {w:World}
def vF (η:Env) (es:List (AV×AV)) (ms:List MapEntry):Prop:=
 ms.length=es.length∧∀ (k:Nat) e,es[k]? = some e→∃m,ms[k]? = some m∧VR η e.1 m.key∧VR η e.2 m.val
theorem vF.tail {e:AV×AV} {es:List (AV×AV)} {ms:List MapEntry} (h:vF η (e::es) ms):∃m rest,ms=m::rest∧VR η e.1 m.key∧VR η e.2 m.val∧vF η es rest:=by
 obtain ⟨hl,hp⟩:=h
 cases ms with
 | nil=>simp at hl
 | cons m rest=>
  obtain ⟨m',hm,h1,h2⟩:=hp 0 e (by simp)
  simp at hm;subst hm
  exact ⟨m,rest,rfl,h1,h2,by simpa using hl,fun k e' hk=>by simpa using hp (k+1) e' (by simpa using hk)⟩
def Bz (kd:TypeDesc) (a:AV):Prop:=match kd,a with | .int _,.i _ _ | .int _,.z _ _ _ | .string,.s _ | .bool,.b _=>True | _,_=>False
theorem find_ok {kd:TypeDesc} {k:AV} {x:Value} (hf:Bz kd k) (hx:VR η k x):∀ {es:List (AV×AV)} {ms:List MapEntry} {i:Nat} {r:Option (Nat×AV)},
 zU k es i=some r→vF η es ms→∃r',Instr.findNow kd x ms i=some r'∧(match r,r' with | none,none=>True | some (j,v),some (j',y)=>j=j'∧i≤j∧j < i+es.length∧VR η v y | _,_=>False)
 | [],ms,i,r,h,hm=>by
  simp only [zU,Option.some.injEq] at h;subst h
  have:ms=[]:=by have:=hm.1;cases ms<;>simp_all
  subst this
  exact ⟨none,rfl,trivial⟩
 | e::es,ms,i,r,h,hm=>by
  obtain ⟨m,rest,rfl,h1,h2,h3⟩:=hm.tail
  unfold zU at h
  split at h
  ·next hk=>
   cases h
   have hs:=aby (kd:=kd) hf hk hx h1
   exact ⟨some (i,m.val),by simp [Instr.findNow,hs],rfl,Nat.le_refl _,by simp,h2⟩
  ·next hk=>
   have hs:=aby (kd:=kd) hf hk hx h1
   obtain ⟨r',hr,hrel⟩:=find_ok hf hx h h3
   refine ⟨r',by simp [Instr.findNow,hs,hr], ?_⟩
   cases r<;>cases r'<;>simp only at hrel ⊢
   obtain ⟨a,b,c,d⟩:=hrel
   exact ⟨a,by omega,by simp;omega,d⟩
  ·cases h
theorem aaS {t:TypeId} {k:AV} (h:Iu P t k=true):∃kd,P.underlying t=some kd∧Bz kd k:=by
 unfold Iu at h
 split at h
 ·next hu=>exact ⟨_,hu,trivial⟩
 ·next hu=>exact ⟨_,hu,trivial⟩
 ·next hu=>exact ⟨_,hu,trivial⟩
 ·next hu=>exact ⟨_,hu,trivial⟩
 ·cases h
theorem XQ {t:TypeId} {k:AV} {x:Value} {kd:TypeDesc} (hu:P.underlying t=some kd) (hf:Bz kd k) (hx:VR η k x) (b:Bool):(Instr.checkKey b 10000 t x).run P w=.ok () w:=by
 have H:∀n:Nat,(Instr.checkKey b (n+1) t x).run P w=.ok () w:=fun n=>by
  cases kd<;>cases k<;>simp only [Bz] at hf<;>simp only [VR] at hx<;>(first | subst hx | obtain ⟨_,_,_,rfl⟩:=hx)<;>simp only [Instr.checkKey,Sem.run_bind,aV hu,Result.andThen_ok,Sem.run_pure]
 exact H 9999
def oO (kt et:TypeId) (y:Value) (ok:Bool) (es:Array MapEntry):Sem Value:=do
 Instr.checkKey es.isEmpty 10000 kt y
 let (v,k) ← match ← Instr.findKey kt y es.toList with
  | some (_,v)=>pure (v,true)
  | none=>pure (← zeroValue et,false)
 pure (if ok then .tuple #[v,.bool k] else v)
theorem lookup_nil {t kt et:TypeId} (hu:P.underlying t=some (.map kt et)) (y:Value) (ok:Bool):(Instr.lookup t (.map none) y ok).run P w=(oO kt et y ok #[]).run P w:=by
 simp only [Instr.lookup,oO,Sem.run_bind,aV hu,Result.andThen_ok,Sem.run_pure]
 congr 1
theorem Qu {t kt et:TypeId} (hu:P.underlying t=some (.map kt et)) (y:Value) (ok:Bool) {r:Nat} {ms:Array MapEntry} {clock:Nat} (hb:w.heap[r]? = some (.map ms clock)) :
 (Instr.lookup t (.map (some r)) y ok).run P w=(oO kt et y ok ms).run P w:=by
 have hg:(getObj r).run P w=.ok (.map ms clock) w:=by simp [getObj,Sem.run,hb]
 simp only [Instr.lookup,oO,Sem.run_bind,aV hu,Result.andThen_ok,Sem.run_pure,hg]
 congr 1
theorem ajS (h:SR P η σ w) {t:TypeId} {m k v:AV} {x y:Value} {ok:Bool} (hs:GY P t m k ok σ=some v) (hx:VR η m x) (hy:VR η k y) :
 ∃z,(Instr.lookup t x y ok).run P w=.ok z w∧VR η v z:=by
 unfold GY at hs
 split at hs
 ·next kt et hu=>
  split at hs
  ·next es hes=>
   split at hs
   ·next hfit=>
    obtain ⟨kd,mP,hf⟩:=aaS hfit
    have hms:∃ms:Array MapEntry,(Instr.lookup t x y ok).run P w=(oO kt et y ok ms).run P w∧vF η es ms.toList:=by
     split at hes
     ·cases hes
      simp only [VR] at hx;subst hx
      exact ⟨#[],lookup_nil hu y ok,by simp [vF]⟩
     ·next id=>
      simp only [VR] at hx
      obtain ⟨q,hq,rfl⟩:=hx
      split at hes
      ·next es' hg=>
       cases hes
       obtain ⟨q',hq',ms,clock,hb,hsz,hp⟩:=h.obj _ _ hg rfl
       rw [hq] at hq';cases hq'
       refine ⟨ms,Qu hu y ok hb,by simpa using hsz,fun k e hk=>?_⟩
       obtain ⟨m,hm,h1,h2⟩:=hp k e hk
       exact ⟨m,by simpa using hm,h1,h2⟩
      ·cases hes
     ·cases hes
    obtain ⟨ms,hrun,hmr⟩:=hms
    rw [hrun]
    have hck:∀b,(Instr.checkKey b 10000 kt y).run P w=.ok () w:=fun b=>XQ mP hf hy b
    have key:∀r,zU k es 0=some r→∃r',(Instr.findKey kt y ms.toList).run P w=.ok r' w∧(match r,r' with | none,none=>True | some (j,v),some (j',y)=>j=j'∧0≤j∧j < 0+es.length∧VR η v y | _,_=>False):=fun r hr=>by
     obtain ⟨r',h1,h2⟩:=find_ok hf hy hr hmr
     exact ⟨r',by simp only [Instr.findKey,Sem.run_bind,aV mP,Result.andThen_ok,h1,Sem.run_pure],h2⟩
    split at hs
    ·next j u hfound=>
     cases hs
     obtain ⟨r',h1,h2⟩:=key _ hfound
     cases r' with
     | none=>exact h2.elim
     | some p=>
      obtain ⟨j',z⟩:=p
      obtain ⟨rfl,_,_,qp⟩:=h2
      refine ⟨if ok then .tuple #[z,.bool true] else z, ?_, ?_⟩
      ·simp only [oO,Sem.run_bind,Result.andThen_ok,hck,h1,Sem.run_pure]
      ·cases ok
       ·simpa using qp
       ·simp only [VR];exact ⟨[z,.bool true],rfl,aj.cons qp (aj.cons (by simp [VR]) (by simp [aj]))⟩
    ·next hfound=>
     obtain ⟨r',h1,h2⟩:=key _ hfound
     cases r' with
     | some p=>exact h2.elim
     | none=>
      split at hs
      ·next i lI=>
       split at hs
       ·next z hz=>
        simp only [Option.map_eq_some_iff] at hs
        obtain ⟨a,ha,rfl⟩:=hs
        obtain ⟨h3,h4⟩:=Nq (w:=w) (η:=η) lI hz ha
        refine ⟨if ok then .tuple #[z,.bool false] else z, ?_, ?_⟩
        ·simp only [oO,Sem.run_bind,Result.andThen_ok,hck,h1,h3,Sem.run_pure]
        ·cases ok
         ·simpa using h4
         ·simp only [VR];exact ⟨[z,.bool false],rfl,aj.cons h4 (aj.cons (by simp [VR]) (by simp [aj]))⟩
       ·cases hs
      ·cases hs
    ·cases hs
   ·cases hs
  ·cases hs
 ·cases hs
theorem ano {k:AV} {x y:Value} {kd:TypeDesc} (hf:Bz kd k) (hx:VR η k x) (hy:Instr.sameNow kd x y=some true) (n:Nat):Instr.sameBits (n+1) y x=true:=by
 cases kd<;>cases k<;>simp only [Bz] at hf<;>simp only [VR] at hx<;>(first | subst hx | obtain ⟨_,_,_,rfl⟩:=hx)<;>cases y<;>simp only [Instr.sameNow,Option.some.injEq,reduceCtorEq] at hy
 ·simp_all [Instr.sameBits]
 ·split at hy
  ·simp_all [Instr.sameBits]
  ·cases hy
 ·split at hy
  ·simp_all [Instr.sameBits]
  ·cases hy
 ·next s s'=>
  obtain ⟨⟨l⟩⟩:=s'
  rw [BM] at hy
  simp only [Instr.sameBits,BM]
  simp_all
theorem vS (h:SR P η σ w) {c:List AV} {xs:Array Value} {elem:TypeId} {opn:Bool} {es:Nat} (hv:aj η c (xs.toList.take c.length)) (hle:c.length≤xs.size) (hshut:opn=false→c.length=xs.size)
 (hroom:opn=true→elem≠0∧0 < es∧sizeT P elem=some es) :
 St P η σ w (η.put σ.next ⟨w.heap.size,0,xs.size,es⟩) (σ.new (.cells c elem true opn)) { w with heap:=w.heap.push (.cells xs elem) }:=by
 refine St.alloc h _ _ _ rfl ?_
 refine ⟨xs,elem,(0,0),by simp, ?_⟩
 refine { fits:=by simp,le:=hle,shut:=hshut,cell:=?_,free:=fun _ k _=>by simp,whole:=fun _=>⟨rfl,by simp,fun _=>rfl⟩,room:=hroom }
 intro k a hk
 obtain ⟨x,hx,iL⟩:=hv.at hk
 have hkl:k < c.length:=(List.getElem?_eq_some_iff.1 hk).1
 rw [List.getElem?_take,if_pos hkl] at hx
 exact ⟨x,by simpa using hx,VR.mono (Env.AQ h _) _ _ iL⟩
theorem acE {q:Place} {id:Nat} (h0:q.ba=0):VR (η.put id q) (.p id 0) (.pointer (some ⟨q.bl,0,none⟩)):=by
 simp only [VR];exact ⟨q,by simp [Env.put],by simp [h0]⟩
theorem afe (h:SR P η σ w) {t:TypeId} {z:List AV} (hz:rV P t=some z) :
 ∃y w' η',(Instr.alloc t true (.tuple #[])).run P w=.ok y w'∧St P η σ w η' (σ.new (.cells z t true false)) w'∧VR η' (.p σ.next 0) y:=by
 obtain ⟨zv,kV,hzv⟩:=zf hz
 have hl:=(hzv η).length
 refine ⟨_,_,_, ?_,vS h (xs:=zv.cells) (es:=0) (opn:=false) ?_ (by simpa using Nat.le_of_eq hl) (fun _=>by simpa using hl) (by simp),acE rfl⟩
 ·simp only [Instr.alloc,Sem.run_bind,kV,Result.andThen_ok,newVar,newRow,newObj,Sem.run,Sem.run_pure]
 ·rw [hl,List.take_length];exact hzv η
theorem Vl (h:SR P η σ w) {t:TypeId} {a:AV} {x:Value} (hx:VR η a x) :
 ∃y w' η',(Instr.box t x).run P w=.ok y w'∧St P η σ w η' (σ.new (.cells a.cells t true false)) w'∧VR η' (.p σ.next 0) y:=by
 have hc:=sD hx
 have hl:=hc.length
 refine ⟨_,_,_, ?_,vS h (xs:=x.cells) (es:=0) (opn:=false) ?_ (by simpa using Nat.le_of_eq hl) (fun _=>by simpa using hl) (by simp),acE rfl⟩
 ·simp only [Instr.box,Sem.run_bind,Result.andThen_ok,newVar,newRow,newObj,Sem.run,Sem.run_pure]
 ·rw [hl,List.take_length];exact hc
theorem uK {t e:TypeId} {size bytes:Nat} {z:List AV} (h:pV P t=some (e,size,bytes,z)) :
 P.underlying t=some (.slice e)∧(∃i,P.info? e=some i∧i.size=size∧i.bytes=bytes)∧rV P e=some z∧e≠0∧z.length=size∧sizeT P e=some size:=by
 unfold pV at h
 split at h
 ·next e' hu=>
  split at h
  ·next i z' hi hz=>
   split at h
   ·next hc=>
    cases h
    exact ⟨hu,⟨i,hi,rfl,rfl⟩,hz,hc.1,hc.2,by simp [sizeT,hi]⟩
   ·cases h
  ·cases h
 ·cases h
theorem adi {z:List AV}:∀ (n k:Nat),k < n * z.length→(gy n z)[k]? = z[k % z.length]?
 | 0,k,h=>by simp at h
 | n+1,k,h=>by
  have hs:gy (n+1) z=z++gy n z:=by simp [gy,List.replicate_succ]
  rw [hs]
  have hp:0 < z.length:=by rcases Nat.eq_zero_or_pos z.length with e | e<;>simp_all
  by_cases hk:k < z.length
  ·rw [List.getElem?_append_left hk,Nat.mod_eq_of_lt hk]
  ·rw [List.getElem?_append_right (by omega),adi n (k - z.length) (by rw [Nat.succ_mul] at h;omega)]
   congr 1
   have:k=(k - z.length)+z.length:=by omega
   rw [this,Nat.add_mod_right];congr 1;omega
theorem JI {z:List AV} (n:Nat):(gy n z).length=n * z.length:=by simp [gy]
theorem Gw {z:List AV} {zv:Array Value} {n size:Nat} (hz:aj η z zv.toList) (hs:z.length=size):aj η (gy n z) ((Array.range (n * size)).map (zv[· % zv.size]!)).toList:=by
 have hl:=hz.length
 simp only [Array.length_toList] at hl
 refine aj.of ?_ fun k a hk=>?_
 ·rw [JI];simp [hs]
 ·have hkl:k < n * z.length:=by have:=(List.getElem?_eq_some_iff.1 hk).1;rwa [JI] at this
  rw [adi n k hkl] at hk
  obtain ⟨x,hx,hv⟩:=hz.at hk
  refine ⟨x, ?_,hv⟩
  have hk2:k < n * size:=by rw [← hs];exact hkl
  rw [Array.getElem?_toList] at hx
  rw [Array.getElem?_toList,Array.getElem?_map,Array.getElem?_range,if_pos hk2]
  have hm:k % zv.size < zv.size:=by
   have:=(Array.getElem?_eq_some_iff.1 hx).1;rwa [hl] at this
  rw [hl] at hx
  simp [hm,getElem!_pos]
  have:=(Array.getElem?_eq_some_iff.1 hx).2
  exact this
end
end Go.aP
