/- All definitions of a law as rows of one table: which function or loop each is of; all are checked by a few runs. -/
import Derived.Test.YtmkkknckcnpljaaGreatDoorAbsJ
set_option linter.all false
namespace Go.aO
noncomputable section
variable{P:Program}
inductive Row where
 |any (c:G9)
 |told (f:FuncId) (st:W5) (sh:WN)
 |fn (f:FuncId) (st:W5) (sh:WN) (pe:Q2) (l:Wt)
 |fs (f:FuncId) (st:W5) (sp:aJ) (pe:Q2) (l:Wt)
 |lp (f:FuncId) (way:YY) (sp:aJ) (ps:Q2) (l:Wt)
def ER(P:Program)(f:FuncId):Code:=match P.funcs[f]? with
 |some fn=>fn.body.getD .skip
 |none=>.skip
def Row.ctr(P:Program)(tabs:Qt):Row->G9
 |.any c=>c
 |.told f st b=>ql P tabs f st b
 |.fn f st b _ _=>ql P tabs f st b
 |.fs f st a _ _=>Nu P tabs f st a.pre a.posts
 |.lp f d a _ _=>uJ P tabs (uP (ER P f) d) a.pre a.posts
def Row.hand:Row->Bool
 |.any _|.told _ _ _=>true
 |_=>false
def KU:Q2->List Nat->Bool
 |[],[]=>true
 |a::l,b::m=>Nat.beq a b&&KU l m
 |_,_=>false
def aeQ:∀{l m:Q2},KU l m=true->l=m
 |[],[],_=>rfl
 |a::l,b::m,h=>by simp only[KU,aK]at h;rw[bH h.1,aeQ h.2]
 |[],_::_,h=>by simp[KU]at h
 |_::_,[],h=>by simp[KU]at h
def KW:YY->List (Q2×Nat)->Bool
 |[],[]=>true
 |(a,b)::l,(c,d)::m=>KU a c&&Nat.beq b d&&KW l m
 |_,_=>false
def aeR:∀{l m:YY},KW l m=true->l=m
 |[],[],_=>rfl
 |(a,b)::l,(c,d)::m,h=>by simp only[KW,aK]at h;rw[aeQ h.1.1,bH h.1.2,aeR h.2]
 |[],_::_,h=>by simp[KW]at h
 |_::_,[],h=>by simp[KW]at h
def yJ:WN->List pz->Bool
 |[],[]=>true
 |.sc::l,.sc::m=>yJ l m
 |.ag a::l,.ag b::m=>Nat.beq a b&&yJ l m
 |_,_=>false
def Yp:∀{l m:WN},yJ l m=true->l=m
 |[],[],_=>rfl
 |.sc::l,.sc::m,h=>by simp only[yJ]at h;rw[Yp h]
 |.ag a::l,.ag b::m,h=>by simp only[yJ,aK]at h;rw[bH h.1,Yp h.2]
 |[],_::_,h=>by simp[yJ]at h
 |.sc::_,[],h=>by simp[yJ]at h
 |.ag _::_,[],h=>by simp[yJ]at h
 |.sc::_,.ag _::_,h=>by simp[yJ]at h
 |.ag _::_,.sc::_,h=>by simp[yJ]at h
def Cb(rows:List Row)(f:FuncId)(a:YY)(e:Q2):Wt->Option Wo
 |[]=>some []
 |(k,b)::r=>match rows[b]? with
  |some (.lp g c d _ _)=>if(Nat.beq g f&&KW c (a++[(e,k)])&&Nat.beq d.key b&&d.pre.ok)=true then(Cb rows f a e r).map ((k,d)::·)else none
  |_=>none
section
variable{tabs:Qt}{rows:List Row}{I:iG}
abbrev xR(P:Program)(tabs:Qt)(rows:List Row):Nat->List GV->List GV->Prop:=Ns (rows.map (Row.ctr P tabs))
def OI{k:Nat}{r:Row}(b:rows[k]? =some r){gs a:Q1}(h:xR P tabs rows k gs a):r.ctr P tabs gs a:=by unfold xR Ns at h;rw[iw,b]at h;exact h
def VJ(i:∀k gs b,I k gs=some b->xR P tabs rows k gs b){f:FuncId}{c:YY}{j:Q2}:∀{l:Wt}{a:Wo},Cb rows f c j l=some a->
 CW P tabs I (lX j (uP (ER P f) c)) a
 |[],_,h=>by cases h;exact CW.nil
 |(k,n)::r,a,h=>by
  unfold Cb at h;split at h
  ·next t o u v l d=>
   split at h
   ·next m=>
    simp only[aK]at m;obtain⟨⟨⟨h1,e⟩,g⟩,p⟩:=m;have h1:=bH h1;have e:=aeR e;have g:=bH g;subst h1;subst e;subst g;obtain⟨q,s,rfl⟩:=bg.1 h;refine CW.cons p (λgs b hi=>?_) (VJ i s);have:=OI d (i _ _ _ hi);simp only[Row.ctr,adz]at this;exact this
   ·cases h
  ·cases h
def OD(P:Program)(tabs:Qt)(pl:kG)(fuel:Nat)(rows:List Row)(k:Nat)(d:aB):Bool:=
 match rows[k]? with
 |some (.fn f st m e l)=>match d with
  |.fn h i t=>yJ m i&&(match P.funcs[f]? with
   |some fn=>match fn.body,Cb rows f [] e l with
    |some c,some a=>t.chk (UF P tabs pl a fuel st h i fn.ntmps fn.results.toList (lX e c)) (List.replicate h.length .arg) []
    |_,_=>false
   |none=>false)
  |_=>false
 |some (.fs f st b e l)=>match d with
  |.tree n t=>Nat.beq n b.pre.np&&(match P.funcs[f]? with
   |some fn=>match fn.body,Cb rows f [] e l with
    |some c,some a=>t.chk (ZK P tabs pl a fuel st b fn.ntmps fn.results.toList (lX e c)) (List.replicate b.pre.np .arg) []
    |_,_=>false
   |none=>false)
  |_=>false
 |some (.lp f g b j l)=>match d with
  |.tree n t=>Nat.beq n b.pre.np&&(Nat.beq b.key k&&b.pre.ok)&&(match Cb rows f g j l with
   |some a=>t.chk (Py P tabs pl a fuel b (lX j (uP (ER P f) g))) (List.replicate b.pre.np .arg) []
   |none=>false)
  |_=>false
 |_=>false
def alP(i:uN tabs P.globals.size)(w:P.follows .mixedOrders=true)(x:vO P){pl:kG}(p:∀I:iG,(∀k gs o,I k gs=some o->xR P tabs rows k gs o)->yD P tabs I pl){fuel k:Nat}{d:aB}{r:Row}(B:rows[k]? =some r)
 (h:OD P tabs pl fuel rows k d=true):JZ (xR P tabs rows) d (r.ctr P tabs):=by
 intro I q gs o y;unfold OD at h;rw[B]at h;cases r with
 |any c=>cases h
 |told f st D=>cases h
 |fn f st D E l=>
  cases d with
  |tree n t=>cases h
  |fU g=>cases h
  |fn J L t=>
   simp only[aK]at h;have:=Yp h.1;subst this;have h:=h.2;split at h
   ·next fn s=>
    split at h
    ·next c j u v=>
     have z:uP (ER P f) []=c:=by simp only[uP,ER,s,u,qP]
     have m:=VJ q v;rw[z]at m;exact ql.PW i w x (p I q) s u m h y
    ·cases h
   ·cases h
 |fs f st F E l=>
  cases d with
  |fn a b t=>cases h
  |fU g=>cases h
  |tree n t=>
   simp only[aK]at h;have e:=bH h.1;have h:=h.2;split at h
   ·next fn s=>
    split at h
    ·next c j u v=>
     have z:uP (ER P f) []=c:=by simp only[uP,ER,s,u,qP]
     have m:=VJ q v;rw[z]at m;exact Nu.PW i w x (p I q) e s u m h y
    ·cases h
   ·cases h
 |lp f G F M l=>
  cases d with
  |fn a b t=>cases h
  |fU g=>cases h
  |tree n t=>
   simp only[aK]at h;have e:=bH h.1.1;have H:=bH h.1.2.1;have A:=h.1.2.2;have h:=h.2;split at h
   ·next j v=>
    refine uJ.awc i w x (p I q) A e (VJ q v) (λgs o hi=>?_) h y;rw[H]at hi;exact OI B (q _ _ _ hi)
   ·cases h
def SE(P:Program)(tabs:Qt)(pl:kG)(rows:List Row)(Ds:W3)(k:Nat):Bool:=match rows[k]?,Ds[k]? with
 |some r,some d=>r.hand ||OD P tabs pl 100000 rows k d
 |_,_=>false
def bY(P:Program)(tabs:Qt)(pl:kG)(rows:List Row)(Ds:W3):Nat->Nat->Bool
 |_,0=>true
 |a,n+1=>SE P tabs pl rows Ds a&&bY P tabs pl rows Ds (a+1) n
def Seg(P:Program)(tabs:Qt)(pl:kG)(rows:List Row)(Ds:W3)(a b:Nat):Prop:=∀k,a<=k->k<b->SE P tabs pl rows Ds k=true
def Seg.of{pl:kG}{Ds:W3}:∀{n a:Nat},bY P tabs pl rows Ds a n=true->Seg P tabs pl rows Ds a (a+n)
 |0,a,_,k,h1,b=>by omega
 |n+1,a,h,k,h1,b=>by
  simp only[bY,aK]at h;by_cases e:k=a
  ·subst e;exact h.1
  ·exact Seg.of h.2 k (by omega) (by omega)
def Seg.join{pl:kG}{Ds:W3}{a b c:Nat}(h1:Seg P tabs pl rows Ds a b)(d:Seg P tabs pl rows Ds b c):Seg P tabs pl rows Ds a c:=λk f g=>by
 by_cases e:k<b
 ·exact h1 k f e
 ·exact d k (by omega) g
def J3(P:Program)(tabs:Qt)(rows:List Row)(Ds:W3):Q2->Prop
 |[]=>True
 |k::l=>(∃r d,rows[k]? =some r/\Ds[k]? =some d/\JZ (xR P tabs rows) d (r.ctr P tabs))/\J3 P tabs rows Ds l
def J3.at{Ds:W3}:∀{l:Q2},J3 P tabs rows Ds l->∀{k:Nat},k∈l->∀{r:Row}{d:aB},rows[k]? =some r->Ds[k]? =some d->JZ (xR P tabs rows) d (r.ctr P tabs)
 |a::l,h,k,hk,r,d,b,c=>by
  rcases bD.1 hk with rfl|hk
  ·obtain⟨g,i,h1,e,f⟩:=h.1;rw[b]at h1;cases h1;rw[c]at e;cases e;exact f
  ·exact J3.at h.2 hk b c
def IV:List Row->Nat->List Nat
 |[],_=>[]
 |r::l,k=>if r.hand=true then k::IV l (k+1)else IV l (k+1)
def afo:∀{l:List Row}{k i:Nat}{r:Row},l[i]? =some r->r.hand=true->k+i∈IV l k
 |[],_,_,_,h,_=>by simp at h
 |a::l,k,0,r,h,b=>by simp only[kW,aZ]at h;subst h;unfold IV;rw[aj b];simp
 |a::l,k,i+1,r,h,b=>by
  have:=afo (l:=l) (k:=k+1) (i:=i) (by simpa using h) b;rw[show k+1+i=k+(i+1) by omega]at this;unfold IV;split
  ·exact zk _ this
  ·exact this
def ada{C:Nat->List GV->List GV->Prop}:∀{Ds:W3}{rows:List Row},Ds.length=rows.length->(∀(k:Nat) d r,Ds[k]? =some d->rows[k]? =some r->JZ C d (r.ctr P tabs))->JU C Ds (rows.map (Row.ctr P tabs))
 |[],[],_,_=>trivial
 |d::Ds,r::rows,a,h=>⟨h 0 d r (by simp) (by simp),ada (by simpa using a) λk b c h1 e=>h (k+1) b c (by simpa using h1) (by simpa using e)⟩
 |[],_::_,a,_=>by simp at a
 |_::_,[],a,_=>by simp at a
def aB5(b:uN tabs P.globals.size)(l:P.follows .mixedOrders=true)(m:vO P){pl:kG}(g:∀I:iG,(∀k gs a,I k gs=some a->xR P tabs rows k gs a)->yD P tabs I pl){Ds:W3}
 (h:J3 P tabs rows Ds (IV rows 0)) (c:Ds.length=rows.length) (e:Seg P tabs pl rows Ds 0 Ds.length):∀k gs a,(yE Ds).lim k gs=some a->xR P tabs rows k gs a:=by
 refine auM (ada c λk d r i f=>?_);have n:=(fB.1 i).1;cases j:r.hand with
 |true=>refine h.at ?_ f i;have:=afo (k:=0) f j;rwa [jQ]at this
 |false=>have:=e k (vT _) n;unfold SE at this;rw[f,i]at this;simp only[j,Aq]at this;exact alP b l m g f this
def Sm(P:Program)(rows:List Row)(k:Nat)(N:gY):fC:=match rows[k]? with
 |some (.fn _ st a _ _)=>@Va N P k st a
 |some (.told _ st a)=>@Va N P k st a
 |some (.fs _ st b _ _)=>@aao N P st b
 |_=>λ_ _=>none
def X3(P:Program)(rows:List Row):Q2->gY->fC
 |[],_=>λ_ _=>none
 |[k],N=>Sm P rows k N
 |k::l,N=>orP (Sm P rows k N) (X3 P rows l N)
def Tn(rows:List Row)(f:FuncId)(k:Nat):Bool:=match rows[k]? with
 |some (.fn a _ _ _ _)=>Nat.beq a f
 |some (.told a _ _)=>Nat.beq a f
 |some (.fs a _ b _ _)=>Nat.beq a f&&Nat.beq b.key k&&b.pre.ok
 |_=>false
def aeN(rows:List Row)(es:List (FuncId×Q2)):Bool:=es.all λe=>e.2.all (Tn rows e.1)
def ahz(P:Program)(rows:List Row)(es:List (FuncId×Q2))(a:kG):kG:=λN=>es.map (λe=>(e.1,X3 P rows e.2 N))++a N
def adS(b:uN tabs P.globals.size){T:aI}(j:T.tabs=tabs)(g:∀k gs a,T.I k gs=some a->xR P tabs rows k gs a){f:FuncId}{k:Nat}(h:Tn rows f k=true):@eY T P f (Sm P rows k T.togY):=by
 subst j;unfold Tn at h;unfold Sm;split at h
 ·next i st m n l c=>
  have:=bH h;subst this;exact ahq λgs a d=>OI c (g k gs a d)
 ·next i st m c=>
  have:=bH h;subst this;exact ahq λgs a d=>OI c (g k gs a d)
 ·next i st o n l c=>
  simp only[aK]at h;have:=bH h.1.1;subst this;have e:=bH h.1.2;exact aws b h.2 λgs a d=>OI c (g k gs a (by rw[<-e];exact d))
 ·cases h
def adV(a:uN tabs P.globals.size){T:aI}(c:T.tabs=tabs)(d:∀k gs b,T.I k gs=some b->xR P tabs rows k gs b){f:FuncId}:∀{l:Q2},l.all (Tn rows f)=true->@eY T P f (X3 P rows l T.togY)
 |[],_=>λ_ _ _ _ h=>by cases h
 |[k],h=>adS a c d (by simpa using h)
 |k::e::l,h=>by simp only[sW,aK]at h;exact awm (adS a c d h.1) (adV a c d (l:=e::l) (by simpa using h.2))
def aw7(b:uN tabs P.globals.size){es:List (FuncId×Q2)}{c:kG}(a:aeN rows es=true){I:iG}(j:∀k gs d,I k gs=some d->xR P tabs rows k gs d)(f:yD P tabs I c):yD P tabs I (ahz P rows es c):=by
 intro T i g p h;rcases iW.1 h with h|h
 ·obtain⟨e,l,rfl⟩:=nR.1 h;unfold aeN at a;rw[List.all_eq_true]at a;exact adV b i (by rw[g];exact j) (a e l)
 ·exact f T i g p h
end
end
open Go
def sB(l:Q2):Bool×Q2:=match l with
 |t::l=>(Nat.beq t 1,l)
 |[]=>(false,[])
def sBs:Nat->List Nat->List UInt8×Q2
 |0,l=>([],l)
 |k+1,l=>match rN l with|(a,l)=>match sBs k l with|(x,l)=>(UInt8.ofNat a::x,l)
def sV(cI:Nat->Int):Nat->Nat->List Nat->AV×Nat×Q2
 |0,q,l=>(.jD,q,l)
 |_,q,[]=>(.jD,q,[])
 |f+1,q,t::l=>
  let vs:Nat->Nat->List Nat->List AV×Nat×Q2:=λk=>Nat.rec (λq l=>([],q,l)) (λ_ r q l=>match sV cI f q l with|(a,q,l)=>match r q l with|(x,q,l)=>(a::x,q,l)) k
  match t with
  |0=>(.nd q,q+1,l)
  |1=>match rN l with|(a,l)=>(.nd a,a+1,l)
  |2=>match rN l with|(a,l)=>(.p a 0,q,l)
  |3=>match rN l with|(a,l)=>match rN l with|(b,l)=>(.p a b,q,l)
  |4=>match rN l with|(a,l)=>(.sv a q,q+1,l)
  |5=>match rN l with|(a,l)=>match rN l with|(b,l)=>(.sv a b,b+1,l)
  |6=>(.b false,q,l)
  |7=>(.b true,q,l)
  |8=>match rN l with|(k,l)=>match rN l with|(a,l)=>(.i (rK k) (cI a),q,l)
  |9=>match rN l with|(k,l)=>match sBs k l with|(x,l)=>(.s x,q,l)
  |10=>(.gu,q,l)
  |11=>(.oU,q,l)
  |12=>(.yR,q,l)
  |13=>(.sH,q,l)
  |14=>match rN l with|(a,l)=>(.mp a,q,l)
  |15=>match rN l with|(g,l)=>match rN l with|(a,l)=>match vs a q l with|(x,q,l)=>match rN l with|(b,l)=>match vs b q l with|(y,q,l)=>(.fn g x y,q,l)
  |16=>match rN l with|(t,l)=>match sV cI f q l with|(v,q,l)=>(.jc t v,q,l)
  |17=>match rN l with|(k,l)=>match vs k q l with|(x,q,l)=>(.agg x,q,l)
  |18=>match rN l with|(k,l)=>match vs k q l with|(x,q,l)=>(.eG x,q,l)
  |19=>match rN l with|(a,l)=>match rN l with|(b,l)=>(.rx a b,q,l)
  |_=>(.jD,q,l)
def sVs(cI:Nat->Int):Nat->Nat->List Nat->List AV×Nat×Q2
 |0,q,l=>([],q,l)
 |k+1,q,l=>match sV cI 9 q l with|(a,q,l)=>match sVs cI k q l with|(x,q,l)=>(a::x,q,l)
def sSl(cI:Nat->Int):Nat->Nat->Nat->List Nat->List (Nat×AV)×Nat×Q2
 |0,_,q,l=>([],q,l)
 |k+1,p,q,l=>match rN l with|(d,l)=>match sV cI 9 q l with|(a,q,l)=>match sSl cI k (p+d+1) q l with|(x,q,l)=>((p+d,a)::x,q,l)
def sOb(cI:Nat->Int):Nat->Nat->List Nat->List (Nat×bC)×Nat×Q2
 |0,q,l=>([],q,l)
 |k+1,q,l=>match rN l with
  |(i,t::l)=>match(match t with
   |0=>match rN l with|(n,l)=>match sVs cI n q l with|(x,q,l)=>match rN l with|(e,l)=>match sB l with|(r,l)=>match sB l with|(o,l)=>(bC.cells x e r o,q,l)
   |1=>match rN l with|(n,l)=>match rN l with|(e,l)=>match sB l with|(r,l)=>(bC.vec n e r,n+1,l)
   |_=>match rN l with|(n,l)=>match rN l with|(a,l)=>match rN l with|(z,l)=>(bC.smap n (match a with
    |0=>none
    |k+1=>some (rK k)) (match z with
    |0=>none
    |k+1=>some k),n+1,l))with
   |(o,q,l)=>match sOb cI k q l with|(x,q,l)=>((i,o)::x,q,l)
  |(_,[])=>([],q,[])
def VA:Nat->Nat->List Nat->List QR×Q2
 |0,_,l=>([],l)
 |_,_,[]=>([],[])
 |k+1,p,t::l=>match t with
  |0=>match VA k p l with|(x,l)=>(none::x,l)
  |1=>match VA k (p+1) l with|(x,l)=>(some p::x,l)
  |_=>match rN l with|(a,l)=>match VA k (a+1) l with|(x,l)=>(some a::x,l)
def sSh(cI:Nat->Int)(l:Q2):gV×Q2:=
 match rN l with|(n,l)=>match rN l with|(d,l)=>match rN l with|(e,l)=>match rN l with|(f,l)=>match rN l with|(a,l)=>match sSl cI a 0 0 l with|(g,q,l)=>match rN l with|(b,l)=>match sOb cI b q l with|(h,_,l)=>match rN l with|(i,l)=>match rN l with|(c,l)=>match VA c 0 l with|(j,l)=>(⟨d,n,e,f,g,h,i,j⟩,l)
def sEx:Nat->eU
 |0=>.ret
 |1=>.normal
 |e+2=>.exit e
def sPo(cI:Nat->Int):Nat->List Nat->List (eU×gV)
 |0,_=>[]
 |k+1,l=>match rN l with|(e,l)=>match sSh cI l with|(s,l)=>(sEx e,s)::sPo cI k l
def rLo(cI:Nat->Int)(l:Q2):aJ:=
 match rN l with|(k,l)=>match sSh cI l with|(s,l)=>match rN l with|(c,l)=>⟨k,s,sPo cI c l⟩
def gS:WF->Nat->aJ
 |a::_,0=>a
 |_::l,n+1=>gS l n
 |[],_=>rLo (λ_=>0) []
abbrev o1:Bool:=true
abbrev o0:Bool:=false
def oK(p:WP->List (Nat×Bool)->Leaf->Bool):Tree->List Bool->List Nd->List (Nat×Bool)->Bool
 |.step nd t,q,a,b=>oK p t q (a++[nd]) b
 |.ite n t e,[],a,b=>t.chk p a ((n,true)::b)&&e.chk p a ((n,false)::b)
 |.ite n t _,true::q,a,b=>oK p t q a ((n,true)::b)
 |.ite n _ e,false::q,a,b=>oK p e q a ((n,false)::b)
 |.ret l,_,a,b=>p a b (.ret l)
 |.tail f l,_,a,b=>p a b (.tail f l)
 |.dead,_,_,_=>true
def SG{p:WP->List (Nat×Bool)->Leaf->Bool}:∀(t:Tree)(a:WP)(b:W7),oK p t [] a b=t.chk p a b
 |.step nd t,a,b=>by simp only[oK,Tree.chk];exact SG t _ _
 |.ite n t e,a,b=>by simp only[oK,Tree.chk]
 |.ret l,a,b=>by simp only[oK,Tree.chk]
 |.tail f l,a,b=>by simp only[oK,Tree.chk]
 |.dead,a,b=>by simp only[oK,Tree.chk]
def OC{p:WP->List (Nat×Bool)->Leaf->Bool}:∀(t:Tree)(q:WK)(b:WP)(c:W7),oK p t (q++[true]) b c=true->oK p t (q++[false]) b c=true->oK p t q b c=true
 |.step nd t,q,b,c,h1,a=>by simp only[oK]at h1 a⊢;exact OC t q _ _ h1 a
 |.ite n t e,[],b,c,h1,a=>by simp only[aW,oK]at h1 a⊢;rw[SG]at h1 a;rw[h1,a];rfl
 |.ite n t e,true::q,b,c,h1,a=>by simp only[bJ,oK]at h1 a⊢;exact OC t q _ _ h1 a
 |.ite n t e,false::q,b,c,h1,a=>by simp only[bJ,oK]at h1 a⊢;exact OC e q _ _ h1 a
 |.ret l,q,b,c,h1,_=>by simp only[oK]at h1⊢;exact h1
 |.tail f l,q,b,c,h1,_=>by simp only[oK]at h1⊢;exact h1
 |.dead,q,b,c,_,_=>by simp only[oK]
noncomputable def wG (P:Program) (tabs:Qt) (pl:kG) (rows:List Row) (k:Nat) (q:WK):Option Row->Option aB->Bool
 |some (.fn f st j e l),some (.fn g h t)=>yJ j h&&(match P.funcs[f]? with
   |some fn=>match fn.body,Cb rows f [] e l with
    |some c,some a=>oK (UF P tabs pl a 100000 st g h fn.ntmps fn.results.toList (lX e c)) t q (List.replicate g.length .arg) []
    |_,_=>false
   |none=>false)
 |some (.lp f b d i l),some (.tree n t)=>Nat.beq n d.pre.np&&(Nat.beq d.key k&&d.pre.ok)&&(match Cb rows f b i l with
   |some a=>oK (Py P tabs pl a 100000 d (lX i (uP (ER P f) b))) t q (List.replicate d.pre.np .arg) []
   |none=>false)
 |_,_=>false
def yA{P:Program}{tabs:Qt}{pl:kG}{rows:List Row}{k:Nat}(q:WK):∀(r:Option Row)(d:Option aB),wG P tabs pl rows k (q++[true]) r d=true->wG P tabs pl rows k (q++[false]) r d=true->wG P tabs pl rows k q r d=true
 |some (.fn f st o j l),some (.fn p s t),h1,a=>by
  simp only[wG,aK]at h1 a⊢;refine⟨h1.1,?_⟩;have h1:=h1.2;have a:=a.2;cases h:P.funcs[f]? with
  |none=>rw[h]at h1;cases h1
  |some fn=>
   rw[h]at h1 a;simp only at h1 a⊢;cases i:fn.body with
   |none=>rw[i]at h1;cases h1
   |some c=>
    rw[i]at h1 a;cases e:Cb rows f [] j l with
    |none=>rw[e]at h1;cases h1
    |some b=>rw[e]at h1 a;exact OC t q _ _ h1 a
 |some (.lp f g u m l),some (.tree n t),h1,a=>by
  simp only[wG,aK]at h1 a⊢;refine⟨h1.1,?_⟩;have h1:=h1.2;have a:=a.2;cases e:Cb rows f g m l with
  |none=>rw[e]at h1;cases h1
  |some b=>rw[e]at h1 a;exact OC t q _ _ h1 a
def akg{P:Program}{tabs:Qt}{pl:kG}{rows:List Row}{Ds:W3}{k:Nat}(h:wG P tabs pl rows k [] rows[k]? Ds[k]? =true):bY P tabs pl rows Ds k 1=true:=by
 simp only[bY,Nq];unfold SE;cases a:rows[k]? with
 |none=>rw[a]at h;simp[wG]at h
 |some r=>
  cases b:Ds[k]? with
  |none=>rw[a,b]at h;cases r<;>simp[wG]at h
  |some d=>
   rw[a,b]at h;cases r with
   |fn f st e g l=>
    cases d with
    |fn i j t=>simp only[wG,aK,SG]at h;simp only[mY,OD,a,aK];exact .inr h
    |_=>simp[wG]at h
   |lp f c m o l=>
    cases d with
    |tree n t=>simp only[wG,aK,SG]at h;simp only[mY,OD,a,aK];exact .inr h
    |_=>simp[wG]at h
   |_=>cases d<;>simp[wG]at h
