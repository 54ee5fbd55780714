/- All definitions of a law as rows of one table: which function or loop each is of; all are checked by a few runs. -/
import Derived.Test.YtogfeeabnklegaaGreatDoorAbsJ
set_option linter.all false
namespace Go.aP
noncomputable section
variable{P:Program}
inductive Row where
 |any (c:Jc)
 |told (f:FuncId) (st:W7) (sh:WN)
 |fn (f:FuncId) (st:W7) (sh:WN) (pe:Q2) (l:WF)
 |fs (f:FuncId) (st:W7) (sp:aN) (pe:Q2) (l:WF)
 |lp (f:FuncId) (way:Xs) (sp:aN) (ps:Q2) (l:WF)
def JB(P:Program)(f:FuncId):Code:=match P.funcs[f]? with
 |some fn=>fn.body.getD .skip
 |none=>.skip
def Row.ctr(P:Program)(tabs:QP):Row->Jc
 |.any c=>c
 |.told f st b=>qG P tabs f st b
 |.fn f st b _ _=>qG P tabs f st b
 |.fs f st a _ _=>P8 P tabs f st a.pre a.posts
 |.lp f way a _ _=>xB P tabs (yJ (JB P f) way) a.pre a.posts
def Row.hand:Row->Bool
 |.any _|.told _ _ _=>true
 |_=>false
def NU:Q2->List Nat->Bool
 |[],[]=>true
 |a::l,b::m=>Nat.beq a b&&NU l m
 |_,_=>false
def ahg:∀{l m:Q2},NU l m=true->l=m
 |[],[],_=>rfl
 |a::l,b::m,h=>by simp only[NU,aO]at h;rw[bV h.1,ahg h.2]
 |[],_::_,h=>by simp[NU]at h
 |_::_,[],h=>by simp[NU]at h
def NV:Xs->List (Q2×Nat)->Bool
 |[],[]=>true
 |(a,b)::l,(c,d)::m=>NU a c&&Nat.beq b d&&NV l m
 |_,_=>false
def ahh:∀{l m:Xs},NV l m=true->l=m
 |[],[],_=>rfl
 |(a,b)::l,(c,d)::m,h=>by simp only[NV,aO]at h;rw[ahg h.1.1,bV h.1.2,ahh h.2]
 |[],_::_,h=>by simp[NV]at h
 |_::_,[],h=>by simp[NV]at h
def BP:WN->List qH->Bool
 |[],[]=>true
 |.sc::l,.sc::m=>BP l m
 |.ag a::l,.ag b::m=>Nat.beq a b&&BP l m
 |_,_=>false
def aaE:∀{l m:WN},BP l m=true->l=m
 |[],[],_=>rfl
 |.sc::l,.sc::m,h=>by simp only[BP]at h;rw[aaE h]
 |.ag a::l,.ag b::m,h=>by simp only[BP,aO]at h;rw[bV h.1,aaE h.2]
 |[],_::_,h=>by simp[BP]at h
 |.sc::_,[],h=>by simp[BP]at h
 |.ag _::_,[],h=>by simp[BP]at h
 |.sc::_,.ag _::_,h=>by simp[BP]at h
 |.ag _::_,.sc::_,h=>by simp[BP]at h
def PE(rows:List Row)(f:FuncId)(way:Xs)(d:Q2):WF->Option Wz
 |[]=>some []
 |(k,a)::r=>match rows[a]? with
  |some (.lp e b c _ _)=>if(Nat.beq e f&&NV b (way++[(d,k)])&&Nat.beq c.key a&&c.pre.ok)=true then(PE rows f way d r).map ((k,c)::·)else none
  |_=>none
section
variable{tabs:QP}{rows:List Row}{I:ji}
abbrev zQ(P:Program)(tabs:QP)(rows:List Row):Nat->List GV->List GV->Prop:=P7 (rows.map (Row.ctr P tabs))
def QM{k:Nat}{r:Row}(b:rows[k]? =some r){gs a:Q1}(h:zQ P tabs rows k gs a):r.ctr P tabs gs a:=by unfold zQ P7 at h;rw[jy,b]at h;exact h
def Yu(g:∀k gs b,I k gs=some b->zQ P tabs rows k gs b){f:FuncId}{way:Xs}{i:Q2}:∀{l:WF}{a:Wz},PE rows f way i l=some a->
 Ez P tabs I (pK i (yJ (JB P f) way)) a
 |[],_,h=>by cases h;exact Ez.nil
 |(k,m)::r,a,h=>by
  unfold PE at h;split at h
  ·next s n t u l c=>
   split at h
   ·next j=>
    simp only[aO]at j;obtain⟨⟨⟨h1,d⟩,e⟩,o⟩:=j;have h1:=bV h1;have d:=ahh d;have e:=bV e;subst h1;subst d;subst e;obtain⟨p,q,rfl⟩:=bJ.1 h;refine Ez.cons o (λgs b hi=>?_) (Yu g q);have:=QM c (g _ _ _ hi);simp only[Row.ctr,afI]at this;exact this
   ·cases h
  ·cases h
def aae(P:Program)(tabs:QP)(pl:nJ)(fuel:Nat)(rows:List Row)(k:Nat)(d:aH):Bool:=
 match rows[k]? with
 |some (.fn f st j e l)=>match d with
  |.fn g h t=>BP j h&&(match P.funcs[f]? with
   |some fn=>match fn.body,PE rows f [] e l with
    |some c,some a=>t.chk (abM P tabs pl a fuel st g h fn.ntmps fn.results.toList (pK e c)) (List.replicate g.length .arg) []
    |_,_=>false
   |none=>false)
  |_=>false
 |some (.fs f st b e l)=>match d with
  |.tree n t=>Nat.beq n b.pre.np&&(match P.funcs[f]? with
   |some fn=>match fn.body,PE rows f [] e l with
    |some c,some a=>t.chk (abN P tabs pl a fuel st b fn.ntmps fn.results.toList (pK e c)) (List.replicate b.pre.np .arg) []
    |_,_=>false
   |none=>false)
  |_=>false
 |some (.lp f way b i l)=>match d with
  |.tree n t=>Nat.beq n b.pre.np&&(Nat.beq b.key k&&b.pre.ok)&&(match PE rows f way i l with
   |some a=>t.chk (Xk P tabs pl a fuel b (pK i (yJ (JB P f) way))) (List.replicate b.pre.np .arg) []
   |none=>false)
  |_=>false
 |_=>false
def aoU(i:xG tabs P.globals.size)(w:P.follows .mixedOrders=true)(x:yD P){pl:nJ}(p:∀I:ji,(∀k gs o,I k gs=some o->zQ P tabs rows k gs o)->Am P tabs I pl){fuel k:Nat}{d:aH}{r:Row}(D:rows[k]? =some r)
 (h:aae P tabs pl fuel rows k d=true):MK (zQ P tabs rows) d (r.ctr P tabs):=by
 intro I q gs o y;unfold aae at h;rw[D]at h;cases r with
 |any c=>cases h
 |told f st E=>cases h
 |fn f st E F l=>
  cases d with
  |tree n t=>cases h
  |uY g=>cases h
  |fn L M t=>
   simp only[aO]at h;have:=aaE h.1;subst this;have h:=h.2;split at h
   ·next fn s=>
    split at h
    ·next c j u v=>
     have z:yJ (JB P f) []=c:=by simp only[yJ,JB,s,u,uK]
     have m:=Yu q v;rw[z]at m;exact qG.SB i w x (p I q) s u m h y
    ·cases h
   ·cases h
 |fs f st G F l=>
  cases d with
  |fn a b t=>cases h
  |uY g=>cases h
  |tree n t=>
   simp only[aO]at h;have e:=bV h.1;have h:=h.2;split at h
   ·next fn s=>
    split at h
    ·next c j u v=>
     have z:yJ (JB P f) []=c:=by simp only[yJ,JB,s,u,uK]
     have m:=Yu q v;rw[z]at m;exact P8.SB i w x (p I q) e s u m h y
    ·cases h
   ·cases h
 |lp f way G N l=>
  cases d with
  |fn a b t=>cases h
  |uY g=>cases h
  |tree n t=>
   simp only[aO]at h;have e:=bV h.1.1;have J:=bV h.1.2.1;have A:=h.1.2.2;have h:=h.2;split at h
   ·next j v=>
    refine xB.ayF i w x (p I q) A e (Yu q v) (λgs o hi=>?_) h y;rw[J]at hi;exact QM D (q _ _ _ hi)
   ·cases h
def aad(P:Program)(tabs:QP)(pl:nJ)(rows:List Row)(Ds:Wc)(k:Nat):Bool:=match rows[k]?,Ds[k]? with
 |some r,some d=>r.hand ||aae P tabs pl 100000 rows k d
 |_,_=>false
def fK(P:Program)(tabs:QP)(pl:nJ)(rows:List Row)(Ds:Wc):Nat->Nat->Bool
 |_,0=>true
 |a,n+1=>aad P tabs pl rows Ds a&&fK P tabs pl rows Ds (a+1) n
def Seg(P:Program)(tabs:QP)(pl:nJ)(rows:List Row)(Ds:Wc)(a b:Nat):Prop:=∀k,a<=k->k<b->aad P tabs pl rows Ds k=true
def Seg.of{pl:nJ}{Ds:Wc}:∀{n a:Nat},fK P tabs pl rows Ds a n=true->Seg P tabs pl rows Ds a (a+n)
 |0,a,_,k,h1,b=>ah
 |n+1,a,h,k,h1,b=>by
  simp only[fK,aO]at h;by_cases e:k=a
  ·subst e;exact h.1
  ·exact Seg.of h.2 k ah ah
def Seg.join{pl:nJ}{Ds:Wc}{a b c:Nat}(h1:Seg P tabs pl rows Ds a b)(d:Seg P tabs pl rows Ds b c):Seg P tabs pl rows Ds a c:=λk f g=>by
 by_cases e:k<b
 ·exact h1 k f e
 ·exact d k ah g
def ML(P:Program)(tabs:QP)(rows:List Row)(Ds:Wc):Q2->Prop
 |[]=>True
 |k::l=>(∃r d,rows[k]? =some r/\Ds[k]? =some d/\MK (zQ P tabs rows) d (r.ctr P tabs))/\ML P tabs rows Ds l
def ML.at{Ds:Wc}:∀{l:Q2},ML P tabs rows Ds l->∀{k:Nat},k∈l->∀{r:Row}{d:aH},rows[k]? =some r->Ds[k]? =some d->MK (zQ P tabs rows) d (r.ctr P tabs)
 |a::l,h,k,hk,r,d,b,c=>by
  rcases bI.1 hk with rfl|hk
  ·obtain⟨g,i,h1,e,f⟩:=h.1;rw[b]at h1;cases h1;rw[c]at e;cases e;exact f
  ·exact ML.at h.2 hk b c
def J9:List Row->Nat->List Nat
 |[],_=>[]
 |r::l,k=>if r.hand=true then k::J9 l (k+1)else J9 l (k+1)
def ah7:∀{l:List Row}{k i:Nat}{r:Row},l[i]? =some r->r.hand=true->k+i∈J9 l k
 |[],_,_,_,h,_=>by simp at h
 |a::l,k,0,r,h,b=>by simp only[l9,bF]at h;subst h;unfold J9;rw[au b];simp
 |a::l,k,i+1,r,h,b=>by
  have:=ah7 (l:=l) (k:=k+1) (i:=i) (by simpa using h) b;rw[(ah:k+1+i=k+(i+1))]at this;unfold J9;split
  ·exact zC _ this
  ·exact this
def afo{C:Nat->List GV->List GV->Prop}:∀{Ds:Wc}{rows:List Row},Ds.length=rows.length->(∀(k:Nat) d r,Ds[k]? =some d->rows[k]? =some r->MK C d (r.ctr P tabs))->MB C Ds (rows.map (Row.ctr P tabs))
 |[],[],_,_=>trivial
 |d::Ds,r::rows,a,h=>⟨h 0 d r aA aA,afo (by simpa using a) λk b c h1 e=>h (k+1) b c (by simpa using h1) (by simpa using e)⟩
 |[],_::_,a,_=>by simp at a
 |_::_,[],a,_=>by simp at a
def aES(b:xG tabs P.globals.size)(l:P.follows .mixedOrders=true)(m:yD P){pl:nJ}(g:∀I:ji,(∀k gs a,I k gs=some a->zQ P tabs rows k gs a)->Am P tabs I pl){Ds:Wc}
 (h:ML P tabs rows Ds (J9 rows 0)) (c:Ds.length=rows.length) (e:Seg P tabs pl rows Ds 0 Ds.length):∀k gs a,(wE Ds).lim k gs=some a->zQ P tabs rows k gs a:=by
 refine axb (afo c λk d r i f=>?_);have n:=(gu.1 i).1;cases j:r.hand with
 |true=>refine h.at ?_ f i;have:=ah7 (k:=0) f j;rwa [mQ]at this
 |false=>have:=e k (vG _) n;unfold aad at this;rw[f,i]at this;simp only[j,Bl]at this;exact aoU b l m g f this
def Vm(P:Program)(rows:List Row)(k:Nat)(N:iI):fO:=match rows[k]? with
 |some (.fn _ st a _ _)=>@XH N P k st a
 |some (.told _ st a)=>@XH N P k st a
 |some (.fs _ st b _ _)=>@acr N P st b
 |_=>λ_ _=>none
def Z8(P:Program)(rows:List Row):Q2->iI->fO
 |[],_=>λ_ _=>none
 |[k],N=>Vm P rows k N
 |k::l,N=>orP (Vm P rows k N) (Z8 P rows l N)
def VU(rows:List Row)(f:FuncId)(k:Nat):Bool:=match rows[k]? with
 |some (.fn a _ _ _ _)=>Nat.beq a f
 |some (.told a _ _)=>Nat.beq a f
 |some (.fs a _ b _ _)=>Nat.beq a f&&Nat.beq b.key k&&b.pre.ok
 |_=>false
def ahd(rows:List Row)(es:List (FuncId×Q2)):Bool:=es.all λe=>e.2.all (VU rows e.1)
def akr(P:Program)(rows:List Row)(es:List (FuncId×Q2))(a:nJ):nJ:=λN=>es.map (λe=>(e.1,Z8 P rows e.2 N))++a N
def afW(b:xG tabs P.globals.size){T:aJ}(j:T.tabs=tabs)(g:∀k gs a,T.I k gs=some a->zQ P tabs rows k gs a){f:FuncId}{k:Nat}(h:VU rows f k=true):@fJ T P f (Vm P rows k T.toiI):=by
 subst j;unfold VU at h;unfold Vm;split at h
 ·next i st m n l c=>
  have:=bV h;subst this;exact akg λgs a d=>QM c (g k gs a d)
 ·next i st m c=>
  have:=bV h;subst this;exact akg λgs a d=>QM c (g k gs a d)
 ·next i st o n l c=>
  simp only[aO]at h;have:=bV h.1.1;subst this;have e:=bV h.1.2;exact ayV b h.2 λgs a d=>QM c (g k gs a (by rw[<-e];exact d))
 ·cases h
def afZ(a:xG tabs P.globals.size){T:aJ}(c:T.tabs=tabs)(d:∀k gs b,T.I k gs=some b->zQ P tabs rows k gs b){f:FuncId}:∀{l:Q2},l.all (VU rows f)=true->@fJ T P f (Z8 P rows l T.toiI)
 |[],_=>λ_ _ _ _ h=>by cases h
 |[k],h=>afW a c d (by simpa using h)
 |k::e::l,h=>by simp only[uG,aO]at h;exact ayP (afW a c d h.1) (afZ a c d (l:=e::l) (by simpa using h.2))
def azG(b:xG tabs P.globals.size){es:List (FuncId×Q2)}{c:nJ}(a:ahd rows es=true){I:ji}(j:∀k gs d,I k gs=some d->zQ P tabs rows k gs d)(f:Am P tabs I c):Am P tabs I (akr P rows es c):=by
 intro T i g p h;rcases jP.1 h with h|h
 ·obtain⟨e,l,rfl⟩:=rZ.1 h;unfold ahd at a;rw[List.all_eq_true]at a;exact afZ b i (by rw[g];exact j) (a e l)
 ·exact f T i g p h
end
end
open Go
def sB(l:Q2):Bool×Q2:=match l with
 |t::l=>(Nat.beq t 1,l)
 |[]=>(false,[])
def sBs:Nat->List Nat->List UInt8×Q2
 |0,l=>([],l)
 |k+1,l=>match rN l with|(a,l)=>match sBs k l with|(x,l)=>(UInt8.ofNat a::x,l)
def sV(cI:Nat->Int):Nat->Nat->List Nat->AV×Nat×Q2
 |0,q,l=>(.kG,q,l)
 |_,q,[]=>(.kG,q,[])
 |f+1,q,t::l=>
  let vs:Nat->Nat->List Nat->List AV×Nat×Q2:=λk=>Nat.rec (λq l=>([],q,l)) (λ_ r q l=>match sV cI f q l with|(a,q,l)=>match r q l with|(x,q,l)=>(a::x,q,l)) k
  match t with
  |0=>(.nd q,q+1,l)
  |1=>match rN l with|(a,l)=>(.nd a,a+1,l)
  |2=>match rN l with|(a,l)=>(.p a 0,q,l)
  |3=>match rN l with|(a,l)=>match rN l with|(b,l)=>(.p a b,q,l)
  |4=>match rN l with|(a,l)=>(.sv a q,q+1,l)
  |5=>match rN l with|(a,l)=>match rN l with|(b,l)=>(.sv a b,b+1,l)
  |6=>(.b false,q,l)
  |7=>(.b true,q,l)
  |8=>match rN l with|(k,l)=>match rN l with|(a,l)=>(.i (rK k) (cI a),q,l)
  |9=>match rN l with|(k,l)=>match sBs k l with|(x,l)=>(.s x,q,l)
  |10=>(.iq,q,l)
  |11=>(.rQ,q,l)
  |12=>(.AU,q,l)
  |13=>(.vS,q,l)
  |14=>match rN l with|(a,l)=>(.mp a,q,l)
  |15=>match rN l with|(g,l)=>match rN l with|(a,l)=>match vs a q l with|(x,q,l)=>match rN l with|(b,l)=>match vs b q l with|(y,q,l)=>(.fn g x y,q,l)
  |16=>match rN l with|(t,l)=>match sV cI f q l with|(v,q,l)=>(.jL t v,q,l)
  |17=>match rN l with|(k,l)=>match vs k q l with|(x,q,l)=>(.agg x,q,l)
  |18=>match rN l with|(k,l)=>match vs k q l with|(x,q,l)=>(.fG x,q,l)
  |19=>match rN l with|(a,l)=>match rN l with|(b,l)=>(.rx a b,q,l)
  |_=>(.kG,q,l)
def sVs(cI:Nat->Int):Nat->Nat->List Nat->List AV×Nat×Q2
 |0,q,l=>([],q,l)
 |k+1,q,l=>match sV cI 9 q l with|(a,q,l)=>match sVs cI k q l with|(x,q,l)=>(a::x,q,l)
def sSl(cI:Nat->Int):Nat->Nat->Nat->List Nat->List (Nat×AV)×Nat×Q2
 |0,_,q,l=>([],q,l)
 |k+1,p,q,l=>match rN l with|(d,l)=>match sV cI 9 q l with|(a,q,l)=>match sSl cI k (p+d+1) q l with|(x,q,l)=>((p+d,a)::x,q,l)
def sOb(cI:Nat->Int):Nat->Nat->List Nat->List (Nat×bP)×Nat×Q2
 |0,q,l=>([],q,l)
 |k+1,q,l=>match rN l with
  |(i,t::l)=>match(match t with
   |0=>match rN l with|(n,l)=>match sVs cI n q l with|(x,q,l)=>match rN l with|(e,l)=>match sB l with|(r,l)=>match sB l with|(o,l)=>(bP.cells x e r o,q,l)
   |1=>match rN l with|(n,l)=>match rN l with|(e,l)=>match sB l with|(r,l)=>(bP.vec n e r,n+1,l)
   |_=>match rN l with|(n,l)=>match rN l with|(a,l)=>match rN l with|(z,l)=>(bP.smap n (match a with
    |0=>none
    |k+1=>some (rK k)) (match z with
    |0=>none
    |k+1=>some k),n+1,l))with
   |(o,q,l)=>match sOb cI k q l with|(x,q,l)=>((i,o)::x,q,l)
  |(_,[])=>([],q,[])
def X9:Nat->Nat->List Nat->List W2×Q2
 |0,_,l=>([],l)
 |_,_,[]=>([],[])
 |k+1,p,t::l=>match t with
  |0=>match X9 k p l with|(x,l)=>(none::x,l)
  |1=>match X9 k (p+1) l with|(x,l)=>(some p::x,l)
  |_=>match rN l with|(a,l)=>match X9 k (a+1) l with|(x,l)=>(some a::x,l)
def sSh(cI:Nat->Int)(l:Q2):iM×Q2:=
 match rN l with|(n,l)=>match rN l with|(d,l)=>match rN l with|(e,l)=>match rN l with|(f,l)=>match rN l with|(a,l)=>match sSl cI a 0 0 l with|(g,q,l)=>match rN l with|(b,l)=>match sOb cI b q l with|(h,_,l)=>match rN l with|(i,l)=>match rN l with|(c,l)=>match X9 c 0 l with|(j,l)=>(⟨d,n,e,f,g,h,i,j⟩,l)
def sEx:Nat->fQ
 |0=>.ret
 |1=>.normal
 |e+2=>.exit e
def sPo(cI:Nat->Int):Nat->List Nat->List (fQ×iM)
 |0,_=>[]
 |k+1,l=>match rN l with|(e,l)=>match sSh cI l with|(s,l)=>(sEx e,s)::sPo cI k l
def rLo(cI:Nat->Int)(l:Q2):aN:=
 match rN l with|(k,l)=>match sSh cI l with|(s,l)=>match rN l with|(c,l)=>⟨k,s,sPo cI c l⟩
def gS:Wt->Nat->aN
 |a::_,0=>a
 |_::l,n+1=>gS l n
 |[],_=>rLo (λ_=>0) []
open Go.ChangeShapes Go.WideShapes Go.ChangeAt Go.RowKit
noncomputable section
variable{P:Program}{H:Type}{enc:TypeId×Value->H}
def aDT{w:World}{n m:Nat}{t:TypeId}{v:Value}{d:DataW H}{p:List MemPlace}{l:WK}{g:GV}(j:Az P n t=some l)(q:qp P t=some false)(z:v.cells.toList=[v])
 (h1:DataW.trod enc P w 0 (λ_=>true) true m t v.cells.toList=some (d,p)) (o:GR (AO w) g v):∀xs,g=.l xs->xs=[]\/∃f i,d=.slice f i/\f.length=xs.length:=by
 rintro xs rfl
 simp only[GR]at o;rcases o with⟨e,_⟩|⟨a,r,o⟩
 ·exact .inl e
 have s:∃a n c,v=.slice (some a) n c/\n=xs.length:=by obtain⟨b,c,G,A,-⟩:=o;exact⟨_,_,_,A,rfl⟩
 obtain⟨J,E,L,rfl,rfl⟩:=s;rw[z]at h1;cases n with
 |zero=>simp[Az]at j
 |succ n=>
  simp only[Az]at j;split at j
  ·next h=>obtain⟨b,e,-⟩:=DataW.trod_bool h h1;cases e
  ·next k h=>obtain⟨b,e,-⟩:=DataW.trod_int h h1;cases e
  ·next h=>obtain⟨b,e,-⟩:=DataW.trod_string h h1;cases e
  ·next e h=>
   rcases Deep.open_slice h h1 with⟨u,-⟩|⟨a,len,y,r,E,D,Pl,u,M,N,O,F,x,hi⟩
   ·cases u
   ·cases u;injection x with x _
    exact .inr ⟨_,_,x,aA⟩
  ·next Q h=>simp[qp,h]at q
  ·cases j
def amJ{w:World}{n B:Nat}{sz:DataW H->Nat}(Q:∀a c,a.length<=sz (.slice a c)):∀{ts:List TypeId}{vs:Q6}{y:List (DataW H)}{E:List MemPlace}{L:List (Bool×WK)},argTys P n ts=some L->DataW.TrodAll enc P w 0 (λ_=>true) true ts vs y E->
 (∀z∈DataW.weightsEach P ts y,z<=reachBytes)->(∀d∈y,sz d<=B)->(∀(j:Nat) t v,ts[j]? =some t->vs[j]? =some v->∃R,Value.okWide P w .any R t v)->∃gs,aU (AO w) gs vs/\hasArgs L gs/\∀xs,GV.l xs∈gs->xs.length<=B
 |[],[],[],E,L,f,h,F,G,k=>by simp only[argTys,bF]at f;subst f;exact⟨[],by simp[aU],by simp[hasArgs],λxs i=>by cases i⟩
 |t::ts,v::vs,d::y,E,L,f,h,F,G,k=>by
  obtain⟨p,q,⟨m,h1⟩,J,rfl⟩:=h;simp only[argTys]at f;split at f
  ·next l b r A o X=>
   split at f
   ·next Y=>
    cases f;obtain⟨gs,D,g2⟩:=ad4 n m t _ _ l A h1 (λz M=>F z (by simp only[DataW.weightsEach,jP];exact .inl M));obtain⟨S,T,U,V⟩:=amJ Q X J (λz M=>F z (by simp only[DataW.weightsEach,jP];exact .inr M)) (λd N=>G d (zC _ N)) (λj Z v' h1 J=>k (j+1) Z v' (by simpa using h1) (by simpa using J));obtain⟨R,hv⟩:=k 0 t v rfl rfl;obtain⟨o1,s⟩:=ayH hv;cases b with
    |true=>
     obtain⟨cs,rfl⟩:=o1 o;refine⟨.g gs::S,by simp only[aU];exact⟨_,_,rfl,by simp only[GR];exact⟨cs.toList,rfl,D⟩,T⟩,?_⟩;refine⟨by simp only[hasArgs];exact⟨_,_,rfl,g2,rfl,U⟩,λxs i=>?_⟩;rcases bI.1 i with e|i
     ·cases e
     ·exact V xs i
    |false=>
     have O:l.length=1:=by simpa using Y
     rcases s o with s|s
     rotate_left
     ·rw[s n]at A;cases A
     rw[s]at D;obtain⟨g,rfl⟩:∃g,gs=[g]:=Zj.1 (by rw[g2.scalars.2,O]);have x:g.scalar=true:=by have:=g2.scalars.1;simpa using this
     simp only[aU]at D;obtain⟨u,us,e1,W,_⟩:=D;cases e1;refine⟨g::S,by simp only[aU];exact⟨_,_,rfl,W,T⟩,?_⟩;refine⟨by simp only[hasArgs];exact⟨_,_,rfl,by cases g<;>first|exact g2|(simp[GV.scalar]at x),x,U⟩,λxs i=>?_⟩;rcases bI.1 i with e|i
     ·rcases aDT A o (by rw[s]) h1 W xs e.symm with q|⟨a,c,q1,q2⟩
      ·rw[q];exact vG _
      ·have q3:=G d Us;rw[q1]at q3;have:=Q a c;omega
     ·exact V xs i
   ·cases f
  ·cases f
 |[],_::_,_,_,_,_,h,_,_,_=>by simp[DataW.TrodAll]at h
 |[],[],_::_,_,_,_,h,_,_,_=>by simp[DataW.TrodAll]at h
 |_::_,[],_,_,_,_,h,_,_,_=>by simp[DataW.TrodAll]at h
 |_::_,_::_,[],_,_,_,h,_,_,_=>by simp[DataW.TrodAll]at h
def aw2{H:Type}{B:Nat}{sz:DataW H->Nat}(WS:∀b m,b.length<=sz (.slice b m)){enc:TypeId×Value->H}{tabs:QP}{f:FuncId}{fn:Func}{c:Code}{s:ChangeSpec}{n:Nat}{L:List (Bool×WK)}{tb:TypeId}{again:Bool}(hn:yD P)(hf:P.funcs[f]? =some fn)(hc:fn.body=some c)
 (hL:argTys P n fn.params.toList=some L) (o:laidOutB P=true) (r:∀t∈fn.params.toList,P.readableRec t=true/\t<P.types.size) (hr:fn.resultTypes =#[tb]) (A:P.underlying tb=some .bool)
 (g:s.vars=[]) (hs:∀a:List (DataW H),a.length=fn.params.size->s.fn H a ={results:=[.lit (.bool true)],args:=a})
 (Q:∀y,hasArgs L y->(∀xs,GV.l xs∈y->xs.length<=B)->qG P tabs f [] [.sc] y [.b true]) {W:World} {base:Nat} {args:QR} {a y:List (DataW H)} {k:List MemPlace}
 (hB:∀d∈a,sz d<=B) (D:∀(j:Nat) t v,fn.params[j]? =some t->args[j]? =some v->Value.okWide P W .any base t v)
 (R:DataW.Whole enc P fn.params.toList s.vars false W args.toList a y k) {vt:List TypeId} (S:vt=[]) (l:(DataW.weightsEach P (fn.params.toList++vt) (a++y)).all (·<=reachBytes)=true) (T:zK tabs (AO W) W):
 Calls P f args W λe W'=>∃v,e=.returned v/\s.post enc P fn false true false again W args v W':=by
 letI:aJ:=Tg [] [] 0
 have E:=R;have F:=λp hp=>R.lt p hp;obtain⟨p,q,U,V,rfl,ab,ac⟩:=R;have ad:=V;rw[g]at V;obtain⟨rfl,rfl⟩:=trodVars_none V;have X:∀z∈DataW.weightsEach P fn.params.toList a,z<=reachBytes:=by subst S;rw[pX,pX,List.all_eq_true]at l;exact λz hz=>by simpa using l z hz
 obtain⟨gl,g1,g2,g3⟩:=amJ WS hL U X hB (λj t v h1 Y=>⟨base,D j t v (by simpa using h1) (by simpa using Y)⟩);have w:=(Q gl g2 g3).call (AO W) W args.toList T g1;have G:=nG.calls hn hf hc w;have J:(⟨yV [] args.toList⟩:QR)=args:=by simp[yV]
 rw[J]at G;have Z:a.length=fn.params.size:=by
  have:∀{M:List TypeId}{N:Q6}{a:List (DataW H)}{ps:List MemPlace},DataW.TrodAll enc P W 0 (λ_=>true) true M N a ps->a.length=M.length:=by
   intro M;induction M with
   |nil=>intro N a ps h;cases N<;>cases a<;>simp[DataW.TrodAll]at h⊢
   |cons t M ih=>intro N a ps h;cases N<;>cases a<;>simp[DataW.TrodAll]at h⊢;obtain⟨_,_,_,Y,_⟩:=h;exact ih Y
  simpa using this U
 refine Calls.mono' G ?_;rintro e W' ⟨v,rfl,ae,i,us,rfl,O⟩
 simp only[aU]at O;obtain⟨u,af,rfl,hu,rfl⟩:=O;simp only[GR]at hu;subst hu;have x:s.fn H (a++[]) ={results:=[.lit (.bool true)],args:=a}:=by rw[pX];exact hs a Z
 simp only[pX]at E F;refine⟨_,rfl,azO (pa:=p) (pv:=[]) E (λ_ _ _=>?_) (λsp aa=>?_) (λ_ _=>?_) aA i.kept (ok_one (by rw[hr]) rfl (okWide_bool_mk A _))⟩
 ·rw[x,hr];exact trodAll_cons_mk (shut_bool A _) trodAll_mk0
 ·rw[x];exact amK o i.kept U r F aa
 ·rw[x,g];rfl
end
abbrev o1:Bool:=true
abbrev o0:Bool:=false
