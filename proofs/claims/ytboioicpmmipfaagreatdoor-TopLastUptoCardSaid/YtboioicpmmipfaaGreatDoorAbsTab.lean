/- All definitions of a law as rows of one table: which function or loop each is of; all are checked by a few runs. -/
import Derived.Test.YtboioicpmmipfaaGreatDoorAbsJ
set_option linter.all false
namespace Go.aP
noncomputable section
variable{P:Program}
inductive Row where
 |any (c:Je)
 |told (f:FuncId) (st:W7) (sh:WN)
 |fn (f:FuncId) (st:W7) (sh:WN) (pe:Q2) (l:WF)
 |fs (f:FuncId) (st:W7) (sp:aN) (pe:Q2) (l:WF)
 |lp (f:FuncId) (way:Xs) (sp:aN) (ps:Q2) (l:WF)
def JD(P:Program)(f:FuncId):Code:=match P.funcs[f]? with
 |some fn=>fn.body.getD .skip
 |none=>.skip
def Row.ctr(P:Program)(tabs:QP):Row->Je
 |.any c=>c
 |.told f st b=>qG P tabs f st b
 |.fn f st b _ _=>qG P tabs f st b
 |.fs f st a _ _=>PU P tabs f st a.pre a.posts
 |.lp f way a _ _=>xC P tabs (yN (JD P f) way) a.pre a.posts
def Row.hand:Row->Bool
 |.any _|.told _ _ _=>true
 |_=>false
def NM:Q2->List Nat->Bool
 |[],[]=>true
 |a::l,b::m=>Nat.beq a b&&NM l m
 |_,_=>false
def ahw:∀{l m:Q2},NM l m=true->l=m
 |[],[],_=>rfl
 |a::l,b::m,h=>by simp only[NM,aO]at h;rw[bV h.1,ahw h.2]
 |[],_::_,h=>by simp[NM]at h
 |_::_,[],h=>by simp[NM]at h
def NP:Xs->List (Q2×Nat)->Bool
 |[],[]=>true
 |(a,b)::l,(c,d)::m=>NM a c&&Nat.beq b d&&NP l m
 |_,_=>false
def ahx:∀{l m:Xs},NP l m=true->l=m
 |[],[],_=>rfl
 |(a,b)::l,(c,d)::m,h=>by simp only[NP,aO]at h;rw[ahw h.1.1,bV h.1.2,ahx h.2]
 |[],_::_,h=>by simp[NP]at h
 |_::_,[],h=>by simp[NP]at h
def BP:WN->List qH->Bool
 |[],[]=>true
 |.sc::l,.sc::m=>BP l m
 |.ag a::l,.ag b::m=>Nat.beq a b&&BP l m
 |_,_=>false
def aaH:∀{l m:WN},BP l m=true->l=m
 |[],[],_=>rfl
 |.sc::l,.sc::m,h=>by simp only[BP]at h;rw[aaH h]
 |.ag a::l,.ag b::m,h=>by simp only[BP,aO]at h;rw[bV h.1,aaH h.2]
 |[],_::_,h=>by simp[BP]at h
 |.sc::_,[],h=>by simp[BP]at h
 |.ag _::_,[],h=>by simp[BP]at h
 |.sc::_,.ag _::_,h=>by simp[BP]at h
 |.ag _::_,.sc::_,h=>by simp[BP]at h
def Pn(rows:List Row)(f:FuncId)(way:Xs)(d:Q2):WF->Option Ww
 |[]=>some []
 |(k,a)::r=>match rows[a]? with
  |some (.lp e b c _ _)=>if(Nat.beq e f&&NP b (way++[(d,k)])&&Nat.beq c.key a&&c.pre.ok)=true then(Pn rows f way d r).map ((k,c)::·)else none
  |_=>none
section
variable{tabs:QP}{rows:List Row}{I:jl}
abbrev zT(P:Program)(tabs:QP)(rows:List Row):Nat->List GV->List GV->Prop:=PS (rows.map (Row.ctr P tabs))
def QH{k:Nat}{r:Row}(b:rows[k]? =some r){gs a:Q1}(h:zT P tabs rows k gs a):r.ctr P tabs gs a:=by unfold zT PS at h;rw[jA,b]at h;exact h
def Yp(g:∀k gs b,I k gs=some b->zT P tabs rows k gs b){f:FuncId}{way:Xs}{i:Q2}:∀{l:WF}{a:Ww},Pn rows f way i l=some a->
 Ey P tabs I (pJ i (yN (JD P f) way)) a
 |[],_,h=>by cases h;exact Ey.nil
 |(k,m)::r,a,h=>by
  unfold Pn at h;split at h
  ·next s n t u l c=>
   split at h
   ·next j=>
    simp only[aO]at j;obtain⟨⟨⟨h1,d⟩,e⟩,o⟩:=j;have h1:=bV h1;have d:=ahx d;have e:=bV e;subst h1;subst d;subst e;obtain⟨p,q,rfl⟩:=bI.1 h;refine Ey.cons o (λgs b hi=>?_) (Yp g q);have:=QH c (g _ _ _ hi);simp only[Row.ctr,afV]at this;exact this
   ·cases h
  ·cases h
def aae(P:Program)(tabs:QP)(pl:nK)(fuel:Nat)(rows:List Row)(k:Nat)(d:aH):Bool:=
 match rows[k]? with
 |some (.fn f st j e l)=>match d with
  |.fn g h t=>BP j h&&(match P.funcs[f]? with
   |some fn=>match fn.body,Pn rows f [] e l with
    |some c,some a=>t.chk (abO P tabs pl a fuel st g h fn.ntmps fn.results.toList (pJ e c)) (List.replicate g.length .arg) []
    |_,_=>false
   |none=>false)
  |_=>false
 |some (.fs f st b e l)=>match d with
  |.tree n t=>Nat.beq n b.pre.np&&(match P.funcs[f]? with
   |some fn=>match fn.body,Pn rows f [] e l with
    |some c,some a=>t.chk (abP P tabs pl a fuel st b fn.ntmps fn.results.toList (pJ e c)) (List.replicate b.pre.np .arg) []
    |_,_=>false
   |none=>false)
  |_=>false
 |some (.lp f way b i l)=>match d with
  |.tree n t=>Nat.beq n b.pre.np&&(Nat.beq b.key k&&b.pre.ok)&&(match Pn rows f way i l with
   |some a=>t.chk (Xk P tabs pl a fuel b (pJ i (yN (JD P f) way))) (List.replicate b.pre.np .arg) []
   |none=>false)
  |_=>false
 |_=>false
def apm(i:xG tabs P.globals.size)(w:P.follows .mixedOrders=true)(x:yG P){pl:nK}(p:∀I:jl,(∀k gs o,I k gs=some o->zT P tabs rows k gs o)->Ak P tabs I pl){fuel k:Nat}{d:aH}{r:Row}(B:rows[k]? =some r)
 (h:aae P tabs pl fuel rows k d=true):MJ (zT P tabs rows) d (r.ctr P tabs):=by
 intro I q gs o y;unfold aae at h;rw[B]at h;cases r with
 |any c=>cases h
 |told f st D=>cases h
 |fn f st D E l=>
  cases d with
  |tree n t=>cases h
  |bU g=>cases h
  |fn H L t=>
   simp only[aO]at h;have:=aaH h.1;subst this;have h:=h.2;split at h
   ·next fn s=>
    split at h
    ·next c j u v=>
     have z:yN (JD P f) []=c:=by simp only[yN,JD,s,u,tX]
     have m:=Yp q v;rw[z]at m;exact qG.Sr i w x (p I q) s u m h y
    ·cases h
   ·cases h
 |fs f st F E l=>
  cases d with
  |fn a b t=>cases h
  |bU g=>cases h
  |tree n t=>
   simp only[aO]at h;have e:=bV h.1;have h:=h.2;split at h
   ·next fn s=>
    split at h
    ·next c j u v=>
     have z:yN (JD P f) []=c:=by simp only[yN,JD,s,u,tX]
     have m:=Yp q v;rw[z]at m;exact PU.Sr i w x (p I q) e s u m h y
    ·cases h
   ·cases h
 |lp f way F M l=>
  cases d with
  |fn a b t=>cases h
  |bU g=>cases h
  |tree n t=>
   simp only[aO]at h;have e:=bV h.1.1;have G:=bV h.1.2.1;have A:=h.1.2.2;have h:=h.2;split at h
   ·next j v=>
    refine xC.azm i w x (p I q) A e (Yp q v) (λgs o hi=>?_) h y;rw[G]at hi;exact QH B (q _ _ _ hi)
   ·cases h
def aad(P:Program)(tabs:QP)(pl:nK)(rows:List Row)(Ds:Wb)(k:Nat):Bool:=match rows[k]?,Ds[k]? with
 |some r,some d=>r.hand ||aae P tabs pl 100000 rows k d
 |_,_=>false
def fQ(P:Program)(tabs:QP)(pl:nK)(rows:List Row)(Ds:Wb):Nat->Nat->Bool
 |_,0=>true
 |a,n+1=>aad P tabs pl rows Ds a&&fQ P tabs pl rows Ds (a+1) n
def Seg(P:Program)(tabs:QP)(pl:nK)(rows:List Row)(Ds:Wb)(a b:Nat):Prop:=∀k,a<=k->k<b->aad P tabs pl rows Ds k=true
def Seg.of{pl:nK}{Ds:Wb}:∀{n a:Nat},fQ P tabs pl rows Ds a n=true->Seg P tabs pl rows Ds a (a+n)
 |0,a,_,k,h1,b=>ah
 |n+1,a,h,k,h1,b=>by
  simp only[fQ,aO]at h;by_cases e:k=a
  ·subst e;exact h.1
  ·exact Seg.of h.2 k ah ah
def Seg.join{pl:nK}{Ds:Wb}{a b c:Nat}(h1:Seg P tabs pl rows Ds a b)(d:Seg P tabs pl rows Ds b c):Seg P tabs pl rows Ds a c:=λk f g=>by
 by_cases e:k<b
 ·exact h1 k f e
 ·exact d k ah g
def MK(P:Program)(tabs:QP)(rows:List Row)(Ds:Wb):Q2->Prop
 |[]=>True
 |k::l=>(∃r d,rows[k]? =some r/\Ds[k]? =some d/\MJ (zT P tabs rows) d (r.ctr P tabs))/\MK P tabs rows Ds l
def MK.at{Ds:Wb}:∀{l:Q2},MK P tabs rows Ds l->∀{k:Nat},k∈l->∀{r:Row}{d:aH},rows[k]? =some r->Ds[k]? =some d->MJ (zT P tabs rows) d (r.ctr P tabs)
 |a::l,h,k,hk,r,d,b,c=>by
  rcases bH.1 hk with rfl|hk
  ·obtain⟨g,i,h1,e,f⟩:=h.1;rw[b]at h1;cases h1;rw[c]at e;cases e;exact f
  ·exact MK.at h.2 hk b c
def J7:List Row->Nat->List Nat
 |[],_=>[]
 |r::l,k=>if r.hand=true then k::J7 l (k+1)else J7 l (k+1)
def ait:∀{l:List Row}{k i:Nat}{r:Row},l[i]? =some r->r.hand=true->k+i∈J7 l k
 |[],_,_,_,h,_=>by simp at h
 |a::l,k,0,r,h,b=>by simp only[mD,bD]at h;subst h;unfold J7;rw[au b];simp
 |a::l,k,i+1,r,h,b=>by
  have:=ait (l:=l) (k:=k+1) (i:=i) (by simpa using h) b;rw[(ah:k+1+i=k+(i+1))]at this;unfold J7;split
  ·exact zG _ this
  ·exact this
def afB{C:Nat->List GV->List GV->Prop}:∀{Ds:Wb}{rows:List Row},Ds.length=rows.length->(∀(k:Nat) d r,Ds[k]? =some d->rows[k]? =some r->MJ C d (r.ctr P tabs))->Me C Ds (rows.map (Row.ctr P tabs))
 |[],[],_,_=>trivial
 |d::Ds,r::rows,a,h=>⟨h 0 d r aA aA,afB (by simpa using a) λk b c h1 e=>h (k+1) b c (by simpa using h1) (by simpa using e)⟩
 |[],_::_,a,_=>by simp at a
 |_::_,[],a,_=>by simp at a
def aFN(b:xG tabs P.globals.size)(l:P.follows .mixedOrders=true)(m:yG P){pl:nK}(g:∀I:jl,(∀k gs a,I k gs=some a->zT P tabs rows k gs a)->Ak P tabs I pl){Ds:Wb}
 (h:MK P tabs rows Ds (J7 rows 0)) (c:Ds.length=rows.length) (e:Seg P tabs pl rows Ds 0 Ds.length):∀k gs a,(wG Ds).lim k gs=some a->zT P tabs rows k gs a:=by
 refine axT (afB c λk d r i f=>?_);have n:=(gy.1 i).1;cases j:r.hand with
 |true=>refine h.at ?_ f i;have:=ait (k:=0) f j;rwa [mW]at this
 |false=>have:=e k (vG _) n;unfold aad at this;rw[f,i]at this;simp only[j,Bj]at this;exact apm b l m g f this
def Vl(P:Program)(rows:List Row)(k:Nat)(N:iM):eU:=match rows[k]? with
 |some (.fn _ st a _ _)=>@XI N P k st a
 |some (.told _ st a)=>@XI N P k st a
 |some (.fs _ st b _ _)=>@acu N P st b
 |_=>λ_ _=>none
def Z7(P:Program)(rows:List Row):Q2->iM->eU
 |[],_=>λ_ _=>none
 |[k],N=>Vl P rows k N
 |k::l,N=>orP (Vl P rows k N) (Z7 P rows l N)
def VT(rows:List Row)(f:FuncId)(k:Nat):Bool:=match rows[k]? with
 |some (.fn a _ _ _ _)=>Nat.beq a f
 |some (.told a _ _)=>Nat.beq a f
 |some (.fs a _ b _ _)=>Nat.beq a f&&Nat.beq b.key k&&b.pre.ok
 |_=>false
def aht(rows:List Row)(es:List (FuncId×Q2)):Bool:=es.all λe=>e.2.all (VT rows e.1)
def akK(P:Program)(rows:List Row)(es:List (FuncId×Q2))(a:nK):nK:=λN=>es.map (λe=>(e.1,Z7 P rows e.2 N))++a N
def agc(b:xG tabs P.globals.size){T:aJ}(j:T.tabs=tabs)(g:∀k gs a,T.I k gs=some a->zT P tabs rows k gs a){f:FuncId}{k:Nat}(h:VT rows f k=true):@eG T P f (Vl P rows k T.toiM):=by
 subst j;unfold VT at h;unfold Vl;split at h
 ·next i st m n l c=>
  have:=bV h;subst this;exact akz λgs a d=>QH c (g k gs a d)
 ·next i st m c=>
  have:=bV h;subst this;exact akz λgs a d=>QH c (g k gs a d)
 ·next i st o n l c=>
  simp only[aO]at h;have:=bV h.1.1;subst this;have e:=bV h.1.2;exact azC b h.2 λgs a d=>QH c (g k gs a (by rw[<-e];exact d))
 ·cases h
def agh(a:xG tabs P.globals.size){T:aJ}(c:T.tabs=tabs)(d:∀k gs b,T.I k gs=some b->zT P tabs rows k gs b){f:FuncId}:∀{l:Q2},l.all (VT rows f)=true->@eG T P f (Z7 P rows l T.toiM)
 |[],_=>λ_ _ _ _ h=>by cases h
 |[k],h=>agc a c d (by simpa using h)
 |k::e::l,h=>by simp only[uH,aO]at h;exact azw (agc a c d h.1) (agh a c d (l:=e::l) (by simpa using h.2))
def aAu(b:xG tabs P.globals.size){es:List (FuncId×Q2)}{c:nK}(a:aht rows es=true){I:jl}(j:∀k gs d,I k gs=some d->zT P tabs rows k gs d)(f:Ak P tabs I c):Ak P tabs I (akK P rows es c):=by
 intro T i g p h;rcases jQ.1 h with h|h
 ·obtain⟨e,l,rfl⟩:=rZ.1 h;unfold aht at a;rw[List.all_eq_true]at a;exact agh b i (by rw[g];exact j) (a e l)
 ·exact f T i g p h
end
end
open Go
def sB(l:Q2):Bool×Q2:=match l with
 |t::l=>(Nat.beq t 1,l)
 |[]=>(false,[])
def sBs:Nat->List Nat->List UInt8×Q2
 |0,l=>([],l)
 |k+1,l=>match rN l with|(a,l)=>match sBs k l with|(x,l)=>(UInt8.ofNat a::x,l)
def sV(cI:Nat->Int):Nat->Nat->List Nat->AV×Nat×Q2
 |0,q,l=>(.kL,q,l)
 |_,q,[]=>(.kL,q,[])
 |f+1,q,t::l=>
  let vs:Nat->Nat->List Nat->List AV×Nat×Q2:=λk=>Nat.rec (λq l=>([],q,l)) (λ_ r q l=>match sV cI f q l with|(a,q,l)=>match r q l with|(x,q,l)=>(a::x,q,l)) k
  match t with
  |0=>(.nd q,q+1,l)
  |1=>match rN l with|(a,l)=>(.nd a,a+1,l)
  |2=>match rN l with|(a,l)=>(.p a 0,q,l)
  |3=>match rN l with|(a,l)=>match rN l with|(b,l)=>(.p a b,q,l)
  |4=>match rN l with|(a,l)=>(.sv a q,q+1,l)
  |5=>match rN l with|(a,l)=>match rN l with|(b,l)=>(.sv a b,b+1,l)
  |6=>(.b false,q,l)
  |7=>(.b true,q,l)
  |8=>match rN l with|(k,l)=>match rN l with|(a,l)=>(.i (rK k) (cI a),q,l)
  |9=>match rN l with|(k,l)=>match sBs k l with|(x,l)=>(.s x,q,l)
  |10=>(.iw,q,l)
  |11=>(.rQ,q,l)
  |12=>(.AU,q,l)
  |13=>(.vS,q,l)
  |14=>match rN l with|(a,l)=>(.mp a,q,l)
  |15=>match rN l with|(g,l)=>match rN l with|(a,l)=>match vs a q l with|(x,q,l)=>match rN l with|(b,l)=>match vs b q l with|(y,q,l)=>(.fn g x y,q,l)
  |16=>match rN l with|(t,l)=>match sV cI f q l with|(v,q,l)=>(.jM t v,q,l)
  |17=>match rN l with|(k,l)=>match vs k q l with|(x,q,l)=>(.agg x,q,l)
  |18=>match rN l with|(k,l)=>match vs k q l with|(x,q,l)=>(.fK x,q,l)
  |19=>match rN l with|(a,l)=>match rN l with|(b,l)=>(.rx a b,q,l)
  |_=>(.kL,q,l)
def sVs(cI:Nat->Int):Nat->Nat->List Nat->List AV×Nat×Q2
 |0,q,l=>([],q,l)
 |k+1,q,l=>match sV cI 9 q l with|(a,q,l)=>match sVs cI k q l with|(x,q,l)=>(a::x,q,l)
def sSl(cI:Nat->Int):Nat->Nat->Nat->List Nat->List (Nat×AV)×Nat×Q2
 |0,_,q,l=>([],q,l)
 |k+1,p,q,l=>match rN l with|(d,l)=>match sV cI 9 q l with|(a,q,l)=>match sSl cI k (p+d+1) q l with|(x,q,l)=>((p+d,a)::x,q,l)
def sOb(cI:Nat->Int):Nat->Nat->List Nat->List (Nat×bP)×Nat×Q2
 |0,q,l=>([],q,l)
 |k+1,q,l=>match rN l with
  |(i,t::l)=>match(match t with
   |0=>match rN l with|(n,l)=>match sVs cI n q l with|(x,q,l)=>match rN l with|(e,l)=>match sB l with|(r,l)=>match sB l with|(o,l)=>(bP.cells x e r o,q,l)
   |1=>match rN l with|(n,l)=>match rN l with|(e,l)=>match sB l with|(r,l)=>(bP.vec n e r,n+1,l)
   |_=>match rN l with|(n,l)=>match rN l with|(a,l)=>match rN l with|(z,l)=>(bP.smap n (match a with
    |0=>none
    |k+1=>some (rK k)) (match z with
    |0=>none
    |k+1=>some k),n+1,l))with
   |(o,q,l)=>match sOb cI k q l with|(x,q,l)=>((i,o)::x,q,l)
  |(_,[])=>([],q,[])
def Ya:Nat->Nat->List Nat->List W2×Q2
 |0,_,l=>([],l)
 |_,_,[]=>([],[])
 |k+1,p,t::l=>match t with
  |0=>match Ya k p l with|(x,l)=>(none::x,l)
  |1=>match Ya k (p+1) l with|(x,l)=>(some p::x,l)
  |_=>match rN l with|(a,l)=>match Ya k (a+1) l with|(x,l)=>(some a::x,l)
def sSh(cI:Nat->Int)(l:Q2):iR×Q2:=
 match rN l with|(n,l)=>match rN l with|(d,l)=>match rN l with|(e,l)=>match rN l with|(f,l)=>match rN l with|(a,l)=>match sSl cI a 0 0 l with|(g,q,l)=>match rN l with|(b,l)=>match sOb cI b q l with|(h,_,l)=>match rN l with|(i,l)=>match rN l with|(c,l)=>match Ya c 0 l with|(j,l)=>(⟨d,n,e,f,g,h,i,j⟩,l)
def sEx:Nat->fV
 |0=>.ret
 |1=>.normal
 |e+2=>.exit e
def sPo(cI:Nat->Int):Nat->List Nat->List (fV×iR)
 |0,_=>[]
 |k+1,l=>match rN l with|(e,l)=>match sSh cI l with|(s,l)=>(sEx e,s)::sPo cI k l
def rLo(cI:Nat->Int)(l:Q2):aN:=
 match rN l with|(k,l)=>match sSh cI l with|(s,l)=>match rN l with|(c,l)=>⟨k,s,sPo cI c l⟩
def gS:Wz->Nat->aN
 |a::_,0=>a
 |_::l,n+1=>gS l n
 |[],_=>rLo (λ_=>0) []
open Go.ChangeShapes Go.WideShapes Go.ChangeAt Go.RowKit
noncomputable section
variable{P:Program}{Hx:Type}{enc:TypeId×Value->Hx}
def aEO{w:World}{n m:Nat}{t:TypeId}{v:Value}{d:DataW Hx}{p:List MemPlace}{l:WK}{g:GV}(j:Aw P n t=some l)(q:qw P t=some false)(z:v.cells.toList=[v])
 (h1:DataW.trod enc P w 0 (λ_=>true) true m t v.cells.toList=some (d,p)) (o:GR (AO w) g v):∀xs,g=.l xs->xs=[]\/∃f i,d=.slice f i/\f.length=xs.length:=by
 rintro xs rfl
 simp only[GR]at o;rcases o with⟨e,_⟩|⟨a,r,o⟩
 ·exact .inl e
 have s:∃a n c,v=.slice (some a) n c/\n=xs.length:=by obtain⟨b,c,F,A,-⟩:=o;exact⟨_,_,_,A,rfl⟩
 obtain⟨G,B,H,rfl,rfl⟩:=s;rw[z]at h1;cases n with
 |zero=>simp[Aw]at j
 |succ n=>
  simp only[Aw]at j;split at j
  ·next h=>obtain⟨b,e,-⟩:=DataW.trod_bool h h1;cases e
  ·next k h=>obtain⟨b,e,-⟩:=DataW.trod_int h h1;cases e
  ·next h=>obtain⟨b,e,-⟩:=DataW.trod_string h h1;cases e
  ·next e h=>
   rcases Deep.open_slice h h1 with⟨u,-⟩|⟨a,len,y,r,B,D,Pl,u,L,M,N,E,x,hi⟩
   ·cases u
   ·cases u;injection x with x _
    exact .inr ⟨_,_,x,aA⟩
  ·next O h=>simp[qw,h]at q
  ·cases j
def am3{w:World}{n B:Nat}{sz:DataW Hx->Nat}(R:∀a c,a.length<=sz (.slice a c)):∀{ts:List TypeId}{vs:Q6}{y:List (DataW Hx)}{F:List MemPlace}{L:List (Bool×WK)},argTys P n ts=some L->DataW.TrodAll enc P w 0 (λ_=>true) true ts vs y F->
 (∀z∈DataW.weightsEach P ts y,z<=reachBytes)->(∀d∈y,sz d<=B)->(∀(j:Nat) t v,ts[j]? =some t->vs[j]? =some v->∃S,Value.okWide P w .any S t v)->∃gs,aV (AO w) gs vs/\hasArgs L gs/\∀xs,GV.l xs∈gs->xs.length<=B
 |[],[],[],F,L,f,h,G,H,k=>by simp only[argTys,bD]at f;subst f;exact⟨[],by simp[aV],by simp[hasArgs],λxs i=>by cases i⟩
 |t::ts,v::vs,d::y,F,L,f,h,G,H,k=>by
  obtain⟨p,q,⟨m,h1⟩,M,rfl⟩:=h;simp only[argTys]at f;split at f
  ·next l b r A o Y=>
   split at f
   ·next Z=>
    cases f;obtain⟨gs,D,E⟩:=aeh n m t _ _ l A h1 (λz N=>G z (by simp only[DataW.weightsEach,jQ];exact .inl N));obtain⟨T,U,V,W⟩:=am3 R Y M (λz N=>G z (by simp only[DataW.weightsEach,jQ];exact .inr N)) (λd O=>H d (zG _ O)) (λj t' v' h1 M=>k (j+1) t' v' (by simpa using h1) (by simpa using M));obtain⟨S,hv⟩:=k 0 t v rfl rfl;obtain⟨o1,s⟩:=azo hv;cases b with
    |true=>
     obtain⟨cs,rfl⟩:=o1 o;refine⟨.g gs::T,by simp only[aV];exact⟨_,_,rfl,by simp only[GR];exact⟨cs.toList,rfl,D⟩,U⟩,?_⟩;refine⟨by simp only[hasArgs];exact⟨_,_,rfl,E,rfl,V⟩,λxs i=>?_⟩;rcases bH.1 i with e|i
     ·cases e
     ·exact W xs i
    |false=>
     have Q:l.length=1:=by simpa using Z
     rcases s o with s|s
     rotate_left
     ·rw[s n]at A;cases A
     rw[s]at D;obtain⟨g,rfl⟩:∃g,gs=[g]:=Zf.1 (by rw[E.scalars.2,Q]);have x:g.scalar=true:=by have:=E.scalars.1;simpa using this
     simp only[aV]at D;obtain⟨u,us,e1,X,_⟩:=D;cases e1;refine⟨g::T,by simp only[aV];exact⟨_,_,rfl,X,U⟩,?_⟩;refine⟨by simp only[hasArgs];exact⟨_,_,rfl,by cases g<;>first|exact E|(simp[GV.scalar]at x),x,V⟩,λxs i=>?_⟩;rcases bH.1 i with e|i
     ·rcases aEO A o (by rw[s]) h1 X xs e.symm with q|⟨a,c,q1,q2⟩
      ·rw[q];exact vG _
      ·have q3:=H d Um;rw[q1]at q3;have:=R a c;omega
     ·exact W xs i
   ·cases f
  ·cases f
 |[],_::_,_,_,_,_,h,_,_,_=>by simp[DataW.TrodAll]at h
 |[],[],_::_,_,_,_,h,_,_,_=>by simp[DataW.TrodAll]at h
 |_::_,[],_,_,_,_,h,_,_,_=>by simp[DataW.TrodAll]at h
 |_::_,_::_,[],_,_,_,h,_,_,_=>by simp[DataW.TrodAll]at h
def axI{Hx:Type}{B:Nat}{sz:DataW Hx->Nat}(WR:∀b m,b.length<=sz (.slice b m)){enc:TypeId×Value->Hx}{tabs:QP}{f:FuncId}{fn:Func}{c:Code}{s:ChangeSpec}{n:Nat}{L:List (Bool×WK)}{tb:TypeId}{again:Bool}(hn:yG P)(hf:P.funcs[f]? =some fn)(hc:fn.body=some c)
 (hL:argTys P n fn.params.toList=some L) (o:laidOutB P=true) (r:∀t∈fn.params.toList,P.readableRec t=true/\t<P.types.size) (hr:fn.resultTypes =#[tb]) (A:P.underlying tb=some .bool)
 (g:s.vars=[]) (hs:∀a:List (DataW Hx),a.length=fn.params.size->s.fn Hx a ={results:=[.lit (.bool true)],args:=a})
 (Q:∀y,hasArgs L y->(∀xs,GV.l xs∈y->xs.length<=B)->qG P tabs f [] [.sc] y [.b true]) {W:World} {base:Nat} {args:QR} {a y:List (DataW Hx)} {k:List MemPlace}
 (hB:∀d∈a,sz d<=B) (D:∀(j:Nat) t v,fn.params[j]? =some t->args[j]? =some v->Value.okWide P W .any base t v)
 (R:DataW.Whole enc P fn.params.toList s.vars false W args.toList a y k) {vt:List TypeId} (S:vt=[]) (l:(DataW.weightsEach P (fn.params.toList++vt) (a++y)).all (·<=reachBytes)=true) (T:zL tabs (AO W) W):
 Calls P f args W λe W'=>∃v,e=.returned v/\s.post enc P fn false true false again W args v W':=by
 letI:aJ:=Tg [] [] 0
 have E:=R;have F:=λp hp=>R.lt p hp;obtain⟨p,q,U,V,rfl,ab,ac⟩:=R;have ad:=V;rw[g]at V;obtain⟨rfl,rfl⟩:=trodVars_none V;have X:∀z∈DataW.weightsEach P fn.params.toList a,z<=reachBytes:=by subst S;rw[pY,pY,List.all_eq_true]at l;exact λz hz=>by simpa using l z hz
 obtain⟨gl,g1,g2,g3⟩:=am3 WR hL U X hB (λj t v h1 Y=>⟨base,D j t v (by simpa using h1) (by simpa using Y)⟩);have w:=(Q gl g2 g3).call (AO W) W args.toList T g1;have G:=nH.calls hn hf hc w;have H:(⟨yY [] args.toList⟩:QR)=args:=by simp[yY]
 rw[H]at G;have Z:a.length=fn.params.size:=by
  have:∀{M:List TypeId}{N:Q6}{a:List (DataW Hx)}{ps:List MemPlace},DataW.TrodAll enc P W 0 (λ_=>true) true M N a ps->a.length=M.length:=by
   intro M;induction M with
   |nil=>intro N a ps h;cases N<;>cases a<;>simp[DataW.TrodAll]at h⊢
   |cons t M ih=>intro N a ps h;cases N<;>cases a<;>simp[DataW.TrodAll]at h⊢;obtain⟨_,_,_,Y,_⟩:=h;exact ih Y
  simpa using this U
 refine Calls.mono' G ?_;rintro e W' ⟨v,rfl,ae,i,us,rfl,O⟩
 simp only[aV]at O;obtain⟨u,af,rfl,hu,rfl⟩:=O;simp only[GR]at hu;subst hu;have x:s.fn Hx (a++[]) ={results:=[.lit (.bool true)],args:=a}:=by rw[pY];exact hs a Z
 simp only[pY]at E F;refine⟨_,rfl,aAE (pa:=p) (pv:=[]) E (λ_ _ _=>?_) (λsp aa=>?_) (λ_ _=>?_) aA i.kept (ok_one (by rw[hr]) rfl (okWide_bool_mk A _))⟩
 ·rw[x,hr];exact trodAll_cons_mk (shut_bool A _) trodAll_mk0
 ·rw[x];exact am4 o i.kept U r F aa
 ·rw[x,g];rfl
end
abbrev o1:Bool:=true
abbrev o0:Bool:=false
