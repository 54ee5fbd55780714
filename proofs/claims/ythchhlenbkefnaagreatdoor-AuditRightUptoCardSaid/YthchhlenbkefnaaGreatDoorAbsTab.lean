/- All definitions of a law as rows of one table: which function or loop each is of; all are checked by a few runs. -/
import Derived.Test.YthchhlenbkefnaaGreatDoorAbsJ
set_option linter.all false
namespace Go.aN
noncomputable section
variable{P:Program}
inductive Row where
 |any (c:Ik)
 |told (f:FuncId) (st:W6) (sh:WK)
 |fn (f:FuncId) (st:W6) (sh:WK) (pe:Q2) (l:WD)
 |fs (f:FuncId) (st:W6) (sp:aJ) (pe:Q2) (l:WD)
 |lp (f:FuncId) (way:XN) (sp:aJ) (ps:Q2) (l:WD)
def IZ(P:Program)(f:FuncId):Code:=match P.funcs[f]? with
 |some fn=>fn.body.getD .skip
 |none=>.skip
def Row.ctr(P:Program)(tabs:Qt):Row->Ik
 |.any c=>c
 |.told f st b=>oZ P tabs f st b
 |.fn f st b _ _=>oZ P tabs f st b
 |.fs f st a _ _=>OX P tabs f st a.pre a.posts
 |.lp f d a _ _=>wH P tabs (xW (IZ P f) d) a.pre a.posts
def Row.hand:Row->Bool
 |.any _|.told _ _ _=>true
 |_=>false
def MN:Q2->List Nat->Bool
 |[],[]=>true
 |a::l,b::m=>Nat.beq a b&&MN l m
 |_,_=>false
def agG:∀{l m:Q2},MN l m=true->l=m
 |[],[],_=>rfl
 |a::l,b::m,h=>by simp only[MN,aK]at h;rw[bK h.1,agG h.2]
 |[],_::_,h=>by simp[MN]at h
 |_::_,[],h=>by simp[MN]at h
def MO:XN->List (Q2×Nat)->Bool
 |[],[]=>true
 |(a,b)::l,(c,d)::m=>MN a c&&Nat.beq b d&&MO l m
 |_,_=>false
def agH:∀{l m:XN},MO l m=true->l=m
 |[],[],_=>rfl
 |(a,b)::l,(c,d)::m,h=>by simp only[MO,aK]at h;rw[agG h.1.1,bK h.1.2,agH h.2]
 |[],_::_,h=>by simp[MO]at h
 |_::_,[],h=>by simp[MO]at h
def AX:WK->List pq->Bool
 |[],[]=>true
 |.sc::l,.sc::m=>AX l m
 |.ag a::l,.ag b::m=>Nat.beq a b&&AX l m
 |_,_=>false
def ZU:∀{l m:WK},AX l m=true->l=m
 |[],[],_=>rfl
 |.sc::l,.sc::m,h=>by simp only[AX]at h;rw[ZU h]
 |.ag a::l,.ag b::m,h=>by simp only[AX,aK]at h;rw[bK h.1,ZU h.2]
 |[],_::_,h=>by simp[AX]at h
 |.sc::_,[],h=>by simp[AX]at h
 |.ag _::_,[],h=>by simp[AX]at h
 |.sc::_,.ag _::_,h=>by simp[AX]at h
 |.ag _::_,.sc::_,h=>by simp[AX]at h
def OA(rows:List Row)(f:FuncId)(a:XN)(e:Q2):WD->Option Ww
 |[]=>some []
 |(k,b)::r=>match rows[b]? with
  |some (.lp g c d _ _)=>if(Nat.beq g f&&MO c (a++[(e,k)])&&Nat.beq d.key b&&d.pre.ok)=true then(OA rows f a e r).map ((k,d)::·)else none
  |_=>none
section
variable{tabs:Qt}{rows:List Row}{I:iO}
abbrev yV(P:Program)(tabs:Qt)(rows:List Row):Nat->List GV->List GV->Prop:=OW (rows.map (Row.ctr P tabs))
def P8{k:Nat}{r:Row}(b:rows[k]? =some r){gs a:Q1}(h:yV P tabs rows k gs a):r.ctr P tabs gs a:=by unfold yV OW at h;rw[iY,b]at h;exact h
def XD(i:∀k gs b,I k gs=some b->yV P tabs rows k gs b){f:FuncId}{c:XN}{j:Q2}:∀{l:WD}{a:Ww},OA rows f c j l=some a->
 DY P tabs I (oq j (xW (IZ P f) c)) a
 |[],_,h=>by cases h;exact DY.nil
 |(k,n)::r,a,h=>by
  unfold OA at h;split at h
  ·next t o u v l d=>
   split at h
   ·next m=>
    simp only[aK]at m;obtain⟨⟨⟨h1,e⟩,g⟩,p⟩:=m;have h1:=bK h1;have e:=agH e;have g:=bK g;subst h1;subst e;subst g;obtain⟨q,s,rfl⟩:=bC.1 h;refine DY.cons p (λgs b hi=>?_) (XD i s);have:=P8 d (i _ _ _ hi);simp only[Row.ctr,afb]at this;exact this
   ·cases h
  ·cases h
def Zo(P:Program)(tabs:Qt)(pl:mF)(fuel:Nat)(rows:List Row)(k:Nat)(d:aF):Bool:=
 match rows[k]? with
 |some (.fn f st m e l)=>match d with
  |.fn h i t=>AX m i&&(match P.funcs[f]? with
   |some fn=>match fn.body,OA rows f [] e l with
    |some c,some a=>t.chk (aa6 P tabs pl a fuel st h i fn.ntmps fn.results.toList (oq e c)) (List.replicate h.length .arg) []
    |_,_=>false
   |none=>false)
  |_=>false
 |some (.fs f st b e l)=>match d with
  |.tree n t=>Nat.beq n b.pre.np&&(match P.funcs[f]? with
   |some fn=>match fn.body,OA rows f [] e l with
    |some c,some a=>t.chk (aa7 P tabs pl a fuel st b fn.ntmps fn.results.toList (oq e c)) (List.replicate b.pre.np .arg) []
    |_,_=>false
   |none=>false)
  |_=>false
 |some (.lp f g b j l)=>match d with
  |.tree n t=>Nat.beq n b.pre.np&&(Nat.beq b.key k&&b.pre.ok)&&(match OA rows f g j l with
   |some a=>t.chk (Wp P tabs pl a fuel b (oq j (xW (IZ P f) g))) (List.replicate b.pre.np .arg) []
   |none=>false)
  |_=>false
 |_=>false
def aoi(i:wK tabs P.globals.size)(w:P.follows .mixedOrders=true)(x:xK P){pl:mF}(p:∀I:iO,(∀k gs o,I k gs=some o->yV P tabs rows k gs o)->zF P tabs I pl){fuel k:Nat}{d:aF}{r:Row}(B:rows[k]? =some r)
 (h:Zo P tabs pl fuel rows k d=true):Ll (yV P tabs rows) d (r.ctr P tabs):=by
 intro I q gs o y;unfold Zo at h;rw[B]at h;cases r with
 |any c=>cases h
 |told f st D=>cases h
 |fn f st D E l=>
  cases d with
  |tree n t=>cases h
  |aP g=>cases h
  |fn L M t=>
   simp only[aK]at h;have:=ZU h.1;subst this;have h:=h.2;split at h
   ·next fn s=>
    split at h
    ·next c j u v=>
     have z:xW (IZ P f) []=c:=by simp only[xW,IZ,s,u,rV]
     have m:=XD q v;rw[z]at m;exact oZ.Q5 i w x (p I q) s u m h y
    ·cases h
   ·cases h
 |fs f st F E l=>
  cases d with
  |fn a b t=>cases h
  |aP g=>cases h
  |tree n t=>
   simp only[aK]at h;have e:=bK h.1;have h:=h.2;split at h
   ·next fn s=>
    split at h
    ·next c j u v=>
     have z:xW (IZ P f) []=c:=by simp only[xW,IZ,s,u,rV]
     have m:=XD q v;rw[z]at m;exact OX.Q5 i w x (p I q) e s u m h y
    ·cases h
   ·cases h
 |lp f G F N l=>
  cases d with
  |fn a b t=>cases h
  |aP g=>cases h
  |tree n t=>
   simp only[aK]at h;have e:=bK h.1.1;have J:=bK h.1.2.1;have A:=h.1.2.2;have h:=h.2;split at h
   ·next j v=>
    refine wH.aym i w x (p I q) A e (XD q v) (λgs o hi=>?_) h y;rw[J]at hi;exact P8 B (q _ _ _ hi)
   ·cases h
def Zn(P:Program)(tabs:Qt)(pl:mF)(rows:List Row)(Ds:W8)(k:Nat):Bool:=match rows[k]?,Ds[k]? with
 |some r,some d=>r.hand ||Zo P tabs pl 100000 rows k d
 |_,_=>false
def fD(P:Program)(tabs:Qt)(pl:mF)(rows:List Row)(Ds:W8):Nat->Nat->Bool
 |_,0=>true
 |a,n+1=>Zn P tabs pl rows Ds a&&fD P tabs pl rows Ds (a+1) n
def Seg(P:Program)(tabs:Qt)(pl:mF)(rows:List Row)(Ds:W8)(a b:Nat):Prop:=∀k,a<=k->k<b->Zn P tabs pl rows Ds k=true
def Seg.of{pl:mF}{Ds:W8}:∀{n a:Nat},fD P tabs pl rows Ds a n=true->Seg P tabs pl rows Ds a (a+n)
 |0,a,_,k,h1,b=>by omega
 |n+1,a,h,k,h1,b=>by
  simp only[fD,aK]at h;by_cases e:k=a
  ·subst e;exact h.1
  ·exact Seg.of h.2 k (by omega) (by omega)
def Seg.join{pl:mF}{Ds:W8}{a b c:Nat}(h1:Seg P tabs pl rows Ds a b)(d:Seg P tabs pl rows Ds b c):Seg P tabs pl rows Ds a c:=λk f g=>by
 by_cases e:k<b
 ·exact h1 k f e
 ·exact d k (by omega) g
def Lm(P:Program)(tabs:Qt)(rows:List Row)(Ds:W8):Q2->Prop
 |[]=>True
 |k::l=>(∃r d,rows[k]? =some r/\Ds[k]? =some d/\Ll (yV P tabs rows) d (r.ctr P tabs))/\Lm P tabs rows Ds l
def Lm.at{Ds:W8}:∀{l:Q2},Lm P tabs rows Ds l->∀{k:Nat},k∈l->∀{r:Row}{d:aF},rows[k]? =some r->Ds[k]? =some d->Ll (yV P tabs rows) d (r.ctr P tabs)
 |a::l,h,k,hk,r,d,b,c=>by
  rcases bH.1 hk with rfl|hk
  ·obtain⟨g,i,h1,e,f⟩:=h.1;rw[b]at h1;cases h1;rw[c]at e;cases e;exact f
  ·exact Lm.at h.2 hk b c
def Jt:List Row->Nat->List Nat
 |[],_=>[]
 |r::l,k=>if r.hand=true then k::Jt l (k+1)else Jt l (k+1)
def ahy:∀{l:List Row}{k i:Nat}{r:Row},l[i]? =some r->r.hand=true->k+i∈Jt l k
 |[],_,_,_,h,_=>by simp at h
 |a::l,k,0,r,h,b=>by simp only[kX,aY]at h;subst h;unfold Jt;rw[aj b];simp
 |a::l,k,i+1,r,h,b=>by
  have:=ahy (l:=l) (k:=k+1) (i:=i) (by simpa using h) b;rw[show k+1+i=k+(i+1) by omega]at this;unfold Jt;split
  ·exact yK _ this
  ·exact this
def aeN{C:Nat->List GV->List GV->Prop}:∀{Ds:W8}{rows:List Row},Ds.length=rows.length->(∀(k:Nat) d r,Ds[k]? =some d->rows[k]? =some r->Ll C d (r.ctr P tabs))->La C Ds (rows.map (Row.ctr P tabs))
 |[],[],_,_=>trivial
 |d::Ds,r::rows,a,h=>⟨h 0 d r (by simp) (by simp),aeN (by simpa using a) λk b c h1 e=>h (k+1) b c (by simpa using h1) (by simpa using e)⟩
 |[],_::_,a,_=>by simp at a
 |_::_,[],a,_=>by simp at a
def aER(b:wK tabs P.globals.size)(l:P.follows .mixedOrders=true)(m:xK P){pl:mF}(g:∀I:iO,(∀k gs a,I k gs=some a->yV P tabs rows k gs a)->zF P tabs I pl){Ds:W8}
 (h:Lm P tabs rows Ds (Jt rows 0)) (c:Ds.length=rows.length) (e:Seg P tabs pl rows Ds 0 Ds.length):∀k gs a,(vF Ds).lim k gs=some a->yV P tabs rows k gs a:=by
 refine awV (aeN c λk d r i f=>?_);have n:=(fM.1 i).1;cases j:r.hand with
 |true=>refine h.at ?_ f i;have:=ahy (k:=0) f j;rwa [lQ]at this
 |false=>have:=e k (tJ _) n;unfold Zn at this;rw[f,i]at this;simp only[j,Ag]at this;exact aoi b l m g f this
def UD(P:Program)(rows:List Row)(k:Nat)(N:gY):dZ:=match rows[k]? with
 |some (.fn _ st a _ _)=>@WW N P k st a
 |some (.told _ st a)=>@WW N P k st a
 |some (.fs _ st b _ _)=>@abE N P st b
 |_=>λ_ _=>none
def Zh(P:Program)(rows:List Row):Q2->gY->dZ
 |[],_=>λ_ _=>none
 |[k],N=>UD P rows k N
 |k::l,N=>orP (UD P rows k N) (Zh P rows l N)
def Va(rows:List Row)(f:FuncId)(k:Nat):Bool:=match rows[k]? with
 |some (.fn a _ _ _ _)=>Nat.beq a f
 |some (.told a _ _)=>Nat.beq a f
 |some (.fs a _ b _ _)=>Nat.beq a f&&Nat.beq b.key k&&b.pre.ok
 |_=>false
def agD(rows:List Row)(es:List (FuncId×Q2)):Bool:=es.all λe=>e.2.all (Va rows e.1)
def ajL(P:Program)(rows:List Row)(es:List (FuncId×Q2))(a:mF):mF:=λN=>es.map (λe=>(e.1,Zh P rows e.2 N))++a N
def afr(b:wK tabs P.globals.size){T:aH}(j:T.tabs=tabs)(g:∀k gs a,T.I k gs=some a->yV P tabs rows k gs a){f:FuncId}{k:Nat}(h:Va rows f k=true):@dO T P f (UD P rows k T.togY):=by
 subst j;unfold Va at h;unfold UD;split at h
 ·next i st m n l c=>
  have:=bK h;subst this;exact ajC λgs a d=>P8 c (g k gs a d)
 ·next i st m c=>
  have:=bK h;subst this;exact ajC λgs a d=>P8 c (g k gs a d)
 ·next i st o n l c=>
  simp only[aK]at h;have:=bK h.1.1;subst this;have e:=bK h.1.2;exact ayB b h.2 λgs a d=>P8 c (g k gs a (by rw[<-e];exact d))
 ·cases h
def afu(a:wK tabs P.globals.size){T:aH}(c:T.tabs=tabs)(d:∀k gs b,T.I k gs=some b->yV P tabs rows k gs b){f:FuncId}:∀{l:Q2},l.all (Va rows f)=true->@dO T P f (Zh P rows l T.togY)
 |[],_=>λ_ _ _ _ h=>by cases h
 |[k],h=>afr a c d (by simpa using h)
 |k::e::l,h=>by simp only[rH,aK]at h;exact ayv (afr a c d h.1) (afu a c d (l:=e::l) (by simpa using h.2))
def azw(b:wK tabs P.globals.size){es:List (FuncId×Q2)}{c:mF}(a:agD rows es=true){I:iO}(j:∀k gs d,I k gs=some d->yV P tabs rows k gs d)(f:zF P tabs I c):zF P tabs I (ajL P rows es c):=by
 intro T i g p h;rcases jJ.1 h with h|h
 ·obtain⟨e,l,rfl⟩:=rM.1 h;unfold agD at a;rw[List.all_eq_true]at a;exact afu b i (by rw[g];exact j) (a e l)
 ·exact f T i g p h
end
end
open Go
def sB(l:Q2):Bool×Q2:=match l with
 |t::l=>(Nat.beq t 1,l)
 |[]=>(false,[])
def sBs:Nat->List Nat->List UInt8×Q2
 |0,l=>([],l)
 |k+1,l=>match rN l with|(a,l)=>match sBs k l with|(x,l)=>(UInt8.ofNat a::x,l)
def sV(cI:Nat->Int):Nat->Nat->List Nat->AV×Nat×Q2
 |0,q,l=>(.jU,q,l)
 |_,q,[]=>(.jU,q,[])
 |f+1,q,t::l=>
  let vs:Nat->Nat->List Nat->List AV×Nat×Q2:=λk=>Nat.rec (λq l=>([],q,l)) (λ_ r q l=>match sV cI f q l with|(a,q,l)=>match r q l with|(x,q,l)=>(a::x,q,l)) k
  match t with
  |0=>(.nd q,q+1,l)
  |1=>match rN l with|(a,l)=>(.nd a,a+1,l)
  |2=>match rN l with|(a,l)=>(.p a 0,q,l)
  |3=>match rN l with|(a,l)=>match rN l with|(b,l)=>(.p a b,q,l)
  |4=>match rN l with|(a,l)=>(.sv a q,q+1,l)
  |5=>match rN l with|(a,l)=>match rN l with|(b,l)=>(.sv a b,b+1,l)
  |6=>(.b false,q,l)
  |7=>(.b true,q,l)
  |8=>match rN l with|(k,l)=>match rN l with|(a,l)=>(.i (rK k) (cI a),q,l)
  |9=>match rN l with|(k,l)=>match sBs k l with|(x,l)=>(.s x,q,l)
  |10=>(.gK,q,l)
  |11=>(.qK,q,l)
  |12=>(.zW,q,l)
  |13=>(.uP,q,l)
  |14=>match rN l with|(a,l)=>(.mp a,q,l)
  |15=>match rN l with|(g,l)=>match rN l with|(a,l)=>match vs a q l with|(x,q,l)=>match rN l with|(b,l)=>match vs b q l with|(y,q,l)=>(.fn g x y,q,l)
  |16=>match rN l with|(t,l)=>match sV cI f q l with|(v,q,l)=>(.jq t v,q,l)
  |17=>match rN l with|(k,l)=>match vs k q l with|(x,q,l)=>(.agg x,q,l)
  |18=>match rN l with|(k,l)=>match vs k q l with|(x,q,l)=>(.fB x,q,l)
  |19=>match rN l with|(a,l)=>match rN l with|(b,l)=>(.rx a b,q,l)
  |_=>(.jU,q,l)
def sVs(cI:Nat->Int):Nat->Nat->List Nat->List AV×Nat×Q2
 |0,q,l=>([],q,l)
 |k+1,q,l=>match sV cI 9 q l with|(a,q,l)=>match sVs cI k q l with|(x,q,l)=>(a::x,q,l)
def sSl(cI:Nat->Int):Nat->Nat->Nat->List Nat->List (Nat×AV)×Nat×Q2
 |0,_,q,l=>([],q,l)
 |k+1,p,q,l=>match rN l with|(d,l)=>match sV cI 9 q l with|(a,q,l)=>match sSl cI k (p+d+1) q l with|(x,q,l)=>((p+d,a)::x,q,l)
def sOb(cI:Nat->Int):Nat->Nat->List Nat->List (Nat×bI)×Nat×Q2
 |0,q,l=>([],q,l)
 |k+1,q,l=>match rN l with
  |(i,t::l)=>match(match t with
   |0=>match rN l with|(n,l)=>match sVs cI n q l with|(x,q,l)=>match rN l with|(e,l)=>match sB l with|(r,l)=>match sB l with|(o,l)=>(bI.cells x e r o,q,l)
   |1=>match rN l with|(n,l)=>match rN l with|(e,l)=>match sB l with|(r,l)=>(bI.vec n e r,n+1,l)
   |_=>match rN l with|(n,l)=>match rN l with|(a,l)=>match rN l with|(z,l)=>(bI.smap n (match a with
    |0=>none
    |k+1=>some (rK k)) (match z with
    |0=>none
    |k+1=>some k),n+1,l))with
   |(o,q,l)=>match sOb cI k q l with|(x,q,l)=>((i,o)::x,q,l)
  |(_,[])=>([],q,[])
def Xr:Nat->Nat->List Nat->List QR×Q2
 |0,_,l=>([],l)
 |_,_,[]=>([],[])
 |k+1,p,t::l=>match t with
  |0=>match Xr k p l with|(x,l)=>(none::x,l)
  |1=>match Xr k (p+1) l with|(x,l)=>(some p::x,l)
  |_=>match rN l with|(a,l)=>match Xr k (a+1) l with|(x,l)=>(some a::x,l)
def sSh(cI:Nat->Int)(l:Q2):iD×Q2:=
 match rN l with|(n,l)=>match rN l with|(d,l)=>match rN l with|(e,l)=>match rN l with|(f,l)=>match rN l with|(a,l)=>match sSl cI a 0 0 l with|(g,q,l)=>match rN l with|(b,l)=>match sOb cI b q l with|(h,_,l)=>match rN l with|(i,l)=>match rN l with|(c,l)=>match Xr c 0 l with|(j,l)=>(⟨d,n,e,f,g,h,i,j⟩,l)
def sEx:Nat->fG
 |0=>.ret
 |1=>.normal
 |e+2=>.exit e
def sPo(cI:Nat->Int):Nat->List Nat->List (fG×iD)
 |0,_=>[]
 |k+1,l=>match rN l with|(e,l)=>match sSh cI l with|(s,l)=>(sEx e,s)::sPo cI k l
def rLo(cI:Nat->Int)(l:Q2):aJ:=
 match rN l with|(k,l)=>match sSh cI l with|(s,l)=>match rN l with|(c,l)=>⟨k,s,sPo cI c l⟩
def gS:Wt->Nat->aJ
 |a::_,0=>a
 |_::l,n+1=>gS l n
 |[],_=>rLo (λ_=>0) []
open Go.ChangeShapes Go.WideShapes Go.ChangeAt Go.RowKit
noncomputable section
variable{P:Program}{H:Type}{enc:TypeId×Value->H}
def aDR{w:World}{n m:Nat}{t:TypeId}{v:Value}{d:DataW H}{p:List MemPlace}{l:WF}{g:GV}(j:zK P n t=some l)(q:oP P t=some false)(z:v.cells.toList=[v])
 (h1:DataW.trod enc P w 0 (λ_=>true) true m t v.cells.toList=some (d,p)) (o:GR (zQ w) g v):∀xs,g=.l xs->xs=[]\/∃f i,d=.slice f i/\f.length=xs.length:=by
 rintro xs rfl
 simp only[GR]at o;rcases o with⟨e,_⟩|⟨a,r,o⟩
 ·exact .inl e
 have s:∃a n c,v=.slice (some a) n c/\n=xs.length:=by obtain⟨b,c,F,A,-⟩:=o;exact⟨_,_,_,A,rfl⟩
 obtain⟨G,B,J,rfl,rfl⟩:=s;rw[z]at h1;cases n with
 |zero=>simp[zK]at j
 |succ n=>
  simp only[zK]at j;split at j
  ·next h=>obtain⟨b,e,-⟩:=DataW.trod_bool h h1;cases e
  ·next k h=>obtain⟨b,e,-⟩:=DataW.trod_int h h1;cases e
  ·next h=>obtain⟨b,e,-⟩:=DataW.trod_string h h1;cases e
  ·next e h=>
   rcases Deep.open_slice h h1 with⟨u,-⟩|⟨a,len,y,r,B,D,Pl,u,L,M,N,E,x,hi⟩
   ·cases u
   ·cases u;injection x with x _
    exact .inr ⟨_,_,x,by simp⟩
  ·next O h=>simp[oP,h]at q
  ·cases j
def al1{w:World}{n B:Nat}{sz:DataW H->Nat}(R:∀a c,a.length<=sz (.slice a c)):∀{ts:List TypeId}{vs:Q6}{y:List (DataW H)}{F:List MemPlace}{L:List (Bool×WF)},argTys P n ts=some L->DataW.TrodAll enc P w 0 (λ_=>true) true ts vs y F->
 (∀z∈DataW.weightsEach P ts y,z<=reachBytes)->(∀d∈y,sz d<=B)->(∀(j:Nat) t v,ts[j]? =some t->vs[j]? =some v->∃S,Value.okWide P w .any S t v)->∃gs,aS (zQ w) gs vs/\hasArgs L gs/\∀xs,GV.l xs∈gs->xs.length<=B
 |[],[],[],F,L,f,h,G,J,k=>by simp only[argTys,aY]at f;subst f;exact⟨[],by simp[aS],by simp[hasArgs],λxs i=>by cases i⟩
 |t::ts,v::vs,d::y,F,L,f,h,G,J,k=>by
  obtain⟨p,q,⟨m,h1⟩,M,rfl⟩:=h;simp only[argTys]at f;split at f
  ·next l b r A o Z=>
   split at f
   ·next hb=>
    cases f;obtain⟨gs,D,E⟩:=adr n m t _ _ l A h1 (λz N=>G z (by simp only[DataW.weightsEach,jJ];exact .inl N));obtain⟨T,V,W,X⟩:=al1 R Z M (λz N=>G z (by simp only[DataW.weightsEach,jJ];exact .inr N)) (λd O=>J d (yK _ O)) (λj t' v' h1 M=>k (j+1) t' v' (by simpa using h1) (by simpa using M));obtain⟨S,hv⟩:=k 0 t v rfl rfl;obtain⟨o1,s⟩:=ayn hv;cases b with
    |true=>
     obtain⟨cs,rfl⟩:=o1 o;refine⟨.g gs::T,by simp only[aS];exact⟨_,_,rfl,by simp only[GR];exact⟨cs.toList,rfl,D⟩,V⟩,?_⟩;refine⟨by simp only[hasArgs];exact⟨_,_,rfl,E,rfl,W⟩,λxs i=>?_⟩;rcases bH.1 i with e|i
     ·cases e
     ·exact X xs i
    |false=>
     have Q:l.length=1:=by simpa using hb
     rcases s o with s|s
     rotate_left
     ·rw[s n]at A;cases A
     rw[s]at D;obtain⟨g,rfl⟩:∃g,gs=[g]:=Yx.1 (by rw[E.scalars.2,Q]);have x:g.scalar=true:=by have:=E.scalars.1;simpa using this
     simp only[aS]at D;obtain⟨u,us,e1,Y,_⟩:=D;cases e1;refine⟨g::T,by simp only[aS];exact⟨_,_,rfl,Y,V⟩,?_⟩;refine⟨by simp only[hasArgs];exact⟨_,_,rfl,by cases g<;>first|exact E|(simp[GV.scalar]at x),x,W⟩,λxs i=>?_⟩;rcases bH.1 i with e|i
     ·rcases aDR A o (by rw[s]) h1 Y xs e.symm with q|⟨a,c,q1,q2⟩
      ·rw[q];exact tJ _
      ·have q3:=J d OZ;rw[q1]at q3;have:=R a c;omega
     ·exact X xs i
   ·cases f
  ·cases f
 |[],_::_,_,_,_,_,h,_,_,_=>by simp[DataW.TrodAll]at h
 |[],[],_::_,_,_,_,h,_,_,_=>by simp[DataW.TrodAll]at h
 |_::_,[],_,_,_,_,h,_,_,_=>by simp[DataW.TrodAll]at h
 |_::_,_::_,[],_,_,_,h,_,_,_=>by simp[DataW.TrodAll]at h
def awL{H:Type}{B:Nat}{sz:DataW H->Nat}(VT:∀b m,b.length<=sz (.slice b m)){enc:TypeId×Value->H}{tabs:Qt}{f:FuncId}{fn:Func}{c:Code}{s:ChangeSpec}{n:Nat}{L:List (Bool×WF)}{tb:TypeId}{again:Bool}(hn:xK P)(hf:P.funcs[f]? =some fn)(hc:fn.body=some c)
 (hL:argTys P n fn.params.toList=some L) (o:laidOutB P=true) (r:∀t∈fn.params.toList,P.readableRec t=true/\t<P.types.size) (hr:fn.resultTypes =#[tb]) (A:P.underlying tb=some .bool)
 (g:s.vars=[]) (hs:∀a:List (DataW H),a.length=fn.params.size->s.fn H a ={results:=[.lit (.bool true)],args:=a})
 (Q:∀y,hasArgs L y->(∀xs,GV.l xs∈y->xs.length<=B)->oZ P tabs f [] [.sc] y [.b true]) {W:World} {base:Nat} {args:QQ} {a y:List (DataW H)} {k:List MemPlace}
 (hB:∀d∈a,sz d<=B) (D:∀(j:Nat) t v,fn.params[j]? =some t->args[j]? =some v->Value.okWide P W .any base t v)
 (R:DataW.Whole enc P fn.params.toList s.vars false W args.toList a y k) {vt:List TypeId} (S:vt=[]) (l:(DataW.weightsEach P (fn.params.toList++vt) (a++y)).all (·<=reachBytes)=true) (T:yP tabs (zQ W) W):
 Calls P f args W λe W'=>∃v,e=.returned v/\s.post enc P fn false true false again W args v W':=by
 letI:aH:=Tg [] [] 0
 have E:=R;have F:=λp hp=>R.lt p hp;obtain⟨p,q,V,X,rfl,ac,ad⟩:=R;have ae:=X;rw[g]at X;obtain⟨rfl,rfl⟩:=trodVars_none X;have Y:∀z∈DataW.weightsEach P fn.params.toList a,z<=reachBytes:=by subst S;rw[qp,qp,List.all_eq_true]at l;exact λz hz=>by simpa using l z hz
 obtain⟨gl,g1,g2,g3⟩:=al1 VT hL V Y hB (λj t v h1 Z=>⟨base,D j t v (by simpa using h1) (by simpa using Z)⟩);have w:=(Q gl g2 g3).call (zQ W) W args.toList T g1;have G:=lZ.calls hn hf hc w;have J:(⟨yx [] args.toList⟩:QQ)=args:=by simp[yx]
 rw[J]at G;have aa:a.length=fn.params.size:=by
  have:∀{M:List TypeId}{N:Q6}{a:List (DataW H)}{ps:List MemPlace},DataW.TrodAll enc P W 0 (λ_=>true) true M N a ps->a.length=M.length:=by
   intro M;induction M with
   |nil=>intro N a ps h;cases N<;>cases a<;>simp[DataW.TrodAll]at h⊢
   |cons t M ih=>intro N a ps h;cases N<;>cases a<;>simp[DataW.TrodAll]at h⊢;obtain⟨_,_,_,Z,_⟩:=h;exact ih Z
  simpa using this V
 refine Calls.mono' G ?_;rintro e W' ⟨v,rfl,af,i,us,rfl,O⟩
 simp only[aS]at O;obtain⟨u,ag,rfl,hu,rfl⟩:=O;simp only[GR]at hu;subst hu;have x:s.fn H (a++[]) ={results:=[.lit (.bool true)],args:=a}:=by rw[qp];exact hs a aa
 simp only[qp]at E F;refine⟨_,rfl,azH (pa:=p) (pv:=[]) E (λ_ _ _=>?_) (λsp ab=>?_) (λ_ _=>?_) (by simp) i.kept (ok_one (by rw[hr]) rfl (okWide_bool_mk A _))⟩
 ·rw[x,hr];exact trodAll_cons_mk (shut_bool A _) trodAll_mk0
 ·rw[x];exact al2 o i.kept V r F ab
 ·rw[x,g];rfl
end
abbrev o1:Bool:=true
abbrev o0:Bool:=false
