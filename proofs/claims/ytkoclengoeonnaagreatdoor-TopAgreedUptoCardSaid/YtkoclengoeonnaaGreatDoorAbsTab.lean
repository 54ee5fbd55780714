/- All definitions of a law as rows of one table: which function or loop each is of; all are checked by a few runs. -/
import Derived.Test.YtkoclengoeonnaaGreatDoorAbsJ
set_option linter.all false
namespace Go.aP
noncomputable section
variable{P:Program}
inductive Row where
 |any (c:Hf)
 |told (f:FuncId) (st:W6) (sh:WF)
 |fn (f:FuncId) (st:W6) (sh:WF) (pe:Q2) (l:Wz)
 |fs (f:FuncId) (st:W6) (sp:aN) (pe:Q2) (l:Wz)
 |lp (f:FuncId) (way:YY) (sp:aN) (ps:Q2) (l:Wz)
def Ic(P:Program)(f:FuncId):Code:=match P.funcs[f]? with
 |some fn=>fn.body.getD .skip
 |none=>.skip
def Row.ctr(P:Program)(tabs:Qt):Row->Hf
 |.any c=>c
 |.told f st b=>ou P tabs f st b
 |.fn f st b _ _=>ou P tabs f st b
 |.fs f st a _ _=>NV P tabs f st a.pre a.posts
 |.lp f d a _ _=>vw P tabs (wR (Ic P f) d) a.pre a.posts
def Row.hand:Row->Bool
 |.any _|.told _ _ _=>true
 |_=>false
def Lm:Q2->List Nat->Bool
 |[],[]=>true
 |a::l,b::m=>Nat.beq a b&&Lm l m
 |_,_=>false
def afw:∀{l m:Q2},Lm l m=true->l=m
 |[],[],_=>rfl
 |a::l,b::m,h=>by simp only[Lm,aO]at h;rw[bM h.1,afw h.2]
 |[],_::_,h=>by simp[Lm]at h
 |_::_,[],h=>by simp[Lm]at h
def Lp:YY->List (Q2×Nat)->Bool
 |[],[]=>true
 |(a,b)::l,(c,d)::m=>Lm a c&&Nat.beq b d&&Lp l m
 |_,_=>false
def afx:∀{l m:YY},Lp l m=true->l=m
 |[],[],_=>rfl
 |(a,b)::l,(c,d)::m,h=>by simp only[Lp,aO]at h;rw[afw h.1.1,bM h.1.2,afx h.2]
 |[],_::_,h=>by simp[Lp]at h
 |_::_,[],h=>by simp[Lp]at h
def Aa:WF->List oC->Bool
 |[],[]=>true
 |.sc::l,.sc::m=>Aa l m
 |.ag a::l,.ag b::m=>Nat.beq a b&&Aa l m
 |_,_=>false
def YO:∀{l m:WF},Aa l m=true->l=m
 |[],[],_=>rfl
 |.sc::l,.sc::m,h=>by simp only[Aa]at h;rw[YO h]
 |.ag a::l,.ag b::m,h=>by simp only[Aa,aO]at h;rw[bM h.1,YO h.2]
 |[],_::_,h=>by simp[Aa]at h
 |.sc::_,[],h=>by simp[Aa]at h
 |.ag _::_,[],h=>by simp[Aa]at h
 |.sc::_,.ag _::_,h=>by simp[Aa]at h
 |.ag _::_,.sc::_,h=>by simp[Aa]at h
def Nz(rows:List Row)(f:FuncId)(a:YY)(e:Q2):Wz->Option Wt
 |[]=>some []
 |(k,b)::r=>match rows[b]? with
  |some (.lp g c d _ _)=>if(Nat.beq g f&&Lp c (a++[(e,k)])&&Nat.beq d.key b&&d.pre.ok)=true then(Nz rows f a e r).map ((k,d)::·)else none
  |_=>none
section
variable{tabs:Qt}{rows:List Row}{I:iJ}
abbrev yh(P:Program)(tabs:Qt)(rows:List Row):Nat->List GV->List GV->Prop:=NU (rows.map (Row.ctr P tabs))
def OY{k:Nat}{r:Row}(b:rows[k]? =some r){gs a:Q1}(h:yh P tabs rows k gs a):r.ctr P tabs gs a:=by unfold yh NU at h;rw[jf,b]at h;exact h
def Wp(i:∀k gs b,I k gs=some b->yh P tabs rows k gs b){f:FuncId}{c:YY}{j:Q2}:∀{l:Wz}{a:Wt},Nz rows f c j l=some a->
 Dt P tabs I (nG j (wR (Ic P f) c)) a
 |[],_,h=>by cases h;exact Dt.nil
 |(k,n)::r,a,h=>by
  unfold Nz at h;split at h
  ·next t o u v l d=>
   split at h
   ·next m=>
    simp only[aO]at m;obtain⟨⟨⟨h1,e⟩,g⟩,p⟩:=m;have h1:=bM h1;have e:=afx e;have g:=bM g;subst h1;subst e;subst g;obtain⟨q,s,rfl⟩:=bn.1 h;refine Dt.cons p (λgs b hi=>?_) (Wp i s);have:=OY d (i _ _ _ hi);simp only[Row.ctr,ad6]at this;exact this
   ·cases h
  ·cases h
def Yn(P:Program)(tabs:Qt)(pl:lG)(fuel:Nat)(rows:List Row)(k:Nat)(d:aH):Bool:=
 match rows[k]? with
 |some (.fn f st m e l)=>match d with
  |.fn h i t=>Aa m i&&(match P.funcs[f]? with
   |some fn=>match fn.body,Nz rows f [] e l with
    |some c,some a=>t.chk (Z8 P tabs pl a fuel st h i fn.ntmps fn.results.toList (nG e c)) (List.replicate h.length .arg) []
    |_,_=>false
   |none=>false)
  |_=>false
 |some (.fs f st b e l)=>match d with
  |.tree n t=>Nat.beq n b.pre.np&&(match P.funcs[f]? with
   |some fn=>match fn.body,Nz rows f [] e l with
    |some c,some a=>t.chk (Z9 P tabs pl a fuel st b fn.ntmps fn.results.toList (nG e c)) (List.replicate b.pre.np .arg) []
    |_,_=>false
   |none=>false)
  |_=>false
 |some (.lp f g b j l)=>match d with
  |.tree n t=>Nat.beq n b.pre.np&&(Nat.beq b.key k&&b.pre.ok)&&(match Nz rows f g j l with
   |some a=>t.chk (U9 P tabs pl a fuel b (nG j (wR (Ic P f) g))) (List.replicate b.pre.np .arg) []
   |none=>false)
  |_=>false
 |_=>false
def amd(i:vG tabs P.globals.size)(w:P.follows .mixedOrders=true)(x:wI P){pl:lG}(p:∀I:iJ,(∀k gs o,I k gs=some o->yh P tabs rows k gs o)->yL P tabs I pl){fuel k:Nat}{d:aH}{r:Row}(B:rows[k]? =some r)
 (h:Yn P tabs pl fuel rows k d=true):Kq (yh P tabs rows) d (r.ctr P tabs):=by
 intro I q gs o y;unfold Yn at h;rw[B]at h;cases r with
 |any c=>cases h
 |told f st D=>cases h
 |fn f st D E l=>
  cases d with
  |tree n t=>cases h
  |rM g=>cases h
  |fn L M t=>
   simp only[aO]at h;have:=YO h.1;subst this;have h:=h.2;split at h
   ·next fn s=>
    split at h
    ·next c j u v=>
     have z:wR (Ic P f) []=c:=by simp only[wR,Ic,s,u,rD]
     have m:=Wp q v;rw[z]at m;exact ou.Qi i w x (p I q) s u m h y
    ·cases h
   ·cases h
 |fs f st F E l=>
  cases d with
  |fn a b t=>cases h
  |rM g=>cases h
  |tree n t=>
   simp only[aO]at h;have e:=bM h.1;have h:=h.2;split at h
   ·next fn s=>
    split at h
    ·next c j u v=>
     have z:wR (Ic P f) []=c:=by simp only[wR,Ic,s,u,rD]
     have m:=Wp q v;rw[z]at m;exact NV.Qi i w x (p I q) e s u m h y
    ·cases h
   ·cases h
 |lp f G F N l=>
  cases d with
  |fn a b t=>cases h
  |rM g=>cases h
  |tree n t=>
   simp only[aO]at h;have e:=bM h.1.1;have J:=bM h.1.2.1;have A:=h.1.2.2;have h:=h.2;split at h
   ·next j v=>
    refine vw.avn i w x (p I q) A e (Wp q v) (λgs o hi=>?_) h y;rw[J]at hi;exact OY B (q _ _ _ hi)
   ·cases h
def Ym(P:Program)(tabs:Qt)(pl:lG)(rows:List Row)(Ds:Wa)(k:Nat):Bool:=match rows[k]?,Ds[k]? with
 |some r,some d=>r.hand ||Yn P tabs pl 100000 rows k d
 |_,_=>false
def fB(P:Program)(tabs:Qt)(pl:lG)(rows:List Row)(Ds:Wa):Nat->Nat->Bool
 |_,0=>true
 |a,n+1=>Ym P tabs pl rows Ds a&&fB P tabs pl rows Ds (a+1) n
def Seg(P:Program)(tabs:Qt)(pl:lG)(rows:List Row)(Ds:Wa)(a b:Nat):Prop:=∀k,a<=k->k<b->Ym P tabs pl rows Ds k=true
def Seg.of{pl:lG}{Ds:Wa}:∀{n a:Nat},fB P tabs pl rows Ds a n=true->Seg P tabs pl rows Ds a (a+n)
 |0,a,_,k,h1,b=>ah
 |n+1,a,h,k,h1,b=>by
  simp only[fB,aO]at h;by_cases e:k=a
  ·subst e;exact h.1
  ·exact Seg.of h.2 k ah ah
def Seg.join{pl:lG}{Ds:Wa}{a b c:Nat}(h1:Seg P tabs pl rows Ds a b)(d:Seg P tabs pl rows Ds b c):Seg P tabs pl rows Ds a c:=λk f g=>by
 by_cases e:k<b
 ·exact h1 k f e
 ·exact d k ah g
def Kr(P:Program)(tabs:Qt)(rows:List Row)(Ds:Wa):Q2->Prop
 |[]=>True
 |k::l=>(∃r d,rows[k]? =some r/\Ds[k]? =some d/\Kq (yh P tabs rows) d (r.ctr P tabs))/\Kr P tabs rows Ds l
def Kr.at{Ds:Wa}:∀{l:Q2},Kr P tabs rows Ds l->∀{k:Nat},k∈l->∀{r:Row}{d:aH},rows[k]? =some r->Ds[k]? =some d->Kq (yh P tabs rows) d (r.ctr P tabs)
 |a::l,h,k,hk,r,d,b,c=>by
  rcases bJ.1 hk with rfl|hk
  ·obtain⟨g,i,h1,e,f⟩:=h.1;rw[b]at h1;cases h1;rw[c]at e;cases e;exact f
  ·exact Kr.at h.2 hk b c
def IL:List Row->Nat->List Nat
 |[],_=>[]
 |r::l,k=>if r.hand=true then k::IL l (k+1)else IL l (k+1)
def agn:∀{l:List Row}{k i:Nat}{r:Row},l[i]? =some r->r.hand=true->k+i∈IL l k
 |[],_,_,_,h,_=>by simp at h
 |a::l,k,0,r,h,b=>by simp only[kP,aY]at h;subst h;unfold IL;rw[au b];simp
 |a::l,k,i+1,r,h,b=>by
  have:=agn (l:=l) (k:=k+1) (i:=i) (by simpa using h) b;rw[(ah:k+1+i=k+(i+1))]at this;unfold IL;split
  ·exact xP _ this
  ·exact this
def adN{C:Nat->List GV->List GV->Prop}:∀{Ds:Wa}{rows:List Row},Ds.length=rows.length->(∀(k:Nat) d r,Ds[k]? =some d->rows[k]? =some r->Kq C d (r.ctr P tabs))->J6 C Ds (rows.map (Row.ctr P tabs))
 |[],[],_,_=>trivial
 |d::Ds,r::rows,a,h=>⟨h 0 d r aA aA,adN (by simpa using a) λk b c h1 e=>h (k+1) b c (by simpa using h1) (by simpa using e)⟩
 |[],_::_,a,_=>by simp at a
 |_::_,[],a,_=>by simp at a
def aBe(b:vG tabs P.globals.size)(l:P.follows .mixedOrders=true)(m:wI P){pl:lG}(g:∀I:iJ,(∀k gs a,I k gs=some a->yh P tabs rows k gs a)->yL P tabs I pl){Ds:Wa}
 (h:Kr P tabs rows Ds (IL rows 0)) (c:Ds.length=rows.length) (e:Seg P tabs pl rows Ds 0 Ds.length):∀k gs a,(uo Ds).lim k gs=some a->yh P tabs rows k gs a:=by
 refine atJ (adN c λk d r i f=>?_);have n:=(fH.1 i).1;cases j:r.hand with
 |true=>refine h.at ?_ f i;have:=agn (k:=0) f j;rwa [kX]at this
 |false=>have:=e k (rZ _) n;unfold Ym at this;rw[f,i]at this;simp only[j,AL]at this;exact amd b l m g f this
def SY(P:Program)(rows:List Row)(k:Nat)(N:gQ):dM:=match rows[k]? with
 |some (.fn _ st a _ _)=>@VD N P k st a
 |some (.told _ st a)=>@VD N P k st a
 |some (.fs _ st b _ _)=>@aaC N P st b
 |_=>λ_ _=>none
def Yg(P:Program)(rows:List Row):Q2->gQ->dM
 |[],_=>λ_ _=>none
 |[k],N=>SY P rows k N
 |k::l,N=>orP (SY P rows k N) (Yg P rows l N)
def TS(rows:List Row)(f:FuncId)(k:Nat):Bool:=match rows[k]? with
 |some (.fn a _ _ _ _)=>Nat.beq a f
 |some (.told a _ _)=>Nat.beq a f
 |some (.fs a _ b _ _)=>Nat.beq a f&&Nat.beq b.key k&&b.pre.ok
 |_=>false
def aft(rows:List Row)(es:List (FuncId×Q2)):Bool:=es.all λe=>e.2.all (TS rows e.1)
def aij(P:Program)(rows:List Row)(es:List (FuncId×Q2))(a:lG):lG:=λN=>es.map (λe=>(e.1,Yg P rows e.2 N))++a N
def ael(b:vG tabs P.globals.size){T:aJ}(j:T.tabs=tabs)(g:∀k gs a,T.I k gs=some a->yh P tabs rows k gs a){f:FuncId}{k:Nat}(h:TS rows f k=true):@dK T P f (SY P rows k T.togQ):=by
 subst j;unfold TS at h;unfold SY;split at h
 ·next i st m n l c=>
  have:=bM h;subst this;exact ah7 λgs a d=>OY c (g k gs a d)
 ·next i st m c=>
  have:=bM h;subst this;exact ah7 λgs a d=>OY c (g k gs a d)
 ·next i st o n l c=>
  simp only[aO]at h;have:=bM h.1.1;subst this;have e:=bM h.1.2;exact avD b h.2 λgs a d=>OY c (g k gs a (by rw[<-e];exact d))
 ·cases h
def aeo(a:vG tabs P.globals.size){T:aJ}(c:T.tabs=tabs)(d:∀k gs b,T.I k gs=some b->yh P tabs rows k gs b){f:FuncId}:∀{l:Q2},l.all (TS rows f)=true->@dK T P f (Yg P rows l T.togQ)
 |[],_=>λ_ _ _ _ h=>by cases h
 |[k],h=>ael a c d (by simpa using h)
 |k::e::l,h=>by simp only[qJ,aO]at h;exact avw (ael a c d h.1) (aeo a c d (l:=e::l) (by simpa using h.2))
def awD(b:vG tabs P.globals.size){es:List (FuncId×Q2)}{c:lG}(a:aft rows es=true){I:iJ}(j:∀k gs d,I k gs=some d->yh P tabs rows k gs d)(f:yL P tabs I c):yL P tabs I (aij P rows es c):=by
 intro T i g p h;rcases ny.1 h with h|h
 ·obtain⟨e,l,rfl⟩:=qK.1 h;unfold aft at a;rw[List.all_eq_true]at a;exact aeo b i (by rw[g];exact j) (a e l)
 ·exact f T i g p h
end
end
open Go
def sB(l:Q2):Bool×Q2:=match l with
 |t::l=>(Nat.beq t 1,l)
 |[]=>(false,[])
def sBs:Nat->List Nat->List UInt8×Q2
 |0,l=>([],l)
 |k+1,l=>match rN l with|(a,l)=>match sBs k l with|(x,l)=>(UInt8.ofNat a::x,l)
def sV(cI:Nat->Int):Nat->Nat->List Nat->AV×Nat×Q2
 |0,q,l=>(.jH,q,l)
 |_,q,[]=>(.jH,q,[])
 |f+1,q,t::l=>
  let vs:Nat->Nat->List Nat->List AV×Nat×Q2:=λk=>Nat.rec (λq l=>([],q,l)) (λ_ r q l=>match sV cI f q l with|(a,q,l)=>match r q l with|(x,q,l)=>(a::x,q,l)) k
  match t with
  |0=>(.nd q,q+1,l)
  |1=>match rN l with|(a,l)=>(.nd a,a+1,l)
  |2=>match rN l with|(a,l)=>(.p a 0,q,l)
  |3=>match rN l with|(a,l)=>match rN l with|(b,l)=>(.p a b,q,l)
  |4=>match rN l with|(a,l)=>(.sv a q,q+1,l)
  |5=>match rN l with|(a,l)=>match rN l with|(b,l)=>(.sv a b,b+1,l)
  |6=>(.b false,q,l)
  |7=>(.b true,q,l)
  |8=>match rN l with|(k,l)=>match rN l with|(a,l)=>(.i (rK k) (cI a),q,l)
  |9=>match rN l with|(k,l)=>match sBs k l with|(x,l)=>(.s x,q,l)
  |10=>(.gy,q,l)
  |11=>(.pO,q,l)
  |12=>(.yZ,q,l)
  |13=>(.sZ,q,l)
  |14=>match rN l with|(a,l)=>(.mp a,q,l)
  |15=>match rN l with|(g,l)=>match rN l with|(a,l)=>match vs a q l with|(x,q,l)=>match rN l with|(b,l)=>match vs b q l with|(y,q,l)=>(.fn g x y,q,l)
  |16=>match rN l with|(t,l)=>match sV cI f q l with|(v,q,l)=>(.jh t v,q,l)
  |17=>match rN l with|(k,l)=>match vs k q l with|(x,q,l)=>(.agg x,q,l)
  |18=>match rN l with|(k,l)=>match vs k q l with|(x,q,l)=>(.dU x,q,l)
  |19=>match rN l with|(a,l)=>match rN l with|(b,l)=>(.rx a b,q,l)
  |_=>(.jH,q,l)
def sVs(cI:Nat->Int):Nat->Nat->List Nat->List AV×Nat×Q2
 |0,q,l=>([],q,l)
 |k+1,q,l=>match sV cI 9 q l with|(a,q,l)=>match sVs cI k q l with|(x,q,l)=>(a::x,q,l)
def sSl(cI:Nat->Int):Nat->Nat->Nat->List Nat->List (Nat×AV)×Nat×Q2
 |0,_,q,l=>([],q,l)
 |k+1,p,q,l=>match rN l with|(d,l)=>match sV cI 9 q l with|(a,q,l)=>match sSl cI k (p+d+1) q l with|(x,q,l)=>((p+d,a)::x,q,l)
def sOb(cI:Nat->Int):Nat->Nat->List Nat->List (Nat×bG)×Nat×Q2
 |0,q,l=>([],q,l)
 |k+1,q,l=>match rN l with
  |(i,t::l)=>match(match t with
   |0=>match rN l with|(n,l)=>match sVs cI n q l with|(x,q,l)=>match rN l with|(e,l)=>match sB l with|(r,l)=>match sB l with|(o,l)=>(bG.cells x e r o,q,l)
   |1=>match rN l with|(n,l)=>match rN l with|(e,l)=>match sB l with|(r,l)=>(bG.vec n e r,n+1,l)
   |_=>match rN l with|(n,l)=>match rN l with|(a,l)=>match rN l with|(z,l)=>(bG.smap n (match a with
    |0=>none
    |k+1=>some (rK k)) (match z with
    |0=>none
    |k+1=>some k),n+1,l))with
   |(o,q,l)=>match sOb cI k q l with|(x,q,l)=>((i,o)::x,q,l)
  |(_,[])=>([],q,[])
def V3:Nat->Nat->List Nat->List QR×Q2
 |0,_,l=>([],l)
 |_,_,[]=>([],[])
 |k+1,p,t::l=>match t with
  |0=>match V3 k p l with|(x,l)=>(none::x,l)
  |1=>match V3 k (p+1) l with|(x,l)=>(some p::x,l)
  |_=>match rN l with|(a,l)=>match V3 k (a+1) l with|(x,l)=>(some a::x,l)
def sSh(cI:Nat->Int)(l:Q2):gX×Q2:=
 match rN l with|(n,l)=>match rN l with|(d,l)=>match rN l with|(e,l)=>match rN l with|(f,l)=>match rN l with|(a,l)=>match sSl cI a 0 0 l with|(g,q,l)=>match rN l with|(b,l)=>match sOb cI b q l with|(h,_,l)=>match rN l with|(i,l)=>match rN l with|(c,l)=>match V3 c 0 l with|(j,l)=>(⟨d,n,e,f,g,h,i,j⟩,l)
def sEx:Nat->eH
 |0=>.ret
 |1=>.normal
 |e+2=>.exit e
def sPo(cI:Nat->Int):Nat->List Nat->List (eH×gX)
 |0,_=>[]
 |k+1,l=>match rN l with|(e,l)=>match sSh cI l with|(s,l)=>(sEx e,s)::sPo cI k l
def rLo(cI:Nat->Int)(l:Q2):aN:=
 match rN l with|(k,l)=>match sSh cI l with|(s,l)=>match rN l with|(c,l)=>⟨k,s,sPo cI c l⟩
def gS:WD->Nat->aN
 |a::_,0=>a
 |_::l,n+1=>gS l n
 |[],_=>rLo (λ_=>0) []
open Go.ChangeShapes Go.WideShapes Go.ChangeAt Go.RowKit
noncomputable section
variable{P:Program}{H:Type}{enc:TypeId×Value->H}
def az9{w:World}{n m:Nat}{t:TypeId}{v:Value}{d:DataW H}{p:List MemPlace}{l:WK}{g:GV}(j:yQ P n t=some l)(q:nU P t=some false)(z:v.cells.toList=[v])
 (h1:DataW.trod enc P w 0 (λ_=>true) true m t v.cells.toList=some (d,p)) (o:GR (yV w) g v):∀xs,g=.l xs->xs=[]\/∃f i,d=.slice f i/\f.length=xs.length:=by
 rintro xs rfl
 simp only[GR]at o;rcases o with⟨e,_⟩|⟨a,r,o⟩
 ·exact .inl e
 have s:∃a n c,v=.slice (some a) n c/\n=xs.length:=by obtain⟨b,c,F,A,-⟩:=o;exact⟨_,_,_,A,rfl⟩
 obtain⟨G,B,J,rfl,rfl⟩:=s;rw[z]at h1;cases n with
 |zero=>simp[yQ]at j
 |succ n=>
  simp only[yQ]at j;split at j
  ·next h=>obtain⟨b,e,-⟩:=DataW.trod_bool h h1;cases e
  ·next k h=>obtain⟨b,e,-⟩:=DataW.trod_int h h1;cases e
  ·next h=>obtain⟨b,e,-⟩:=DataW.trod_string h h1;cases e
  ·next e h=>
   rcases Deep.open_slice h h1 with⟨u,-⟩|⟨a,len,y,r,B,D,Pl,u,L,M,N,E,x,hi⟩
   ·cases u
   ·cases u;injection x with x _
    exact .inr ⟨_,_,x,aA⟩
  ·next O h=>simp[nU,h]at q
  ·cases j
def ake{w:World}{n B:Nat}{sz:DataW H->Nat}(S:∀a c,a.length<=sz (.slice a c)):∀{ts:List TypeId}{vs:Q6}{y:List (DataW H)}{F:List MemPlace}{L:List (Bool×WK)},argTys P n ts=some L->DataW.TrodAll enc P w 0 (λ_=>true) true ts vs y F->
 (∀z∈DataW.weightsEach P ts y,z<=reachBytes)->(∀d∈y,sz d<=B)->(∀(j:Nat) t v,ts[j]? =some t->vs[j]? =some v->∃T,Value.okWide P w .any T t v)->∃gs,aS (yV w) gs vs/\hasArgs L gs/\∀xs,GV.l xs∈gs->xs.length<=B
 |[],[],[],F,L,f,h,G,J,k=>by simp only[argTys,aY]at f;subst f;exact⟨[],by simp[aS],by simp[hasArgs],λxs i=>by cases i⟩
 |t::ts,v::vs,d::y,F,L,f,h,G,J,k=>by
  obtain⟨p,q,⟨m,h1⟩,M,rfl⟩:=h;simp only[argTys]at f;split at f
  ·next l b r A o Z=>
   split at f
   ·next hb=>
    cases f;obtain⟨gs,D,E⟩:=aco n m t _ _ l A h1 (λz N=>G z (by simp only[DataW.weightsEach,ny];exact .inl N));obtain⟨U,V,W,X⟩:=ake S Z M (λz N=>G z (by simp only[DataW.weightsEach,ny];exact .inr N)) (λd O=>J d (xP _ O)) (λj t' v' h1 M=>k (j+1) t' v' (by simpa using h1) (by simpa using M));obtain⟨T,hv⟩:=k 0 t v rfl rfl;obtain⟨o1,s⟩:=avo hv;cases b with
    |true=>
     obtain⟨cs,rfl⟩:=o1 o;refine⟨.g gs::U,by simp only[aS];exact⟨_,_,rfl,by simp only[GR];exact⟨cs.toList,rfl,D⟩,V⟩,?_⟩;refine⟨by simp only[hasArgs];exact⟨_,_,rfl,E,rfl,W⟩,λxs i=>?_⟩;rcases bJ.1 i with e|i
     ·cases e
     ·exact X xs i
    |false=>
     have R:l.length=1:=by simpa using hb
     rcases s o with s|s
     rotate_left
     ·rw[s n]at A;cases A
     rw[s]at D;obtain⟨g,rfl⟩:∃g,gs=[g]:=Xz.1 (by rw[E.scalars.2,R]);have x:g.scalar=true:=by have:=E.scalars.1;simpa using this
     simp only[aS]at D;obtain⟨u,us,e1,Y,_⟩:=D;cases e1;refine⟨g::U,by simp only[aS];exact⟨_,_,rfl,Y,V⟩,?_⟩;refine⟨by simp only[hasArgs];exact⟨_,_,rfl,by cases g<;>first|exact E|(simp[GV.scalar]at x),x,W⟩,λxs i=>?_⟩;rcases bJ.1 i with e|i
     ·rcases az9 A o (by rw[s]) h1 Y xs e.symm with q|⟨a,c,q1,q2⟩
      ·rw[q];exact rZ _
      ·have q3:=J d Ri;rw[q1]at q3;have:=S a c;omega
     ·exact X xs i
   ·cases f
  ·cases f
 |[],_::_,_,_,_,_,h,_,_,_=>by simp[DataW.TrodAll]at h
 |[],[],_::_,_,_,_,h,_,_,_=>by simp[DataW.TrodAll]at h
 |_::_,[],_,_,_,_,h,_,_,_=>by simp[DataW.TrodAll]at h
 |_::_,_::_,[],_,_,_,h,_,_,_=>by simp[DataW.TrodAll]at h
def atC{H:Type}{B:Nat}{sz:DataW H->Nat}(UL:∀b m,b.length<=sz (.slice b m)){enc:TypeId×Value->H}{tabs:Qt}{f:FuncId}{fn:Func}{c:Code}{s:ChangeSpec}{n:Nat}{L:List (Bool×WK)}{tb:TypeId}{again:Bool}(hn:wI P)(hf:P.funcs[f]? =some fn)(hc:fn.body=some c)
 (hL:argTys P n fn.params.toList=some L) (o:laidOutB P=true) (r:∀t∈fn.params.toList,P.readableRec t=true/\t<P.types.size) (hr:fn.resultTypes =#[tb]) (A:P.underlying tb=some .bool)
 (g:s.vars=[]) (hs:∀a:List (DataW H),a.length=fn.params.size->s.fn H a ={results:=[.lit (.bool true)],args:=a})
 (R:∀y,hasArgs L y->(∀xs,GV.l xs∈y->xs.length<=B)->ou P tabs f [] [.sc] y [.b true]) {W:World} {base:Nat} {args:QQ} {a y:List (DataW H)} {k:List MemPlace}
 (hB:∀d∈a,sz d<=B) (D:∀(j:Nat) t v,fn.params[j]? =some t->args[j]? =some v->Value.okWide P W .any base t v)
 (S:DataW.Whole enc P fn.params.toList s.vars false W args.toList a y k) {vt:List TypeId} (T:vt=[]) (l:(DataW.weightsEach P (fn.params.toList++vt) (a++y)).all (·<=reachBytes)=true) (U:xW tabs (yV W) W):
 Calls P f args W λe W'=>∃v,e=.returned v/\s.post enc P fn false true false again W args v W':=by
 letI:aJ:=Tg [] [] 0
 have E:=S;have F:=λp hp=>S.lt p hp;obtain⟨p,q,V,X,rfl,ac,ad⟩:=S;have ae:=X;rw[g]at X;obtain⟨rfl,rfl⟩:=trodVars_none X;have Y:∀z∈DataW.weightsEach P fn.params.toList a,z<=reachBytes:=by subst T;rw[qZ,qZ,List.all_eq_true]at l;exact λz hz=>by simpa using l z hz
 obtain⟨gl,g1,g2,g3⟩:=ake UL hL V Y hB (λj t v h1 Z=>⟨base,D j t v (by simpa using h1) (by simpa using Z)⟩);have w:=(R gl g2 g3).call (yV W) W args.toList U g1;have G:=lC.calls hn hf hc w;have J:(⟨xB [] args.toList⟩:QQ)=args:=by simp[xB]
 rw[J]at G;have aa:a.length=fn.params.size:=by
  have:∀{M:List TypeId}{N:Q6}{a:List (DataW H)}{ps:List MemPlace},DataW.TrodAll enc P W 0 (λ_=>true) true M N a ps->a.length=M.length:=by
   intro M;induction M with
   |nil=>intro N a ps h;cases N<;>cases a<;>simp[DataW.TrodAll]at h⊢
   |cons t M ih=>intro N a ps h;cases N<;>cases a<;>simp[DataW.TrodAll]at h⊢;obtain⟨_,_,_,Z,_⟩:=h;exact ih Z
  simpa using this V
 refine Calls.mono' G ?_;rintro e W' ⟨v,rfl,af,i,us,rfl,O⟩
 simp only[aS]at O;obtain⟨u,ag,rfl,hu,rfl⟩:=O;simp only[GR]at hu;subst hu;have x:s.fn H (a++[]) ={results:=[.lit (.bool true)],args:=a}:=by rw[qZ];exact hs a aa
 simp only[qZ]at E F;refine⟨_,rfl,awN (pa:=p) (pv:=[]) E (λ_ _ _=>?_) (λsp ab=>?_) (λ_ _=>?_) aA i.kept (ok_one (by rw[hr]) rfl (okWide_bool_mk A _))⟩
 ·rw[x,hr];exact trodAll_cons_mk (shut_bool A _) trodAll_mk0
 ·rw[x];exact akf o i.kept V r F ab
 ·rw[x,g];rfl
end
abbrev o1:Bool:=true
abbrev o0:Bool:=false
