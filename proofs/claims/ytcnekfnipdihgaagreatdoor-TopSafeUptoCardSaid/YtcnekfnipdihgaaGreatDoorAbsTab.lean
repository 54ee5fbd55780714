/- All definitions of a law as rows of one table: which function or loop each is of; all are checked by a few runs. -/
import Derived.Test.YtcnekfnipdihgaaGreatDoorAbsJ
set_option linter.all false
namespace Go.aP
noncomputable section
variable{P:Program}
inductive Row where
 |any (c:IE)
 |told (f:FuncId) (st:W8) (sh:WP)
 |fn (f:FuncId) (st:W8) (sh:WP) (pe:Q4) (l:WK)
 |fs (f:FuncId) (st:W8) (sp:aN) (pe:Q4) (l:WK)
 |lp (f:FuncId) (way:XX) (sp:aN) (ps:Q4) (l:WK)
def Je(P:Program)(f:FuncId):Code:=match P.funcs[f]? with
 |some fn=>fn.body.getD .skip
 |none=>.skip
def Row.ctr(P:Program)(tabs:QQ):Row->IE
 |.any c=>c
 |.told f st b=>pO P tabs f st b
 |.fn f st b _ _=>pO P tabs f st b
 |.fs f st a _ _=>Py P tabs f st a.pre a.posts
 |.lp f d a _ _=>wX P tabs (yu (Je P f) d) a.pre a.posts
def Row.hand:Row->Bool
 |.any _|.told _ _ _=>true
 |_=>false
def Nv:Q4->List Nat->Bool
 |[],[]=>true
 |a::l,b::m=>Nat.beq a b&&Nv l m
 |_,_=>false
def ahb:∀{l m:Q4},Nv l m=true->l=m
 |[],[],_=>rfl
 |a::l,b::m,h=>by simp only[Nv,aO]at h;rw[bQ h.1,ahb h.2]
 |[],_::_,h=>by simp[Nv]at h
 |_::_,[],h=>by simp[Nv]at h
def Nw:XX->List (Q4×Nat)->Bool
 |[],[]=>true
 |(a,b)::l,(c,d)::m=>Nv a c&&Nat.beq b d&&Nw l m
 |_,_=>false
def ahc:∀{l m:XX},Nw l m=true->l=m
 |[],[],_=>rfl
 |(a,b)::l,(c,d)::m,h=>by simp only[Nw,aO]at h;rw[ahb h.1.1,bQ h.1.2,ahc h.2]
 |[],_::_,h=>by simp[Nw]at h
 |_::_,[],h=>by simp[Nw]at h
def Bh:WP->List pR->Bool
 |[],[]=>true
 |.sc::l,.sc::m=>Bh l m
 |.ag a::l,.ag b::m=>Nat.beq a b&&Bh l m
 |_,_=>false
def aaA:∀{l m:WP},Bh l m=true->l=m
 |[],[],_=>rfl
 |.sc::l,.sc::m,h=>by simp only[Bh]at h;rw[aaA h]
 |.ag a::l,.ag b::m,h=>by simp only[Bh,aO]at h;rw[bQ h.1,aaA h.2]
 |[],_::_,h=>by simp[Bh]at h
 |.sc::_,[],h=>by simp[Bh]at h
 |.ag _::_,[],h=>by simp[Bh]at h
 |.sc::_,.ag _::_,h=>by simp[Bh]at h
 |.ag _::_,.sc::_,h=>by simp[Bh]at h
def O3(rows:List Row)(f:FuncId)(a:XX)(e:Q4):WK->Option Wz
 |[]=>some []
 |(k,b)::r=>match rows[b]? with
  |some (.lp g c d _ _)=>if(Nat.beq g f&&Nw c (a++[(e,k)])&&Nat.beq d.key b&&d.pre.ok)=true then(O3 rows f a e r).map ((k,d)::·)else none
  |_=>none
section
variable{tabs:QQ}{rows:List Row}{I:je}
abbrev zi(P:Program)(tabs:QQ)(rows:List Row):Nat->List GV->List GV->Prop:=Px (rows.map (Row.ctr P tabs))
def QD{k:Nat}{r:Row}(b:rows[k]? =some r){gs a:Q3}(h:zi P tabs rows k gs a):r.ctr P tabs gs a:=by unfold zi Px at h;rw[iO,b]at h;exact h
def Yk(i:∀k gs b,I k gs=some b->zi P tabs rows k gs b){f:FuncId}{c:XX}{j:Q4}:∀{l:WK}{a:Wz},O3 rows f c j l=some a->
 Ee P tabs I (oI j (yu (Je P f) c)) a
 |[],_,h=>by cases h;exact Ee.nil
 |(k,n)::r,a,h=>by
  unfold O3 at h;split at h
  ·next t o u v l d=>
   split at h
   ·next m=>
    simp only[aO]at m;obtain⟨⟨⟨h1,e⟩,g⟩,p⟩:=m;have h1:=bQ h1;have e:=ahc e;have g:=bQ g;subst h1;subst e;subst g;obtain⟨q,s,rfl⟩:=bG.1 h;refine Ee.cons p (λgs b hi=>?_) (Yk i s);have:=QD d (i _ _ _ hi);simp only[Row.ctr,afD]at this;exact this
   ·cases h
  ·cases h
def Z8(P:Program)(tabs:QQ)(pl:mY)(fuel:Nat)(rows:List Row)(k:Nat)(d:aH):Bool:=
 match rows[k]? with
 |some (.fn f st m e l)=>match d with
  |.fn h i t=>Bh m i&&(match P.funcs[f]? with
   |some fn=>match fn.body,O3 rows f [] e l with
    |some c,some a=>t.chk (abE P tabs pl a fuel st h i fn.ntmps fn.results.toList (oI e c)) (List.replicate h.length .arg) []
    |_,_=>false
   |none=>false)
  |_=>false
 |some (.fs f st b e l)=>match d with
  |.tree n t=>Nat.beq n b.pre.np&&(match P.funcs[f]? with
   |some fn=>match fn.body,O3 rows f [] e l with
    |some c,some a=>t.chk (abG P tabs pl a fuel st b fn.ntmps fn.results.toList (oI e c)) (List.replicate b.pre.np .arg) []
    |_,_=>false
   |none=>false)
  |_=>false
 |some (.lp f g b j l)=>match d with
  |.tree n t=>Nat.beq n b.pre.np&&(Nat.beq b.key k&&b.pre.ok)&&(match O3 rows f g j l with
   |some a=>t.chk (Xe P tabs pl a fuel b (oI j (yu (Je P f) g))) (List.replicate b.pre.np .arg) []
   |none=>false)
  |_=>false
 |_=>false
def aoK(i:xk tabs P.globals.size)(w:P.follows .mixedOrders=true)(x:xX P){pl:mY}(p:∀I:je,(∀k gs o,I k gs=some o->zi P tabs rows k gs o)->zO P tabs I pl){fuel k:Nat}{d:aH}{r:Row}(B:rows[k]? =some r)
 (h:Z8 P tabs pl fuel rows k d=true):LU (zi P tabs rows) d (r.ctr P tabs):=by
 intro I q gs o y;unfold Z8 at h;rw[B]at h;cases r with
 |any c=>cases h
 |told f st D=>cases h
 |fn f st D E l=>
  cases d with
  |tree n t=>cases h
  |uH g=>cases h
  |fn L M t=>
   simp only[aO]at h;have:=aaA h.1;subst this;have h:=h.2;split at h
   ·next fn s=>
    split at h
    ·next c j u v=>
     have z:yu (Je P f) []=c:=by simp only[yu,Je,s,u,sH]
     have m:=Yk q v;rw[z]at m;exact pO.Sm i w x (p I q) s u m h y
    ·cases h
   ·cases h
 |fs f st F E l=>
  cases d with
  |fn a b t=>cases h
  |uH g=>cases h
  |tree n t=>
   simp only[aO]at h;have e:=bQ h.1;have h:=h.2;split at h
   ·next fn s=>
    split at h
    ·next c j u v=>
     have z:yu (Je P f) []=c:=by simp only[yu,Je,s,u,sH]
     have m:=Yk q v;rw[z]at m;exact Py.Sm i w x (p I q) e s u m h y
    ·cases h
   ·cases h
 |lp f G F N l=>
  cases d with
  |fn a b t=>cases h
  |uH g=>cases h
  |tree n t=>
   simp only[aO]at h;have e:=bQ h.1.1;have J:=bQ h.1.2.1;have A:=h.1.2.2;have h:=h.2;split at h
   ·next j v=>
    refine wX.ayj i w x (p I q) A e (Yk q v) (λgs o hi=>?_) h y;rw[J]at hi;exact QD B (q _ _ _ hi)
   ·cases h
def Z7(P:Program)(tabs:QQ)(pl:mY)(rows:List Row)(Ds:Wb)(k:Nat):Bool:=match rows[k]?,Ds[k]? with
 |some r,some d=>r.hand ||Z8 P tabs pl 100000 rows k d
 |_,_=>false
def fO(P:Program)(tabs:QQ)(pl:mY)(rows:List Row)(Ds:Wb):Nat->Nat->Bool
 |_,0=>true
 |a,n+1=>Z7 P tabs pl rows Ds a&&fO P tabs pl rows Ds (a+1) n
def Seg(P:Program)(tabs:QQ)(pl:mY)(rows:List Row)(Ds:Wb)(a b:Nat):Prop:=∀k,a<=k->k<b->Z7 P tabs pl rows Ds k=true
def Seg.of{pl:mY}{Ds:Wb}:∀{n a:Nat},fO P tabs pl rows Ds a n=true->Seg P tabs pl rows Ds a (a+n)
 |0,a,_,k,h1,b=>ah
 |n+1,a,h,k,h1,b=>by
  simp only[fO,aO]at h;by_cases e:k=a
  ·subst e;exact h.1
  ·exact Seg.of h.2 k ah ah
def Seg.join{pl:mY}{Ds:Wb}{a b c:Nat}(h1:Seg P tabs pl rows Ds a b)(d:Seg P tabs pl rows Ds b c):Seg P tabs pl rows Ds a c:=λk f g=>by
 by_cases e:k<b
 ·exact h1 k f e
 ·exact d k ah g
def LV(P:Program)(tabs:QQ)(rows:List Row)(Ds:Wb):Q4->Prop
 |[]=>True
 |k::l=>(∃r d,rows[k]? =some r/\Ds[k]? =some d/\LU (zi P tabs rows) d (r.ctr P tabs))/\LV P tabs rows Ds l
def LV.at{Ds:Wb}:∀{l:Q4},LV P tabs rows Ds l->∀{k:Nat},k∈l->∀{r:Row}{d:aH},rows[k]? =some r->Ds[k]? =some d->LU (zi P tabs rows) d (r.ctr P tabs)
 |a::l,h,k,hk,r,d,b,c=>by
  rcases bJ.1 hk with rfl|hk
  ·obtain⟨g,i,h1,e,f⟩:=h.1;rw[b]at h1;cases h1;rw[c]at e;cases e;exact f
  ·exact LV.at h.2 hk b c
def JF:List Row->Nat->List Nat
 |[],_=>[]
 |r::l,k=>if r.hand=true then k::JF l (k+1)else JF l (k+1)
def ah3:∀{l:List Row}{k i:Nat}{r:Row},l[i]? =some r->r.hand=true->k+i∈JF l k
 |[],_,_,_,h,_=>by simp at h
 |a::l,k,0,r,h,b=>by simp only[kQ,bf]at h;subst h;unfold JF;rw[au b];simp
 |a::l,k,i+1,r,h,b=>by
  have:=ah3 (l:=l) (k:=k+1) (i:=i) (by simpa using h) b;rw[(ah:k+1+i=k+(i+1))]at this;unfold JF;split
  ·exact yU _ this
  ·exact this
def aff{C:Nat->List GV->List GV->Prop}:∀{Ds:Wb}{rows:List Row},Ds.length=rows.length->(∀(k:Nat) d r,Ds[k]? =some d->rows[k]? =some r->LU C d (r.ctr P tabs))->LJ C Ds (rows.map (Row.ctr P tabs))
 |[],[],_,_=>trivial
 |d::Ds,r::rows,a,h=>⟨h 0 d r aA aA,aff (by simpa using a) λk b c h1 e=>h (k+1) b c (by simpa using h1) (by simpa using e)⟩
 |[],_::_,a,_=>by simp at a
 |_::_,[],a,_=>by simp at a
def aEA(b:xk tabs P.globals.size)(l:P.follows .mixedOrders=true)(m:xX P){pl:mY}(g:∀I:je,(∀k gs a,I k gs=some a->zi P tabs rows k gs a)->zO P tabs I pl){Ds:Wb}
 (h:LV P tabs rows Ds (JF rows 0)) (c:Ds.length=rows.length) (e:Seg P tabs pl rows Ds 0 Ds.length):∀k gs a,(vU Ds).lim k gs=some a->zi P tabs rows k gs a:=by
 refine awT (aff c λk d r i f=>?_);have n:=(fV.1 i).1;cases j:r.hand with
 |true=>refine h.at ?_ f i;have:=ah3 (k:=0) f j;rwa [l9]at this
 |false=>have:=e k (sG _) n;unfold Z7 at this;rw[f,i]at this;simp only[j,AA]at this;exact aoK b l m g f this
def Va(P:Program)(rows:List Row)(k:Nat)(N:iD):dV:=match rows[k]? with
 |some (.fn _ st a _ _)=>@XC N P k st a
 |some (.told _ st a)=>@XC N P k st a
 |some (.fs _ st b _ _)=>@XD N P st b
 |_=>λ_ _=>none
def ZV(P:Program)(rows:List Row):Q4->iD->dV
 |[],_=>λ_ _=>none
 |[k],N=>Va P rows k N
 |k::l,N=>orP (Va P rows k N) (ZV P rows l N)
def VI(rows:List Row)(f:FuncId)(k:Nat):Bool:=match rows[k]? with
 |some (.fn a _ _ _ _)=>Nat.beq a f
 |some (.told a _ _)=>Nat.beq a f
 |some (.fs a _ b _ _)=>Nat.beq a f&&Nat.beq b.key k&&b.pre.ok
 |_=>false
def ag8(rows:List Row)(es:List (FuncId×Q4)):Bool:=es.all λe=>e.2.all (VI rows e.1)
def akl(P:Program)(rows:List Row)(es:List (FuncId×Q4))(a:mY):mY:=λN=>es.map (λe=>(e.1,ZV P rows e.2 N))++a N
def afV(b:xk tabs P.globals.size){T:aJ}(j:T.tabs=tabs)(g:∀k gs a,T.I k gs=some a->zi P tabs rows k gs a){f:FuncId}{k:Nat}(h:VI rows f k=true):@dP T P f (Va P rows k T.toiD):=by
 subst j;unfold VI at h;unfold Va;split at h
 ·next i st m n l c=>
  have:=bQ h;subst this;exact akc λgs a d=>QD c (g k gs a d)
 ·next i st m c=>
  have:=bQ h;subst this;exact akc λgs a d=>QD c (g k gs a d)
 ·next i st o n l c=>
  simp only[aO]at h;have:=bQ h.1.1;subst this;have e:=bQ h.1.2;exact akb b h.2 λgs a d=>QD c (g k gs a (by rw[<-e];exact d))
 ·cases h
def afY(a:xk tabs P.globals.size){T:aJ}(c:T.tabs=tabs)(d:∀k gs b,T.I k gs=some b->zi P tabs rows k gs b){f:FuncId}:∀{l:Q4},l.all (VI rows f)=true->@dP T P f (ZV P rows l T.toiD)
 |[],_=>λ_ _ _ _ h=>by cases h
 |[k],h=>afV a c d (by simpa using h)
 |k::e::l,h=>by simp only[qZ,aO]at h;exact ays (afV a c d h.1) (afY a c d (l:=e::l) (by simpa using h.2))
def azu(b:xk tabs P.globals.size){es:List (FuncId×Q4)}{c:mY}(a:ag8 rows es=true){I:je}(j:∀k gs d,I k gs=some d->zi P tabs rows k gs d)(f:zO P tabs I c):zO P tabs I (akl P rows es c):=by
 intro T i g p h;rcases iP.1 h with h|h
 ·obtain⟨e,l,rfl⟩:=su.1 h;unfold ag8 at a;rw[List.all_eq_true]at a;exact afY b i (by rw[g];exact j) (a e l)
 ·exact f T i g p h
end
end
open Go
def sB(l:Q4):Bool×Q4:=match l with
 |t::l=>(Nat.beq t 1,l)
 |[]=>(false,[])
def sBs:Nat->List Nat->List UInt8×Q4
 |0,l=>([],l)
 |k+1,l=>match rN l with|(a,l)=>match sBs k l with|(x,l)=>(UInt8.ofNat a::x,l)
def sV(cI:Nat->Int):Nat->Nat->List Nat->AV×Nat×Q4
 |0,q,l=>(.kC,q,l)
 |_,q,[]=>(.kC,q,[])
 |f+1,q,t::l=>
  let vs:Nat->Nat->List Nat->List AV×Nat×Q4:=λk=>Nat.rec (λq l=>([],q,l)) (λ_ r q l=>match sV cI f q l with|(a,q,l)=>match r q l with|(x,q,l)=>(a::x,q,l)) k
  match t with
  |0=>(.nd q,q+1,l)
  |1=>match rN l with|(a,l)=>(.nd a,a+1,l)
  |2=>match rN l with|(a,l)=>(.p a 0,q,l)
  |3=>match rN l with|(a,l)=>match rN l with|(b,l)=>(.p a b,q,l)
  |4=>match rN l with|(a,l)=>(.sv a q,q+1,l)
  |5=>match rN l with|(a,l)=>match rN l with|(b,l)=>(.sv a b,b+1,l)
  |6=>(.b false,q,l)
  |7=>(.b true,q,l)
  |8=>match rN l with|(k,l)=>match rN l with|(a,l)=>(.i (rK k) (cI a),q,l)
  |9=>match rN l with|(k,l)=>match sBs k l with|(x,l)=>(.s x,q,l)
  |10=>(.gX,q,l)
  |11=>(.qQ,q,l)
  |12=>(.Ai,q,l)
  |13=>(.vF,q,l)
  |14=>match rN l with|(a,l)=>(.mp a,q,l)
  |15=>match rN l with|(g,l)=>match rN l with|(a,l)=>match vs a q l with|(x,q,l)=>match rN l with|(b,l)=>match vs b q l with|(y,q,l)=>(.fn g x y,q,l)
  |16=>match rN l with|(t,l)=>match sV cI f q l with|(v,q,l)=>(.jE t v,q,l)
  |17=>match rN l with|(k,l)=>match vs k q l with|(x,q,l)=>(.agg x,q,l)
  |18=>match rN l with|(k,l)=>match vs k q l with|(x,q,l)=>(.fG x,q,l)
  |19=>match rN l with|(a,l)=>match rN l with|(b,l)=>(.rx a b,q,l)
  |_=>(.kC,q,l)
def sVs(cI:Nat->Int):Nat->Nat->List Nat->List AV×Nat×Q4
 |0,q,l=>([],q,l)
 |k+1,q,l=>match sV cI 9 q l with|(a,q,l)=>match sVs cI k q l with|(x,q,l)=>(a::x,q,l)
def sSl(cI:Nat->Int):Nat->Nat->Nat->List Nat->List (Nat×AV)×Nat×Q4
 |0,_,q,l=>([],q,l)
 |k+1,p,q,l=>match rN l with|(d,l)=>match sV cI 9 q l with|(a,q,l)=>match sSl cI k (p+d+1) q l with|(x,q,l)=>((p+d,a)::x,q,l)
def sOb(cI:Nat->Int):Nat->Nat->List Nat->List (Nat×bM)×Nat×Q4
 |0,q,l=>([],q,l)
 |k+1,q,l=>match rN l with
  |(i,t::l)=>match(match t with
   |0=>match rN l with|(n,l)=>match sVs cI n q l with|(x,q,l)=>match rN l with|(e,l)=>match sB l with|(r,l)=>match sB l with|(o,l)=>(bM.cells x e r o,q,l)
   |1=>match rN l with|(n,l)=>match rN l with|(e,l)=>match sB l with|(r,l)=>(bM.vec n e r,n+1,l)
   |_=>match rN l with|(n,l)=>match rN l with|(a,l)=>match rN l with|(z,l)=>(bM.smap n (match a with
    |0=>none
    |k+1=>some (rK k)) (match z with
    |0=>none
    |k+1=>some k),n+1,l))with
   |(o,q,l)=>match sOb cI k q l with|(x,q,l)=>((i,o)::x,q,l)
  |(_,[])=>([],q,[])
def X7:Nat->Nat->List Nat->List W3×Q4
 |0,_,l=>([],l)
 |_,_,[]=>([],[])
 |k+1,p,t::l=>match t with
  |0=>match X7 k p l with|(x,l)=>(none::x,l)
  |1=>match X7 k (p+1) l with|(x,l)=>(some p::x,l)
  |_=>match rN l with|(a,l)=>match X7 k (a+1) l with|(x,l)=>(some a::x,l)
def sSh(cI:Nat->Int)(l:Q4):iK×Q4:=
 match rN l with|(n,l)=>match rN l with|(d,l)=>match rN l with|(e,l)=>match rN l with|(f,l)=>match rN l with|(a,l)=>match sSl cI a 0 0 l with|(g,q,l)=>match rN l with|(b,l)=>match sOb cI b q l with|(h,_,l)=>match rN l with|(i,l)=>match rN l with|(c,l)=>match X7 c 0 l with|(j,l)=>(⟨d,n,e,f,g,h,i,j⟩,l)
def sEx:Nat->fM
 |0=>.ret
 |1=>.normal
 |e+2=>.exit e
def sPo(cI:Nat->Int):Nat->List Nat->List (fM×iK)
 |0,_=>[]
 |k+1,l=>match rN l with|(e,l)=>match sSh cI l with|(s,l)=>(sEx e,s)::sPo cI k l
def rLo(cI:Nat->Int)(l:Q4):aN:=
 match rN l with|(k,l)=>match sSh cI l with|(s,l)=>match rN l with|(c,l)=>⟨k,s,sPo cI c l⟩
def gS:WD->Nat->aN
 |a::_,0=>a
 |_::l,n+1=>gS l n
 |[],_=>rLo (λ_=>0) []
open Go.ChangeShapes Go.WideShapes Go.ChangeAt Go.RowKit
noncomputable section
variable{P:Program}{H:Type}{enc:TypeId×Value->H}
def aDA{w:World}{n m:Nat}{t:TypeId}{v:Value}{d:DataW H}{p:List MemPlace}{l:WN}{g:GV}(j:zX P n t=some l)(q:pG P t=some false)(z:v.cells.toList=[v])
 (h1:DataW.trod enc P w 0 (λ_=>true) true m t v.cells.toList=some (d,p)) (o:GR (Ae w) g v):∀xs,g=.l xs->xs=[]\/∃f i,d=.slice f i/\f.length=xs.length:=by
 rintro xs rfl
 simp only[GR]at o;rcases o with⟨e,_⟩|⟨a,r,o⟩
 ·exact .inl e
 have s:∃a n c,v=.slice (some a) n c/\n=xs.length:=by obtain⟨b,c,F,A,-⟩:=o;exact⟨_,_,_,A,rfl⟩
 obtain⟨G,B,J,rfl,rfl⟩:=s;rw[z]at h1;cases n with
 |zero=>simp[zX]at j
 |succ n=>
  simp only[zX]at j;split at j
  ·next h=>obtain⟨b,e,-⟩:=DataW.trod_bool h h1;cases e
  ·next k h=>obtain⟨b,e,-⟩:=DataW.trod_int h h1;cases e
  ·next h=>obtain⟨b,e,-⟩:=DataW.trod_string h h1;cases e
  ·next e h=>
   rcases Deep.open_slice h h1 with⟨u,-⟩|⟨a,len,y,r,B,D,Pl,u,L,M,N,E,x,hi⟩
   ·cases u
   ·cases u;injection x with x _
    exact .inr ⟨_,_,x,aA⟩
  ·next O h=>simp[pG,h]at q
  ·cases j
def amw{w:World}{n B:Nat}{sz:DataW H->Nat}(R:∀a c,a.length<=sz (.slice a c)):∀{ts:List TypeId}{vs:Qt}{y:List (DataW H)}{F:List MemPlace}{L:List (Bool×WN)},argTys P n ts=some L->DataW.TrodAll enc P w 0 (λ_=>true) true ts vs y F->
 (∀z∈DataW.weightsEach P ts y,z<=reachBytes)->(∀d∈y,sz d<=B)->(∀(j:Nat) t v,ts[j]? =some t->vs[j]? =some v->∃S,Value.okWide P w .any S t v)->∃gs,aT (Ae w) gs vs/\hasArgs L gs/\∀xs,GV.l xs∈gs->xs.length<=B
 |[],[],[],F,L,f,h,G,J,k=>by simp only[argTys,bf]at f;subst f;exact⟨[],by simp[aT],by simp[hasArgs],λxs i=>by cases i⟩
 |t::ts,v::vs,d::y,F,L,f,h,G,J,k=>by
  obtain⟨p,q,⟨m,h1⟩,M,rfl⟩:=h;simp only[argTys]at f;split at f
  ·next l b r A o Z=>
   split at f
   ·next hb=>
    cases f;obtain⟨gs,D,E⟩:=adW n m t _ _ l A h1 (λz N=>G z (by simp only[DataW.weightsEach,iP];exact .inl N));obtain⟨T,U,W,X⟩:=amw R Z M (λz N=>G z (by simp only[DataW.weightsEach,iP];exact .inr N)) (λd O=>J d (yU _ O)) (λj t' v' h1 M=>k (j+1) t' v' (by simpa using h1) (by simpa using M));obtain⟨S,hv⟩:=k 0 t v rfl rfl;obtain⟨o1,s⟩:=ayk hv;cases b with
    |true=>
     obtain⟨cs,rfl⟩:=o1 o;refine⟨.g gs::T,by simp only[aT];exact⟨_,_,rfl,by simp only[GR];exact⟨cs.toList,rfl,D⟩,U⟩,?_⟩;refine⟨by simp only[hasArgs];exact⟨_,_,rfl,E,rfl,W⟩,λxs i=>?_⟩;rcases bJ.1 i with e|i
     ·cases e
     ·exact X xs i
    |false=>
     have Q:l.length=1:=by simpa using hb
     rcases s o with s|s
     rotate_left
     ·rw[s n]at A;cases A
     rw[s]at D;obtain⟨g,rfl⟩:∃g,gs=[g]:=Y9.1 (by rw[E.scalars.2,Q]);have x:g.scalar=true:=by have:=E.scalars.1;simpa using this
     simp only[aT]at D;obtain⟨u,us,e1,Y,_⟩:=D;cases e1;refine⟨g::T,by simp only[aT];exact⟨_,_,rfl,Y,U⟩,?_⟩;refine⟨by simp only[hasArgs];exact⟨_,_,rfl,by cases g<;>first|exact E|(simp[GV.scalar]at x),x,W⟩,λxs i=>?_⟩;rcases bJ.1 i with e|i
     ·rcases aDA A o (by rw[s]) h1 Y xs e.symm with q|⟨a,c,q1,q2⟩
      ·rw[q];exact sG _
      ·have q3:=J d PD;rw[q1]at q3;have:=R a c;omega
     ·exact X xs i
   ·cases f
  ·cases f
 |[],_::_,_,_,_,_,h,_,_,_=>by simp[DataW.TrodAll]at h
 |[],[],_::_,_,_,_,h,_,_,_=>by simp[DataW.TrodAll]at h
 |_::_,[],_,_,_,_,h,_,_,_=>by simp[DataW.TrodAll]at h
 |_::_,_::_,[],_,_,_,h,_,_,_=>by simp[DataW.TrodAll]at h
def awL{H:Type}{B:Nat}{sz:DataW H->Nat}(WI:∀b m,b.length<=sz (.slice b m)){enc:TypeId×Value->H}{tabs:QQ}{f:FuncId}{fn:Func}{c:Code}{s:ChangeSpec}{n:Nat}{L:List (Bool×WN)}{tb:TypeId}{again:Bool}(hn:xX P)(hf:P.funcs[f]? =some fn)(hc:fn.body=some c)
 (hL:argTys P n fn.params.toList=some L) (o:laidOutB P=true) (r:∀t∈fn.params.toList,P.readableRec t=true/\t<P.types.size) (hr:fn.resultTypes =#[tb]) (A:P.underlying tb=some .bool)
 (g:s.vars=[]) (hs:∀a:List (DataW H),a.length=fn.params.size->s.fn H a ={results:=[.lit (.bool true)],args:=a})
 (Q:∀y,hasArgs L y->(∀xs,GV.l xs∈y->xs.length<=B)->pO P tabs f [] [.sc] y [.b true]) {W:World} {base:Nat} {args:W2} {a y:List (DataW H)} {k:List MemPlace}
 (hB:∀d∈a,sz d<=B) (D:∀(j:Nat) t v,fn.params[j]? =some t->args[j]? =some v->Value.okWide P W .any base t v)
 (R:DataW.Whole enc P fn.params.toList s.vars false W args.toList a y k) {vt:List TypeId} (S:vt=[]) (l:(DataW.weightsEach P (fn.params.toList++vt) (a++y)).all (·<=reachBytes)=true) (T:yZ tabs (Ae W) W):
 Calls P f args W λe W'=>∃v,e=.returned v/\s.post enc P fn false true false again W args v W':=by
 letI:aJ:=Tg [] [] 0
 have E:=R;have F:=λp hp=>R.lt p hp;obtain⟨p,q,U,X,rfl,ac,ad⟩:=R;have ae:=X;rw[g]at X;obtain⟨rfl,rfl⟩:=trodVars_none X;have Y:∀z∈DataW.weightsEach P fn.params.toList a,z<=reachBytes:=by subst S;rw[lQ,lQ,List.all_eq_true]at l;exact λz hz=>by simpa using l z hz
 obtain⟨gl,g1,g2,g3⟩:=amw WI hL U Y hB (λj t v h1 Z=>⟨base,D j t v (by simpa using h1) (by simpa using Z)⟩);have w:=(Q gl g2 g3).call (Ae W) W args.toList T g1;have G:=lY.calls hn hf hc w;have J:(⟨yJ [] args.toList⟩:W2)=args:=by simp[yJ]
 rw[J]at G;have aa:a.length=fn.params.size:=by
  have:∀{M:List TypeId}{N:Qt}{a:List (DataW H)}{ps:List MemPlace},DataW.TrodAll enc P W 0 (λ_=>true) true M N a ps->a.length=M.length:=by
   intro M;induction M with
   |nil=>intro N a ps h;cases N<;>cases a<;>simp[DataW.TrodAll]at h⊢
   |cons t M ih=>intro N a ps h;cases N<;>cases a<;>simp[DataW.TrodAll]at h⊢;obtain⟨_,_,_,Z,_⟩:=h;exact ih Z
  simpa using this U
 refine Calls.mono' G ?_;rintro e W' ⟨v,rfl,af,i,us,rfl,O⟩
 simp only[aT]at O;obtain⟨u,ag,rfl,hu,rfl⟩:=O;simp only[GR]at hu;subst hu;have x:s.fn H (a++[]) ={results:=[.lit (.bool true)],args:=a}:=by rw[lQ];exact hs a aa
 simp only[lQ]at E F;refine⟨_,rfl,azF (pa:=p) (pv:=[]) E (λ_ _ _=>?_) (λsp ab=>?_) (λ_ _=>?_) aA i.kept (ok_one (by rw[hr]) rfl (okWide_bool_mk A _))⟩
 ·rw[x,hr];exact trodAll_cons_mk (shut_bool A _) trodAll_mk0
 ·rw[x];exact amx o i.kept U r F ab
 ·rw[x,g];rfl
end
abbrev o1:Bool:=true
abbrev o0:Bool:=false
