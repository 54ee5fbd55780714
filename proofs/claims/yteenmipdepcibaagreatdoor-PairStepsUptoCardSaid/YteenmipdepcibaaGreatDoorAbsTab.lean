/- All definitions of a law as rows of one table: which function or loop each is of; all are checked by a few runs. -/
import Derived.Test.YteenmipdepcibaaGreatDoorAbsJ
set_option linter.unusedSimpArgs false
set_option linter.unusedSectionVars false
set_option linter.unusedVariables false
namespace Go.aN
noncomputable section
variable{P:Program}
inductive Row where
 |any (c:F5)
 |told (f:FuncId) (st:W4) (sh:WK)
 |fn (f:FuncId) (st:W4) (sh:WK) (pe:Q2) (l:Ww)
 |fs (f:FuncId) (st:W4) (sp:aJ) (pe:Q2) (l:Ww)
 |lp (f:FuncId) (way:Ys) (sp:aJ) (ps:Q2) (l:Ww)
def Gx(P:Program)(f:FuncId):Code:=match P.funcs[f]? with
 |some fn=>fn.body.getD .skip
 |none=>.skip
def Row.ctr(P:Program)(tabs:Qt):Row->F5
 |.any c=>c
 |.told f st sh=>nP P tabs f st sh
 |.fn f st sh _ _=>nP P tabs f st sh
 |.fs f st sp _ _=>Nq P tabs f st sp.pre sp.posts
 |.lp f way sp _ _=>uz P tabs (vP (Gx P f) way) sp.pre sp.posts
def Row.hand:Row->Bool
 |.any _|.told _ _ _=>true
 |_=>false
def Kz:Q2->List Nat->Bool
 |[],[]=>true
 |a::l,b::m=>Nat.beq a b&&Kz l m
 |_,_=>false
theorem aeD:∀{l m:Q2},Kz l m=true->l=m
 |[],[],_=>rfl
 |a::l,b::m,h=>by simp only[Kz,aK]at h;rw[bD h.1,aeD h.2]
 |[],_::_,h=>by simp[Kz]at h
 |_::_,[],h=>by simp[Kz]at h
def KA:Ys->List (Q2×Nat)->Bool
 |[],[]=>true
 |(a,b)::l,(c,d)::m=>Kz a c&&Nat.beq b d&&KA l m
 |_,_=>false
theorem aeE:∀{l m:Ys},KA l m=true->l=m
 |[],[],_=>rfl
 |(a,b)::l,(c,d)::m,h=>by simp only[KA,aK]at h;rw[aeD h.1.1,bD h.1.2,aeE h.2]
 |[],_::_,h=>by simp[KA]at h
 |_::_,[],h=>by simp[KA]at h
def y9:WK->List oG->Bool
 |[],[]=>true
 |.sc::l,.sc::m=>y9 l m
 |.ag a::l,.ag b::m=>Nat.beq a b&&y9 l m
 |_,_=>false
theorem Yf:∀{l m:WK},y9 l m=true->l=m
 |[],[],_=>rfl
 |.sc::l,.sc::m,h=>by simp only[y9]at h;rw[Yf h]
 |.ag a::l,.ag b::m,h=>by simp only[y9,aK]at h;rw[bD h.1,Yf h.2]
 |[],_::_,h=>by simp[y9]at h
 |.sc::_,[],h=>by simp[y9]at h
 |.ag _::_,[],h=>by simp[y9]at h
 |.sc::_,.ag _::_,h=>by simp[y9]at h
 |.ag _::_,.sc::_,h=>by simp[y9]at h
def MN(rows:List Row)(f:FuncId)(way:Ys)(pe:Q2):Ww->Option Wo
 |[]=>some []
 |(k,key)::r=>match rows[key]? with
  |some (.lp f' ajG sp _ _)=>if(Nat.beq f' f&&KA ajG (way++[(pe,k)])&&Nat.beq sp.key key&&sp.pre.ok)=true then(MN rows f way pe r).map ((k,sp)::·)else none
  |_=>none
section
variable{tabs:Qt}{rows:List Row}{I:iC}
abbrev xA(P:Program)(tabs:Qt)(rows:List Row):Nat->List GV->List GV->Prop:=Np (rows.map (Row.ctr P tabs))
theorem Oh{k:Nat}{r:Row}(hr:rows[k]? =some r){gs out:Q1}(h:xA P tabs rows k gs out):r.ctr P tabs gs out:=by unfold xA Np at h;rw[iP,hr]at h;exact h
theorem Vx(hI:∀k gs out,I k gs=some out->xA P tabs rows k gs out){f:FuncId}{way:Ys}{pe:Q2}:∀{l:Ww}{specs:Wo},MN rows f way pe l=some specs->
 BO P tabs I (mW pe (vP (Gx P f) way)) specs
 |[],_,h=>by cases h;exact BO.nil
 |(k,key)::r,specs,h=>by
  unfold MN at h;split at h
  ·next f' ajG sp ps l hrow=>
   split at h
   ·next hc=>
    simp only[aK]at hc;obtain⟨⟨⟨h1,h2⟩,h3⟩,h4⟩:=hc;have h1:=bD h1;have h2:=aeE h2;have h3:=bD h3;subst h1;subst h2;subst h3;obtain⟨aDM,h5,rfl⟩:=aZ.1 h;refine BO.cons h4 (λgs out hi=>?_) (Vx hI h5);have:=Oh hrow (hI _ _ _ hi);simp only[Row.ctr,ac8]at this;exact this
   ·cases h
  ·cases h
def XM(P:Program)(tabs:Qt)(pl:kV)(fuel:Nat)(rows:List Row)(k:Nat)(d:aF):Bool:=
 match rows[k]? with
 |some (.fn f st sh pe l)=>match d with
  |.fn wK yD t=>y9 sh yD&&(match P.funcs[f]? with
   |some fn=>match fn.body,MN rows f [] pe l with
    |some c,some specs=>t.chk (Zq P tabs pl specs fuel st wK yD fn.ntmps fn.results.toList (mW pe c)) (List.replicate wK.length .arg) []
    |_,_=>false
   |none=>false)
  |_=>false
 |some (.fs f st sp pe l)=>match d with
  |.tree n t=>Nat.beq n sp.pre.np&&(match P.funcs[f]? with
   |some fn=>match fn.body,MN rows f [] pe l with
    |some c,some specs=>t.chk (Zr P tabs pl specs fuel st sp fn.ntmps fn.results.toList (mW pe c)) (List.replicate sp.pre.np .arg) []
    |_,_=>false
   |none=>false)
  |_=>false
 |some (.lp f way sp ps l)=>match d with
  |.tree n t=>Nat.beq n sp.pre.np&&(Nat.beq sp.key k&&sp.pre.ok)&&(match MN rows f way ps l with
   |some specs=>t.chk (Ut P tabs pl specs fuel sp (mW ps (vP (Gx P f) way))) (List.replicate sp.pre.np .arg) []
   |none=>false)
  |_=>false
 |_=>false
theorem alh(hlow:uH tabs P.globals.size)(hm:P.follows .mixedOrders=true)(hn:vI P){pl:kV}(hpl:∀I:iC,(∀k gs out,I k gs=some out->xA P tabs rows k gs out)->xW P tabs I pl){fuel k:Nat}{d:aF}{r:Row}(hr:rows[k]? =some r)
 (h:XM P tabs pl fuel rows k d=true):JC (xA P tabs rows) d (r.ctr P tabs):=by
 intro I hI gs out hd;unfold XM at h;rw[hr]at h;cases r with
 |any c=>cases h
 |told f st sh=>cases h
 |fn f st sh pe l=>
  cases d with
  |tree n t=>cases h
  |eH g=>cases h
  |fn wK yD t=>
   simp only[aK]at h;have:=Yf h.1;subst this;have h:=h.2;split at h
   ·next fn hf=>
    split at h
    ·next c specs hc hs=>
     have hb:vP (Gx P f) []=c:=by simp only[vP,Gx,hf,hc,qN]
     have hsp:=Vx hI hs;rw[hb]at hsp;exact nP.Pm hlow hm hn (hpl I hI) hf hc hsp h hd
    ·cases h
   ·cases h
 |fs f st sp pe l=>
  cases d with
  |fn a b t=>cases h
  |eH g=>cases h
  |tree n t=>
   simp only[aK]at h;have e:=bD h.1;have h:=h.2;split at h
   ·next fn hf=>
    split at h
    ·next c specs hc hs=>
     have hb:vP (Gx P f) []=c:=by simp only[vP,Gx,hf,hc,qN]
     have hsp:=Vx hI hs;rw[hb]at hsp;exact Nq.Pm hlow hm hn (hpl I hI) e hf hc hsp h hd
    ·cases h
   ·cases h
 |lp f way sp ps l=>
  cases d with
  |fn a b t=>cases h
  |eH g=>cases h
  |tree n t=>
   simp only[aK]at h;have e:=bD h.1.1;have e2:=bD h.1.2.1;have hok:=h.1.2.2;have h:=h.2;split at h
   ·next specs hs=>
    refine uz.auD hlow hm hn (hpl I hI) hok e (Vx hI hs) (λgs out hi=>?_) h hd;rw[e2]at hi;exact Oh hr (hI _ _ _ hi)
   ·cases h
def XL(P:Program)(tabs:Qt)(pl:kV)(rows:List Row)(Ds:W7)(k:Nat):Bool:=match rows[k]?,Ds[k]? with
 |some r,some d=>r.hand ||XM P tabs pl 100000 rows k d
 |_,_=>false
def eY(P:Program)(tabs:Qt)(pl:kV)(rows:List Row)(Ds:W7):Nat->Nat->Bool
 |_,0=>true
 |a,n+1=>XL P tabs pl rows Ds a&&eY P tabs pl rows Ds (a+1) n
def Seg(P:Program)(tabs:Qt)(pl:kV)(rows:List Row)(Ds:W7)(a b:Nat):Prop:=∀k,a<=k->k<b->XL P tabs pl rows Ds k=true
theorem Seg.of{pl:kV}{Ds:W7}:∀{n a:Nat},eY P tabs pl rows Ds a n=true->Seg P tabs pl rows Ds a (a+n)
 |0,a,_,k,h1,h2=>by omega
 |n+1,a,h,k,h1,h2=>by
  simp only[eY,aK]at h;by_cases e:k=a
  ·subst e;exact h.1
  ·exact Seg.of h.2 k (by omega) (by omega)
theorem Seg.join{pl:kV}{Ds:W7}{a b c:Nat}(h1:Seg P tabs pl rows Ds a b)(h2:Seg P tabs pl rows Ds b c):Seg P tabs pl rows Ds a c:=λk k1 k2=>by
 by_cases e:k<b
 ·exact h1 k k1 e
 ·exact h2 k (by omega) k2
def JD(P:Program)(tabs:Qt)(rows:List Row)(Ds:W7):Q2->Prop
 |[]=>True
 |k::l=>(∃r d,rows[k]? =some r/\Ds[k]? =some d/\JC (xA P tabs rows) d (r.ctr P tabs))/\JD P tabs rows Ds l
theorem JD.at{Ds:W7}:∀{l:Q2},JD P tabs rows Ds l->∀{k:Nat},k∈l->∀{r:Row}{d:aF},rows[k]? =some r->Ds[k]? =some d->JC (xA P tabs rows) d (r.ctr P tabs)
 |a::l,h,k,hk,r,d,hr,hd=>by
  rcases bG.1 hk with rfl|hk
  ·obtain⟨r',d',h1,h2,h3⟩:=h.1;rw[hr]at h1;cases h1;rw[hd]at h2;cases h2;exact h3
  ·exact JD.at h.2 hk hr hd
def Hy:List Row->Nat->List Nat
 |[],_=>[]
 |r::l,k=>if r.hand=true then k::Hy l (k+1)else Hy l (k+1)
theorem afp:∀{l:List Row}{k i:Nat}{r:Row},l[i]? =some r->r.hand=true->k+i∈Hy l k
 |[],_,_,_,h,_=>by simp at h
 |a::l,k,0,r,h,hh=>by simp only[jS,aW]at h;subst h;unfold Hy;rw[aj hh];simp
 |a::l,k,i+1,r,h,hh=>by
  have:=afp (l:=l) (k:=k+1) (i:=i) (by simpa using h) hh;rw[show k+1+i=k+(i+1) by omega]at this;unfold Hy;split
  ·exact wY _ this
  ·exact this
theorem acR{C:Nat->List GV->List GV->Prop}:∀{Ds:W7}{rows:List Row},Ds.length=rows.length->(∀(k:Nat) d r,Ds[k]? =some d->rows[k]? =some r->JC C d (r.ctr P tabs))->Jv C Ds (rows.map (Row.ctr P tabs))
 |[],[],_,_=>trivial
 |d::Ds,r::rows,hl,h=>⟨h 0 d r (by simp) (by simp),acR (by simpa using hl) λk d' r' h1 h2=>h (k+1) d' r' (by simpa using h1) (by simpa using h2)⟩
 |[],_::_,hl,_=>by simp at hl
 |_::_,[],hl,_=>by simp at hl
theorem aAf(hlow:uH tabs P.globals.size)(hm:P.follows .mixedOrders=true)(hn:vI P){pl:kV}(hpl:∀I:iC,(∀k gs out,I k gs=some out->xA P tabs rows k gs out)->xW P tabs I pl){Ds:W7}
 (arK:JD P tabs rows Ds (Hy rows 0)) (hlen:Ds.length=rows.length) (hseg:Seg P tabs pl rows Ds 0 Ds.length):∀k gs out,(xX Ds).lim k gs=some out->xA P tabs rows k gs out:=by
 refine as4 (acR hlen λk d r hd hr=>?_);have hk:=(eU.1 hd).1;cases hh:r.hand with
 |true=>refine arK.at ?_ hr hd;have:=afp (k:=0) hr hh;rwa [kH]at this
 |false=>have:=hseg k (ql _) hk;unfold XL at this;rw[hr,hd]at this;simp only[hh,zJ]at this;exact alh hlow hm hn hpl hr this
def RF(P:Program)(rows:List Row)(k:Nat)(N:gG):dX:=match rows[k]? with
 |some (.fn _ st sh _ _)=>@UZ N P k st sh
 |some (.told _ st sh)=>@UZ N P k st sh
 |some (.fs _ st sp _ _)=>@ZV N P st sp
 |_=>λ_ _=>none
def XF(P:Program)(rows:List Row):Q2->gG->dX
 |[],_=>λ_ _=>none
 |[k],N=>RF P rows k N
 |k::l,N=>ZP (RF P rows k N) (XF P rows l N)
def SH(rows:List Row)(f:FuncId)(k:Nat):Bool:=match rows[k]? with
 |some (.fn f' _ _ _ _)=>Nat.beq f' f
 |some (.told f' _ _)=>Nat.beq f' f
 |some (.fs f' _ sp _ _)=>Nat.beq f' f&&Nat.beq sp.key k&&sp.pre.ok
 |_=>false
def aez(rows:List Row)(es:List (FuncId×Q2)):Bool:=es.all λe=>e.2.all (SH rows e.1)
def aho(P:Program)(rows:List Row)(es:List (FuncId×Q2))(raw:kV):kV:=λN=>es.map (λe=>(e.1,XF P rows e.2 N))++raw N
theorem adt(hlow:uH tabs P.globals.size){T:aH}(hT:T.tabs=tabs)(hI:∀k gs out,T.I k gs=some out->xA P tabs rows k gs out){f:FuncId}{k:Nat}(h:SH rows f k=true):@dN T P f (RF P rows k T.togG):=by
 subst hT;unfold SH at h;unfold RF;split at h
 ·next f' st sh pe l hr=>
  have:=bD h;subst this;exact ahh λgs out h'=>Oh hr (hI k gs out h')
 ·next f' st sh hr=>
  have:=bD h;subst this;exact ahh λgs out h'=>Oh hr (hI k gs out h')
 ·next f' st sp pe l hr=>
  simp only[aK]at h;have:=bD h.1.1;subst this;have e:=bD h.1.2;exact auS hlow h.2 λgs out h'=>Oh hr (hI k gs out (by rw[<-e];exact h'))
 ·cases h
theorem adx(hlow:uH tabs P.globals.size){T:aH}(hT:T.tabs=tabs)(hI:∀k gs out,T.I k gs=some out->xA P tabs rows k gs out){f:FuncId}:∀{l:Q2},l.all (SH rows f)=true->@dN T P f (XF P rows l T.togG)
 |[],_=>λ_ _ _ _ h=>by cases h
 |[k],h=>adt hlow hT hI (by simpa using h)
 |k::k'::l,h=>by simp only[qK,aK]at h;exact auM (adt hlow hT hI h.1) (adx hlow hT hI (l:=k'::l) (by simpa using h.2))
theorem avF(hlow:uH tabs P.globals.size){es:List (FuncId×Q2)}{raw:kV}(hes:aez rows es=true){I:iC}(hI:∀k gs out,I k gs=some out->xA P tabs rows k gs out)(hraw:xW P tabs I raw):xW P tabs I (aho P rows es raw):=by
 intro T hT hTI p hp;rcases kG.1 hp with hp|hp
 ·obtain⟨e,he,rfl⟩:=qj.1 hp;unfold aez at hes;rw[List.all_eq_true]at hes;exact adx hlow hT (by rw[hTI];exact hI) (hes e he)
 ·exact hraw T hT hTI p hp
end
end
open Go
def sB(l:Q2):Bool×Q2:=match l with
 |t::l=>(Nat.beq t 1,l)
 |[]=>(false,[])
def sBs:Nat->List Nat->List UInt8×Q2
 |0,l=>([],l)
 |k+1,l=>match rN l with|(a,l)=>match sBs k l with|(x,l)=>(UInt8.ofNat a::x,l)
def sV(cI:Nat->Int):Nat->Nat->List Nat->AV×Nat×Q2
 |0,q,l=>(.jr,q,l)
 |_,q,[]=>(.jr,q,[])
 |f+1,q,t::l=>
  let vs:Nat->Nat->List Nat->List AV×Nat×Q2:=λk=>Nat.rec (λq l=>([],q,l)) (λ_ r q l=>match sV cI f q l with|(a,q,l)=>match r q l with|(x,q,l)=>(a::x,q,l)) k
  match t with
  |0=>(.nd q,q+1,l)
  |1=>match rN l with|(a,l)=>(.nd a,a+1,l)
  |2=>match rN l with|(a,l)=>(.p a 0,q,l)
  |3=>match rN l with|(a,l)=>match rN l with|(b,l)=>(.p a b,q,l)
  |4=>match rN l with|(a,l)=>(.sv a q,q+1,l)
  |5=>match rN l with|(a,l)=>match rN l with|(b,l)=>(.sv a b,b+1,l)
  |6=>(.b false,q,l)
  |7=>(.b true,q,l)
  |8=>match rN l with|(k,l)=>match rN l with|(a,l)=>(.i (rK k) (cI a),q,l)
  |9=>match rN l with|(k,l)=>match sBs k l with|(x,l)=>(.s x,q,l)
  |10=>(.fV,q,l)
  |11=>(.oU,q,l)
  |12=>(.yw,q,l)
  |13=>(.rW,q,l)
  |14=>match rN l with|(a,l)=>(.mp a,q,l)
  |15=>match rN l with|(g,l)=>match rN l with|(a,l)=>match vs a q l with|(x,q,l)=>match rN l with|(b,l)=>match vs b q l with|(y,q,l)=>(.fn g x y,q,l)
  |16=>match rN l with|(t,l)=>match sV cI f q l with|(v,q,l)=>(.iW t v,q,l)
  |17=>match rN l with|(k,l)=>match vs k q l with|(x,q,l)=>(.agg x,q,l)
  |18=>match rN l with|(k,l)=>match vs k q l with|(x,q,l)=>(.dP x,q,l)
  |19=>match rN l with|(a,l)=>match rN l with|(b,l)=>(.rx a b,q,l)
  |_=>(.jr,q,l)
def sVs(cI:Nat->Int):Nat->Nat->List Nat->List AV×Nat×Q2
 |0,q,l=>([],q,l)
 |k+1,q,l=>match sV cI 9 q l with|(a,q,l)=>match sVs cI k q l with|(x,q,l)=>(a::x,q,l)
def sSl(cI:Nat->Int):Nat->Nat->Nat->List Nat->List (Nat×AV)×Nat×Q2
 |0,_,q,l=>([],q,l)
 |k+1,p,q,l=>match rN l with|(d,l)=>match sV cI 9 q l with|(a,q,l)=>match sSl cI k (p+d+1) q l with|(x,q,l)=>((p+d,a)::x,q,l)
def sOb(cI:Nat->Int):Nat->Nat->List Nat->List (Nat×bn)×Nat×Q2
 |0,q,l=>([],q,l)
 |k+1,q,l=>match rN l with
  |(i,t::l)=>match(match t with
   |0=>match rN l with|(n,l)=>match sVs cI n q l with|(x,q,l)=>match rN l with|(e,l)=>match sB l with|(r,l)=>match sB l with|(o,l)=>(bn.cells x e r o,q,l)
   |1=>match rN l with|(n,l)=>match rN l with|(e,l)=>match sB l with|(r,l)=>(bn.vec n e r,n+1,l)
   |_=>match rN l with|(n,l)=>match rN l with|(kk,l)=>match rN l with|(z,l)=>(bn.smap n (match kk with
    |0=>none
    |k+1=>some (rK k)) (match z with
    |0=>none
    |k+1=>some k),n+1,l))with
   |(o,q,l)=>match sOb cI k q l with|(x,q,l)=>((i,o)::x,q,l)
  |(_,[])=>([],q,[])
def Vj:Nat->Nat->List Nat->List QR×Q2
 |0,_,l=>([],l)
 |_,_,[]=>([],[])
 |k+1,p,t::l=>match t with
  |0=>match Vj k p l with|(x,l)=>(none::x,l)
  |1=>match Vj k (p+1) l with|(x,l)=>(some p::x,l)
  |_=>match rN l with|(a,l)=>match Vj k (a+1) l with|(x,l)=>(some a::x,l)
def sSh(cI:Nat->Int)(l:Q2):gU×Q2:=
 match rN l with|(n,l)=>match rN l with|(np,l)=>match rN l with|(gn,l)=>match rN l with|(nx,l)=>match rN l with|(a,l)=>match sSl cI a 0 0 l with|(sl,q,l)=>match rN l with|(b,l)=>match sOb cI b q l with|(ob,_,l)=>match rN l with|(ka,l)=>match rN l with|(c,l)=>match Vj c 0 l with|(al,l)=>(⟨np,n,gn,nx,sl,ob,ka,al⟩,l)
def sEx:Nat->dZ
 |0=>.ret
 |1=>.normal
 |e+2=>.exit e
def sPo(cI:Nat->Int):Nat->List Nat->List (dZ×gU)
 |0,_=>[]
 |k+1,l=>match rN l with|(e,l)=>match sSh cI l with|(s,l)=>(sEx e,s)::sPo cI k l
def rLo(cI:Nat->Int)(l:Q2):aJ:=
 match rN l with|(k,l)=>match sSh cI l with|(s,l)=>match rN l with|(c,l)=>⟨k,s,sPo cI c l⟩
def gS:Wr->Nat->aJ
 |a::_,0=>a
 |_::l,n+1=>gS l n
 |[],_=>rLo (λ_=>0) []
open Go.ChangeShapes Go.WideShapes Go.ChangeAt Go.RowKit
noncomputable section
variable{P:Program}{H:Type}{enc:TypeId×Value->H}
theorem azf{w:World}{n m:Nat}{t:TypeId}{v:Value}{d:DataW H}{p:List MemPlace}{l:WD}{g:GV}(hc:yc P n t=some l)(hag:nI P t=some false)(hv:v.cells.toList=[v])
 (h1:DataW.trod enc P w 0 (λ_=>true) true m t v.cells.toList=some (d,p)) (hg:GR (yt w) g v):∀xs,g=.l xs->xs=[]\/∃elems spare,d=.slice elems spare/\elems.length=xs.length:=by
 rintro xs rfl
 simp only[GR]at hg;rcases hg with⟨e,_⟩|⟨a,cap,hg⟩
 ·exact .inl e
 have hv0:∃a n c,v=.slice (some a) n c/\n=xs.length:=by obtain⟨b,c,h2,h3,-⟩:=hg;exact⟨_,_,_,h3,rfl⟩
 obtain⟨a',n',c',rfl,rfl⟩:=hv0;rw[hv]at h1;cases n with
 |zero=>simp[yc]at hc
 |succ n=>
  simp only[yc]at hc;split at hc
  ·next hu=>obtain⟨b,e,-⟩:=DataW.trod_bool hu h1;cases e
  ·next k hu=>obtain⟨b,e,-⟩:=DataW.trod_int hu h1;cases e
  ·next hu=>obtain⟨b,e,-⟩:=DataW.trod_string hu h1;cases e
  ·next e hu=>
   rcases Deep.open_slice hu h1 with⟨e1,-⟩|⟨a,len,cap0,cap,n',D,Pl,e1,hb,hl,hm,hmm,e2,hi⟩
   ·cases e1
   ·cases e1;injection e2 with e2 _
    exact .inr ⟨_,_,e2,by simp⟩
  ·next fs hu=>simp[nI,hu]at hag
  ·cases hc
theorem aji{w:World}{n B:Nat}{sz:DataW H->Nat}(TW:∀elems spare,elems.length<=sz (.slice elems spare)):∀{ts:List TypeId}{vs:Q6}{ds:List (DataW H)}{ps:List MemPlace}{L:List (Bool×WD)},argTys P n ts=some L->DataW.TrodAll enc P w 0 (λ_=>true) true ts vs ds ps->
 (∀z∈DataW.weightsEach P ts ds,z<=reachBytes)->(∀d∈ds,sz d<=B)->(∀(j:Nat) t v,ts[j]? =some t->vs[j]? =some v->∃b0,Value.okWide P w .any b0 t v)->∃gs,aO (yt w) gs vs/\hasArgs L gs/\∀xs,GV.l xs∈gs->xs.length<=B
 |[],[],[],ps,L,hL,h,hw,hd,hok=>by simp only[argTys,aW]at hL;subst hL;exact⟨[],by simp[aO],by simp[hasArgs],λxs hx=>by cases hx⟩
 |t::ts,v::vs,d::ds,ps,L,hL,h,hw,hd,hok=>by
  obtain⟨p,q,⟨m,h1⟩,h2,rfl⟩:=h;simp only[argTys]at hL;split at hL
  ·next l b r hc hag hr=>
   split at hL
   ·next hb=>
    cases hL;obtain⟨gs,g1,g2⟩:=abw n m t _ _ l hc h1 (λz hz=>hw z (by simp only[DataW.weightsEach,kG];exact .inl hz));obtain⟨hs,k1,k2,k3⟩:=aji TW hr h2 (λz hz=>hw z (by simp only[DataW.weightsEach,kG];exact .inr hz)) (λd hd'=>hd d (wY _ hd')) (λj t' v' h1 h2=>hok (j+1) t' v' (by simpa using h1) (by simpa using h2));obtain⟨b0,hv⟩:=hok 0 t v rfl rfl;obtain⟨o1,o2⟩:=auE hv;cases b with
    |true=>
     obtain⟨cs,rfl⟩:=o1 hag;refine⟨.g gs::hs,by simp only[aO];exact⟨_,_,rfl,by simp only[GR];exact⟨cs.toList,rfl,g1⟩,k1⟩,?_⟩;refine⟨by simp only[hasArgs];exact⟨_,_,rfl,g2,rfl,k2⟩,λxs hx=>?_⟩;rcases bG.1 hx with e|hx
     ·cases e
     ·exact k3 xs hx
    |false=>
     have hl1:l.length=1:=by simpa using hb
     rcases o2 hag with o2|o2
     rotate_left
     ·rw[o2 n]at hc;cases hc
     rw[o2]at g1;obtain⟨g,rfl⟩:∃g,gs=[g]:=WI.1 (by rw[g2.scalars.2,hl1]);have hsc:g.scalar=true:=by have:=g2.scalars.1;simpa using this
     simp only[aO]at g1;obtain⟨u,us,e1,e2,_⟩:=g1;cases e1;refine⟨g::hs,by simp only[aO];exact⟨_,_,rfl,e2,k1⟩,?_⟩;refine⟨by simp only[hasArgs];exact⟨_,_,rfl,by cases g<;>first|exact g2|(simp[GV.scalar]at hsc),hsc,k2⟩,λxs hx=>?_⟩;rcases bG.1 hx with e|hx
     ·rcases azf hc hag (by rw[o2]) h1 e2 xs e.symm with q|⟨elems,spare,q1,q2⟩
      ·rw[q];exact ql _
      ·have q3:=hd d Qz;rw[q1]at q3;have:=TW elems spare;omega
     ·exact k3 xs hx
   ·cases hL
  ·cases hL
 |[],_::_,_,_,_,_,h,_,_,_=>by simp[DataW.TrodAll]at h
 |[],[],_::_,_,_,_,h,_,_,_=>by simp[DataW.TrodAll]at h
 |_::_,[],_,_,_,_,h,_,_,_=>by simp[DataW.TrodAll]at h
 |_::_,_::_,[],_,_,_,h,_,_,_=>by simp[DataW.TrodAll]at h
theorem asX{H:Type}{B:Nat}{sz:DataW H->Nat}(TW:∀elems spare,elems.length<=sz (.slice elems spare)){enc:TypeId×Value->H}{tabs:Qt}{f:FuncId}{fn:Func}{c:Code}{s:ChangeSpec}{n:Nat}{L:List (Bool×WD)}{tb:TypeId}{again:Bool}(hn:vI P)(hf:P.funcs[f]? =some fn)(hc:fn.body=some c)
 (hL:argTys P n fn.params.toList=some L) (hlaid:laidOutB P=true) (hread:∀t∈fn.params.toList,P.readableRec t=true/\t<P.types.size) (hr:fn.resultTypes =#[tb]) (htb:P.underlying tb=some .bool)
 (hvars:s.vars=[]) (hs:∀ds:List (DataW H),ds.length=fn.params.size->s.fn H ds ={results:=[.lit (.bool true)],args:=ds})
 (arM:∀gs,hasArgs L gs->(∀xs,GV.l xs∈gs->xs.length<=B)->nP P tabs f [] [.sc] gs [.b true]) {W:World} {base:Nat} {args:QQ} {ds gs:List (DataW H)} {before:List MemPlace}
 (hB:∀d∈ds,sz d<=B) (hval:∀(j:Nat) t v,fn.params[j]? =some t->args[j]? =some v->Value.okWide P W .any base t v)
 (hW:DataW.Whole enc P fn.params.toList s.vars false W args.toList ds gs before) {vt:List TypeId} (hvt:vt=[]) (hsz0:(DataW.weightsEach P (fn.params.toList++vt) (ds++gs)).all (·<=reachBytes)=true) (hro:xk tabs (yt W) W):
 Calls P f args W λe W'=>∃v,e=.returned v/\s.post enc P fn false true false again W args v W':=by
 letI:aH:=Tg [] [] 0
 have hW':=hW;have hlt:=λp hp=>hW.lt p hp;obtain⟨p,q,hA,hV,rfl,hfz,hnd⟩:=hW;have hV':=hV;rw[hvars]at hV;obtain⟨rfl,rfl⟩:=trodVars_none hV;have hsz:∀z∈DataW.weightsEach P fn.params.toList ds,z<=reachBytes:=by subst hvt;rw[qL,qL,List.all_eq_true]at hsz0;exact λz hz=>by simpa using hsz0 z hz
 obtain⟨gl,g1,g2,g3⟩:=aji TW hL hA hsz hB (λj t v h1 h2=>⟨base,hval j t v (by simpa using h1) (by simpa using h2)⟩);have hcall:=(arM gl g2 g3).call (yt W) W args.toList hro g1;have afx:=kQ.calls hn hf hc hcall;have hput:(⟨wG [] args.toList⟩:QQ)=args:=by simp[wG]
 rw[hput]at afx;have hdl:ds.length=fn.params.size:=by
  have:∀{ts:List TypeId}{vs:Q6}{ds:List (DataW H)}{ps:List MemPlace},DataW.TrodAll enc P W 0 (λ_=>true) true ts vs ds ps->ds.length=ts.length:=by
   intro ts;induction ts with
   |nil=>intro vs ds ps h;cases vs<;>cases ds<;>simp[DataW.TrodAll]at h⊢
   |cons t ts ih=>intro vs ds ps h;cases vs<;>cases ds<;>simp[DataW.TrodAll]at h⊢;obtain⟨_,_,_,h2,_⟩:=h;exact ih h2
  simpa using this hA
 refine Calls.mono' afx ?_;rintro e W' ⟨v,rfl,ro',hstep,us,rfl,hus⟩
 simp only[aO]at hus;obtain⟨u,us',rfl,hu,rfl⟩:=hus;simp only[GR]at hu;subst hu;have hfn:s.fn H (ds++[]) ={results:=[.lit (.bool true)],args:=ds}:=by rw[qL];exact hs ds hdl
 simp only[qL]at hW' hlt;refine⟨_,rfl,avN (pa:=p) (pv:=[]) hW' (λ_ _ _=>?_) (λsp hsp=>?_) (λ_ _=>?_) (by simp) hstep.kept (ok_one (by rw[hr]) rfl (okWide_bool_mk htb _))⟩
 ·rw[hfn,hr];exact trodAll_cons_mk (shut_bool htb _) trodAll_mk0
 ·rw[hfn];exact ajj hlaid hstep.kept hA hread hlt hsp
 ·rw[hfn,hvars];rfl
