/- All definitions of a law as rows of one table: which function or loop each is of; all are checked by a few runs. -/
import Derived.Test.YtilkjidelblkfaaGreatDoorAbsJ
namespace Go.aJ
set_option linter.unusedSimpArgs false
noncomputable section
set_option linter.unusedSectionVars false
set_option linter.unusedVariables false
variable {P:Program}
inductive Row where
 | any (c:DZ)
 | told (f:FuncId) (st:List (Option FuncId)) (sh:List mX)
 | fn (f:FuncId) (st:List (Option FuncId)) (sh:List mX) (pe:List Nat) (l:List (Nat×Nat))
 | fs (f:FuncId) (st:List (Option FuncId)) (sp:aU) (pe:List Nat) (l:List (Nat×Nat))
 | lp (f:FuncId) (way:List (List Nat×Nat)) (sp:aU) (ps:List Nat) (l:List (Nat×Nat))
def Em (P:Program) (f:FuncId):Code:=match P.funcs[f]? with
 | some fn=>fn.body.getD .skip
 | none=>.skip
def Row.ctr (P:Program) (tabs:List (Nat×List AV)):Row->DZ
 | .any c=>c
 | .told f st sh=>sD P tabs f st sh
 | .fn f st sh _ _=>sD P tabs f st sh
 | .fs f st sp _ _=>JH P tabs f st sp.pre sp.posts
 | .lp f way sp _ _=>sG P tabs (uy (Em P f) way) sp.pre sp.posts
def Row.hand:Row->Bool
 | .any _ | .told _ _ _=>true
 | _=>false
def Ig:List Nat->List Nat->Bool
 | [],[]=>true
 | a::l,b::m=>Nat.beq a b&&Ig l m
 | _,_=>false
theorem abw:∀ {l m:List Nat},Ig l m=true->l=m
 | [],[],_=>rfl
 | a::l,b::m,h=>by
   simp only [Ig,aI] at h;rw [bf h.1,abw h.2]
 | [],_::_,h=>by simp [Ig] at h
 | _::_,[],h=>by simp [Ig] at h
def Ih:List (List Nat×Nat)->List (List Nat×Nat)->Bool
 | [],[]=>true
 | (a,b)::l,(c,d)::m=>Ig a c&&Nat.beq b d&&Ih l m
 | _,_=>false
theorem abx:∀ {l m:List (List Nat×Nat)},Ih l m=true->l=m
 | [],[],_=>rfl
 | (a,b)::l,(c,d)::m,h=>by
   simp only [Ih,aI] at h;rw [abw h.1.1,bf h.1.2,abx h.2]
 | [],_::_,h=>by simp [Ih] at h
 | _::_,[],h=>by simp [Ih] at h
def xR:List mX->List mX->Bool
 | [],[]=>true
 | .sc::l,.sc::m=>xR l m
 | .ag a::l,.ag b::m=>Nat.beq a b&&xR l m
 | _,_=>false
theorem UZ:∀ {l m:List mX},xR l m=true->l=m
 | [],[],_=>rfl
 | .sc::l,.sc::m,h=>by simp only [xR] at h;rw [UZ h]
 | .ag a::l,.ag b::m,h=>by
   simp only [xR,aI] at h;rw [bf h.1,UZ h.2]
 | [],_::_,h=>by simp [xR] at h
 | .sc::_,[],h=>by simp [xR] at h
 | .ag _::_,[],h=>by simp [xR] at h
 | .sc::_,.ag _::_,h=>by simp [xR] at h
 | .ag _::_,.sc::_,h=>by simp [xR] at h
def Jt (rows:List Row) (f:FuncId) (way:List (List Nat×Nat)) (pe:List Nat):List (Nat×Nat)->Option (List (Nat×aU))
 | []=>some []
 | (k,key)::r=>match rows[key]? with
   | some (.lp f' agf sp _ _)=>if (Nat.beq f' f&&Ih agf (way++[(pe,k)])&&Nat.beq sp.key key&&sp.pre.ok)=true then (Jt rows f way pe r).map ((k,sp)::·) else none
   | _=>none
section
variable {tabs:List (Nat×List AV)} {rows:List Row} {I:gK}
abbrev vT (P:Program) (tabs:List (Nat×List AV)) (rows:List Row):Nat->List GV->List GV->Prop:=JF (rows.map (Row.ctr P tabs))
theorem KI {k:Nat} {r:Row} (hr:rows[k]? = some r) {gs out:List GV} (h:vT P tabs rows k gs out):r.ctr P tabs gs out:=by
 unfold vT JF at h;rw [iF,hr] at h;exact h
theorem RI (hI:∀k gs out,I k gs=some out->vT P tabs rows k gs out) {f:FuncId} {way:List (List Nat×Nat)} {pe:List Nat}:∀ {l:List (Nat×Nat)} {specs:List (Nat×aU)},Jt rows f way pe l=some specs->
 Ae P tabs I (kV pe (uy (Em P f) way)) specs
 | [],_,h=>by cases h;exact Ae.nil
 | (k,key)::r,specs,h=>by
   unfold Jt at h;split at h
   ·next f' agf sp ps l hrow=>
    split at h
    ·next hc=>
     simp only [aI] at hc;obtain ⟨⟨⟨h1,h2⟩,h3⟩,h4⟩:=hc;have h1:=bf h1;have h2:=abx h2;have h3:=bf h3;subst h1;subst h2;subst h3;obtain ⟨awc,h5,rfl⟩:=aX.1 h;refine Ae.cons h4 (λgs out hi=>?_) (RI hI h5);have:=KI hrow (hI _ _ _ hi);simp only [Row.ctr,aar] at this;exact this
    ·cases h
   ·cases h
def UA (P:Program) (tabs:List (Nat×List AV)) (pl:jT) (fuel:Nat) (rows:List Row) (k:Nat) (d:aF):Bool:=
 match rows[k]? with
 | some (.fn f st sh pe l)=>match d with
   | .fn uZ xu t=>xR sh xu&&(match P.funcs[f]? with
     | some fn=>match fn.body,Jt rows f [] pe l with
       | some c,some specs=>t.chk (Wu P tabs pl specs fuel st uZ xu fn.ntmps fn.results.toList (kV pe c)) (List.replicate uZ.length .arg) []
       | _,_=>false
     | none=>false)
   | _=>false
 | some (.fs f st sp pe l)=>match d with
   | .tree n t=>Nat.beq n sp.pre.np&&(match P.funcs[f]? with
     | some fn=>match fn.body,Jt rows f [] pe l with
       | some c,some specs=>t.chk (Wv P tabs pl specs fuel st sp fn.ntmps fn.results.toList (kV pe c)) (List.replicate sp.pre.np .arg) []
       | _,_=>false
     | none=>false)
   | _=>false
 | some (.lp f way sp ps l)=>match d with
   | .tree n t=>Nat.beq n sp.pre.np&&(Nat.beq sp.key k&&sp.pre.ok)&&(match Jt rows f way ps l with
     | some specs=>t.chk (Qy P tabs pl specs fuel sp (kV ps (uy (Em P f) way))) (List.replicate sp.pre.np .arg) []
     | none=>false)
   | _=>false
 | _=>false
theorem ahI (hlow:sN tabs P.globals.size) (hm:P.follows .mixedOrders=true) (hn:uh P) {pl:jT} (hpl:∀I:gK,(∀k gs out,I k gs=some out->vT P tabs rows k gs out)->wQ P tabs I pl) {fuel k:Nat} {d:aF} {r:Row} (hr:rows[k]? = some r)
 (h:UA P tabs pl fuel rows k d=true):GL (vT P tabs rows) d (r.ctr P tabs):=by
 intro I hI gs out hd;unfold UA at h;rw [hr] at h;cases r with
 | any c=>cases h
 | told f st sh=>cases h
 | fn f st sh pe l=>
   cases d with
   | tree n t=>cases h
   | jc g=>cases h
   | fn uZ xu t=>
     simp only [aI] at h;have:=UZ h.1;subst this;have h:=h.2;split at h
     ·next fn hf=>
      split at h
      ·next c specs hc hs=>
       have hb:uy (Em P f) []=c:=by simp only [uy,Em,hf,hc,pJ]
       have hsp:=RI hI hs;rw [hb] at hsp;exact sD.L6 hlow hm hn (hpl I hI) hf hc hsp h hd
      ·cases h
     ·cases h
 | fs f st sp pe l=>
   cases d with
   | fn a b t=>cases h
   | jc g=>cases h
   | tree n t=>
     simp only [aI] at h;have e:=bf h.1;have h:=h.2;split at h
     ·next fn hf=>
      split at h
      ·next c specs hc hs=>
       have hb:uy (Em P f) []=c:=by simp only [uy,Em,hf,hc,pJ]
       have hsp:=RI hI hs;rw [hb] at hsp;exact JH.L6 hlow hm hn (hpl I hI) e hf hc hsp h hd
      ·cases h
     ·cases h
 | lp f way sp ps l=>
   cases d with
   | fn a b t=>cases h
   | jc g=>cases h
   | tree n t=>
     simp only [aI] at h;have e:=bf h.1.1;have e2:=bf h.1.2.1;have hok:=h.1.2.2;have h:=h.2;split at h
     ·next specs hs=>
      refine sG.aob hlow hm hn (hpl I hI) hok e (RI hI hs) (λgs out hi=>?_) h hd;rw [e2] at hi;exact KI hr (hI _ _ _ hi)
     ·cases h
def Uz (P:Program) (tabs:List (Nat×List AV)) (pl:jT) (rows:List Row) (Ds:List aF) (k:Nat):Bool:=match rows[k]?,Ds[k]? with
 | some r,some d=>r.hand || UA P tabs pl 100000 rows k d
 | _,_=>false
def jd (P:Program) (tabs:List (Nat×List AV)) (pl:jT) (rows:List Row) (Ds:List aF):Nat->Nat->Bool
 | _,0=>true
 | a,n+1=>Uz P tabs pl rows Ds a&&jd P tabs pl rows Ds (a+1) n
def Seg (P:Program) (tabs:List (Nat×List AV)) (pl:jT) (rows:List Row) (Ds:List aF) (a b:Nat):Prop:=∀k,a<=k->k < b->Uz P tabs pl rows Ds k=true
theorem Seg.of {pl:jT} {Ds:List aF}:∀ {n a:Nat},jd P tabs pl rows Ds a n=true->Seg P tabs pl rows Ds a (a+n)
 | 0,a,_,k,h1,h2=>by omega
 | n+1,a,h,k,h1,h2=>by
   simp only [jd,aI] at h;by_cases e:k=a
   ·subst e;exact h.1
   ·exact Seg.of h.2 k (by omega) (by omega)
theorem Seg.join {pl:jT} {Ds:List aF} {a b c:Nat} (h1:Seg P tabs pl rows Ds a b) (h2:Seg P tabs pl rows Ds b c):Seg P tabs pl rows Ds a c:=λk k1 k2=>by
 by_cases e:k < b
 ·exact h1 k k1 e
 ·exact h2 k (by omega) k2
def GN (P:Program) (tabs:List (Nat×List AV)) (rows:List Row) (Ds:List aF):List Nat->Prop
 | []=>True
 | k::l=>(∃r d,rows[k]? = some r/\Ds[k]? = some d/\GL (vT P tabs rows) d (r.ctr P tabs))/\GN P tabs rows Ds l
theorem GN.at {Ds:List aF}:∀ {l:List Nat},GN P tabs rows Ds l->∀ {k:Nat},k∈l->∀ {r:Row} {d:aF},rows[k]? = some r->Ds[k]? = some d->GL (vT P tabs rows) d (r.ctr P tabs)
 | a::l,h,k,hk,r,d,hr,hd=>by
   rcases bC.1 hk with rfl | hk
   ·obtain ⟨r',d',h1,h2,h3⟩:=h.1
    rw [hr] at h1;cases h1;rw [hd] at h2;cases h2;exact h3
   ·exact GN.at h.2 hk hr hd
def EK:List Row->Nat->List Nat
 | [],_=>[]
 | r::l,k=>if r.hand=true then k::EK l (k+1) else EK l (k+1)
theorem ab8:∀ {l:List Row} {k i:Nat} {r:Row},l[i]? = some r->r.hand=true->k+i∈EK l k
 | [],_,_,_,h,_=>by simp at h
 | a::l,k,0,r,h,hh=>by
   simp only [iQ,aT] at h;subst h;unfold EK;rw [aj hh];simp
 | a::l,k,i+1,r,h,hh=>by
   have:=ab8 (l:=l) (k:=k+1) (i:=i) (by simpa using h) hh;rw [show k+1+i=k+(i+1) by omega] at this;unfold EK;split
   ·exact zX _ this
   ·exact this
theorem Z8 {C:Nat->List GV->List GV->Prop}:∀ {Ds:List aF} {rows:List Row},Ds.length=rows.length->(∀ (k:Nat) d r,Ds[k]? = some d->rows[k]? = some r->GL C d (r.ctr P tabs))->Gz C Ds (rows.map (Row.ctr P tabs))
 | [],[],_,_=>trivial
 | d::Ds,r::rows,hl,h=>⟨h 0 d r (by simp) (by simp),Z8 (by simpa using hl) λk d' r' h1 h2=>h (k+1) d' r' (by simpa using h1) (by simpa using h2)⟩
 | [],_::_,hl,_=>by simp at hl
 | _::_,[],hl,_=>by simp at hl
theorem aso (hlow:sN tabs P.globals.size) (hm:P.follows .mixedOrders=true) (hn:uh P) {pl:jT} (hpl:∀I:gK,(∀k gs out,I k gs=some out->vT P tabs rows k gs out)->wQ P tabs I pl) {Ds:List aF}
 (alA:GN P tabs rows Ds (EK rows 0)) (hlen:Ds.length=rows.length) (hseg:Seg P tabs pl rows Ds 0 Ds.length):∀k gs out,(wS Ds).lim k gs=some out->vT P tabs rows k gs out:=by
 refine amL (Z8 hlen λk d r hd hr=>?_);have hk:=(dX.1 hd).1;cases hh:r.hand with
 | true=>
   refine alA.at ?_ hr hd;have:=ab8 (k:=0) hr hh;rwa [jk] at this
 | false=>
   have:=hseg k (uj _) hk;unfold Uz at this;rw [hr,hd] at this;simp only [hh,zV] at this;exact ahI hlow hm hn hpl hr this
def OJ (P:Program) (rows:List Row) (k:Nat) (N:fZ):dR:=match rows[k]? with
 | some (.fn _ st sh _ _)=>@Rf N P k st sh
 | some (.told _ st sh)=>@Rf N P k st sh
 | some (.fs _ st sp _ _)=>@Xh N P st sp
 | _=>λ_ _=>none
def Uw (P:Program) (rows:List Row):List Nat->fZ->dR
 | [],_=>λ_ _=>none
 | [k],N=>OJ P rows k N
 | k::l,N=>Xc (OJ P rows k N) (Uw P rows l N)
def Pe (rows:List Row) (f:FuncId) (k:Nat):Bool:=match rows[k]? with
 | some (.fn f' _ _ _ _)=>Nat.beq f' f
 | some (.told f' _ _)=>Nat.beq f' f
 | some (.fs f' _ sp _ _)=>Nat.beq f' f&&Nat.beq sp.key k&&sp.pre.ok
 | _=>false
def abt (rows:List Row) (es:List (FuncId×List Nat)):Bool:=es.all λe=>e.2.all (Pe rows e.1)
def aef (P:Program) (rows:List Row) (es:List (FuncId×List Nat)) (raw:jT):jT:=λN=>es.map (λe=>(e.1,Uw P rows e.2 N))++raw N
theorem aaz (hlow:sN tabs P.globals.size) {T:aG} (hT:T.tabs=tabs) (hI:∀k gs out,T.I k gs=some out->vT P tabs rows k gs out) {f:FuncId} {k:Nat} (h:Pe rows f k=true):@dS T P f (OJ P rows k T.tofZ):=by
 subst hT;unfold Pe at h;unfold OJ;split at h
 ·next f' st sh pe l hr=>
  have:=bf h;subst this;exact ad6 λgs out h'=>KI hr (hI k gs out h')
 ·next f' st sh hr=>
  have:=bf h;subst this;exact ad6 λgs out h'=>KI hr (hI k gs out h')
 ·next f' st sp pe l hr=>
  simp only [aI] at h;have:=bf h.1.1;subst this;have e:=bf h.1.2;exact aon hlow h.2 λgs out h'=>KI hr (hI k gs out (by rw [<- e];exact h'))
 ·cases h
theorem aaC (hlow:sN tabs P.globals.size) {T:aG} (hT:T.tabs=tabs) (hI:∀k gs out,T.I k gs=some out->vT P tabs rows k gs out) {f:FuncId}:∀ {l:List Nat},l.all (Pe rows f)=true->@dS T P f (Uw P rows l T.tofZ)
 | [],_=>λ_ _ _ _ h=>by cases h
 | [k],h=>aaz hlow hT hI (by simpa using h)
 | k::k'::l,h=>by
   simp only [sF,aI] at h;exact aoj (aaz hlow hT hI h.1) (aaC hlow hT hI (l:=k'::l) (by simpa using h.2))
theorem aoY (hlow:sN tabs P.globals.size) {es:List (FuncId×List Nat)} {raw:jT} (hes:abt rows es=true) {I:gK} (hI:∀k gs out,I k gs=some out->vT P tabs rows k gs out) (hraw:wQ P tabs I raw):wQ P tabs I (aef P rows es raw):=by
 intro T hT hTI p hp;rcases jO.1 hp with hp | hp
 ·obtain ⟨e,he,rfl⟩:=nO.1 hp
  unfold abt at hes;rw [List.all_eq_true] at hes;exact aaC hlow hT (by rw [hTI];exact hI) (hes e he)
 ·exact hraw T hT hTI p hp
end
end
end Go.aJ
