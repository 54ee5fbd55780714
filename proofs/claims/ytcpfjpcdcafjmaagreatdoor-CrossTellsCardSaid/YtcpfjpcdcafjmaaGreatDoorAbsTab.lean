/- All definitions of a law as rows of one table: which function or loop each is of; all are checked by a few runs. -/
import Derived.Test.YtcpfjpcdcafjmaaGreatDoorAbsJ
namespace Go.aN
set_option linter.unusedSimpArgs false
noncomputable section
set_option linter.unusedSectionVars false
set_option linter.unusedVariables false
variable {P:Program}
inductive Row where
 | any (c:BR)
 | told (f:FuncId) (st:List (Option FuncId)) (sh:List ou)
 | fn (f:FuncId) (st:List (Option FuncId)) (sh:List ou) (pe:List Nat) (l:List (Nat×Nat))
 | fs (f:FuncId) (st:List (Option FuncId)) (sp:bK) (pe:List Nat) (l:List (Nat×Nat))
 | lp (f:FuncId) (way:List (List Nat×Nat)) (sp:bK) (ps:List Nat) (l:List (Nat×Nat))
def CV (P:Program) (f:FuncId):Code:=match P.funcs[f]? with
 | some fn=>fn.body.getD .skip
 | none=>.skip
def Row.ctr (P:Program) (tabs:List (Nat×List AV)):Row->BR
 | .any c=>c
 | .told f st sh=>qR P tabs f st sh
 | .fn f st sh _ _=>qR P tabs f st sh
 | .fs f st sp _ _=>G8 P tabs f st sp.pre sp.posts
 | .lp f way sp _ _=>qW P tabs (sJ (CV P f) way) sp.pre sp.posts
def Row.hand:Row->Bool
 | .any _ | .told _ _ _=>true
 | _=>false
def EZ:List Nat->List Nat->Bool
 | [],[]=>true
 | a::l,b::m=>Nat.beq a b&&EZ l m
 | _,_=>false
theorem Y8:∀ {l m:List Nat},EZ l m=true->l=m
 | [],[],_=>rfl
 | a::l,b::m,h=>by
   simp only [EZ,aH] at h;rw [bn h.1,Y8 h.2]
 | [],_::_,h=>by simp [EZ] at h
 | _::_,[],h=>by simp [EZ] at h
def E5:List (List Nat×Nat)->List (List Nat×Nat)->Bool
 | [],[]=>true
 | (a,b)::l,(c,d)::m=>EZ a c&&Nat.beq b d&&E5 l m
 | _,_=>false
theorem Y9:∀ {l m:List (List Nat×Nat)},E5 l m=true->l=m
 | [],[],_=>rfl
 | (a,b)::l,(c,d)::m,h=>by
   simp only [E5,aH] at h;rw [Y8 h.1.1,bn h.1.2,Y9 h.2]
 | [],_::_,h=>by simp [E5] at h
 | _::_,[],h=>by simp [E5] at h
def wC:List ou->List ou->Bool
 | [],[]=>true
 | .sc::l,.sc::m=>wC l m
 | .ag a::l,.ag b::m=>Nat.beq a b&&wC l m
 | _,_=>false
theorem QX:∀ {l m:List ou},wC l m=true->l=m
 | [],[],_=>rfl
 | .sc::l,.sc::m,h=>by simp only [wC] at h;rw [QX h]
 | .ag a::l,.ag b::m,h=>by
   simp only [wC,aH] at h;rw [bn h.1,QX h.2]
 | [],_::_,h=>by simp [wC] at h
 | .sc::_,[],h=>by simp [wC] at h
 | .ag _::_,[],h=>by simp [wC] at h
 | .sc::_,.ag _::_,h=>by simp [wC] at h
 | .ag _::_,.sc::_,h=>by simp [wC] at h
def Gv (rows:List Row) (f:FuncId) (way:List (List Nat×Nat)) (pe:List Nat):List (Nat×Nat)->Option (List (Nat×bK))
 | []=>some []
 | (k,key)::r=>match rows[key]? with
   | some (.lp f' adn sp _ _)=>if (Nat.beq f' f&&E5 adn (way++[(pe,k)])&&Nat.beq sp.key key&&sp.pre.ok)=true then (Gv rows f way pe r).map ((k,sp)::·) else none
   | _=>none
section
variable {tabs:List (Nat×List AV)} {rows:List Row} {I:fP}
abbrev uz (P:Program) (tabs:List (Nat×List AV)) (rows:List Row):Nat->List GV->List GV->Prop:=G6 (rows.map (Row.ctr P tabs))
theorem IL {k:Nat} {r:Row} (hr:rows[k]? = some r) {gs out:List GV} (h:uz P tabs rows k gs out):r.ctr P tabs gs out:=by
 unfold uz G6 at h;rw [jU,hr] at h;exact h
theorem OO (hI:∀k gs out,I k gs=some out->uz P tabs rows k gs out) {f:FuncId} {way:List (List Nat×Nat)} {pe:List Nat}:∀ {l:List (Nat×Nat)} {specs:List (Nat×bK)},Gv rows f way pe l=some specs->
 zo P tabs I (lC pe (sJ (CV P f) way)) specs
 | [],_,h=>by cases h;exact zo.nil
 | (k,key)::r,specs,h=>by
   unfold Gv at h;split at h
   ·next f' adn sp ps l hrow=>
    split at h
    ·next hc=>
     simp only [aH] at hc;obtain ⟨⟨⟨h1,h2⟩,h3⟩,h4⟩:=hc;have h1:=bn h1;have h2:=Y9 h2;have h3:=bn h3;subst h1;subst h2;subst h3;obtain ⟨aq9,h5,rfl⟩:=aZ.1 h;refine zo.cons h4 (λgs out hi=>?_) (OO hI h5);have:=IL hrow (hI _ _ _ hi);simp only [Row.ctr,XH] at this;exact this
    ·cases h
   ·cases h
def QC (P:Program) (tabs:List (Nat×List AV)) (pl:jK) (fuel:Nat) (rows:List Row) (k:Nat) (d:aI):Bool:=
 match rows[k]? with
 | some (.fn f st sh pe l)=>match d with
   | .fn tV vP t=>wC sh vP&&(match P.funcs[f]? with
     | some fn=>match fn.body,Gv rows f [] pe l with
       | some c,some specs=>t.chk (Tc P tabs pl specs fuel st tV vP fn.ntmps fn.results.toList (lC pe c)) (List.replicate tV.length .arg) []
       | _,_=>false
     | none=>false)
   | _=>false
 | some (.fs f st sp pe l)=>match d with
   | .tree n t=>Nat.beq n sp.pre.np&&(match P.funcs[f]? with
     | some fn=>match fn.body,Gv rows f [] pe l with
       | some c,some specs=>t.chk (Td P tabs pl specs fuel st sp fn.ntmps fn.results.toList (lC pe c)) (List.replicate sp.pre.np .arg) []
       | _,_=>false
     | none=>false)
   | _=>false
 | some (.lp f way sp ps l)=>match d with
   | .tree n t=>Nat.beq n sp.pre.np&&(Nat.beq sp.key k&&sp.pre.ok)&&(match Gv rows f way ps l with
     | some specs=>t.chk (Nw P tabs pl specs fuel sp (lC ps (sJ (CV P f) way))) (List.replicate sp.pre.np .arg) []
     | none=>false)
   | _=>false
 | _=>false
theorem aek (hlow:qZ tabs P.globals.size) (hm:P.follows .mixedOrders=true) (hn:rX P) {pl:jK} (hpl:∀I:fP,(∀k gs out,I k gs=some out->uz P tabs rows k gs out)->uZ P tabs I pl) {fuel k:Nat} {d:aI} {r:Row} (hr:rows[k]? = some r)
 (h:QC P tabs pl fuel rows k d=true):Es (uz P tabs rows) d (r.ctr P tabs):=by
 intro I hI gs out hd;unfold QC at h;rw [hr] at h;cases r with
 | any c=>cases h
 | told f st sh=>cases h
 | fn f st sh pe l=>
   cases d with
   | tree n t=>cases h
   | vN g=>cases h
   | fn tV vP t=>
     simp only [aH] at h;have:=QX h.1;subst this;have h:=h.2;split at h
     ·next fn hf=>
      split at h
      ·next c specs hc hs=>
       have hb:sJ (CV P f) []=c:=by simp only [sJ,CV,hf,hc,uj]
       have hsp:=OO hI hs;rw [hb] at hsp;exact qR.Jw hlow hm hn (hpl I hI) hf hc hsp h hd
      ·cases h
     ·cases h
 | fs f st sp pe l=>
   cases d with
   | fn a b t=>cases h
   | vN g=>cases h
   | tree n t=>
     simp only [aH] at h;have e:=bn h.1;have h:=h.2;split at h
     ·next fn hf=>
      split at h
      ·next c specs hc hs=>
       have hb:sJ (CV P f) []=c:=by simp only [sJ,CV,hf,hc,uj]
       have hsp:=OO hI hs;rw [hb] at hsp;exact G8.Jw hlow hm hn (hpl I hI) e hf hc hsp h hd
      ·cases h
     ·cases h
 | lp f way sp ps l=>
   cases d with
   | fn a b t=>cases h
   | vN g=>cases h
   | tree n t=>
     simp only [aH] at h;have e:=bn h.1.1;have e2:=bn h.1.2.1;have hok:=h.1.2.2;have h:=h.2;split at h
     ·next specs hs=>
      refine qW.aiR hlow hm hn (hpl I hI) hok e (OO hI hs) (λgs out hi=>?_) h hd;rw [e2] at hi;exact IL hr (hI _ _ _ hi)
     ·cases h
def QB (P:Program) (tabs:List (Nat×List AV)) (pl:jK) (rows:List Row) (Ds:List aI) (k:Nat):Bool:=match rows[k]?,Ds[k]? with
 | some r,some d=>r.hand || QC P tabs pl 100000 rows k d
 | _,_=>false
def jA (P:Program) (tabs:List (Nat×List AV)) (pl:jK) (rows:List Row) (Ds:List aI):Nat->Nat->Bool
 | _,0=>true
 | a,n+1=>QB P tabs pl rows Ds a&&jA P tabs pl rows Ds (a+1) n
def Seg (P:Program) (tabs:List (Nat×List AV)) (pl:jK) (rows:List Row) (Ds:List aI) (a b:Nat):Prop:=∀k,a<=k->k < b->QB P tabs pl rows Ds k=true
theorem Seg.of {pl:jK} {Ds:List aI}:∀ {n a:Nat},jA P tabs pl rows Ds a n=true->Seg P tabs pl rows Ds a (a+n)
 | 0,a,_,k,h1,h2=>by omega
 | n+1,a,h,k,h1,h2=>by
   simp only [jA,aH] at h;by_cases e:k=a
   ·subst e;exact h.1
   ·exact Seg.of h.2 k (by omega) (by omega)
theorem Seg.join {pl:jK} {Ds:List aI} {a b c:Nat} (h1:Seg P tabs pl rows Ds a b) (h2:Seg P tabs pl rows Ds b c):Seg P tabs pl rows Ds a c:=λk k1 k2=>by
 by_cases e:k < b
 ·exact h1 k k1 e
 ·exact h2 k (by omega) k2
def Et (P:Program) (tabs:List (Nat×List AV)) (rows:List Row) (Ds:List aI):List Nat->Prop
 | []=>True
 | k::l=>(∃r d,rows[k]? = some r/\Ds[k]? = some d/\Es (uz P tabs rows) d (r.ctr P tabs))/\Et P tabs rows Ds l
theorem Et.at {Ds:List aI}:∀ {l:List Nat},Et P tabs rows Ds l->∀ {k:Nat},k∈l->∀ {r:Row} {d:aI},rows[k]? = some r->Ds[k]? = some d->Es (uz P tabs rows) d (r.ctr P tabs)
 | a::l,h,k,hk,r,d,hr,hd=>by
   rcases dP.1 hk with rfl | hk
   ·obtain ⟨r',d',h1,h2,h3⟩:=h.1
    rw [hr] at h1;cases h1;rw [hd] at h2;cases h2;exact h3
   ·exact Et.at h.2 hk hr hd
def Dq:List Row->Nat->List Nat
 | [],_=>[]
 | r::l,k=>if r.hand=true then k::Dq l (k+1) else Dq l (k+1)
theorem ZQ:∀ {l:List Row} {k i:Nat} {r:Row},l[i]? = some r->r.hand=true->k+i∈Dq l k
 | [],_,_,_,h,_=>by simp at h
 | a::l,k,0,r,h,hh=>by
   simp only [iH,aT] at h;subst h;unfold Dq;rw [ak hh];simp
 | a::l,k,i+1,r,h,hh=>by
   have:=ZQ (l:=l) (k:=k+1) (i:=i) (by simpa using h) hh;rw [show k+1+i=k+(i+1) by omega] at this;unfold Dq;split
   ·exact xX _ this
   ·exact this
theorem Xq {C:Nat->List GV->List GV->Prop}:∀ {Ds:List aI} {rows:List Row},Ds.length=rows.length->(∀ (k:Nat) d r,Ds[k]? = some d->rows[k]? = some r->Es C d (r.ctr P tabs))->En C Ds (rows.map (Row.ctr P tabs))
 | [],[],_,_=>trivial
 | d::Ds,r::rows,hl,h=>⟨h 0 d r (by simp) (by simp),Xq (by simpa using hl) λk d' r' h1 h2=>h (k+1) d' r' (by simpa using h1) (by simpa using h2)⟩
 | [],_::_,hl,_=>by simp at hl
 | _::_,[],hl,_=>by simp at hl
theorem ani (hlow:qZ tabs P.globals.size) (hm:P.follows .mixedOrders=true) (hn:rX P) {pl:jK} (hpl:∀I:fP,(∀k gs out,I k gs=some out->uz P tabs rows k gs out)->uZ P tabs I pl) {Ds:List aI}
 (aha:Et P tabs rows Ds (Dq rows 0)) (hlen:Ds.length=rows.length) (hseg:Seg P tabs pl rows Ds 0 Ds.length):∀k gs out,(vk Ds).lim k gs=some out->uz P tabs rows k gs out:=by
 refine ah3 (Xq hlen λk d r hd hr=>?_);have hk:=(dO.1 hd).1;cases hh:r.hand with
 | true=>
   refine aha.at ?_ hr hd;have:=ZQ (k:=0) hr hh;rwa [iW] at this
 | false=>
   have:=hseg k (yg _) hk;unfold QB at this;rw [hr,hd] at this;simp only [hh,Ar] at this;exact aek hlow hm hn hpl hr this
def Lp (P:Program) (rows:List Row) (k:Nat) (N:gq):dX:=match rows[k]? with
 | some (.fn _ st sh _ _)=>@Ob N P k st sh
 | some (.told _ st sh)=>@Ob N P k st sh
 | some (.fs _ st sp _ _)=>@Uc N P st sp
 | _=>λ_ _=>none
def Qs (P:Program) (rows:List Row):List Nat->gq->dX
 | [],_=>λ_ _=>none
 | [k],N=>Lp P rows k N
 | k::l,N=>TW (Lp P rows k N) (Qs P rows l N)
def LV (rows:List Row) (f:FuncId) (k:Nat):Bool:=match rows[k]? with
 | some (.fn f' _ _ _ _)=>Nat.beq f' f
 | some (.told f' _ _)=>Nat.beq f' f
 | some (.fs f' _ sp _ _)=>Nat.beq f' f&&Nat.beq sp.key k&&sp.pre.ok
 | _=>false
def Y5 (rows:List Row) (es:List (FuncId×List Nat)):Bool:=es.all λe=>e.2.all (LV rows e.1)
def abB (P:Program) (rows:List Row) (es:List (FuncId×List Nat)) (raw:jK):jK:=λN=>es.map (λe=>(e.1,Qs P rows e.2 N))++raw N
theorem XT (hlow:qZ tabs P.globals.size) {T:aF} (hT:T.tabs=tabs) (hI:∀k gs out,T.I k gs=some out->uz P tabs rows k gs out) {f:FuncId} {k:Nat} (h:LV rows f k=true):@dS T P f (Lp P rows k T.togq):=by
 subst hT;unfold LV at h;unfold Lp;split at h
 ·next f' st sh pe l hr=>
  have:=bn h;subst this;exact abw λgs out h'=>IL hr (hI k gs out h')
 ·next f' st sh hr=>
  have:=bn h;subst this;exact abw λgs out h'=>IL hr (hI k gs out h')
 ·next f' st sp pe l hr=>
  simp only [aH] at h;have:=bn h.1.1;subst this;have e:=bn h.1.2;exact ai2 hlow h.2 λgs out h'=>IL hr (hI k gs out (by rw [<- e];exact h'))
 ·cases h
theorem XW (hlow:qZ tabs P.globals.size) {T:aF} (hT:T.tabs=tabs) (hI:∀k gs out,T.I k gs=some out->uz P tabs rows k gs out) {f:FuncId}:∀ {l:List Nat},l.all (LV rows f)=true->@dS T P f (Qs P rows l T.togq)
 | [],_=>λ_ _ _ _ h=>by cases h
 | [k],h=>XT hlow hT hI (by simpa using h)
 | k::k'::l,h=>by
   simp only [tY,aH] at h;exact aiZ (XT hlow hT hI h.1) (XW hlow hT hI (l:=k'::l) (by simpa using h.2))
theorem ajv (hlow:qZ tabs P.globals.size) {es:List (FuncId×List Nat)} {raw:jK} (hes:Y5 rows es=true) {I:fP} (hI:∀k gs out,I k gs=some out->uz P tabs rows k gs out) (hraw:uZ P tabs I raw):uZ P tabs I (abB P rows es raw):=by
 intro T hT ZN p hp;rcases nI.1 hp with hp | hp
 ·obtain ⟨e,he,rfl⟩:=qB.1 hp
  unfold Y5 at hes;rw [List.all_eq_true] at hes;exact XW hlow hT (by rw [ZN];exact hI) (hes e he)
 ·exact hraw T hT ZN p hp
end
end
end Go.aN
