/- All definitions of a law as rows of one table: which function or loop each is of; all are checked by a few runs. -/
import Derived.Test.YtcpfjpcdcafjmaaGreatDoorAbsJ
namespace Go.aO
set_option linter.unusedSimpArgs false
noncomputable section
set_option linter.unusedSectionVars false
set_option linter.unusedVariables false
variable {P:Program}
inductive Row where
 | any (c:Em)
 | told (f:FuncId) (st:List (Option FuncId)) (sh:List oH)
 | fn (f:FuncId) (st:List (Option FuncId)) (sh:List oH) (pe:List Nat) (l:List (Nat×Nat))
 | fs (f:FuncId) (st:List (Option FuncId)) (sp:bC) (pe:List Nat) (l:List (Nat×Nat))
 | lp (f:FuncId) (way:List (List Nat×Nat)) (sp:bC) (ps:List Nat) (l:List (Nat×Nat))
def EJ (P:Program) (f:FuncId):Code:=match P.funcs[f]? with
 | some fn=>fn.body.getD .skip
 | none=>.skip
def Row.ctr (P:Program) (tabs:List (Nat×List AV)):Row->Em
 | .any c=>c
 | .told f st sh=>sO P tabs f st sh
 | .fn f st sh _ _=>sO P tabs f st sh
 | .fs f st sp _ _=>JA P tabs f st sp.pre sp.posts
 | .lp f way sp _ _=>sU P tabs (uO (EJ P f) way) sp.pre sp.posts
def Row.hand:Row->Bool
 | .any _ | .told _ _ _=>true
 | _=>false
def HY:List Nat->List Nat->Bool
 | [],[]=>true
 | a::l,b::m=>Nat.beq a b&&HY l m
 | _,_=>false
theorem aa8:∀ {l m:List Nat},HY l m=true->l=m
 | [],[],_=>rfl
 | a::l,b::m,h=>by
   simp only [HY,aJ] at h;rw [bG h.1,aa8 h.2]
 | [],_::_,h=>by simp [HY] at h
 | _::_,[],h=>by simp [HY] at h
def H6:List (List Nat×Nat)->List (List Nat×Nat)->Bool
 | [],[]=>true
 | (a,b)::l,(c,d)::m=>HY a c&&Nat.beq b d&&H6 l m
 | _,_=>false
theorem aa9:∀ {l m:List (List Nat×Nat)},H6 l m=true->l=m
 | [],[],_=>rfl
 | (a,b)::l,(c,d)::m,h=>by
   simp only [H6,aJ] at h;rw [aa8 h.1.1,bG h.1.2,aa9 h.2]
 | [],_::_,h=>by simp [H6] at h
 | _::_,[],h=>by simp [H6] at h
def yt:List oH->List oH->Bool
 | [],[]=>true
 | .sc::l,.sc::m=>yt l m
 | .ag a::l,.ag b::m=>Nat.beq a b&&yt l m
 | _,_=>false
theorem Uk:∀ {l m:List oH},yt l m=true->l=m
 | [],[],_=>rfl
 | .sc::l,.sc::m,h=>by simp only [yt] at h;rw [Uk h]
 | .ag a::l,.ag b::m,h=>by
   simp only [yt,aJ] at h;rw [bG h.1,Uk h.2]
 | [],_::_,h=>by simp [yt] at h
 | .sc::_,[],h=>by simp [yt] at h
 | .ag _::_,[],h=>by simp [yt] at h
 | .sc::_,.ag _::_,h=>by simp [yt] at h
 | .ag _::_,.sc::_,h=>by simp [yt] at h
def Jj (rows:List Row) (f:FuncId) (way:List (List Nat×Nat)) (pe:List Nat):List (Nat×Nat)->Option (List (Nat×bC))
 | []=>some []
 | (k,key)::r=>match rows[key]? with
   | some (.lp f' afp sp _ _)=>if (Nat.beq f' f&&H6 afp (way++[(pe,k)])&&Nat.beq sp.key key&&sp.pre.ok)=true then (Jj rows f way pe r).map ((k,sp)::·) else none
   | _=>none
section
variable {tabs:List (Nat×List AV)} {rows:List Row} {I:gV}
abbrev vZ (P:Program) (tabs:List (Nat×List AV)) (rows:List Row):Nat->List GV->List GV->Prop:=Jy (rows.map (Row.ctr P tabs))
theorem Kt {k:Nat} {r:Row} (hr:rows[k]? = some r) {gs out:List GV} (h:vZ P tabs rows k gs out):r.ctr P tabs gs out:=by
 unfold vZ Jy at h;rw [iL,hr] at h;exact h
theorem QY (hI:∀k gs out,I k gs=some out->vZ P tabs rows k gs out) {f:FuncId} {way:List (List Nat×Nat)} {pe:List Nat}:∀ {l:List (Nat×Nat)} {specs:List (Nat×bC)},Jj rows f way pe l=some specs->
 Ae P tabs I (kZ pe (uO (EJ P f) way)) specs
 | [],_,h=>by cases h;exact Ae.nil
 | (k,key)::r,specs,h=>by
   unfold Jj at h;split at h
   ·next f' afp sp ps l hrow=>
    split at h
    ·next hc=>
     simp only [aJ] at hc;obtain ⟨⟨⟨h1,h2⟩,h3⟩,h4⟩:=hc;have h1:=bG h1;have h2:=aa9 h2;have h3:=bG h3;subst h1;subst h2;subst h3;obtain ⟨avN,h5,rfl⟩:=bf.1 h;refine Ae.cons h4 (λgs out hi=>?_) (QY hI h5);have:=Kt hrow (hI _ _ _ hi);simp only [Row.ctr,Zy] at this;exact this
    ·cases h
   ·cases h
def TS (P:Program) (tabs:List (Nat×List AV)) (pl:jT) (fuel:Nat) (rows:List Row) (k:Nat) (d:aI):Bool:=
 match rows[k]? with
 | some (.fn f st sh pe l)=>match d with
   | .fn vK xH t=>yt sh xH&&(match P.funcs[f]? with
     | some fn=>match fn.body,Jj rows f [] pe l with
       | some c,some specs=>t.chk (VH P tabs pl specs fuel st vK xH fn.ntmps fn.results.toList (kZ pe c)) (List.replicate vK.length .arg) []
       | _,_=>false
     | none=>false)
   | _=>false
 | some (.fs f st sp pe l)=>match d with
   | .tree n t=>Nat.beq n sp.pre.np&&(match P.funcs[f]? with
     | some fn=>match fn.body,Jj rows f [] pe l with
       | some c,some specs=>t.chk (VI P tabs pl specs fuel st sp fn.ntmps fn.results.toList (kZ pe c)) (List.replicate sp.pre.np .arg) []
       | _,_=>false
     | none=>false)
   | _=>false
 | some (.lp f way sp ps l)=>match d with
   | .tree n t=>Nat.beq n sp.pre.np&&(Nat.beq sp.key k&&sp.pre.ok)&&(match Jj rows f way ps l with
     | some specs=>t.chk (P7 P tabs pl specs fuel sp (kZ ps (uO (EJ P f) way))) (List.replicate sp.pre.np .arg) []
     | none=>false)
   | _=>false
 | _=>false
theorem agz (hlow:tq tabs P.globals.size) (hm:P.follows .mixedOrders=true) (hn:uH P) {pl:jT} (hpl:∀I:gV,(∀k gs out,I k gs=some out->vZ P tabs rows k gs out)->wY P tabs I pl) {fuel k:Nat} {d:aI} {r:Row} (hr:rows[k]? = some r)
 (h:TS P tabs pl fuel rows k d=true):Gx (vZ P tabs rows) d (r.ctr P tabs):=by
 intro I hI gs out hd;unfold TS at h;rw [hr] at h;cases r with
 | any c=>cases h
 | told f st sh=>cases h
 | fn f st sh pe l=>
   cases d with
   | tree n t=>cases h
   | xE g=>cases h
   | fn vK xH t=>
     simp only [aJ] at h;have:=Uk h.1;subst this;have h:=h.2;split at h
     ·next fn hf=>
      split at h
      ·next c specs hc hs=>
       have hb:uO (EJ P f) []=c:=by simp only [uO,EJ,hf,hc,qp]
       have hsp:=QY hI hs;rw [hb] at hsp;exact sO.LJ hlow hm hn (hpl I hI) hf hc hsp h hd
      ·cases h
     ·cases h
 | fs f st sp pe l=>
   cases d with
   | fn a b t=>cases h
   | xE g=>cases h
   | tree n t=>
     simp only [aJ] at h;have e:=bG h.1;have h:=h.2;split at h
     ·next fn hf=>
      split at h
      ·next c specs hc hs=>
       have hb:uO (EJ P f) []=c:=by simp only [uO,EJ,hf,hc,qp]
       have hsp:=QY hI hs;rw [hb] at hsp;exact JA.LJ hlow hm hn (hpl I hI) e hf hc hsp h hd
      ·cases h
     ·cases h
 | lp f way sp ps l=>
   cases d with
   | fn a b t=>cases h
   | xE g=>cases h
   | tree n t=>
     simp only [aJ] at h;have e:=bG h.1.1;have e2:=bG h.1.2.1;have hok:=h.1.2.2;have h:=h.2;split at h
     ·next specs hs=>
      refine sU.amA hlow hm hn (hpl I hI) hok e (QY hI hs) (λgs out hi=>?_) h hd;rw [e2] at hi;exact Kt hr (hI _ _ _ hi)
     ·cases h
def TQ (P:Program) (tabs:List (Nat×List AV)) (pl:jT) (rows:List Row) (Ds:List aI) (k:Nat):Bool:=match rows[k]?,Ds[k]? with
 | some r,some d=>r.hand || TS P tabs pl 100000 rows k d
 | _,_=>false
def jJ (P:Program) (tabs:List (Nat×List AV)) (pl:jT) (rows:List Row) (Ds:List aI):Nat->Nat->Bool
 | _,0=>true
 | a,n+1=>TQ P tabs pl rows Ds a&&jJ P tabs pl rows Ds (a+1) n
def Seg (P:Program) (tabs:List (Nat×List AV)) (pl:jT) (rows:List Row) (Ds:List aI) (a b:Nat):Prop:=∀k,a<=k->k < b->TQ P tabs pl rows Ds k=true
theorem Seg.of {pl:jT} {Ds:List aI}:∀ {n a:Nat},jJ P tabs pl rows Ds a n=true->Seg P tabs pl rows Ds a (a+n)
 | 0,a,_,k,h1,h2=>by omega
 | n+1,a,h,k,h1,h2=>by
   simp only [jJ,aJ] at h;by_cases e:k=a
   ·subst e;exact h.1
   ·exact Seg.of h.2 k (by omega) (by omega)
theorem Seg.join {pl:jT} {Ds:List aI} {a b c:Nat} (h1:Seg P tabs pl rows Ds a b) (h2:Seg P tabs pl rows Ds b c):Seg P tabs pl rows Ds a c:=λk k1 k2=>by
 by_cases e:k < b
 ·exact h1 k k1 e
 ·exact h2 k (by omega) k2
def Gy (P:Program) (tabs:List (Nat×List AV)) (rows:List Row) (Ds:List aI):List Nat->Prop
 | []=>True
 | k::l=>(∃r d,rows[k]? = some r/\Ds[k]? = some d/\Gx (vZ P tabs rows) d (r.ctr P tabs))/\Gy P tabs rows Ds l
theorem Gy.at {Ds:List aI}:∀ {l:List Nat},Gy P tabs rows Ds l->∀ {k:Nat},k∈l->∀ {r:Row} {d:aI},rows[k]? = some r->Ds[k]? = some d->Gx (vZ P tabs rows) d (r.ctr P tabs)
 | a::l,h,k,hk,r,d,hr,hd=>by
   rcases cO.1 hk with rfl | hk
   ·obtain ⟨r',d',h1,h2,h3⟩:=h.1
    rw [hr] at h1;cases h1;rw [hd] at h2;cases h2;exact h3
   ·exact Gy.at h.2 hk hr hd
def Fa:List Row->Nat->List Nat
 | [],_=>[]
 | r::l,k=>if r.hand=true then k::Fa l (k+1) else Fa l (k+1)
theorem abP:∀ {l:List Row} {k i:Nat} {r:Row},l[i]? = some r->r.hand=true->k+i∈Fa l k
 | [],_,_,_,h,_=>by simp at h
 | a::l,k,0,r,h,hh=>by
   simp only [iR,aU] at h;subst h;unfold Fa;rw [aj hh];simp
 | a::l,k,i+1,r,h,hh=>by
   have:=abP (l:=l) (k:=k+1) (i:=i) (by simpa using h) hh;rw [show k+1+i=k+(i+1) by omega] at this;unfold Fa;split
   ·exact yN _ this
   ·exact this
theorem Zh {C:Nat->List GV->List GV->Prop}:∀ {Ds:List aI} {rows:List Row},Ds.length=rows.length->(∀ (k:Nat) d r,Ds[k]? = some d->rows[k]? = some r->Gx C d (r.ctr P tabs))->Gt C Ds (rows.map (Row.ctr P tabs))
 | [],[],_,_=>trivial
 | d::Ds,r::rows,hl,h=>⟨h 0 d r (by simp) (by simp),Zh (by simpa using hl) λk d' r' h1 h2=>h (k+1) d' r' (by simpa using h1) (by simpa using h2)⟩
 | [],_::_,hl,_=>by simp at hl
 | _::_,[],hl,_=>by simp at hl
theorem arO (hlow:tq tabs P.globals.size) (hm:P.follows .mixedOrders=true) (hn:uH P) {pl:jT} (hpl:∀I:gV,(∀k gs out,I k gs=some out->vZ P tabs rows k gs out)->wY P tabs I pl) {Ds:List aI}
 (ajV:Gy P tabs rows Ds (Fa rows 0)) (hlen:Ds.length=rows.length) (hseg:Seg P tabs pl rows Ds 0 Ds.length):∀k gs out,(xg Ds).lim k gs=some out->vZ P tabs rows k gs out:=by
 refine ak1 (Zh hlen λk d r hd hr=>?_);have hk:=(dW.1 hd).1;cases hh:r.hand with
 | true=>
   refine ajV.at ?_ hr hd;have:=abP (k:=0) hr hh;rwa [jw] at this
 | false=>
   have:=hseg k (vT _) hk;unfold TQ at this;rw [hr,hd] at this;simp only [hh,vO] at this;exact agz hlow hm hn hpl hr this
def Ol (P:Program) (rows:List Row) (k:Nat) (N:gu):eX:=match rows[k]? with
 | some (.fn _ st sh _ _)=>@Qy N P k st sh
 | some (.told _ st sh)=>@Qy N P k st sh
 | some (.fs _ st sp _ _)=>@Wy N P st sp
 | _=>λ_ _=>none
def TI (P:Program) (rows:List Row):List Nat->gu->eX
 | [],_=>λ_ _=>none
 | [k],N=>Ol P rows k N
 | k::l,N=>Ws (Ol P rows k N) (TI P rows l N)
def OJ (rows:List Row) (f:FuncId) (k:Nat):Bool:=match rows[k]? with
 | some (.fn f' _ _ _ _)=>Nat.beq f' f
 | some (.told f' _ _)=>Nat.beq f' f
 | some (.fs f' _ sp _ _)=>Nat.beq f' f&&Nat.beq sp.key k&&sp.pre.ok
 | _=>false
def aa5 (rows:List Row) (es:List (FuncId×List Nat)):Bool:=es.all λe=>e.2.all (OJ rows e.1)
def adO (P:Program) (rows:List Row) (es:List (FuncId×List Nat)) (raw:jT):jT:=λN=>es.map (λe=>(e.1,TI P rows e.2 N))++raw N
theorem ZI (hlow:tq tabs P.globals.size) {T:aH} (hT:T.tabs=tabs) (hI:∀k gs out,T.I k gs=some out->vZ P tabs rows k gs out) {f:FuncId} {k:Nat} (h:OJ rows f k=true):@eF T P f (Ol P rows k T.togu):=by
 subst hT;unfold OJ at h;unfold Ol;split at h
 ·next f' st sh pe l hr=>
  have:=bG h;subst this;exact adF λgs out h'=>Kt hr (hI k gs out h')
 ·next f' st sh hr=>
  have:=bG h;subst this;exact adF λgs out h'=>Kt hr (hI k gs out h')
 ·next f' st sp pe l hr=>
  simp only [aJ] at h;have:=bG h.1.1;subst this;have e:=bG h.1.2;exact amM hlow h.2 λgs out h'=>Kt hr (hI k gs out (by rw [<- e];exact h'))
 ·cases h
theorem ZL (hlow:tq tabs P.globals.size) {T:aH} (hT:T.tabs=tabs) (hI:∀k gs out,T.I k gs=some out->vZ P tabs rows k gs out) {f:FuncId}:∀ {l:List Nat},l.all (OJ rows f)=true->@eF T P f (TI P rows l T.togu)
 | [],_=>λ_ _ _ _ h=>by cases h
 | [k],h=>ZI hlow hT hI (by simpa using h)
 | k::k'::l,h=>by
   simp only [sQ,aJ] at h;exact amJ (ZI hlow hT hI h.1) (ZL hlow hT hI (l:=k'::l) (by simpa using h.2))
theorem anj (hlow:tq tabs P.globals.size) {es:List (FuncId×List Nat)} {raw:jT} (hes:aa5 rows es=true) {I:gV} (hI:∀k gs out,I k gs=some out->vZ P tabs rows k gs out) (hraw:wY P tabs I raw):wY P tabs I (adO P rows es raw):=by
 intro T hT hTI p hp;rcases nX.1 hp with hp | hp
 ·obtain ⟨e,he,rfl⟩:=nD.1 hp
  unfold aa5 at hes;rw [List.all_eq_true] at hes;exact ZL hlow hT (by rw [hTI];exact hI) (hes e he)
 ·exact hraw T hT hTI p hp
end
end
end Go.aO
