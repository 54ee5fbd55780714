/- All definitions of a law as rows of one table: which function or loop each is of; all are checked by a few runs. -/
import Derived.Test.YtnlegpmfkopalaaGreatDoorAbsJ
namespace Go.aN
set_option linter.unusedSimpArgs false
noncomputable section
set_option linter.unusedSectionVars false
set_option linter.unusedVariables false
variable {P:Program}
inductive Row where
 | any (c:Dc)
 | told (f:FuncId) (st:List (Option FuncId)) (sh:List mJ)
 | fn (f:FuncId) (st:List (Option FuncId)) (sh:List mJ) (pe:List Nat) (l:List (Nat×Nat))
 | fs (f:FuncId) (st:List (Option FuncId)) (sp:bf) (pe:List Nat) (l:List (Nat×Nat))
 | lp (f:FuncId) (way:List (List Nat×Nat)) (sp:bf) (ps:List Nat) (l:List (Nat×Nat))
def DF (P:Program) (f:FuncId):Code:=match P.funcs[f]? with
 | some fn=>fn.body.getD .skip
 | none=>.skip
def Row.ctr (P:Program) (tabs:List (Nat×List AV)):Row->Dc
 | .any c=>c
 | .told f st sh=>pO P tabs f st sh
 | .fn f st sh _ _=>pO P tabs f st sh
 | .fs f st sp _ _=>Jk P tabs f st sp.pre sp.posts
 | .lp f way sp _ _=>rG P tabs (tJ (DF P f) way) sp.pre sp.posts
def Row.hand:Row->Bool
 | .any _ | .told _ _ _=>true
 | _=>false
def GX:List Nat->List Nat->Bool
 | [],[]=>true
 | a::l,b::m=>Nat.beq a b&&GX l m
 | _,_=>false
theorem aal:∀ {l m:List Nat},GX l m=true->l=m
 | [],[],_=>rfl
 | a::l,b::m,h=>by
   simp only [GX,aI] at h;rw [bG h.1,aal h.2]
 | [],_::_,h=>by simp [GX] at h
 | _::_,[],h=>by simp [GX] at h
def GY:List (List Nat×Nat)->List (List Nat×Nat)->Bool
 | [],[]=>true
 | (a,b)::l,(c,d)::m=>GX a c&&Nat.beq b d&&GY l m
 | _,_=>false
theorem aam:∀ {l m:List (List Nat×Nat)},GY l m=true->l=m
 | [],[],_=>rfl
 | (a,b)::l,(c,d)::m,h=>by
   simp only [GY,aI] at h;rw [aal h.1.1,bG h.1.2,aam h.2]
 | [],_::_,h=>by simp [GY] at h
 | _::_,[],h=>by simp [GY] at h
def xg:List mJ->List mJ->Bool
 | [],[]=>true
 | .sc::l,.sc::m=>xg l m
 | .ag a::l,.ag b::m=>Nat.beq a b&&xg l m
 | _,_=>false
theorem TD:∀ {l m:List mJ},xg l m=true->l=m
 | [],[],_=>rfl
 | .sc::l,.sc::m,h=>by simp only [xg] at h;rw [TD h]
 | .ag a::l,.ag b::m,h=>by
   simp only [xg,aI] at h;rw [bG h.1,TD h.2]
 | [],_::_,h=>by simp [xg] at h
 | .sc::_,[],h=>by simp [xg] at h
 | .ag _::_,[],h=>by simp [xg] at h
 | .sc::_,.ag _::_,h=>by simp [xg] at h
 | .ag _::_,.sc::_,h=>by simp [xg] at h
def I4 (rows:List Row) (f:FuncId) (way:List (List Nat×Nat)) (pe:List Nat):List (Nat×Nat)->Option (List (Nat×bf))
 | []=>some []
 | (k,key)::r=>match rows[key]? with
   | some (.lp f' aeT sp _ _)=>if (Nat.beq f' f&&GY aeT (way++[(pe,k)])&&Nat.beq sp.key key&&sp.pre.ok)=true then (I4 rows f way pe r).map ((k,sp)::·) else none
   | _=>none
section
variable {tabs:List (Nat×List AV)} {rows:List Row} {I:gG}
abbrev uS (P:Program) (tabs:List (Nat×List AV)) (rows:List Row):Nat->List GV->List GV->Prop:=Ji (rows.map (Row.ctr P tabs))
theorem JW {k:Nat} {r:Row} (hr:rows[k]? = some r) {gs out:List GV} (h:uS P tabs rows k gs out):r.ctr P tabs gs out:=by
 unfold uS Ji at h;rw [jm,hr] at h;exact h
theorem Qy (hI:∀k gs out,I k gs=some out->uS P tabs rows k gs out) {f:FuncId} {way:List (List Nat×Nat)} {pe:List Nat}:∀ {l:List (Nat×Nat)} {specs:List (Nat×bf)},I4 rows f way pe l=some specs->
 zl P tabs I (kV pe (tJ (DF P f) way)) specs
 | [],_,h=>by cases h;exact zl.nil
 | (k,key)::r,specs,h=>by
   unfold I4 at h;split at h
   ·next f' aeT sp ps l hrow=>
    split at h
    ·next hc=>
     simp only [aI] at hc;obtain ⟨⟨⟨h1,h2⟩,h3⟩,h4⟩:=hc;have h1:=bG h1;have h2:=aam h2;have h3:=bG h3;subst h1;subst h2;subst h3;obtain ⟨at7,h5,rfl⟩:=aW.1 h;refine zl.cons h4 (λgs out hi=>?_) (Qy hI h5);have:=JW hrow (hI _ _ _ hi);simp only [Row.ctr,Y7] at this;exact this
    ·cases h
   ·cases h
def SY (P:Program) (tabs:List (Nat×List AV)) (pl:jW) (fuel:Nat) (rows:List Row) (k:Nat) (d:aG):Bool:=
 match rows[k]? with
 | some (.fn f st sh pe l)=>match d with
   | .fn uG wE t=>xg sh wE&&(match P.funcs[f]? with
     | some fn=>match fn.body,I4 rows f [] pe l with
       | some c,some specs=>t.chk (U9 P tabs pl specs fuel st uG wE fn.ntmps fn.results.toList (kV pe c)) (List.replicate uG.length .arg) []
       | _,_=>false
     | none=>false)
   | _=>false
 | some (.fs f st sp pe l)=>match d with
   | .tree n t=>Nat.beq n sp.pre.np&&(match P.funcs[f]? with
     | some fn=>match fn.body,I4 rows f [] pe l with
       | some c,some specs=>t.chk (Va P tabs pl specs fuel st sp fn.ntmps fn.results.toList (kV pe c)) (List.replicate sp.pre.np .arg) []
       | _,_=>false
     | none=>false)
   | _=>false
 | some (.lp f way sp ps l)=>match d with
   | .tree n t=>Nat.beq n sp.pre.np&&(Nat.beq sp.key k&&sp.pre.ok)&&(match I4 rows f way ps l with
     | some specs=>t.chk (Pg P tabs pl specs fuel sp (kV ps (tJ (DF P f) way))) (List.replicate sp.pre.np .arg) []
     | none=>false)
   | _=>false
 | _=>false
theorem agb (hlow:rM tabs P.globals.size) (hm:P.follows .mixedOrders=true) (hn:sV P) {pl:jW} (hpl:∀I:gG,(∀k gs out,I k gs=some out->uS P tabs rows k gs out)->vS P tabs I pl) {fuel k:Nat} {d:aG} {r:Row} (hr:rows[k]? = some r)
 (h:SY P tabs pl fuel rows k d=true):FT (uS P tabs rows) d (r.ctr P tabs):=by
 intro I hI gs out hd;unfold SY at h;rw [hr] at h;cases r with
 | any c=>cases h
 | told f st sh=>cases h
 | fn f st sh pe l=>
   cases d with
   | tree n t=>cases h
   | sD g=>cases h
   | fn uG wE t=>
     simp only [aI] at h;have:=TD h.1;subst this;have h:=h.2;split at h
     ·next fn hf=>
      split at h
      ·next c specs hc hs=>
       have hb:tJ (DF P f) []=c:=by simp only [tJ,DF,hf,hc,oO]
       have hsp:=Qy hI hs;rw [hb] at hsp;exact pO.KW hlow hm hn (hpl I hI) hf hc hsp h hd
      ·cases h
     ·cases h
 | fs f st sp pe l=>
   cases d with
   | fn a b t=>cases h
   | sD g=>cases h
   | tree n t=>
     simp only [aI] at h;have e:=bG h.1;have h:=h.2;split at h
     ·next fn hf=>
      split at h
      ·next c specs hc hs=>
       have hb:tJ (DF P f) []=c:=by simp only [tJ,DF,hf,hc,oO]
       have hsp:=Qy hI hs;rw [hb] at hsp;exact Jk.KW hlow hm hn (hpl I hI) e hf hc hsp h hd
      ·cases h
     ·cases h
 | lp f way sp ps l=>
   cases d with
   | fn a b t=>cases h
   | sD g=>cases h
   | tree n t=>
     simp only [aI] at h;have e:=bG h.1.1;have e2:=bG h.1.2.1;have hok:=h.1.2.2;have h:=h.2;split at h
     ·next specs hs=>
      refine rG.al8 hlow hm hn (hpl I hI) hok e (Qy hI hs) (λgs out hi=>?_) h hd;rw [e2] at hi;exact JW hr (hI _ _ _ hi)
     ·cases h
def SX (P:Program) (tabs:List (Nat×List AV)) (pl:jW) (rows:List Row) (Ds:List aG) (k:Nat):Bool:=match rows[k]?,Ds[k]? with
 | some r,some d=>r.hand || SY P tabs pl 100000 rows k d
 | _,_=>false
def jK (P:Program) (tabs:List (Nat×List AV)) (pl:jW) (rows:List Row) (Ds:List aG):Nat->Nat->Bool
 | _,0=>true
 | a,n+1=>SX P tabs pl rows Ds a&&jK P tabs pl rows Ds (a+1) n
def Seg (P:Program) (tabs:List (Nat×List AV)) (pl:jW) (rows:List Row) (Ds:List aG) (a b:Nat):Prop:=∀k,a<=k->k < b->SX P tabs pl rows Ds k=true
theorem Seg.of {pl:jW} {Ds:List aG}:∀ {n a:Nat},jK P tabs pl rows Ds a n=true->Seg P tabs pl rows Ds a (a+n)
 | 0,a,_,k,h1,h2=>by omega
 | n+1,a,h,k,h1,h2=>by
   simp only [jK,aI] at h;by_cases e:k=a
   ·subst e;exact h.1
   ·exact Seg.of h.2 k (by omega) (by omega)
theorem Seg.join {pl:jW} {Ds:List aG} {a b c:Nat} (h1:Seg P tabs pl rows Ds a b) (h2:Seg P tabs pl rows Ds b c):Seg P tabs pl rows Ds a c:=λk k1 k2=>by
 by_cases e:k < b
 ·exact h1 k k1 e
 ·exact h2 k (by omega) k2
def FU (P:Program) (tabs:List (Nat×List AV)) (rows:List Row) (Ds:List aG):List Nat->Prop
 | []=>True
 | k::l=>(∃r d,rows[k]? = some r/\Ds[k]? = some d/\FT (uS P tabs rows) d (r.ctr P tabs))/\FU P tabs rows Ds l
theorem FU.at {Ds:List aG}:∀ {l:List Nat},FU P tabs rows Ds l->∀ {k:Nat},k∈l->∀ {r:Row} {d:aG},rows[k]? = some r->Ds[k]? = some d->FT (uS P tabs rows) d (r.ctr P tabs)
 | a::l,h,k,hk,r,d,hr,hd=>by
   rcases dh.1 hk with rfl | hk
   ·obtain ⟨r',d',h1,h2,h3⟩:=h.1
    rw [hr] at h1;cases h1;rw [hd] at h2;cases h2;exact h3
   ·exact FU.at h.2 hk hr hd
def Ea:List Row->Nat->List Nat
 | [],_=>[]
 | r::l,k=>if r.hand=true then k::Ea l (k+1) else Ea l (k+1)
theorem aaV:∀ {l:List Row} {k i:Nat} {r:Row},l[i]? = some r->r.hand=true->k+i∈Ea l k
 | [],_,_,_,h,_=>by simp at h
 | a::l,k,0,r,h,hh=>by
   simp only [iG,aT] at h;subst h;unfold Ea;rw [aj hh];simp
 | a::l,k,i+1,r,h,hh=>by
   have:=aaV (l:=l) (k:=k+1) (i:=i) (by simpa using h) hh;rw [show k+1+i=k+(i+1) by omega] at this;unfold Ea;split
   ·exact xQ _ this
   ·exact this
theorem YQ {C:Nat->List GV->List GV->Prop}:∀ {Ds:List aG} {rows:List Row},Ds.length=rows.length->(∀ (k:Nat) d r,Ds[k]? = some d->rows[k]? = some r->FT C d (r.ctr P tabs))->FK C Ds (rows.map (Row.ctr P tabs))
 | [],[],_,_=>trivial
 | d::Ds,r::rows,hl,h=>⟨h 0 d r (by simp) (by simp),YQ (by simpa using hl) λk d' r' h1 h2=>h (k+1) d' r' (by simpa using h1) (by simpa using h2)⟩
 | [],_::_,hl,_=>by simp at hl
 | _::_,[],hl,_=>by simp at hl
theorem aqg (hlow:rM tabs P.globals.size) (hm:P.follows .mixedOrders=true) (hn:sV P) {pl:jW} (hpl:∀I:gG,(∀k gs out,I k gs=some out->uS P tabs rows k gs out)->vS P tabs I pl) {Ds:List aG}
 (ajF:FU P tabs rows Ds (Ea rows 0)) (hlen:Ds.length=rows.length) (hseg:Seg P tabs pl rows Ds 0 Ds.length):∀k gs out,(vU Ds).lim k gs=some out->uS P tabs rows k gs out:=by
 refine akO (YQ hlen λk d r hd hr=>?_);have hk:=(dY.1 hd).1;cases hh:r.hand with
 | true=>
   refine ajF.at ?_ hr hd;have:=aaV (k:=0) hr hh;rwa [jr] at this
 | false=>
   have:=hseg k (sW _) hk;unfold SX at this;rw [hr,hd] at this;simp only [hh,vK] at this;exact agb hlow hm hn hpl hr this
def NG (P:Program) (rows:List Row) (k:Nat) (N:fV):fD:=match rows[k]? with
 | some (.fn _ st sh _ _)=>@P7 N P k st sh
 | some (.told _ st sh)=>@P7 N P k st sh
 | some (.fs _ st sp _ _)=>@VO N P st sp
 | _=>λ_ _=>none
def SL (P:Program) (rows:List Row):List Nat->fV->fD
 | [],_=>λ_ _=>none
 | [k],N=>NG P rows k N
 | k::l,N=>VJ (NG P rows k N) (SL P rows l N)
def N9 (rows:List Row) (f:FuncId) (k:Nat):Bool:=match rows[k]? with
 | some (.fn f' _ _ _ _)=>Nat.beq f' f
 | some (.told f' _ _)=>Nat.beq f' f
 | some (.fs f' _ sp _ _)=>Nat.beq f' f&&Nat.beq sp.key k&&sp.pre.ok
 | _=>false
def aai (rows:List Row) (es:List (FuncId×List Nat)):Bool:=es.all λe=>e.2.all (N9 rows e.1)
def acV (P:Program) (rows:List Row) (es:List (FuncId×List Nat)) (raw:jW):jW:=λN=>es.map (λe=>(e.1,SL P rows e.2 N))++raw N
theorem Zf (hlow:rM tabs P.globals.size) {T:aF} (hT:T.tabs=tabs) (hI:∀k gs out,T.I k gs=some out->uS P tabs rows k gs out) {f:FuncId} {k:Nat} (h:N9 rows f k=true):@fA T P f (NG P rows k T.tofV):=by
 subst hT;unfold N9 at h;unfold NG;split at h
 ·next f' st sh pe l hr=>
  have:=bG h;subst this;exact acM λgs out h'=>JW hr (hI k gs out h')
 ·next f' st sh hr=>
  have:=bG h;subst this;exact acM λgs out h'=>JW hr (hI k gs out h')
 ·next f' st sp pe l hr=>
  simp only [aI] at h;have:=bG h.1.1;subst this;have e:=bG h.1.2;exact amm hlow h.2 λgs out h'=>JW hr (hI k gs out (by rw [<- e];exact h'))
 ·cases h
theorem Zi (hlow:rM tabs P.globals.size) {T:aF} (hT:T.tabs=tabs) (hI:∀k gs out,T.I k gs=some out->uS P tabs rows k gs out) {f:FuncId}:∀ {l:List Nat},l.all (N9 rows f)=true->@fA T P f (SL P rows l T.tofV)
 | [],_=>λ_ _ _ _ h=>by cases h
 | [k],h=>Zf hlow hT hI (by simpa using h)
 | k::k'::l,h=>by
   simp only [rF,aI] at h;exact ami (Zf hlow hT hI h.1) (Zi hlow hT hI (l:=k'::l) (by simpa using h.2))
theorem amU (hlow:rM tabs P.globals.size) {es:List (FuncId×List Nat)} {raw:jW} (hes:aai rows es=true) {I:gG} (hI:∀k gs out,I k gs=some out->uS P tabs rows k gs out) (hraw:vS P tabs I raw):vS P tabs I (acV P rows es raw):=by
 intro T hT hTI p hp;rcases lF.1 hp with hp | hp
 ·obtain ⟨e,he,rfl⟩:=mF.1 hp
  unfold aai at hes;rw [List.all_eq_true] at hes;exact Zi hlow hT (by rw [hTI];exact hI) (hes e he)
 ·exact hraw T hT hTI p hp
end
end
end Go.aN
