/- All definitions of a law as rows of one table: which function or loop each is of; all are checked by a few runs. -/
import Derived.Test.YtjglbndncdkhhaaGreatDoorAbsJ
namespace Go.aN
set_option linter.unusedSimpArgs false
noncomputable section
set_option linter.unusedSectionVars false
set_option linter.unusedVariables false
variable {P:Program}
inductive Row where
 | any (c:CQ)
 | told (f:FuncId) (st:List (Option FuncId)) (sh:List mQ)
 | fn (f:FuncId) (st:List (Option FuncId)) (sh:List mQ) (pe:List Nat) (l:List (Nat×Nat))
 | fs (f:FuncId) (st:List (Option FuncId)) (sp:aX) (pe:List Nat) (l:List (Nat×Nat))
 | lp (f:FuncId) (way:List (List Nat×Nat)) (sp:aX) (ps:List Nat) (l:List (Nat×Nat))
def Dq (P:Program) (f:FuncId):Code:=match P.funcs[f]? with
 | some fn=>fn.body.getD .skip
 | none=>.skip
def Row.ctr (P:Program) (tabs:List (Nat×List AV)):Row->CQ
 | .any c=>c
 | .told f st sh=>qN P tabs f st sh
 | .fn f st sh _ _=>qN P tabs f st sh
 | .fs f st sp _ _=>Iu P tabs f st sp.pre sp.posts
 | .lp f way sp _ _=>qU P tabs (sO (Dq P f) way) sp.pre sp.posts
def Row.hand:Row->Bool
 | .any _ | .told _ _ _=>true
 | _=>false
def F7:List Nat->List Nat->Bool
 | [],[]=>true
 | a::l,b::m=>Nat.beq a b&&F7 l m
 | _,_=>false
theorem aaA:∀ {l m:List Nat},F7 l m=true->l=m
 | [],[],_=>rfl
 | a::l,b::m,h=>by
   simp only [F7,aI] at h;rw [bn h.1,aaA h.2]
 | [],_::_,h=>by simp [F7] at h
 | _::_,[],h=>by simp [F7] at h
def F8:List (List Nat×Nat)->List (List Nat×Nat)->Bool
 | [],[]=>true
 | (a,b)::l,(c,d)::m=>F7 a c&&Nat.beq b d&&F8 l m
 | _,_=>false
theorem aaB:∀ {l m:List (List Nat×Nat)},F8 l m=true->l=m
 | [],[],_=>rfl
 | (a,b)::l,(c,d)::m,h=>by
   simp only [F8,aI] at h;rw [aaA h.1.1,bn h.1.2,aaB h.2]
 | [],_::_,h=>by simp [F8] at h
 | _::_,[],h=>by simp [F8] at h
def wX:List mQ->List mQ->Bool
 | [],[]=>true
 | .sc::l,.sc::m=>wX l m
 | .ag a::l,.ag b::m=>Nat.beq a b&&wX l m
 | _,_=>false
theorem TP:∀ {l m:List mQ},wX l m=true->l=m
 | [],[],_=>rfl
 | .sc::l,.sc::m,h=>by simp only [wX] at h;rw [TP h]
 | .ag a::l,.ag b::m,h=>by
   simp only [wX,aI] at h;rw [bn h.1,TP h.2]
 | [],_::_,h=>by simp [wX] at h
 | .sc::_,[],h=>by simp [wX] at h
 | .ag _::_,[],h=>by simp [wX] at h
 | .sc::_,.ag _::_,h=>by simp [wX] at h
 | .ag _::_,.sc::_,h=>by simp [wX] at h
def Ia (rows:List Row) (f:FuncId) (way:List (List Nat×Nat)) (pe:List Nat):List (Nat×Nat)->Option (List (Nat×aX))
 | []=>some []
 | (k,key)::r=>match rows[key]? with
   | some (.lp f' aeV sp _ _)=>if (Nat.beq f' f&&F8 aeV (way++[(pe,k)])&&Nat.beq sp.key key&&sp.pre.ok)=true then (Ia rows f way pe r).map ((k,sp)::·) else none
   | _=>none
section
variable {tabs:List (Nat×List AV)} {rows:List Row} {I:gB}
abbrev uN (P:Program) (tabs:List (Nat×List AV)) (rows:List Row):Nat->List GV->List GV->Prop:=Iq (rows.map (Row.ctr P tabs))
theorem Jl {k:Nat} {r:Row} (hr:rows[k]? = some r) {gs out:List GV} (h:uN P tabs rows k gs out):r.ctr P tabs gs out:=by
 unfold uN Iq at h;rw [iq,hr] at h;exact h
theorem QA (hI:∀k gs out,I k gs=some out->uN P tabs rows k gs out) {f:FuncId} {way:List (List Nat×Nat)} {pe:List Nat}:∀ {l:List (Nat×Nat)} {specs:List (Nat×aX)},Ia rows f way pe l=some specs->
 zo P tabs I (kN pe (sO (Dq P f) way)) specs
 | [],_,h=>by cases h;exact zo.nil
 | (k,key)::r,specs,h=>by
   unfold Ia at h;split at h
   ·next f' aeV sp ps l hrow=>
    split at h
    ·next hc=>
     simp only [aI] at hc;obtain ⟨⟨⟨h1,h2⟩,h3⟩,h4⟩:=hc;have h1:=bn h1;have h2:=aaB h2;have h3:=bn h3;subst h1;subst h2;subst h3;obtain ⟨asP,h5,rfl⟩:=aW.1 h;refine zo.cons h4 (λgs out hi=>?_) (QA hI h5);have:=Jl hrow (hI _ _ _ hi);simp only [Row.ctr,Zk] at this;exact this
    ·cases h
   ·cases h
def Tn (P:Program) (tabs:List (Nat×List AV)) (pl:jK) (fuel:Nat) (rows:List Row) (k:Nat) (d:aH):Bool:=
 match rows[k]? with
 | some (.fn f st sh pe l)=>match d with
   | .fn um vZ t=>wX sh vZ&&(match P.funcs[f]? with
     | some fn=>match fn.body,Ia rows f [] pe l with
       | some c,some specs=>t.chk (Vq P tabs pl specs fuel st um vZ fn.ntmps fn.results.toList (kN pe c)) (List.replicate um.length .arg) []
       | _,_=>false
     | none=>false)
   | _=>false
 | some (.fs f st sp pe l)=>match d with
   | .tree n t=>Nat.beq n sp.pre.np&&(match P.funcs[f]? with
     | some fn=>match fn.body,Ia rows f [] pe l with
       | some c,some specs=>t.chk (Vr P tabs pl specs fuel st sp fn.ntmps fn.results.toList (kN pe c)) (List.replicate sp.pre.np .arg) []
       | _,_=>false
     | none=>false)
   | _=>false
 | some (.lp f way sp ps l)=>match d with
   | .tree n t=>Nat.beq n sp.pre.np&&(Nat.beq sp.key k&&sp.pre.ok)&&(match Ia rows f way ps l with
     | some specs=>t.chk (Pm P tabs pl specs fuel sp (kN ps (sO (Dq P f) way))) (List.replicate sp.pre.np .arg) []
     | none=>false)
   | _=>false
 | _=>false
theorem agb (hlow:qY tabs P.globals.size) (hm:P.follows .mixedOrders=true) (hn:sG P) {pl:jK} (hpl:∀I:gB,(∀k gs out,I k gs=some out->uN P tabs rows k gs out)->vH P tabs I pl) {fuel k:Nat} {d:aH} {r:Row} (hr:rows[k]? = some r)
 (h:Tn P tabs pl fuel rows k d=true):E5 (uN P tabs rows) d (r.ctr P tabs):=by
 intro I hI gs out hd;unfold Tn at h;rw [hr] at h;cases r with
 | any c=>cases h
 | told f st sh=>cases h
 | fn f st sh pe l=>
   cases d with
   | tree n t=>cases h
   | vV g=>cases h
   | fn um vZ t=>
     simp only [aI] at h;have:=TP h.1;subst this;have h:=h.2;split at h
     ·next fn hf=>
      split at h
      ·next c specs hc hs=>
       have hb:sO (Dq P f) []=c:=by simp only [sO,Dq,hf,hc,ou]
       have hsp:=QA hI hs;rw [hb] at hsp;exact qN.KO hlow hm hn (hpl I hI) hf hc hsp h hd
      ·cases h
     ·cases h
 | fs f st sp pe l=>
   cases d with
   | fn a b t=>cases h
   | vV g=>cases h
   | tree n t=>
     simp only [aI] at h;have e:=bn h.1;have h:=h.2;split at h
     ·next fn hf=>
      split at h
      ·next c specs hc hs=>
       have hb:sO (Dq P f) []=c:=by simp only [sO,Dq,hf,hc,ou]
       have hsp:=QA hI hs;rw [hb] at hsp;exact Iu.KO hlow hm hn (hpl I hI) e hf hc hsp h hd
      ·cases h
     ·cases h
 | lp f way sp ps l=>
   cases d with
   | fn a b t=>cases h
   | vV g=>cases h
   | tree n t=>
     simp only [aI] at h;have e:=bn h.1.1;have e2:=bn h.1.2.1;have hok:=h.1.2.2;have h:=h.2;split at h
     ·next specs hs=>
      refine qU.ak9 hlow hm hn (hpl I hI) hok e (QA hI hs) (λgs out hi=>?_) h hd;rw [e2] at hi;exact Jl hr (hI _ _ _ hi)
     ·cases h
def Tj (P:Program) (tabs:List (Nat×List AV)) (pl:jK) (rows:List Row) (Ds:List aH) (k:Nat):Bool:=match rows[k]?,Ds[k]? with
 | some r,some d=>r.hand || Tn P tabs pl 100000 rows k d
 | _,_=>false
def jW (P:Program) (tabs:List (Nat×List AV)) (pl:jK) (rows:List Row) (Ds:List aH):Nat->Nat->Bool
 | _,0=>true
 | a,n+1=>Tj P tabs pl rows Ds a&&jW P tabs pl rows Ds (a+1) n
def Seg (P:Program) (tabs:List (Nat×List AV)) (pl:jK) (rows:List Row) (Ds:List aH) (a b:Nat):Prop:=∀k,a<=k->k < b->Tj P tabs pl rows Ds k=true
theorem Seg.of {pl:jK} {Ds:List aH}:∀ {n a:Nat},jW P tabs pl rows Ds a n=true->Seg P tabs pl rows Ds a (a+n)
 | 0,a,_,k,h1,h2=>by omega
 | n+1,a,h,k,h1,h2=>by
   simp only [jW,aI] at h;by_cases e:k=a
   ·subst e;exact h.1
   ·exact Seg.of h.2 k (by omega) (by omega)
theorem Seg.join {pl:jK} {Ds:List aH} {a b c:Nat} (h1:Seg P tabs pl rows Ds a b) (h2:Seg P tabs pl rows Ds b c):Seg P tabs pl rows Ds a c:=λk k1 k2=>by
 by_cases e:k < b
 ·exact h1 k k1 e
 ·exact h2 k (by omega) k2
def E8 (P:Program) (tabs:List (Nat×List AV)) (rows:List Row) (Ds:List aH):List Nat->Prop
 | []=>True
 | k::l=>(∃r d,rows[k]? = some r/\Ds[k]? = some d/\E5 (uN P tabs rows) d (r.ctr P tabs))/\E8 P tabs rows Ds l
theorem E8.at {Ds:List aH}:∀ {l:List Nat},E8 P tabs rows Ds l->∀ {k:Nat},k∈l->∀ {r:Row} {d:aH},rows[k]? = some r->Ds[k]? = some d->E5 (uN P tabs rows) d (r.ctr P tabs)
 | a::l,h,k,hk,r,d,hr,hd=>by
   rcases bU.1 hk with rfl | hk
   ·obtain ⟨r',d',h1,h2,h3⟩:=h.1
    rw [hr] at h1;cases h1;rw [hd] at h2;cases h2;exact h3
   ·exact E8.at h.2 hk hr hd
def DW:List Row->Nat->List Nat
 | [],_=>[]
 | r::l,k=>if r.hand=true then k::DW l (k+1) else DW l (k+1)
theorem aa9:∀ {l:List Row} {k i:Nat} {r:Row},l[i]? = some r->r.hand=true->k+i∈DW l k
 | [],_,_,_,h,_=>by simp at h
 | a::l,k,0,r,h,hh=>by
   simp only [iL,aT] at h;subst h;unfold DW;rw [aj hh];simp
 | a::l,k,i+1,r,h,hh=>by
   have:=aa9 (l:=l) (k:=k+1) (i:=i) (by simpa using h) hh;rw [show k+1+i=k+(i+1) by omega] at this;unfold DW;split
   ·exact wI _ this
   ·exact this
theorem Y4 {C:Nat->List GV->List GV->Prop}:∀ {Ds:List aH} {rows:List Row},Ds.length=rows.length->(∀ (k:Nat) d r,Ds[k]? = some d->rows[k]? = some r->E5 C d (r.ctr P tabs))->EW C Ds (rows.map (Row.ctr P tabs))
 | [],[],_,_=>trivial
 | d::Ds,r::rows,hl,h=>⟨h 0 d r (by simp) (by simp),Y4 (by simpa using hl) λk d' r' h1 h2=>h (k+1) d' r' (by simpa using h1) (by simpa using h2)⟩
 | [],_::_,hl,_=>by simp at hl
 | _::_,[],hl,_=>by simp at hl
theorem apd (hlow:qY tabs P.globals.size) (hm:P.follows .mixedOrders=true) (hn:sG P) {pl:jK} (hpl:∀I:gB,(∀k gs out,I k gs=some out->uN P tabs rows k gs out)->vH P tabs I pl) {Ds:List aH}
 (ai9:E8 P tabs rows Ds (DW rows 0)) (hlen:Ds.length=rows.length) (hseg:Seg P tabs pl rows Ds 0 Ds.length):∀k gs out,(vJ Ds).lim k gs=some out->uN P tabs rows k gs out:=by
 refine akk (Y4 hlen λk d r hd hr=>?_);have hk:=(dR.1 hd).1;cases hh:r.hand with
 | true=>
   refine ai9.at ?_ hr hd;have:=aa9 (k:=0) hr hh;rwa [jk] at this
 | false=>
   have:=hseg k (uG _) hk;unfold Tj at this;rw [hr,hd] at this;simp only [hh,uy] at this;exact agb hlow hm hn hpl hr this
def NI (P:Program) (rows:List Row) (k:Nat) (N:fV):eP:=match rows[k]? with
 | some (.fn _ st sh _ _)=>@P9 N P k st sh
 | some (.told _ st sh)=>@P9 N P k st sh
 | some (.fs _ st sp _ _)=>@V7 N P st sp
 | _=>λ_ _=>none
def SX (P:Program) (rows:List Row):List Nat->fV->eP
 | [],_=>λ_ _=>none
 | [k],N=>NI P rows k N
 | k::l,N=>V3 (NI P rows k N) (SX P rows l N)
def Oc (rows:List Row) (f:FuncId) (k:Nat):Bool:=match rows[k]? with
 | some (.fn f' _ _ _ _)=>Nat.beq f' f
 | some (.told f' _ _)=>Nat.beq f' f
 | some (.fs f' _ sp _ _)=>Nat.beq f' f&&Nat.beq sp.key k&&sp.pre.ok
 | _=>false
def aax (rows:List Row) (es:List (FuncId×List Nat)):Bool:=es.all λe=>e.2.all (Oc rows e.1)
def ac9 (P:Program) (rows:List Row) (es:List (FuncId×List Nat)) (raw:jK):jK:=λN=>es.map (λe=>(e.1,SX P rows e.2 N))++raw N
theorem Zv (hlow:qY tabs P.globals.size) {T:aF} (hT:T.tabs=tabs) (hI:∀k gs out,T.I k gs=some out->uN P tabs rows k gs out) {f:FuncId} {k:Nat} (h:Oc rows f k=true):@dY T P f (NI P rows k T.tofV):=by
 subst hT;unfold Oc at h;unfold NI;split at h
 ·next f' st sh pe l hr=>
  have:=bn h;subst this;exact ac2 λgs out h'=>Jl hr (hI k gs out h')
 ·next f' st sh hr=>
  have:=bn h;subst this;exact ac2 λgs out h'=>Jl hr (hI k gs out h')
 ·next f' st sp pe l hr=>
  simp only [aI] at h;have:=bn h.1.1;subst this;have e:=bn h.1.2;exact alm hlow h.2 λgs out h'=>Jl hr (hI k gs out (by rw [<- e];exact h'))
 ·cases h
theorem Zy (hlow:qY tabs P.globals.size) {T:aF} (hT:T.tabs=tabs) (hI:∀k gs out,T.I k gs=some out->uN P tabs rows k gs out) {f:FuncId}:∀ {l:List Nat},l.all (Oc rows f)=true->@dY T P f (SX P rows l T.tofV)
 | [],_=>λ_ _ _ _ h=>by cases h
 | [k],h=>Zv hlow hT hI (by simpa using h)
 | k::k'::l,h=>by
   simp only [qP,aI] at h;exact ali (Zv hlow hT hI h.1) (Zy hlow hT hI (l:=k'::l) (by simpa using h.2))
theorem alT (hlow:qY tabs P.globals.size) {es:List (FuncId×List Nat)} {raw:jK} (hes:aax rows es=true) {I:gB} (hI:∀k gs out,I k gs=some out->uN P tabs rows k gs out) (hraw:vH P tabs I raw):vH P tabs I (ac9 P rows es raw):=by
 intro T hT hTI p hp;rcases kV.1 hp with hp | hp
 ·obtain ⟨e,he,rfl⟩:=kX.1 hp
  unfold aax at hes;rw [List.all_eq_true] at hes;exact Zy hlow hT (by rw [hTI];exact hI) (hes e he)
 ·exact hraw T hT hTI p hp
end
end
end Go.aN
