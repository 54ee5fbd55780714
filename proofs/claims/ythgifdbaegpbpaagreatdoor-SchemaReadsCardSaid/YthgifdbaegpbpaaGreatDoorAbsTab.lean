/- All definitions of a law as rows of one table: which function or loop each is of; all are checked by a few runs. -/
import Derived.Test.YthgifdbaegpbpaaGreatDoorAbsJ
namespace Go.aK
set_option linter.unusedSimpArgs false
noncomputable section
set_option linter.unusedSectionVars false
set_option linter.unusedVariables false
variable {P:Program}
inductive Row where
 | any (c:Dh)
 | told (f:FuncId) (st:List (Option FuncId)) (sh:List oN)
 | fn (f:FuncId) (st:List (Option FuncId)) (sh:List oN) (pe:List Nat) (l:List (Nat×Nat))
 | fs (f:FuncId) (st:List (Option FuncId)) (sp:aW) (pe:List Nat) (l:List (Nat×Nat))
 | lp (f:FuncId) (way:List (List Nat×Nat)) (sp:aW) (ps:List Nat) (l:List (Nat×Nat))
def DC (P:Program) (f:FuncId):Code:=match P.funcs[f]? with
 | some fn=>fn.body.getD .skip
 | none=>.skip
def Row.ctr (P:Program) (tabs:List (Nat×List AV)):Row->Dh
 | .any c=>c
 | .told f st sh=>rC P tabs f st sh
 | .fn f st sh _ _=>rC P tabs f st sh
 | .fs f st sp _ _=>H9 P tabs f st sp.pre sp.posts
 | .lp f way sp _ _=>rF P tabs (sV (DC P f) way) sp.pre sp.posts
def Row.hand:Row->Bool
 | .any _ | .told _ _ _=>true
 | _=>false
def FW:List Nat->List Nat->Bool
 | [],[]=>true
 | a::l,b::m=>Nat.beq a b&&FW l m
 | _,_=>false
theorem Zk:∀ {l m:List Nat},FW l m=true->l=m
 | [],[],_=>rfl
 | a::l,b::m,h=>by
  simp only [FW,aJ] at h;rw [bn h.1,Zk h.2]
 | [],_::_,h=>by simp [FW] at h
 | _::_,[],h=>by simp [FW] at h
def FX:List (List Nat×Nat)->List (List Nat×Nat)->Bool
 | [],[]=>true
 | (a,b)::l,(c,d)::m=>FW a c&&Nat.beq b d&&FX l m
 | _,_=>false
theorem Zl:∀ {l m:List (List Nat×Nat)},FX l m=true->l=m
 | [],[],_=>rfl
 | (a,b)::l,(c,d)::m,h=>by
  simp only [FX,aJ] at h;rw [Zk h.1.1,bn h.1.2,Zl h.2]
 | [],_::_,h=>by simp [FX] at h
 | _::_,[],h=>by simp [FX] at h
def wM:List oN->List oN->Bool
 | [],[]=>true
 | .sc::l,.sc::m=>wM l m
 | .ag a::l,.ag b::m=>Nat.beq a b&&wM l m
 | _,_=>false
theorem QZ:∀ {l m:List oN},wM l m=true->l=m
 | [],[],_=>rfl
 | .sc::l,.sc::m,h=>by simp only [wM] at h;rw [QZ h]
 | .ag a::l,.ag b::m,h=>by
  simp only [wM,aJ] at h;rw [bn h.1,QZ h.2]
 | [],_::_,h=>by simp [wM] at h
 | .sc::_,[],h=>by simp [wM] at h
 | .ag _::_,[],h=>by simp [wM] at h
 | .sc::_,.ag _::_,h=>by simp [wM] at h
 | .ag _::_,.sc::_,h=>by simp [wM] at h
def Hg (rows:List Row) (f:FuncId) (way:List (List Nat×Nat)) (pe:List Nat):List (Nat×Nat)->Option (List (Nat×aW))
 | []=>some []
 | (k,key)::r=>match rows[key]? with
  | some (.lp f' adB sp _ _)=>if (Nat.beq f' f&&FX adB (way++[(pe,k)])&&Nat.beq sp.key key&&sp.pre.ok)=true then (Hg rows f way pe r).map ((k,sp)::·) else none
  | _=>none
section
variable {tabs:List (Nat×List AV)} {rows:List Row} {I:fP}
abbrev uK (P:Program) (tabs:List (Nat×List AV)) (rows:List Row):Nat->List GV->List GV->Prop:=H7 (rows.map (Row.ctr P tabs))
theorem Jb {k:Nat} {r:Row} (hr:rows[k]? = some r) {gs out:List GV} (h:uK P tabs rows k gs out):r.ctr P tabs gs out:=by
 unfold uK H7 at h;rw [jw,hr] at h;exact h
theorem O0 (hI:∀k gs out,I k gs=some out->uK P tabs rows k gs out) {f:FuncId} {way:List (List Nat×Nat)} {pe:List Nat}:∀ {l:List (Nat×Nat)} {specs:List (Nat×aW)},Hg rows f way pe l=some specs->
 zQ P tabs I (lD pe (sV (DC P f) way)) specs
 | [],_,h=>by cases h;exact zQ.nil
 | (k,key)::r,specs,h=>by
  unfold Hg at h;split at h
  ·next f' adB sp ps l hrow=>
   split at h
   ·next hc=>
    simp only [aJ] at hc;obtain ⟨⟨⟨h1,h2⟩,h3⟩,h4⟩:=hc;have h1:=bn h1;have h2:=Zl h2;have h3:=bn h3;subst h1;subst h2;subst h3;obtain ⟨aup,h5,rfl⟩:=aX.1 h;refine zQ.cons h4 (λgs out hi=>?_) (O0 hI h5);have:=Jb hrow (hI _ _ _ hi);simp only [Row.ctr,XQ] at this;exact this
   ·cases h
  ·cases h
def QH (P:Program) (tabs:List (Nat×List AV)) (pl:jU) (fuel:Nat) (rows:List Row) (k:Nat) (d:aF):Bool:=
 match rows[k]? with
 | some (.fn f st sh pe l)=>match d with
  | .fn um vW t=>wM sh vW&&(match P.funcs[f]? with
   | some fn=>match fn.body,Hg rows f [] pe l with
    | some c,some specs=>t.chk (Tc P tabs pl specs fuel st um vW fn.ntmps fn.results.toList (lD pe c)) (List.replicate um.length .arg) []
    | _,_=>false
   | none=>false)
  | _=>false
 | some (.fs f st sp pe l)=>match d with
  | .tree n t=>Nat.beq n sp.pre.np&&(match P.funcs[f]? with
   | some fn=>match fn.body,Hg rows f [] pe l with
    | some c,some specs=>t.chk (Td P tabs pl specs fuel st sp fn.ntmps fn.results.toList (lD pe c)) (List.replicate sp.pre.np .arg) []
    | _,_=>false
   | none=>false)
  | _=>false
 | some (.lp f way sp ps l)=>match d with
  | .tree n t=>Nat.beq n sp.pre.np&&(Nat.beq sp.key k&&sp.pre.ok)&&(match Hg rows f way ps l with
   | some specs=>t.chk (NQ P tabs pl specs fuel sp (lD ps (sV (DC P f) way))) (List.replicate sp.pre.np .arg) []
   | none=>false)
  | _=>false
 | _=>false
theorem aeF (hlow:rJ tabs P.globals.size) (hm:P.follows .mixedOrders=true) (hn:sH P) {pl:jU} (hpl:∀I:fP,(∀k gs out,I k gs=some out->uK P tabs rows k gs out)->vI P tabs I pl) {fuel k:Nat} {d:aF} {r:Row} (hr:rows[k]? = some r)
 (h:QH P tabs pl fuel rows k d=true):EX (uK P tabs rows) d (r.ctr P tabs):=by
 intro I hI gs out hd;unfold QH at h;rw [hr] at h;cases r with
 | any c=>cases h
 | told f st sh=>cases h
 | fn f st sh pe l=>
  cases d with
  | tree n t=>cases h
  | tY g=>cases h
  | fn um vW t=>
   simp only [aJ] at h;have:=QZ h.1;subst this;have h:=h.2;split at h
   ·next fn hf=>
    split at h
    ·next c specs hc hs=>
     have hb:sV (DC P f) []=c:=by simp only [sV,DC,hf,hc,uG]
     have hsp:=O0 hI hs;rw [hb] at hsp;exact rC.JI hlow hm hn (hpl I hI) hf hc hsp h hd
    ·cases h
   ·cases h
 | fs f st sp pe l=>
  cases d with
  | fn a b t=>cases h
  | tY g=>cases h
  | tree n t=>
   simp only [aJ] at h;have e:=bn h.1;have h:=h.2;split at h
   ·next fn hf=>
    split at h
    ·next c specs hc hs=>
     have hb:sV (DC P f) []=c:=by simp only [sV,DC,hf,hc,uG]
     have hsp:=O0 hI hs;rw [hb] at hsp;exact H9.JI hlow hm hn (hpl I hI) e hf hc hsp h hd
    ·cases h
   ·cases h
 | lp f way sp ps l=>
  cases d with
  | fn a b t=>cases h
  | tY g=>cases h
  | tree n t=>
   simp only [aJ] at h;have e:=bn h.1.1;have e2:=bn h.1.2.1;have hok:=h.1.2.2;have h:=h.2;split at h
   ·next specs hs=>
    refine rF.ako hlow hm hn (hpl I hI) hok e (O0 hI hs) (λgs out hi=>?_) h hd;rw [e2] at hi;exact Jb hr (hI _ _ _ hi)
   ·cases h
def QG (P:Program) (tabs:List (Nat×List AV)) (pl:jU) (rows:List Row) (Ds:List aF) (k:Nat):Bool:=match rows[k]?,Ds[k]? with
 | some r,some d=>r.hand || QH P tabs pl 100000 rows k d
 | _,_=>false
def iP (P:Program) (tabs:List (Nat×List AV)) (pl:jU) (rows:List Row) (Ds:List aF):Nat->Nat->Bool
 | _,0=>true
 | a,n+1=>QG P tabs pl rows Ds a&&iP P tabs pl rows Ds (a+1) n
def Seg (P:Program) (tabs:List (Nat×List AV)) (pl:jU) (rows:List Row) (Ds:List aF) (a b:Nat):Prop:=∀k,a<=k->k < b->QG P tabs pl rows Ds k=true
theorem Seg.of {pl:jU} {Ds:List aF}:∀ {n a:Nat},iP P tabs pl rows Ds a n=true->Seg P tabs pl rows Ds a (a+n)
 | 0,a,_,k,h1,h2=>by omega
 | n+1,a,h,k,h1,h2=>by
  simp only [iP,aJ] at h;by_cases e:k=a
  ·subst e;exact h.1
  ·exact Seg.of h.2 k (by omega) (by omega)
theorem Seg.join {pl:jU} {Ds:List aF} {a b c:Nat} (h1:Seg P tabs pl rows Ds a b) (h2:Seg P tabs pl rows Ds b c):Seg P tabs pl rows Ds a c:=λk k1 k2=>by
 by_cases e:k < b
 ·exact h1 k k1 e
 ·exact h2 k (by omega) k2
def EY (P:Program) (tabs:List (Nat×List AV)) (rows:List Row) (Ds:List aF):List Nat->Prop
 | []=>True
 | k::l=>(∃r d,rows[k]? = some r/\Ds[k]? = some d/\EX (uK P tabs rows) d (r.ctr P tabs))/\EY P tabs rows Ds l
theorem EY.at {Ds:List aF}:∀ {l:List Nat},EY P tabs rows Ds l->∀ {k:Nat},k∈l->∀ {r:Row} {d:aF},rows[k]? = some r->Ds[k]? = some d->EX (uK P tabs rows) d (r.ctr P tabs)
 | a::l,h,k,hk,r,d,hr,hd=>by
  rcases dR.1 hk with rfl | hk
  ·obtain ⟨r',d',h1,h2,h3⟩:=h.1
   rw [hr] at h1;cases h1;rw [hd] at h2;cases h2;exact h3
  ·exact EY.at h.2 hk hr hd
def D5:List Row->Nat->List Nat
 | [],_=>[]
 | r::l,k=>if r.hand=true then k::D5 l (k+1) else D5 l (k+1)
theorem ZW:∀ {l:List Row} {k i:Nat} {r:Row},l[i]? = some r->r.hand=true->k+i∈D5 l k
 | [],_,_,_,h,_=>by simp at h
 | a::l,k,0,r,h,hh=>by
  simp only [iM,aQ] at h;subst h;unfold D5;rw [ak hh];simp
 | a::l,k,i+1,r,h,hh=>by
  have:=ZW (l:=l) (k:=k+1) (i:=i) (by simpa using h) hh;rw [show k+1+i=k+(i+1) by omega] at this;unfold D5;split
  ·exact zJ _ this
  ·exact this
theorem Xy {C:Nat->List GV->List GV->Prop}:∀ {Ds:List aF} {rows:List Row},Ds.length=rows.length->(∀ (k:Nat) d r,Ds[k]? = some d->rows[k]? = some r->EX C d (r.ctr P tabs))->ET C Ds (rows.map (Row.ctr P tabs))
 | [],[],_,_=>trivial
 | d::Ds,r::rows,hl,h=>⟨h 0 d r (by simp) (by simp),Xy (by simpa using hl) λk d' r' h1 h2=>h (k+1) d' r' (by simpa using h1) (by simpa using h2)⟩
 | [],_::_,hl,_=>by simp at hl
 | _::_,[],hl,_=>by simp at hl
theorem aqo (hlow:rJ tabs P.globals.size) (hm:P.follows .mixedOrders=true) (hn:sH P) {pl:jU} (hpl:∀I:fP,(∀k gs out,I k gs=some out->uK P tabs rows k gs out)->vI P tabs I pl) {Ds:List aF}
 (ail:EY P tabs rows Ds (D5 rows 0)) (hlen:Ds.length=rows.length) (hseg:Seg P tabs pl rows Ds 0 Ds.length):∀k gs out,(vK Ds).lim k gs=some out->uK P tabs rows k gs out:=by
 refine ajh (Xy hlen λk d r hd hr=>?_);have hk:=(dN.1 hd).1;cases hh:r.hand with
 | true=>
  refine ail.at ?_ hr hd;have:=ZW (k:=0) hr hh;rwa [iZ] at this
 | false=>
  have:=hseg k (xY _) hk;unfold QG at this;rw [hr,hd] at this;simp only [hh,xJ] at this;exact aeF hlow hm hn hpl hr this
def LX (P:Program) (rows:List Row) (k:Nat) (N:fZ):dY:=match rows[k]? with
 | some (.fn _ st sh _ _)=>@Ot N P k st sh
 | some (.told _ st sh)=>@Ot N P k st sh
 | some (.fs _ st sp _ _)=>@Uf N P st sp
 | _=>λ_ _=>none
def QD (P:Program) (rows:List Row):List Nat->fZ->dY
 | [],_=>λ_ _=>none
 | [k],N=>LX P rows k N
 | k::l,N=>Ub (LX P rows k N) (QD P rows l N)
def ML (rows:List Row) (f:FuncId) (k:Nat):Bool:=match rows[k]? with
 | some (.fn f' _ _ _ _)=>Nat.beq f' f
 | some (.told f' _ _)=>Nat.beq f' f
 | some (.fs f' _ sp _ _)=>Nat.beq f' f&&Nat.beq sp.key k&&sp.pre.ok
 | _=>false
def Zh (rows:List Row) (es:List (FuncId×List Nat)):Bool:=es.all λe=>e.2.all (ML rows e.1)
def abI (P:Program) (rows:List Row) (es:List (FuncId×List Nat)) (raw:jU):jU:=λN=>es.map (λe=>(e.1,QD P rows e.2 N))++raw N
theorem X4 (hlow:rJ tabs P.globals.size) {T:aH} (hT:T.tabs=tabs) (hI:∀k gs out,T.I k gs=some out->uK P tabs rows k gs out) {f:FuncId} {k:Nat} (h:ML rows f k=true):@dZ T P f (LX P rows k T.tofZ):=by
 subst hT;unfold ML at h;unfold LX;split at h
 ·next f' st sh pe l hr=>
  have:=bn h;subst this;exact abB λgs out h'=>Jb hr (hI k gs out h')
 ·next f' st sh hr=>
  have:=bn h;subst this;exact abB λgs out h'=>Jb hr (hI k gs out h')
 ·next f' st sp pe l hr=>
  simp only [aJ] at h;have:=bn h.1.1;subst this;have e:=bn h.1.2;exact akz hlow h.2 λgs out h'=>Jb hr (hI k gs out (by rw [<- e];exact h'))
 ·cases h
theorem X7 (hlow:rJ tabs P.globals.size) {T:aH} (hT:T.tabs=tabs) (hI:∀k gs out,T.I k gs=some out->uK P tabs rows k gs out) {f:FuncId}:∀ {l:List Nat},l.all (ML rows f)=true->@dZ T P f (QD P rows l T.tofZ)
 | [],_=>λ_ _ _ _ h=>by cases h
 | [k],h=>X4 hlow hT hI (by simpa using h)
 | k::k'::l,h=>by
  simp only [vC,aJ] at h;exact aku (X4 hlow hT hI h.1) (X7 hlow hT hI (l:=k'::l) (by simpa using h.2))
theorem akZ (hlow:rJ tabs P.globals.size) {es:List (FuncId×List Nat)} {raw:jU} (hes:Zh rows es=true) {I:fP} (hI:∀k gs out,I k gs=some out->uK P tabs rows k gs out) (hraw:vI P tabs I raw):vI P tabs I (abI P rows es raw):=by
 intro T hT ZU p hp;rcases qJ.1 hp with hp | hp
 ·obtain ⟨e,he,rfl⟩:=sF.1 hp
  unfold Zh at hes;rw [List.all_eq_true] at hes;exact X7 hlow hT (by rw [ZU];exact hI) (hes e he)
 ·exact hraw T hT ZU p hp
end
end
end Go.aK
