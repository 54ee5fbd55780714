/- All definitions of a law as rows of one table: which function or loop each is of; all are checked by a few runs. -/
import Derived.Test.YtaggjpipnjmleaaGreatDoorAbsJ
namespace Go.aJ
set_option linter.unusedSimpArgs false
noncomputable section
set_option linter.unusedSectionVars false
set_option linter.unusedVariables false
variable {P:Program}
inductive Row where
 | any (c:Df)
 | told (f:FuncId) (st:List (Option FuncId)) (sh:List ng)
 | fn (f:FuncId) (st:List (Option FuncId)) (sh:List ng) (pe:List Nat) (l:List (Nat×Nat))
 | fs (f:FuncId) (st:List (Option FuncId)) (sp:aT) (pe:List Nat) (l:List (Nat×Nat))
 | lp (f:FuncId) (way:List (List Nat×Nat)) (sp:aT) (ps:List Nat) (l:List (Nat×Nat))
def Dz (P:Program) (f:FuncId):Code:=match P.funcs[f]? with
 | some fn=>fn.body.getD .skip
 | none=>.skip
def Row.ctr (P:Program) (tabs:List (Nat×List AV)):Row->Df
 | .any c=>c
 | .told f st sh=>qN P tabs f st sh
 | .fn f st sh _ _=>qN P tabs f st sh
 | .fs f st sp _ _=>IY P tabs f st sp.pre sp.posts
 | .lp f way sp _ _=>qP P tabs (sO (Dz P f) way) sp.pre sp.posts
def Row.hand:Row->Bool
 | .any _ | .told _ _ _=>true
 | _=>false
def Gj:List Nat->List Nat->Bool
 | [],[]=>true
 | a::l,b::m=>Nat.beq a b&&Gj l m
 | _,_=>false
theorem aaz:∀ {l m:List Nat},Gj l m=true->l=m
 | [],[],_=>rfl
 | a::l,b::m,h=>by
   simp only [Gj,aI] at h;rw [bF h.1,aaz h.2]
 | [],_::_,h=>by simp [Gj] at h
 | _::_,[],h=>by simp [Gj] at h
def Gl:List (List Nat×Nat)->List (List Nat×Nat)->Bool
 | [],[]=>true
 | (a,b)::l,(c,d)::m=>Gj a c&&Nat.beq b d&&Gl l m
 | _,_=>false
theorem aaA:∀ {l m:List (List Nat×Nat)},Gl l m=true->l=m
 | [],[],_=>rfl
 | (a,b)::l,(c,d)::m,h=>by
   simp only [Gl,aI] at h;rw [aaz h.1.1,bF h.1.2,aaA h.2]
 | [],_::_,h=>by simp [Gl] at h
 | _::_,[],h=>by simp [Gl] at h
def xA:List ng->List ng->Bool
 | [],[]=>true
 | .sc::l,.sc::m=>xA l m
 | .ag a::l,.ag b::m=>Nat.beq a b&&xA l m
 | _,_=>false
theorem TL:∀ {l m:List ng},xA l m=true->l=m
 | [],[],_=>rfl
 | .sc::l,.sc::m,h=>by simp only [xA] at h;rw [TL h]
 | .ag a::l,.ag b::m,h=>by
   simp only [xA,aI] at h;rw [bF h.1,TL h.2]
 | [],_::_,h=>by simp [xA] at h
 | .sc::_,[],h=>by simp [xA] at h
 | .ag _::_,[],h=>by simp [xA] at h
 | .sc::_,.ag _::_,h=>by simp [xA] at h
 | .ag _::_,.sc::_,h=>by simp [xA] at h
def Iw (rows:List Row) (f:FuncId) (way:List (List Nat×Nat)) (pe:List Nat):List (Nat×Nat)->Option (List (Nat×aT))
 | []=>some []
 | (k,key)::r=>match rows[key]? with
   | some (.lp f' ae9 sp _ _)=>if (Nat.beq f' f&&Gl ae9 (way++[(pe,k)])&&Nat.beq sp.key key&&sp.pre.ok)=true then (Iw rows f way pe r).map ((k,sp)::·) else none
   | _=>none
section
variable {tabs:List (Nat×List AV)} {rows:List Row} {I:gQ}
abbrev uO (P:Program) (tabs:List (Nat×List AV)) (rows:List Row):Nat->List GV->List GV->Prop:=IW (rows.map (Row.ctr P tabs))
theorem JH {k:Nat} {r:Row} (hr:rows[k]? = some r) {gs out:List GV} (h:uO P tabs rows k gs out):r.ctr P tabs gs out:=by
 unfold uO IW at h;rw [iF,hr] at h;exact h
theorem Qw (hI:∀k gs out,I k gs=some out->uO P tabs rows k gs out) {f:FuncId} {way:List (List Nat×Nat)} {pe:List Nat}:∀ {l:List (Nat×Nat)} {specs:List (Nat×aT)},Iw rows f way pe l=some specs->
 zC P tabs I (kW pe (sO (Dz P f) way)) specs
 | [],_,h=>by cases h;exact zC.nil
 | (k,key)::r,specs,h=>by
   unfold Iw at h;split at h
   ·next f' ae9 sp ps l hrow=>
    split at h
    ·next hc=>
     simp only [aI] at hc;obtain ⟨⟨⟨h1,h2⟩,h3⟩,h4⟩:=hc;have h1:=bF h1;have h2:=aaA h2;have h3:=bF h3;subst h1;subst h2;subst h3;obtain ⟨avq,h5,rfl⟩:=bf.1 h;refine zC.cons h4 (λgs out hi=>?_) (Qw hI h5);have:=JH hrow (hI _ _ _ hi);simp only [Row.ctr,Zm] at this;exact this
    ·cases h
   ·cases h
def Tc (P:Program) (tabs:List (Nat×List AV)) (pl:jX) (fuel:Nat) (rows:List Row) (k:Nat) (d:aC):Bool:=
 match rows[k]? with
 | some (.fn f st sh pe l)=>match d with
   | .fn uq wH t=>xA sh wH&&(match P.funcs[f]? with
     | some fn=>match fn.body,Iw rows f [] pe l with
       | some c,some specs=>t.chk (Vj P tabs pl specs fuel st uq wH fn.ntmps fn.results.toList (kW pe c)) (List.replicate uq.length .arg) []
       | _,_=>false
     | none=>false)
   | _=>false
 | some (.fs f st sp pe l)=>match d with
   | .tree n t=>Nat.beq n sp.pre.np&&(match P.funcs[f]? with
     | some fn=>match fn.body,Iw rows f [] pe l with
       | some c,some specs=>t.chk (Vk P tabs pl specs fuel st sp fn.ntmps fn.results.toList (kW pe c)) (List.replicate sp.pre.np .arg) []
       | _,_=>false
     | none=>false)
   | _=>false
 | some (.lp f way sp ps l)=>match d with
   | .tree n t=>Nat.beq n sp.pre.np&&(Nat.beq sp.key k&&sp.pre.ok)&&(match Iw rows f way ps l with
     | some specs=>t.chk (O8 P tabs pl specs fuel sp (kW ps (sO (Dz P f) way))) (List.replicate sp.pre.np .arg) []
     | none=>false)
   | _=>false
 | _=>false
theorem agf (hlow:qU tabs P.globals.size) (hm:P.follows .mixedOrders=true) (hn:su P) {pl:jX} (hpl:∀I:gQ,(∀k gs out,I k gs=some out->uO P tabs rows k gs out)->vM P tabs I pl) {fuel k:Nat} {d:aC} {r:Row} (hr:rows[k]? = some r)
 (h:Tc P tabs pl fuel rows k d=true):Fe (uO P tabs rows) d (r.ctr P tabs):=by
 intro I hI gs out hd;unfold Tc at h;rw [hr] at h;cases r with
 | any c=>cases h
 | told f st sh=>cases h
 | fn f st sh pe l=>
   cases d with
   | tree n t=>cases h
   | uf g=>cases h
   | fn uq wH t=>
     simp only [aI] at h;have:=TL h.1;subst this;have h:=h.2;split at h
     ·next fn hf=>
      split at h
      ·next c specs hc hs=>
       have hb:sO (Dz P f) []=c:=by simp only [sO,Dz,hf,hc,oM]
       have hsp:=Qw hI hs;rw [hb] at hsp;exact qN.KL hlow hm hn (hpl I hI) hf hc hsp h hd
      ·cases h
     ·cases h
 | fs f st sp pe l=>
   cases d with
   | fn a b t=>cases h
   | uf g=>cases h
   | tree n t=>
     simp only [aI] at h;have e:=bF h.1;have h:=h.2;split at h
     ·next fn hf=>
      split at h
      ·next c specs hc hs=>
       have hb:sO (Dz P f) []=c:=by simp only [sO,Dz,hf,hc,oM]
       have hsp:=Qw hI hs;rw [hb] at hsp;exact IY.KL hlow hm hn (hpl I hI) e hf hc hsp h hd
      ·cases h
     ·cases h
 | lp f way sp ps l=>
   cases d with
   | fn a b t=>cases h
   | uf g=>cases h
   | tree n t=>
     simp only [aI] at h;have e:=bF h.1.1;have e2:=bF h.1.2.1;have hok:=h.1.2.2;have h:=h.2;split at h
     ·next specs hs=>
      refine qP.amN hlow hm hn (hpl I hI) hok e (Qw hI hs) (λgs out hi=>?_) h hd;rw [e2] at hi;exact JH hr (hI _ _ _ hi)
     ·cases h
def S9 (P:Program) (tabs:List (Nat×List AV)) (pl:jX) (rows:List Row) (Ds:List aC) (k:Nat):Bool:=match rows[k]?,Ds[k]? with
 | some r,some d=>r.hand || Tc P tabs pl 100000 rows k d
 | _,_=>false
def gG (P:Program) (tabs:List (Nat×List AV)) (pl:jX) (rows:List Row) (Ds:List aC):Nat->Nat->Bool
 | _,0=>true
 | a,n+1=>S9 P tabs pl rows Ds a&&gG P tabs pl rows Ds (a+1) n
def Seg (P:Program) (tabs:List (Nat×List AV)) (pl:jX) (rows:List Row) (Ds:List aC) (a b:Nat):Prop:=∀k,a<=k->k < b->S9 P tabs pl rows Ds k=true
theorem Seg.of {pl:jX} {Ds:List aC}:∀ {n a:Nat},gG P tabs pl rows Ds a n=true->Seg P tabs pl rows Ds a (a+n)
 | 0,a,_,k,h1,h2=>by omega
 | n+1,a,h,k,h1,h2=>by
   simp only [gG,aI] at h;by_cases e:k=a
   ·subst e;exact h.1
   ·exact Seg.of h.2 k (by omega) (by omega)
theorem Seg.join {pl:jX} {Ds:List aC} {a b c:Nat} (h1:Seg P tabs pl rows Ds a b) (h2:Seg P tabs pl rows Ds b c):Seg P tabs pl rows Ds a c:=λk k1 k2=>by
 by_cases e:k < b
 ·exact h1 k k1 e
 ·exact h2 k (by omega) k2
def Fg (P:Program) (tabs:List (Nat×List AV)) (rows:List Row) (Ds:List aC):List Nat->Prop
 | []=>True
 | k::l=>(∃r d,rows[k]? = some r/\Ds[k]? = some d/\Fe (uO P tabs rows) d (r.ctr P tabs))/\Fg P tabs rows Ds l
theorem Fg.at {Ds:List aC}:∀ {l:List Nat},Fg P tabs rows Ds l->∀ {k:Nat},k∈l->∀ {r:Row} {d:aC},rows[k]? = some r->Ds[k]? = some d->Fe (uO P tabs rows) d (r.ctr P tabs)
 | a::l,h,k,hk,r,d,hr,hd=>by
   rcases dO.1 hk with rfl | hk
   ·obtain ⟨r',d',h1,h2,h3⟩:=h.1
    rw [hr] at h1;cases h1;rw [hd] at h2;cases h2;exact h3
   ·exact Fg.at h.2 hk hr hd
def D7:List Row->Nat->List Nat
 | [],_=>[]
 | r::l,k=>if r.hand=true then k::D7 l (k+1) else D7 l (k+1)
theorem aa5:∀ {l:List Row} {k i:Nat} {r:Row},l[i]? = some r->r.hand=true->k+i∈D7 l k
 | [],_,_,_,h,_=>by simp at h
 | a::l,k,0,r,h,hh=>by
   simp only [iP,aV] at h;subst h;unfold D7;rw [aj hh];simp
 | a::l,k,i+1,r,h,hh=>by
   have:=aa5 (l:=l) (k:=k+1) (i:=i) (by simpa using h) hh;rw [show k+1+i=k+(i+1) by omega] at this;unfold D7;split
   ·exact zu _ this
   ·exact this
theorem Y3 {C:Nat->List GV->List GV->Prop}:∀ {Ds:List aC} {rows:List Row},Ds.length=rows.length->(∀ (k:Nat) d r,Ds[k]? = some d->rows[k]? = some r->Fe C d (r.ctr P tabs))->E8 C Ds (rows.map (Row.ctr P tabs))
 | [],[],_,_=>trivial
 | d::Ds,r::rows,hl,h=>⟨h 0 d r (by simp) (by simp),Y3 (by simpa using hl) λk d' r' h1 h2=>h (k+1) d' r' (by simpa using h1) (by simpa using h2)⟩
 | [],_::_,hl,_=>by simp at hl
 | _::_,[],hl,_=>by simp at hl
theorem arN (hlow:qU tabs P.globals.size) (hm:P.follows .mixedOrders=true) (hn:su P) {pl:jX} (hpl:∀I:gQ,(∀k gs out,I k gs=some out->uO P tabs rows k gs out)->vM P tabs I pl) {Ds:List aC}
 (akO:Fg P tabs rows Ds (D7 rows 0)) (hlen:Ds.length=rows.length) (hseg:Seg P tabs pl rows Ds 0 Ds.length):∀k gs out,(vO Ds).lim k gs=some out->uO P tabs rows k gs out:=by
 refine alQ (Y3 hlen λk d r hd hr=>?_);have hk:=(dU.1 hd).1;cases hh:r.hand with
 | true=>
   refine akO.at ?_ hr hd;have:=aa5 (k:=0) hr hh;rwa [iV] at this
 | false=>
   have:=hseg k (uG _) hk;unfold S9 at this;rw [hr,hd] at this;simp only [hh,wO] at this;exact agf hlow hm hn hpl hr this
def Nw (P:Program) (rows:List Row) (k:Nat) (N:gy):fA:=match rows[k]? with
 | some (.fn _ st sh _ _)=>@P5 N P k st sh
 | some (.told _ st sh)=>@P5 N P k st sh
 | some (.fs _ st sp _ _)=>@VX N P st sp
 | _=>λ_ _=>none
def SQ (P:Program) (rows:List Row):List Nat->gy->fA
 | [],_=>λ_ _=>none
 | [k],N=>Nw P rows k N
 | k::l,N=>VQ (Nw P rows k N) (SQ P rows l N)
def NW (rows:List Row) (f:FuncId) (k:Nat):Bool:=match rows[k]? with
 | some (.fn f' _ _ _ _)=>Nat.beq f' f
 | some (.told f' _ _)=>Nat.beq f' f
 | some (.fs f' _ sp _ _)=>Nat.beq f' f&&Nat.beq sp.key k&&sp.pre.ok
 | _=>false
def aaw (rows:List Row) (es:List (FuncId×List Nat)):Bool:=es.all λe=>e.2.all (NW rows e.1)
def ac5 (P:Program) (rows:List Row) (es:List (FuncId×List Nat)) (raw:jX):jX:=λN=>es.map (λe=>(e.1,SQ P rows e.2 N))++raw N
theorem Zw (hlow:qU tabs P.globals.size) {T:aH} (hT:T.tabs=tabs) (hI:∀k gs out,T.I k gs=some out->uO P tabs rows k gs out) {f:FuncId} {k:Nat} (h:NW rows f k=true):@eH T P f (Nw P rows k T.togy):=by
 subst hT;unfold NW at h;unfold Nw;split at h
 ·next f' st sh pe l hr=>
  have:=bF h;subst this;exact acY λgs out h'=>JH hr (hI k gs out h')
 ·next f' st sh hr=>
  have:=bF h;subst this;exact acY λgs out h'=>JH hr (hI k gs out h')
 ·next f' st sp pe l hr=>
  simp only [aI] at h;have:=bF h.1.1;subst this;have e:=bF h.1.2;exact am1 hlow h.2 λgs out h'=>JH hr (hI k gs out (by rw [<- e];exact h'))
 ·cases h
theorem Zz (hlow:qU tabs P.globals.size) {T:aH} (hT:T.tabs=tabs) (hI:∀k gs out,T.I k gs=some out->uO P tabs rows k gs out) {f:FuncId}:∀ {l:List Nat},l.all (NW rows f)=true->@eH T P f (SQ P rows l T.togy)
 | [],_=>λ_ _ _ _ h=>by cases h
 | [k],h=>Zw hlow hT hI (by simpa using h)
 | k::k'::l,h=>by
   simp only [qy,aI] at h;exact amW (Zw hlow hT hI h.1) (Zz hlow hT hI (l:=k'::l) (by simpa using h.2))
theorem anB (hlow:qU tabs P.globals.size) {es:List (FuncId×List Nat)} {raw:jX} (hes:aaw rows es=true) {I:gQ} (hI:∀k gs out,I k gs=some out->uO P tabs rows k gs out) (hraw:vM P tabs I raw):vM P tabs I (ac5 P rows es raw):=by
 intro T hT hTI p hp;rcases oL.1 hp with hp | hp
 ·obtain ⟨e,he,rfl⟩:=l7.1 hp
  unfold aaw at hes;rw [List.all_eq_true] at hes;exact Zz hlow hT (by rw [hTI];exact hI) (hes e he)
 ·exact hraw T hT hTI p hp
end
end
end Go.aJ
namespace Go.aJ
set_option linter.unusedSimpArgs false
def aC.treeOf:aC->Tree
 | .tree _ t=>t
 | .fn _ _ t=>t
 | _=>.dead
def Tree.chkP (p:List Nd->List (Nat×Bool)->Leaf->Bool):Tree->List Bool->List Nd->List (Nat×Bool)->Bool
 | .step nd t,q,ns,ds=>t.chkP p q (ns++[nd]) ds
 | .ite n t e,[],ns,ds=>t.chk p ns ((n,true)::ds)&&e.chk p ns ((n,false)::ds)
 | .ite n t _,true::q,ns,ds=>t.chkP p q ns ((n,true)::ds)
 | .ite n _ e,false::q,ns,ds=>e.chkP p q ns ((n,false)::ds)
 | .ret l,_,ns,ds=>p ns ds (.ret l)
 | .tail f l,_,ns,ds=>p ns ds (.tail f l)
 | .dead,_,_,_=>true
theorem Tree.chkP_nil {p:List Nd->List (Nat×Bool)->Leaf->Bool}:∀ (t:Tree) (ns:List Nd) (ds:List (Nat×Bool)),t.chkP p [] ns ds=t.chk p ns ds
 | .step nd t,ns,ds=>by simp only [Tree.chkP,Tree.chk];exact Tree.chkP_nil t _ _
 | .ite n t e,ns,ds=>by simp only [Tree.chkP,Tree.chk]
 | .ret l,ns,ds=>by simp only [Tree.chkP,Tree.chk]
 | .tail f l,ns,ds=>by simp only [Tree.chkP,Tree.chk]
 | .dead,ns,ds=>by simp only [Tree.chkP,Tree.chk]
theorem Tree.chkP_cut {p:List Nd->List (Nat×Bool)->Leaf->Bool}:∀ (t:Tree) (q:List Bool) (ns:List Nd) (ds:List (Nat×Bool)),t.chkP p (q++[true]) ns ds=true->t.chkP p (q++[false]) ns ds=true->t.chkP p q ns ds=true
 | .step nd t,q,ns,ds,h1,h2=>by
   simp only [Tree.chkP] at h1 h2 ⊢;exact Tree.chkP_cut t q _ _ h1 h2
 | .ite n t e,[],ns,ds,h1,h2=>by
   simp only [dK,Tree.chkP] at h1 h2 ⊢;rw [Tree.chkP_nil] at h1 h2;rw [h1,h2];rfl
 | .ite n t e,true::q,ns,ds,h1,h2=>by
   simp only [gu,Tree.chkP] at h1 h2 ⊢;exact Tree.chkP_cut t q _ _ h1 h2
 | .ite n t e,false::q,ns,ds,h1,h2=>by
   simp only [gu,Tree.chkP] at h1 h2 ⊢;exact Tree.chkP_cut e q _ _ h1 h2
 | .ret l,q,ns,ds,h1,_=>by simp only [Tree.chkP] at h1 ⊢;exact h1
 | .tail f l,q,ns,ds,h1,_=>by simp only [Tree.chkP] at h1 ⊢;exact h1
 | .dead,q,ns,ds,_,_=>by simp only [Tree.chkP]
end Go.aJ
