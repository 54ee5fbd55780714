/- What a program of trees answers, run by the kernel: what stays open is owed; a call that was made is not made again. -/
import Derived.Test.YtilkjidelblkfaaGreatDoorAbsPl
namespace Go.Abs
noncomputable section
set_option linter.unusedVariables false
inductive Owe where
 | call (k:Nat) (gs out:List GV)
 | node (nd:Nd) (xs:List GV) (g:GV)
def Owe.ok (J:Itp):Owe->Prop
 | .call k gs out=>J k gs=some out
 | .node nd xs g=>nd.den (λ_ _=>none) (λn=>xs[n]?)=some g
abbrev RItp:=Nat->List GV->Option (List GV×List Owe)
def rget (len:Nat) (rev:List GV) (n:Nat):Option GV:=if Nat.ble (n+1) len=true then rev[len - 1 - n]? else none
theorem rget_eq {len:Nat} {rev:List GV} (h:rev.length=len) (n:Nat):rget len rev n=rev.reverse[n]?:=by
 unfold rget
 split
 ·next h1=>
  have h2:n < rev.length:=by have:=Nat.le_of_ble_eq_true h1;omega
  rw [List.getElem?_reverse h2,h]
 ·next h1=>
  rw [List.getElem?_eq_none]
  rw [List.length_reverse,h]
  rcases Nat.lt_or_ge n len with h2 | h2
  ·exact absurd (Nat.ble_eq_true_of_le h2) h1
  ·exact h2
def sameL:List Nat->List Nat->Bool
 | [],[]=>true
 | a::l,b::m=>Nat.beq a b&&sameL l m
 | _,_=>false
theorem sameL_eq:∀ {l m:List Nat},sameL l m=true->l=m
 | [],[],_=>rfl
 | [],_::_,h=>by cases h
 | _::_,[],h=>by cases h
 | a::l,b::m,h=>by
  simp only [sameL,Bool.and_eq_true] at h
  rw [Nat.eq_of_beq_eq_true h.1,sameL_eq h.2]
def asked:List (Nat×List Nat×List GV)->Nat->List Nat->Option (List GV)
 | [],_,_=>none
 | e::c,f,l=>if (Nat.beq e.1 f&&sameL e.2.1 l)=true then some e.2.2 else asked c f l
theorem asked_mem:∀ {c:List (Nat×List Nat×List GV)} {f:Nat} {l:List Nat} {out:List GV},asked c f l=some out->(f,l,out)∈c
 | [],_,_,_,h=>by cases h
 | e::c,f,l,out,h=>by
  simp only [asked] at h
  split at h
  ·next h1=>
   rw [Bool.and_eq_true] at h1
   cases h
   obtain ⟨a,b,o⟩:=e
   have ha:a=f:=Nat.eq_of_beq_eq_true h1.1
   have hb:b=l:=sameL_eq h1.2
   subst ha hb
   exact List.mem_cons_self
  ·exact List.mem_cons_of_mem _ (asked_mem h)
def toldAt:List (Nat×GV)->Nat->Option GV
 | [],_=>none
 | e::c,n=>if Nat.beq e.1 n=true then some e.2 else toldAt c n
def Nd.owe (val:Nat->Option GV) (g:GV):Nd->Option Owe
 | .bin op a b=>match val a,val b with
  | some x,some y=>some (.node (.bin op 0 1) [x,y] g)
  | _,_=>none
 | .sidx a b=>match val a,val b with
  | some x,some y=>some (.node (.sidx 0 1) [x,y] g)
  | _,_=>none
 | .mm big a b=>match val a,val b with
  | some x,some y=>some (.node (.mm big 0 1) [x,y] g)
  | _,_=>none
 | .un op a=>match val a with
  | some x=>some (.node (.un op 0) [x] g)
  | _=>none
 | .conv k a=>match val a with
  | some x=>some (.node (.conv k 0) [x] g)
  | _=>none
 | .str a=>match val a with
  | some x=>some (.node (.str 0) [x] g)
  | _=>none
 | _=>none
def Nd.isCall:Nd->Option (Nat×List Nat×Nat)
 | .call f l j=>some (f,l,j)
 | _=>none
def Tree.runL (I:RItp):Tree->Nat->List GV->List (Nat×List Nat×List GV)->List (Nat×GV)->Option (List GV×List Owe)
 | .step nd t,len,rev,c,ts=>match nd.isCall with
  | some (f,l,j)=>match asked c f l with
   | some out=>match out[j]? with
    | some g=>t.runL I (len+1) (g::rev) c ts
    | none=>none
   | none=>match valsOf (rget len rev) l with
    | some gs=>match I f gs with
     | some (out,l1)=>match out[j]? with
      | some g=>match t.runL I (len+1) (g::rev) ((f,l,out)::c) ts with
       | some (o,l2)=>some (o,l1++l2)
       | none=>none
      | none=>none
     | none=>none
    | none=>none
  | none=>match toldAt ts len with
   | some g=>match nd.owe (rget len rev) g with
    | some w=>match t.runL I (len+1) (g::rev) c ts with
     | some (o,l2)=>some (o,w::l2)
     | none=>none
    | none=>none
   | none=>match nd.den (λ_ _=>none) (rget len rev) with
    | some g=>t.runL I (len+1) (g::rev) c ts
    | none=>none
 | .ite n t e,len,rev,c,ts=>match rget len rev n with
  | some (.b true)=>t.runL I len rev c ts
  | some (.b false)=>e.runL I len rev c ts
  | _=>none
 | .ret l,len,rev,_,_=>match valsOf (rget len rev) l with
  | some o=>some (o,[])
  | none=>none
 | .tail f l,len,rev,_,_=>match valsOf (rget len rev) l with
  | some gs=>I f gs
  | none=>none
 | .dead,_,_,_,_=>none
theorem Nd.den_none {J:Itp} {val:Nat->Option GV} {nd:Nd} {g:GV} (h:nd.isCall=none) (hd:nd.den (λ_ _=>none) val=some g):nd.den J val=some g:=by
 cases nd with
 | call f l j=>cases h
 | _=>exact hd
theorem Nd.owe_den {J:Itp} {val:Nat->Option GV} {nd:Nd} {w:Owe} {g:GV} (h:nd.owe val g=some w) (hg:w.ok J):nd.den J val=some g:=by
 cases nd
 case bin o a b=>
  simp only [Nd.owe] at h
  split at h
  ·next h1 h2=>cases h;simpa [Owe.ok,Nd.den,h1,h2] using hg
  ·cases h
 case sidx a b=>
  simp only [Nd.owe] at h
  split at h
  ·next h1 h2=>cases h;simpa [Owe.ok,Nd.den,h1,h2] using hg
  ·cases h
 case mm big a b=>
  simp only [Nd.owe] at h
  split at h
  ·next h1 h2=>cases h;simpa [Owe.ok,Nd.den,h1,h2] using hg
  ·cases h
 case un op a=>
  simp only [Nd.owe] at h
  split at h
  ·next h1=>cases h;simpa [Owe.ok,Nd.den,h1] using hg
  ·cases h
 case conv k a=>
  simp only [Nd.owe] at h
  split at h
  ·next h1=>cases h;simpa [Owe.ok,Nd.den,h1] using hg
  ·cases h
 case str a=>
  simp only [Nd.owe] at h
  split at h
  ·next h1=>cases h;simpa [Owe.ok,Nd.den,h1] using hg
  ·cases h
 all_goals cases h
theorem Tree.runL_ok {J:Itp} {I:RItp} (hI:∀k gs out lg,I k gs=some (out,lg)->(∀o∈lg,o.ok J)->J k gs=some out) :
 ∀ (t:Tree) (len:Nat) (rev:List GV) (c:List (Nat×List Nat×List GV)) (ts:List (Nat×GV)) (out:List GV) (lg:List Owe),rev.length=len->
  (∀e∈c,∃gs,valsOf (λn=>rev.reverse[n]?) e.2.1=some gs/\J e.1 gs=some e.2.2)->t.runL I len rev c ts=some (out,lg)->(∀o∈lg,o.ok J)->t.den J rev.reverse=some out
 | .step nd t,len,rev,c,ts,out,lg,hlen,hc,h,hlg=>by
  have hrg:rget len rev=λn=>rev.reverse[n]?:=funext λn=>rget_eq hlen n
  have hmono:∀g,∀e∈c,∃gs,valsOf (λn=>(g::rev).reverse[n]?) e.2.1=some gs/\J e.1 gs=some e.2.2:=λg e he=>by
   obtain ⟨gs,h1,h2⟩:=hc e he
   refine ⟨gs,valsOf_mono (λn x hx=>?_) h1,h2⟩
   rw [List.reverse_cons]
   exact get_snoc hx
  have next:∀g,nd.den J (λn=>rev.reverse[n]?)=some g->t.den J (g::rev).reverse=some out->(Tree.step nd t).den J rev.reverse=some out:=λg h1 h2=>by
   simp only [Tree.den,h1]
   rw [<- List.reverse_cons];exact h2
  simp only [Tree.runL] at h
  split at h
  ·next f l j hcall=>
   have hnd:nd=.call f l j:=by cases nd<;>first | cases hcall;rfl | cases hcall
   subst hnd
   split at h
   ·next o ho=>
    split at h
    rotate_left
    ·cases h
    next g hg=>
    obtain ⟨gs,h1,h2⟩:=hc _ (asked_mem ho)
    refine next g ?_ (Tree.runL_ok hI t _ _ _ _ _ _ (by rw [List.length_cons,hlen]) (hmono g) h hlg)
    simp only [Nd.den,h1,h2]
    exact hg
   ·split at h
    rotate_left
    ·cases h
    next gs hgs=>
    split at h
    rotate_left
    ·cases h
    next o l1 ho=>
    split at h
    rotate_left
    ·cases h
    next g hg=>
    split at h
    rotate_left
    ·cases h
    next o2 l2 ht=>
    cases h
    rw [hrg] at hgs
    have hJ:=hI _ _ _ _ ho (λx hx=>hlg x (List.mem_append_left _ hx))
    refine next g ?_ (Tree.runL_ok hI t _ _ _ _ _ _ (by rw [List.length_cons,hlen]) (λe he=>?_) ht (λx hx=>hlg x (List.mem_append_right _ hx)))
    ·simp only [Nd.den,hgs,hJ]
     exact hg
    ·rcases List.mem_cons.1 he with rfl | he
     ·refine ⟨gs,valsOf_mono (λn x hx=>?_) hgs,hJ⟩
      rw [List.reverse_cons]
      exact get_snoc hx
     ·exact hmono g e he
  ·next hcall=>
   split at h
   ·next g hg=>
    split at h
    rotate_left
    ·cases h
    next w hb=>
    split at h
    rotate_left
    ·cases h
    next o2 l2 ht=>
    cases h
    rw [hrg] at hb
    exact next g (Nd.owe_den hb (hlg _ List.mem_cons_self)) (Tree.runL_ok hI t _ _ _ _ _ _ (by rw [List.length_cons,hlen]) (hmono g) ht (λx hx=>hlg x (List.mem_cons_of_mem _ hx)))
   ·split at h
    rotate_left
    ·cases h
    next g hg=>
    rw [hrg] at hg
    exact next g (Nd.den_none hcall hg) (Tree.runL_ok hI t _ _ _ _ _ _ (by rw [List.length_cons,hlen]) (hmono g) h hlg)
 | .ite n t e,len,rev,c,ts,out,lg,hlen,hc,h,hlg=>by
  simp only [Tree.runL,rget_eq hlen] at h
  simp only [Tree.den]
  split at h
  ·next hn=>rw [hn];exact Tree.runL_ok hI t _ _ _ _ _ _ hlen hc h hlg
  ·next hn=>rw [hn];exact Tree.runL_ok hI e _ _ _ _ _ _ hlen hc h hlg
  ·cases h
 | .ret l,len,rev,c,ts,out,lg,hlen,hc,h,hlg=>by
  have hrg:rget len rev=λn=>rev.reverse[n]?:=funext λn=>rget_eq hlen n
  simp only [Tree.runL,hrg] at h
  simp only [Tree.den]
  split at h
  ·next o ho=>cases h;exact ho
  ·cases h
 | .tail f l,len,rev,c,ts,out,lg,hlen,hc,h,hlg=>by
  have hrg:rget len rev=λn=>rev.reverse[n]?:=funext λn=>rget_eq hlen n
  simp only [Tree.runL,hrg] at h
  simp only [Tree.den]
  split at h
  ·next gs hgs=>rw [hgs];exact hI _ _ _ _ h hlg
  ·cases h
 | .dead,_,_,_,_,_,_,_,_,h,_=>by simp [Tree.runL] at h
def PDef.runL (I:RItp) (ts:List (Nat×GV)):PDef->List GV->Option (List GV×List Owe)
 | .tree n t,gs=>if Nat.beq gs.length n=true then t.runL I n gs.reverse [] ts else none
 | .fn shIn shOut t,gs=>if shFits shIn gs=true then match t.runL I gs.length gs.reverse [] ts with
  | some (out,lg)=>if shFits shOut out=true then some (out,lg) else none
  | none=>none
  else none
 | .prim f,gs=>match f gs with
  | some out=>some (out,[])
  | none=>none
theorem PDef.runL_ok {J:Itp} {I:RItp} (hI:∀k gs out lg,I k gs=some (out,lg)->(∀o∈lg,o.ok J)->J k gs=some out) {ts:List (Nat×GV)} (d:PDef) {gs out:List GV} {lg:List Owe} (h:d.runL I ts gs=some (out,lg)) (hlg:∀o∈lg,o.ok J):d.den J gs=some out:=by
 cases d with
 | tree n t=>
  simp only [PDef.runL] at h
  split at h
  ·next hn=>
   have hn':=Nat.eq_of_beq_eq_true hn
   simp only [PDef.den,if_pos hn']
   have:=Tree.runL_ok hI t n gs.reverse [] ts out lg (by rw [List.length_reverse,hn']) (λe he=>by cases he) h hlg
   rwa [List.reverse_reverse] at this
  ·cases h
 | fn sh so t=>
  simp only [PDef.runL] at h
  split at h
  ·next hf=>
   split at h
   ·next o l2 ho=>
    split at h
    ·next hs=>
     cases h
     have:=Tree.runL_ok hI t gs.length gs.reverse [] ts out lg (by rw [List.length_reverse]) (λe he=>by cases he) ho hlg
     rw [List.reverse_reverse] at this
     simp only [PDef.den,if_pos hf,this,if_pos hs]
    ·cases h
   ·cases h
  ·cases h
 | prim f=>
  simp only [PDef.runL] at h
  split at h
  ·next o ho=>cases h;exact ho
  ·cases h
def PProg.runL (TT:PProg) (ov:Nat->List GV->Option (List GV)) (ts:Nat->List (Nat×GV)):Nat->RItp
 | 0,_,_=>none
 | n+1,k,gs=>match ov k gs with
  | some out=>some (out,[.call k gs out])
  | none=>match TT k with
   | some d=>d.runL (PProg.runL TT ov ts n) (ts k) gs
   | none=>none
theorem PProg.runL_ok {TT:PProg} {ov:Nat->List GV->Option (List GV)} {ts:Nat->List (Nat×GV)}:∀ (n k:Nat) (gs out:List GV) (lg:List Owe),TT.runL ov ts n k gs=some (out,lg)->(∀o∈lg,o.ok TT.lim)->TT.lim k gs=some out
 | 0,_,_,_,_,h,_=>by simp [PProg.runL] at h
 | n+1,k,gs,out,lg,h,hlg=>by
  simp only [PProg.runL] at h
  split at h
  ·next o ho=>cases h;exact hlg _ List.mem_cons_self
  ·split at h
   ·next d hd=>exact PProg.lim_eq hd (PDef.runL_ok (λk gs out lg h1 h2=>PProg.runL_ok n k gs out lg h1 h2) d h hlg)
   ·cases h
def OweAll (J:Itp):List Owe->Prop
 | []=>True
 | o::l=>o.ok J/\OweAll J l
theorem OweAll.mem {J:Itp}:∀ {l:List Owe},OweAll J l->∀o∈l,o.ok J
 | _::_,h,o,ho=>by
  rcases List.mem_cons.1 ho with rfl | ho
  ·exact h.1
  ·exact h.2.mem o ho
theorem PProg.runs {TT:PProg} {ov:Nat->List GV->Option (List GV)} {ts:Nat->List (Nat×GV)} {n k:Nat} {gs out:List GV} {lg:List Owe} (h:TT.runL ov ts n k gs=some (out,lg)) (hl:OweAll TT.lim lg):TT.lim k gs=some out:=PProg.runL_ok n k gs out lg h hl.mem
def PProg.bodyL (TT:PProg) (X:List GV) (ts:List (Nat×GV)) (k:Nat) (gs:List GV):Option (List GV×List Owe):=match TT k with
 | some d=>d.runL (λk gs=>some (X,[.call k gs X])) ts gs
 | none=>none
theorem PProg.body {TT:PProg} {X:List GV} {ts:List (Nat×GV)} {k:Nat} {gs out:List GV} {lg:List Owe} (h:TT.bodyL X ts k gs=some (out,lg)) (hl:OweAll TT.lim lg):TT.lim k gs=some out:=by
 unfold PProg.bodyL at h
 split at h
 ·next d hd=>
  refine PProg.lim_eq hd (PDef.runL_ok (λk gs out lg h1 h2=>?_) d h hl.mem)
  cases h1
  exact h2 _ List.mem_cons_self
 ·cases h
end
end Go.Abs
