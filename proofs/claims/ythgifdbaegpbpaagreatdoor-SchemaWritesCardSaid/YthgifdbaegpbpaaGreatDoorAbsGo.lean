/- Trees, gone through quicker: a call's results, told one behind the other, want the call but once. -/
import Derived.Test.YthgifdbaegpbpaaGreatDoorAbsPl
namespace Go.aP
set_option linter.unusedSimpArgs false
def goC (I:fH) (f:Nat) (l:List Nat) (r:Option (List GV)):Tree→Nat→(Nat→Option GV)→Option (List GV)
 | .step nd t,k,val=>match nd with
  | .call f' l' j=>if f'=f∧l'=l then (match r.bind fun r=>r[j]? with
    | some g=>goC I f l r t (k+1) (upd val k g)
    | none=>none) else (Tree.step (.call f' l' j) t).go I k val
  | nd=>(Tree.step nd t).go I k val
 | t,k,val=>t.go I k val
theorem aeU {val:Nat→Option GV} {k:Nat} {g:GV}:∀ {l:List Nat},(l.all fun i=>Nat.blt i k)=true→valsOf (upd val k g) l=valsOf val l
 | [],_=>rfl
 | n::l,h=>by
  simp only [List.all_cons,Bool.and_eq_true,Nat.blt_eq] at h
  rw [aeT,aeT,aeU h.2,upd_ne (by omega)]
theorem aa7 {I:fH} {f:Nat} {l:List Nat} {r:Option (List GV)}:∀ (t:Tree) (k:Nat) (val:Nat→Option GV),(l.all fun i=>Nat.blt i k)=true→(valsOf val l).bind (I f)=r→t.go I k val=goC I f l r t k val
 | .step nd t,k,val,hl,hr=>by
  cases nd with
  | call f' l' j=>
   simp only [goC]
   split
   ·next h=>
    obtain ⟨rfl,rfl⟩:=h
    rw [aql,akN]
    have e:((valsOf val l').bind fun gs=>(I f' gs).bind fun r=>r[j]?)=r.bind fun r=>r[j]?:=by
     rw [← hr]
     cases valsOf val l'<;>rfl
    rw [e]
    cases r.bind fun r=>r[j]? with
    | none=>rfl
    | some g=>
     simp only [aft]
     refine aa7 t (k+1) (upd val k g) ?_ ?_
     ·rw [List.all_eq_true] at hl ⊢
      intro i hi
      have:=hl i hi
      rw [Nat.blt_eq] at this ⊢
      omega
     ·rw [aeU hl];exact hr
   ·rfl
  | _=>rfl
 | .ite n t e,k,val,_,_=>rfl
 | .ret l',k,val,_,_=>rfl
 | .tail f' l',k,val,_,_=>rfl
 | .dead,k,val,_,_=>rfl
def Vh (o:Option GV) (I:fH) (f:Nat) (l:List Nat) (r:Option (List GV)) (t:Tree) (k:Nat) (val:Nat→Option GV):Option (List GV):=match o with
 | some g=>goC I f l r t (k+1) (upd val k g)
 | none=>none
section
variable {I:fH} {f:Nat} {l:List Nat} {r:Option (List GV)} {k:Nat} {val:Nat→Option GV} {t:Tree}
theorem aa6 {j:Nat} (h:(l.all fun i=>decide (i < k))=true):(Tree.step (.call f l j) t).go I k val=goC I f l ((valsOf val l).bind (I f)) (.step (.call f l j) t) k val:=aa7 _ _ _ (by
 rw [List.all_eq_true] at h ⊢
 intro i hi
 have:=h i hi
 rw [decide_eq_true_iff] at this
 rw [Nat.blt_eq];exact this) rfl
@[simp high] theorem asW {r:List GV} {j:Nat}:goC I f l (some r) (.step (.call f l j) t) k val=Vh (r[j]?) I f l (some r) t k val:=by
 simp only [goC,and_self,if_true,Option.bind_some]
 cases r[j]?<;>rfl
@[simp] theorem asy {g:GV}:Vh (some g) I f l r t k val=goC I f l r t (k+1) (upd val k g):=rfl
@[simp] theorem atf {f' j:Nat} {l':List Nat} (h:¬ (f'=f∧l'=l)):goC I f l r (.step (.call f' l' j) t) k val=(Tree.step (.call f' l' j) t).go I k val:=by
 simp only [goC,if_neg h]
@[simp] theorem as6 {n:Nat} {e:Tree}:goC I f l r (.ite n t e) k val=(Tree.ite n t e).go I k val:=rfl
@[simp] theorem ath {l':List Nat}:goC I f l r (.ret l') k val=(Tree.ret l').go I k val:=rfl
@[simp] theorem atp {f':Nat} {l':List Nat}:goC I f l r (.tail f' l') k val=(Tree.tail f' l').go I k val:=rfl
@[simp] theorem as3:goC I f l r .dead k val=Tree.dead.go I k val:=rfl
@[simp] theorem asZ {y0 y1}:goC I f l r (.step (.ci y0 y1) t) k val=(Tree.step (.ci y0 y1) t).go I k val:=rfl
@[simp] theorem asX {y0}:goC I f l r (.step (.cb y0) t) k val=(Tree.step (.cb y0) t).go I k val:=rfl
@[simp] theorem as2 {y0}:goC I f l r (.step (.cs y0) t) k val=(Tree.step (.cs y0) t).go I k val:=rfl
@[simp] theorem asR {y0 y1 y2}:goC I f l r (.step (.bin y0 y1 y2) t) k val=(Tree.step (.bin y0 y1 y2) t).go I k val:=rfl
@[simp] theorem asT {y0 y1 y2}:goC I f l r (.step (.vM y0 y1 y2) t) k val=(Tree.step (.vM y0 y1 y2) t).go I k val:=rfl
@[simp] theorem asU {y0 y1 y2 y3}:goC I f l r (.step (.vN y0 y1 y2 y3) t) k val=(Tree.step (.vN y0 y1 y2 y3) t).go I k val:=rfl
@[simp] theorem atq {y0 y1}:goC I f l r (.step (.un y0 y1) t) k val=(Tree.step (.un y0 y1) t).go I k val:=rfl
@[simp] theorem atd {y0 y1 y2}:goC I f l r (.step (.mm y0 y1 y2) t) k val=(Tree.step (.mm y0 y1 y2) t).go I k val:=rfl
@[simp] theorem as1 {y0 y1}:goC I f l r (.step (.conv y0 y1) t) k val=(Tree.step (.conv y0 y1) t).go I k val:=rfl
@[simp] theorem as7 {y0}:goC I f l r (.step (.len y0) t) k val=(Tree.step (.len y0) t).go I k val:=rfl
@[simp] theorem atm {y0}:goC I f l r (.step (.slen y0) t) k val=(Tree.step (.slen y0) t).go I k val:=rfl
@[simp] theorem as5 {y0 y1}:goC I f l r (.step (.uP y0 y1) t) k val=(Tree.step (.uP y0 y1) t).go I k val:=rfl
@[simp] theorem atl {y0 y1}:goC I f l r (.step (.nT y0 y1) t) k val=(Tree.step (.nT y0 y1) t).go I k val:=rfl
@[simp] theorem atn {y0 y1 y2}:goC I f l r (.step (.vg y0 y1 y2) t) k val=(Tree.step (.vg y0 y1 y2) t).go I k val:=rfl
@[simp] theorem as8 {y0 y1 y2 y3}:goC I f l r (.step (.mQ y0 y1 y2 y3) t) k val=(Tree.step (.mQ y0 y1 y2 y3) t).go I k val:=rfl
@[simp] theorem as4 {y0 y1}:goC I f l r (.step (.idx y0 y1) t) k val=(Tree.step (.idx y0 y1) t).go I k val:=rfl
@[simp] theorem asQ {y0 y1 y2}:goC I f l r (.step (.at y0 y1 y2) t) k val=(Tree.step (.at y0 y1 y2) t).go I k val:=rfl
@[simp] theorem asY {y0 y1}:goC I f l r (.step (.cell y0 y1) t) k val=(Tree.step (.cell y0 y1) t).go I k val:=rfl
@[simp] theorem atb {y0}:goC I f l r (.step (.mk y0) t) k val=(Tree.step (.mk y0) t).go I k val:=rfl
@[simp] theorem atc {y0}:goC I f l r (.step (.ml y0) t) k val=(Tree.step (.ml y0) t).go I k val:=rfl
@[simp] theorem asP {y0 y1 y2 y3}:goC I f l r (.step (.app y0 y1 y2 y3) t) k val=(Tree.step (.app y0 y1 y2 y3) t).go I k val:=rfl
@[simp] theorem atr {y0 y1 y2 y3 y4}:goC I f l r (.step (.upd y0 y1 y2 y3 y4) t) k val=(Tree.step (.upd y0 y1 y2 y3 y4) t).go I k val:=rfl
@[simp] theorem atg {y0 y1 y2 y3 y4}:goC I f l r (.step (.rep y0 y1 y2 y3 y4) t) k val=(Tree.step (.rep y0 y1 y2 y3 y4) t).go I k val:=rfl
@[simp] theorem asV {y0}:goC I f l r (.step (.bytes y0) t) k val=(Tree.step (.bytes y0) t).go I k val:=rfl
@[simp] theorem ato {y0}:goC I f l r (.step (.str y0) t) k val=(Tree.step (.str y0) t).go I k val:=rfl
@[simp] theorem ati {y0 y1}:goC I f l r (.step (.same y0 y1) t) k val=(Tree.step (.same y0 y1) t).go I k val:=rfl
@[simp] theorem atj {y0}:goC I f l r (.step (.Bc y0) t) k val=(Tree.step (.Bc y0) t).go I k val:=rfl
@[simp] theorem as9 {y0 y1 y2}:goC I f l r (.step (.yG y0 y1 y2) t) k val=(Tree.step (.yG y0 y1 y2) t).go I k val:=rfl
@[simp] theorem ata {y0 y1}:goC I f l r (.step (.Ap y0 y1) t) k val=(Tree.step (.Ap y0 y1) t).go I k val:=rfl
@[simp] theorem ate {y0 y1 y2}:goC I f l r (.step (.uS y0 y1 y2) t) k val=(Tree.step (.uS y0 y1 y2) t).go I k val:=rfl
end
end Go.aP
