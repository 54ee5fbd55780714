/- Trees, gone through quicker: a call's results, told one behind the other, want the call but once. -/
import Derived.Test.YtpkihgnabejkkaaGreatDoorAbsPl
namespace Go.aJ
set_option linter.unusedSimpArgs false
def goC (I:fD) (f:Nat) (l:List Nat) (r:Option (List GV)):Tree→Nat→(Nat→Option GV)→Option (List GV)
 | .step nd t,k,val=>match nd with
  | .call f' l' j=>if f'=f∧l'=l then (match r.bind fun r=>r[j]? with
    | some g=>goC I f l r t (k+1) (upd val k g)
    | none=>none) else (Tree.step (.call f' l' j) t).go I k val
  | nd=>(Tree.step nd t).go I k val
 | t,k,val=>t.go I k val
theorem acj {val:Nat→Option GV} {k:Nat} {g:GV}:∀ {l:List Nat},(l.all fun i=>Nat.blt i k)=true→valsOf (upd val k g) l=valsOf val l
 | [],_=>rfl
 | n::l,h=>by
  simp only [List.all_cons,Bool.and_eq_true,Nat.blt_eq] at h
  rw [aci,aci,acj h.2,upd_ne (by omega)]
theorem YV {I:fD} {f:Nat} {l:List Nat} {r:Option (List GV)}:∀ (t:Tree) (k:Nat) (val:Nat→Option GV),(l.all fun i=>Nat.blt i k)=true→(valsOf val l).bind (I f)=r→t.go I k val=goC I f l r t k val
 | .step nd t,k,val,hl,hr=>by
  cases nd with
  | call f' l' j=>
   simp only [goC]
   split
   ·next h=>
    obtain ⟨rfl,rfl⟩:=h
    rw [al9,ahR]
    have e:((valsOf val l').bind fun gs=>(I f' gs).bind fun r=>r[j]?)=r.bind fun r=>r[j]?:=by
     rw [← hr]
     cases valsOf val l'<;>rfl
    rw [e]
    cases r.bind fun r=>r[j]? with
    | none=>rfl
    | some g=>
     simp only [acS]
     refine YV t (k+1) (upd val k g) ?_ ?_
     ·rw [List.all_eq_true] at hl ⊢
      intro i hi
      have:=hl i hi
      rw [Nat.blt_eq] at this ⊢
      omega
     ·rw [acj hl];exact hr
   ·rfl
  | _=>rfl
 | .ite n t e,k,val,_,_=>rfl
 | .ret l',k,val,_,_=>rfl
 | .tail f' l',k,val,_,_=>rfl
 | .dead,k,val,_,_=>rfl
def Ri (o:Option GV) (I:fD) (f:Nat) (l:List Nat) (r:Option (List GV)) (t:Tree) (k:Nat) (val:Nat→Option GV):Option (List GV):=match o with
 | some g=>goC I f l r t (k+1) (upd val k g)
 | none=>none
section
variable {I:fD} {f:Nat} {l:List Nat} {r:Option (List GV)} {k:Nat} {val:Nat→Option GV} {t:Tree}
theorem afr {j:Nat} (h:(l.all fun i=>decide (i < k))=true):(Tree.step (.call f l j) t).go I k val=goC I f l ((valsOf val l).bind (I f)) (.step (.call f l j) t) k val:=YV _ _ _ (by
 rw [List.all_eq_true] at h ⊢
 intro i hi
 have:=h i hi
 rw [decide_eq_true_iff] at this
 rw [Nat.blt_eq];exact this) rfl
@[simp high] theorem aoe {r:List GV} {j:Nat}:goC I f l (some r) (.step (.call f l j) t) k val=Ri (r[j]?) I f l (some r) t k val:=by
 simp only [goC,and_self,if_true,Option.bind_some]
 cases r[j]?<;>rfl
@[simp] theorem anR {g:GV}:Ri (some g) I f l r t k val=goC I f l r t (k+1) (upd val k g):=rfl
@[simp] theorem aov {f' j:Nat} {l':List Nat} (h:¬ (f'=f∧l'=l)):goC I f l r (.step (.call f' l' j) t) k val=(Tree.step (.call f' l' j) t).go I k val:=by
 simp only [goC,if_neg h]
@[simp] theorem aom {n:Nat} {e:Tree}:goC I f l r (.ite n t e) k val=(Tree.ite n t e).go I k val:=rfl
@[simp] theorem aox {l':List Nat}:goC I f l r (.ret l') k val=(Tree.ret l').go I k val:=rfl
@[simp] theorem aoE {f':Nat} {l':List Nat}:goC I f l r (.tail f' l') k val=(Tree.tail f' l').go I k val:=rfl
@[simp] theorem aok:goC I f l r .dead k val=Tree.dead.go I k val:=rfl
@[simp] theorem aoh {y0 y1}:goC I f l r (.step (.ci y0 y1) t) k val=(Tree.step (.ci y0 y1) t).go I k val:=rfl
@[simp] theorem aof {y0}:goC I f l r (.step (.cb y0) t) k val=(Tree.step (.cb y0) t).go I k val:=rfl
@[simp] theorem aoj {y0}:goC I f l r (.step (.cs y0) t) k val=(Tree.step (.cs y0) t).go I k val:=rfl
@[simp] theorem aoa {y0 y1 y2}:goC I f l r (.step (.bin y0 y1 y2) t) k val=(Tree.step (.bin y0 y1 y2) t).go I k val:=rfl
@[simp] theorem aob {y0 y1 y2}:goC I f l r (.step (.uw y0 y1 y2) t) k val=(Tree.step (.uw y0 y1 y2) t).go I k val:=rfl
@[simp] theorem aoc {y0 y1 y2 y3}:goC I f l r (.step (.ql y0 y1 y2 y3) t) k val=(Tree.step (.ql y0 y1 y2 y3) t).go I k val:=rfl
@[simp] theorem aoF {y0 y1}:goC I f l r (.step (.un y0 y1) t) k val=(Tree.step (.un y0 y1) t).go I k val:=rfl
@[simp] theorem aot {y0 y1 y2}:goC I f l r (.step (.mm y0 y1 y2) t) k val=(Tree.step (.mm y0 y1 y2) t).go I k val:=rfl
@[simp] theorem aoi {y0 y1}:goC I f l r (.step (.conv y0 y1) t) k val=(Tree.step (.conv y0 y1) t).go I k val:=rfl
@[simp] theorem aon {y0}:goC I f l r (.step (.len y0) t) k val=(Tree.step (.len y0) t).go I k val:=rfl
@[simp] theorem aoB {y0}:goC I f l r (.step (.slen y0) t) k val=(Tree.step (.slen y0) t).go I k val:=rfl
@[simp] theorem aoA {y0 y1}:goC I f l r (.step (.kN y0 y1) t) k val=(Tree.step (.kN y0 y1) t).go I k val:=rfl
@[simp] theorem aoC {y0 y1 y2}:goC I f l r (.step (.iC y0 y1 y2) t) k val=(Tree.step (.iC y0 y1 y2) t).go I k val:=rfl
@[simp] theorem aoo {y0 y1 y2 y3}:goC I f l r (.step (.qZ y0 y1 y2 y3) t) k val=(Tree.step (.qZ y0 y1 y2 y3) t).go I k val:=rfl
@[simp] theorem aol {y0 y1}:goC I f l r (.step (.idx y0 y1) t) k val=(Tree.step (.idx y0 y1) t).go I k val:=rfl
@[simp] theorem an9 {y0 y1 y2}:goC I f l r (.step (.at y0 y1 y2) t) k val=(Tree.step (.at y0 y1 y2) t).go I k val:=rfl
@[simp] theorem aog {y0 y1}:goC I f l r (.step (.cell y0 y1) t) k val=(Tree.step (.cell y0 y1) t).go I k val:=rfl
@[simp] theorem aor {y0}:goC I f l r (.step (.mk y0) t) k val=(Tree.step (.mk y0) t).go I k val:=rfl
@[simp] theorem aos {y0}:goC I f l r (.step (.ml y0) t) k val=(Tree.step (.ml y0) t).go I k val:=rfl
@[simp] theorem an8 {y0 y1 y2 y3}:goC I f l r (.step (.app y0 y1 y2 y3) t) k val=(Tree.step (.app y0 y1 y2 y3) t).go I k val:=rfl
@[simp] theorem aoG {y0 y1 y2 y3 y4}:goC I f l r (.step (.upd y0 y1 y2 y3 y4) t) k val=(Tree.step (.upd y0 y1 y2 y3 y4) t).go I k val:=rfl
@[simp] theorem aow {y0 y1 y2 y3 y4}:goC I f l r (.step (.rep y0 y1 y2 y3 y4) t) k val=(Tree.step (.rep y0 y1 y2 y3 y4) t).go I k val:=rfl
@[simp] theorem aod {y0}:goC I f l r (.step (.bytes y0) t) k val=(Tree.step (.bytes y0) t).go I k val:=rfl
@[simp] theorem aoD {y0}:goC I f l r (.step (.str y0) t) k val=(Tree.step (.str y0) t).go I k val:=rfl
@[simp] theorem aoy {y0 y1}:goC I f l r (.step (.same y0 y1) t) k val=(Tree.step (.same y0 y1) t).go I k val:=rfl
@[simp] theorem aoz {y0}:goC I f l r (.step (.zF y0) t) k val=(Tree.step (.zF y0) t).go I k val:=rfl
@[simp] theorem aop {y0 y1 y2}:goC I f l r (.step (.yX y0 y1 y2) t) k val=(Tree.step (.yX y0 y1 y2) t).go I k val:=rfl
@[simp] theorem aoq {y0 y1}:goC I f l r (.step (.yY y0 y1) t) k val=(Tree.step (.yY y0 y1) t).go I k val:=rfl
@[simp] theorem aou {y0 y1 y2}:goC I f l r (.step (.uT y0 y1 y2) t) k val=(Tree.step (.uT y0 y1 y2) t).go I k val:=rfl
end
end Go.aJ
