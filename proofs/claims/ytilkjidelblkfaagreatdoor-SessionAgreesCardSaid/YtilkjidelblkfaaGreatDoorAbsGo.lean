/- Trees, gone through quicker: a call's results, told one behind the other, want the call but once. -/
import Derived.Test.YtilkjidelblkfaaGreatDoorAbsPl
namespace Go.aJ
set_option linter.unusedSimpArgs false
def goC (I:gK) (f:Nat) (l:List Nat) (r:Option (List GV)):Tree->Nat->(Nat->Option GV)->Option (List GV)
 | .step nd t,k,val=>match nd with
   | .call f' l' j=>if f'=f/\l'=l then (match r.bind λr=>r[j]? with
      | some g=>goC I f l r t (k+1) (upd val k g)
      | none=>none) else (Tree.step (.call f' l' j) t).go I k val
   | nd=>(Tree.step nd t).go I k val
 | t,k,val=>t.go I k val
theorem af7 {val:Nat->Option GV} {k:Nat} {g:GV}:∀ {l:List Nat},(l.all λi=>Nat.blt i k)=true->valsOf (upd val k g) l=valsOf val l
 | [],_=>rfl
 | n::l,h=>by
   simp only [sF,aI,iK] at h;rw [af6,af6,af7 h.2,upd_ne (by omega)]
theorem ab6 {I:gK} {f:Nat} {l:List Nat} {r:Option (List GV)}:∀ (t:Tree) (k:Nat) (val:Nat->Option GV),(l.all λi=>Nat.blt i k)=true->(valsOf val l).bind (I f)=r->t.go I k val=goC I f l r t k val
 | .step nd t,k,val,hl,hr=>by
   cases nd with
   | call f' l' j=>
     simp only [goC];split
     ·next h=>
      obtain ⟨rfl,rfl⟩:=h;rw [asv,anZ];have e:((valsOf val l').bind λgs=>(I f' gs).bind λr=>r[j]?)=r.bind λr=>r[j]?:=by
       rw [<- hr];cases valsOf val l'<;>rfl
      rw [e];cases r.bind λr=>r[j]? with
      | none=>rfl
      | some g=>
        simp only [ahf];refine ab6 t (k+1) (upd val k g) ?_ ?_
        ·rw [List.all_eq_true] at hl ⊢
         intro i hi;have:=hl i hi;rw [iK] at this ⊢;omega
        ·rw [af7 hl];exact hr
     ·rfl
   | _=>rfl
 | .ite n t e,k,val,_,_=>rfl
 | .ret l',k,val,_,_=>rfl
 | .tail f' l',k,val,_,_=>rfl
 | .dead,k,val,_,_=>rfl
def aao (o:Option GV) (I:gK) (f:Nat) (l:List Nat) (r:Option (List GV)) (t:Tree) (k:Nat) (val:Nat->Option GV):Option (List GV):=match o with
 | some g=>goC I f l r t (k+1) (upd val k g)
 | none=>none
section
variable {I:gK} {f:Nat} {l:List Nat} {r:Option (List GV)} {k:Nat} {val:Nat->Option GV} {t:Tree}
theorem KZ {j:Nat} (h:(l.all λi=>decide (i < k))=true):(Tree.step (.call f l j) t).go I k val=goC I f l ((valsOf val l).bind (I f)) (.step (.call f l j) t) k val:=ab6 _ _ _ (by
 rw [List.all_eq_true] at h ⊢;intro i hi;have:=h i hi;rw [decide_eq_true_iff] at this;rw [iK];exact this) rfl
@[simp high] theorem auI {r:List GV} {j:Nat}:goC I f l (some r) (.step (.call f l j) t) k val=aao (r[j]?) I f l (some r) t k val:=by
 simp only [goC,and_self,if_true,Aa];cases r[j]?<;>rfl
@[simp] theorem auj {g:GV}:aao (some g) I f l r t k val=goC I f l r t (k+1) (upd val k g):=rfl
@[simp] theorem au0 {f' j:Nat} {l':List Nat} (h:¬ (f'=f/\l'=l)):goC I f l r (.step (.call f' l' j) t) k val=(Tree.step (.call f' l' j) t).go I k val:=by
 simp only [goC,ah h]
@[simp] theorem auR {n:Nat} {e:Tree}:goC I f l r (.ite n t e) k val=(Tree.ite n t e).go I k val:=rfl
@[simp] theorem au2 {l':List Nat}:goC I f l r (.ret l') k val=(Tree.ret l').go I k val:=rfl
@[simp] theorem au9 {f':Nat} {l':List Nat}:goC I f l r (.tail f' l') k val=(Tree.tail f' l').go I k val:=rfl
@[simp] theorem auO:goC I f l r .dead k val=Tree.dead.go I k val:=rfl
@[simp] theorem auL {y0 y1}:goC I f l r (.step (.ci y0 y1) t) k val=(Tree.step (.ci y0 y1) t).go I k val:=rfl
@[simp] theorem auJ {y0}:goC I f l r (.step (.cb y0) t) k val=(Tree.step (.cb y0) t).go I k val:=rfl
@[simp] theorem auN {y0}:goC I f l r (.step (.cs y0) t) k val=(Tree.step (.cs y0) t).go I k val:=rfl
@[simp] theorem auE {y0 y1 y2}:goC I f l r (.step (.bin y0 y1 y2) t) k val=(Tree.step (.bin y0 y1 y2) t).go I k val:=rfl
@[simp] theorem auF {y0 y1 y2}:goC I f l r (.step (.Am y0 y1 y2) t) k val=(Tree.step (.Am y0 y1 y2) t).go I k val:=rfl
@[simp] theorem auG {y0 y1 y2 y3}:goC I f l r (.step (.Ap y0 y1 y2 y3) t) k val=(Tree.step (.Ap y0 y1 y2 y3) t).go I k val:=rfl
@[simp] theorem ava {y0 y1}:goC I f l r (.step (.un y0 y1) t) k val=(Tree.step (.un y0 y1) t).go I k val:=rfl
@[simp] theorem auY {y0 y1 y2}:goC I f l r (.step (.mm y0 y1 y2) t) k val=(Tree.step (.mm y0 y1 y2) t).go I k val:=rfl
@[simp] theorem auM {y0 y1}:goC I f l r (.step (.conv y0 y1) t) k val=(Tree.step (.conv y0 y1) t).go I k val:=rfl
@[simp] theorem auS {y0}:goC I f l r (.step (.len y0) t) k val=(Tree.step (.len y0) t).go I k val:=rfl
@[simp] theorem au6 {y0}:goC I f l r (.step (.slen y0) t) k val=(Tree.step (.slen y0) t).go I k val:=rfl
@[simp] theorem auQ {y0 y1}:goC I f l r (.step (.wY y0 y1) t) k val=(Tree.step (.wY y0 y1) t).go I k val:=rfl
@[simp] theorem au5 {y0 y1}:goC I f l r (.step (.BJ y0 y1) t) k val=(Tree.step (.BJ y0 y1) t).go I k val:=rfl
@[simp] theorem au7 {y0 y1 y2}:goC I f l r (.step (.BQ y0 y1 y2) t) k val=(Tree.step (.BQ y0 y1 y2) t).go I k val:=rfl
@[simp] theorem auT {y0 y1 y2 y3}:goC I f l r (.step (.zl y0 y1 y2 y3) t) k val=(Tree.step (.zl y0 y1 y2 y3) t).go I k val:=rfl
@[simp] theorem auP {y0 y1}:goC I f l r (.step (.idx y0 y1) t) k val=(Tree.step (.idx y0 y1) t).go I k val:=rfl
@[simp] theorem auD {y0 y1 y2}:goC I f l r (.step (.at y0 y1 y2) t) k val=(Tree.step (.at y0 y1 y2) t).go I k val:=rfl
@[simp] theorem auK {y0 y1}:goC I f l r (.step (.cell y0 y1) t) k val=(Tree.step (.cell y0 y1) t).go I k val:=rfl
@[simp] theorem auW {y0}:goC I f l r (.step (.mk y0) t) k val=(Tree.step (.mk y0) t).go I k val:=rfl
@[simp] theorem auX {y0}:goC I f l r (.step (.ml y0) t) k val=(Tree.step (.ml y0) t).go I k val:=rfl
@[simp] theorem auC {y0 y1 y2 y3}:goC I f l r (.step (.app y0 y1 y2 y3) t) k val=(Tree.step (.app y0 y1 y2 y3) t).go I k val:=rfl
@[simp] theorem avb {y0 y1 y2 y3 y4}:goC I f l r (.step (.upd y0 y1 y2 y3 y4) t) k val=(Tree.step (.upd y0 y1 y2 y3 y4) t).go I k val:=rfl
@[simp] theorem au1 {y0 y1 y2 y3 y4}:goC I f l r (.step (.rep y0 y1 y2 y3 y4) t) k val=(Tree.step (.rep y0 y1 y2 y3 y4) t).go I k val:=rfl
@[simp] theorem auH {y0}:goC I f l r (.step (.bytes y0) t) k val=(Tree.step (.bytes y0) t).go I k val:=rfl
@[simp] theorem au8 {y0}:goC I f l r (.step (.str y0) t) k val=(Tree.step (.str y0) t).go I k val:=rfl
@[simp] theorem au3 {y0 y1}:goC I f l r (.step (.same y0 y1) t) k val=(Tree.step (.same y0 y1) t).go I k val:=rfl
@[simp] theorem au4 {y0}:goC I f l r (.step (.BI y0) t) k val=(Tree.step (.BI y0) t).go I k val:=rfl
@[simp] theorem auU {y0 y1 y2}:goC I f l r (.step (.Bd y0 y1 y2) t) k val=(Tree.step (.Bd y0 y1 y2) t).go I k val:=rfl
@[simp] theorem auV {y0 y1}:goC I f l r (.step (.Bf y0 y1) t) k val=(Tree.step (.Bf y0 y1) t).go I k val:=rfl
@[simp] theorem auZ {y0 y1 y2}:goC I f l r (.step (.yj y0 y1 y2) t) k val=(Tree.step (.yj y0 y1 y2) t).go I k val:=rfl
end
end Go.aJ
