/- Trees, gone through quicker: a call's results, told one behind the other, want the call but once. -/
import Derived.Test.YtcpfjpcdcafjmaaGreatDoorAbsPl
namespace Go.aN
set_option linter.unusedSimpArgs false
def goC (I:fP) (f:Nat) (l:List Nat) (r:Option (List GV)):Tree->Nat->(Nat->Option GV)->Option (List GV)
 | .step nd t,k,val=>match nd with
   | .call f' l' j=>if f'=f/\l'=l then (match r.bind λr=>r[j]? with
      | some g=>goC I f l r t (k+1) (upd val k g)
      | none=>none) else (Tree.step (.call f' l' j) t).go I k val
   | nd=>(Tree.step nd t).go I k val
 | t,k,val=>t.go I k val
theorem adh {val:Nat->Option GV} {k:Nat} {g:GV}:∀ {l:List Nat},(l.all λi=>Nat.blt i k)=true->valsOf (upd val k g) l=valsOf val l
 | [],_=>rfl
 | n::l,h=>by
   simp only [tY,aH,iK] at h;rw [adg,adg,adh h.2,upd_ne (by omega)]
theorem ZK {I:fP} {f:Nat} {l:List Nat} {r:Option (List GV)}:∀ (t:Tree) (k:Nat) (val:Nat->Option GV),(l.all λi=>Nat.blt i k)=true->(valsOf val l).bind (I f)=r->t.go I k val=goC I f l r t k val
 | .step nd t,k,val,hl,hr=>by
   cases nd with
   | call f' l' j=>
     simp only [goC];split
     ·next h=>
      obtain ⟨rfl,rfl⟩:=h;rw [ank,aiI];have e:((valsOf val l').bind λgs=>(I f' gs).bind λr=>r[j]?)=r.bind λr=>r[j]?:=by
       rw [<- hr];cases valsOf val l'<;>rfl
      rw [e];cases r.bind λr=>r[j]? with
      | none=>rfl
      | some g=>
        simp only [adT];refine ZK t (k+1) (upd val k g) ?_ ?_
        ·rw [List.all_eq_true] at hl ⊢
         intro i hi;have:=hl i hi;rw [iK] at this ⊢;omega
        ·rw [adh hl];exact hr
     ·rfl
   | _=>rfl
 | .ite n t e,k,val,_,_=>rfl
 | .ret l',k,val,_,_=>rfl
 | .tail f' l',k,val,_,_=>rfl
 | .dead,k,val,_,_=>rfl
def XF (o:Option GV) (I:fP) (f:Nat) (l:List Nat) (r:Option (List GV)) (t:Tree) (k:Nat) (val:Nat->Option GV):Option (List GV):=match o with
 | some g=>goC I f l r t (k+1) (upd val k g)
 | none=>none
section
variable {I:fP} {f:Nat} {l:List Nat} {r:Option (List GV)} {k:Nat} {val:Nat->Option GV} {t:Tree}
theorem iE {j:Nat} (h:(l.all λi=>decide (i < k))=true):(Tree.step (.call f l j) t).go I k val=goC I f l ((valsOf val l).bind (I f)) (.step (.call f l j) t) k val:=ZK _ _ _ (by
 rw [List.all_eq_true] at h ⊢;intro i hi;have:=h i hi;rw [decide_eq_true_iff] at this;rw [iK];exact this) rfl
@[simp high] theorem apJ {r:List GV} {j:Nat}:goC I f l (some r) (.step (.call f l j) t) k val=XF (r[j]?) I f l (some r) t k val:=by
 simp only [goC,and_self,if_true,zi];cases r[j]?<;>rfl
@[simp] theorem apl {g:GV}:XF (some g) I f l r t k val=goC I f l r t (k+1) (upd val k g):=rfl
@[simp] theorem ap1 {f' j:Nat} {l':List Nat} (h:¬ (f'=f/\l'=l)):goC I f l r (.step (.call f' l' j) t) k val=(Tree.step (.call f' l' j) t).go I k val:=by
 simp only [goC,ah h]
@[simp] theorem apS {n:Nat} {e:Tree}:goC I f l r (.ite n t e) k val=(Tree.ite n t e).go I k val:=rfl
@[simp] theorem ap3 {l':List Nat}:goC I f l r (.ret l') k val=(Tree.ret l').go I k val:=rfl
@[simp] theorem aqa {f':Nat} {l':List Nat}:goC I f l r (.tail f' l') k val=(Tree.tail f' l').go I k val:=rfl
@[simp] theorem apP:goC I f l r .dead k val=Tree.dead.go I k val:=rfl
@[simp] theorem apM {y0 y1}:goC I f l r (.step (.ci y0 y1) t) k val=(Tree.step (.ci y0 y1) t).go I k val:=rfl
@[simp] theorem apK {y0}:goC I f l r (.step (.cb y0) t) k val=(Tree.step (.cb y0) t).go I k val:=rfl
@[simp] theorem apO {y0}:goC I f l r (.step (.cs y0) t) k val=(Tree.step (.cs y0) t).go I k val:=rfl
@[simp] theorem apF {y0 y1 y2}:goC I f l r (.step (.bin y0 y1 y2) t) k val=(Tree.step (.bin y0 y1 y2) t).go I k val:=rfl
@[simp] theorem apG {y0 y1 y2}:goC I f l r (.step (.CQ y0 y1 y2) t) k val=(Tree.step (.CQ y0 y1 y2) t).go I k val:=rfl
@[simp] theorem apH {y0 y1 y2 y3}:goC I f l r (.step (.uq y0 y1 y2 y3) t) k val=(Tree.step (.uq y0 y1 y2 y3) t).go I k val:=rfl
@[simp] theorem aqb {y0 y1}:goC I f l r (.step (.un y0 y1) t) k val=(Tree.step (.un y0 y1) t).go I k val:=rfl
@[simp] theorem apZ {y0 y1 y2}:goC I f l r (.step (.mm y0 y1 y2) t) k val=(Tree.step (.mm y0 y1 y2) t).go I k val:=rfl
@[simp] theorem apN {y0 y1}:goC I f l r (.step (.conv y0 y1) t) k val=(Tree.step (.conv y0 y1) t).go I k val:=rfl
@[simp] theorem apT {y0}:goC I f l r (.step (.len y0) t) k val=(Tree.step (.len y0) t).go I k val:=rfl
@[simp] theorem ap7 {y0}:goC I f l r (.step (.slen y0) t) k val=(Tree.step (.slen y0) t).go I k val:=rfl
@[simp] theorem apR {y0 y1}:goC I f l r (.step (.yJ y0 y1) t) k val=(Tree.step (.yJ y0 y1) t).go I k val:=rfl
@[simp] theorem ap6 {y0 y1}:goC I f l r (.step (.nC y0 y1) t) k val=(Tree.step (.nC y0 y1) t).go I k val:=rfl
@[simp] theorem ap8 {y0 y1 y2}:goC I f l r (.step (.jc y0 y1 y2) t) k val=(Tree.step (.jc y0 y1 y2) t).go I k val:=rfl
@[simp] theorem apU {y0 y1 y2 y3}:goC I f l r (.step (.wM y0 y1 y2 y3) t) k val=(Tree.step (.wM y0 y1 y2 y3) t).go I k val:=rfl
@[simp] theorem apQ {y0 y1}:goC I f l r (.step (.idx y0 y1) t) k val=(Tree.step (.idx y0 y1) t).go I k val:=rfl
@[simp] theorem apE {y0 y1 y2}:goC I f l r (.step (.at y0 y1 y2) t) k val=(Tree.step (.at y0 y1 y2) t).go I k val:=rfl
@[simp] theorem apL {y0 y1}:goC I f l r (.step (.cell y0 y1) t) k val=(Tree.step (.cell y0 y1) t).go I k val:=rfl
@[simp] theorem apX {y0}:goC I f l r (.step (.mk y0) t) k val=(Tree.step (.mk y0) t).go I k val:=rfl
@[simp] theorem apY {y0}:goC I f l r (.step (.ml y0) t) k val=(Tree.step (.ml y0) t).go I k val:=rfl
@[simp] theorem apD {y0 y1 y2 y3}:goC I f l r (.step (.app y0 y1 y2 y3) t) k val=(Tree.step (.app y0 y1 y2 y3) t).go I k val:=rfl
@[simp] theorem aqc {y0 y1 y2 y3 y4}:goC I f l r (.step (.upd y0 y1 y2 y3 y4) t) k val=(Tree.step (.upd y0 y1 y2 y3 y4) t).go I k val:=rfl
@[simp] theorem ap2 {y0 y1 y2 y3 y4}:goC I f l r (.step (.rep y0 y1 y2 y3 y4) t) k val=(Tree.step (.rep y0 y1 y2 y3 y4) t).go I k val:=rfl
@[simp] theorem apI {y0}:goC I f l r (.step (.bytes y0) t) k val=(Tree.step (.bytes y0) t).go I k val:=rfl
@[simp] theorem ap9 {y0}:goC I f l r (.step (.str y0) t) k val=(Tree.step (.str y0) t).go I k val:=rfl
@[simp] theorem ap4 {y0 y1}:goC I f l r (.step (.same y0 y1) t) k val=(Tree.step (.same y0 y1) t).go I k val:=rfl
@[simp] theorem ap5 {y0}:goC I f l r (.step (.Ee y0) t) k val=(Tree.step (.Ee y0) t).go I k val:=rfl
@[simp] theorem apV {y0 y1 y2}:goC I f l r (.step (.yM y0 y1 y2) t) k val=(Tree.step (.yM y0 y1 y2) t).go I k val:=rfl
@[simp] theorem apW {y0 y1}:goC I f l r (.step (.BG y0 y1) t) k val=(Tree.step (.BG y0 y1) t).go I k val:=rfl
@[simp] theorem ap0 {y0 y1 y2}:goC I f l r (.step (.yN y0 y1 y2) t) k val=(Tree.step (.yN y0 y1 y2) t).go I k val:=rfl
end
end Go.aN
