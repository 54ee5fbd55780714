/- Trees, gone through quicker: a call's results, told one behind the other, want the call but once. -/
import Derived.Test.YtpioimdhbbgniaaGreatDoorAbsPl
namespace Go.aJ
set_option linter.unusedSimpArgs false
def goC (I:fG) (f:Nat) (l:List Nat) (r:Option (List GV)):Tree->Nat->(Nat->Option GV)->Option (List GV)
 | .step nd t,k,val=>match nd with
   | .call f' l' j=>if f'=f/\l'=l then (match r.bind λr=>r[j]? with
      | some g=>goC I f l r t (k+1) (upd val k g)
      | none=>none) else (Tree.step (.call f' l' j) t).go I k val
   | nd=>(Tree.step nd t).go I k val
 | t,k,val=>t.go I k val
theorem adg {val:Nat->Option GV} {k:Nat} {g:GV}:∀ {l:List Nat},(l.all λi=>Nat.blt i k)=true->valsOf (upd val k g) l=valsOf val l
 | [],_=>rfl
 | n::l,h=>by
   simp only [uw,aG,iC] at h;rw [adf,adf,adg h.2,upd_ne (by omega)]
theorem Z9 {I:fG} {f:Nat} {l:List Nat} {r:Option (List GV)}:∀ (t:Tree) (k:Nat) (val:Nat->Option GV),(l.all λi=>Nat.blt i k)=true->(valsOf val l).bind (I f)=r->t.go I k val=goC I f l r t k val
 | .step nd t,k,val,hl,hr=>by
   cases nd with
   | call f' l' j=>
     simp only [goC];split
     ·next h=>
      obtain ⟨rfl,rfl⟩:=h;rw [an6,ai2];have e:((valsOf val l').bind λgs=>(I f' gs).bind λr=>r[j]?)=r.bind λr=>r[j]?:=by
       rw [<- hr];cases valsOf val l'<;>rfl
      rw [e];cases r.bind λr=>r[j]? with
      | none=>rfl
      | some g=>
        simp only [ad2];refine Z9 t (k+1) (upd val k g) ?_ ?_
        ·rw [List.all_eq_true] at hl ⊢
         intro i hi;have:=hl i hi;rw [iC] at this ⊢;omega
        ·rw [adg hl];exact hr
     ·rfl
   | _=>rfl
 | .ite n t e,k,val,_,_=>rfl
 | .ret l',k,val,_,_=>rfl
 | .tail f' l',k,val,_,_=>rfl
 | .dead,k,val,_,_=>rfl
def X0 (o:Option GV) (I:fG) (f:Nat) (l:List Nat) (r:Option (List GV)) (t:Tree) (k:Nat) (val:Nat->Option GV):Option (List GV):=match o with
 | some g=>goC I f l r t (k+1) (upd val k g)
 | none=>none
section
variable {I:fG} {f:Nat} {l:List Nat} {r:Option (List GV)} {k:Nat} {val:Nat->Option GV} {t:Tree}
theorem FY {j:Nat} (h:(l.all λi=>decide (i < k))=true):(Tree.step (.call f l j) t).go I k val=goC I f l ((valsOf val l).bind (I f)) (.step (.call f l j) t) k val:=Z9 _ _ _ (by
 rw [List.all_eq_true] at h ⊢;intro i hi;have:=h i hi;rw [decide_eq_true_iff] at this;rw [iC];exact this) rfl
@[simp high] theorem aqk {r:List GV} {j:Nat}:goC I f l (some r) (.step (.call f l j) t) k val=X0 (r[j]?) I f l (some r) t k val:=by
 simp only [goC,and_self,if_true,yV];cases r[j]?<;>rfl
@[simp] theorem apX {g:GV}:X0 (some g) I f l r t k val=goC I f l r t (k+1) (upd val k g):=rfl
@[simp] theorem aqD {f' j:Nat} {l':List Nat} (h:¬ (f'=f/\l'=l)):goC I f l r (.step (.call f' l' j) t) k val=(Tree.step (.call f' l' j) t).go I k val:=by
 simp only [goC,ah h]
@[simp] theorem aqu {n:Nat} {e:Tree}:goC I f l r (.ite n t e) k val=(Tree.ite n t e).go I k val:=rfl
@[simp] theorem aqF {l':List Nat}:goC I f l r (.ret l') k val=(Tree.ret l').go I k val:=rfl
@[simp] theorem aqM {f':Nat} {l':List Nat}:goC I f l r (.tail f' l') k val=(Tree.tail f' l').go I k val:=rfl
@[simp] theorem aqr:goC I f l r .dead k val=Tree.dead.go I k val:=rfl
@[simp] theorem aqn {y0 y1}:goC I f l r (.step (.ci y0 y1) t) k val=(Tree.step (.ci y0 y1) t).go I k val:=rfl
@[simp] theorem aql {y0}:goC I f l r (.step (.cb y0) t) k val=(Tree.step (.cb y0) t).go I k val:=rfl
@[simp] theorem aqp {y0}:goC I f l r (.step (.cs y0) t) k val=(Tree.step (.cs y0) t).go I k val:=rfl
@[simp] theorem aqg {y0 y1 y2}:goC I f l r (.step (.bin y0 y1 y2) t) k val=(Tree.step (.bin y0 y1 y2) t).go I k val:=rfl
@[simp] theorem aqh {y0 y1 y2}:goC I f l r (.step (.Az y0 y1 y2) t) k val=(Tree.step (.Az y0 y1 y2) t).go I k val:=rfl
@[simp] theorem aqi {y0 y1 y2 y3}:goC I f l r (.step (.AA y0 y1 y2 y3) t) k val=(Tree.step (.AA y0 y1 y2 y3) t).go I k val:=rfl
@[simp] theorem aqN {y0 y1}:goC I f l r (.step (.un y0 y1) t) k val=(Tree.step (.un y0 y1) t).go I k val:=rfl
@[simp] theorem aqB {y0 y1 y2}:goC I f l r (.step (.mm y0 y1 y2) t) k val=(Tree.step (.mm y0 y1 y2) t).go I k val:=rfl
@[simp] theorem aqo {y0 y1}:goC I f l r (.step (.conv y0 y1) t) k val=(Tree.step (.conv y0 y1) t).go I k val:=rfl
@[simp] theorem aqv {y0}:goC I f l r (.step (.len y0) t) k val=(Tree.step (.len y0) t).go I k val:=rfl
@[simp] theorem aqJ {y0}:goC I f l r (.step (.slen y0) t) k val=(Tree.step (.slen y0) t).go I k val:=rfl
@[simp] theorem aqt {y0 y1}:goC I f l r (.step (.wZ y0 y1) t) k val=(Tree.step (.wZ y0 y1) t).go I k val:=rfl
@[simp] theorem aqI {y0 y1}:goC I f l r (.step (.BL y0 y1) t) k val=(Tree.step (.BL y0 y1) t).go I k val:=rfl
@[simp] theorem aqK {y0 y1 y2}:goC I f l r (.step (.BM y0 y1 y2) t) k val=(Tree.step (.BM y0 y1 y2) t).go I k val:=rfl
@[simp] theorem aqw {y0 y1 y2 y3}:goC I f l r (.step (.zF y0 y1 y2 y3) t) k val=(Tree.step (.zF y0 y1 y2 y3) t).go I k val:=rfl
@[simp] theorem aqs {y0 y1}:goC I f l r (.step (.idx y0 y1) t) k val=(Tree.step (.idx y0 y1) t).go I k val:=rfl
@[simp] theorem aqf {y0 y1 y2}:goC I f l r (.step (.at y0 y1 y2) t) k val=(Tree.step (.at y0 y1 y2) t).go I k val:=rfl
@[simp] theorem aqm {y0 y1}:goC I f l r (.step (.cell y0 y1) t) k val=(Tree.step (.cell y0 y1) t).go I k val:=rfl
@[simp] theorem aqz {y0}:goC I f l r (.step (.mk y0) t) k val=(Tree.step (.mk y0) t).go I k val:=rfl
@[simp] theorem aqA {y0}:goC I f l r (.step (.ml y0) t) k val=(Tree.step (.ml y0) t).go I k val:=rfl
@[simp] theorem aqe {y0 y1 y2 y3}:goC I f l r (.step (.app y0 y1 y2 y3) t) k val=(Tree.step (.app y0 y1 y2 y3) t).go I k val:=rfl
@[simp] theorem aqO {y0 y1 y2 y3 y4}:goC I f l r (.step (.upd y0 y1 y2 y3 y4) t) k val=(Tree.step (.upd y0 y1 y2 y3 y4) t).go I k val:=rfl
@[simp] theorem aqE {y0 y1 y2 y3 y4}:goC I f l r (.step (.rep y0 y1 y2 y3 y4) t) k val=(Tree.step (.rep y0 y1 y2 y3 y4) t).go I k val:=rfl
@[simp] theorem aqj {y0}:goC I f l r (.step (.bytes y0) t) k val=(Tree.step (.bytes y0) t).go I k val:=rfl
@[simp] theorem aqL {y0}:goC I f l r (.step (.str y0) t) k val=(Tree.step (.str y0) t).go I k val:=rfl
@[simp] theorem aqG {y0 y1}:goC I f l r (.step (.same y0 y1) t) k val=(Tree.step (.same y0 y1) t).go I k val:=rfl
@[simp] theorem aqH {y0}:goC I f l r (.step (.zU y0) t) k val=(Tree.step (.zU y0) t).go I k val:=rfl
@[simp] theorem aqx {y0 y1 y2}:goC I f l r (.step (.BA y0 y1 y2) t) k val=(Tree.step (.BA y0 y1 y2) t).go I k val:=rfl
@[simp] theorem aqy {y0 y1}:goC I f l r (.step (.BD y0 y1) t) k val=(Tree.step (.BD y0 y1) t).go I k val:=rfl
@[simp] theorem aqC {y0 y1 y2}:goC I f l r (.step (.yx y0 y1 y2) t) k val=(Tree.step (.yx y0 y1 y2) t).go I k val:=rfl
end
end Go.aJ
