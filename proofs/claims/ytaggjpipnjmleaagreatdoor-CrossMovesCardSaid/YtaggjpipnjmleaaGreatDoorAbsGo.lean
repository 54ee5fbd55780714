/- Trees, gone through quicker: a call's results, told one behind the other, want the call but once. -/
import Derived.Test.YtaggjpipnjmleaaGreatDoorAbsPl
namespace Go.aJ
set_option linter.unusedSimpArgs false
def goC (I:gQ) (f:Nat) (l:List Nat) (r:Option (List GV)):Tree->Nat->(Nat->Option GV)->Option (List GV)
 | .step nd t,k,val=>match nd with
   | .call f' l' j=>if f'=f/\l'=l then (match r.bind λr=>r[j]? with
      | some g=>goC I f l r t (k+1) (upd val k g)
      | none=>none) else (Tree.step (.call f' l' j) t).go I k val
   | nd=>(Tree.step nd t).go I k val
 | t,k,val=>t.go I k val
theorem ae4 {val:Nat->Option GV} {k:Nat} {g:GV}:∀ {l:List Nat},(l.all λi=>Nat.blt i k)=true->valsOf (upd val k g) l=valsOf val l
 | [],_=>rfl
 | n::l,h=>by
   simp only [qy,aI,je] at h;rw [ae3,ae3,ae4 h.2,upd_ne (by omega)]
theorem aa3 {I:gQ} {f:Nat} {l:List Nat} {r:Option (List GV)}:∀ (t:Tree) (k:Nat) (val:Nat->Option GV),(l.all λi=>Nat.blt i k)=true->(valsOf val l).bind (I f)=r->t.go I k val=goC I f l r t k val
 | .step nd t,k,val,hl,hr=>by
   cases nd with
   | call f' l' j=>
     simp only [goC];split
     ·next h=>
      obtain ⟨rfl,rfl⟩:=h;rw [arQ,amB];have e:((valsOf val l').bind λgs=>(I f' gs).bind λr=>r[j]?)=r.bind λr=>r[j]?:=by
       rw [<- hr];cases valsOf val l'<;>rfl
      rw [e];cases r.bind λr=>r[j]? with
      | none=>rfl
      | some g=>
        simp only [afN];refine aa3 t (k+1) (upd val k g) ?_ ?_
        ·rw [List.all_eq_true] at hl ⊢
         intro i hi;have:=hl i hi;rw [je] at this ⊢;omega
        ·rw [ae4 hl];exact hr
     ·rfl
   | _=>rfl
 | .ite n t e,k,val,_,_=>rfl
 | .ret l',k,val,_,_=>rfl
 | .tail f' l',k,val,_,_=>rfl
 | .dead,k,val,_,_=>rfl
def Zj (o:Option GV) (I:gQ) (f:Nat) (l:List Nat) (r:Option (List GV)) (t:Tree) (k:Nat) (val:Nat->Option GV):Option (List GV):=match o with
 | some g=>goC I f l r t (k+1) (upd val k g)
 | none=>none
section
variable {I:gQ} {f:Nat} {l:List Nat} {r:Option (List GV)} {k:Nat} {val:Nat->Option GV} {t:Tree}
theorem jH {j:Nat} (h:(l.all λi=>decide (i < k))=true):(Tree.step (.call f l j) t).go I k val=goC I f l ((valsOf val l).bind (I f)) (.step (.call f l j) t) k val:=aa3 _ _ _ (by
 rw [List.all_eq_true] at h ⊢;intro i hi;have:=h i hi;rw [decide_eq_true_iff] at this;rw [je];exact this) rfl
@[simp high] theorem atN {r:List GV} {j:Nat}:goC I f l (some r) (.step (.call f l j) t) k val=Zj (r[j]?) I f l (some r) t k val:=by
 simp only [goC,and_self,if_true,zA];cases r[j]?<;>rfl
@[simp] theorem atp {g:GV}:Zj (some g) I f l r t k val=goC I f l r t (k+1) (upd val k g):=rfl
@[simp] theorem aud {f' j:Nat} {l':List Nat} (h:¬ (f'=f/\l'=l)):goC I f l r (.step (.call f' l' j) t) k val=(Tree.step (.call f' l' j) t).go I k val:=by
 simp only [goC,ah h]
@[simp] theorem atX {n:Nat} {e:Tree}:goC I f l r (.ite n t e) k val=(Tree.ite n t e).go I k val:=rfl
@[simp] theorem auf {l':List Nat}:goC I f l r (.ret l') k val=(Tree.ret l').go I k val:=rfl
@[simp] theorem aum {f':Nat} {l':List Nat}:goC I f l r (.tail f' l') k val=(Tree.tail f' l').go I k val:=rfl
@[simp] theorem atU:goC I f l r .dead k val=Tree.dead.go I k val:=rfl
@[simp] theorem atQ {y0 y1}:goC I f l r (.step (.ci y0 y1) t) k val=(Tree.step (.ci y0 y1) t).go I k val:=rfl
@[simp] theorem atO {y0}:goC I f l r (.step (.cb y0) t) k val=(Tree.step (.cb y0) t).go I k val:=rfl
@[simp] theorem atT {y0}:goC I f l r (.step (.cs y0) t) k val=(Tree.step (.cs y0) t).go I k val:=rfl
@[simp] theorem atH {y0 y1 y2}:goC I f l r (.step (.bin y0 y1 y2) t) k val=(Tree.step (.bin y0 y1 y2) t).go I k val:=rfl
@[simp] theorem atJ {y0 y1 y2}:goC I f l r (.step (.Bo y0 y1 y2) t) k val=(Tree.step (.Bo y0 y1 y2) t).go I k val:=rfl
@[simp] theorem atK {y0 y1 y2 y3}:goC I f l r (.step (.Bq y0 y1 y2 y3) t) k val=(Tree.step (.Bq y0 y1 y2 y3) t).go I k val:=rfl
@[simp] theorem aun {y0 y1}:goC I f l r (.step (.un y0 y1) t) k val=(Tree.step (.un y0 y1) t).go I k val:=rfl
@[simp] theorem aub {y0 y1 y2}:goC I f l r (.step (.mm y0 y1 y2) t) k val=(Tree.step (.mm y0 y1 y2) t).go I k val:=rfl
@[simp] theorem atS {y0 y1}:goC I f l r (.step (.conv y0 y1) t) k val=(Tree.step (.conv y0 y1) t).go I k val:=rfl
@[simp] theorem atY {y0}:goC I f l r (.step (.len y0) t) k val=(Tree.step (.len y0) t).go I k val:=rfl
@[simp] theorem auj {y0}:goC I f l r (.step (.slen y0) t) k val=(Tree.step (.slen y0) t).go I k val:=rfl
@[simp] theorem atW {y0 y1}:goC I f l r (.step (.xJ y0 y1) t) k val=(Tree.step (.xJ y0 y1) t).go I k val:=rfl
@[simp] theorem aui {y0 y1}:goC I f l r (.step (.CU y0 y1) t) k val=(Tree.step (.CU y0 y1) t).go I k val:=rfl
@[simp] theorem auk {y0 y1 y2}:goC I f l r (.step (.CV y0 y1 y2) t) k val=(Tree.step (.CV y0 y1 y2) t).go I k val:=rfl
@[simp] theorem atZ {y0 y1 y2 y3}:goC I f l r (.step (.Ac y0 y1 y2 y3) t) k val=(Tree.step (.Ac y0 y1 y2 y3) t).go I k val:=rfl
@[simp] theorem atV {y0 y1}:goC I f l r (.step (.idx y0 y1) t) k val=(Tree.step (.idx y0 y1) t).go I k val:=rfl
@[simp] theorem atG {y0 y1 y2}:goC I f l r (.step (.at y0 y1 y2) t) k val=(Tree.step (.at y0 y1 y2) t).go I k val:=rfl
@[simp] theorem atP {y0 y1}:goC I f l r (.step (.cell y0 y1) t) k val=(Tree.step (.cell y0 y1) t).go I k val:=rfl
@[simp] theorem at7 {y0}:goC I f l r (.step (.mk y0) t) k val=(Tree.step (.mk y0) t).go I k val:=rfl
@[simp] theorem aua {y0}:goC I f l r (.step (.ml y0) t) k val=(Tree.step (.ml y0) t).go I k val:=rfl
@[simp] theorem atF {y0 y1 y2 y3}:goC I f l r (.step (.app y0 y1 y2 y3) t) k val=(Tree.step (.app y0 y1 y2 y3) t).go I k val:=rfl
@[simp] theorem auo {y0 y1 y2 y3 y4}:goC I f l r (.step (.upd y0 y1 y2 y3 y4) t) k val=(Tree.step (.upd y0 y1 y2 y3 y4) t).go I k val:=rfl
@[simp] theorem aue {y0 y1 y2 y3 y4}:goC I f l r (.step (.rep y0 y1 y2 y3 y4) t) k val=(Tree.step (.rep y0 y1 y2 y3 y4) t).go I k val:=rfl
@[simp] theorem atM {y0}:goC I f l r (.step (.bytes y0) t) k val=(Tree.step (.bytes y0) t).go I k val:=rfl
@[simp] theorem aul {y0}:goC I f l r (.step (.str y0) t) k val=(Tree.step (.str y0) t).go I k val:=rfl
@[simp] theorem aug {y0 y1}:goC I f l r (.step (.same y0 y1) t) k val=(Tree.step (.same y0 y1) t).go I k val:=rfl
@[simp] theorem auh {y0}:goC I f l r (.step (.CS y0) t) k val=(Tree.step (.CS y0) t).go I k val:=rfl
@[simp] theorem at1 {y0 y1 y2}:goC I f l r (.step (.Cj y0 y1 y2) t) k val=(Tree.step (.Cj y0 y1 y2) t).go I k val:=rfl
@[simp] theorem at6 {y0 y1}:goC I f l r (.step (.Cm y0 y1) t) k val=(Tree.step (.Cm y0 y1) t).go I k val:=rfl
@[simp] theorem auc {y0 y1 y2}:goC I f l r (.step (.yU y0 y1 y2) t) k val=(Tree.step (.yU y0 y1 y2) t).go I k val:=rfl
end
end Go.aJ
