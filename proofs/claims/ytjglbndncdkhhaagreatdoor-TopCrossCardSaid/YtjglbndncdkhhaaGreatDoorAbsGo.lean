/- Trees, gone through quicker: a call's results, told one behind the other, want the call but once. -/
import Derived.Test.YtjglbndncdkhhaaGreatDoorAbsPl
namespace Go.aN
set_option linter.unusedSimpArgs false
def goC (I:gB) (f:Nat) (l:List Nat) (r:Option (List GV)):Tree->Nat->(Nat->Option GV)->Option (List GV)
 | .step nd t,k,val=>match nd with
   | .call f' l' j=>if f'=f/\l'=l then (match r.bind λr=>r[j]? with
      | some g=>goC I f l r t (k+1) (upd val k g)
      | none=>none) else (Tree.step (.call f' l' j) t).go I k val
   | nd=>(Tree.step nd t).go I k val
 | t,k,val=>t.go I k val
theorem aeM {val:Nat->Option GV} {k:Nat} {g:GV}:∀ {l:List Nat},(l.all λi=>Nat.blt i k)=true->valsOf (upd val k g) l=valsOf val l
 | [],_=>rfl
 | n::l,h=>by
   simp only [qP,aI,iZ] at h;rw [aeL,aeL,aeM h.2,upd_ne (by omega)]
theorem aa7 {I:gB} {f:Nat} {l:List Nat} {r:Option (List GV)}:∀ (t:Tree) (k:Nat) (val:Nat->Option GV),(l.all λi=>Nat.blt i k)=true->(valsOf val l).bind (I f)=r->t.go I k val=goC I f l r t k val
 | .step nd t,k,val,hl,hr=>by
   cases nd with
   | call f' l' j=>
     simp only [goC];split
     ·next h=>
      obtain ⟨rfl,rfl⟩:=h;rw [aph,akX];have e:((valsOf val l').bind λgs=>(I f' gs).bind λr=>r[j]?)=r.bind λr=>r[j]?:=by
       rw [<- hr];cases valsOf val l'<;>rfl
      rw [e];cases r.bind λr=>r[j]? with
      | none=>rfl
      | some g=>
        simp only [afG];refine aa7 t (k+1) (upd val k g) ?_ ?_
        ·rw [List.all_eq_true] at hl ⊢
         intro i hi;have:=hl i hi;rw [iZ] at this ⊢;omega
        ·rw [aeM hl];exact hr
     ·rfl
   | _=>rfl
 | .ite n t e,k,val,_,_=>rfl
 | .ret l',k,val,_,_=>rfl
 | .tail f' l',k,val,_,_=>rfl
 | .dead,k,val,_,_=>rfl
def Zh (o:Option GV) (I:gB) (f:Nat) (l:List Nat) (r:Option (List GV)) (t:Tree) (k:Nat) (val:Nat->Option GV):Option (List GV):=match o with
 | some g=>goC I f l r t (k+1) (upd val k g)
 | none=>none
section
variable {I:gB} {f:Nat} {l:List Nat} {r:Option (List GV)} {k:Nat} {val:Nat->Option GV} {t:Tree}
theorem jy {j:Nat} (h:(l.all λi=>decide (i < k))=true):(Tree.step (.call f l j) t).go I k val=goC I f l ((valsOf val l).bind (I f)) (.step (.call f l j) t) k val:=aa7 _ _ _ (by
 rw [List.all_eq_true] at h ⊢;intro i hi;have:=h i hi;rw [decide_eq_true_iff] at this;rw [iZ];exact this) rfl
@[simp high] theorem aq9 {r:List GV} {j:Nat}:goC I f l (some r) (.step (.call f l j) t) k val=Zh (r[j]?) I f l (some r) t k val:=by
 simp only [goC,and_self,if_true,zk];cases r[j]?<;>rfl
@[simp] theorem aqN {g:GV}:Zh (some g) I f l r t k val=goC I f l r t (k+1) (upd val k g):=rfl
@[simp] theorem arx {f' j:Nat} {l':List Nat} (h:¬ (f'=f/\l'=l)):goC I f l r (.step (.call f' l' j) t) k val=(Tree.step (.call f' l' j) t).go I k val:=by
 simp only [goC,ah h]
@[simp] theorem arl {n:Nat} {e:Tree}:goC I f l r (.ite n t e) k val=(Tree.ite n t e).go I k val:=rfl
@[simp] theorem arA {l':List Nat}:goC I f l r (.ret l') k val=(Tree.ret l').go I k val:=rfl
@[simp] theorem arH {f':Nat} {l':List Nat}:goC I f l r (.tail f' l') k val=(Tree.tail f' l').go I k val:=rfl
@[simp] theorem ari:goC I f l r .dead k val=Tree.dead.go I k val:=rfl
@[simp] theorem ard {y0 y1}:goC I f l r (.step (.ci y0 y1) t) k val=(Tree.step (.ci y0 y1) t).go I k val:=rfl
@[simp] theorem ara {y0}:goC I f l r (.step (.cb y0) t) k val=(Tree.step (.cb y0) t).go I k val:=rfl
@[simp] theorem arh {y0}:goC I f l r (.step (.cs y0) t) k val=(Tree.step (.cs y0) t).go I k val:=rfl
@[simp] theorem aq5 {y0 y1 y2}:goC I f l r (.step (.bin y0 y1 y2) t) k val=(Tree.step (.bin y0 y1 y2) t).go I k val:=rfl
@[simp] theorem aq6 {y0 y1 y2}:goC I f l r (.step (.Bc y0 y1 y2) t) k val=(Tree.step (.Bc y0 y1 y2) t).go I k val:=rfl
@[simp] theorem aq7 {y0 y1 y2 y3}:goC I f l r (.step (.Bd y0 y1 y2 y3) t) k val=(Tree.step (.Bd y0 y1 y2 y3) t).go I k val:=rfl
@[simp] theorem arI {y0 y1}:goC I f l r (.step (.un y0 y1) t) k val=(Tree.step (.un y0 y1) t).go I k val:=rfl
@[simp] theorem arv {y0 y1 y2}:goC I f l r (.step (.mm y0 y1 y2) t) k val=(Tree.step (.mm y0 y1 y2) t).go I k val:=rfl
@[simp] theorem arf {y0 y1}:goC I f l r (.step (.conv y0 y1) t) k val=(Tree.step (.conv y0 y1) t).go I k val:=rfl
@[simp] theorem arn {y0}:goC I f l r (.step (.len y0) t) k val=(Tree.step (.len y0) t).go I k val:=rfl
@[simp] theorem arE {y0}:goC I f l r (.step (.slen y0) t) k val=(Tree.step (.slen y0) t).go I k val:=rfl
@[simp] theorem ark {y0 y1}:goC I f l r (.step (.xu y0 y1) t) k val=(Tree.step (.xu y0 y1) t).go I k val:=rfl
@[simp] theorem arD {y0 y1}:goC I f l r (.step (.Ci y0 y1) t) k val=(Tree.step (.Ci y0 y1) t).go I k val:=rfl
@[simp] theorem arF {y0 y1 y2}:goC I f l r (.step (.Cj y0 y1 y2) t) k val=(Tree.step (.Cj y0 y1 y2) t).go I k val:=rfl
@[simp] theorem aro {y0 y1 y2 y3}:goC I f l r (.step (.zX y0 y1 y2 y3) t) k val=(Tree.step (.zX y0 y1 y2 y3) t).go I k val:=rfl
@[simp] theorem arj {y0 y1}:goC I f l r (.step (.idx y0 y1) t) k val=(Tree.step (.idx y0 y1) t).go I k val:=rfl
@[simp] theorem aq4 {y0 y1 y2}:goC I f l r (.step (.at y0 y1 y2) t) k val=(Tree.step (.at y0 y1 y2) t).go I k val:=rfl
@[simp] theorem arb {y0 y1}:goC I f l r (.step (.cell y0 y1) t) k val=(Tree.step (.cell y0 y1) t).go I k val:=rfl
@[simp] theorem ars {y0}:goC I f l r (.step (.mk y0) t) k val=(Tree.step (.mk y0) t).go I k val:=rfl
@[simp] theorem aru {y0}:goC I f l r (.step (.ml y0) t) k val=(Tree.step (.ml y0) t).go I k val:=rfl
@[simp] theorem aq3 {y0 y1 y2 y3}:goC I f l r (.step (.app y0 y1 y2 y3) t) k val=(Tree.step (.app y0 y1 y2 y3) t).go I k val:=rfl
@[simp] theorem arJ {y0 y1 y2 y3 y4}:goC I f l r (.step (.upd y0 y1 y2 y3 y4) t) k val=(Tree.step (.upd y0 y1 y2 y3 y4) t).go I k val:=rfl
@[simp] theorem arz {y0 y1 y2 y3 y4}:goC I f l r (.step (.rep y0 y1 y2 y3 y4) t) k val=(Tree.step (.rep y0 y1 y2 y3 y4) t).go I k val:=rfl
@[simp] theorem aq8 {y0}:goC I f l r (.step (.bytes y0) t) k val=(Tree.step (.bytes y0) t).go I k val:=rfl
@[simp] theorem arG {y0}:goC I f l r (.step (.str y0) t) k val=(Tree.step (.str y0) t).go I k val:=rfl
@[simp] theorem arB {y0 y1}:goC I f l r (.step (.same y0 y1) t) k val=(Tree.step (.same y0 y1) t).go I k val:=rfl
@[simp] theorem arC {y0}:goC I f l r (.step (.Ce y0) t) k val=(Tree.step (.Ce y0) t).go I k val:=rfl
@[simp] theorem arp {y0 y1 y2}:goC I f l r (.step (.BR y0 y1 y2) t) k val=(Tree.step (.BR y0 y1 y2) t).go I k val:=rfl
@[simp] theorem arq {y0 y1}:goC I f l r (.step (.BU y0 y1) t) k val=(Tree.step (.BU y0 y1) t).go I k val:=rfl
@[simp] theorem arw {y0 y1 y2}:goC I f l r (.step (.yF y0 y1 y2) t) k val=(Tree.step (.yF y0 y1 y2) t).go I k val:=rfl
end
end Go.aN
