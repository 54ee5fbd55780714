/- The check of a great tree, cut into pieces along the first decisions. -/
import Derived.Test.YtlifdeocdbjalaaGreatDoorAbsJ
namespace Go.aN
def aA.yh:aA→Tree
 | .tree _ t=>t
 | .fn _ _ t=>t
 | _=>.dead
def Tree.jy (p:List Nd→List (Nat×Bool)→Leaf→Bool):Tree→List Bool→List Nd→List (Nat×Bool)→Bool
 | .step nd t,q,ns,ds=>t.jy p q (ns++[nd]) ds
 | .ite n t e,[],ns,ds=>t.chk p ns ((n,true)::ds)&&e.chk p ns ((n,false)::ds)
 | .ite n t _,true::q,ns,ds=>t.jy p q ns ((n,true)::ds)
 | .ite n _ e,false::q,ns,ds=>e.jy p q ns ((n,false)::ds)
 | .ret l,_,ns,ds=>p ns ds (.ret l)
 | .tail f l,_,ns,ds=>p ns ds (.tail f l)
 | .dead,_,_,_=>true
theorem Tree.AB {p:List Nd→List (Nat×Bool)→Leaf→Bool}:∀ (t:Tree) (ns:List Nd) (ds:List (Nat×Bool)),t.jy p [] ns ds=t.chk p ns ds
 | .step nd t,ns,ds=>by simp only [Tree.jy,Tree.chk];exact Tree.AB t _ _
 | .ite n t e,ns,ds=>by simp only [Tree.jy,Tree.chk]
 | .ret l,ns,ds=>by simp only [Tree.jy,Tree.chk]
 | .tail f l,ns,ds=>by simp only [Tree.jy,Tree.chk]
 | .dead,ns,ds=>by simp only [Tree.jy,Tree.chk]
theorem Tree.bT {p:List Nd→List (Nat×Bool)→Leaf→Bool}:∀ (t:Tree) (q:List Bool) (ns:List Nd) (ds:List (Nat×Bool)),t.jy p (q++[true]) ns ds=true→t.jy p (q++[false]) ns ds=true→t.jy p q ns ds=true
 | .step nd t,q,ns,ds,h1,h2=>by
   simp only [Tree.jy] at h1 h2 ⊢
   exact Tree.bT t q _ _ h1 h2
 | .ite n t e,[],ns,ds,h1,h2=>by
   simp only [List.nil_append,Tree.jy] at h1 h2 ⊢
   rw [Tree.AB] at h1 h2
   rw [h1,h2];rfl
 | .ite n t e,true::q,ns,ds,h1,h2=>by
   simp only [List.cons_append,Tree.jy] at h1 h2 ⊢
   exact Tree.bT t q _ _ h1 h2
 | .ite n t e,false::q,ns,ds,h1,h2=>by
   simp only [List.cons_append,Tree.jy] at h1 h2 ⊢
   exact Tree.bT e q _ _ h1 h2
 | .ret l,q,ns,ds,h1,_=>by simp only [Tree.jy] at h1 ⊢;exact h1
 | .tail f l,q,ns,ds,h1,_=>by simp only [Tree.jy] at h1 ⊢;exact h1
 | .dead,q,ns,ds,_,_=>by simp only [Tree.jy]
end Go.aN
