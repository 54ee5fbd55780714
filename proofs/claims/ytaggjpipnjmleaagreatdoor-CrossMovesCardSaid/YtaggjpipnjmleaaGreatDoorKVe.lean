/- What the trees compute: plain laws. -/
import Derived.Test.YtaggjpipnjmleaaGreatDoorKVe6
namespace Go.Proofs.YtaggjpipnjmleaaGreatDoor
open Go Go.aJ
set_option linter.unusedSimpArgs false
set_option linter.unusedVariables false
set_option maxRecDepth 100000
namespace V
set_option maxHeartbeats 4000000 in
theorem crossMoves (gs:List GV) (h:hasArgs [(true,adq),(false,[.int .i64]),(false,[.int .i64]),(false,[.str])] gs):TT.lim 1 gs=some [.b true]:=by
 obtain ⟨c1,gs,rfl,h1,h⟩:=akz h;obtain ⟨g2,gs,rfl,h2,h⟩:=Ut h;obtain ⟨g3,gs,rfl,h3,h⟩:=Ut h;obtain ⟨g4,gs,rfl,h4,h⟩:=Ut h;obtain rfl:=akA h;obtain ⟨b,l,hb,hl,e⟩:=aoD h1;simp only [bJ.has] at h2 h3 h4;obtain ⟨x,rfl, -⟩:=h2;obtain ⟨y,rfl, -⟩:=h3;obtain ⟨s,rfl, -⟩:=h4;rw [e];have hf:=ajy b l hb hl;clear h1 h e;cases hfw:Gp b l with
 | false=>
   rw [hfw] at hf;refine aG rfl rfl ?_ rfl;simp [fM,hf]
 | true=>
 rw [hfw] at hf;by_cases c6:6000 < s.length
 ·have uN:(6000:Int) < s.length:=by omega
  refine aG rfl rfl ?_ rfl;simp [fM,hf,uN]
 have uN:¬ (6000:Int) < s.length:=by omega
 obtain ⟨mo,msz,f8⟩:=aoE hb hl hfw;have h60:l.length<=60:=by
  unfold sZ at f8;rw [aI,decide_eq_true_iff] at f8;exact f8.2
 have hsz:=ach l;have hw8:=amc l f8;have hsh:Short b:=by
  unfold Gp at hfw;simp only [aI,decide_eq_true_iff] at hfw;exact ⟨hfw.1,hfw.2.1,hfw.2.2.1⟩
 have wo:wV b (rC l):=⟨mo,hsh,by omega,by omega⟩
 have hm:=al9 b l hl f8;generalize rC l=fl at *;generalize l.map one=L1 at *;have ma:=afz b fl x y;have km:=ao3 wo x y;have low:∀h:y<=x,_:=λh=>al7 wo x y h;have ru:∀h:x<=y,_:=λh=>alN wo x y h;have o1:=VI b fl (BN mo.d) mo.t mo.f8 mo.len;have oz:=VI fJ [] (BN nY.d) nY.t nY.f8 nY.len;have sz:=adY fJ fJ [] [] nY.body nY.body (BN nY.d) nY.t nY.f8 nY.f8 nY.len nY.len;rw [vX ⟨rfl,rfl⟩] at sz;generalize nC b fl x y=A at *;have o2:=VI A.1 A.2.1 (BN ma.d) ma.t ma.f8 ma.len;have s2:=adY A.1 A.1 A.2.1 A.2.1 ma.body ma.body (BN ma.d) ma.t ma.f8 ma.f8 ma.len ma.len;rw [vX ⟨rfl,rfl⟩] at s2;have fn:au []=[]:=by simp only [au]
 rw [fn] at oz sz;rw [<- X6] at oz sz;have kd:=adC s y (by omega);obtain ⟨RS,RE,kr,kx⟩:=aoR s y (by omega);have PI:=al6 b (au fl) x y;have PK:=alM b (au fl) x y;clear hb hl hfw mo msz f8 h60 hsz hw8 hsh wo ma;generalize jZ s y=D at *;generalize au D.2.1=r4 at *;generalize au A.2.1=r2 at *;generalize au fl=r1 at *;have fin:∀ (P:Prop),((D.2.2≠0->RS=[]->RE=D.2.2->P)->(D.2.2=0->TT.lim 136 [bP D.1 r4,.i .i64 y]=some [.s RS,.i .i64 RE]->P)->P):=λP h1 h2=>by
  rcases kx with ⟨a,e1,e2⟩ | ⟨a,e1⟩
  ·exact h1 a e1 e2
  ·exact h2 a e1
 rcases Int.lt_trichotomy x y with hxy | hxy | hxy
 ·have p1:=PI hxy
  rw [<- X6] at p1;have p2:=ru (by omega);have q1:¬ y < x:=by omega
  clear low ru PI PK;unfold bP at *;refine fin _ (λa e1 e2=>?_) (λa e1=>?_)
  ·subst e1 e2
   refine aG rfl rfl ?_ rfl;simp -implicitDefEqProofs (maxSteps:=10000000) [↓jH,hf,hm,uN,o1,o2,oz,sz,s2,km,p1,p2,hxy,q1,kd,kr,a]
  ·rw [a] at kd
   refine aG rfl rfl ?_ rfl;simp -implicitDefEqProofs (maxSteps:=10000000) [↓jH,hf,hm,uN,o1,o2,oz,sz,s2,km,p1,p2,hxy,q1,kd,kr,e1]
 ·have p1:=low (by omega)
  have p2:=ru (by omega);have q1:¬ y < x:=by omega
  have q2:¬ x < y:=by omega
  clear low ru PI PK;unfold bP at *;refine fin _ (λa e1 e2=>?_) (λa e1=>?_)
  ·subst e1 e2
   refine aG rfl rfl ?_ rfl;simp -implicitDefEqProofs (maxSteps:=10000000) [↓jH,hf,hm,uN,o1,o2,oz,sz,s2,km,p1,p2,q2,q1,kd,kr,a]
  ·rw [a] at kd
   refine aG rfl rfl ?_ rfl;simp -implicitDefEqProofs (maxSteps:=10000000) [↓jH,hf,hm,uN,o1,o2,oz,sz,s2,km,p1,p2,q2,q1,kd,kr,e1]
 ·have p1:=low (by omega)
  have p2:=PK hxy;rw [<- X6] at p2;have q1:¬ x < y:=by omega
  clear low ru PI PK;unfold bP at *;refine fin _ (λa e1 e2=>?_) (λa e1=>?_)
  ·subst e1 e2
   refine aG rfl rfl ?_ rfl;simp -implicitDefEqProofs (maxSteps:=10000000) [↓jH,hf,hm,uN,o1,o2,oz,sz,s2,km,p1,p2,hxy,q1,kd,kr,a]
  ·rw [a] at kd
   refine aG rfl rfl ?_ rfl;simp -implicitDefEqProofs (maxSteps:=10000000) [↓jH,hf,hm,uN,o1,o2,oz,sz,s2,km,p1,p2,hxy,q1,kd,kr,e1]
end V
end Go.Proofs.YtaggjpipnjmleaaGreatDoor
