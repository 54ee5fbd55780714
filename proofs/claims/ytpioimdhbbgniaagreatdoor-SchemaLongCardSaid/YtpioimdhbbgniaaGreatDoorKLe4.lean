/- What the trees compute: plain laws. -/
import Derived.Test.YtpioimdhbbgniaaGreatDoorKLe2
namespace Go.Proofs.YtpioimdhbbgniaaGreatDoor
open Go Go.aJ
set_option linter.unusedSimpArgs false
set_option linter.unusedVariables false
set_option maxRecDepth 100000
namespace L
def kP (b c:aB):Pl->Prop
 | .rem=>b.remaining=c.remaining
 | .allow=>b.allowed=c.allowed
 | .name=>b.name=c.name
 | .region=>b.region=c.region
 | .note=>b.note=c.note
 | .d=>b.d=c.d
 | .t=>b.t=c.t
 | .num k=>fK b k=fK c k
theorem kN:l9=[lq,lu,lC,lD,lF,lG,lH,lI,lJ,lK,lM,lN,lQ,lS,lT,lU,lV,lW,lX,lY,lZ,l7]:=rfl
theorem parts_all (b c:aB) (hk:b.kind=c.kind):(∀n∈l9,∀p,placeOf n=some p->kP b c p)↔b=c:=by
 constructor
 ·intro h
  rw [kN] at h;have h0:∀ {n:List UInt8} {p:Pl},n∈[lq,lu,lC,lD,lF,lG,lH,lI,lJ,lK,lM,lN,lQ,lS,lT,lU,lV,lW,lX,lY,lZ,l7]->placeOf n=some p->kP b c p:=λh1 h2=>h _ h1 _ h2;have akz:=h0 (by simp) Hq;have akh:=h0 (by simp) GI;have akv:=h0 (by simp) Hf;have aky:=h0 (by simp) Ho;have akw:=h0 (by simp) Hg;have akn:=h0 (by simp) GY;have akB:=h0 (by simp) Ht;have akr:=h0 (by simp) G7;have aku:=h0 (by simp) He;have akt:=h0 (by simp) G9;have akj:=h0 (by simp) GL;have akq:=h0 (by simp) G6;have akl:=h0 (by simp) GU;have akx:=h0 (by simp) Hl;have akm:=h0 (by simp) GX;have akA:=h0 (by simp) Hr;have akp:=h0 (by simp) G5;have aki:=h0 (by simp) GK;have ako:=h0 (by simp) GZ;have aks:=h0 (by simp) G8;have akk:=h0 (by simp) GN;have akC:=h0 (by simp) Hu;clear h h0;cases b;cases c;simp only [kP,fK] at *;subst hk;subst akz;subst akh;subst akv;subst aky;subst akw;subst akn;subst akB;subst akr;subst aku;subst akt;subst akj;subst akq;subst akl;subst akx;subst akm;subst akA;subst akp;subst aki;subst ako;subst aks;subst akk;subst akC;rfl
 ·rintro rfl n _ p _
  cases p<;>simp [kP]
end L
end Go.Proofs.YtpioimdhbbgniaaGreatDoor
