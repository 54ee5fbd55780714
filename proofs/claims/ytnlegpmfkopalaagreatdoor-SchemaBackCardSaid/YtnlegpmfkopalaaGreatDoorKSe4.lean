/- What the trees compute: plain laws. -/
import Derived.Test.YtnlegpmfkopalaaGreatDoorKSe3
namespace Go.Proofs.YtnlegpmfkopalaaGreatDoor
open Go Go.aN
set_option linter.unusedSimpArgs false
set_option linter.unusedVariables false
set_option maxRecDepth 100000
namespace S
def bI (b c:aK):Pl->Prop
 | .rem=>b.remaining=c.remaining
 | .allow=>b.allowed=c.allowed
 | .name=>b.name=c.name
 | .region=>b.region=c.region
 | .note=>b.note=c.note
 | .d=>b.d=c.d
 | .t=>b.t=c.t
 | .num k=>jH b k=jH c k
def kU (b c:aK) (rb rc:List GV) (f:Nat) (n:List UInt8) (p:Prop):Prop:=∀ (NL:List GV) (L K:Int) (i:Nat),(i:Int) < L->NL[i]? = some (.s n)->IntKind.i64.wrap ((i:Int)+1)=(i:Int)+1->TT.lim f ([.l NL,.i .i64 L,.i .i64 ((i:Int)+1)]++(fC c rc).cells++(fC b rb).cells)=some [.i .i64 K]->TT.lim f ([.l NL,.i .i64 L,.i .i64 i]++(fC c rc).cells++(fC b rb).cells)=some [.i .i64 (if dG p=true then K else 0)]
theorem alz (b c:aK) (rb rc:List GV):kU b c rb rc 133 EG (bI b c (.num 0)):=by
 intro NL L K i h hat hw ih;rw [dX,dX] at ih ⊢;simp only [eG,dA] at ih ⊢;unfold EG at hat;by_cases hp:b.id=c.id
 ·have e:dG (bI b c (.num 0))=true:=jZ hp
  rw [e];replace hp:=eq_true hp
  refine aB rfl rfl ?_;simp [h,hat,hp,hw,ih]
 ·have e:dG (bI b c (.num 0))=false:=jM hp
  rw [e];refine aB rfl rfl ?_;simp [h,hat,hp,hw]
theorem alC (b c:aK) (rb rc:List GV):kU b c rb rc 133 EJ (bI b c (.num 1)):=by
 intro NL L K i h hat hw ih;rw [dX,dX] at ih ⊢;simp only [eG,dA] at ih ⊢;unfold EJ at hat;by_cases hp:b.min=c.min
 ·have e:dG (bI b c (.num 1))=true:=jZ hp
  rw [e];replace hp:=eq_true hp
  refine aB rfl rfl ?_;simp [h,hat,hp,hw,ih]
 ·have e:dG (bI b c (.num 1))=false:=jM hp
  rw [e];refine aB rfl rfl ?_;simp [h,hat,hp,hw]
theorem alB (b c:aK) (rb rc:List GV):kU b c rb rc 133 EI (bI b c (.num 2)):=by
 intro NL L K i h hat hw ih;rw [dX,dX] at ih ⊢;simp only [eG,dA] at ih ⊢;unfold EI at hat;by_cases hp:b.max=c.max
 ·have e:dG (bI b c (.num 2))=true:=jZ hp
  rw [e];replace hp:=eq_true hp
  refine aB rfl rfl ?_;simp [h,hat,hp,hw,ih]
 ·have e:dG (bI b c (.num 2))=false:=jM hp
  rw [e];refine aB rfl rfl ?_;simp [h,hat,hp,hw]
theorem alp (b c:aK) (rb rc:List GV):kU b c rb rc 133 Et (bI b c (.num 3)):=by
 intro NL L K i h hat hw ih;rw [dX,dX] at ih ⊢;simp only [eG,dA] at ih ⊢;unfold Et at hat;by_cases hp:b.chosen=c.chosen
 ·have e:dG (bI b c (.num 3))=true:=jZ hp
  rw [e];replace hp:=eq_true hp
  refine aB rfl rfl ?_;simp [h,hat,hp,hw,ih]
 ·have e:dG (bI b c (.num 3))=false:=jM hp
  rw [e];refine aB rfl rfl ?_;simp [h,hat,hp,hw]
theorem aly (b c:aK) (rb rc:List GV):kU b c rb rc 133 EF (bI b c (.num 4)):=by
 intro NL L K i h hat hw ih;rw [dX,dX] at ih ⊢;simp only [eG,dA] at ih ⊢;unfold EF at hat;by_cases hp:b.flags=c.flags
 ·have e:dG (bI b c (.num 4))=true:=jZ hp
  rw [e];replace hp:=eq_true hp
  refine aB rfl rfl ?_;simp [h,hat,hp,hw,ih]
 ·have e:dG (bI b c (.num 4))=false:=jM hp
  rw [e];refine aB rfl rfl ?_;simp [h,hat,hp,hw]
theorem alr (b c:aK) (rb rc:List GV):kU b c rb rc 133 Ew (bI b c (.num 5)):=by
 intro NL L K i h hat hw ih;rw [dX,dX] at ih ⊢;simp only [eG,dA] at ih ⊢;unfold Ew at hat;by_cases hp:b.cost=c.cost
 ·have e:dG (bI b c (.num 5))=true:=jZ hp
  rw [e];replace hp:=eq_true hp
  refine aB rfl rfl ?_;simp [h,hat,hp,hw,ih]
 ·have e:dG (bI b c (.num 5))=false:=jM hp
  rw [e];refine aB rfl rfl ?_;simp [h,hat,hp,hw]
theorem alG (b c:aK) (rb rc:List GV):kU b c rb rc 133 EK (bI b c (.num 6)):=by
 intro NL L K i h hat hw ih;rw [dX,dX] at ih ⊢;simp only [eG,dA] at ih ⊢;unfold EK at hat;by_cases hp:b.priority=c.priority
 ·have e:dG (bI b c (.num 6))=true:=jZ hp
  rw [e];replace hp:=eq_true hp
  refine aB rfl rfl ?_;simp [h,hat,hp,hw,ih]
 ·have e:dG (bI b c (.num 6))=false:=jM hp
  rw [e];refine aB rfl rfl ?_;simp [h,hat,hp,hw]
theorem als (b c:aK) (rb rc:List GV):kU b c rb rc 133 Ey (bI b c (.num 7)):=by
 intro NL L K i h hat hw ih;rw [dX,dX] at ih ⊢;simp only [eG,dA] at ih ⊢;unfold Ey at hat;by_cases hp:b.deadline=c.deadline
 ·have e:dG (bI b c (.num 7))=true:=jZ hp
  rw [e];replace hp:=eq_true hp
  refine aB rfl rfl ?_;simp [h,hat,hp,hw,ih]
 ·have e:dG (bI b c (.num 7))=false:=jM hp
  rw [e];refine aB rfl rfl ?_;simp [h,hat,hp,hw]
theorem alJ (b c:aK) (rb rc:List GV):kU b c rb rc 133 EM (bI b c (.num 8)):=by
 intro NL L K i h hat hw ih;rw [dX,dX] at ih ⊢;simp only [eG,dA] at ih ⊢;unfold EM at hat;by_cases hp:b.retry=c.retry
 ·have e:dG (bI b c (.num 8))=true:=jZ hp
  rw [e];replace hp:=eq_true hp
  refine aB rfl rfl ?_;simp [h,hat,hp,hw,ih]
 ·have e:dG (bI b c (.num 8))=false:=jM hp
  rw [e];refine aB rfl rfl ?_;simp [h,hat,hp,hw]
theorem alx (b c:aK) (rb rc:List GV):kU b c rb rc 133 ED (bI b c (.num 9)):=by
 intro NL L K i h hat hw ih;rw [dX,dX] at ih ⊢;simp only [eG,dA] at ih ⊢;unfold ED at hat;by_cases hp:b.epoch=c.epoch
 ·have e:dG (bI b c (.num 9))=true:=jZ hp
  rw [e];replace hp:=eq_true hp
  refine aB rfl rfl ?_;simp [h,hat,hp,hw,ih]
 ·have e:dG (bI b c (.num 9))=false:=jM hp
  rw [e];refine aB rfl rfl ?_;simp [h,hat,hp,hw]
theorem alo (b c:aK) (rb rc:List GV):kU b c rb rc 133 Es (bI b c (.num 10)):=by
 intro NL L K i h hat hw ih;rw [dX,dX] at ih ⊢;simp only [eG,dA] at ih ⊢;unfold Es at hat;by_cases hp:b.base=c.base
 ·have e:dG (bI b c (.num 10))=true:=jZ hp
  rw [e];replace hp:=eq_true hp
  refine aB rfl rfl ?_;simp [h,hat,hp,hw,ih]
 ·have e:dG (bI b c (.num 10))=false:=jM hp
  rw [e];refine aB rfl rfl ?_;simp [h,hat,hp,hw]
theorem alv (b c:aK) (rb rc:List GV):kU b c rb rc 133 EC (bI b c (.num 11)):=by
 intro NL L K i h hat hw ih;rw [dX,dX] at ih ⊢;simp only [eG,dA] at ih ⊢;unfold EC at hat;by_cases hp:b.digest=c.digest
 ·have e:dG (bI b c (.num 11))=true:=jZ hp
  rw [e];replace hp:=eq_true hp
  refine aB rfl rfl ?_;simp [h,hat,hp,hw,ih]
 ·have e:dG (bI b c (.num 11))=false:=jM hp
  rw [e];refine aB rfl rfl ?_;simp [h,hat,hp,hw]
theorem alA (b c:aK) (rb rc:List GV):kU b c rb rc 133 EH (bI b c (.num 12)):=by
 intro NL L K i h hat hw ih;rw [dX,dX] at ih ⊢;simp only [eG,dA] at ih ⊢;unfold EH at hat;by_cases hp:b.lag=c.lag
 ·have e:dG (bI b c (.num 12))=true:=jZ hp
  rw [e];replace hp:=eq_true hp
  refine aB rfl rfl ?_;simp [h,hat,hp,hw,ih]
 ·have e:dG (bI b c (.num 12))=false:=jM hp
  rw [e];refine aB rfl rfl ?_;simp [h,hat,hp,hw]
theorem alq (b c:aK) (rb rc:List GV):kU b c rb rc 133 Eu (bI b c (.num 13)):=by
 intro NL L K i h hat hw ih;rw [dX,dX] at ih ⊢;simp only [eG,dA] at ih ⊢;unfold Eu at hat;by_cases hp:b.code=c.code
 ·have e:dG (bI b c (.num 13))=true:=jZ hp
  rw [e];replace hp:=eq_true hp
  refine aB rfl rfl ?_;simp [h,hat,hp,hw,ih]
 ·have e:dG (bI b c (.num 13))=false:=jM hp
  rw [e];refine aB rfl rfl ?_;simp [h,hat,hp,hw]
theorem alM (b c:aK) (rb rc:List GV):kU b c rb rc 133 EO (bI b c (.num 14)):=by
 intro NL L K i h hat hw ih;rw [dX,dX] at ih ⊢;simp only [eG,dA] at ih ⊢;unfold EO at hat;by_cases hp:b.want=c.want
 ·have e:dG (bI b c (.num 14))=true:=jZ hp
  rw [e];replace hp:=eq_true hp
  refine aB rfl rfl ?_;simp [h,hat,hp,hw,ih]
 ·have e:dG (bI b c (.num 14))=false:=jM hp
  rw [e];refine aB rfl rfl ?_;simp [h,hat,hp,hw]
theorem alI (b c:aK) (rb rc:List GV):kU b c rb rc 133 EL (bI b c .rem):=by
 intro NL L K i h hat hw ih;rw [dX,dX] at ih ⊢;simp only [eG,dA] at ih ⊢;unfold EL at hat;by_cases hp:b.remaining=c.remaining
 ·have e:dG (bI b c .rem)=true:=jZ hp
  rw [e];replace hp:=eq_true hp
  refine aB rfl rfl ?_;simp [h,hat,hp,hw,ih]
 ·have e:dG (bI b c .rem)=false:=jM hp
  rw [e];refine aB rfl rfl ?_;simp [h,hat,hp,hw]
theorem aln (b c:aK) (rb rc:List GV):kU b c rb rc 133 Ep (bI b c .allow):=by
 intro NL L K i h hat hw ih;rw [dX,dX] at ih ⊢;simp only [eG,dA] at ih ⊢;unfold Ep at hat;by_cases hp:b.allowed=c.allowed
 ·have e:dG (bI b c .allow)=true:=jZ hp
  rw [e];replace hp:=eq_true hp
  refine aB rfl rfl ?_;simp [h,hat,hp,hw,ih]
 ·have e:dG (bI b c .allow)=false:=jM hp
  rw [e];refine aB rfl rfl ?_;simp [h,hat,hp,hw]
theorem alD (b c:aK) (rb rc:List GV):kU b c rb rc 133 Ce (bI b c .name):=by
 intro NL L K i h hat hw ih;rw [dX,dX] at ih ⊢;simp only [eG,dA] at ih ⊢;unfold Ce at hat;by_cases hp:b.name=c.name
 ·have e:dG (bI b c .name)=true:=jZ hp
  rw [e];replace hp:=eq_true hp
  refine aB rfl rfl ?_;simp [h,hat,hp,hw,ih]
 ·have e:dG (bI b c .name)=false:=jM hp
  rw [e];refine aB rfl rfl ?_;simp [h,hat,hp,hw]
theorem alH (b c:aK) (rb rc:List GV):kU b c rb rc 133 Cj (bI b c .region):=by
 intro NL L K i h hat hw ih;rw [dX,dX] at ih ⊢;simp only [eG,dA] at ih ⊢;unfold Cj at hat;by_cases hp:b.region=c.region
 ·have e:dG (bI b c .region)=true:=jZ hp
  rw [e];replace hp:=eq_true hp
  refine aB rfl rfl ?_;simp [h,hat,hp,hw,ih]
 ·have e:dG (bI b c .region)=false:=jM hp
  rw [e];refine aB rfl rfl ?_;simp [h,hat,hp,hw]
theorem alE (b c:aK) (rb rc:List GV):kU b c rb rc 133 Ci (bI b c .note):=by
 intro NL L K i h hat hw ih;rw [dX,dX] at ih ⊢;simp only [eG,dA] at ih ⊢;unfold Ci at hat;by_cases hp:b.note=c.note
 ·have e:dG (bI b c .note)=true:=jZ hp
  rw [e];replace hp:=eq_true hp
  refine aB rfl rfl ?_;simp [h,hat,hp,hw,ih]
 ·have e:dG (bI b c .note)=false:=jM hp
  rw [e];refine aB rfl rfl ?_;simp [h,hat,hp,hw]
theorem alu (b c:aK) (rb rc:List GV) (hbd:b.d.length<=140737488351232) (hcd:c.d.length<=140737488351232):kU b c rb rc 133 Ez (bI b c .d):=by
 intro NL L K i h hat hw ih;rw [dX,dX] at ih ⊢;simp only [eG,dA] at ih ⊢;unfold Ez at hat;have k:=aas b.d c.d hbd hcd;by_cases hp:b.d=c.d
 ·have e:dG (bI b c .d)=true:=jZ hp
  rw [e];rw [DY hp] at k;refine aB rfl rfl ?_;simp [h,hat,k,hw,ih]
 ·have e:dG (bI b c .d)=false:=jM hp
  rw [e];rw [Bo hp] at k;refine aB rfl rfl ?_;simp [h,hat,k,hw]
theorem alL (b c:aK) (rb rc:List GV) (hbt:oh b.t) (hct:oh c.t):kU b c rb rc 133 EN (bI b c .t):=by
 intro NL L K i h hat hw ih;rw [dX,dX] at ih ⊢;simp only [eG,dA] at ih ⊢;unfold EN at hat;have k:=aoZ b.t c.t hbt hct;by_cases hp:b.t=c.t
 ·have e:dG (bI b c .t)=true:=jZ hp
  rw [e];rw [DY hp] at k;refine aB rfl rfl ?_;simp [h,hat,k,hw,ih]
 ·have e:dG (bI b c .t)=false:=jM hp
  rw [e];rw [Bo hp] at k;refine aB rfl rfl ?_;simp [h,hat,k,hw]
theorem acu:gB=[Ep,Es,Et,Eu,Ew,Ey,Ez,EC,ED,EF,EG,EH,EI,EJ,Ce,Ci,EK,Cj,EL,EM,EN,EO]:=rfl
theorem alK (b c:aK) (rb rc:List GV) (hbd:b.d.length<=140737488351232) (hcd:c.d.length<=140737488351232) (hbt:oh b.t) (hct:oh c.t):∀n∈gB,∃p,placeOf n=some p/\kU b c rb rc 133 n (bI b c p):=by
 intro n hn;rw [acu] at hn;simp only [dh,Di,or_false] at hn;rcases hn with rfl | rfl | rfl | rfl | rfl | rfl | rfl | rfl | rfl | rfl | rfl | rfl | rfl | rfl | rfl | rfl | rfl | rfl | rfl | rfl | rfl | rfl
 ·exact ⟨_,acW,aln b c rb rc⟩
 ·exact ⟨_,acX,alo b c rb rc⟩
 ·exact ⟨_,acY,alp b c rb rc⟩
 ·exact ⟨_,acZ,alq b c rb rc⟩
 ·exact ⟨_,ac0,alr b c rb rc⟩
 ·exact ⟨_,ac1,als b c rb rc⟩
 ·exact ⟨_,ac2,alu b c rb rc hbd hcd⟩
 ·exact ⟨_,ac3,alv b c rb rc⟩
 ·exact ⟨_,ac4,alx b c rb rc⟩
 ·exact ⟨_,ac5,aly b c rb rc⟩
 ·exact ⟨_,ac6,alz b c rb rc⟩
 ·exact ⟨_,ac7,alA b c rb rc⟩
 ·exact ⟨_,ac8,alB b c rb rc⟩
 ·exact ⟨_,ac9,alC b c rb rc⟩
 ·exact ⟨_,Wv,alD b c rb rc⟩
 ·exact ⟨_,Wx,alE b c rb rc⟩
 ·exact ⟨_,ada,alG b c rb rc⟩
 ·exact ⟨_,Wy,alH b c rb rc⟩
 ·exact ⟨_,adb,alI b c rb rc⟩
 ·exact ⟨_,ade,alJ b c rb rc⟩
 ·exact ⟨_,adf,alL b c rb rc hbt hct⟩
 ·exact ⟨_,adg,alM b c rb rc⟩
theorem adQ (b c:aK) (rb rc:List GV) (f:Nat) (Q:Pl->Prop) (hend:∀ (NL:List GV) (L:Int) (i:Nat),¬ (i:Int) < L->TT.lim f ([.l NL,.i .i64 L,.i .i64 i]++(fC c rc).cells++(fC b rb).cells)=some [.i .i64 1]) (hs:∀n∈gB,∃p,placeOf n=some p/\kU b c rb rc f n (Q p)):∀m i:Nat,i+m=gB.length->
 TT.lim f ([.l (gB.map .s),.i .i64 gB.length,.i .i64 i]++(fC c rc).cells++(fC b rb).cells)=some [.i .i64 (if dG (∀n∈gB.drop i,∀p,placeOf n=some p->Q p)=true then 1 else 0)]
 | 0,i,hi=>by
   have e:dG (∀n∈gB.drop i,∀p,placeOf n=some p->Q p)=true:=jZ (by rw [gJ (by omega)];simp);rw [e];exact hend _ _ i (by omega)
 | m+1,i,hi=>by
   have hlt:i < gB.length:=by omega
   have asZ:gB.length=22:=rfl;have hw:=wrap64 (n:=(i:Int)+1) (by omega) (by omega);have ih:=adQ b c rb rc f Q hend hs m (i+1) (by omega);obtain ⟨p,hp,hst⟩:=hs _ (jo hlt);have hat:(gB.map GV.s)[i]? = some (.s gB[i]):=by rw [jm,cO hlt];rfl
   have hcast:((i+1:Nat):Int)=(i:Int)+1:=by omega
   rw [hcast] at ih;have hx:=hst _ _ _ i (by omega) hat hw ih;rw [hx,jc hlt];have hq:(∀n∈gB[i]::gB.drop (i+1),∀p,placeOf n=some p->Q p)↔(Q p/\∀n∈gB.drop (i+1),∀p,placeOf n=some p->Q p):=by
    simp only [dh,forall_eq_or_imp];constructor
    ·exact λh=>⟨h.1 p hp,h.2⟩
    ·intro h
     refine ⟨λq hq=>?_,h.2⟩;rw [hp] at hq;injection hq with hq
     rw [<- hq];exact h.1
   rw [H9 hq];by_cases h1:Q p
   ·rw [jZ h1,aj rfl]
    have:dG (Q p/\∀n∈gB.drop (i+1),∀p,placeOf n=some p->Q p)=dG (∀n∈gB.drop (i+1),∀p,placeOf n=some p->Q p):=H9 ⟨λh=>h.2,λh=>⟨h1,h⟩⟩;rw [this]
   ·rw [jM h1,ah (by decide),jM λh=>h1 h.1,ah (by decide)]
theorem parts_all (b c:aK) (hk:b.kind=c.kind):(∀n∈gB,∀p,placeOf n=some p->bI b c p)↔b=c:=by
 constructor
 ·intro h
  rw [acu] at h;have h0:∀ {n:List UInt8} {p:Pl},n∈[Ep,Es,Et,Eu,Ew,Ey,Ez,EC,ED,EF,EG,EH,EI,EJ,Ce,Ci,EK,Cj,EL,EM,EN,EO]->placeOf n=some p->bI b c p:=λh1 h2=>h _ h1 _ h2;have anA:=h0 (by simp) adb;have anf:=h0 (by simp) acW;have anv:=h0 (by simp) Wv;have anz:=h0 (by simp) Wy;have anw:=h0 (by simp) Wx;have anl:=h0 (by simp) ac2;have anC:=h0 (by simp) adf;have anq:=h0 (by simp) ac6;have anu:=h0 (by simp) ac9;have ant:=h0 (by simp) ac8;have anh:=h0 (by simp) acY;have anp:=h0 (by simp) ac5;have anj:=h0 (by simp) ac0;have anx:=h0 (by simp) ada;have ank:=h0 (by simp) ac1;have anB:=h0 (by simp) ade;have ano:=h0 (by simp) ac4;have ang:=h0 (by simp) acX;have anm:=h0 (by simp) ac3;have anr:=h0 (by simp) ac7;have ani:=h0 (by simp) acZ;have anD:=h0 (by simp) adg;clear h h0;cases b;cases c;simp only [bI,jH] at *;subst hk;subst anA;subst anf;subst anv;subst anz;subst anw;subst anl;subst anC;subst anq;subst anu;subst ant;subst anh;subst anp;subst anj;subst anx;subst ank;subst anB;subst ano;subst ang;subst anm;subst anr;subst ani;subst anD;rfl
 ·rintro rfl n _ p _
  cases p<;>simp [bI]
theorem alF (b c:aK) (fb fc:List aC) (hbd:b.d.length<=40) (hcd:c.d.length<=40) (hbt:oh b.t) (hct:oh c.t) (hb8:cu fb) (hc8:cu fc) (hbl:fb.length<=1000000) (hcl:fc.length<=1000000) (hsz:bV fb<=1000000):TT.lim 132 [fC b (aA fb),fC c (aA fc)]=some [.b (dG (b=c/\fb=fc))]:=by
 have h8:=aiY fb fc hb8 hc8 hbl hcl hsz;have hn:=acp;have h0:=adQ b c (aA fb) (aA fc) 133 (bI b c) (λNL L i h=>by
  rw [dX,dX];simp only [eG,dA];refine aB rfl rfl ?_;simp [h]) (alK b c (aA fb) (aA fc) (by omega) (by omega) hbt hct) gB.length 0 (by omega)
 have hal:((gB.map GV.s).length:Int)=(gB.length:Int):=by rw [vO]
 rw [eP] at h0;rw [dX,dX] at h0;simp only [eG,dA,zf] at h0;by_cases hk:b.kind=c.kind;rotate_left
 ·rw [jM λh=>hk (by rw [h.1])]
  refine aY rfl rfl ?_ rfl;simp [hk]
 have hpa:=parts_all b c hk;replace hk:(b.kind=c.kind)=True:=eq_true hk
 rw [H9 hpa] at h0;clear hpa;generalize gB.map GV.s=NL at *;generalize (gB.length:Int)=L at *;by_cases hbc:b=c
 ·rw [jZ hbc] at h0
  have e:dG (b=c/\fb=fc)=dG (fb=fc):=H9 ⟨λh=>h.2,λh=>⟨hbc,h⟩⟩;rw [e];generalize dG (fb=fc)=u at *;simp only [if_true] at h0;refine aY rfl rfl ?_ rfl;simp [hk,hn,hal,h0,h8]
 ·rw [jM hbc] at h0
  rw [jM λh=>hbc h.1];simp only [gU,if_false] at h0;refine aY rfl rfl ?_ rfl;simp [hk,hn,hal,h0]
theorem arn {n:Int} (hn:0<=n/\n < 18446744073709551616) : -9223372036854775808<=xK n/\xK n<=9223372036854775807:=by
 unfold xK;split<;>omega
theorem adS {b:aK} {n:Int} {s:List UInt8} {p:Pl} {ty:Int} (hb:vJ b) (hd:iJ b.d=true) (ht:oh b.t) (hn:0<=n/\n < 18446744073709551616) (hs:s.length<=100000000) (h:jD ty n s p=0):vJ (setB b n s p)/\iJ (setB b n s p).d=true/\oh (setB b n s p).t:=by
 have hE:nX n s p=0:=by
  unfold jD at h;split at h
  ·split at h<;>split at h<;>first | exact h | exact absurd h (by decide)
  ·exact absurd h (by decide)
 cases p with
 | rem=>exact ⟨{ hb with remaining:=arn hn },hd,ht⟩
 | allow=>exact ⟨{ hb with },hd,ht⟩
 | name=>exact ⟨{ hb with name:=by show s.length<=_;omega },hd,ht⟩
 | region=>exact ⟨{ hb with region:=by show s.length<=_;omega },hd,ht⟩
 | note=>exact ⟨{ hb with note:=by show s.length<=_;omega },hd,ht⟩
 | d=>
   have hp:=Tq (s:=s) hE hs;exact ⟨{ hb with d:=hp.ents },hp.few,ht⟩
 | t=>
   have hp:=(aex (s:=s) hs).1;exact ⟨{ hb with t:=hp.rows },hd,hp.good⟩
 | num k=>
   unfold setB;split<;>rename_i hk
   ·exact absurd hk (by simp)
   ·exact absurd hk (by simp)
   ·exact absurd hk (by simp)
   ·exact absurd hk (by simp)
   ·exact absurd hk (by simp)
   ·exact absurd hk (by simp)
   ·exact absurd hk (by simp)
   ·split<;>exact ⟨by constructor<;>first | exact hn | exact hb.kind | exact hb.id | exact hb.min | exact hb.max | exact hb.chosen | exact hb.flags | exact hb.cost | exact hb.priority | exact hb.deadline | exact hb.retry | exact hb.epoch | exact hb.base | exact hb.digest | exact hb.lag | exact hb.code | exact hb.want | exact hb.remaining | exact hb.name | exact hb.region | exact hb.note | exact hb.d | exact hb.t,hd,ht⟩
structure ou (b:aK) (fl:List aC):Prop where
 body:vJ b
 d:iJ b.d=true
 t:oh b.t
 f8:cu fl
 len:fl.length<=1000000
theorem CZ:ou dw []:=⟨by constructor<;>simp [dw,uK,Rows],by simp [dw,iJ],⟨by simp [dw],by intro r hr;simp [dw] at hr,by simp [dw,Rows]⟩,by simp only [cu],by simp⟩
theorem ou.alm {b c:aK} {fb fc:List aC} (h:ou b fb) (k:ou c fc) (hsz:bV fb<=1000000):TT.lim 132 [fC b (aA fb),fC c (aA fc)]=some [.b (dG (b=c/\fb=fc))]:=alF b c fb fc (TQ h.d) (TQ k.d) h.t k.t h.f8 k.f8 h.len k.len hsz
theorem ou.acn {b:aK} {fb:List aC} (h:ou b fb) (hsz:bV fb<=1000000):TT.lim 132 [fC b (aA fb),fC b (aA fb)]=some [.b true]:=by
 rw [h.alm h hsz,jZ ⟨rfl,rfl⟩]
theorem anJ {b:aK} {l:List One} (hb:vJ b) (hl:Ones l) (h:G6 b l=true):ou b (rX l)/\bV (rX l)<=1000000/\tX l=true:=by
 unfold G6 at h;simp only [aI] at h;obtain ⟨hok,hlen⟩:=ak4 l hl h.2.2.2.2.2;have h60:l.length<=60:=by
  have:=h.2.2.2.2.2;unfold tX at this;rw [aI,decide_eq_true_iff] at this;exact this.2
 have hsz:=abZ l;exact ⟨⟨hb,h.2.2.2.1,aji hb.t h.2.2.2.2.1,hok,hlen⟩,by omega,h.2.2.2.2.2⟩
theorem alO (b:aK) (r:List GV) (hb:vJ b) (hd:iJ b.d=true) (hf:FP b.t) (n:List UInt8):(∃p,placeOf n=some p/\TT.lim 76 [fC b r,.s n]=some [.g [.i .u64 0,.i .i64 (bJ p),.i .u64 (aP b p).1,.s (aP b p).2,.l []],.b true])\/
 (placeOf n=none/\TT.lim 76 [fC b r,.s n]=some [.g [.i .u64 0,.i .i64 0,.i .u64 0,.s [],.l []],.b false]):=by
 cases hp:placeOf n with
 | some p=>exact .inl ⟨p,rfl,alN b r hb (λ_=>hd) (λ_=>hf) hp⟩
 | none=>exact .inr ⟨rfl,alQ b r hp⟩
theorem alP {b:aK} {fl:List aC} (h:ou b fl) {n:List UInt8} {p:Pl} (hp:placeOf n=some p):TT.lim 76 [fC b (aA fl),.s n]=some [.g [.i .u64 0,.i .i64 (bJ p),.i .u64 (aP b p).1,.s (aP b p).2,.l []],.b true]:=by
 rcases alO b (aA fl) h.body h.d h.t.few n with ⟨q,hq,hv⟩ | ⟨hq, -⟩
 ·rw [hp] at hq
  injection hq with hq
  rw [hq];exact hv
 ·rw [hp] at hq;cases hq
/-- A message, one part told anew. -/
def vw (b c:aK):Pl->aK
 | .rem=>{ c with remaining:=b.remaining }
 | .allow=>{ c with allowed:=b.allowed }
 | .name=>{ c with name:=b.name }
 | .region=>{ c with region:=b.region }
 | .note=>{ c with note:=b.note }
 | .d=>{ c with d:=b.d }
 | .t=>{ c with t:=b.t }
 | .num k=>match k with
   | 0=>{ c with id:=b.id }
   | 1=>{ c with min:=b.min }
   | 2=>{ c with max:=b.max }
   | 3=>{ c with chosen:=b.chosen }
   | 4=>{ c with flags:=b.flags }
   | 5=>{ c with cost:=b.cost }
   | 6=>{ c with priority:=b.priority }
   | 7=>{ c with deadline:=b.deadline }
   | 8=>{ c with retry:=b.retry }
   | 9=>{ c with epoch:=b.epoch }
   | 10=>{ c with base:=b.base }
   | 11=>{ c with digest:=b.digest }
   | 12=>{ c with lag:=b.lag }
   | 13=>{ c with code:=b.code }
   | _=>{ c with want:=b.want }
theorem am9 (b c:aK) (p:Pl):(vw b c p).kind=c.kind:=by
 unfold vw;split<;>first | rfl | (split<;>rfl)
theorem ana (b c:aK) (j k:Nat) (hk:k < 15) (hj:j < 15) (hne:j≠k):jH (vw b c (.num k)) j=jH c j:=by
 rcases k with _ | _ | _ | _ | _ | _ | _ | _ | _ | _ | _ | _ | _ | _ | _ | k
 all_goals first | (exfalso;omega) | skip
 all_goals (rcases j with _ | _ | _ | _ | _ | _ | _ | _ | _ | _ | _ | _ | _ | _ | _ | j)<;>first | rfl | exact absurd rfl hne | (exfalso;omega)
theorem aro (x:Int) (h : -9223372036854775808<=x/\x<=9223372036854775807):xK (zz x)=x:=by
 unfold xK zz;split<;>split<;>omega
theorem arj (x:Int) (h : -9223372036854775808<=x/\x<=9223372036854775807):0<=zz x/\zz x < 18446744073709551616:=by
 unfold zz;split<;>omega
theorem acO (t:List Row) (ht:oh t):(lY t).length<=90000000:=by
 have h:=WY t [] (λr hr=>⟨ht.few r hr,(ht.rows.2 r hr).2⟩);have h3:=ht.len;have hv:(aJ t.length).length<=20:=by
  have:=lD (n:=t.length) (by omega);omega
 unfold lY;rw [dS];have:40000 * t.length<=40000 * 300:=RX _ h3;omega
/-- What may be, and is something, is put as it was read. -/
theorem ao7 {b:aK} {fl:List aC} (h:ou b fl) (hw:b.name.length<=600/\b.region.length<=600/\b.note.length<=600) (p:Pl) (hm:jf b p=0) (hne:¬ ((aP b p).1=0/\(aP b p).2=[])) :
 jD (bJ p) (aP b p).1 (aP b p).2 p=0/\(0<=(aP b p).1/\(aP b p).1 < 18446744073709551616)/\(aP b p).2.length<=100000000/\∀c,setB c (aP b p).1 (aP b p).2 p=vw b c p:=by
 cases p with
 | rem=>
   have hx:=h.body.remaining;have hz:=aro b.remaining hx;have hl:=arj b.remaining hx;simp only [aP] at hne ⊢;have hn0:¬ zz b.remaining=0:=λe=>hne ⟨e,trivial⟩;refine ⟨by unfold jD;simp [bJ,hn0,nX],hl,by simp,λc=>?_⟩;simp only [setB,hz,vw]
 | allow=>
   simp only [aP] at hne ⊢;cases ha:b.allowed with
   | false=>rw [ha] at hne;exact absurd ⟨rfl,trivial⟩ hne
   | true=>
     refine ⟨by unfold jD;simp [bJ,nX],by simp,by simp,λc=>?_⟩;simp only [setB,vw,ha]
 | name=>
   simp only [aP] at hne ⊢;have hn0:¬ b.name=[]:=λe=>hne ⟨trivial,e⟩;simp only [jf] at hm;refine ⟨by unfold jD;simp [bJ,hn0,nX,hm],by simp,by omega,λc=>rfl⟩
 | region=>
   simp only [aP] at hne ⊢;have hn0:¬ b.region=[]:=λe=>hne ⟨trivial,e⟩;simp only [jf] at hm;refine ⟨by unfold jD;simp [bJ,hn0,nX,hm],by simp,by omega,λc=>rfl⟩
 | note=>
   simp only [aP] at hne ⊢;have hn0:¬ b.note=[]:=λe=>hne ⟨trivial,e⟩;simp only [jf] at hm;refine ⟨by unfold jD;simp [bJ,hn0,nX,hm],by simp,by omega,λc=>rfl⟩
 | d=>
   simp only [aP] at hne ⊢;have hd0:b.d≠[]:=λe=>hne ⟨trivial,by rw [aj e]⟩;simp only [jf,ah hd0] at hm;have hp:=Z9 b.d hm;have hk:=KG h.d;have hk0:iF b.d≠[]:=λe=>hne ⟨trivial,by rw [ah hd0];exact e⟩;rw [ah hd0];refine ⟨?_,by simp,by omega,λc=>?_⟩
   ·unfold jD
    simp [bJ,hk0,nX,hp]
   ·simp only [setB,vw,hp]
 | t=>
   simp only [aP] at hne ⊢;have ht0:b.t≠[]:=λe=>hne ⟨trivial,by rw [aj e]⟩;simp only [jf] at hm;have hk:yM b.t=(lY b.t,0):=by unfold yM;rw [ah (by simpa using hm)]
   rw [ah ht0,hk] at hne ⊢;have hp:=aqo b.t ⟨(SV _).1 hm,h.t.few,h.t.rows⟩;have hl:=acO b.t h.t;have hk0:lY b.t≠[]:=λe=>hne ⟨trivial,e⟩;refine ⟨?_,by simp,by simp only;omega,λc=>?_⟩
   ·have hl0:¬ b.t.length=0:=λe=>ht0 (jd e)
    unfold jD;simp [bJ,hk0,nX,hp,hl0,ht0]
   ·simp only [setB,vw,hp]
 | num k=>
   simp only [aP] at hne ⊢;have hn0:¬ jH b k=0:=λe=>hne ⟨e,trivial⟩;refine ⟨by unfold jD;simp [bJ,hn0,nX], ?_,by simp,λc=>?_⟩
   ·have q:=h.body
    unfold jH;split<;>first | exact q.id | exact q.min | exact q.max | exact q.chosen | exact q.flags | exact q.cost | exact q.priority | exact q.deadline | exact q.retry | exact q.epoch | exact q.base | exact q.digest | exact q.lag | exact q.code | exact q.want
   ·rcases k with _ | _ | _ | _ | _ | _ | _ | _ | _ | _ | _ | _ | _ | _ | k<;>rfl
theorem PK (b:aK):∀ (l:List cZ),lX b l=0->∀s∈l,uY b s.name=0
 | [],_,s,hs=>by cases hs
 | x::l,h,s,hs=>by
   unfold lX at h;split at h
   ·rename_i h0
    rcases dh.1 hs with rfl | hs
    ·exact h0
    ·exact PK b l h s hs
   ·rename_i h0
    exact absurd h h0
theorem al2 (b:aK) (p:Pl) (h:fM b p=true):(aP b p).1=0/\(aP b p).2=[]:=by
 cases p with
 | rem=>simp only [fM,decide_eq_true_iff] at h;simp [aP,h,zz]
 | allow=>simp only [fM,uJ] at h;simp [aP,h]
 | num k=>simp only [fM,decide_eq_true_iff] at h;simp [aP,h]
 | _=>simp only [fM,decide_eq_true_iff] at h;simp [aP,h]
theorem af9 {b:aK} {fl:List aC} {v:Int} (h:fZ b fl v=0) {n:List UInt8} {p:Pl} (hp:placeOf n=some p) (hne:¬ ((aP b p).1=0/\(aP b p).2=[])):jf b p=0:=by
 unfold fZ at h;split at h; · cases h
 split at h; · cases h
 split at h; · cases h
 split at h; · cases h
 rename_i hall
 split at h
 ·rename_i hm;exact absurd h hm
 rename_i hm
 have hm:lX b (aH b.kind v)=0:=by simpa using hm
 have hall:gB.all (λn=>nM (aH b.kind v) n || ng b n)=true:=by rw [L6] at hall;exact hall
 have h1:=List.all_eq_true.1 hall n (su n p hp).2.2;have h2:ng b n=fM b p:=by unfold ng;rw [hp]
 rw [h2] at h1;cases hn:fM b p with
 | true=>exact absurd (al2 b p hn) hne
 | false=>
   rw [hn,y8] at h1;unfold nM at h1;rw [List.any_eq_true] at h1;obtain ⟨s,hs,e⟩:=h1;have e:s.name=n:=by simpa using e
   have h3:=PK b _ hm s hs;unfold uY at h3;rw [e,hp] at h3;exact h3
end S
end Go.Proofs.YtnlegpmfkopalaaGreatDoor
