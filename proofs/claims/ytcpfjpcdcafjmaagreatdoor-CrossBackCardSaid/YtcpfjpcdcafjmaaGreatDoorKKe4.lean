/- What the trees compute: plain laws. -/
import Derived.Test.YtcpfjpcdcafjmaaGreatDoorKKe2
namespace Go.Proofs.YtcpfjpcdcafjmaaGreatDoor
open Go Go.aO
set_option linter.unusedSimpArgs false
set_option linter.unusedVariables false
set_option maxRecDepth 100000
namespace K
def aZ (b c:aB):Pl->Prop
 | .rem=>b.remaining=c.remaining
 | .allow=>b.allowed=c.allowed
 | .name=>b.name=c.name
 | .region=>b.region=c.region
 | .note=>b.note=c.note
 | .d=>b.d=c.d
 | .t=>b.t=c.t
 | .num k=>fE b k=fE c k
def kV (b c:aB) (rb rc:List GV) (f:Nat) (n:List UInt8) (p:Prop):Prop:=∀ (NL:List GV) (L K:Int) (i:Nat),(i:Int) < L->NL[i]? = some (.s n)->IntKind.i64.wrap ((i:Int)+1)=(i:Int)+1->TT.lim f ([.l NL,.i .i64 L,.i .i64 ((i:Int)+1)]++(bU c rc).cells++(bU b rb).cells)=some [.i .i64 K]->TT.lim f ([.l NL,.i .i64 L,.i .i64 i]++(bU c rc).cells++(bU b rb).cells)=some [.i .i64 (if dn p=true then K else 0)]
theorem al3 (b c:aB) (rb rc:List GV):kV b c rb rc 131 lS (aZ b c (.num 0)):=by
 intro NL L K i h hat hw ih;rw [dV,dV] at ih ⊢;simp only [cu,bK] at ih ⊢;unfold lS at hat;by_cases hp:b.id=c.id
 ·have e:dn (aZ b c (.num 0))=true:=jP hp
  rw [e];replace hp:=eq_true hp
  refine ay rfl rfl ?_;simp [h,hat,hp,hw,ih]
 ·have e:dn (aZ b c (.num 0))=false:=jK hp
  rw [e];refine ay rfl rfl ?_;simp [h,hat,hp,hw]
theorem al6 (b c:aB) (rb rc:List GV):kV b c rb rc 131 lV (aZ b c (.num 1)):=by
 intro NL L K i h hat hw ih;rw [dV,dV] at ih ⊢;simp only [cu,bK] at ih ⊢;unfold lV at hat;by_cases hp:b.min=c.min
 ·have e:dn (aZ b c (.num 1))=true:=jP hp
  rw [e];replace hp:=eq_true hp
  refine ay rfl rfl ?_;simp [h,hat,hp,hw,ih]
 ·have e:dn (aZ b c (.num 1))=false:=jK hp
  rw [e];refine ay rfl rfl ?_;simp [h,hat,hp,hw]
theorem al5 (b c:aB) (rb rc:List GV):kV b c rb rc 131 lU (aZ b c (.num 2)):=by
 intro NL L K i h hat hw ih;rw [dV,dV] at ih ⊢;simp only [cu,bK] at ih ⊢;unfold lU at hat;by_cases hp:b.max=c.max
 ·have e:dn (aZ b c (.num 2))=true:=jP hp
  rw [e];replace hp:=eq_true hp
  refine ay rfl rfl ?_;simp [h,hat,hp,hw,ih]
 ·have e:dn (aZ b c (.num 2))=false:=jK hp
  rw [e];refine ay rfl rfl ?_;simp [h,hat,hp,hw]
theorem alV (b c:aB) (rb rc:List GV):kV b c rb rc 131 lG (aZ b c (.num 3)):=by
 intro NL L K i h hat hw ih;rw [dV,dV] at ih ⊢;simp only [cu,bK] at ih ⊢;unfold lG at hat;by_cases hp:b.chosen=c.chosen
 ·have e:dn (aZ b c (.num 3))=true:=jP hp
  rw [e];replace hp:=eq_true hp
  refine ay rfl rfl ?_;simp [h,hat,hp,hw,ih]
 ·have e:dn (aZ b c (.num 3))=false:=jK hp
  rw [e];refine ay rfl rfl ?_;simp [h,hat,hp,hw]
theorem al2 (b c:aB) (rb rc:List GV):kV b c rb rc 131 lQ (aZ b c (.num 4)):=by
 intro NL L K i h hat hw ih;rw [dV,dV] at ih ⊢;simp only [cu,bK] at ih ⊢;unfold lQ at hat;by_cases hp:b.flags=c.flags
 ·have e:dn (aZ b c (.num 4))=true:=jP hp
  rw [e];replace hp:=eq_true hp
  refine ay rfl rfl ?_;simp [h,hat,hp,hw,ih]
 ·have e:dn (aZ b c (.num 4))=false:=jK hp
  rw [e];refine ay rfl rfl ?_;simp [h,hat,hp,hw]
theorem alX (b c:aB) (rb rc:List GV):kV b c rb rc 131 lI (aZ b c (.num 5)):=by
 intro NL L K i h hat hw ih;rw [dV,dV] at ih ⊢;simp only [cu,bK] at ih ⊢;unfold lI at hat;by_cases hp:b.cost=c.cost
 ·have e:dn (aZ b c (.num 5))=true:=jP hp
  rw [e];replace hp:=eq_true hp
  refine ay rfl rfl ?_;simp [h,hat,hp,hw,ih]
 ·have e:dn (aZ b c (.num 5))=false:=jK hp
  rw [e];refine ay rfl rfl ?_;simp [h,hat,hp,hw]
theorem ama (b c:aB) (rb rc:List GV):kV b c rb rc 131 lW (aZ b c (.num 6)):=by
 intro NL L K i h hat hw ih;rw [dV,dV] at ih ⊢;simp only [cu,bK] at ih ⊢;unfold lW at hat;by_cases hp:b.priority=c.priority
 ·have e:dn (aZ b c (.num 6))=true:=jP hp
  rw [e];replace hp:=eq_true hp
  refine ay rfl rfl ?_;simp [h,hat,hp,hw,ih]
 ·have e:dn (aZ b c (.num 6))=false:=jK hp
  rw [e];refine ay rfl rfl ?_;simp [h,hat,hp,hw]
theorem alY (b c:aB) (rb rc:List GV):kV b c rb rc 131 lJ (aZ b c (.num 7)):=by
 intro NL L K i h hat hw ih;rw [dV,dV] at ih ⊢;simp only [cu,bK] at ih ⊢;unfold lJ at hat;by_cases hp:b.deadline=c.deadline
 ·have e:dn (aZ b c (.num 7))=true:=jP hp
  rw [e];replace hp:=eq_true hp
  refine ay rfl rfl ?_;simp [h,hat,hp,hw,ih]
 ·have e:dn (aZ b c (.num 7))=false:=jK hp
  rw [e];refine ay rfl rfl ?_;simp [h,hat,hp,hw]
theorem amd (b c:aB) (rb rc:List GV):kV b c rb rc 131 lY (aZ b c (.num 8)):=by
 intro NL L K i h hat hw ih;rw [dV,dV] at ih ⊢;simp only [cu,bK] at ih ⊢;unfold lY at hat;by_cases hp:b.retry=c.retry
 ·have e:dn (aZ b c (.num 8))=true:=jP hp
  rw [e];replace hp:=eq_true hp
  refine ay rfl rfl ?_;simp [h,hat,hp,hw,ih]
 ·have e:dn (aZ b c (.num 8))=false:=jK hp
  rw [e];refine ay rfl rfl ?_;simp [h,hat,hp,hw]
theorem al1 (b c:aB) (rb rc:List GV):kV b c rb rc 131 lN (aZ b c (.num 9)):=by
 intro NL L K i h hat hw ih;rw [dV,dV] at ih ⊢;simp only [cu,bK] at ih ⊢;unfold lN at hat;by_cases hp:b.epoch=c.epoch
 ·have e:dn (aZ b c (.num 9))=true:=jP hp
  rw [e];replace hp:=eq_true hp
  refine ay rfl rfl ?_;simp [h,hat,hp,hw,ih]
 ·have e:dn (aZ b c (.num 9))=false:=jK hp
  rw [e];refine ay rfl rfl ?_;simp [h,hat,hp,hw]
theorem alU (b c:aB) (rb rc:List GV):kV b c rb rc 131 lF (aZ b c (.num 10)):=by
 intro NL L K i h hat hw ih;rw [dV,dV] at ih ⊢;simp only [cu,bK] at ih ⊢;unfold lF at hat;by_cases hp:b.base=c.base
 ·have e:dn (aZ b c (.num 10))=true:=jP hp
  rw [e];replace hp:=eq_true hp
  refine ay rfl rfl ?_;simp [h,hat,hp,hw,ih]
 ·have e:dn (aZ b c (.num 10))=false:=jK hp
  rw [e];refine ay rfl rfl ?_;simp [h,hat,hp,hw]
theorem al0 (b c:aB) (rb rc:List GV):kV b c rb rc 131 lM (aZ b c (.num 11)):=by
 intro NL L K i h hat hw ih;rw [dV,dV] at ih ⊢;simp only [cu,bK] at ih ⊢;unfold lM at hat;by_cases hp:b.digest=c.digest
 ·have e:dn (aZ b c (.num 11))=true:=jP hp
  rw [e];replace hp:=eq_true hp
  refine ay rfl rfl ?_;simp [h,hat,hp,hw,ih]
 ·have e:dn (aZ b c (.num 11))=false:=jK hp
  rw [e];refine ay rfl rfl ?_;simp [h,hat,hp,hw]
theorem al4 (b c:aB) (rb rc:List GV):kV b c rb rc 131 lT (aZ b c (.num 12)):=by
 intro NL L K i h hat hw ih;rw [dV,dV] at ih ⊢;simp only [cu,bK] at ih ⊢;unfold lT at hat;by_cases hp:b.lag=c.lag
 ·have e:dn (aZ b c (.num 12))=true:=jP hp
  rw [e];replace hp:=eq_true hp
  refine ay rfl rfl ?_;simp [h,hat,hp,hw,ih]
 ·have e:dn (aZ b c (.num 12))=false:=jK hp
  rw [e];refine ay rfl rfl ?_;simp [h,hat,hp,hw]
theorem alW (b c:aB) (rb rc:List GV):kV b c rb rc 131 lH (aZ b c (.num 13)):=by
 intro NL L K i h hat hw ih;rw [dV,dV] at ih ⊢;simp only [cu,bK] at ih ⊢;unfold lH at hat;by_cases hp:b.code=c.code
 ·have e:dn (aZ b c (.num 13))=true:=jP hp
  rw [e];replace hp:=eq_true hp
  refine ay rfl rfl ?_;simp [h,hat,hp,hw,ih]
 ·have e:dn (aZ b c (.num 13))=false:=jK hp
  rw [e];refine ay rfl rfl ?_;simp [h,hat,hp,hw]
theorem amg (b c:aB) (rb rc:List GV):kV b c rb rc 131 l7 (aZ b c (.num 14)):=by
 intro NL L K i h hat hw ih;rw [dV,dV] at ih ⊢;simp only [cu,bK] at ih ⊢;unfold l7 at hat;by_cases hp:b.want=c.want
 ·have e:dn (aZ b c (.num 14))=true:=jP hp
  rw [e];replace hp:=eq_true hp
  refine ay rfl rfl ?_;simp [h,hat,hp,hw,ih]
 ·have e:dn (aZ b c (.num 14))=false:=jK hp
  rw [e];refine ay rfl rfl ?_;simp [h,hat,hp,hw]
theorem amc (b c:aB) (rb rc:List GV):kV b c rb rc 131 lX (aZ b c .rem):=by
 intro NL L K i h hat hw ih;rw [dV,dV] at ih ⊢;simp only [cu,bK] at ih ⊢;unfold lX at hat;by_cases hp:b.remaining=c.remaining
 ·have e:dn (aZ b c .rem)=true:=jP hp
  rw [e];replace hp:=eq_true hp
  refine ay rfl rfl ?_;simp [h,hat,hp,hw,ih]
 ·have e:dn (aZ b c .rem)=false:=jK hp
  rw [e];refine ay rfl rfl ?_;simp [h,hat,hp,hw]
theorem alT (b c:aB) (rb rc:List GV):kV b c rb rc 131 lD (aZ b c .allow):=by
 intro NL L K i h hat hw ih;rw [dV,dV] at ih ⊢;simp only [cu,bK] at ih ⊢;unfold lD at hat;by_cases hp:b.allowed=c.allowed
 ·have e:dn (aZ b c .allow)=true:=jP hp
  rw [e];replace hp:=eq_true hp
  refine ay rfl rfl ?_;simp [h,hat,hp,hw,ih]
 ·have e:dn (aZ b c .allow)=false:=jK hp
  rw [e];refine ay rfl rfl ?_;simp [h,hat,hp,hw]
theorem al7 (b c:aB) (rb rc:List GV):kV b c rb rc 131 kR (aZ b c .name):=by
 intro NL L K i h hat hw ih;rw [dV,dV] at ih ⊢;simp only [cu,bK] at ih ⊢;unfold kR at hat;by_cases hp:b.name=c.name
 ·have e:dn (aZ b c .name)=true:=jP hp
  rw [e];replace hp:=eq_true hp
  refine ay rfl rfl ?_;simp [h,hat,hp,hw,ih]
 ·have e:dn (aZ b c .name)=false:=jK hp
  rw [e];refine ay rfl rfl ?_;simp [h,hat,hp,hw]
theorem amb (b c:aB) (rb rc:List GV):kV b c rb rc 131 kT (aZ b c .region):=by
 intro NL L K i h hat hw ih;rw [dV,dV] at ih ⊢;simp only [cu,bK] at ih ⊢;unfold kT at hat;by_cases hp:b.region=c.region
 ·have e:dn (aZ b c .region)=true:=jP hp
  rw [e];replace hp:=eq_true hp
  refine ay rfl rfl ?_;simp [h,hat,hp,hw,ih]
 ·have e:dn (aZ b c .region)=false:=jK hp
  rw [e];refine ay rfl rfl ?_;simp [h,hat,hp,hw]
theorem al8 (b c:aB) (rb rc:List GV):kV b c rb rc 131 kS (aZ b c .note):=by
 intro NL L K i h hat hw ih;rw [dV,dV] at ih ⊢;simp only [cu,bK] at ih ⊢;unfold kS at hat;by_cases hp:b.note=c.note
 ·have e:dn (aZ b c .note)=true:=jP hp
  rw [e];replace hp:=eq_true hp
  refine ay rfl rfl ?_;simp [h,hat,hp,hw,ih]
 ·have e:dn (aZ b c .note)=false:=jK hp
  rw [e];refine ay rfl rfl ?_;simp [h,hat,hp,hw]
theorem alZ (b c:aB) (rb rc:List GV) (hbd:b.d.length<=140737488351232) (hcd:c.d.length<=140737488351232):kV b c rb rc 131 lK (aZ b c .d):=by
 intro NL L K i h hat hw ih;rw [dV,dV] at ih ⊢;simp only [cu,bK] at ih ⊢;unfold lK at hat;have k:=abh b.d c.d hbd hcd;by_cases hp:b.d=c.d
 ·have e:dn (aZ b c .d)=true:=jP hp
  rw [e];rw [yh hp] at k;refine ay rfl rfl ?_;simp [h,hat,k,hw,ih]
 ·have e:dn (aZ b c .d)=false:=jK hp
  rw [e];rw [yg hp] at k;refine ay rfl rfl ?_;simp [h,hat,k,hw]
theorem amf (b c:aB) (rb rc:List GV) (hbt:oD b.t) (hct:oD c.t):kV b c rb rc 131 lZ (aZ b c .t):=by
 intro NL L K i h hat hw ih;rw [dV,dV] at ih ⊢;simp only [cu,bK] at ih ⊢;unfold lZ at hat;have k:=apq b.t c.t hbt hct;by_cases hp:b.t=c.t
 ·have e:dn (aZ b c .t)=true:=jP hp
  rw [e];rw [yh hp] at k;refine ay rfl rfl ?_;simp [h,hat,k,hw,ih]
 ·have e:dn (aZ b c .t)=false:=jK hp
  rw [e];rw [yg hp] at k;refine ay rfl rfl ?_;simp [h,hat,k,hw]
theorem l9:dR=[lD,lF,lG,lH,lI,lJ,lK,lM,lN,lQ,lS,lT,lU,lV,kR,kS,lW,kT,lX,lY,lZ,l7]:=rfl
theorem ame (b c:aB) (rb rc:List GV) (hbd:b.d.length<=140737488351232) (hcd:c.d.length<=140737488351232) (hbt:oD b.t) (hct:oD c.t):∀n∈dR,∃p,placeOf n=some p/\kV b c rb rc 131 n (aZ b c p):=by
 intro n hn;rw [l9] at hn;simp only [cO,Eo,or_false] at hn;rcases hn with rfl | rfl | rfl | rfl | rfl | rfl | rfl | rfl | rfl | rfl | rfl | rfl | rfl | rfl | rfl | rfl | rfl | rfl | rfl | rfl | rfl | rfl
 ·exact ⟨_,Dz,alT b c rb rc⟩
 ·exact ⟨_,DC,alU b c rb rc⟩
 ·exact ⟨_,DF,alV b c rb rc⟩
 ·exact ⟨_,DI,alW b c rb rc⟩
 ·exact ⟨_,DJ,alX b c rb rc⟩
 ·exact ⟨_,DK,alY b c rb rc⟩
 ·exact ⟨_,DL,alZ b c rb rc hbd hcd⟩
 ·exact ⟨_,DN,al0 b c rb rc⟩
 ·exact ⟨_,DR,al1 b c rb rc⟩
 ·exact ⟨_,DT,al2 b c rb rc⟩
 ·exact ⟨_,DU,al3 b c rb rc⟩
 ·exact ⟨_,DV,al4 b c rb rc⟩
 ·exact ⟨_,DW,al5 b c rb rc⟩
 ·exact ⟨_,DX,al6 b c rb rc⟩
 ·exact ⟨_,Bj,al7 b c rb rc⟩
 ·exact ⟨_,Bl,al8 b c rb rc⟩
 ·exact ⟨_,DY,ama b c rb rc⟩
 ·exact ⟨_,Bo,amb b c rb rc⟩
 ·exact ⟨_,DZ,amc b c rb rc⟩
 ·exact ⟨_,D5,amd b c rb rc⟩
 ·exact ⟨_,D6,amf b c rb rc hbt hct⟩
 ·exact ⟨_,D7,amg b c rb rc⟩
theorem aep (b c:aB) (rb rc:List GV) (f:Nat) (Q:Pl->Prop) (hend:∀ (NL:List GV) (L:Int) (i:Nat),¬ (i:Int) < L->TT.lim f ([.l NL,.i .i64 L,.i .i64 i]++(bU c rc).cells++(bU b rb).cells)=some [.i .i64 1]) (hs:∀n∈dR,∃p,placeOf n=some p/\kV b c rb rc f n (Q p)):∀m i:Nat,i+m=dR.length->
 TT.lim f ([.l (dR.map .s),.i .i64 dR.length,.i .i64 i]++(bU c rc).cells++(bU b rb).cells)=some [.i .i64 (if dn (∀n∈dR.drop i,∀p,placeOf n=some p->Q p)=true then 1 else 0)]
 | 0,i,hi=>by
   have e:dn (∀n∈dR.drop i,∀p,placeOf n=some p->Q p)=true:=jP (by rw [gG (by omega)];simp);rw [e];exact hend _ _ i (by omega)
 | m+1,i,hi=>by
   have hlt:i < dR.length:=by omega
   have auQ:dR.length=22:=rfl;have hw:=wrap64 (n:=(i:Int)+1) (by omega) (by omega);have ih:=aep b c rb rc f Q hend hs m (i+1) (by omega);obtain ⟨p,hp,hst⟩:=hs _ (jf hlt);have hat:(dR.map GV.s)[i]? = some (.s dR[i]):=by rw [iL,bT hlt];rfl
   have hcast:((i+1:Nat):Int)=(i:Int)+1:=by omega
   rw [hcast] at ih;have hx:=hst _ _ _ i (by omega) hat hw ih;rw [hx,iQ hlt];have hq:(∀n∈dR[i]::dR.drop (i+1),∀p,placeOf n=some p->Q p)↔(Q p/\∀n∈dR.drop (i+1),∀p,placeOf n=some p->Q p):=by
    simp only [cO,forall_eq_or_imp];constructor
    ·exact λh=>⟨h.1 p hp,h.2⟩
    ·intro h
     refine ⟨λq hq=>?_,h.2⟩;rw [hp] at hq;injection hq with hq
     rw [<- hq];exact h.1
   rw [IB hq];by_cases h1:Q p
   ·rw [jP h1,aj rfl]
    have:dn (Q p/\∀n∈dR.drop (i+1),∀p,placeOf n=some p->Q p)=dn (∀n∈dR.drop (i+1),∀p,placeOf n=some p->Q p):=IB ⟨λh=>h.2,λh=>⟨h1,h⟩⟩;rw [this]
   ·rw [jK h1,ah (by decide),jK λh=>h1 h.1,ah (by decide)]
theorem parts_all (b c:aB) (hk:b.kind=c.kind):(∀n∈dR,∀p,placeOf n=some p->aZ b c p)↔b=c:=by
 constructor
 ·intro h
  rw [l9] at h;have h0:∀ {n:List UInt8} {p:Pl},n∈[lD,lF,lG,lH,lI,lJ,lK,lM,lN,lQ,lS,lT,lU,lV,kR,kS,lW,kT,lX,lY,lZ,l7]->placeOf n=some p->aZ b c p:=λh1 h2=>h _ h1 _ h2;have anZ:=h0 (by simp) DZ;have anH:=h0 (by simp) Dz;have anV:=h0 (by simp) Bj;have anY:=h0 (by simp) Bo;have anW:=h0 (by simp) Bl;have anN:=h0 (by simp) DL;have an1:=h0 (by simp) D6;have anR:=h0 (by simp) DU;have anU:=h0 (by simp) DX;have anT:=h0 (by simp) DW;have anJ:=h0 (by simp) DF;have anQ:=h0 (by simp) DT;have anL:=h0 (by simp) DJ;have anX:=h0 (by simp) DY;have anM:=h0 (by simp) DK;have an0:=h0 (by simp) D5;have anP:=h0 (by simp) DR;have anI:=h0 (by simp) DC;have anO:=h0 (by simp) DN;have anS:=h0 (by simp) DV;have anK:=h0 (by simp) DI;have an2:=h0 (by simp) D7;clear h h0;cases b;cases c;simp only [aZ,fE] at *;subst hk;subst anZ;subst anH;subst anV;subst anY;subst anW;subst anN;subst an1;subst anR;subst anU;subst anT;subst anJ;subst anQ;subst anL;subst anX;subst anM;subst an0;subst anP;subst anI;subst anO;subst anS;subst anK;subst an2;rfl
 ·rintro rfl n _ p _
  cases p<;>simp [aZ]
theorem al9 (b c:aB) (fb fc:List aF) (hbd:b.d.length<=40) (hcd:c.d.length<=40) (hbt:oD b.t) (hct:oD c.t) (hb8:bY fb) (hc8:bY fc) (hbl:fb.length<=1000000) (hcl:fc.length<=1000000) (hsz:bI fb<=1000000):TT.lim 130 [bU b (aC fb),bU c (aC fc)]=some [.b (dn (b=c/\fb=fc))]:=by
 have h8:=abE fb fc hb8 hc8 hbl hcl hsz;have hn:=V4;have h0:=aep b c (aC fb) (aC fc) 131 (aZ b c) (λNL L i h=>by
  rw [dV,dV];simp only [cu,bK];refine ay rfl rfl ?_;simp [h]) (ame b c (aC fb) (aC fc) (by omega) (by omega) hbt hct) dR.length 0 (by omega)
 have hal:((dR.map GV.s).length:Int)=(dR.length:Int):=by rw [nV]
 rw [dY] at h0;rw [dV,dV] at h0;simp only [cu,bK,vP] at h0;by_cases hk:b.kind=c.kind;rotate_left
 ·rw [jK λh=>hk (by rw [h.1])]
  refine aW rfl rfl ?_ rfl;simp [hk]
 have hpa:=parts_all b c hk;replace hk:(b.kind=c.kind)=True:=eq_true hk
 rw [IB hpa] at h0;clear hpa;generalize dR.map GV.s=NL at *;generalize (dR.length:Int)=L at *;by_cases hbc:b=c
 ·rw [jP hbc] at h0
  have e:dn (b=c/\fb=fc)=dn (fb=fc):=IB ⟨λh=>h.2,λh=>⟨hbc,h⟩⟩;rw [e];generalize dn (fb=fc)=u at *;simp only [if_true] at h0;refine aW rfl rfl ?_ rfl;simp [hk,hn,hal,h0,h8]
 ·rw [jK hbc] at h0
  rw [jK λh=>hbc h.1];simp only [gZ,if_false] at h0;refine aW rfl rfl ?_ rfl;simp [hk,hn,hal,h0]
end K
end Go.Proofs.YtcpfjpcdcafjmaaGreatDoor
