/- What the trees compute: plain laws. -/
import Derived.Test.YthgifdbaegpbpaaGreatDoorKKe3
namespace Go.Proofs.YthgifdbaegpbpaaGreatDoor
open Go Go.aN
set_option linter.unusedSimpArgs false
set_option linter.unusedVariables false
set_option maxRecDepth 100000
namespace K
def bM:aB:={ kind:=0,id:=0,min:=0,max:=0,chosen:=0,flags:=0,cost:=0,priority:=0,deadline:=0,retry:=0,epoch:=0,base:=0,digest:=0,lag:=0,code:=0,want:=0,remaining:=0,allowed:=false,name:=[],region:=[],note:=[],d:=[],t:=[] }
def XM (b:aB) (r:List GV) (ty n:Int) (s:List UInt8) (p:Pl):List GV:=if aK ty n s p=0 then [eY (setB b n s p) r,.i .i64 0] else [eY bM [],.i .i64 (aK ty n s p)]
def XL (b:aB) (r:List GV) (ty n:Int) (s nm:List UInt8):List GV:=match placeOf nm with
 | some p=>XM b r ty n s p
 | none=>[eY bM [],.i .i64 26]
theorem aol (b:aB) (n:Int) (s:List UInt8) (p:Pl):(setB b n s p).kind=b.kind:=by
 unfold setB;split<;>first | rfl | (split<;>rfl)
theorem aoG (b:aB) (r:List GV) (tag ty n:Int) (s:List UInt8) (L:GV) (nm:List UInt8) (e0:¬ nm=lN) (e1:¬ nm=kX) (e2:¬ nm=kH) (e3:¬ nm=kK) (e4:¬ nm=kJ) (e5:¬ nm=lC) (e6:¬ nm=lS) (e7:¬ nm=lH) (e8:¬ nm=lK) (e9:¬ nm=lJ) (e10:¬ nm=kZ) (e11:¬ nm=lG) (e12:¬ nm=lq) (e13:¬ nm=lM) (e14:¬ nm=lu) (e15:¬ nm=lQ) (e16:¬ nm=lF) (e17:¬ nm=kY) (e18:¬ nm=lD) (e19:¬ nm=lI) (e20:¬ nm=lg) (e21:¬ nm=lT):TT.lim 115 [.s nm,.i .u64 tag,.i .i64 ty,.i .u64 n,.s s,L,.i .i64 b.kind,.i .u64 b.id,.i .u64 b.min,.i .u64 b.max,.i .u64 b.chosen,.i .u64 b.flags,.i .u64 b.cost,.i .u64 b.priority,.i .u64 b.deadline,.i .u64 b.retry,.i .u64 b.epoch,.i .u64 b.base,.i .u64 b.digest,.i .u64 b.lag,.i .u64 b.code,.i .u64 b.want,.i .i64 b.remaining,.b b.allowed,.s b.name,.s b.region,.s b.note,.l (b.d.map ent),.l (b.t.map row),.l r]=some ([.i .i64 0,.i .i64 26]++bP b):=by
 unfold lN kX kH kK kJ lC lS lH lK lJ kZ lG lq lM lu lQ lF kY lD lI lg lT at *;refine aA rfl rfl ?_;simp [bP,e0,e1,e2,e3,e4,e5,e6,e7,e8,e9,e10,e11,e12,e13,e14,e15,e16,e17,e18,e19,e20,e21]
theorem aop (b:aB) (r:List GV) (tag ty n:Int) (s:List UInt8) (L:GV) (hn:0<=n/\n < 18446744073709551616) (hs:s.length<=100000000) (nm:List UInt8):(∃p,placeOf nm=some p/\fC b r tag ty n s L nm p)\/(placeOf nm=none/\TT.lim 115 [.s nm,.i .u64 tag,.i .i64 ty,.i .u64 n,.s s,L,.i .i64 b.kind,.i .u64 b.id,.i .u64 b.min,.i .u64 b.max,.i .u64 b.chosen,.i .u64 b.flags,.i .u64 b.cost,.i .u64 b.priority,.i .u64 b.deadline,.i .u64 b.retry,.i .u64 b.epoch,.i .u64 b.base,.i .u64 b.digest,.i .u64 b.lag,.i .u64 b.code,.i .u64 b.want,.i .i64 b.remaining,.b b.allowed,.s b.name,.s b.region,.s b.note,.l (b.d.map ent),.l (b.t.map row),.l r]=some ([.i .i64 0,.i .i64 26]++bP b)):=by
 refine JB (Q:=λnm=>(∃p,placeOf nm=some p/\fC b r tag ty n s L nm p)\/(placeOf nm=none/\TT.lim 115 [.s nm,.i .u64 tag,.i .i64 ty,.i .u64 n,.s s,L,.i .i64 b.kind,.i .u64 b.id,.i .u64 b.min,.i .u64 b.max,.i .u64 b.chosen,.i .u64 b.flags,.i .u64 b.cost,.i .u64 b.priority,.i .u64 b.deadline,.i .u64 b.retry,.i .u64 b.epoch,.i .u64 b.base,.i .u64 b.digest,.i .u64 b.lag,.i .u64 b.code,.i .u64 b.want,.i .i64 b.remaining,.b b.allowed,.s b.name,.s b.region,.s b.note,.l (b.d.map ent),.l (b.t.map row),.l r]=some ([.i .i64 0,.i .i64 26]++bP b))) (.inl ⟨_,E8,aoK b r tag ty n s L hn⟩) (.inl ⟨_,EK,aoq b r tag ty n s L ⟩) (.inl ⟨_,CU,aoF b r tag ty n s L hs⟩) (.inl ⟨_,CW,aoJ b r tag ty n s L hs⟩) (.inl ⟨_,CV,aoH b r tag ty n s L hs⟩) (.inl ⟨_,ER,aox b r tag ty n s L hs⟩) (.inl ⟨_,Fa,aoM b r tag ty n s L hs⟩) (.inl ⟨_,EW,aoB b r tag ty n s L ⟩) (.inl ⟨_,EZ,aoE b r tag ty n s L ⟩) (.inl ⟨_,EY,aoD b r tag ty n s L ⟩) (.inl ⟨_,EM,aot b r tag ty n s L ⟩) (.inl ⟨_,EU,aoA b r tag ty n s L ⟩) (.inl ⟨_,EO,aov b r tag ty n s L ⟩) (.inl ⟨_,E5,aoI b r tag ty n s L ⟩) (.inl ⟨_,EP,aow b r tag ty n s L ⟩) (.inl ⟨_,E9,aoL b r tag ty n s L ⟩) (.inl ⟨_,ET,aoz b r tag ty n s L ⟩) (.inl ⟨_,EL,aos b r tag ty n s L ⟩) (.inl ⟨_,ES,aoy b r tag ty n s L ⟩) (.inl ⟨_,EX,aoC b r tag ty n s L ⟩) (.inl ⟨_,EN,aou b r tag ty n s L ⟩) (.inl ⟨_,Fb,aoN b r tag ty n s L ⟩) (λnm e0 e1 e2 e3 e4 e5 e6 e7 e8 e9 e10 e11 e12 e13 e14 e15 e16 e17 e18 e19 e20 e21=>.inr ⟨KX nm e0 e1 e2 e3 e4 e5 e6 e7 e8 e9 e10 e11 e12 e13 e14 e15 e16 e17 e18 e19 e20 e21,aoG b r tag ty n s L nm e0 e1 e2 e3 e4 e5 e6 e7 e8 e9 e10 e11 e12 e13 e14 e15 e16 e17 e18 e19 e20 e21⟩) nm
theorem ald (K:List GV) (b:aB) (fl:List aF) (hd:b.d.length<=40) (ht:oV b.t) (hsz:bH fl<=1000000) (tag ty n:Int) (s:List UInt8) (hn:0<=n/\n < 18446744073709551616) (hs:s.length<=100000000) (nm:List UInt8) :
 TT.lim 111 [eY b (aC fl),.s nm,.g [.i .u64 tag,.i .i64 ty,.i .u64 n,.s s,.l K]]=some (XL b (aC fl) ty n s nm):=by
 have hc:=akF b fl hd ht hsz;have ha:=aop b (aC fl) tag ty n s (.l K) hn hs nm;generalize aC fl=r at *;have hz:GV.g [.i .i64 0,.i .u64 0,.i .u64 0,.i .u64 0,.i .u64 0,.i .u64 0,.i .u64 0,.i .u64 0,.i .u64 0,.i .u64 0,.i .u64 0,.i .u64 0,.i .u64 0,.i .u64 0,.i .u64 0,.i .u64 0,.i .i64 0,.b false,.s [],.s [],.s [],.l [],.l [],.l []]=eY bM []:=rfl;unfold XL;rcases ha with ⟨p,hp,b',h1,h2⟩ | ⟨hp,h1⟩
 ·rw [hp]
  simp only;unfold XM;have hk:=aol b n s p;generalize aK ty n s p=e at *;by_cases he:e=0
  ·have h3:=h2 he
   rw [aj he];rw [he,h3] at h1;have hm:eY (setB b n s p) r=GV.g ([.i .i64 b.kind]++bP (setB b n s p)++[.l r]):=by rw [<- hk];rfl
   rw [hm];generalize setB b n s p=B at *;unfold bP at h1 ⊢;refine aY rfl rfl ?_ rfl;simp [kG,hc];simp [h1]
  ·rw [ah he]
   unfold bP at h1;rw [<- hz];refine aY rfl rfl ?_ rfl;simp [kG,hc];simp [h1,he]
 ·rw [hp]
  simp only;unfold bP at h1;rw [<- hz];refine aY rfl rfl ?_ rfl;simp [kG,hc];simp [h1]
def bG (b c:aB):Pl->Prop
 | .rem=>b.remaining=c.remaining
 | .allow=>b.allowed=c.allowed
 | .name=>b.name=c.name
 | .region=>b.region=c.region
 | .note=>b.note=c.note
 | .d=>b.d=c.d
 | .t=>b.t=c.t
 | .num k=>gI b k=gI c k
def kN (b c:aB) (rb rc:List GV) (f:Nat) (n:List UInt8) (p:Prop):Prop:=∀ (NL:List GV) (L K:Int) (i:Nat),(i:Int) < L->NL[i]? = some (.s n)->IntKind.i64.wrap ((i:Int)+1)=(i:Int)+1->TT.lim f ([.l NL,.i .i64 L,.i .i64 ((i:Int)+1)]++(eY c rc).cells++(eY b rb).cells)=some [.i .i64 K]->TT.lim f ([.l NL,.i .i64 L,.i .i64 i]++(eY c rc).cells++(eY b rb).cells)=some [.i .i64 (if dh p=true then K else 0)]
theorem akW (b c:aB) (rb rc:List GV):kN b c rb rc 129 lH (bG b c (.num 0)):=by
 intro NL L K i h hat hw ih;rw [dR,dR] at ih ⊢;simp only [dW,cu] at ih ⊢;unfold lH at hat;by_cases hp:b.id=c.id
 ·have e:dh (bG b c (.num 0))=true:=jO hp
  rw [e];replace hp:=eq_true hp
  refine aA rfl rfl ?_;simp [h,hat,hp,hw,ih]
 ·have e:dh (bG b c (.num 0))=false:=jB hp
  rw [e];refine aA rfl rfl ?_;simp [h,hat,hp,hw]
theorem akZ (b c:aB) (rb rc:List GV):kN b c rb rc 129 lK (bG b c (.num 1)):=by
 intro NL L K i h hat hw ih;rw [dR,dR] at ih ⊢;simp only [dW,cu] at ih ⊢;unfold lK at hat;by_cases hp:b.min=c.min
 ·have e:dh (bG b c (.num 1))=true:=jO hp
  rw [e];replace hp:=eq_true hp
  refine aA rfl rfl ?_;simp [h,hat,hp,hw,ih]
 ·have e:dh (bG b c (.num 1))=false:=jB hp
  rw [e];refine aA rfl rfl ?_;simp [h,hat,hp,hw]
theorem akY (b c:aB) (rb rc:List GV):kN b c rb rc 129 lJ (bG b c (.num 2)):=by
 intro NL L K i h hat hw ih;rw [dR,dR] at ih ⊢;simp only [dW,cu] at ih ⊢;unfold lJ at hat;by_cases hp:b.max=c.max
 ·have e:dh (bG b c (.num 2))=true:=jO hp
  rw [e];replace hp:=eq_true hp
  refine aA rfl rfl ?_;simp [h,hat,hp,hw,ih]
 ·have e:dh (bG b c (.num 2))=false:=jB hp
  rw [e];refine aA rfl rfl ?_;simp [h,hat,hp,hw]
theorem akO (b c:aB) (rb rc:List GV):kN b c rb rc 129 kZ (bG b c (.num 3)):=by
 intro NL L K i h hat hw ih;rw [dR,dR] at ih ⊢;simp only [dW,cu] at ih ⊢;unfold kZ at hat;by_cases hp:b.chosen=c.chosen
 ·have e:dh (bG b c (.num 3))=true:=jO hp
  rw [e];replace hp:=eq_true hp
  refine aA rfl rfl ?_;simp [h,hat,hp,hw,ih]
 ·have e:dh (bG b c (.num 3))=false:=jB hp
  rw [e];refine aA rfl rfl ?_;simp [h,hat,hp,hw]
theorem akV (b c:aB) (rb rc:List GV):kN b c rb rc 129 lG (bG b c (.num 4)):=by
 intro NL L K i h hat hw ih;rw [dR,dR] at ih ⊢;simp only [dW,cu] at ih ⊢;unfold lG at hat;by_cases hp:b.flags=c.flags
 ·have e:dh (bG b c (.num 4))=true:=jO hp
  rw [e];replace hp:=eq_true hp
  refine aA rfl rfl ?_;simp [h,hat,hp,hw,ih]
 ·have e:dh (bG b c (.num 4))=false:=jB hp
  rw [e];refine aA rfl rfl ?_;simp [h,hat,hp,hw]
theorem akQ (b c:aB) (rb rc:List GV):kN b c rb rc 129 lq (bG b c (.num 5)):=by
 intro NL L K i h hat hw ih;rw [dR,dR] at ih ⊢;simp only [dW,cu] at ih ⊢;unfold lq at hat;by_cases hp:b.cost=c.cost
 ·have e:dh (bG b c (.num 5))=true:=jO hp
  rw [e];replace hp:=eq_true hp
  refine aA rfl rfl ?_;simp [h,hat,hp,hw,ih]
 ·have e:dh (bG b c (.num 5))=false:=jB hp
  rw [e];refine aA rfl rfl ?_;simp [h,hat,hp,hw]
theorem ak3 (b c:aB) (rb rc:List GV):kN b c rb rc 129 lM (bG b c (.num 6)):=by
 intro NL L K i h hat hw ih;rw [dR,dR] at ih ⊢;simp only [dW,cu] at ih ⊢;unfold lM at hat;by_cases hp:b.priority=c.priority
 ·have e:dh (bG b c (.num 6))=true:=jO hp
  rw [e];replace hp:=eq_true hp
  refine aA rfl rfl ?_;simp [h,hat,hp,hw,ih]
 ·have e:dh (bG b c (.num 6))=false:=jB hp
  rw [e];refine aA rfl rfl ?_;simp [h,hat,hp,hw]
theorem akR (b c:aB) (rb rc:List GV):kN b c rb rc 129 lu (bG b c (.num 7)):=by
 intro NL L K i h hat hw ih;rw [dR,dR] at ih ⊢;simp only [dW,cu] at ih ⊢;unfold lu at hat;by_cases hp:b.deadline=c.deadline
 ·have e:dh (bG b c (.num 7))=true:=jO hp
  rw [e];replace hp:=eq_true hp
  refine aA rfl rfl ?_;simp [h,hat,hp,hw,ih]
 ·have e:dh (bG b c (.num 7))=false:=jB hp
  rw [e];refine aA rfl rfl ?_;simp [h,hat,hp,hw]
theorem ak6 (b c:aB) (rb rc:List GV):kN b c rb rc 129 lQ (bG b c (.num 8)):=by
 intro NL L K i h hat hw ih;rw [dR,dR] at ih ⊢;simp only [dW,cu] at ih ⊢;unfold lQ at hat;by_cases hp:b.retry=c.retry
 ·have e:dh (bG b c (.num 8))=true:=jO hp
  rw [e];replace hp:=eq_true hp
  refine aA rfl rfl ?_;simp [h,hat,hp,hw,ih]
 ·have e:dh (bG b c (.num 8))=false:=jB hp
  rw [e];refine aA rfl rfl ?_;simp [h,hat,hp,hw]
theorem akU (b c:aB) (rb rc:List GV):kN b c rb rc 129 lF (bG b c (.num 9)):=by
 intro NL L K i h hat hw ih;rw [dR,dR] at ih ⊢;simp only [dW,cu] at ih ⊢;unfold lF at hat;by_cases hp:b.epoch=c.epoch
 ·have e:dh (bG b c (.num 9))=true:=jO hp
  rw [e];replace hp:=eq_true hp
  refine aA rfl rfl ?_;simp [h,hat,hp,hw,ih]
 ·have e:dh (bG b c (.num 9))=false:=jB hp
  rw [e];refine aA rfl rfl ?_;simp [h,hat,hp,hw]
theorem akN (b c:aB) (rb rc:List GV):kN b c rb rc 129 kY (bG b c (.num 10)):=by
 intro NL L K i h hat hw ih;rw [dR,dR] at ih ⊢;simp only [dW,cu] at ih ⊢;unfold kY at hat;by_cases hp:b.base=c.base
 ·have e:dh (bG b c (.num 10))=true:=jO hp
  rw [e];replace hp:=eq_true hp
  refine aA rfl rfl ?_;simp [h,hat,hp,hw,ih]
 ·have e:dh (bG b c (.num 10))=false:=jB hp
  rw [e];refine aA rfl rfl ?_;simp [h,hat,hp,hw]
theorem akT (b c:aB) (rb rc:List GV):kN b c rb rc 129 lD (bG b c (.num 11)):=by
 intro NL L K i h hat hw ih;rw [dR,dR] at ih ⊢;simp only [dW,cu] at ih ⊢;unfold lD at hat;by_cases hp:b.digest=c.digest
 ·have e:dh (bG b c (.num 11))=true:=jO hp
  rw [e];replace hp:=eq_true hp
  refine aA rfl rfl ?_;simp [h,hat,hp,hw,ih]
 ·have e:dh (bG b c (.num 11))=false:=jB hp
  rw [e];refine aA rfl rfl ?_;simp [h,hat,hp,hw]
theorem akX (b c:aB) (rb rc:List GV):kN b c rb rc 129 lI (bG b c (.num 12)):=by
 intro NL L K i h hat hw ih;rw [dR,dR] at ih ⊢;simp only [dW,cu] at ih ⊢;unfold lI at hat;by_cases hp:b.lag=c.lag
 ·have e:dh (bG b c (.num 12))=true:=jO hp
  rw [e];replace hp:=eq_true hp
  refine aA rfl rfl ?_;simp [h,hat,hp,hw,ih]
 ·have e:dh (bG b c (.num 12))=false:=jB hp
  rw [e];refine aA rfl rfl ?_;simp [h,hat,hp,hw]
theorem akP (b c:aB) (rb rc:List GV):kN b c rb rc 129 lg (bG b c (.num 13)):=by
 intro NL L K i h hat hw ih;rw [dR,dR] at ih ⊢;simp only [dW,cu] at ih ⊢;unfold lg at hat;by_cases hp:b.code=c.code
 ·have e:dh (bG b c (.num 13))=true:=jO hp
  rw [e];replace hp:=eq_true hp
  refine aA rfl rfl ?_;simp [h,hat,hp,hw,ih]
 ·have e:dh (bG b c (.num 13))=false:=jB hp
  rw [e];refine aA rfl rfl ?_;simp [h,hat,hp,hw]
theorem ak9 (b c:aB) (rb rc:List GV):kN b c rb rc 129 lT (bG b c (.num 14)):=by
 intro NL L K i h hat hw ih;rw [dR,dR] at ih ⊢;simp only [dW,cu] at ih ⊢;unfold lT at hat;by_cases hp:b.want=c.want
 ·have e:dh (bG b c (.num 14))=true:=jO hp
  rw [e];replace hp:=eq_true hp
  refine aA rfl rfl ?_;simp [h,hat,hp,hw,ih]
 ·have e:dh (bG b c (.num 14))=false:=jB hp
  rw [e];refine aA rfl rfl ?_;simp [h,hat,hp,hw]
theorem ak5 (b c:aB) (rb rc:List GV):kN b c rb rc 129 lN (bG b c .rem):=by
 intro NL L K i h hat hw ih;rw [dR,dR] at ih ⊢;simp only [dW,cu] at ih ⊢;unfold lN at hat;by_cases hp:b.remaining=c.remaining
 ·have e:dh (bG b c .rem)=true:=jO hp
  rw [e];replace hp:=eq_true hp
  refine aA rfl rfl ?_;simp [h,hat,hp,hw,ih]
 ·have e:dh (bG b c .rem)=false:=jB hp
  rw [e];refine aA rfl rfl ?_;simp [h,hat,hp,hw]
theorem akM (b c:aB) (rb rc:List GV):kN b c rb rc 129 kX (bG b c .allow):=by
 intro NL L K i h hat hw ih;rw [dR,dR] at ih ⊢;simp only [dW,cu] at ih ⊢;unfold kX at hat;by_cases hp:b.allowed=c.allowed
 ·have e:dh (bG b c .allow)=true:=jO hp
  rw [e];replace hp:=eq_true hp
  refine aA rfl rfl ?_;simp [h,hat,hp,hw,ih]
 ·have e:dh (bG b c .allow)=false:=jB hp
  rw [e];refine aA rfl rfl ?_;simp [h,hat,hp,hw]
theorem ak0 (b c:aB) (rb rc:List GV):kN b c rb rc 129 kH (bG b c .name):=by
 intro NL L K i h hat hw ih;rw [dR,dR] at ih ⊢;simp only [dW,cu] at ih ⊢;unfold kH at hat;by_cases hp:b.name=c.name
 ·have e:dh (bG b c .name)=true:=jO hp
  rw [e];replace hp:=eq_true hp
  refine aA rfl rfl ?_;simp [h,hat,hp,hw,ih]
 ·have e:dh (bG b c .name)=false:=jB hp
  rw [e];refine aA rfl rfl ?_;simp [h,hat,hp,hw]
theorem ak4 (b c:aB) (rb rc:List GV):kN b c rb rc 129 kK (bG b c .region):=by
 intro NL L K i h hat hw ih;rw [dR,dR] at ih ⊢;simp only [dW,cu] at ih ⊢;unfold kK at hat;by_cases hp:b.region=c.region
 ·have e:dh (bG b c .region)=true:=jO hp
  rw [e];replace hp:=eq_true hp
  refine aA rfl rfl ?_;simp [h,hat,hp,hw,ih]
 ·have e:dh (bG b c .region)=false:=jB hp
  rw [e];refine aA rfl rfl ?_;simp [h,hat,hp,hw]
theorem ak1 (b c:aB) (rb rc:List GV):kN b c rb rc 129 kJ (bG b c .note):=by
 intro NL L K i h hat hw ih;rw [dR,dR] at ih ⊢;simp only [dW,cu] at ih ⊢;unfold kJ at hat;by_cases hp:b.note=c.note
 ·have e:dh (bG b c .note)=true:=jO hp
  rw [e];replace hp:=eq_true hp
  refine aA rfl rfl ?_;simp [h,hat,hp,hw,ih]
 ·have e:dh (bG b c .note)=false:=jB hp
  rw [e];refine aA rfl rfl ?_;simp [h,hat,hp,hw]
theorem akS (b c:aB) (rb rc:List GV) (hbd:b.d.length<=140737488351232) (hcd:c.d.length<=140737488351232):kN b c rb rc 129 lC (bG b c .d):=by
 intro NL L K i h hat hw ih;rw [dR,dR] at ih ⊢;simp only [dW,cu] at ih ⊢;unfold lC at hat;have k:=aaA b.d c.d hbd hcd;by_cases hp:b.d=c.d
 ·have e:dh (bG b c .d)=true:=jO hp
  rw [e];rw [GL hp] at k;refine aA rfl rfl ?_;simp [h,hat,k,hw,ih]
 ·have e:dh (bG b c .d)=false:=jB hp
  rw [e];rw [D8 hp] at k;refine aA rfl rfl ?_;simp [h,hat,k,hw]
theorem ak8 (b c:aB) (rb rc:List GV) (hbt:oV b.t) (hct:oV c.t):kN b c rb rc 129 lS (bG b c .t):=by
 intro NL L K i h hat hw ih;rw [dR,dR] at ih ⊢;simp only [dW,cu] at ih ⊢;unfold lS at hat;have k:=aoi b.t c.t hbt hct;by_cases hp:b.t=c.t
 ·have e:dh (bG b c .t)=true:=jO hp
  rw [e];rw [GL hp] at k;refine aA rfl rfl ?_;simp [h,hat,k,hw,ih]
 ·have e:dh (bG b c .t)=false:=jB hp
  rw [e];rw [D8 hp] at k;refine aA rfl rfl ?_;simp [h,hat,k,hw]
theorem lU:gG=[kX,kY,kZ,lg,lq,lu,lC,lD,lF,lG,lH,lI,lJ,lK,kH,kJ,lM,kK,lN,lQ,lS,lT]:=rfl
theorem ak7 (b c:aB) (rb rc:List GV) (hbd:b.d.length<=140737488351232) (hcd:c.d.length<=140737488351232) (hbt:oV b.t) (hct:oV c.t):∀n∈gG,∃p,placeOf n=some p/\kN b c rb rc 129 n (bG b c p):=by
 intro n hn;rw [lU] at hn;simp only [bZ,Dq,or_false] at hn;rcases hn with rfl | rfl | rfl | rfl | rfl | rfl | rfl | rfl | rfl | rfl | rfl | rfl | rfl | rfl | rfl | rfl | rfl | rfl | rfl | rfl | rfl | rfl
 ·exact ⟨_,EK,akM b c rb rc⟩
 ·exact ⟨_,EL,akN b c rb rc⟩
 ·exact ⟨_,EM,akO b c rb rc⟩
 ·exact ⟨_,EN,akP b c rb rc⟩
 ·exact ⟨_,EO,akQ b c rb rc⟩
 ·exact ⟨_,EP,akR b c rb rc⟩
 ·exact ⟨_,ER,akS b c rb rc hbd hcd⟩
 ·exact ⟨_,ES,akT b c rb rc⟩
 ·exact ⟨_,ET,akU b c rb rc⟩
 ·exact ⟨_,EU,akV b c rb rc⟩
 ·exact ⟨_,EW,akW b c rb rc⟩
 ·exact ⟨_,EX,akX b c rb rc⟩
 ·exact ⟨_,EY,akY b c rb rc⟩
 ·exact ⟨_,EZ,akZ b c rb rc⟩
 ·exact ⟨_,CU,ak0 b c rb rc⟩
 ·exact ⟨_,CV,ak1 b c rb rc⟩
 ·exact ⟨_,E5,ak3 b c rb rc⟩
 ·exact ⟨_,CW,ak4 b c rb rc⟩
 ·exact ⟨_,E8,ak5 b c rb rc⟩
 ·exact ⟨_,E9,ak6 b c rb rc⟩
 ·exact ⟨_,Fa,ak8 b c rb rc hbt hct⟩
 ·exact ⟨_,Fb,ak9 b c rb rc⟩
theorem adw (b c:aB) (rb rc:List GV) (f:Nat) (Q:Pl->Prop) (hend:∀ (NL:List GV) (L:Int) (i:Nat),¬ (i:Int) < L->TT.lim f ([.l NL,.i .i64 L,.i .i64 i]++(eY c rc).cells++(eY b rb).cells)=some [.i .i64 1]) (hs:∀n∈gG,∃p,placeOf n=some p/\kN b c rb rc f n (Q p)):∀m i:Nat,i+m=gG.length->
 TT.lim f ([.l (gG.map .s),.i .i64 gG.length,.i .i64 i]++(eY c rc).cells++(eY b rb).cells)=some [.i .i64 (if dh (∀n∈gG.drop i,∀p,placeOf n=some p->Q p)=true then 1 else 0)]
 | 0,i,hi=>by
  have e:dh (∀n∈gG.drop i,∀p,placeOf n=some p->Q p)=true:=jO (by rw [gZ (by omega)];simp);rw [e];exact hend _ _ i (by omega)
 | m+1,i,hi=>by
  have hlt:i < gG.length:=by omega
  have aty:gG.length=22:=rfl;have hw:=wrap64 (n:=(i:Int)+1) (by omega) (by omega);have ih:=adw b c rb rc f Q hend hs m (i+1) (by omega);obtain ⟨p,hp,hst⟩:=hs _ (jh hlt);have hat:(gG.map GV.s)[i]? = some (.s gG[i]):=by rw [jg,bU hlt];rfl
  have hcast:((i+1:Nat):Int)=(i:Int)+1:=by omega
  rw [hcast] at ih;have hx:=hst _ _ _ i (by omega) hat hw ih;rw [hx,jw hlt];have hq:(∀n∈gG[i]::gG.drop (i+1),∀p,placeOf n=some p->Q p)↔(Q p/\∀n∈gG.drop (i+1),∀p,placeOf n=some p->Q p):=by
   simp only [bZ,forall_eq_or_imp];constructor
   ·exact λh=>⟨h.1 p hp,h.2⟩
   ·intro h
    refine ⟨λq hq=>?_,h.2⟩;rw [hp] at hq;injection hq with hq
    rw [<- hq];exact h.1
  rw [H7 hq];by_cases h1:Q p
  ·rw [jO h1,aj rfl]
   have:dh (Q p/\∀n∈gG.drop (i+1),∀p,placeOf n=some p->Q p)=dh (∀n∈gG.drop (i+1),∀p,placeOf n=some p->Q p):=H7 ⟨λh=>h.2,λh=>⟨h1,h⟩⟩;rw [this]
  ·rw [jB h1,ah (by decide),jB λh=>h1 h.1,ah (by decide)]
theorem parts_all (b c:aB) (hk:b.kind=c.kind):(∀n∈gG,∀p,placeOf n=some p->bG b c p)↔b=c:=by
 constructor
 ·intro h
  rw [lU] at h;have h0:∀ {n:List UInt8} {p:Pl},n∈[kX,kY,kZ,lg,lq,lu,lC,lD,lF,lG,lH,lI,lJ,lK,kH,kJ,lM,kK,lN,lQ,lS,lT]->placeOf n=some p->bG b c p:=λh1 h2=>h _ h1 _ h2;have amU:=h0 (by simp) E8;have amC:=h0 (by simp) EK;have amQ:=h0 (by simp) CU;have amT:=h0 (by simp) CW;have amR:=h0 (by simp) CV;have amI:=h0 (by simp) ER;have amW:=h0 (by simp) Fa;have amM:=h0 (by simp) EW;have amP:=h0 (by simp) EZ;have amO:=h0 (by simp) EY;have amE:=h0 (by simp) EM;have amL:=h0 (by simp) EU;have amG:=h0 (by simp) EO;have amS:=h0 (by simp) E5;have amH:=h0 (by simp) EP;have amV:=h0 (by simp) E9;have amK:=h0 (by simp) ET;have amD:=h0 (by simp) EL;have amJ:=h0 (by simp) ES;have amN:=h0 (by simp) EX;have amF:=h0 (by simp) EN;have amX:=h0 (by simp) Fb;clear h h0;cases b;cases c;simp only [bG,gI] at *;subst hk;subst amU;subst amC;subst amQ;subst amT;subst amR;subst amI;subst amW;subst amM;subst amP;subst amO;subst amE;subst amL;subst amG;subst amS;subst amH;subst amV;subst amK;subst amD;subst amJ;subst amN;subst amF;subst amX;rfl
 ·rintro rfl n _ p _
  cases p<;>simp [bG]
theorem ak2 (b c:aB) (fb fc:List aF) (hbd:b.d.length<=40) (hcd:c.d.length<=40) (hbt:oV b.t) (hct:oV c.t) (hb8:bW fb) (hc8:bW fc) (hbl:fb.length<=1000000) (hcl:fc.length<=1000000) (hsz:bH fb<=1000000):TT.lim 128 [eY b (aC fb),eY c (aC fc)]=some [.b (dh (b=c/\fb=fc))]:=by
 have h8:=ahP fb fc hb8 hc8 hbl hcl hsz;have hn:=acs;have h0:=adw b c (aC fb) (aC fc) 129 (bG b c) (λNL L i h=>by
  rw [dR,dR];simp only [dW,cu];refine aA rfl rfl ?_;simp [h]) (ak7 b c (aC fb) (aC fc) (by omega) (by omega) hbt hct) gG.length 0 (by omega)
 have hal:((gG.map GV.s).length:Int)=(gG.length:Int):=by rw [wC]
 rw [eH] at h0;rw [dR,dR] at h0;simp only [dW,cu,zF] at h0;by_cases hk:b.kind=c.kind;rotate_left
 ·rw [jB λh=>hk (by rw [h.1])]
  refine aY rfl rfl ?_ rfl;simp [hk]
 have hpa:=parts_all b c hk;replace hk:(b.kind=c.kind)=True:=eq_true hk
 rw [H7 hpa] at h0;clear hpa;generalize gG.map GV.s=NL at *;generalize (gG.length:Int)=L at *;by_cases hbc:b=c
 ·rw [jO hbc] at h0
  have e:dh (b=c/\fb=fc)=dh (fb=fc):=H7 ⟨λh=>h.2,λh=>⟨hbc,h⟩⟩;rw [e];generalize dh (fb=fc)=u at *;simp only [if_true] at h0;refine aY rfl rfl ?_ rfl;simp [hk,hn,hal,h0,h8]
 ·rw [jB hbc] at h0
  rw [jB λh=>hbc h.1];simp only [gQ,if_false] at h0;refine aY rfl rfl ?_ rfl;simp [hk,hn,hal,h0]
theorem arW {n:Int} (hn:0<=n/\n < 18446744073709551616) : -9223372036854775808<=Bc n/\Bc n<=9223372036854775807:=by
 unfold Bc;split<;>omega
theorem ady {b:aB} {n:Int} {s:List UInt8} {p:Pl} {ty:Int} (hb:mM b) (hd:iF b.d=true) (ht:oV b.t) (hn:0<=n/\n < 18446744073709551616) (hs:s.length<=100000000) (h:aK ty n s p=0):mM (setB b n s p)/\iF (setB b n s p).d=true/\oV (setB b n s p).t:=by
 have hE:iw n s p=0:=by
  unfold aK at h;split at h
  ·split at h<;>split at h<;>first | exact h | exact absurd h (by decide)
  ·exact absurd h (by decide)
 cases p with
 | rem=>exact ⟨{ hb with remaining:=arW hn },hd,ht⟩
 | allow=>exact ⟨{ hb with },hd,ht⟩
 | name=>exact ⟨{ hb with name:=by show s.length<=_;omega },hd,ht⟩
 | region=>exact ⟨{ hb with region:=by show s.length<=_;omega },hd,ht⟩
 | note=>exact ⟨{ hb with note:=by show s.length<=_;omega },hd,ht⟩
 | d=>
  have hp:=ZO (s:=s) hE hs;exact ⟨{ hb with d:=hp.ents },hp.few,ht⟩
 | t=>
  have hp:=(aqI (s:=s) hs).1;exact ⟨{ hb with t:=hp.rows },hd,hp.good⟩
 | num k=>
  unfold setB;split<;>rename_i hk
  ·exact absurd hk (by simp)
  ·exact absurd hk (by simp)
  ·exact absurd hk (by simp)
  ·exact absurd hk (by simp)
  ·exact absurd hk (by simp)
  ·exact absurd hk (by simp)
  ·exact absurd hk (by simp)
  ·split<;>exact ⟨by constructor<;>first | exact hn | exact hb.kind | exact hb.id | exact hb.min | exact hb.max | exact hb.chosen | exact hb.flags | exact hb.cost | exact hb.priority | exact hb.deadline | exact hb.retry | exact hb.epoch | exact hb.base | exact hb.digest | exact hb.lag | exact hb.code | exact hb.want | exact hb.remaining | exact hb.name | exact hb.region | exact hb.note | exact hb.d | exact hb.t,hd,ht⟩
structure pW (b:aB) (fl:List aF):Prop where
 body:mM b
 d:iF b.d=true
 t:oV b.t
 f8:bW fl
 len:fl.length<=1000000
theorem LV:pW bM []:=⟨by constructor<;>simp [bM,uZ,Rows],by simp [bM,iF],⟨by simp [bM],by intro r hr;simp [bM] at hr,by simp [bM,Rows]⟩,by simp only [bW],by simp⟩
theorem pW.akL {b c:aB} {fb fc:List aF} (h:pW b fb) (k:pW c fc) (hsz:bH fb<=1000000):TT.lim 128 [eY b (aC fb),eY c (aC fc)]=some [.b (dh (b=c/\fb=fc))]:=ak2 b c fb fc (TK h.d) (TK k.d) h.t k.t h.f8 k.f8 h.len k.len hsz
theorem pW.Vp {b:aB} {fb:List aF} (h:pW b fb) (hsz:bH fb<=1000000):TT.lim 128 [eY b (aC fb),eY b (aC fb)]=some [.b true]:=by
 rw [h.akL h hsz,jO ⟨rfl,rfl⟩]
theorem am3 {b:aB} {l:List One} (hb:mM b) (hl:Ones l) (h:G5 b l=true):pW b (tC l)/\bH (tC l)<=1000000/\uD l=true:=by
 unfold G5 at h;simp only [aI] at h;obtain ⟨hok,hlen⟩:=aj8 l hl h.2.2.2.2.2;have h60:l.length<=60:=by
  have:=h.2.2.2.2.2;unfold uD at this;rw [aI,decide_eq_true_iff] at this;exact this.2
 have hsz:=ab2 l;exact ⟨⟨hb,h.2.2.2.1,ah6 hb.t h.2.2.2.2.1,hok,hlen⟩,by omega,h.2.2.2.2.2⟩
def nameOf:Pl->List UInt8
 | .rem=>lN
 | .allow=>kX
 | .name=>kH
 | .region=>kK
 | .note=>kJ
 | .d=>lC
 | .t=>lS
 | .num k=>match k with
  | 0=>lH
  | 1=>lK
  | 2=>lJ
  | 3=>kZ
  | 4=>lG
  | 5=>lq
  | 6=>lM
  | 7=>lu
  | 8=>lQ
  | 9=>lF
  | 10=>kY
  | 11=>lD
  | 12=>lI
  | 13=>lg
  | _=>lT
def jF:Pl->Prop
 | .num k=>k < 15
 | _=>True
theorem CX (n:List UInt8):∀p,placeOf n=some p->n=nameOf p/\jF p/\n∈gG:=by
 refine JB (Q:=λn=>∀p,placeOf n=some p->n=nameOf p/\jF p/\n∈gG) (λp h=>by rw [E8] at h;cases h;exact ⟨rfl,by simp [jF],by rw [lU];simp⟩) (λp h=>by rw [EK] at h;cases h;exact ⟨rfl,by simp [jF],by rw [lU];simp⟩) (λp h=>by rw [CU] at h;cases h;exact ⟨rfl,by simp [jF],by rw [lU];simp⟩) (λp h=>by rw [CW] at h;cases h;exact ⟨rfl,by simp [jF],by rw [lU];simp⟩) (λp h=>by rw [CV] at h;cases h;exact ⟨rfl,by simp [jF],by rw [lU];simp⟩) (λp h=>by rw [ER] at h;cases h;exact ⟨rfl,by simp [jF],by rw [lU];simp⟩) (λp h=>by rw [Fa] at h;cases h;exact ⟨rfl,by simp [jF],by rw [lU];simp⟩) (λp h=>by rw [EW] at h;cases h;exact ⟨rfl,by simp [jF],by rw [lU];simp⟩) (λp h=>by rw [EZ] at h;cases h;exact ⟨rfl,by simp [jF],by rw [lU];simp⟩) (λp h=>by rw [EY] at h;cases h;exact ⟨rfl,by simp [jF],by rw [lU];simp⟩) (λp h=>by rw [EM] at h;cases h;exact ⟨rfl,by simp [jF],by rw [lU];simp⟩) (λp h=>by rw [EU] at h;cases h;exact ⟨rfl,by simp [jF],by rw [lU];simp⟩) (λp h=>by rw [EO] at h;cases h;exact ⟨rfl,by simp [jF],by rw [lU];simp⟩) (λp h=>by rw [E5] at h;cases h;exact ⟨rfl,by simp [jF],by rw [lU];simp⟩) (λp h=>by rw [EP] at h;cases h;exact ⟨rfl,by simp [jF],by rw [lU];simp⟩) (λp h=>by rw [E9] at h;cases h;exact ⟨rfl,by simp [jF],by rw [lU];simp⟩) (λp h=>by rw [ET] at h;cases h;exact ⟨rfl,by simp [jF],by rw [lU];simp⟩) (λp h=>by rw [EL] at h;cases h;exact ⟨rfl,by simp [jF],by rw [lU];simp⟩) (λp h=>by rw [ES] at h;cases h;exact ⟨rfl,by simp [jF],by rw [lU];simp⟩) (λp h=>by rw [EX] at h;cases h;exact ⟨rfl,by simp [jF],by rw [lU];simp⟩) (λp h=>by rw [EN] at h;cases h;exact ⟨rfl,by simp [jF],by rw [lU];simp⟩) (λp h=>by rw [Fb] at h;cases h;exact ⟨rfl,by simp [jF],by rw [lU];simp⟩) (λn e0 e1 e2 e3 e4 e5 e6 e7 e8 e9 e10 e11 e12 e13 e14 e15 e16 e17 e18 e19 e20 e21 p h=>?_) n;rw [KX n e0 e1 e2 e3 e4 e5 e6 e7 e8 e9 e10 e11 e12 e13 e14 e15 e16 e17 e18 e19 e20 e21] at h;cases h
theorem ami {a b:List UInt8} {p:Pl} (ha:placeOf a=some p) (hb:placeOf b=some p):a=b:=by rw [(CX a p ha).1,(CX b p hb).1]
theorem ala (b:aB) (r:List GV) (hb:mM b) (hd:iF b.d=true) (hf:FY b.t) (n:List UInt8):(∃p,placeOf n=some p/\TT.lim 78 [eY b r,.s n]=some [.g [.i .u64 0,.i .i64 (aZ p),.i .u64 (aU b p).1,.s (aU b p).2,.l []],.b true])\/
 (placeOf n=none/\TT.lim 78 [eY b r,.s n]=some [.g [.i .u64 0,.i .i64 0,.i .u64 0,.s [],.l []],.b false]):=by
 refine JB (Q:=λn=>(∃p,placeOf n=some p/\TT.lim 78 [eY b r,.s n]=some [.g [.i .u64 0,.i .i64 (aZ p),.i .u64 (aU b p).1,.s (aU b p).2,.l []],.b true])\/
  (placeOf n=none/\TT.lim 78 [eY b r,.s n]=some [.g [.i .u64 0,.i .i64 0,.i .u64 0,.s [],.l []],.b false])) (.inl ⟨_,E8,ark b r hb⟩) (.inl ⟨_,EK,aqZ b r⟩) (.inl ⟨_,CU,arf b r⟩) (.inl ⟨_,CW,arj b r⟩) (.inl ⟨_,CV,arh b r⟩) (.inl ⟨_,ER,aq5 b r hd⟩) (.inl ⟨_,Fa,arn b r hb hf⟩) (.inl ⟨_,EW,aq9 b r⟩) (.inl ⟨_,EZ,ard b r⟩) (.inl ⟨_,EY,arb b r⟩) (.inl ⟨_,EM,aq1 b r⟩) (.inl ⟨_,EU,aq8 b r⟩) (.inl ⟨_,EO,aq3 b r⟩) (.inl ⟨_,E5,ari b r⟩) (.inl ⟨_,EP,aq4 b r⟩) (.inl ⟨_,E9,arl b r⟩) (.inl ⟨_,ET,aq7 b r⟩) (.inl ⟨_,EL,aq0 b r⟩) (.inl ⟨_,ES,aq6 b r⟩) (.inl ⟨_,EX,ara b r⟩) (.inl ⟨_,EN,aq2 b r⟩) (.inl ⟨_,Fb,aro b r⟩) (λn e0 e1 e2 e3 e4 e5 e6 e7 e8 e9 e10 e11 e12 e13 e14 e15 e16 e17 e18 e19 e20 e21=>.inr ⟨KX n e0 e1 e2 e3 e4 e5 e6 e7 e8 e9 e10 e11 e12 e13 e14 e15 e16 e17 e18 e19 e20 e21,alc b r n e0 e1 e2 e3 e4 e5 e6 e7 e8 e9 e10 e11 e12 e13 e14 e15 e16 e17 e18 e19 e20 e21⟩) n
theorem alb {b:aB} {fl:List aF} (h:pW b fl) {n:List UInt8} {p:Pl} (hp:placeOf n=some p):TT.lim 78 [eY b (aC fl),.s n]=some [.g [.i .u64 0,.i .i64 (aZ p),.i .u64 (aU b p).1,.s (aU b p).2,.l []],.b true]:=by
 rcases ala b (aC fl) h.body h.d h.t.few n with ⟨q,hq,hv⟩ | ⟨hq, -⟩
 ·rw [hp] at hq
  injection hq with hq
  rw [hq];exact hv
 ·rw [hp] at hq;cases hq
/-- A message, one part told anew. -/
def vU (b c:aB):Pl->aB
 | .rem=>{ c with remaining:=b.remaining }
 | .allow=>{ c with allowed:=b.allowed }
 | .name=>{ c with name:=b.name }
 | .region=>{ c with region:=b.region }
 | .note=>{ c with note:=b.note }
 | .d=>{ c with d:=b.d }
 | .t=>{ c with t:=b.t }
 | .num k=>match k with
  | 0=>{ c with id:=b.id }
  | 1=>{ c with min:=b.min }
  | 2=>{ c with max:=b.max }
  | 3=>{ c with chosen:=b.chosen }
  | 4=>{ c with flags:=b.flags }
  | 5=>{ c with cost:=b.cost }
  | 6=>{ c with priority:=b.priority }
  | 7=>{ c with deadline:=b.deadline }
  | 8=>{ c with retry:=b.retry }
  | 9=>{ c with epoch:=b.epoch }
  | 10=>{ c with base:=b.base }
  | 11=>{ c with digest:=b.digest }
  | 12=>{ c with lag:=b.lag }
  | 13=>{ c with code:=b.code }
  | _=>{ c with want:=b.want }
theorem amy (b c:aB) (p:Pl):(vU b c p).kind=c.kind:=by
 unfold vU;split<;>first | rfl | (split<;>rfl)
theorem amz (b c:aB) (j k:Nat) (hk:k < 15) (hj:j < 15) (hne:j≠k):gI (vU b c (.num k)) j=gI c j:=by
 rcases k with _ | _ | _ | _ | _ | _ | _ | _ | _ | _ | _ | _ | _ | _ | _ | k
 all_goals first | (exfalso;omega) | skip
 all_goals (rcases j with _ | _ | _ | _ | _ | _ | _ | _ | _ | _ | _ | _ | _ | _ | _ | j)<;>first | rfl | exact absurd rfl hne | (exfalso;omega)
theorem arX (x:Int) (h : -9223372036854775808<=x/\x<=9223372036854775807):Bc (zz x)=x:=by
 unfold Bc zz;split<;>split<;>omega
theorem arU (x:Int) (h : -9223372036854775808<=x/\x<=9223372036854775807):0<=zz x/\zz x < 18446744073709551616:=by
 unfold zz;split<;>omega
theorem acN (t:List Row) (ht:oV t):(nD t).length<=90000000:=by
 have h:=WT t [] (λr hr=>⟨ht.few r hr,(ht.rows.2 r hr).2⟩);have h3:=ht.len;have hv:(aS t.length).length<=20:=by
  have:=mJ (n:=t.length) (by omega);omega
 unfold nD;rw [dQ];have:40000 * t.length<=40000 * 300:=MC _ h3;omega
/-- What may be, and is something, is put as it was read. -/
theorem aor {b:aB} {fl:List aF} (h:pW b fl) (hw:b.name.length<=600/\b.region.length<=600/\b.note.length<=600) (p:Pl) (hm:qV b p=0) (hne:¬ ((aU b p).1=0/\(aU b p).2=[])) :
 aK (aZ p) (aU b p).1 (aU b p).2 p=0/\(0<=(aU b p).1/\(aU b p).1 < 18446744073709551616)/\(aU b p).2.length<=100000000/\∀c,setB c (aU b p).1 (aU b p).2 p=vU b c p:=by
 cases p with
 | rem=>
  have hx:=h.body.remaining;have hz:=arX b.remaining hx;have hl:=arU b.remaining hx;simp only [aU] at hne ⊢;have hn0:¬ zz b.remaining=0:=λe=>hne ⟨e,trivial⟩;refine ⟨by unfold aK;simp [aZ,hn0,iw],hl,by simp,λc=>?_⟩;simp only [setB,hz,vU]
 | allow=>
  simp only [aU] at hne ⊢;cases ha:b.allowed with
  | false=>rw [ha] at hne;exact absurd ⟨rfl,trivial⟩ hne
  | true=>
   refine ⟨by unfold aK;simp [aZ,iw],by simp,by simp,λc=>?_⟩;simp only [setB,vU,ha]
 | name=>
  simp only [aU] at hne ⊢;have hn0:¬ b.name=[]:=λe=>hne ⟨trivial,e⟩;simp only [qV] at hm;refine ⟨by unfold aK;simp [aZ,hn0,iw,hm],by simp,by omega,λc=>rfl⟩
 | region=>
  simp only [aU] at hne ⊢;have hn0:¬ b.region=[]:=λe=>hne ⟨trivial,e⟩;simp only [qV] at hm;refine ⟨by unfold aK;simp [aZ,hn0,iw,hm],by simp,by omega,λc=>rfl⟩
 | note=>
  simp only [aU] at hne ⊢;have hn0:¬ b.note=[]:=λe=>hne ⟨trivial,e⟩;simp only [qV] at hm;refine ⟨by unfold aK;simp [aZ,hn0,iw,hm],by simp,by omega,λc=>rfl⟩
 | d=>
  simp only [aU] at hne ⊢;have hd0:b.d≠[]:=λe=>hne ⟨trivial,by rw [aj e]⟩;simp only [qV,ah hd0] at hm;have hp:=ZN b.d hm;have hk:=KC h.d;have hk0:iD b.d≠[]:=λe=>hne ⟨trivial,by rw [ah hd0];exact e⟩;rw [ah hd0];refine ⟨?_,by simp,by omega,λc=>?_⟩
  ·unfold aK
   simp [aZ,hk0,iw,hp]
  ·simp only [setB,vU,hp]
 | t=>
  simp only [aU] at hne ⊢;have ht0:b.t≠[]:=λe=>hne ⟨trivial,by rw [aj e]⟩;simp only [qV] at hm;have hk:zh b.t=(nD b.t,0):=by unfold zh;rw [ah (by simpa using hm)]
  rw [ah ht0,hk] at hne ⊢;have hp:=aqH b.t ⟨(SK _).1 hm,h.t.few,h.t.rows⟩;have hl:=acN b.t h.t;have hk0:nD b.t≠[]:=λe=>hne ⟨trivial,e⟩;refine ⟨?_,by simp,by simp only;omega,λc=>?_⟩
  ·have hl0:¬ b.t.length=0:=λe=>ht0 (je e)
   unfold aK;simp [aZ,hk0,iw,hp,hl0,ht0]
  ·simp only [setB,vU,hp]
 | num k=>
  simp only [aU] at hne ⊢;have hn0:¬ gI b k=0:=λe=>hne ⟨e,trivial⟩;refine ⟨by unfold aK;simp [aZ,hn0,iw], ?_,by simp,λc=>?_⟩
  ·have q:=h.body
   unfold gI;split<;>first | exact q.id | exact q.min | exact q.max | exact q.chosen | exact q.flags | exact q.cost | exact q.priority | exact q.deadline | exact q.retry | exact q.epoch | exact q.base | exact q.digest | exact q.lag | exact q.code | exact q.want
  ·rcases k with _ | _ | _ | _ | _ | _ | _ | _ | _ | _ | _ | _ | _ | _ | k<;>rfl
theorem Vm (b:aB):∀ (l:List bV),nV b l=0->∀s∈l,uN b s.name=0
 | [],_,s,hs=>by cases hs
 | x::l,h,s,hs=>by
  unfold nV at h;split at h
  ·rename_i h0
   rcases bZ.1 hs with rfl | hs
   ·exact h0
   ·exact Vm b l h s hs
  ·rename_i h0
   exact absurd h h0
theorem alo (b:aB) (p:Pl) (h:dH b p=true):(aU b p).1=0/\(aU b p).2=[]:=by
 cases p with
 | rem=>simp only [dH,decide_eq_true_iff] at h;simp [aU,h,zz]
 | allow=>simp only [dH,vZ] at h;simp [aU,h]
 | num k=>simp only [dH,decide_eq_true_iff] at h;simp [aU,h]
 | _=>simp only [dH,decide_eq_true_iff] at h;simp [aU,h]
theorem afB {b:aB} {fl:List aF} {v:Int} (h:gB b fl v=0) {n:List UInt8} {p:Pl} (hp:placeOf n=some p) (hne:¬ ((aU b p).1=0/\(aU b p).2=[])):qV b p=0:=by
 unfold gB at h;split at h; · cases h
 split at h; · cases h
 split at h; · cases h
 split at h; · cases h
 rename_i hall
 split at h
 ·rename_i hm;exact absurd h hm
 rename_i hm
 have hm:nV b (aH b.kind v)=0:=by simpa using hm
 have hall:gG.all (λn=>qP (aH b.kind v) n || oL b n)=true:=by rw [Rl] at hall;exact hall
 have h1:=List.all_eq_true.1 hall n (CX n p hp).2.2;have h2:oL b n=dH b p:=by unfold oL;rw [hp]
 rw [h2] at h1;cases hn:dH b p with
 | true=>exact absurd (alo b p hn) hne
 | false=>
  rw [hn,zC] at h1;unfold qP at h1;rw [List.any_eq_true] at h1;obtain ⟨s,hs,e⟩:=h1;have e:s.name=n:=by simpa using e
  have h3:=Vm b _ hm s hs;unfold uN at h3;rw [e,hp] at h3;exact h3
mutual
def J4:aF->List UInt8
 | .mk t y n s k=>aS (4 * t+y).toNat++(if y=0 then aS n.toNat else if y=1 then aS s.length++s else aS (bJ k).length++bJ k)
def bJ:List aF->List UInt8
 | []=>[]
 | f::l=>J4 f++bJ l
end
mutual
def wF:aF->Nat
 | .mk _ _ _ s k=>s.length+40+wL k
def wL:List aF->Nat
 | []=>0
 | f::l=>wF f+wL l
end
mutual
/-- Tags and types that may be. -/
def Df:aF->Prop
 | .mk t y n s k=>(1<=t/\t<=4294967296)/\((y=0/\s=[]/\k=[])\/(y=1/\n=0/\k=[])\/(y=2/\n=0/\s=[]))/\qB k
def qB:List aF->Prop
 | []=>True
 | f::l=>Df f/\qB l
end
theorem LG:∀ {l:List aF},qB l->∀f∈l,Df f
 | f::l,h,g,hg=>by
  simp only [qB] at h;rcases bZ.1 hg with rfl | hg
  ·exact h.1
  ·exact LG h.2 g hg
theorem NK:∀ (N:Nat) (l:List aF),bH l < N->bW l->∀w a,iJ w a l=0->0<=a->qB l
 | 0,l,h,_,_,_,_,_=>by omega
 | N+1,[],_,_,_,_,_,_=>by simp only [qB]
 | N+1,.mk t y n s k::l,hN,hok,w,a,h,ha=>by
  simp only [bH,qy] at hN;simp only [bW,pI] at hok;unfold iJ at h;by_cases h1:(aF.mk t y n s k).tag=0
  ·rw [aj h1] at h;exact absurd h (by decide)
  rw [ah h1] at h;by_cases h2:4294967296 < (aF.mk t y n s k).tag
  ·rw [aj h2] at h;exact absurd h (by decide)
  rw [ah h2] at h;by_cases h3:(aF.mk t y n s k).tag<=a
  ·rw [aj h3] at h;exact absurd h (by decide)
  rw [ah h3] at h;by_cases h4:wP w (.mk t y n s k)=0;rotate_left
  ·rw [aj h4] at h;exact absurd h h4
  rw [ah (λe=>e h4)] at h;have h1:¬ t=0:=h1;have h2:¬ 4294967296 < t:=h2;have h3:¬ t<=a:=h3;simp only [qB,Df];refine ⟨⟨by omega, ?_, ?_⟩,NK N l (by omega) hok.2 w t h (by omega)⟩
  ·simp only [wP] at h4
   split at h4
   ·rename_i hy
    split at h4
    ·rename_i hc;exact .inl ⟨hy,hc⟩
    ·cases h4
   ·split at h4
    ·rename_i hy
     split at h4
     ·rename_i hc;exact .inr (.inl ⟨hy,hc⟩)
     ·cases h4
    ·split at h4
     ·rename_i hy
      split at h4
      ·rename_i hc;exact .inr (.inr ⟨hy,hc⟩)
      ·cases h4
     ·cases h4
  ·simp only [wP] at h4
   split at h4
   ·split at h4
    ·rename_i hc;rw [hc.2];simp only [qB]
    ·cases h4
   ·split at h4
    ·split at h4
     ·rename_i hc;rw [hc.2];simp only [qB]
     ·cases h4
    ·split at h4
     ·split at h4
      ·split at h4
       ·cases h4
       ·exact NK N k (by omega) hok.1.2 _ _ h4 (by omega)
      ·cases h4
     ·cases h4
theorem Hg:∀ (N:Nat) (l:List aF),bH l < N->bW l->qB l->wL l<=1000000000000->(bJ l).length<=wL l
 | 0,l,h,_,_,_=>by omega
 | N+1,[],_,_,_,_=>by simp [bJ]
 | N+1,.mk t y n s k::l,hN,hok,hty,hw=>by
  simp only [bH,qy] at hN;simp only [bW,pI] at hok;simp only [qB,Df] at hty;simp only [wL,wF] at hw ⊢;have h1:=Hg N l (by omega) hok.2 hty.2 (by omega);have h2:=Hg N k (by omega) hok.1.2 hty.1.2.2 (by omega);simp only [bJ,J4,dQ];have v1:=mJ (n:=(4 * t+y).toNat) (by rcases hty.1.2.1 with h | h | h<;>omega);have v2:=mJ (n:=n.toNat) (by omega);have v3:=mJ (n:=s.length) (by omega);have v4:=mJ (n:=(bJ k).length) (by omega);split
  ·omega
  ·split
   ·rw [dQ];omega
   ·rw [dQ];omega
theorem aa7 (t y:Int) (ht:1<=t/\t<=4294967296) (hy:0<=y/\y < 4):nY .shl .u64 t 2=some (.i .u64 (4 * t))/\IntKind.u64.wrap y=y/\fE .or .u64 (4 * t) y=some (.i .u64 (4 * t+y)):=by
 have wu:∀y:Int,IntKind.u64.wrap y=y % 18446744073709551616:=λy=>by simp [IntKind.wrap,IntKind.signed,IntKind.bits]
 have hu:IntKind.u64.bits=64:=rfl;refine ⟨?_,by rw [wu];omega, ?_⟩
 ·have h2:nY .shl .u64 t 2=some (.i .u64 (IntKind.u64.wrap (t * 2 ^ 2))):=rfl
  rw [h2,wu];congr 2;omega
 ·simp only [fE,wu,hu]
  obtain ⟨T,rfl⟩:∃T:Nat,t=(T:Int):=⟨t.toNat,by omega⟩
  obtain ⟨Y,rfl⟩:∃Y:Nat,y=(Y:Int):=⟨y.toNat,by omega⟩
  have e1:(BitVec.ofInt 64 (4 * (T:Int))).toNat=4 * T:=by rw [xu];omega
  have e2:(BitVec.ofInt 64 (Y:Int)).toNat=Y:=by rw [xu];omega
  have e3:4 * T ||| Y=4 * T+Y:=(aeP (i:=2) (b:=Y) (by omega) T).symm;show some (GV.i IntKind.u64 (((BitVec.ofInt 64 (4 * (T:Int)) ||| BitVec.ofInt 64 (Y:Int)).toNat:Int) % 18446744073709551616))=_
  rw [BitVec.toNat_or,e1,e2,e3];congr 2;omega
theorem TN {t y n:Int} {s:List UInt8} {k:List aF} (h:Df (.mk t y n s k)):1<=t/\t<=4294967296/\0<=y/\y < 3/\(y=0\/y=1\/y=2)/\qB k:=by
 simp only [Df] at h;rcases h.2.1 with h1 | h1 | h1<;>exact ⟨h.1.1,h.1.2,by omega,by omega,by omega,h.2.2⟩
theorem Xg:∀ (N:Nat) (l:List aF),bH l < N->bW l->qB l->l.length<=1000000->wL l<=1000000000000->TT.lim 89 [.l (aC l)]=some [.i .i64 (bJ l).length]
 | 0,l,h,_,_,_,_=>by omega
 | N+1,l,hN,hok,hty,hlen,hw=>by
  have hl1:=kU l;have loop:∀m i,i+m=l.length->∀acc:Nat,acc+wL (l.drop i)<=1000000000000->TT.lim 90 [.l (aC l),.i .i64 acc,.i .i64 l.length,.i .i64 i]=some [.i .i64 0,.i .i64 ((acc+(bJ (l.drop i)).length:Nat):Int)]:=by
   intro m;induction m with
   | zero=>
    intro i hi acc hacc;have e1:l.drop i=[]:=gZ (by omega);have h:¬ ((i:Int) < l.length):=by omega
    rw [e1];simp only [bJ,vg,lY];refine aA rfl rfl ?_;simp [h]
   | succ m ih=>
    intro i hi acc hacc;obtain ⟨t,y,n,s,k,g1,g2,g3,g4⟩:=BX (l:=l) (i:=i) (by omega);have hf:=BZ hok _ g4;have ht:=LG hty _ g4;simp only [pI] at hf;obtain ⟨t1,t2,y1,y2,y3,tk⟩:=TN ht;have hs:=QL g4;simp only [qy] at hs;rw [g3] at hacc ⊢;simp only [wL,wF] at hacc;have hk:=Xg N k (by omega) hf.2 tk hf.1.2.2.2.2.2.2.2 (by omega);have hkl:=Hg (bH k+1) k (by omega) hf.2 tk (by omega);obtain ⟨b1,b2,b3⟩:=aa7 t y ⟨t1,t2⟩ ⟨y1,by omega⟩;have v1:=Lh (4 * t+y).toNat (by omega);have v2:=Lh n.toNat (by omega);have v3:=Lh s.length (by omega);have v4:=Lh (bJ k).length (by omega);have z1:=Dk (n:=(4 * t+y).toNat) (by omega);have z2:=Dk (n:=n.toNat) (by omega);have z3:=Dk (n:=s.length) (by omega);have z4:=Dk (n:=(bJ k).length) (by omega);rw [show (((4 * t+y).toNat:Nat):Int)=4 * t+y by omega] at v1;rw [show ((n.toNat:Nat):Int)=n by omega] at v2;have hcast:((i+1:Nat):Int)=(i:Int)+1:=by omega
    have hwr:=wrap64 (n:=(i:Int)+1) (by omega) (by omega);have h:((i:Int) < l.length):=by omega
    have ih':=λa ha=>ih (i+1) (by omega) a ha;simp only [hcast] at ih';have e1:(aS (4 * t+y).toNat).length=gq (4 * t+y).toNat:=rfl;have e2:(aS n.toNat).length=gq n.toNat:=rfl;have e3:(aS s.length).length=gq s.length:=rfl;have e4:(aS (bJ k).length).length=gq (bJ k).length:=rfl;have u3:=kC (n:=(s.length:Int)) (by omega) (by omega);have u4:=kC (n:=((bJ k).length:Int)) (by omega) (by omega);simp only [bJ,J4,dQ];rw [e1];generalize gq (4 * t+y).toNat=A at *;have w1:=wrap64 (n:=(acc:Int)+A) (by omega) (by omega);rcases y3 with hy | hy | hy
    ·rw [aj hy,e2]
     generalize gq n.toNat=B at *;have w2:=wrap64 (n:=(acc:Int)+A+B) (by omega) (by omega);have qQ:=ih' (acc+A+B) (by omega);rw [show ((acc+A+B:Nat):Int)=(acc:Int)+A+B by omega,show acc+A+B+(bJ (l.drop (i+1))).length=acc+(A+B+(bJ (l.drop (i+1))).length) by omega] at qQ;have q0:(y=0)=True:=eq_true hy;clear hy;refine aA rfl rfl ?_;simp [h,g2,q0,b1,b2,b3,v1,v2,w1,w2,hwr,qQ]
    ·rw [ah (by omega),aj hy,dQ,e3]
     generalize gq s.length=B at *;have w2:=wrap64 (n:=(B:Int)+s.length) (by omega) (by omega);have w3:=wrap64 (n:=(acc:Int)+A+(B+s.length)) (by omega) (by omega);have qQ:=ih' (acc+A+(B+s.length)) (by omega);rw [show ((acc+A+(B+s.length):Nat):Int)=(acc:Int)+A+(B+s.length) by omega,show acc+A+(B+s.length)+(bJ (l.drop (i+1))).length=acc+(A+(B+s.length)+(bJ (l.drop (i+1))).length) by omega] at qQ;have q0:(y=0)=False:=eq_false (by omega);have q1:(y=1)=True:=eq_true hy;clear hy;refine aA rfl rfl ?_;simp [h,g2,q0,q1,b1,b2,b3,v1,v3,u3,w1,w2,w3,hwr,qQ]
    ·rw [ah (by omega),ah (by omega),dQ,e4]
     generalize gq (bJ k).length=B at *;generalize (bJ k).length=C at *;have w2:=wrap64 (n:=(B:Int)+C) (by omega) (by omega);have w3:=wrap64 (n:=(acc:Int)+A+(B+C)) (by omega) (by omega);have qQ:=ih' (acc+A+(B+C)) (by omega);rw [show ((acc+A+(B+C):Nat):Int)=(acc:Int)+A+(B+C) by omega,show acc+A+(B+C)+(bJ (l.drop (i+1))).length=acc+(A+(B+C)+(bJ (l.drop (i+1))).length) by omega] at qQ;have q0:(y=0)=False:=eq_false (by omega);have q1:(y=1)=False:=eq_false (by omega);have q2:(y=2)=True:=eq_true hy;clear hy;refine aA rfl rfl ?_;simp [h,g2,q0,q1,q2,b1,b2,b3,v1,hk,v4,u4,w1,w2,w3,hwr,qQ]
  have h0:=loop l.length 0 (by omega) 0 (by rw [eH];omega);rw [eH,jk] at h0;have h0':TT.lim 90 [.l (aC l),.i .i64 0,.i .i64 (aC l).length,.i .i64 0]=some [.i .i64 0,.i .i64 ((bJ l).length:Int)]:=by rw [hl1];exact h0
  rw [hl1] at h0';clear loop h0;refine aY rfl rfl ?_ rfl;simp [hl1,h0']
/-- The bytes for fields, put behind others. -/
theorem DT (a b:List UInt8):dZ (a++b)=dZ a++dZ b:=by simp [dZ]
theorem aey:∀ (N:Nat) (l:List aF),bH l < N->bW l->qB l->l.length<=1000000->∀B:List UInt8,B.length+wL l<=1000000000000->TT.lim 91 [.l (dZ B),.l (aC l)]=some [.i .i64 0,.l (dZ (B++bJ l))]
 | 0,l,h,_,_,_,_,_=>by omega
 | N+1,l,hN,hok,hty,hlen,B,hB=>by
  have hl1:=kU l;have loop:∀m i,i+m=l.length->∀acc:List UInt8,acc.length+wL (l.drop i)<=1000000000000->TT.lim 92 [.l (dZ acc),.l (aC l),.i .i64 l.length,.i .i64 i]=some [.i .i64 0,.l (dZ (acc++bJ (l.drop i)))]:=by
   intro m;induction m with
   | zero=>
    intro i hi acc hacc;have e1:l.drop i=[]:=gZ (by omega);have h:¬ ((i:Int) < l.length):=by omega
    rw [e1];simp only [bJ,nK];refine aA rfl rfl ?_;simp [h]
   | succ m ih=>
    intro i hi acc hacc;obtain ⟨t,y,n,s,k,g1,g2,g3,g4⟩:=BX (l:=l) (i:=i) (by omega);have hf:=BZ hok _ g4;have ht:=LG hty _ g4;simp only [pI] at hf;obtain ⟨t1,t2,y1,y2,y3,tk⟩:=TN ht;have hs:=QL g4;simp only [qy] at hs;rw [g3] at hacc ⊢;simp only [wL,wF] at hacc;have hk:=Xg N k (by omega) hf.2 tk hf.1.2.2.2.2.2.2.2 (by omega);have hkl:=Hg (bH k+1) k (by omega) hf.2 tk (by omega);obtain ⟨b1,b2,b3⟩:=aa7 t y ⟨t1,t2⟩ ⟨y1,by omega⟩;have v1:=wX (4 * t+y).toNat (by omega);have v2:=wX n.toNat (by omega);have v3:=wX s.length (by omega);have v4:=wX (bJ k).length (by omega);have z1:=mJ (n:=(4 * t+y).toNat) (by omega);have z2:=mJ (n:=n.toNat) (by omega);have z3:=mJ (n:=s.length) (by omega);have z4:=mJ (n:=(bJ k).length) (by omega);rw [show (((4 * t+y).toNat:Nat):Int)=4 * t+y by omega] at v1;rw [show ((n.toNat:Nat):Int)=n by omega] at v2;have hcast:((i+1:Nat):Int)=(i:Int)+1:=by omega
    have hwr:=wrap64 (n:=(i:Int)+1) (by omega) (by omega);have h:((i:Int) < l.length):=by omega
    have ih':=λa ha=>ih (i+1) (by omega) a ha;simp only [hcast] at ih';have u3:=kC (n:=(s.length:Int)) (by omega) (by omega);have u4:=kC (n:=((bJ k).length:Int)) (by omega) (by omega);have o8:∀z:List UInt8,(dZ z).all (λg=>g.fO 1)=true:=λz=>by simp [dZ,GV.fO]
    have l8:∀z:List UInt8,(dZ z).length=z.length:=λz=>by simp [dZ]
    simp only [bJ,J4];rcases y3 with hy | hy | hy
    ·rw [aj hy]
     have qQ:=ih' (acc++aS (4 * t+y).toNat++aS n.toNat) (by simp only [dQ];omega);rw [show acc++aS (4 * t+y).toNat++aS n.toNat++bJ (l.drop (i+1))=acc++(aS (4 * t+y).toNat++aS n.toNat++bJ (l.drop (i+1))) by simp,DT,DT] at qQ;generalize aS (4 * t+y).toNat=A at *;generalize aS n.toNat=C at *;have c1:2 * (acc.length+A.length)<=281474976710656/\acc.length+A.length<=281474976710656:=by omega
     have c2:2 * (acc.length+A.length+C.length)<=281474976710656/\acc.length+A.length+C.length<=281474976710656:=by omega
     have q0:(y=0)=True:=eq_true hy;clear hy;refine aA rfl rfl ?_;simp [-List.append_assoc,h,g2,q0,b1,b2,b3,v1,v2,hwr,qQ,o8,l8,c1,c2]
    ·rw [ah (by omega),aj hy]
     have qQ:=ih' (acc++aS (4 * t+y).toNat++aS s.length++s) (by simp only [dQ];omega);rw [show acc++aS (4 * t+y).toNat++aS s.length++s++bJ (l.drop (i+1))=acc++(aS (4 * t+y).toNat++(aS s.length++s)++bJ (l.drop (i+1))) by simp,DT,DT,DT] at qQ;generalize aS (4 * t+y).toNat=A at *;generalize aS s.length=C at *;have c1:2 * (acc.length+A.length)<=281474976710656/\acc.length+A.length<=281474976710656:=by omega
     have c2:2 * (acc.length+A.length+C.length)<=281474976710656/\acc.length+A.length+C.length<=281474976710656:=by omega
     have c3:2 * (acc.length+A.length+C.length+s.length)<=281474976710656/\acc.length+A.length+C.length+s.length<=281474976710656:=by omega
     have q0:(y=0)=False:=eq_false (by omega);have q1:(y=1)=True:=eq_true hy;clear hy;refine aA rfl rfl ?_;simp [-List.append_assoc,h,g2,q0,q1,b1,b2,b3,v1,v3,u3,hwr,qQ,o8,l8,c1,c2,c3]
    ·rw [ah (by omega),ah (by omega)]
     have hwk:=aey N k (by omega) hf.2 tk hf.1.2.2.2.2.2.2.2 (acc++aS (4 * t+y).toNat++aS (bJ k).length) (by simp only [dQ];omega);have qQ:=ih' (acc++aS (4 * t+y).toNat++aS (bJ k).length++bJ k) (by simp only [dQ];omega);rw [show acc++aS (4 * t+y).toNat++aS (bJ k).length++bJ k++bJ (l.drop (i+1))=acc++(aS (4 * t+y).toNat++(aS (bJ k).length++bJ k)++bJ (l.drop (i+1))) by simp] at qQ;rw [DT (acc++_),DT acc] at hwk;generalize aS (4 * t+y).toNat=A at *;generalize aS (bJ k).length=C at *;have c1:2 * (acc.length+A.length)<=281474976710656/\acc.length+A.length<=281474976710656:=by omega
     have c2:2 * (acc.length+A.length+C.length)<=281474976710656/\acc.length+A.length+C.length<=281474976710656:=by omega
     generalize bJ k=K at *;have q0:(y=0)=False:=eq_false (by omega);have q1:(y=1)=False:=eq_false (by omega);have q2:(y=2)=True:=eq_true hy;clear hy;refine aA rfl rfl ?_;simp [-List.append_assoc,h,g2,q0,q1,q2,b1,b2,b3,v1,hk,v4,u4,hwk,hwr,qQ,o8,l8,c1,c2]
  have h0:=loop l.length 0 (by omega) B (by rw [eH];omega);rw [eH] at h0;have h0':TT.lim 92 [.l (dZ B),.l (aC l),.i .i64 l.length,.i .i64 0]=some [.i .i64 0,.l (dZ (B++bJ l))]:=h0;clear loop h0;generalize dZ B=B' at *;refine aA rfl rfl ?_;simp [hl1,h0']
theorem alV {α β:Type} {f:α->β} {ys zs:List β} (h:ys.Perm zs):∀l:List α,zs=l.map f->∃p:List α,p.Perm l/\ys=p.map f:=by
 induction h with
 | nil=>intro l e;exact ⟨l,.refl _,e⟩
 | cons x _ ih=>
  intro l e;cases l with
  | nil=>cases e
  | cons a l=>
   injection e with e1 e2
   obtain ⟨p,h1,h2⟩:=ih l e2;exact ⟨a::p,h1.cons a,by rw [ji,<- h2,<- e1]⟩
 | swap x y l=>
  intro m e;rcases m with _ | ⟨a,_ | ⟨b,m⟩⟩
  ·cases e
  ·cases e
  ·simp only [ji,Jb] at e
   obtain ⟨e1,e2,e3⟩:=e;exact ⟨b::a::m,List.Perm.swap a b m,by rw [ji,ji,<- e1,<- e2,<- e3]⟩
 | trans _ _ ih1 ih2=>
  intro l e;obtain ⟨p,h1,h2⟩:=ih2 l e;obtain ⟨q,h3,h4⟩:=ih1 p h2;exact ⟨q,h3.trans h1,h4⟩
theorem Lm:∀ (p q:List aF),p.Perm q->p.Pairwise (λa b=>a.tag<=b.tag)->q.Pairwise (λa b=>a.tag < b.tag)->p=q
 | [],q,h,_,_=>(List.nil_perm.1 h).symm
 | a::p,[],h,_,_=>by have:=h.length_eq;simp at this
 | a::p,b::q,h,hp,hq=>by
  have hb:b∈a::p:=h.mem_iff.2 (by simp);have ha:a∈b::q:=h.mem_iff.1 (by simp);rw [sG] at hp hq;have h1:a.tag<=b.tag:=by
   rcases bZ.1 hb with e | hb
   ·rw [e];exact Ja _
   ·exact hp.1 b hb
  have e:a=b:=by
   rcases bZ.1 ha with e | ha
   ·exact e
   ·have:=hq.1 a ha;omega
  subst e;rw [Lm p q (List.Perm.cons_inv h) hp.2 hq.2]
def Iw (f:aF):List aF->Nat
 | []=>0
 | g::l=>if g.tag < f.tag then Iw f l+1 else 0
def Ce (f:aF) (out:List aF):List aF:=out.take (Iw f out)++f::out.drop (Iw f out)
def H6 (out l:List aF):List aF:=l.foldl (λo f=>Ce f o) out
theorem abn (f:aF) (out:List aF):(Ce f out).Perm (f::out):=by
 unfold Ce;refine List.perm_middle.trans ?_;rw [Dt]
theorem abo (f:aF):∀out:List aF,out.Pairwise (λa b=>a.tag < b.tag)->(∀g∈out,g.tag≠f.tag)->(Ce f out).Pairwise (λa b=>a.tag < b.tag)/\(∀g,out[Iw f out]? = some g->g.tag≠f.tag)
 | [],_,_=>by simp [Ce,Iw]
 | g::l,hp,hn=>by
  rw [sG] at hp;unfold Ce Iw;by_cases h:g.tag < f.tag
  ·obtain ⟨i1,i2⟩:=abo f l hp.2 λx hx=>hn x (by simp [hx])
   rw [aj h];simp only [xC,Jc,dW,qI];refine ⟨List.pairwise_cons.2 ⟨λx hx=>?_,i1⟩,i2⟩;have:=(abn f l).mem_iff.1 hx;rcases bZ.1 this with rfl | hx
   ·exact h
   ·exact hp.1 x hx
  ·rw [ah h]
   have hg:=hn g (by simp);simp only [RG,eH,cu,iI];refine ⟨List.pairwise_cons.2 ⟨λx hx=>?_,sG.2 hp⟩,λx hx=>?_⟩
   ·rcases bZ.1 hx with rfl | hx
    ·omega
    ·have:=hp.1 x hx;omega
   ·injection hx with hx
    rw [<- hx];exact hg
theorem UJ:∀ (l out:List aF),out.Pairwise (λa b=>a.tag < b.tag)->((out++l).map aF.tag).Nodup->(H6 out l).Perm (out++l)/\(H6 out l).Pairwise (λa b=>a.tag < b.tag)
 | [],out,hp,_=>by simp only [H6,List.foldl_nil,nK];exact ⟨.refl _,hp⟩
 | f::l,out,hp,hn=>by
  have hf:∀g∈out,g.tag≠f.tag:=λg hg e=>by
   rw [yu,List.nodup_append] at hn;exact hn.2.2 g.tag (List.mem_map_of_mem hg) f.tag (by simp) e
  have hs:=(abo f out hp hf).1;have hq:(Ce f out++l).Perm (out++f::l):=((abn f out).append_right l).trans (List.perm_middle.symm);have ih:=UJ l (Ce f out) hs ((hq.map aF.tag).nodup_iff.2 hn);exact ⟨ih.1.trans hq,ih.2⟩
theorem aaN (l:List aF):(aC l).all (λg=>g.fO 5)=true:=by
 rw [yS,List.all_eq_true];intro g hg;obtain ⟨f,_,rfl⟩:=nM.1 hg;cases f;simp only [nO];rfl
theorem Oq (a b:List aF):aC (a++b)=aC a++aC b:=by simp only [yS,yu]
/-- Both lists brought together, where all tags differ. -/
def qW (a b:List aF):List aF:=H6 [] (a++b)
theorem CQ {a b:List aF} (hn:((a++b).map aF.tag).Nodup):(qW a b).Perm (a++b)/\(qW a b).Pairwise (λx y=>x.tag < y.tag):=UJ (a++b) [] List.Pairwise.nil hn
theorem afj (s:List UInt8):oz (dZ s)=some s:=by
 induction s with
 | nil=>rfl
 | cons a s ih=>
  have h1:(0:Int)<=a.toNat/\((a.toNat:Nat):Int) < 256:=by have:=a.toNat_lt;omega
  show (if _ then _ else _)=_
  rw [aj h1];have e:(s.map λb=>GV.i .u8 b.toNat)=dZ s:=rfl;rw [e,ih];simp
theorem arC (l:List aF) (hok:bW l) (hlen:l.length<=1000000) (hw:wL l<=1000000000000) (hc:iJ 0 0 l=0):TT.lim 88 [.l (aC l)]=some (if 65536 < (bJ l).length then [.s [],.i .i64 4] else [.s (bJ l),.i .i64 0]):=by
 have ty:=NK (bH l+1) l (by omega) hok 0 0 hc (by omega);have k1:=Oi l hok hlen;rw [hc] at k1;have k2:=Xg (bH l+1) l (by omega) hok ty hlen hw;have k3:=aey (bH l+1) l (by omega) hok ty hlen [] (by simpa using hw);have e0:dZ []=[]:=rfl;rw [e0,cu] at k3;have hfl:=Hg (bH l+1) l (by omega) hok ty hw;by_cases c:65536 < (bJ l).length
 ·have c':(65536:Int) < (bJ l).length:=by omega
  rw [aj c];refine aY rfl rfl ?_ rfl;simp [k1,k2,c,c']
 ·have c':¬ (65536:Int) < (bJ l).length:=by omega
  have hb:=afj (bJ l);have hl8:(dZ (bJ l)).length=(bJ l).length:=by simp [dZ]
  have c2:(dZ (bJ l)).length<=281474976710656:=by omega
  have c3:(0:Int)<=(bJ l).length/\((bJ l).length:Int)<=281474976710656/\((bJ l).length:Int)<=1152921504606846976:=by omega
  rw [ah c];clear hok hw hc ty hfl;generalize bJ l=F at *;generalize aC l=G at *;generalize dZ F=BF at *;refine aY rfl rfl ?_ rfl;simp [k1,k2,k3,c,c',hb,c2,c3,GV.fO]
theorem adU (f:aF):FI (nO f)=f.tag:=by
 cases f;simp only [nO,aF.tag];rfl
theorem ahI (l:List aF):(aC l).all isTagged=true:=by
 rw [yS,List.all_eq_true];intro g hg;obtain ⟨f,_,rfl⟩:=nM.1 hg;cases f;simp only [nO];rfl
theorem adT {a b:List aF} (h:a.Perm b):bH a=bH b:=by
 induction h with
 | nil=>rfl
 | cons x _ ih=>simp only [bH,ih]
 | swap x y l=>simp only [bH];omega
 | trans _ _ h1 h2=>rw [h1,h2]
theorem aes {a b:List aF} (h:a.Perm b):wL a=wL b:=by
 induction h with
 | nil=>rfl
 | cons x _ ih=>simp only [wL,ih]
 | swap x y l=>simp only [wL];omega
 | trans _ _ h1 h2=>rw [h1,h2]
theorem Xu:∀a b:List aF,bH (a++b)=bH a+bH b
 | [],b=>by simp [bH]
 | f::a,b=>by simp only [dW,bH,Xu a b];omega
theorem XJ:∀a b:List aF,wL (a++b)=wL a+wL b
 | [],b=>by simp [wL]
 | f::a,b=>by simp only [dW,wL,XJ a b];omega
theorem Ot:∀ {l:List aF},(∀f∈l,pI f)->bW l
 | [],_=>by simp only [bW]
 | f::l,h=>by
  simp only [bW];exact ⟨h f (by simp),Ot λg hg=>h g (by simp [hg])⟩
theorem ahL {a b:List aF} (h:a.Perm b) (hb:bW b):bW a:=Ot λf hf=>BZ hb f (h.mem_iff.1 hf)
theorem ahK {a b:List aF} (ha:bW a) (hb:bW b):bW (a++b):=Ot λf hf=>(lX.1 hf).elim (BZ ha f) (BZ hb f)
/-- Slices.SortFunc puts them as the document does. -/
theorem apj (l:List aF) (hn:(l.map aF.tag).Nodup):tN (aC l)=aC (H6 [] l):=by
 have hp:=Xh (aC l);have hs:=aph (aC l);rw [yS] at hp;obtain ⟨p,hp1,hp2⟩:=alV hp l rfl;rw [<- yS] at hp2;have hq:=UJ l [] List.Pairwise.nil hn;rw [cu] at hq;have hsp:p.Pairwise (λa b=>a.tag<=b.tag):=by
  rw [aeL];intro i j hi hj hij;have:=hs i j (nO p[i]) (nO p[j]) hij (by rw [hp2,jg,bU hi];rfl) (by rw [hp2,jg,bU hj];rfl);rwa [adU,adU] at this
 have e:=Lm p (H6 [] l) (hp1.trans hq.1.symm) hsp hq.2;rw [hp2,e,yS]
theorem acW (l:List aF) (hl:l.length<=10000000) (hp:l.Pairwise (λa b=>a.tag < b.tag)):∀m i:Nat,i+1+m=l.length->TT.lim 86 [.l (aC l),.i .i64 ((i:Int)+1)]=some [.i .i64 1]
 | 0,i,hi=>by
  have h:¬ ((i:Int)+1 < l.length):=by omega
  have hg:=kU l;refine aA rfl rfl ?_;simp [hg,h]
 | m+1,i,hi=>by
  have h:((i:Int)+1 < l.length):=by omega
  have hg:=kU l;have ih:=acW l hl hp m (i+1) (by omega);obtain ⟨t,y,n,s,k,g1,g2,g3,g4⟩:=BX (l:=l) (i:=i) (by omega);obtain ⟨t',y',n',s',k',g1',g2',g3',g4'⟩:=BX (l:=l) (i:=i+1) (by omega);have hlt:t < t':=by
   have:=aeL.1 hp i (i+1) (by omega) (by omega) (by omega);have e1:l[i]=.mk t y n s k:=by have:=bU (l:=l) (i:=i) (by omega);rw [g1] at this;injection this with this;exact this.symm
   have e2:l[i+1]=.mk t' y' n' s' k':=by have:=bU (l:=l) (i:=i+1) (by omega);rw [g1'] at this;injection this with this;exact this.symm
   rw [e1,e2] at this;exact this
  have hne:¬ t'=t:=by omega
  have hcast:((i+1:Nat):Int)=(i:Int)+1:=by omega
  rw [hcast] at ih;have hw:=wrap64 (n:=(i:Int)+1+1) (by omega) (by omega);have hw2:=wrap64 (n:=(i:Int)+1 - 1) (by omega) (by omega);have hw3:(i:Int)+1 - 1=i:=by omega
  rw [hw3] at hw2;have hn0:(0:Int)<=(i:Int)+1:=by omega
  have ht:((i:Int)+1).toNat=i+1:=by omega
  have hi0:i < l.length:=by omega
  have gi:∀h:i < (aC l).length,(aC l)[i]=pG t y n s k:=λh=>by have:=bU h;rw [g2] at this;injection this with this;exact this.symm
  have gi':∀h:i+1 < (aC l).length,(aC l)[i+1]=pG t' y' n' s' k':=λh=>by have:=bU h;rw [g2'] at this;injection this with this;exact this.symm
  refine aA rfl rfl ?_;simp [gi,gi',hg,h,g2,g2',hne,hw,hw2,hw3,hn0,ht,hi0,ih]
theorem amk (a b:List aF) (oa:bW a) (ob:bW b) (la:a.length<=1000000) (lb:b.length<=1000000) (sa:bH a+bH b<=1000000) (ha:iJ 0 0 a=0) (hb:iJ 0 0 b=0) (hn:((a++b).map aF.tag).Nodup):TT.lim 84 [.l [.l (aC a),.l (aC b)]]=some [.l (aC (qW a b)),.i .i64 0]:=by
 have k1:=Oi a oa la;have k2:=Oi b ob lb;rw [ha] at k1;rw [hb] at k2;have hab:=Oq a b;have l1:=kU a;have l2:=kU b;have o1:=aaN a;have o2:=aaN b;have hso:TT.lim 0 [.l (aC a++aC b)]=some [.l (aC (qW a b))]:=by
  refine KY (Ds:=Ds) (f:=Ll) rfl ?_;have h1:(aC a++aC b).length<=281474976710656/\(aC a++aC b).all isTagged=true:=by
   rw [<- hab];exact ⟨by rw [kU,dQ];omega,ahI _⟩
  show (if (aC a++aC b).length<=281474976710656/\(aC a++aC b).all isTagged=true then some [GV.l (tN (aC a++aC b))] else none)=_
  rw [aj h1,<- hab,apj _ hn];rfl
 obtain ⟨mp,ms⟩:=CQ hn;have hml:(qW a b).length=a.length+b.length:=by rw [mp.length_eq,dQ]
 have hsl:(aC (qW a b)).length=(aC a++aC b).length:=by rw [kU,hml,dQ,l1,l2]
 have hcl:=Oj (qW a b) (by rw [adT mp,Xu];exact sa);have h1:TT.lim 86 [.l (aC (qW a b)),.i .i64 1]=some [.i .i64 1]:=by
  rcases RJ (qW a b).length with h0 | h0
  ·have:qW a b=[]:=je h0
   rw [this];have fn:aC []=[]:=by simp only [aC]
   rw [fn];refine aA rfl rfl ?_;simp
  ·have:=acW (qW a b) (by omega) ms ((qW a b).length - 1) 0 (by omega)
   simpa using this
 have w0:IntKind.i64.wrap 1=1:=by decide
 have w1:IntKind.i64.wrap 2=2:=by decide
 have c1:2 * (aC a).length * 64<=281474976710656/\(aC a).length<=281474976710656:=by omega
 have c2:2 * ((aC a).length+(aC b).length) * 64<=281474976710656/\(aC a).length+(aC b).length<=281474976710656:=by omega
 clear hn mp ms hml ha hb oa ob sa hab l1 l2;generalize aC (qW a b)=M at *;generalize aC a=A at *;generalize aC b=B at *;have a3:TT.lim 85 [.l (A++B),.l [.l A,.l B],.i .i64 2,.i .i64 2]=some [.i .i64 1,.l (A++B)]:=by
  refine aA rfl rfl ?_;simp
 have a2:TT.lim 85 [.l A,.l [.l A,.l B],.i .i64 2,.i .i64 1]=some [.i .i64 1,.l (A++B)]:=by
  refine aA rfl rfl ?_;simp [-List.all_eq_true,k2,w1,o2,c2,a3]
 have a1:TT.lim 85 [.l [],.l [.l A,.l B],.i .i64 2,.i .i64 0]=some [.i .i64 1,.l (A++B)]:=by
  refine aA rfl rfl ?_;simp [-List.all_eq_true,k1,w0,o1,c1,a2]
 rw [dQ] at hsl;refine aY rfl rfl ?_ rfl;simp [a1,hso,hsl,h1,hcl]
def tu (b:aB) (s:bV):Option aF:=match placeOf s.name with
 | some p=>if (aU b p).1=0/\(aU b p).2=[] then none else some (.mk s.tag (aZ p) (aU b p).1 (aU b p).2 [])
 | none=>none
def iM (b:aB) (l:List bV):List aF:=l.filterMap (tu b)
theorem yV (b:aB) (s:bV) (l:List bV):iM b (s::l)=(match tu b s with | some f=>[f] | none=>[])++iM b l:=by
 unfold iM;rw [List.filterMap_cons];cases tu b s<;>rfl
theorem acQ {b:aB} {fl:List aF} (hM:pW b fl) (ls:List bV) (hl:ls.length<=1000) (hls:∀s∈ls,placeOf s.name≠none/\s.use=XD s.name):∀ (m i:Nat) (acc:List aF),i+m=ls.length->acc.length+m<=2000->
 TT.lim 77 ([.l (aC acc),.l (ls.map dV),.i .i64 ls.length,.i .i64 i]++(eY b (aC fl)).cells)=some [.i .i64 0,.l (aC (acc++iM b (ls.drop i)))]
 | 0,i,acc,hi,ha=>by
  have h:¬ ((i:Int) < ls.length):=by omega
  have e:ls.drop i=[]:=gZ (by omega);rw [e];have:iM b []=[]:=rfl;rw [this,nK,dR];simp only [dW,cu];refine aA rfl rfl ?_;simp [h]
 | m+1,i,acc,hi,ha=>by
  have hlt:i < ls.length:=by omega
  have h:((i:Int) < ls.length):=by omega
  obtain ⟨p,v1⟩:∃p,placeOf ls[i].name=some p:=by
   cases e:placeOf ls[i].name with
   | some p=>exact ⟨p,rfl⟩
   | none=>exact absurd e (hls _ (jh hlt)).1
  have v2:=alb hM v1;have hdr:ls.drop i=ls[i]::ls.drop (i+1):=jw hlt;have hat:(ls.map dV)[i]? = some (dV ls[i]):=by rw [jg,bU hlt];rfl
  have hcast:((i+1:Nat):Int)=(i:Int)+1:=by omega
  have hw:=wrap64 (n:=(i:Int)+1) (by omega) (by omega);rw [hdr,yV];have hk:tu b ls[i]=if (aU b p).1=0/\(aU b p).2=[] then none else some (.mk ls[i].tag (aZ p) (aU b p).1 (aU b p).2 []):=by unfold tu;rw [v1]
  rw [hk];have ih:=acQ hM ls hl hls m (i+1);generalize ls[i]=s at *;clear hk hdr v1;have la:=kU acc;have fn:aC []=[]:=by simp only [aC]
  have hel:(pG s.tag (aZ p) (aU b p).1 (aU b p).2 []).fO 5=true:=rfl;have hfe:GV.g [.i .u64 s.tag,.i .i64 (aZ p),.i .u64 (aU b p).1,.s (aU b p).2,.l []]=pG s.tag (aZ p) (aU b p).1 (aU b p).2 []:=by unfold pG;rw [fn]
  have c1:2 * ((aC acc).length+1) * 64<=281474976710656/\(aC acc).length+1<=281474976710656:=by omega
  by_cases hz:(aU b p).1=0/\(aU b p).2=[]
  ·rw [aj hz]
   have ih:=ih acc (by omega) (by omega);rw [dR,hcast] at ih;rw [dR];simp only [dW,cu] at ih ⊢;clear hel hfe c1 la;obtain ⟨z1,z2⟩:=hz;rw [z1,z2] at v2;generalize aC acc=A at *;generalize aC fl=r at *;generalize ls.map dV=SP at *;generalize aZ p=ty at *;refine aA rfl rfl ?_;simp [h,hat,kG,v2,hw,ih]
  ·rw [ah hz]
   have ih:=ih (acc++[.mk s.tag (aZ p) (aU b p).1 (aU b p).2 []]) (by omega) (by rw [dQ,Bg];omega);have hfa:aC (acc++[.mk s.tag (aZ p) (aU b p).1 (aU b p).2 []])=aC acc++[pG s.tag (aZ p) (aU b p).1 (aU b p).2 []]:=by rw [Oq];simp only [aC,nO];rfl
   rw [dR,hcast,hfa,List.append_assoc] at ih;rw [dR];simp only [dW,cu] at ih ⊢;generalize hR:aC (acc++.mk s.tag (aZ p) (aU b p).1 (aU b p).2 []::iM b (ls.drop (i+1)))=R at *;clear hR hfa la;generalize pG s.tag (aZ p) (aU b p).1 (aU b p).2 []=E at *;generalize aC acc=A at *;generalize aC fl=r at *;generalize ls.map dV=SP at *;generalize aZ p=ty at *;generalize aU b p=vv at *;obtain ⟨n,t⟩:=vv;simp only at *;by_cases hn:n=0
   ·have ht:¬ t=[]:=λe=>hz ⟨hn,e⟩
    subst hn;refine aA rfl rfl ?_;simp [h,hat,kG,v2,ht,hfe,hel,c1,hw,ih]
   ·refine aA rfl rfl ?_
    simp [h,hat,kG,v2,hn,hfe,hel,c1,hw,ih]
theorem D5:∀ (l:List aF) (w:Nat) (a:Int),iJ w a l=0->(∀f∈l,f.tag≠0/\f.tag<=4294967296/\wP w f=0/\a < f.tag)/\l.Pairwise (λx y=>x.tag < y.tag)
 | [],w,a,_=>⟨by simp,List.Pairwise.nil⟩
 | f::l,w,a,h=>by
  unfold iJ at h;by_cases h1:f.tag=0
  ·rw [aj h1] at h;exact absurd h (by decide)
  rw [ah h1] at h;by_cases h2:4294967296 < f.tag
  ·rw [aj h2] at h;exact absurd h (by decide)
  rw [ah h2] at h;by_cases h3:f.tag<=a
  ·rw [aj h3] at h;exact absurd h (by decide)
  rw [ah h3] at h;by_cases h4:wP w f=0;rotate_left
  ·rw [aj h4] at h;exact absurd h h4
  rw [ah (λe=>e h4)] at h;obtain ⟨i1,i2⟩:=D5 l w f.tag h;refine ⟨λg hg=>?_,sG.2 ⟨λg hg=>(i1 g hg).2.2.2,i2⟩⟩;rcases bZ.1 hg with rfl | hg
  ·exact ⟨h1,by omega,h4,by omega⟩
  ·obtain ⟨q1,q2,q3,q4⟩:=i1 g hg
   exact ⟨q1,q2,q3,by omega⟩
theorem NJ:∀ (l:List aF) (w:Nat) (a:Int),(∀f∈l,f.tag≠0/\f.tag<=4294967296/\wP w f=0/\a < f.tag)->l.Pairwise (λx y=>x.tag < y.tag)->iJ w a l=0
 | [],w,a,_,_=>by unfold iJ;rfl
 | f::l,w,a,h,hp=>by
  obtain ⟨q1,q2,q3,q4⟩:=h f (by simp);rw [sG] at hp;unfold iJ;rw [ah q1,ah (by omega),ah (by omega),ah (λe=>e q3)];refine NJ l w f.tag (λg hg=>?_) hp.2;obtain ⟨r1,r2,r3,r4⟩:=h g (by simp [hg]);exact ⟨r1,r2,r3,hp.1 g hg⟩
theorem apn (k:Int):(nZ k).Pairwise (λs t=>s.tag < t.tag)/\∀s∈nZ k,1<=s.tag/\s.tag<=5:=by
 unfold nZ;repeat' split
 all_goals first | (unfold sp1;decide) | (unfold sp2;decide) | (unfold rY;decide) | (unfold AL;decide) | (unfold rZ;decide) | (unfold su;decide) | (unfold AO;decide) | (unfold AP;decide) | exact ⟨List.Pairwise.nil,λs hs=>by cases hs⟩
theorem CG (k v:Int):(aH k v).Pairwise (λs t=>s.tag < t.tag)/\∀s∈aH k v,1<=s.tag/\s.tag<=5:=by
 obtain ⟨h1,h2⟩:=apn k;exact ⟨h1.sublist Rt,λs hs=>h2 s (vk.1 hs).1⟩
theorem KD {b:aB} {s:bV} {f:aF} (h:tu b s=some f):∃p,placeOf s.name=some p/\f=.mk s.tag (aZ p) (aU b p).1 (aU b p).2 []/\¬ ((aU b p).1=0/\(aU b p).2=[]):=by
 unfold tu at h;cases hp:placeOf s.name with
 | none=>rw [hp] at h;cases h
 | some p=>
  rw [hp] at h;simp only at h;by_cases hz:(aU b p).1=0/\(aU b p).2=[]
  ·rw [aj hz] at h;cases h
  ·rw [ah hz] at h
   injection h with h
   exact ⟨p,rfl,h.symm,hz⟩
theorem KE {b:aB} {l:List bV} {f:aF} (h:f∈iM b l):∃s∈l,∃p,placeOf s.name=some p/\f=.mk s.tag (aZ p) (aU b p).1 (aU b p).2 []/\¬ ((aU b p).1=0/\(aU b p).2=[]):=by
 unfold iM at h;obtain ⟨s,hs,hf⟩:=List.mem_filterMap.1 h;exact ⟨s,hs,KD hf⟩
theorem O8 (b:aB):∀ (l:List bV),l.Pairwise (λs t=>s.tag < t.tag)->(iM b l).Pairwise (λx y=>x.tag < y.tag)
 | [],_=>List.Pairwise.nil
 | s::l,h=>by
  rw [sG] at h;rw [yV];have ih:=O8 b l h.2;cases hk:tu b s with
  | none=>exact ih
  | some f=>
   obtain ⟨p, -,rfl, -⟩:=KD hk;refine sG.2 ⟨λg hg=>?_,ih⟩;obtain ⟨s',hs',p', -,rfl, -⟩:=KE hg;exact h.1 s' hs'
theorem aqY (b:aB) (p:Pl):(aZ p=0/\(aU b p).2=[])\/(aZ p=1/\(aU b p).1=0):=by
 cases p<;>simp [aZ,aU]
theorem U1 (b:aB) (k v:Int):iJ 0 0 (iM b (aH k v))=0:=by
 obtain ⟨h1,h2⟩:=CG k v;refine NJ _ 0 0 (λf hf=>?_) (O8 b _ h1);obtain ⟨s,hs,p, -,rfl, -⟩:=KE hf;have:=h2 s hs;refine ⟨by show s.tag≠0;omega,by show s.tag<=_;omega, ?_,by show 0 < s.tag;omega⟩;unfold wP;rcases aqY b p with ⟨q1,q2⟩ | ⟨q1,q2⟩
 ·rw [q1,q2];simp
 ·rw [q1,q2];simp
def Short (b:aB):Prop:=b.name.length<=600/\b.region.length<=600/\b.note.length<=600
theorem aei {b:aB} {fl:List aF} (h:pW b fl) (hw:Short b) (p:Pl):(0<=(aU b p).1/\(aU b p).1 < 18446744073709551616)/\(aU b p).2.length<=100000000:=by
 have q:=h.body;obtain ⟨w1,w2,w3⟩:=hw;cases p with
 | rem=>
  have hr:=q.remaining;exact ⟨by simp only [aU];unfold zz;split<;>omega,by simp [aU]⟩
 | allow=>refine ⟨?_,by simp [aU]⟩;simp only [aU];split<;>omega
 | name=>exact ⟨by simp [aU],by simp only [aU];omega⟩
 | region=>exact ⟨by simp [aU],by simp only [aU];omega⟩
 | note=>exact ⟨by simp [aU],by simp only [aU];omega⟩
 | d=>
  refine ⟨by simp [aU], ?_⟩;simp only [aU];have:=KC h.d;split
  ·simp
  ·omega
 | t=>
  refine ⟨by simp [aU], ?_⟩;simp only [aU];have:=acN b.t h.t;split
  ·simp
  ·unfold zh
   split
   ·simp
   ·simp only;omega
 | num k=>
  refine ⟨?_,by simp [aU]⟩;simp only [aU];unfold gI;split<;>first | exact q.id | exact q.min | exact q.max | exact q.chosen | exact q.flags | exact q.cost | exact q.priority | exact q.deadline | exact q.retry | exact q.epoch | exact q.base | exact q.digest | exact q.lag | exact q.code | exact q.want
theorem UY {b:aB} {fl:List aF} (h:pW b fl) (hw:Short b) (k v:Int):bW (iM b (aH k v)):=Ot λf hf=>by
 obtain ⟨s,hs,p, -,rfl, -⟩:=KE hf;have ht:=(CG k v).2 s hs;have hv:=aei h hw p;have hy:0<=aZ p/\aZ p<=1:=by cases p<;>simp [aZ]
 simp only [pI,bW];refine ⟨⟨?_, ?_, ?_, ?_,hv.1.1,hv.1.2,hv.2, ?_⟩,trivial⟩;all_goals first | omega | simp
theorem aby (b:aB) (k v:Int):(iM b (aH k v)).length<=8:=iR (List.length_filterMap_le _ _) (yX k v)
theorem UZ (b:aB):∀l:List bV,bH (iM b l)<=2 * l.length
 | []=>by simp [iM,bH]
 | s::l=>by
  rw [yV];have ih:=UZ b l;cases hk:tu b s with
  | none=>simp only [cu,iV];omega
  | some f=>
   obtain ⟨p, -,rfl, -⟩:=KD hk;simp only [dW,cu,bH,qy,iV];omega
theorem U0 {b:aB} {fl:List aF} (h:pW b fl) (hw:Short b):∀l:List bV,wL (iM b l)<=100000040 * l.length
 | []=>by simp [iM,wL]
 | s::l=>by
  rw [yV];have ih:=U0 h hw l;cases hk:tu b s with
  | none=>simp only [cu,iV];omega
  | some f=>
   obtain ⟨p, -,rfl, -⟩:=KD hk;have hv:=(aei h hw p).2;simp only [dW,cu,wL,wF,iV];omega
theorem Oy:∀ (n:Nat) (l:List One) (deep:Int),(∀x∈l,x.text.length<=300)->wL (fA n l deep).1+340 * (fA n l deep).2.length<=340 * l.length
 | 0,l,deep,_=>by simp [fA,wL]
 | n+1,[],deep,_=>by simp [fA,wL]
 | n+1,x::l,deep,h=>by
  have hx:=h x (by simp);have hl:∀y∈l,y.text.length<=300:=λy hy=>h y (by simp [hy]);simp only [fA];split
  ·by_cases hd:x.deep=255
   ·rw [aj hd]
    have h1:=Oy n l deep hl;simp only [wL,wF,iV];omega
   ·rw [ah hd]
    have h1:=Oy n l (x.deep+1) hl;obtain ⟨k,hk⟩:=(Eb n l (x.deep+1)).2;have h2:=Oy n (fA n l (x.deep+1)).2 deep (λy hy=>hl y (by rw [hk] at hy;exact Bh hy));simp only [wL,wF,iV];omega
  ·simp [wL]
theorem akb (l:List One) (hf:uD l=true):wL (tC l)<=20400:=by
 unfold uD at hf;rw [aI,decide_eq_true_iff,List.all_eq_true] at hf;have:=Oy (l.length+1) l 0 λx hx=>by simpa using hf.1 x hx
 unfold tC;omega
/-- What is needed for a message that is written. -/
structure wJ (b:aB) (fl:List aF):Prop where
 msg:pW b fl
 short:Short b
 sz:bH fl<=900000
 w:wL fl<=2000000000
theorem zU {b:aB} {fl:List aF} {v:Int} (h:gB b fl v=0):1<=v/\v<=3/\aH b.kind v≠[]/\iJ 0 0 fl=0/\∀f∈fl,hasTag (aH b.kind v) f.tag=false:=by
 unfold gB at h;by_cases h1:v < 1
 ·rw [aj h1] at h;exact absurd h (by decide)
 rw [ah h1] at h;by_cases h2:3 < v
 ·rw [aj h2] at h;exact absurd h (by decide)
 rw [ah h2] at h;by_cases h3:aH b.kind v=[]
 ·rw [aj h3] at h;exact absurd h (by decide)
 rw [ah h3] at h;by_cases h4:gG.all (λn=>qP (aH b.kind v) n || oL b n)=false
 ·rw [aj h4] at h;exact absurd h (by decide)
 rw [ah h4] at h;by_cases h5:nV b (aH b.kind v)≠0
 ·rw [aj h5] at h;exact absurd h h5
 rw [ah h5] at h;by_cases h6:yJ b≠0
 ·rw [aj h6] at h;exact absurd h h6
 rw [ah h6] at h;unfold Iz at h;by_cases h7:iJ 0 0 fl≠0
 ·rw [aj h7] at h;exact absurd h h7
 rw [ah h7] at h;by_cases h8:fl.any (λf=>hasTag (aH b.kind v) f.tag)=true
 ·rw [aj h8] at h;exact absurd h (by decide)
 refine ⟨by omega,by omega,h3,by simpa using h7,λf hf=>?_⟩;cases e:hasTag (aH b.kind v) f.tag with
 | false=>rfl
 | true=>exact absurd (List.any_eq_true.2 ⟨f,hf,e⟩) h8
theorem DF {b:aB} {fl:List aF} {v:Int} (h:gB b fl v=0):((iM b (aH b.kind v)++fl).map aF.tag).Nodup:=by
 obtain ⟨-, -, -,h1,h2⟩:=zU h;have p1:=O8 b _ (CG b.kind v).1;have p2:=(D5 fl 0 0 h1).2;rw [yu,List.nodup_append];have nd:∀l:List aF,l.Pairwise (λx y=>x.tag < y.tag)->(l.map aF.tag).Nodup:=λl hl=>by
  unfold List.Nodup;rw [List.pairwise_map];exact hl.imp λh e=>by omega
 refine ⟨nd _ p1,nd _ p2,λx hx y hy e=>?_⟩;obtain ⟨f,hf,rfl⟩:=nM.1 hx;obtain ⟨g,hg,rfl⟩:=nM.1 hy;obtain ⟨s,hs,p, -,rfl, -⟩:=KE hf;have:=h2 g hg;unfold hasTag at this;have h3:(aH b.kind v).any (λs=>decide (g.tag=s.tag))=true:=List.any_eq_true.2 ⟨s,hs,GL (show g.tag=s.tag from e.symm)⟩;rw [h3] at this;cases this
def ig (b:aB) (fl:List aF) (v:Int):List aF:=qW (iM b (aH b.kind v)) fl
def Ol (b:aB) (fl:List aF) (v:Int):List aF×Int:=if gB b fl v=0 then (ig b fl v,0) else ([],gB b fl v)
structure Ri (l:List aF):Prop where
 ok:bW l
 len:l.length<=1000000
 w:wL l<=1000000000000
 chk:iJ 0 0 l=0
theorem RY {b:aB} {fl:List aF} {v:Int} (hm:wJ b fl) (h:gB b fl v=0):Ri (ig b fl v):=by
 obtain ⟨-, -, -,h1,h2⟩:=zU h;obtain ⟨mp,ms⟩:=CQ (DF h);have hl:fl.length<=900000:=by
  have:∀l:List aF,l.length<=bH l:=λl=>by
   induction l with
   | nil=>simp [bH]
   | cons f l ih=>simp only [iV,bH];omega
  have:=this fl;have:=hm.sz;omega
 have kl:=aby b b.kind v;have kw:=U0 hm.msg hm.short (aH b.kind v);have k8:=yX b.kind v;have mw:=hm.w;refine ⟨ahL mp (ahK (UY hm.msg hm.short _ _) hm.msg.f8), ?_, ?_, ?_⟩
 ·unfold ig;rw [mp.length_eq,dQ];omega
 ·unfold ig;rw [aes mp,XJ]
  have:100000040 * (aH b.kind v).length<=100000040 * 8:=MC _ k8;omega
 ·refine NJ _ 0 0 (λf hf=>?_) ms
  rcases lX.1 (mp.mem_iff.1 hf) with hf | hf
  ·exact (D5 _ 0 0 (U1 b b.kind v)).1 f hf
  ·exact (D5 _ 0 0 h1).1 f hf
theorem UU {k v:Int} (h:aH k v≠[]):1<=k/\k<=8:=by
 by_cases c:1<=k/\k<=8
 ·exact c
 ·exfalso
  apply h;unfold aH nZ;rw [ah (by omega),ah (by omega),ah (by omega),ah (by omega),ah (by omega),ah (by omega),ah (by omega),ah (by omega)];rfl
theorem alW {b:aB} {fl:List aF} (hm:wJ b fl) (v:Int):TT.lim 23 [eY b (aC fl),.i .i64 v]=some [.l (aC (Ol b fl v).1),.i .i64 (Ol b fl v).2]:=by
 have hc:=ab9 b fl v hm.msg.body hm.msg.t.few hm.msg.f8 hm.msg.len;unfold Ol;by_cases c:gB b fl v=0;rotate_left
 ·rw [ah c]
  have fn:aC []=[]:=by simp only [aC]
  rw [fn];generalize aC fl=r at *;generalize gB b fl v=ck at *;refine aY rfl rfl ?_ rfl;simp [kG,hc,c]
 rw [aj c];rw [c] at hc;obtain ⟨v1,v3,hne,h8, -⟩:=zU c;have hk:=O6 b.kind v v1 v3 (by
  have:=mt (O9 b.kind v v1 v3).2 hne;omega)
 have h0:=acQ hm.msg (aH b.kind v) (by have:=yX b.kind v;omega) (ajE b.kind v) (aH b.kind v).length 0 [] (by omega) (by have:=yX b.kind v;simp;omega);have fn:aC []=[]:=by simp only [aC]
 rw [eH,cu,dR,fn] at h0;simp only [dW,cu,zF] at h0;have hsz:=UZ b (aH b.kind v);have k8:=yX b.kind v;have mo:=amk _ fl (UY hm.msg hm.short b.kind v) hm.msg.f8 (by have:=aby b b.kind v;omega) hm.msg.len (by have:=hm.sz;omega) (U1 b b.kind v) h8 (DF c);have hal:(((aH b.kind v).map dV).length:Int)=((aH b.kind v).length:Int):=by rw [wC]
 unfold ig;generalize aC (qW (iM b (aH b.kind v)) fl)=M at *;generalize aC (iM b (aH b.kind v))=KV at *;generalize (aH b.kind v).map dV=SP at *;generalize ((aH b.kind v).length:Int)=L at *;generalize aC fl=r at *;clear hsz k8 hne h8 c hm v1 v3;refine aY rfl rfl ?_ rfl;simp [kG,hc,hk,hal,h0,mo]
/-- What is written, or why not. -/
def bytesV (b:aB) (fl:List aF) (v:Int):List UInt8:=aS b.kind.toNat++bJ (ig b fl v)
def mY (b:aB) (fl:List aF) (v:Int):List UInt8×Int:=if gB b fl v=0 then (if 65536 < (bytesV b fl v).length then ([],4) else (bytesV b fl v,0)) else ([],gB b fl v)
theorem alU {b:aB} {fl:List aF} (hm:wJ b fl) (v:Int):TT.lim 22 [eY b (aC fl),.i .i64 v]=some [.s (mY b fl v).1,.i .i64 (mY b fl v).2]:=by
 have hf:=alW hm v;unfold Ol at hf;unfold mY;by_cases c:gB b fl v=0;rotate_left
 ·rw [ah c] at hf ⊢
  generalize aC fl=r at *;generalize gB b fl v=ck at *;refine aY rfl rfl ?_ rfl;simp [kG,hf,c]
 rw [aj c] at hf ⊢;have ao:=RY hm c;have hw:=arC (ig b fl v) ao.ok ao.len ao.w ao.chk;obtain ⟨-, -,hne, -, -⟩:=zU c;obtain ⟨k1,k8⟩:=UU hne;have hp:=wX b.kind.toNat (by omega);have hpl:=mJ (n:=b.kind.toNat) (by omega);rw [show ((b.kind.toNat:Nat):Int)=b.kind by omega] at hp;have wk:=kC (n:=b.kind) (by omega) (by omega);unfold bytesV;rw [dQ];clear ao c hm hne;generalize ig b fl v=AF at *;generalize aS b.kind.toNat=V at *;generalize aC fl=r at *;generalize aC AF=G at *;generalize bJ AF=F at *;by_cases c1:65536 < F.length
 ·rw [aj c1] at hw
  rw [aj (by omega)];refine aY rfl rfl ?_ rfl;simp [kG,hf,hw]
 ·rw [ah c1] at hw
  have c3:(V.length:Int)+F.length<=9223372036854775807:=by omega
  by_cases c2:65536 < V.length+F.length
  ·have c2':(65536:Int) < V.length+F.length:=by omega
   rw [aj c2];refine aY rfl rfl ?_ rfl;simp [kG,hf,hw,wk,hp,c2',c3]
  ·have c2':¬ (65536:Int) < V.length+F.length:=by omega
   rw [ah c2];refine aY rfl rfl ?_ rfl;simp [kG,hf,hw,wk,hp,c2',c3]
end K
end Go.Proofs.YthgifdbaegpbpaaGreatDoor
