/- What the trees compute: plain laws. -/
import Derived.Test.YtcpfjpcdcafjmaaGreatDoorKKe1
namespace Go.Proofs.YtcpfjpcdcafjmaaGreatDoor
open Go Go.aO
set_option linter.unusedSimpArgs false
set_option linter.unusedVariables false
set_option maxRecDepth 100000
namespace K
inductive Pl where
 | rem | allow | name | region | note | d | t
 | num (k:Nat)
def lX:List UInt8:=[114,101,109,97,105,110,105,110,103]
def lD:List UInt8:=[97,108,108,111,119,101,100]
def kR:List UInt8:=[110,97,109,101]
def kT:List UInt8:=[114,101,103,105,111,110]
def kS:List UInt8:=[110,111,116,101]
def lK:List UInt8:=[100,101,115,99,114]
def lZ:List UInt8:=[116,97,98,108,101]
def lS:List UInt8:=[105,100]
def lV:List UInt8:=[109,105,110]
def lU:List UInt8:=[109,97,120]
def lG:List UInt8:=[99,104,111,115,101,110]
def lQ:List UInt8:=[102,108,97,103,115]
def lI:List UInt8:=[99,111,115,116]
def lW:List UInt8:=[112,114,105,111,114,105,116,121]
def lJ:List UInt8:=[100,101,97,100,108,105,110,101]
def lY:List UInt8:=[114,101,116,114,121]
def lN:List UInt8:=[101,112,111,99,104]
def lF:List UInt8:=[98,97,115,101]
def lM:List UInt8:=[100,105,103,101,115,116]
def lT:List UInt8:=[108,97,103]
def lH:List UInt8:=[99,111,100,101]
def l7:List UInt8:=[119,97,110,116]
def placeOf (n:List UInt8):Option Pl:=
 if n=lX then some .rem else if n=lD then some .allow else if n=kR then some .name else if n=kT then some .region else if n=kS then some .note else if n=lK then some .d else if n=lZ then some .t else if n=lS then some (.num 0) else if n=lV then some (.num 1) else if n=lU then some (.num 2) else if n=lG then some (.num 3) else if n=lQ then some (.num 4) else if n=lI then some (.num 5) else if n=lW then some (.num 6) else if n=lJ then some (.num 7) else if n=lY then some (.num 8) else if n=lN then some (.num 9) else if n=lF then some (.num 10) else if n=lM then some (.num 11) else if n=lT then some (.num 12) else if n=lH then some (.num 13) else if n=l7 then some (.num 14) else none
theorem DZ:placeOf lX=some .rem:=rfl
theorem Dz:placeOf lD=some .allow:=rfl
theorem Bj:placeOf kR=some .name:=rfl
theorem Bo:placeOf kT=some .region:=rfl
theorem Bl:placeOf kS=some .note:=rfl
theorem DL:placeOf lK=some .d:=rfl
theorem D6:placeOf lZ=some .t:=rfl
theorem DU:placeOf lS=some (.num 0):=rfl
theorem DX:placeOf lV=some (.num 1):=rfl
theorem DW:placeOf lU=some (.num 2):=rfl
theorem DF:placeOf lG=some (.num 3):=rfl
theorem DT:placeOf lQ=some (.num 4):=rfl
theorem DJ:placeOf lI=some (.num 5):=rfl
theorem DY:placeOf lW=some (.num 6):=rfl
theorem DK:placeOf lJ=some (.num 7):=rfl
theorem D5:placeOf lY=some (.num 8):=rfl
theorem DR:placeOf lN=some (.num 9):=rfl
theorem DC:placeOf lF=some (.num 10):=rfl
theorem DN:placeOf lM=some (.num 11):=rfl
theorem DV:placeOf lT=some (.num 12):=rfl
theorem DI:placeOf lH=some (.num 13):=rfl
theorem D7:placeOf l7=some (.num 14):=rfl
def fE (b:aB) (k:Nat):Int:=match k with
 | 0=>b.id
 | 1=>b.min
 | 2=>b.max
 | 3=>b.chosen
 | 4=>b.flags
 | 5=>b.cost
 | 6=>b.priority
 | 7=>b.deadline
 | 8=>b.retry
 | 9=>b.epoch
 | 10=>b.base
 | 11=>b.digest
 | 12=>b.lag
 | 13=>b.code
 | _=>b.want
def dw (b:aB):Pl->Bool
 | .rem=>decide (b.remaining=0)
 | .allow=>!b.allowed
 | .name=>decide (b.name=[])
 | .region=>decide (b.region=[])
 | .note=>decide (b.note=[])
 | .d=>decide (b.d=[])
 | .t=>decide (b.t=[])
 | .num k=>decide (fE b k=0)
def mg (b:aB) (n:List UInt8):Bool:=match placeOf n with
 | some p=>dw b p
 | none=>true
def qF (b:aB):Pl->Int
 | .name=>jI b.name 0 256
 | .region=>jI b.region 0 256
 | .note=>jI b.note 0 256
 | .d=>if b.d=[] then 0 else rY b.d
 | .t=>uS b.t
 | _=>0
def sH (b:aB) (n:List UInt8):Int:=match placeOf n with
 | some p=>qF b p
 | none=>0
def zz (x:Int):Int:=if 0<=x then 2 * x else -2 * x - 1
def aK (b:aB):Pl->Int×List UInt8
 | .rem=>(zz b.remaining,[])
 | .allow=>(if b.allowed=true then 1 else 0,[])
 | .name=>(0,b.name)
 | .region=>(0,b.region)
 | .note=>(0,b.note)
 | .d=>(0,if b.d=[] then [] else iJ b.d)
 | .t=>(0,if b.t=[] then [] else (zD b.t).1)
 | .num k=>(fE b k,[])
def aV:Pl->Int
 | .num _=>0
 | .rem=>0
 | .allow=>0
 | _=>1
def asa:Pl->Int
 | .num _=>0
 | .allow=>1
 | .rem=>2
 | .d=>4
 | .t=>5
 | _=>3
/-- A cascade over all names. -/
theorem JZ {Q:List UInt8->Prop} (ajA:Q lX) (ajj:Q lD) (ajw:Q kR) (ajz:Q kT) (ajx:Q kS) (ajo:Q lK) (ajC:Q lZ) (ajs:Q lS) (ajv:Q lV) (aju:Q lU) (ajk:Q lG) (ajr:Q lQ) (ajm:Q lI) (ajy:Q lW) (ajn:Q lJ) (ajB:Q lY) (ajq:Q lN) (h_base:Q lF) (ajp:Q lM) (ajt:Q lT) (ajl:Q lH) (ajD:Q l7) (h0:∀n,¬ n=lX->¬ n=lD->¬ n=kR->¬ n=kT->¬ n=kS->¬ n=lK->¬ n=lZ->¬ n=lS->¬ n=lV->¬ n=lU->¬ n=lG->¬ n=lQ->¬ n=lI->¬ n=lW->¬ n=lJ->¬ n=lY->¬ n=lN->¬ n=lF->¬ n=lM->¬ n=lT->¬ n=lH->¬ n=l7->Q n) (n:List UInt8):Q n:=by
 by_cases aaW:n=lX
 ·rw [aaW];exact ajA
 by_cases aaE:n=lD
 ·rw [aaE];exact ajj
 by_cases aaS:n=kR
 ·rw [aaS];exact ajw
 by_cases aaV:n=kT
 ·rw [aaV];exact ajz
 by_cases aaT:n=kS
 ·rw [aaT];exact ajx
 by_cases aaK:n=lK
 ·rw [aaK];exact ajo
 by_cases aaY:n=lZ
 ·rw [aaY];exact ajC
 by_cases aaO:n=lS
 ·rw [aaO];exact ajs
 by_cases aaR:n=lV
 ·rw [aaR];exact ajv
 by_cases aaQ:n=lU
 ·rw [aaQ];exact aju
 by_cases aaG:n=lG
 ·rw [aaG];exact ajk
 by_cases aaN:n=lQ
 ·rw [aaN];exact ajr
 by_cases aaI:n=lI
 ·rw [aaI];exact ajm
 by_cases aaU:n=lW
 ·rw [aaU];exact ajy
 by_cases aaJ:n=lJ
 ·rw [aaJ];exact ajn
 by_cases aaX:n=lY
 ·rw [aaX];exact ajB
 by_cases aaM:n=lN
 ·rw [aaM];exact ajq
 by_cases aaF:n=lF
 ·rw [aaF];exact h_base
 by_cases aaL:n=lM
 ·rw [aaL];exact ajp
 by_cases aaP:n=lT
 ·rw [aaP];exact ajt
 by_cases aaH:n=lH
 ·rw [aaH];exact ajl
 by_cases aaZ:n=l7
 ·rw [aaZ];exact ajD
 exact h0 n aaW aaE aaS aaV aaT aaK aaY aaO aaR aaQ aaG aaN aaI aaU aaJ aaX aaM aaF aaL aaP aaH aaZ
theorem LW (n:List UInt8) (e0:¬ n=lX) (e1:¬ n=lD) (e2:¬ n=kR) (e3:¬ n=kT) (e4:¬ n=kS) (e5:¬ n=lK) (e6:¬ n=lZ) (e7:¬ n=lS) (e8:¬ n=lV) (e9:¬ n=lU) (e10:¬ n=lG) (e11:¬ n=lQ) (e12:¬ n=lI) (e13:¬ n=lW) (e14:¬ n=lJ) (e15:¬ n=lY) (e16:¬ n=lN) (e17:¬ n=lF) (e18:¬ n=lM) (e19:¬ n=lT) (e20:¬ n=lH) (e21:¬ n=l7):placeOf n=none:=by
 unfold placeOf;rw [ah e0,ah e1,ah e2,ah e3,ah e4,ah e5,ah e6,ah e7,ah e8,ah e9,ah e10,ah e11,ah e12,ah e13,ah e14,ah e15,ah e16,ah e17,ah e18,ah e19,ah e20,ah e21]
def tJ (ps:List (List UInt8)):List GV:=ps.map λp=>.g [.s p,.b true]
def zo (ps:List (List UInt8)) (x:List UInt8):List (List UInt8):=if x∈ps then ps else ps++[x]
theorem Tt (n:List UInt8):∀ps:List (List UInt8),fQ (.s n) (tJ ps)=if n∈ps then some (.b true) else none
 | []=>rfl
 | p::ps=>by
   have ih:=Tt n ps;simp only [tJ,iY,fQ,je] at ih ⊢;by_cases e:n=p
   ·subst e;simp
   ·have e2:¬ p=n:=λh=>e h.symm
    simp [e,ih]
theorem ad1 (x:List UInt8):∀ps:List (List UInt8),iO (.s x) (.b true) (tJ ps)=tJ (zo ps x)
 | []=>rfl
 | p::ps=>by
   have ih:=ad1 x ps;unfold zo at ih ⊢;simp only [tJ,iY,iO,je] at ih ⊢;by_cases e:x=p
   ·subst e;simp
   ·have e1:(x==p)=false:=by simpa using e
    simp only [e1,gZ,if_false];rw [ih];by_cases hm:x∈ps
    ·simp only [hm,if_true,cO,or_true,iY]
    ·simp only [hm,if_false,cO,e,or_false,cu,iY]
def yB (ps:List (List UInt8)) (l:List bM):List (List UInt8):=l.foldl (λps s=>zo ps s.name) ps
theorem alP (n x:List UInt8) (ps:List (List UInt8)):n∈zo ps x↔n∈ps\/x=n:=by
 unfold zo;split
 ·next h=>exact ⟨.inl,λe=>e.elim id (λe=>e ▸ h)⟩
 ·simp [eq_comm]
theorem adb (n:List UInt8):∀ (l:List bM) (ps:List (List UInt8)),n∈yB ps l↔n∈ps\/∃s∈l,s.name=n
 | [],ps=>by simp [yB]
 | s::l,ps=>by
   have:=adb n l (zo ps s.name);unfold yB at this ⊢;rw [List.foldl_cons,this,alP];simp [or_assoc]
def jG (l:List bM) (n:List UInt8):Bool:=l.any λs=>decide (s.name=n)
theorem alO (n:List UInt8) (l:List bM):decide (n∈yB [] l)=jG l n:=by
 rw [pI,decide_eq_true_iff,adb];simp [jG]
theorem ac4 (b:aB) (r:List GV) (l:List bM) (hl:l.length<=1000):∀ (m i:Nat) (ps:List (List UInt8)),i+m=l.length->
 TT.lim 44 [.l (l.map dN),.i .i64 l.length,.i .i64 i,.l (tJ ps),.i .i64 b.kind,.i .u64 b.id,.i .u64 b.min,.i .u64 b.max,.i .u64 b.chosen,.i .u64 b.flags,.i .u64 b.cost,.i .u64 b.priority,.i .u64 b.deadline,.i .u64 b.retry,.i .u64 b.epoch,.i .u64 b.base,.i .u64 b.digest,.i .u64 b.lag,.i .u64 b.code,.i .u64 b.want,.i .i64 b.remaining,.b b.allowed,.s b.name,.s b.region,.s b.note,.l (b.d.map ent),.l (b.t.map row),.l r]=some [.i .i64 0,.l (tJ (yB ps (l.drop i)))]
 | 0,i,ps,hi=>by
   have h0:l.drop i=[]:=gG (by omega);refine ay rfl rfl ?_;have h:¬ ((i:Int) < l.length):=by omega
   simp [h,h0,yB]
 | m+1,i,ps,hi=>by
   have hlt:i < l.length:=by omega
   have ih:=ac4 b r l hl m (i+1) (zo ps l[i].name) (by omega);have hcast:((i:Int)+1)=((i+1:Nat):Int):=by omega
   rw [<- hcast] at ih;have hp:=ad1 l[i].name ps;have hd:yB ps (l.drop i)=yB (zo ps l[i].name) (l.drop (i+1)):=by
    rw [iQ hlt];rfl
   rw [hd];generalize yB (zo ps l[i].name) (l.drop (i+1))=X at *;generalize tJ (zo ps l[i].name)=Y at *;refine ay rfl rfl ?_;have h:((i:Int) < l.length):=by omega
   have hw:=wrap64 (n:=(i:Int)+1) (by omega) (by omega);simp [h,hlt,hw,hp,ih]
/-- One round of the second loop. -/
def mM (b:aB) (r:List GV) (n:List UInt8) (c:Prop):Prop:=∀ (sp:GV) (ns:List (List UInt8)) (i:Nat) (ps:List (List UInt8)) (out:List GV) (h:i < ns.length),((i:Int) < ns.length)->IntKind.i64.wrap ((i:Int)+1)=(i:Int)+1->ns[i]=n->fQ (.s n) (tJ ps)=none->
    TT.lim 46 [sp,.l (ns.map .s),.i .i64 ns.length,.i .i64 ((i:Int)+1),.l (tJ ps),.i .i64 b.kind,.i .u64 b.id,.i .u64 b.min,.i .u64 b.max,.i .u64 b.chosen,.i .u64 b.flags,.i .u64 b.cost,.i .u64 b.priority,.i .u64 b.deadline,.i .u64 b.retry,.i .u64 b.epoch,.i .u64 b.base,.i .u64 b.digest,.i .u64 b.lag,.i .u64 b.code,.i .u64 b.want,.i .i64 b.remaining,.b b.allowed,.s b.name,.s b.region,.s b.note,.l (b.d.map ent),.l (b.t.map row),.l r]=some out->
    (c->TT.lim 46 [sp,.l (ns.map .s),.i .i64 ns.length,.i .i64 i,.l (tJ ps),.i .i64 b.kind,.i .u64 b.id,.i .u64 b.min,.i .u64 b.max,.i .u64 b.chosen,.i .u64 b.flags,.i .u64 b.cost,.i .u64 b.priority,.i .u64 b.deadline,.i .u64 b.retry,.i .u64 b.epoch,.i .u64 b.base,.i .u64 b.digest,.i .u64 b.lag,.i .u64 b.code,.i .u64 b.want,.i .i64 b.remaining,.b b.allowed,.s b.name,.s b.region,.s b.note,.l (b.d.map ent),.l (b.t.map row),.l r]=some out)/\(¬ c->TT.lim 46 [sp,.l (ns.map .s),.i .i64 ns.length,.i .i64 i,.l (tJ ps),.i .i64 b.kind,.i .u64 b.id,.i .u64 b.min,.i .u64 b.max,.i .u64 b.chosen,.i .u64 b.flags,.i .u64 b.cost,.i .u64 b.priority,.i .u64 b.deadline,.i .u64 b.retry,.i .u64 b.epoch,.i .u64 b.base,.i .u64 b.digest,.i .u64 b.lag,.i .u64 b.code,.i .u64 b.want,.i .i64 b.remaining,.b b.allowed,.s b.name,.s b.region,.s b.note,.l (b.d.map ent),.l (b.t.map row),.l r]=some [.i .i64 0])
theorem aqU (b:aB) (r:List GV):mM b r lX (b.remaining=0):=by
 intro sp ns i ps out h h1 hw hn ha ih;unfold lX at *;refine ⟨λhc=>ay rfl rfl ?_,λhc=>ay rfl rfl ?_⟩
 ·have hc:=eq_true hc
  simp [h1,h,hn,hw,ha,hc,ih]
 ·simp [h1,h,hn,ha,hc]
theorem aqC (b:aB) (r:List GV):mM b r lD (b.allowed=false):=by
 intro sp ns i ps out h h1 hw hn ha ih;unfold lD at *;refine ⟨λhc=>ay rfl rfl ?_,λhc=>ay rfl rfl ?_⟩
 ·rw [hc] at ih
  simp [h1,h,hn,hw,ha,hc,ih]
 ·simp [h1,h,hn,ha,hc]
theorem aqQ (b:aB) (r:List GV):mM b r kR (b.name=[]):=by
 intro sp ns i ps out h h1 hw hn ha ih;unfold kR at *;refine ⟨λhc=>ay rfl rfl ?_,λhc=>ay rfl rfl ?_⟩
 ·have hc:=eq_true hc
  simp [h1,h,hn,hw,ha,hc,ih]
 ·simp [h1,h,hn,ha,hc]
theorem aqT (b:aB) (r:List GV):mM b r kT (b.region=[]):=by
 intro sp ns i ps out h h1 hw hn ha ih;unfold kT at *;refine ⟨λhc=>ay rfl rfl ?_,λhc=>ay rfl rfl ?_⟩
 ·have hc:=eq_true hc
  simp [h1,h,hn,hw,ha,hc,ih]
 ·simp [h1,h,hn,ha,hc]
theorem aqR (b:aB) (r:List GV):mM b r kS (b.note=[]):=by
 intro sp ns i ps out h h1 hw hn ha ih;unfold kS at *;refine ⟨λhc=>ay rfl rfl ?_,λhc=>ay rfl rfl ?_⟩
 ·have hc:=eq_true hc
  simp [h1,h,hn,hw,ha,hc,ih]
 ·simp [h1,h,hn,ha,hc]
theorem aqI (b:aB) (r:List GV):mM b r lK (b.d=[]):=by
 intro sp ns i ps out h h1 hw hn ha ih;unfold lK at *;refine ⟨λhc=>ay rfl rfl ?_,λhc=>ay rfl rfl ?_⟩
 ·have hc:=eq_true hc
  simp [h1,h,hn,hw,ha,hc,ih]
 ·simp [h1,h,hn,ha,hc]
theorem aqW (b:aB) (r:List GV):mM b r lZ (b.t=[]):=by
 intro sp ns i ps out h h1 hw hn ha ih;unfold lZ at *;refine ⟨λhc=>ay rfl rfl ?_,λhc=>ay rfl rfl ?_⟩
 ·have hc:=eq_true hc
  simp [h1,h,hn,hw,ha,hc,ih]
 ·simp [h1,h,hn,ha,hc]
theorem aqM (b:aB) (r:List GV):mM b r lS (b.id=0):=by
 intro sp ns i ps out h h1 hw hn ha ih;unfold lS at *;refine ⟨λhc=>ay rfl rfl ?_,λhc=>ay rfl rfl ?_⟩
 ·have hc:=eq_true hc
  simp [h1,h,hn,hw,ha,hc,ih]
 ·simp [h1,h,hn,ha,hc]
theorem aqP (b:aB) (r:List GV):mM b r lV (b.min=0):=by
 intro sp ns i ps out h h1 hw hn ha ih;unfold lV at *;refine ⟨λhc=>ay rfl rfl ?_,λhc=>ay rfl rfl ?_⟩
 ·have hc:=eq_true hc
  simp [h1,h,hn,hw,ha,hc,ih]
 ·simp [h1,h,hn,ha,hc]
theorem aqO (b:aB) (r:List GV):mM b r lU (b.max=0):=by
 intro sp ns i ps out h h1 hw hn ha ih;unfold lU at *;refine ⟨λhc=>ay rfl rfl ?_,λhc=>ay rfl rfl ?_⟩
 ·have hc:=eq_true hc
  simp [h1,h,hn,hw,ha,hc,ih]
 ·simp [h1,h,hn,ha,hc]
theorem aqE (b:aB) (r:List GV):mM b r lG (b.chosen=0):=by
 intro sp ns i ps out h h1 hw hn ha ih;unfold lG at *;refine ⟨λhc=>ay rfl rfl ?_,λhc=>ay rfl rfl ?_⟩
 ·have hc:=eq_true hc
  simp [h1,h,hn,hw,ha,hc,ih]
 ·simp [h1,h,hn,ha,hc]
theorem aqL (b:aB) (r:List GV):mM b r lQ (b.flags=0):=by
 intro sp ns i ps out h h1 hw hn ha ih;unfold lQ at *;refine ⟨λhc=>ay rfl rfl ?_,λhc=>ay rfl rfl ?_⟩
 ·have hc:=eq_true hc
  simp [h1,h,hn,hw,ha,hc,ih]
 ·simp [h1,h,hn,ha,hc]
theorem aqG (b:aB) (r:List GV):mM b r lI (b.cost=0):=by
 intro sp ns i ps out h h1 hw hn ha ih;unfold lI at *;refine ⟨λhc=>ay rfl rfl ?_,λhc=>ay rfl rfl ?_⟩
 ·have hc:=eq_true hc
  simp [h1,h,hn,hw,ha,hc,ih]
 ·simp [h1,h,hn,ha,hc]
theorem aqS (b:aB) (r:List GV):mM b r lW (b.priority=0):=by
 intro sp ns i ps out h h1 hw hn ha ih;unfold lW at *;refine ⟨λhc=>ay rfl rfl ?_,λhc=>ay rfl rfl ?_⟩
 ·have hc:=eq_true hc
  simp [h1,h,hn,hw,ha,hc,ih]
 ·simp [h1,h,hn,ha,hc]
theorem aqH (b:aB) (r:List GV):mM b r lJ (b.deadline=0):=by
 intro sp ns i ps out h h1 hw hn ha ih;unfold lJ at *;refine ⟨λhc=>ay rfl rfl ?_,λhc=>ay rfl rfl ?_⟩
 ·have hc:=eq_true hc
  simp [h1,h,hn,hw,ha,hc,ih]
 ·simp [h1,h,hn,ha,hc]
theorem aqV (b:aB) (r:List GV):mM b r lY (b.retry=0):=by
 intro sp ns i ps out h h1 hw hn ha ih;unfold lY at *;refine ⟨λhc=>ay rfl rfl ?_,λhc=>ay rfl rfl ?_⟩
 ·have hc:=eq_true hc
  simp [h1,h,hn,hw,ha,hc,ih]
 ·simp [h1,h,hn,ha,hc]
theorem aqK (b:aB) (r:List GV):mM b r lN (b.epoch=0):=by
 intro sp ns i ps out h h1 hw hn ha ih;unfold lN at *;refine ⟨λhc=>ay rfl rfl ?_,λhc=>ay rfl rfl ?_⟩
 ·have hc:=eq_true hc
  simp [h1,h,hn,hw,ha,hc,ih]
 ·simp [h1,h,hn,ha,hc]
theorem aqD (b:aB) (r:List GV):mM b r lF (b.base=0):=by
 intro sp ns i ps out h h1 hw hn ha ih;unfold lF at *;refine ⟨λhc=>ay rfl rfl ?_,λhc=>ay rfl rfl ?_⟩
 ·have hc:=eq_true hc
  simp [h1,h,hn,hw,ha,hc,ih]
 ·simp [h1,h,hn,ha,hc]
theorem aqJ (b:aB) (r:List GV):mM b r lM (b.digest=0):=by
 intro sp ns i ps out h h1 hw hn ha ih;unfold lM at *;refine ⟨λhc=>ay rfl rfl ?_,λhc=>ay rfl rfl ?_⟩
 ·have hc:=eq_true hc
  simp [h1,h,hn,hw,ha,hc,ih]
 ·simp [h1,h,hn,ha,hc]
theorem aqN (b:aB) (r:List GV):mM b r lT (b.lag=0):=by
 intro sp ns i ps out h h1 hw hn ha ih;unfold lT at *;refine ⟨λhc=>ay rfl rfl ?_,λhc=>ay rfl rfl ?_⟩
 ·have hc:=eq_true hc
  simp [h1,h,hn,hw,ha,hc,ih]
 ·simp [h1,h,hn,ha,hc]
theorem aqF (b:aB) (r:List GV):mM b r lH (b.code=0):=by
 intro sp ns i ps out h h1 hw hn ha ih;unfold lH at *;refine ⟨λhc=>ay rfl rfl ?_,λhc=>ay rfl rfl ?_⟩
 ·have hc:=eq_true hc
  simp [h1,h,hn,hw,ha,hc,ih]
 ·simp [h1,h,hn,ha,hc]
theorem aqX (b:aB) (r:List GV):mM b r l7 (b.want=0):=by
 intro sp ns i ps out h h1 hw hn ha ih;unfold l7 at *;refine ⟨λhc=>ay rfl rfl ?_,λhc=>ay rfl rfl ?_⟩
 ·have hc:=eq_true hc
  simp [h1,h,hn,hw,ha,hc,ih]
 ·simp [h1,h,hn,ha,hc]
theorem V4:TT.lim 45 []=some [.l (dR.map .s)]:=LX (Ds:=Ds) (k:=45) (f:=Qo) rfl rfl
theorem nP (b:aB) {n:List UInt8} {p:Pl} (h:placeOf n=some p):mg b n=dw b p:=by unfold mg;rw [h]
def kX (b:aB) (r:List GV) (n:List UInt8):Prop:=∃c:Prop,(mg b n=true↔c)/\mM b r n c
theorem aqk (b:aB) (r:List GV):kX b r lX:=⟨_,by rw [nP b DZ];simp [dw,fE],aqU b r⟩
theorem ap2 (b:aB) (r:List GV):kX b r lD:=⟨_,by rw [nP b Dz];simp [dw,fE],aqC b r⟩
theorem aqg (b:aB) (r:List GV):kX b r kR:=⟨_,by rw [nP b Bj];simp [dw,fE],aqQ b r⟩
theorem aqj (b:aB) (r:List GV):kX b r kT:=⟨_,by rw [nP b Bo];simp [dw,fE],aqT b r⟩
theorem aqh (b:aB) (r:List GV):kX b r kS:=⟨_,by rw [nP b Bl];simp [dw,fE],aqR b r⟩
theorem ap8 (b:aB) (r:List GV):kX b r lK:=⟨_,by rw [nP b DL];simp [dw,fE],aqI b r⟩
theorem aqm (b:aB) (r:List GV):kX b r lZ:=⟨_,by rw [nP b D6];simp [dw,fE],aqW b r⟩
theorem aqc (b:aB) (r:List GV):kX b r lS:=⟨_,by rw [nP b DU];simp [dw,fE],aqM b r⟩
theorem aqf (b:aB) (r:List GV):kX b r lV:=⟨_,by rw [nP b DX];simp [dw,fE],aqP b r⟩
theorem aqe (b:aB) (r:List GV):kX b r lU:=⟨_,by rw [nP b DW];simp [dw,fE],aqO b r⟩
theorem ap4 (b:aB) (r:List GV):kX b r lG:=⟨_,by rw [nP b DF];simp [dw,fE],aqE b r⟩
theorem aqb (b:aB) (r:List GV):kX b r lQ:=⟨_,by rw [nP b DT];simp [dw,fE],aqL b r⟩
theorem ap6 (b:aB) (r:List GV):kX b r lI:=⟨_,by rw [nP b DJ];simp [dw,fE],aqG b r⟩
theorem aqi (b:aB) (r:List GV):kX b r lW:=⟨_,by rw [nP b DY];simp [dw,fE],aqS b r⟩
theorem ap7 (b:aB) (r:List GV):kX b r lJ:=⟨_,by rw [nP b DK];simp [dw,fE],aqH b r⟩
theorem aql (b:aB) (r:List GV):kX b r lY:=⟨_,by rw [nP b D5];simp [dw,fE],aqV b r⟩
theorem aqa (b:aB) (r:List GV):kX b r lN:=⟨_,by rw [nP b DR];simp [dw,fE],aqK b r⟩
theorem ap3 (b:aB) (r:List GV):kX b r lF:=⟨_,by rw [nP b DC];simp [dw,fE],aqD b r⟩
theorem ap9 (b:aB) (r:List GV):kX b r lM:=⟨_,by rw [nP b DN];simp [dw,fE],aqJ b r⟩
theorem aqd (b:aB) (r:List GV):kX b r lT:=⟨_,by rw [nP b DV];simp [dw,fE],aqN b r⟩
theorem ap5 (b:aB) (r:List GV):kX b r lH:=⟨_,by rw [nP b DI];simp [dw,fE],aqF b r⟩
theorem aqn (b:aB) (r:List GV):kX b r l7:=⟨_,by rw [nP b D7];simp [dw,fE],aqX b r⟩
theorem arp (b:aB) (r:List GV) (n:List UInt8):placeOf n≠none->kX b r n:=by
 refine JZ (Q:=λn=>placeOf n≠none->kX b r n) (λ_=>aqk b r) (λ_=>ap2 b r) (λ_=>aqg b r) (λ_=>aqj b r) (λ_=>aqh b r) (λ_=>ap8 b r) (λ_=>aqm b r) (λ_=>aqc b r) (λ_=>aqf b r) (λ_=>aqe b r) (λ_=>ap4 b r) (λ_=>aqb b r) (λ_=>ap6 b r) (λ_=>aqi b r) (λ_=>ap7 b r) (λ_=>aql b r) (λ_=>aqa b r) (λ_=>ap3 b r) (λ_=>ap9 b r) (λ_=>aqd b r) (λ_=>ap5 b r) (λ_=>aqn b r) (λn e0 e1 e2 e3 e4 e5 e6 e7 e8 e9 e10 e11 e12 e13 e14 e15 e16 e17 e18 e19 e20 e21 h=>absurd (LW n e0 e1 e2 e3 e4 e5 e6 e7 e8 e9 e10 e11 e12 e13 e14 e15 e16 e17 e18 e19 e20 e21) h) n
theorem ac5 (b:aB) (r:List GV) (sp:GV) (ns:List (List UInt8)) (hlen:ns.length<=1000) (hns:∀n∈ns,placeOf n≠none) (ps:List (List UInt8)):∀ (m i:Nat),i+m=ns.length->
 TT.lim 46 [sp,.l (ns.map .s),.i .i64 ns.length,.i .i64 i,.l (tJ ps),.i .i64 b.kind,.i .u64 b.id,.i .u64 b.min,.i .u64 b.max,.i .u64 b.chosen,.i .u64 b.flags,.i .u64 b.cost,.i .u64 b.priority,.i .u64 b.deadline,.i .u64 b.retry,.i .u64 b.epoch,.i .u64 b.base,.i .u64 b.digest,.i .u64 b.lag,.i .u64 b.code,.i .u64 b.want,.i .i64 b.remaining,.b b.allowed,.s b.name,.s b.region,.s b.note,.l (b.d.map ent),.l (b.t.map row),.l r]=some (if (ns.drop i).all (λn=>decide (n∈ps) || mg b n)=true then [.i .i64 1] else [.i .i64 0])
 | 0,i,hi=>by
   have h0:ns.drop i=[]:=gG (by omega);refine ay rfl rfl ?_;have h:¬ ((i:Int) < ns.length):=by omega
   simp [h,h0]
 | m+1,i,hi=>by
   have hlt:i < ns.length:=by omega
   have ih:=ac5 b r sp ns hlen hns ps m (i+1) (by omega);have hcast:((i:Int)+1)=((i+1:Nat):Int):=by omega
   rw [<- hcast] at ih;have hd:(ns.drop i).all (λn=>decide (n∈ps) || mg b n)=((decide (ns[i]∈ps) || mg b ns[i])&&(ns.drop (i+1)).all (λn=>decide (n∈ps) || mg b n)):=by rw [iQ hlt,sQ]
   rw [hd];generalize (ns.drop (i+1)).all (λn=>decide (n∈ps) || mg b n)=X at *;by_cases hps:ns[i]∈ps
   ·have ha:=Tt ns[i] ps
    rw [aj hps] at ha;have h1:((i:Int) < ns.length):=by omega
    have hw:=wrap64 (n:=(i:Int)+1) (by omega) (by omega);rw [yh hps,Bool.true_or,Jw];refine ay rfl rfl ?_;simp [h1,hlt,hw,ha,ih]
   ·have ha:=Tt ns[i] ps
    rw [ah hps] at ha;obtain ⟨c,c1,c2⟩:=arp b r ns[i] (hns _ (jf hlt));obtain ⟨c3,c4⟩:=c2 sp ns i ps _ hlt (by omega) (wrap64 (n:=(i:Int)+1) (by omega) (by omega)) rfl ha ih;rw [yg hps,vO];cases hb:mg b ns[i] with
    | true=>rw [c3 (c1.1 hb),Jw]
    | false=>rw [c4 (λh=>by rw [c1.2 h] at hb;cases hb),Bool.false_and];rfl
def gq (b:aB) (r:List GV) (k:Nat) (out:List GV):Prop:=TT.lim k [.i .i64 b.kind,.i .u64 b.id,.i .u64 b.min,.i .u64 b.max,.i .u64 b.chosen,.i .u64 b.flags,.i .u64 b.cost,.i .u64 b.priority,.i .u64 b.deadline,.i .u64 b.retry,.i .u64 b.epoch,.i .u64 b.base,.i .u64 b.digest,.i .u64 b.lag,.i .u64 b.code,.i .u64 b.want,.i .i64 b.remaining,.b b.allowed,.s b.name,.s b.region,.s b.note,.l (b.d.map ent),.l (b.t.map row),.l r]=some out
theorem nO (b:aB) {n:List UInt8} {p:Pl} (h:placeOf n=some p):sH b n=qF b p:=by unfold sH;rw [h]
theorem alK (b:aB) (r:List GV):gq b r 48 [.i .i64 0]:=by
 refine ay rfl rfl ?_;simp
theorem alq (b:aB) (r:List GV):gq b r 49 [.i .i64 0]:=by
 refine ay rfl rfl ?_;simp
theorem alG (b:aB) (r:List GV) (hb:kL b):gq b r 50 [.i .i64 0,.i .i64 (jI b.name 0 256)]:=by
 have h:=CS b.name 0 256 hb.name;refine ay rfl rfl ?_;simp [h]
theorem alJ (b:aB) (r:List GV) (hb:kL b):gq b r 51 [.i .i64 0,.i .i64 (jI b.region 0 256)]:=by
 have h:=CS b.region 0 256 hb.region;refine ay rfl rfl ?_;simp [h]
theorem alH (b:aB) (r:List GV) (hb:kL b):gq b r 52 [.i .i64 0,.i .i64 (jI b.note 0 256)]:=by
 have h:=CS b.note 0 256 hb.note;refine ay rfl rfl ?_;simp [h]
theorem aly (b:aB) (r:List GV) (hb:kL b):gq b r 53 [.i .i64 0,.i .i64 (if b.d=[] then 0 else rY b.d)]:=by
 have h:=ZV b.d hb.d;refine ay rfl rfl ?_;by_cases e:b.d=[]
 ·simp [e]
 ·have e2:¬ (List.map ent b.d)=[]:=by simpa using e
  have e3:0 < b.d.length:=Nr.2 e;simp [e,h]
theorem alM (b:aB) (r:List GV) (hb:kL b) (hf:∀r∈b.t,iq r.1=true):gq b r 54 [.i .i64 0,.i .i64 (uS b.t)]:=by
 have h:=TN b.t hb.t hf;refine ay rfl rfl ?_;simp [h]
theorem alC (b:aB) (r:List GV):gq b r 55 [.i .i64 0]:=by
 refine ay rfl rfl ?_;simp
theorem alF (b:aB) (r:List GV):gq b r 56 [.i .i64 0]:=by
 refine ay rfl rfl ?_;simp
theorem alE (b:aB) (r:List GV):gq b r 57 [.i .i64 0]:=by
 refine ay rfl rfl ?_;simp
theorem als (b:aB) (r:List GV):gq b r 58 [.i .i64 0]:=by
 refine ay rfl rfl ?_;simp
theorem alB (b:aB) (r:List GV):gq b r 59 [.i .i64 0]:=by
 refine ay rfl rfl ?_;simp
theorem alv (b:aB) (r:List GV):gq b r 60 [.i .i64 0]:=by
 refine ay rfl rfl ?_;simp
theorem alI (b:aB) (r:List GV):gq b r 61 [.i .i64 0]:=by
 refine ay rfl rfl ?_;simp
theorem alx (b:aB) (r:List GV):gq b r 62 [.i .i64 0]:=by
 refine ay rfl rfl ?_;simp
theorem alL (b:aB) (r:List GV):gq b r 63 [.i .i64 0]:=by
 refine ay rfl rfl ?_;simp
theorem alA (b:aB) (r:List GV):gq b r 64 [.i .i64 0]:=by
 refine ay rfl rfl ?_;simp
theorem alr (b:aB) (r:List GV):gq b r 65 [.i .i64 0]:=by
 refine ay rfl rfl ?_;simp
theorem alz (b:aB) (r:List GV):gq b r 66 [.i .i64 0]:=by
 refine ay rfl rfl ?_;simp
theorem alD (b:aB) (r:List GV):gq b r 67 [.i .i64 0]:=by
 refine ay rfl rfl ?_;simp
theorem alu (b:aB) (r:List GV):gq b r 68 [.i .i64 0]:=by
 refine ay rfl rfl ?_;simp
theorem alN (b:aB) (r:List GV):gq b r 69 [.i .i64 0]:=by
 refine ay rfl rfl ?_;simp
/-- One round of the third loop. -/
def kY (b:aB) (r:List GV) (n:List UInt8) (c:Int):Prop:=∀ (l:List bM) (i:Nat) (out:List GV) (h:i < l.length),((i:Int) < l.length)->IntKind.i64.wrap ((i:Int)+1)=(i:Int)+1->l[i].name=n->
    TT.lim 47 [.l (l.map dN),.i .i64 l.length,.i .i64 ((i:Int)+1),.i .i64 b.kind,.i .u64 b.id,.i .u64 b.min,.i .u64 b.max,.i .u64 b.chosen,.i .u64 b.flags,.i .u64 b.cost,.i .u64 b.priority,.i .u64 b.deadline,.i .u64 b.retry,.i .u64 b.epoch,.i .u64 b.base,.i .u64 b.digest,.i .u64 b.lag,.i .u64 b.code,.i .u64 b.want,.i .i64 b.remaining,.b b.allowed,.s b.name,.s b.region,.s b.note,.l (b.d.map ent),.l (b.t.map row),.l r]=some out->
    TT.lim 47 [.l (l.map dN),.i .i64 l.length,.i .i64 i,.i .i64 b.kind,.i .u64 b.id,.i .u64 b.min,.i .u64 b.max,.i .u64 b.chosen,.i .u64 b.flags,.i .u64 b.cost,.i .u64 b.priority,.i .u64 b.deadline,.i .u64 b.retry,.i .u64 b.epoch,.i .u64 b.base,.i .u64 b.digest,.i .u64 b.lag,.i .u64 b.code,.i .u64 b.want,.i .i64 b.remaining,.b b.allowed,.s b.name,.s b.region,.s b.note,.l (b.d.map ent),.l (b.t.map row),.l r]=some (if c=0 then out else [.i .i64 0,.i .i64 c])
theorem arj (b:aB) (r:List GV):kY b r lX 0:=by
 intro l i out h h1 hw hn ih;have hm:=alK b r;unfold gq at hm;unfold lX at *;rw [aj rfl];refine ay rfl rfl ?_;simp [h1,h,hn,hw,hm,ih]
theorem aqY (b:aB) (r:List GV):kY b r lD 0:=by
 intro l i out h h1 hw hn ih;have hm:=alq b r;unfold gq at hm;unfold lD at *;rw [aj rfl];refine ay rfl rfl ?_;simp [h1,h,hn,hw,hm,ih]
theorem ard (b:aB) (r:List GV) (hb:kL b):kY b r kR (jI b.name 0 256):=by
 intro l i out h h1 hw hn ih;have hm:=alG b r hb;unfold gq at hm;unfold kR at *;generalize (jI b.name 0 256)=c at *;by_cases hc:c=0
 ·subst hc
  rw [aj rfl];refine ay rfl rfl ?_;simp [h1,h,hn,hw,hm,ih]
 ·rw [ah hc]
  refine ay rfl rfl ?_;simp [h1,h,hn,hw,hm,hc]
theorem ari (b:aB) (r:List GV) (hb:kL b):kY b r kT (jI b.region 0 256):=by
 intro l i out h h1 hw hn ih;have hm:=alJ b r hb;unfold gq at hm;unfold kT at *;generalize (jI b.region 0 256)=c at *;by_cases hc:c=0
 ·subst hc
  rw [aj rfl];refine ay rfl rfl ?_;simp [h1,h,hn,hw,hm,ih]
 ·rw [ah hc]
  refine ay rfl rfl ?_;simp [h1,h,hn,hw,hm,hc]
theorem arf (b:aB) (r:List GV) (hb:kL b):kY b r kS (jI b.note 0 256):=by
 intro l i out h h1 hw hn ih;have hm:=alH b r hb;unfold gq at hm;unfold kS at *;generalize (jI b.note 0 256)=c at *;by_cases hc:c=0
 ·subst hc
  rw [aj rfl];refine ay rfl rfl ?_;simp [h1,h,hn,hw,hm,ih]
 ·rw [ah hc]
  refine ay rfl rfl ?_;simp [h1,h,hn,hw,hm,hc]
theorem aq4 (b:aB) (r:List GV) (hb:kL b):kY b r lK (if b.d=[] then 0 else rY b.d):=by
 intro l i out h h1 hw hn ih;have hm:=aly b r hb;unfold gq at hm;unfold lK at *;generalize (if b.d=[] then 0 else rY b.d)=c at *;by_cases hc:c=0
 ·subst hc
  rw [aj rfl];refine ay rfl rfl ?_;simp [h1,h,hn,hw,hm,ih]
 ·rw [ah hc]
  refine ay rfl rfl ?_;simp [h1,h,hn,hw,hm,hc]
theorem arl (b:aB) (r:List GV) (hb:kL b) (hf:∀r∈b.t,iq r.1=true):kY b r lZ (uS b.t):=by
 intro l i out h h1 hw hn ih;have hm:=alM b r hb hf;unfold gq at hm;unfold lZ at *;generalize (uS b.t)=c at *;by_cases hc:c=0
 ·subst hc
  rw [aj rfl];refine ay rfl rfl ?_;simp [h1,h,hn,hw,hm,ih]
 ·rw [ah hc]
  refine ay rfl rfl ?_;simp [h1,h,hn,hw,hm,hc]
theorem aq8 (b:aB) (r:List GV):kY b r lS 0:=by
 intro l i out h h1 hw hn ih;have hm:=alC b r;unfold gq at hm;unfold lS at *;rw [aj rfl];refine ay rfl rfl ?_;simp [h1,h,hn,hw,hm,ih]
theorem arb (b:aB) (r:List GV):kY b r lV 0:=by
 intro l i out h h1 hw hn ih;have hm:=alF b r;unfold gq at hm;unfold lV at *;rw [aj rfl];refine ay rfl rfl ?_;simp [h1,h,hn,hw,hm,ih]
theorem ara (b:aB) (r:List GV):kY b r lU 0:=by
 intro l i out h h1 hw hn ih;have hm:=alE b r;unfold gq at hm;unfold lU at *;rw [aj rfl];refine ay rfl rfl ?_;simp [h1,h,hn,hw,hm,ih]
theorem aq0 (b:aB) (r:List GV):kY b r lG 0:=by
 intro l i out h h1 hw hn ih;have hm:=als b r;unfold gq at hm;unfold lG at *;rw [aj rfl];refine ay rfl rfl ?_;simp [h1,h,hn,hw,hm,ih]
theorem aq7 (b:aB) (r:List GV):kY b r lQ 0:=by
 intro l i out h h1 hw hn ih;have hm:=alB b r;unfold gq at hm;unfold lQ at *;rw [aj rfl];refine ay rfl rfl ?_;simp [h1,h,hn,hw,hm,ih]
theorem aq2 (b:aB) (r:List GV):kY b r lI 0:=by
 intro l i out h h1 hw hn ih;have hm:=alv b r;unfold gq at hm;unfold lI at *;rw [aj rfl];refine ay rfl rfl ?_;simp [h1,h,hn,hw,hm,ih]
theorem arh (b:aB) (r:List GV):kY b r lW 0:=by
 intro l i out h h1 hw hn ih;have hm:=alI b r;unfold gq at hm;unfold lW at *;rw [aj rfl];refine ay rfl rfl ?_;simp [h1,h,hn,hw,hm,ih]
theorem aq3 (b:aB) (r:List GV):kY b r lJ 0:=by
 intro l i out h h1 hw hn ih;have hm:=alx b r;unfold gq at hm;unfold lJ at *;rw [aj rfl];refine ay rfl rfl ?_;simp [h1,h,hn,hw,hm,ih]
theorem ark (b:aB) (r:List GV):kY b r lY 0:=by
 intro l i out h h1 hw hn ih;have hm:=alL b r;unfold gq at hm;unfold lY at *;rw [aj rfl];refine ay rfl rfl ?_;simp [h1,h,hn,hw,hm,ih]
theorem aq6 (b:aB) (r:List GV):kY b r lN 0:=by
 intro l i out h h1 hw hn ih;have hm:=alA b r;unfold gq at hm;unfold lN at *;rw [aj rfl];refine ay rfl rfl ?_;simp [h1,h,hn,hw,hm,ih]
theorem aqZ (b:aB) (r:List GV):kY b r lF 0:=by
 intro l i out h h1 hw hn ih;have hm:=alr b r;unfold gq at hm;unfold lF at *;rw [aj rfl];refine ay rfl rfl ?_;simp [h1,h,hn,hw,hm,ih]
theorem aq5 (b:aB) (r:List GV):kY b r lM 0:=by
 intro l i out h h1 hw hn ih;have hm:=alz b r;unfold gq at hm;unfold lM at *;rw [aj rfl];refine ay rfl rfl ?_;simp [h1,h,hn,hw,hm,ih]
theorem aq9 (b:aB) (r:List GV):kY b r lT 0:=by
 intro l i out h h1 hw hn ih;have hm:=alD b r;unfold gq at hm;unfold lT at *;rw [aj rfl];refine ay rfl rfl ?_;simp [h1,h,hn,hw,hm,ih]
theorem aq1 (b:aB) (r:List GV):kY b r lH 0:=by
 intro l i out h h1 hw hn ih;have hm:=alu b r;unfold gq at hm;unfold lH at *;rw [aj rfl];refine ay rfl rfl ?_;simp [h1,h,hn,hw,hm,ih]
theorem arn (b:aB) (r:List GV):kY b r l7 0:=by
 intro l i out h h1 hw hn ih;have hm:=alN b r;unfold gq at hm;unfold l7 at *;rw [aj rfl];refine ay rfl rfl ?_;simp [h1,h,hn,hw,hm,ih]
theorem arq (b:aB) (r:List GV) (hb:kL b) (hf:∀r∈b.t,iq r.1=true) (n:List UInt8):placeOf n≠none->kY b r n (sH b n):=by
 refine JZ (Q:=λn=>placeOf n≠none->kY b r n (sH b n)) (λ_=>by rw [nO b DZ];exact arj b r ) (λ_=>by rw [nO b Dz];exact aqY b r ) (λ_=>by rw [nO b Bj];exact ard b r hb) (λ_=>by rw [nO b Bo];exact ari b r hb) (λ_=>by rw [nO b Bl];exact arf b r hb) (λ_=>by rw [nO b DL];exact aq4 b r hb) (λ_=>by rw [nO b D6];exact arl b r hb hf) (λ_=>by rw [nO b DU];exact aq8 b r ) (λ_=>by rw [nO b DX];exact arb b r ) (λ_=>by rw [nO b DW];exact ara b r ) (λ_=>by rw [nO b DF];exact aq0 b r ) (λ_=>by rw [nO b DT];exact aq7 b r ) (λ_=>by rw [nO b DJ];exact aq2 b r ) (λ_=>by rw [nO b DY];exact arh b r ) (λ_=>by rw [nO b DK];exact aq3 b r ) (λ_=>by rw [nO b D5];exact ark b r ) (λ_=>by rw [nO b DR];exact aq6 b r ) (λ_=>by rw [nO b DC];exact aqZ b r ) (λ_=>by rw [nO b DN];exact aq5 b r ) (λ_=>by rw [nO b DV];exact aq9 b r ) (λ_=>by rw [nO b DI];exact aq1 b r ) (λ_=>by rw [nO b D7];exact arn b r ) (λn e0 e1 e2 e3 e4 e5 e6 e7 e8 e9 e10 e11 e12 e13 e14 e15 e16 e17 e18 e19 e20 e21 h=>absurd (LW n e0 e1 e2 e3 e4 e5 e6 e7 e8 e9 e10 e11 e12 e13 e14 e15 e16 e17 e18 e19 e20 e21) h) n
/-- The first thing that is wrong with the values of names. -/
def mZ (b:aB):List bM->Int
 | []=>0
 | s::l=>if sH b s.name=0 then mZ b l else sH b s.name
theorem ac6 (b:aB) (r:List GV) (hb:kL b) (hf:∀r∈b.t,iq r.1=true) (l:List bM) (hlen:l.length<=1000) (hns:∀s∈l,placeOf s.name≠none):∀ (m i:Nat),i+m=l.length->
 TT.lim 47 [.l (l.map dN),.i .i64 l.length,.i .i64 i,.i .i64 b.kind,.i .u64 b.id,.i .u64 b.min,.i .u64 b.max,.i .u64 b.chosen,.i .u64 b.flags,.i .u64 b.cost,.i .u64 b.priority,.i .u64 b.deadline,.i .u64 b.retry,.i .u64 b.epoch,.i .u64 b.base,.i .u64 b.digest,.i .u64 b.lag,.i .u64 b.code,.i .u64 b.want,.i .i64 b.remaining,.b b.allowed,.s b.name,.s b.region,.s b.note,.l (b.d.map ent),.l (b.t.map row),.l r]=some (if mZ b (l.drop i)=0 then [.i .i64 1] else [.i .i64 0,.i .i64 (mZ b (l.drop i))])
 | 0,i,hi=>by
   have h0:l.drop i=[]:=gG (by omega);refine ay rfl rfl ?_;have h:¬ ((i:Int) < l.length):=by omega
   simp [h,h0,mZ]
 | m+1,i,hi=>by
   have hlt:i < l.length:=by omega
   have ih:=ac6 b r hb hf l hlen hns m (i+1) (by omega);have hcast:((i:Int)+1)=((i+1:Nat):Int):=by omega
   rw [<- hcast] at ih;have:=arq b r hb hf l[i].name (hns _ (jf hlt)) l i _ hlt (by omega) (wrap64 (n:=(i:Int)+1) (by omega) (by omega)) rfl ih;rw [this,iQ hlt];by_cases hc:sH b l[i].name=0
   ·have hm:mZ b (l[i]::l.drop (i+1))=mZ b (l.drop (i+1)):=by simp only [mZ,hc,if_true]
    rw [aj hc,hm]
   ·have hm:mZ b (l[i]::l.drop (i+1))=sH b l[i].name:=by simp only [mZ,hc,if_false]
    rw [ah hc,hm,ah hc]
def hasTag (l:List bM) (t:Int):Bool:=l.any λs=>decide (t=s.tag)
theorem ac8 (l:List bM) (hlen:l.length<=1000) (a1 a2 a3:GV) (t:Int) (a7 a8 a9 a10:GV):∀ (m i:Nat),i+m=l.length->
 TT.lim 75 [.l (l.map dN),a1,a2,a3,.i .i64 l.length,.i .i64 i,.i .u64 t,a7,a8,a9,a10]=some (if hasTag (l.drop i) t=true then [.i .i64 0] else [.i .i64 1])
 | 0,i,hi=>by
   have h0:l.drop i=[]:=gG (by omega);refine ay rfl rfl ?_;have h:¬ ((i:Int) < l.length):=by omega
   simp [h,h0,hasTag]
 | m+1,i,hi=>by
   have hlt:i < l.length:=by omega
   have ih:=ac8 l hlen a1 a2 a3 t a7 a8 a9 a10 m (i+1) (by omega);have hcast:((i:Int)+1)=((i+1:Nat):Int):=by omega
   rw [<- hcast] at ih;have h1:((i:Int) < l.length):=by omega
   have hw:=wrap64 (n:=(i:Int)+1) (by omega) (by omega);have hd:hasTag (l.drop i) t=(decide (t=l[i].tag) || hasTag (l.drop (i+1)) t):=by rw [iQ hlt];rfl
   rw [hd];generalize hasTag (l.drop (i+1)) t=X at *;refine ay rfl rfl ?_;by_cases hc:t=l[i].tag
   ·simp [h1,hlt,hc]
   ·simp [h1,hlt,hc,hw,ih]
theorem ac7 (l:List bM) (hlen:l.length<=1000) (fl:List aF) (hfl:fl.length<=1000000):∀ (m i:Nat),i+m=fl.length->
 TT.lim 74 [.l (l.map dN),.l (aC fl),.i .i64 fl.length,.i .i64 i]=some (if (fl.drop i).any (λf=>hasTag l f.tag)=true then [.i .i64 0] else [.i .i64 1])
 | 0,i,hi=>by
   have h0:fl.drop i=[]:=gG (by omega);refine ay rfl rfl ?_;have h:¬ ((i:Int) < fl.length):=by omega
   simp [h,h0]
 | m+1,i,hi=>by
   have hlt:i < fl.length:=by omega
   have ih:=ac7 l hlen fl hfl m (i+1) (by omega);have hcast:((i:Int)+1)=((i+1:Nat):Int):=by omega
   rw [<- hcast] at ih;have h1:((i:Int) < fl.length):=by omega
   have hw:=wrap64 (n:=(i:Int)+1) (by omega) (by omega);have hd:(fl.drop i).any (λf=>hasTag l f.tag)=(hasTag l fl[i].tag || (fl.drop (i+1)).any (λf=>hasTag l f.tag)):=by rw [iQ hlt,List.any_cons]
   rw [hd];have hget:(aC fl)[i]? = some (nJ fl[i]):=by rw [zl,iL,bT hlt];rfl
   clear hd;obtain ⟨t,y,n,s,k,hfi⟩:∃t y n s k,fl[i]=aF.mk t y n s k:=by
    cases fl[i] with
    | mk t y n s k=>exact ⟨_,_,_,_,_,rfl⟩
   rw [hfi] at hget ⊢;rw [show (aF.mk t y n s k).tag=t from rfl];have h3:TT.lim 75 [.l (l.map dN),.l (aC fl),.i .i64 fl.length,.i .i64 i,.i .i64 l.length,.i .i64 0,.i .u64 t,.i .i64 y,.i .u64 n,.s s,.l (aC k)]=_:=ac8 l hlen _ _ _ t _ _ _ _ l.length 0 (by omega);rw [dY] at h3;refine ay rfl rfl ?_;by_cases hc:hasTag l t=true
   ·rw [aj hc] at h3
    simp [-List.any_eq_true,h1,hget,h3,hc]
   ·rw [ah hc] at h3
    have hc:hasTag l t=false:=by simpa using hc
    simp [-List.any_eq_true,h1,hget,h3,hw,ih,hc]
def tC (b:aB):Int:=
 if b.kind=1 then (if b.min < 1 then 18 else if b.max < b.min then 18 else if 255 < b.max then 18 else 0)
 else if b.kind=2 then (if b.chosen < 1 then 18 else if 255 < b.chosen then 18 else 0)
 else if b.kind=3 then (if b.d=[] then 12 else 0)
 else if b.kind=5 then (if b.epoch < 1 then 18 else 0)
 else if b.kind=6 then (if b.base < 1 then 18 else if b.epoch<=b.base then 20 else 0)
 else 0
/-- What is said of a message at a version. -/
def F5 (sp:List bM) (fl:List aF):Int:=if iT 0 0 fl≠0 then iT 0 0 fl else if fl.any (λf=>hasTag sp f.tag)=true then 14 else 0
def fB (b:aB) (fl:List aF) (v:Int):Int:=
 if v < 1 then 16 else if 3 < v then 16 else
 if aG b.kind v=[] then 15 else
 if dR.all (λn=>jG (aG b.kind v) n || mg b n)=false then 26 else
 if mZ b (aG b.kind v)≠0 then mZ b (aG b.kind v) else
 if tC b≠0 then tC b else F5 (aG b.kind v) fl
theorem LC:∀n∈dR,placeOf n≠none:=by decide
theorem VA (k v:Int):∀s∈aG k v,placeOf s.name≠none:=by
 have key:∀s∈mF k,placeOf s.name≠none:=by
  unfold mF;repeat' split
  all_goals first | (unfold sp1;decide) | (unfold sp2;decide) | (unfold rE;decide) | (unfold zI;decide) | (unfold rF;decide) | (unfold rG;decide) | (unfold zJ;decide) | (unfold zK;decide) | (intro s hs;cases hs)
 intro s hs;exact key s (pO.1 hs).1
theorem xB (k v:Int):(aG k v).length<=8:=iD (Nq _ _) (aqu k)
set_option maxHeartbeats 4000000 in
theorem ac3 (b:aB) (fl:List aF) (v:Int) (hb:kL b) (hf:∀r∈b.t,iq r.1=true) (hok:bY fl) (hlen:fl.length<=1000000):TT.lim 32 [bU b (aC fl),.i .i64 v]=some [.i .i64 (fB b fl v)]:=by
 have hk:=PX b.kind;refine aW rfl rfl ?_ rfl;unfold fB;by_cases v1:v < 1
 ·simp [v1]
 by_cases v3:3 < v
 ·simp [v1,v3]
 rw [ah v1,ah v3];have hnil:=P6 b.kind v (by omega) (by omega);by_cases k0:jm b.kind=0
 ·rw [aj (hnil.2 (.inl k0))]
  rw [k0] at hk;simp [v1,v3,hk]
 by_cases k1:v < jm b.kind
 ·rw [aj (hnil.2 (.inr k1))]
  simp [v1,v3,hk,k0,k1]
 rw [ah (λe=>(hnil.1 e).elim k0 k1)];have hkn:=Ll b.kind v (by omega) (by omega) (by omega);have hpl:=VA b.kind v;have hl8:=xB b.kind v;clear hnil;generalize aG b.kind v=sp at *;have hnm:=V4;have h0:=ac4 b (aC fl) sp (by omega) sp.length 0 [] (by omega);have h1:=ac5 b (aC fl) (.l (sp.map dN)) dR (by decide) LC (yB [] sp) dR.length 0 (by omega);have h2:=ac6 b (aC fl) hb hf sp (by omega) hpl sp.length 0 (by omega);have h3:=ac7 sp (by omega) fl hlen fl.length 0 (by omega);have h4:=OZ fl hok hlen;rw [dY] at h0 h1 h2 h3;simp only [alO] at h1;have hnl:(dR.map GV.s).length=dR.length:=nV _;have hfl:=lq fl;rw [<- hfl] at h3;generalize hX:yB [] sp=ps at *;have h0':TT.lim 44 [.l (sp.map dN),.i .i64 sp.length,.i .i64 0,.l [],.i .i64 b.kind,.i .u64 b.id,.i .u64 b.min,.i .u64 b.max,.i .u64 b.chosen,.i .u64 b.flags,.i .u64 b.cost,.i .u64 b.priority,.i .u64 b.deadline,.i .u64 b.retry,.i .u64 b.epoch,.i .u64 b.base,.i .u64 b.digest,.i .u64 b.lag,.i .u64 b.code,.i .u64 b.want,.i .i64 b.remaining,.b b.allowed,.s b.name,.s b.region,.s b.note,.l (b.d.map ent),.l (b.t.map row),.l (aC fl)]=some [.i .i64 0,.l (tJ ps)]:=h0;clear h0;have h1':TT.lim 46 [.l (sp.map dN),.l (dR.map .s),.i .i64 dR.length,.i .i64 0,.l (tJ ps),.i .i64 b.kind,.i .u64 b.id,.i .u64 b.min,.i .u64 b.max,.i .u64 b.chosen,.i .u64 b.flags,.i .u64 b.cost,.i .u64 b.priority,.i .u64 b.deadline,.i .u64 b.retry,.i .u64 b.epoch,.i .u64 b.base,.i .u64 b.digest,.i .u64 b.lag,.i .u64 b.code,.i .u64 b.want,.i .i64 b.remaining,.b b.allowed,.s b.name,.s b.region,.s b.note,.l (b.d.map ent),.l (b.t.map row),.l (aC fl)]=_:=h1;clear h1;have h2':TT.lim 47 [.l (sp.map dN),.i .i64 sp.length,.i .i64 0,.i .i64 b.kind,.i .u64 b.id,.i .u64 b.min,.i .u64 b.max,.i .u64 b.chosen,.i .u64 b.flags,.i .u64 b.cost,.i .u64 b.priority,.i .u64 b.deadline,.i .u64 b.retry,.i .u64 b.epoch,.i .u64 b.base,.i .u64 b.digest,.i .u64 b.lag,.i .u64 b.code,.i .u64 b.want,.i .i64 b.remaining,.b b.allowed,.s b.name,.s b.region,.s b.note,.l (b.d.map ent),.l (b.t.map row),.l (aC fl)]=_:=h2;clear h2;have h3':TT.lim 74 [.l (sp.map dN),.l (aC fl),.i .i64 (aC fl).length,.i .i64 0]=_:=h3;clear h3;have hr:F5 sp fl=if iT 0 0 fl≠0 then iT 0 0 fl else if fl.any (λf=>hasTag sp f.tag)=true then 14 else 0:=rfl
 generalize (dR.all λn=>jG sp n || mg b n)=A at *;generalize mZ b sp=M at *;generalize iT 0 0 fl=F at *;generalize (fl.any λf=>hasTag sp f.tag)=W at *;generalize F5 sp fl=R at *;generalize dR=NL at *;have auP:∀ (x:GV),True:=λ_=>trivial;cases A with
 | false=>
   simp only [gZ,if_false] at h1';simp [v1,v3,hk,k0,k1,hkn,hnm,h0',h1']
 | true=>
 simp only [if_true] at h1';by_cases hM:M=0;rotate_left
 ·rw [ah hM] at h2'
  simp [v1,v3,hk,k0,k1,hkn,hnm,h0',h1',h2',hM]
 rw [aj hM] at h2';rw [ah (by simp),ah (by simp [hM])];clear hM
 -- the rest of it
 have key:∀ (c:Int),tC b=c->c≠0->True:=λ_ _ _=>trivial;unfold tC;by_cases e1:b.kind=1
 ·have e1:=eq_true e1
  by_cases c1:b.min < 1
  ·simp [v1,v3,hk,k0,k1,hkn,hnm,h0',h1',h2',e1,c1]
  by_cases c2:b.max < b.min
  ·simp [v1,v3,hk,k0,k1,hkn,hnm,h0',h1',h2',e1,c1,c2]
  by_cases c3:255 < b.max
  ·simp [v1,v3,hk,k0,k1,hkn,hnm,h0',h1',h2',e1,c1,c2,c3]
  simp only [e1,c1,c2,c3,if_true,if_false,ne_eq,not_true_eq_false];rw [hr];by_cases hF:F=0
  ·subst hF
   cases W with
   | true=>simp only [if_true] at h3';simp [v1,v3,hk,k0,k1,hkn,hnm,h0',h1',h2',e1,c1,c2,c3,h4,h3']
   | false=>simp only [gZ,if_false] at h3';simp [v1,v3,hk,k0,k1,hkn,hnm,h0',h1',h2',e1,c1,c2,c3,h4,h3']
  ·simp [v1,v3,hk,k0,k1,hkn,hnm,h0',h1',h2',e1,c1,c2,c3,h4,hF]
 by_cases e2:b.kind=2
 ·have e2:=eq_true e2
  by_cases c1:b.chosen < 1
  ·simp [v1,v3,hk,k0,k1,hkn,hnm,h0',h1',h2',e1,e2,c1]
  by_cases c2:255 < b.chosen
  ·simp [v1,v3,hk,k0,k1,hkn,hnm,h0',h1',h2',e1,e2,c1,c2]
  simp only [e1,e2,c1,c2,if_true,if_false,ne_eq,not_true_eq_false];rw [hr];by_cases hF:F=0
  ·subst hF
   cases W with
   | true=>simp only [if_true] at h3';simp [v1,v3,hk,k0,k1,hkn,hnm,h0',h1',h2',e1,e2,c1,c2,h4,h3']
   | false=>simp only [gZ,if_false] at h3';simp [v1,v3,hk,k0,k1,hkn,hnm,h0',h1',h2',e1,e2,c1,c2,h4,h3']
  ·simp [v1,v3,hk,k0,k1,hkn,hnm,h0',h1',h2',e1,e2,c1,c2,h4,hF]
 by_cases e3:b.kind=3
 ·have e3:=eq_true e3
  by_cases c1:b.d=[]
  ·have c1:=eq_true c1
   simp [v1,v3,hk,k0,k1,hkn,hnm,h0',h1',h2',e1,e2,e3,c1]
  simp only [e1,e2,e3,c1,if_true,if_false,ne_eq,not_true_eq_false];rw [hr];by_cases hF:F=0
  ·subst hF
   cases W with
   | true=>simp only [if_true] at h3';simp [v1,v3,hk,k0,k1,hkn,hnm,h0',h1',h2',e1,e2,e3,c1,h4,h3']
   | false=>simp only [gZ,if_false] at h3';simp [v1,v3,hk,k0,k1,hkn,hnm,h0',h1',h2',e1,e2,e3,c1,h4,h3']
  ·simp [v1,v3,hk,k0,k1,hkn,hnm,h0',h1',h2',e1,e2,e3,c1,h4,hF]
 by_cases e5:b.kind=5
 ·have e5:=eq_true e5
  by_cases c1:b.epoch < 1
  ·simp [v1,v3,hk,k0,k1,hkn,hnm,h0',h1',h2',e1,e2,e3,e5,c1]
  simp only [e1,e2,e3,e5,c1,if_true,if_false,ne_eq,not_true_eq_false];rw [hr];by_cases hF:F=0
  ·subst hF
   cases W with
   | true=>simp only [if_true] at h3';simp [v1,v3,hk,k0,k1,hkn,hnm,h0',h1',h2',e1,e2,e3,e5,c1,h4,h3']
   | false=>simp only [gZ,if_false] at h3';simp [v1,v3,hk,k0,k1,hkn,hnm,h0',h1',h2',e1,e2,e3,e5,c1,h4,h3']
  ·simp [v1,v3,hk,k0,k1,hkn,hnm,h0',h1',h2',e1,e2,e3,e5,c1,h4,hF]
 by_cases e6:b.kind=6
 ·have e6:=eq_true e6
  by_cases c1:b.base < 1
  ·simp [v1,v3,hk,k0,k1,hkn,hnm,h0',h1',h2',e1,e2,e3,e5,e6,c1]
  by_cases c2:b.epoch<=b.base
  ·simp [v1,v3,hk,k0,k1,hkn,hnm,h0',h1',h2',e1,e2,e3,e5,e6,c1,c2]
  simp only [e1,e2,e3,e5,e6,c1,c2,if_true,if_false,ne_eq,not_true_eq_false];rw [hr];by_cases hF:F=0
  ·subst hF
   cases W with
   | true=>simp only [if_true] at h3';simp [v1,v3,hk,k0,k1,hkn,hnm,h0',h1',h2',e1,e2,e3,e5,e6,c1,c2,h4,h3']
   | false=>simp only [gZ,if_false] at h3';simp [v1,v3,hk,k0,k1,hkn,hnm,h0',h1',h2',e1,e2,e3,e5,e6,c1,c2,h4,h3']
  ·simp [v1,v3,hk,k0,k1,hkn,hnm,h0',h1',h2',e1,e2,e3,e5,e6,c1,c2,h4,hF]
 simp only [e1,e2,e3,e5,e6,if_false,ne_eq,not_true_eq_false];rw [hr];by_cases hF:F=0
 ·subst hF
  cases W with
  | true=>simp only [if_true] at h3';simp [v1,v3,hk,k0,k1,hkn,hnm,h0',h1',h2',e1,e2,e3,e5,e6,h4,h3']
  | false=>simp only [gZ,if_false] at h3';simp [v1,v3,hk,k0,k1,hkn,hnm,h0',h1',h2',e1,e2,e3,e5,e6,h4,h3']
 ·simp [v1,v3,hk,k0,k1,hkn,hnm,h0',h1',h2',e1,e2,e3,e5,e6,h4,hF]
def Yi (n:List UInt8):Int:=match placeOf n with
 | some p=>asa p
 | none=>-1
theorem akQ (k v:Int):∀s∈aG k v,placeOf s.name≠none/\s.use=Yi s.name:=by
 have key:∀s∈mF k,placeOf s.name≠none/\s.use=Yi s.name:=by
  unfold mF;repeat' split
  all_goals first | (unfold sp1;decide) | (unfold sp2;decide) | (unfold rE;decide) | (unfold zI;decide) | (unfold rF;decide) | (unfold rG;decide) | (unfold zJ;decide) | (unfold zK;decide) | (intro s hs;cases hs)
 intro s hs;exact key s (pO.1 hs).1
/-- The numbers with a sign, written by their bits. -/
theorem ata (x:Int) (h0 : -9223372036854775808<=x) (h1:x<=9223372036854775807):∃u w:Int,IntKind.u64.wrap x=u/\IntKind.u64.wrap (x.fdiv (2 ^ 63))=w/\fJ .xor .u64 (IntKind.u64.wrap (u * 2 ^ 1)) w=some (.i .u64 (zz x)):=by
 have wr:∀y:Int,IntKind.u64.wrap y=y % 18446744073709551616:=λy=>by simp [IntKind.wrap,IntKind.signed,IntKind.bits]
 refine ⟨_,_,rfl,rfl, ?_⟩;rw [wr,wr,wr];unfold zz;have hb:IntKind.u64.bits=64:=rfl;by_cases h:0<=x
 ·have e1:x.fdiv (2 ^ 63)=0:=by
   rw [Nk _ (by decide)];exact Int.ediv_eq_zero_of_lt h (by omega)
  rw [e1,aj h];have e2:x % 18446744073709551616 * 2 ^ 1 % 18446744073709551616=2 * x:=by omega
  rw [e2];simp only [fJ,wr,hb];have e3:(BitVec.ofInt 64 (2 * x) ^^^ BitVec.ofInt 64 (0 % 18446744073709551616))=BitVec.ofInt 64 (2 * x):=by
   have:BitVec.ofInt 64 (0 % 18446744073709551616)=0#64:=rfl;rw [this,BitVec.xor_zero]
  show some (GV.i IntKind.u64 (((BitVec.ofInt 64 (2 * x) ^^^ BitVec.ofInt 64 (0 % 18446744073709551616)).toNat:Int) % 18446744073709551616))=_
  rw [e3,xM];congr 2;omega
 ·have e1:x.fdiv (2 ^ 63) = -1:=by
   rw [Nk _ (by decide)];omega
  rw [e1,ah h];have e2:x % 18446744073709551616 * 2 ^ 1 % 18446744073709551616=2 * x+18446744073709551616:=by omega
  rw [e2];simp only [fJ,wr,hb];have e3:(BitVec.ofInt 64 (2 * x+18446744073709551616) ^^^ BitVec.ofInt 64 (-1 % 18446744073709551616)) = ~~~ BitVec.ofInt 64 (2 * x+18446744073709551616):=by
   have:BitVec.ofInt 64 (-1 % 18446744073709551616)=BitVec.allOnes 64:=by decide
   rw [this,BitVec.xor_allOnes]
  show some (GV.i IntKind.u64 (((BitVec.ofInt 64 (2 * x+18446744073709551616) ^^^ BitVec.ofInt 64 (-1 % 18446744073709551616)).toNat:Int) % 18446744073709551616))=_
  rw [e3,BitVec.toNat_not,xM];congr 2;omega
def gy (b:aB) (r:List GV) (n:List UInt8) (p:Pl):Prop:=TT.lim 77 [bU b r,.s n]=some [.g [.i .u64 0,.i .i64 (aV p),.i .u64 (aK b p).1,.s (aK b p).2,.l []],.b true]
theorem asu (b:aB) (r:List GV):gy b r lS (.num 0):=by
 unfold gy;show _=some [GV.g [.i .u64 0,.i .i64 0,.i .u64 b.id,.s [],.l []],GV.b true]
 unfold lS;refine aW rfl rfl ?_ rfl;simp
theorem asx (b:aB) (r:List GV):gy b r lV (.num 1):=by
 unfold gy;show _=some [GV.g [.i .u64 0,.i .i64 0,.i .u64 b.min,.s [],.l []],GV.b true]
 unfold lV;refine aW rfl rfl ?_ rfl;simp
theorem asw (b:aB) (r:List GV):gy b r lU (.num 2):=by
 unfold gy;show _=some [GV.g [.i .u64 0,.i .i64 0,.i .u64 b.max,.s [],.l []],GV.b true]
 unfold lU;refine aW rfl rfl ?_ rfl;simp
theorem ash (b:aB) (r:List GV):gy b r lG (.num 3):=by
 unfold gy;show _=some [GV.g [.i .u64 0,.i .i64 0,.i .u64 b.chosen,.s [],.l []],GV.b true]
 unfold lG;refine aW rfl rfl ?_ rfl;simp
theorem asr (b:aB) (r:List GV):gy b r lQ (.num 4):=by
 unfold gy;show _=some [GV.g [.i .u64 0,.i .i64 0,.i .u64 b.flags,.s [],.l []],GV.b true]
 unfold lQ;refine aW rfl rfl ?_ rfl;simp
theorem asj (b:aB) (r:List GV):gy b r lI (.num 5):=by
 unfold gy;show _=some [GV.g [.i .u64 0,.i .i64 0,.i .u64 b.cost,.s [],.l []],GV.b true]
 unfold lI;refine aW rfl rfl ?_ rfl;simp
theorem asA (b:aB) (r:List GV):gy b r lW (.num 6):=by
 unfold gy;show _=some [GV.g [.i .u64 0,.i .i64 0,.i .u64 b.priority,.s [],.l []],GV.b true]
 unfold lW;refine aW rfl rfl ?_ rfl;simp
theorem asl (b:aB) (r:List GV):gy b r lJ (.num 7):=by
 unfold gy;show _=some [GV.g [.i .u64 0,.i .i64 0,.i .u64 b.deadline,.s [],.l []],GV.b true]
 unfold lJ;refine aW rfl rfl ?_ rfl;simp
theorem asD (b:aB) (r:List GV):gy b r lY (.num 8):=by
 unfold gy;show _=some [GV.g [.i .u64 0,.i .i64 0,.i .u64 b.retry,.s [],.l []],GV.b true]
 unfold lY;refine aW rfl rfl ?_ rfl;simp
theorem asq (b:aB) (r:List GV):gy b r lN (.num 9):=by
 unfold gy;show _=some [GV.g [.i .u64 0,.i .i64 0,.i .u64 b.epoch,.s [],.l []],GV.b true]
 unfold lN;refine aW rfl rfl ?_ rfl;simp
theorem asg (b:aB) (r:List GV):gy b r lF (.num 10):=by
 unfold gy;show _=some [GV.g [.i .u64 0,.i .i64 0,.i .u64 b.base,.s [],.l []],GV.b true]
 unfold lF;refine aW rfl rfl ?_ rfl;simp
theorem aso (b:aB) (r:List GV):gy b r lM (.num 11):=by
 unfold gy;show _=some [GV.g [.i .u64 0,.i .i64 0,.i .u64 b.digest,.s [],.l []],GV.b true]
 unfold lM;refine aW rfl rfl ?_ rfl;simp
theorem asv (b:aB) (r:List GV):gy b r lT (.num 12):=by
 unfold gy;show _=some [GV.g [.i .u64 0,.i .i64 0,.i .u64 b.lag,.s [],.l []],GV.b true]
 unfold lT;refine aW rfl rfl ?_ rfl;simp
theorem asi (b:aB) (r:List GV):gy b r lH (.num 13):=by
 unfold gy;show _=some [GV.g [.i .u64 0,.i .i64 0,.i .u64 b.code,.s [],.l []],GV.b true]
 unfold lH;refine aW rfl rfl ?_ rfl;simp
theorem asF (b:aB) (r:List GV):gy b r l7 (.num 14):=by
 unfold gy;show _=some [GV.g [.i .u64 0,.i .i64 0,.i .u64 b.want,.s [],.l []],GV.b true]
 unfold l7;refine aW rfl rfl ?_ rfl;simp
theorem asy (b:aB) (r:List GV):gy b r kR .name:=by
 unfold gy;show _=some [GV.g [.i .u64 0,.i .i64 1,.i .u64 0,.s b.name,.l []],GV.b true]
 unfold kR;refine aW rfl rfl ?_ rfl;simp
theorem asB (b:aB) (r:List GV):gy b r kT .region:=by
 unfold gy;show _=some [GV.g [.i .u64 0,.i .i64 1,.i .u64 0,.s b.region,.l []],GV.b true]
 unfold kT;refine aW rfl rfl ?_ rfl;simp
theorem asz (b:aB) (r:List GV):gy b r kS .note:=by
 unfold gy;show _=some [GV.g [.i .u64 0,.i .i64 1,.i .u64 0,.s b.note,.l []],GV.b true]
 unfold kS;refine aW rfl rfl ?_ rfl;simp
theorem asf (b:aB) (r:List GV):gy b r lD .allow:=by
 unfold gy;unfold lD;refine aW rfl rfl ?_ rfl;cases hc:b.allowed<;>simp [aV,aK,hc]
theorem asC (b:aB) (r:List GV) (hb:kL b):gy b r lX .rem:=by
 unfold gy;obtain ⟨u,w,h1,h2,h3⟩:=ata b.remaining hb.remaining.1 hb.remaining.2;show _=some [GV.g [.i .u64 0,.i .i64 0,.i .u64 (zz b.remaining),.s [],.l []],GV.b true]
 have h2:IntKind.u64.wrap (b.remaining.fdiv 9223372036854775808)=w:=h2;have h3:fJ .xor .u64 (IntKind.u64.wrap (u * 2)) w=some (.i .u64 (zz b.remaining)):=h3;unfold lX;refine aW rfl rfl ?_ rfl;simp [oz,h1,h2,h3,IntKind.bits]
theorem asn (b:aB) (r:List GV) (hf:iq b.d=true):gy b r lK .d:=by
 unfold gy;have hk:=PV b.d hf;have e:aK b .d=(0,if b.d=[] then [] else iJ b.d):=rfl;rw [e];unfold lK;refine aW rfl rfl ?_ rfl;by_cases e:b.d=[]
 ·have e':=eq_true e
  simp [aV,e']
 ·simp [aV,e,hk]
theorem asE (b:aB) (r:List GV) (hb:kL b) (hf:zY b.t):gy b r lZ .t:=by
 unfold gy;have hk:=akR b.t hb.t hf;have e:aK b .t=(0,if b.t=[] then [] else (zD b.t).1):=rfl;rw [e];unfold lZ;refine aW rfl rfl ?_ rfl;by_cases e:b.t=[]
 ·have e':=eq_true e
  simp [aV,e']
 ·simp [aV,e,hk]
theorem amh (b:aB) (r:List GV) (n:List UInt8) (e0:¬ n=lX) (e1:¬ n=lD) (e2:¬ n=kR) (e3:¬ n=kT) (e4:¬ n=kS) (e5:¬ n=lK) (e6:¬ n=lZ) (e7:¬ n=lS) (e8:¬ n=lV) (e9:¬ n=lU) (e10:¬ n=lG) (e11:¬ n=lQ) (e12:¬ n=lI) (e13:¬ n=lW) (e14:¬ n=lJ) (e15:¬ n=lY) (e16:¬ n=lN) (e17:¬ n=lF) (e18:¬ n=lM) (e19:¬ n=lT) (e20:¬ n=lH) (e21:¬ n=l7):TT.lim 77 [bU b r,.s n]=some [.g [.i .u64 0,.i .i64 0,.i .u64 0,.s [],.l []],.b false]:=by
 unfold lX lD kR kT kS lK lZ lS lV lU lG lQ lI lW lJ lY lN lF lM lT lH l7 at *;refine aW rfl rfl ?_ rfl;simp [e0,e1,e2,e3,e4,e5,e6,e7,e8,e9,e10,e11,e12,e13,e14,e15,e16,e17,e18,e19,e20,e21]
theorem UC:∀ (n:Nat) (l:List One) (deep:Int),(∀x∈l,BX x/\x.text.length<=300)->l.length<=1000000->bY (fA n l deep).1
 | 0,l,deep,_,_=>by simp only [fA,bY]
 | n+1,[],deep,_,_=>by simp only [fA,bY]
 | n+1,x::l,deep,h,hl=>by
   have hx:=h x (by simp);have hl':∀y∈l,BX y/\y.text.length<=300:=λy hy=>h y (by simp [hy]);have hx1:=hx.1;unfold BX at hx1;simp only [jg] at hl;simp only [fA];split
   ·have hp:bY (if x.deep=255 then (([]:List aF),l) else fA n l (x.deep+1)).1/\(if x.deep=255 then (([]:List aF),l) else fA n l (x.deep+1)).1.length<=1000000/\∃k,(if x.deep=255 then (([]:List aF),l) else fA n l (x.deep+1)).2=l.drop k:=by
     split
     ·exact ⟨by simp only [bY],by simp,0,rfl⟩
     ·have:=E5 n l (x.deep+1)
      exact ⟨UC n l _ hl' (by omega),by omega,this.2⟩
    obtain ⟨p1,p2,k,p3⟩:=hp;simp only [bY,oN];refine ⟨⟨⟨hx1.2.2.2.2.1,hx1.2.2.2.2.2.1,hx1.2.2.1,hx1.2.2.2.1,hx1.2.2.2.2.2.2.1,hx1.2.2.2.2.2.2.2.1,iD hx.2 (by decide),p2⟩,p1⟩, ?_⟩;rw [p3];exact UC n (l.drop k) deep (λy hy=>hl' y (BU hy)) (by rw [eU];omega)
   ·simp only [bY]
theorem alf (l:List One) (hl:Ones l) (hf:uU l=true):bY (sG l)/\(sG l).length<=1000000:=by
 unfold uU at hf;rw [aJ,decide_eq_true_iff,List.all_eq_true] at hf;refine ⟨UC _ l 0 (λx hx=>⟨hl.2 x hx,by simpa using hf.1 x hx⟩) (by omega), ?_⟩;have:=E5 (l.length+1) l 0;unfold sG;omega
abbrev It:=Int×Int×List UInt8
def ltI (a b:It):Bool:=if a.1=b.1 then decide (a.2.1 < b.2.1) else decide (a.1 < b.1)
def leI (a b:It):Prop:=ltI b a=false
def dI:It:=(0,0,[])
abbrev at_ (h:List It) (i:Nat):It:=h.getD i dI
def par (k:Nat):Nat:=(k - 1) / 2
def Heap (h:List It) (n:Nat):Prop:=∀k,0 < k->k < n->leI (at_ h (par k)) (at_ h k)
structure Y6 (h L:List It) (n:Int):Prop where
 heap:Heap h h.length
 perm:L.Perm h
 srt:L.Pairwise (λx y=>ltI x y=true)
 low:∀x∈L,x.2.1 < n
theorem Y6.len {h L:List It} {n:Int} (s:Y6 h L n):h.length=L.length:=s.perm.length_eq.symm
/-- What may be kept. -/
structure Kp (k:List Sn):Prop where
 len:k.length<=8
 tb:∀s∈k,Tb s.2
 pos:∀s∈k,0 < s.1/\s.1 < 18446744073709551616
 rise:k.Pairwise λa b=>a.1 < b.1/\Zp b.2 a.2=true
theorem Kp.nil:Kp []:=⟨by decide,by simp,by simp,List.Pairwise.nil⟩
theorem Kp.drop {k:List Sn} (hk:Kp k) (i:Nat):Kp (k.drop i):=
 ⟨by have:=hk.len;rw [eU];omega,λs hs=>hk.tb s (BU hs),λs hs=>hk.pos s (BU hs),hk.rise.sublist (List.drop_sublist i k)⟩
theorem afg {v:Int} (h0:0<=v) (h1:v < 256):1<=IntKind.i64.wrap (IntKind.i64.wrap (v.tmod 3)+1)/\IntKind.i64.wrap (IntKind.i64.wrap (v.tmod 3)+1)<=3:=by
 have h2:v.tmod 3=v % 3:=Int.tmod_eq_emod_of_nonneg h0;rw [h2,wrap64 (n:=v % 3) (by omega) (by omega),wrap64 (n:=v % 3+1) (by omega) (by omega)];omega
theorem abV {g:GV} (h:(bJ.int .u8).has g):∃n,g=.i .u8 n/\0<=n/\n < 256:=by
 simp only [bJ.has] at h;obtain ⟨n,rfl,b1,b2⟩:=h;exact ⟨n,rfl,by simpa [IntKind.min,IntKind.signed] using b1,by simp [IntKind.max,IntKind.signed,IntKind.bits] at b2;omega⟩
theorem key_inj {a b:Int} {x:GV} (h1:je (.i .u64 a) x=true) (h2:je (.i .u64 b) x=true):a=b:=by
 cases x<;>simp [je] at h1 h2
 omega
theorem acs (a b:Int):je (.i .u64 a) (.i .u64 b)=decide (a=b):=by
 simp only [je];rw [pI];simp
theorem xX (a b:Int) (u:GV):∀xs:List GV,fQ (.i .u64 a) (iO (.i .u64 b) u xs)=if a=b then some u else fQ (.i .u64 a) xs
 | []=>by
   show (if je (.i .u64 a) (.i .u64 b)=true then some u else none)=_
   rw [acs];by_cases h:a=b<;>simp [h,fQ]
 | .g [x,v]::xs=>by
   have ih:=xX a b u xs;show fQ (.i .u64 a) (if je (.i .u64 b) x=true then .g [.i .u64 b,u]::xs else .g [x,v]::iO (.i .u64 b) u xs)=if a=b then some u else (if je (.i .u64 a) x=true then some v else fQ (.i .u64 a) xs)
   cases hb:je (.i .u64 b) x with
   | true=>
     rw [aj rfl];show (if je (.i .u64 a) (.i .u64 b)=true then some u else fQ (.i .u64 a) xs)=_
     rw [acs];by_cases h:a=b
     ·simp [h]
     ·cases ha:je (.i .u64 a) x with
      | true=>exact absurd (key_inj ha hb) h
      | false=>simp [h]
   | false=>
     rw [ah (by simp)];show (if je (.i .u64 a) x=true then some v else fQ (.i .u64 a) (iO (.i .u64 b) u xs))=_
     rw [ih];cases ha:je (.i .u64 a) x with
     | true=>
       by_cases h:a=b
       ·subst h;rw [ha] at hb;cases hb
       ·simp [h]
     | false=>simp
 | .g []::xs=>xX a b u xs
 | .g [_]::xs=>xX a b u xs
 | .g (_::_::_::_)::xs=>xX a b u xs
 | .i _ _::xs=>xX a b u xs
 | .b _::xs=>xX a b u xs
 | .s _::xs=>xX a b u xs
 | .l _::xs=>xX a b u xs
noncomputable def dn (p:Prop):Bool:=@decide p (Classical.propDecidable p)
theorem jP {p:Prop} (h:p):dn p=true:=@yh p (Classical.propDecidable p) h
theorem jK {p:Prop} (h:¬ p):dn p=false:=@yg p (Classical.propDecidable p) h
theorem IB {p q:Prop} (h:p↔q):dn p=dn q:=by rw [propext h]
def pW (t y n:Int) (s:List UInt8) (k:List aF):GV:=.g [.i .u64 t,.i .i64 y,.i .u64 n,.s s,.l (aC k)]
@[simp] theorem aud (t y n:Int) (s:List UInt8) (k:List aF):(pW t y n s k).cells=[.i .u64 t,.i .i64 y,.i .u64 n,.s s,.l (aC k)]:=rfl
theorem Di {l:List aF} {i:Nat} (h:i < l.length):∃t y n s k,l[i]? = some (.mk t y n s k)/\(aC l)[i]? = some (pW t y n s k)/\l.drop i=.mk t y n s k::l.drop (i+1)/\aF.mk t y n s k∈l:=by
 have hget:(aC l)[i]? = some (nJ l[i]):=by rw [zl,iL,bT h];rfl
 have hd:=iQ h;have hm:=jf h;have hg:=bT h;cases hf:l[i] with
 | mk t y n s k=>
   rw [hf] at hget hd hm hg;exact ⟨t,y,n,s,k,hg,by rw [hget];simp only [nJ];rfl,hd,hm⟩
/-- What is still to be compared behind two lists' fields. -/
def rC:List aF->List aF->Option (List (List aF×List aF))
 | .mk t y n s k::a,.mk t' y' n' s' k'::b=>if t=t'/\y=y'/\n=n'/\s=s' then (rC a b).map λr=>(if k.length=0/\k'.length=0 then [] else [(k,k')])++r else none
 | _,_=>some []
def jD (q:List aF×List aF):GV:=.g [.l (aC q.1),.l (aC q.2)]
@[simp] theorem avx (q:List aF×List aF):(jD q).cells=[.l (aC q.1),.l (aC q.2)]:=rfl
def qZ:List (List aF×List aF)->Nat
 | []=>0
 | q::l=>bI q.1+1+qZ l
theorem Qn:∀ (a b:List (List aF×List aF)),qZ (a++b)=qZ a+qZ b
 | [],b=>by simp [qZ]
 | q::a,b=>by simp only [cu,qZ,Qn a b];omega
theorem adk:∀ (a:List (List aF×List aF)),a.length<=qZ a
 | []=>by simp [qZ]
 | q::a=>by have:=adk a;simp only [jg,qZ];omega
def okP (q:List aF×List aF):Prop:=bY q.1/\bY q.2/\q.1.length<=1000000/\q.2.length<=1000000
theorem adU:∀ (a b:List aF),a.length=b.length->bY a->bY b->(match rC a b with
 | none=>a≠b
 | some ps=>((∀q∈ps,q.1=q.2)↔a=b)/\qZ ps<=bI a/\∀q∈ps,okP q)
 | [],[],_,_,_=>by simp [rC,qZ]
 | [],_::_,e,_,_=>by simp at e
 | _::_,[],e,_,_=>by simp at e
 | .mk t y n s k::a,.mk t' y' n' s' k'::b,e,ha,hb=>by
   simp only [bY,oN] at ha hb;have ih:=adU a b (by simpa using e) ha.2 hb.2;unfold rC;by_cases hc:t=t'/\y=y'/\n=n'/\s=s'
   ·rw [aj hc]
    obtain ⟨rfl,rfl,rfl,rfl⟩:=hc;cases hp:rC a b with
    | none=>
      rw [hp] at ih;simp only [Option.map_none];intro h;injection h with h1 h2
      exact ih h2
    | some ps=>
      rw [hp] at ih;obtain ⟨i1,i2,i3⟩:=ih;simp only [gI];by_cases hk:k.length=0/\k'.length=0
      ·rw [aj hk]
       have e1:=jr hk.1;have e2:=jr hk.2;subst e1;subst e2;refine ⟨by simpa using i1,by simp only [bK,bI,qj];omega,by simpa using i3⟩
      ·rw [ah hk]
       refine ⟨?_,by simp only [cu,bK,qZ,bI,qj];omega,λq hq=>?_⟩
       ·simp only [cu,bK,cO,forall_eq_or_imp,i1]
        constructor
        ·rintro ⟨h1,h2⟩;rw [h1,h2]
        ·intro h
         injection h with h1 h2
         injection h1 with _ _ _ _ h5
         exact ⟨h5,h2⟩
       ·simp only [cu,bK,cO] at hq
        rcases hq with rfl | hq
        ·exact ⟨ha.1.2,hb.1.2,ha.1.1.2.2.2.2.2.2.2,hb.1.1.2.2.2.2.2.2.2⟩
        ·exact i3 q hq
   ·rw [ah hc]
    intro h;injection h with h1 h2
    injection h1 with k1 k2 k3 k4 _
    exact hc ⟨k1,k2,k3,k4⟩
theorem UD (a b:List aF) (hl:a.length=b.length) (hla:a.length<=1000000) (ha:bY a) (hb:bY b):∀ (m i:Nat) (acc:List (List aF×List aF)),i+m=a.length->acc.length+m<=4000000->
 TT.lim 140 [.l (acc.map jD),.i .i64 a.length,.i .i64 i,.l (aC a),.l (aC b)]=some (match rC (a.drop i) (b.drop i) with | none=>[.i .i64 0] | some ps=>[.i .i64 1,.l ((acc++ps).map jD)])
 | 0,i,acc,hi,hacc=>by
   have e1:a.drop i=[]:=gG (by omega);have e2:b.drop i=[]:=gG (by omega);have h:¬ ((i:Int) < a.length):=by omega
   rw [e1,e2];simp only [rC,mG];generalize acc.map jD=A at *;refine ay rfl rfl ?_;simp [h]
 | m+1,i,acc,hi,hacc=>by
   obtain ⟨t,y,n,s,k,g1,g2,g3,g4⟩:=Di (l:=a) (i:=i) (by omega);obtain ⟨t',y',n',s',k',g1',g2',g3',g4'⟩:=Di (l:=b) (i:=i) (by omega);have hwr:=wrap64 (n:=(i:Int)+1) (by omega) (by omega);have h:((i:Int) < a.length):=by omega
   have hcast:((i+1:Nat):Int)=(i:Int)+1:=by omega
   have hz1:=lq k;have hz2:=lq k';rw [g3,g3'];unfold rC;by_cases c1:t=t';rotate_left
   ·rw [ah λh=>c1 h.1]
    refine ay rfl rfl ?_;simp [h,g2,g2',c1]
   by_cases c2:y=y';rotate_left
   ·rw [ah λh=>c2 h.2.1]
    refine ay rfl rfl ?_;simp [h,g2,g2',c1,c2]
   by_cases c3:n=n';rotate_left
   ·rw [ah λh=>c3 h.2.2.1]
    refine ay rfl rfl ?_;simp [h,g2,g2',c1,c2,c3]
   by_cases c4:s=s';rotate_left
   ·rw [ah λh=>c4 h.2.2.2]
    refine ay rfl rfl ?_;simp [h,g2,g2',c1,c2,c3,c4]
   rw [aj ⟨c1,c2,c3,c4⟩];by_cases hk:k.length=0/\k'.length=0
   ·rw [aj hk]
    have ih':=UD a b hl hla ha hb m (i+1) acc (by omega) (by omega);rw [hcast] at ih';have z1:=jr hk.1;have z2:=jr hk.2;have hR:(match Option.map (λr=>[]++r) (rC (a.drop (i+1)) (b.drop (i+1))) with | none=>[GV.i .i64 0] | some ps=>[GV.i .i64 1,GV.l ((acc++ps).map jD)])=(match rC (a.drop (i+1)) (b.drop (i+1)) with | none=>[GV.i .i64 0] | some ps=>[GV.i .i64 1,GV.l ((acc++ps).map jD)]):=by
     cases rC (a.drop (i+1)) (b.drop (i+1))<;>simp
    rw [hR];generalize (match rC (a.drop (i+1)) (b.drop (i+1)) with | none=>[GV.i .i64 0] | some ps=>[GV.i .i64 1,GV.l ((acc++ps).map jD)])=R at *;generalize acc.map jD=A at *;refine ay rfl rfl ?_;simp [h,g2,g2',c1,c2,c3,c4,z1,z2,aC,hwr,ih']
   ·rw [ah hk]
    have ih':=UD a b hl hla ha hb m (i+1) (acc++[(k,k')]) (by omega) (by simp;omega);rw [hcast] at ih';have hR:(match Option.map (λr=>[(k,k')]++r) (rC (a.drop (i+1)) (b.drop (i+1))) with | none=>[GV.i .i64 0] | some ps=>[GV.i .i64 1,GV.l ((acc++ps).map jD)])=(match rC (a.drop (i+1)) (b.drop (i+1)) with | none=>[GV.i .i64 0] | some ps=>[GV.i .i64 1,GV.l ((acc++[(k,k')]++ps).map jD)]):=by
     cases rC (a.drop (i+1)) (b.drop (i+1))<;>simp
    rw [hR];generalize (match rC (a.drop (i+1)) (b.drop (i+1)) with | none=>[GV.i .i64 0] | some ps=>[GV.i .i64 1,GV.l ((acc++[(k,k')]++ps).map jD)])=R at *;have hmap:(acc++[(k,k')]).map jD=acc.map jD++[.g [.l (aC k),.l (aC k')]]:=by simp [jD]
    rw [hmap] at ih';have hb1:2 * ((acc.map jD).length+1) * 48<=281474976710656/\(acc.map jD).length+1<=281474976710656:=by rw [nV];omega
    generalize acc.map jD=A at *;have hb2:A.length<=281474976710655:=by omega
    by_cases z0:k.length=0;rotate_left
    ·have z1:0 < k.length:=by omega
     have z3:k≠[]:=λe=>by rw [e] at z0;exact z0 rfl
     have hel:GV.fU 2 (.g [.l (aC k),.l (aC k')])=true:=rfl;refine ay rfl rfl ?_;simp [h,g2,g2',c1,c2,c3,c4,hz1,hz2,z1,z3,hwr,ih',hel,hb1,hb2]
    ·have z1:=jr z0
     have z2:0 < k'.length:=by omega
     have z3:k'≠[]:=λe=>by rw [e] at z2;exact absurd z2 (by simp)
     subst z1;have hel:GV.fU 2 (.g [.l [],.l (aC k')])=true:=rfl;simp only [aC,pW] at ih' g2 hz1;refine ay rfl rfl ?_;simp [h,g2,g2',c1,c2,c3,c4,hz2,z2,z3,hwr,ih',hel,hb1,hb2]
theorem abD:∀ (N:Nat) (work:List (List aF×List aF)),qZ work < N->qZ work<=2000000->(∀q∈work,okP q)->TT.lim 139 [.l (work.map jD)]=some [.i .i64 (if dn (∀q∈work,q.1=q.2)=true then 1 else 0)]
 | 0,work,hN,_,_=>by omega
 | N+1,work,hN,hM,hok=>by
   rcases afB work with rfl | ⟨ws,q,rfl⟩
   ·have ht:dn (∀q∈([]:List (List aF×List aF)),q.1=q.2)=true:=jP (by simp)
    rw [ht];refine ay rfl rfl ?_;simp
   ·rw [afz] at *
    obtain ⟨a,b⟩:=q;have hq:=hok (a,b) (by simp);obtain ⟨q1,q2,q3,q4⟩:=hq;simp only at q1 q2 q3 q4;have hlen:=adk ws;rw [Qn] at hN hM;simp only [qZ] at hN hM;have hl1:=lq a;have hl2:=lq b;have hmap:(ws++[(a,b)]).map jD=ws.map jD++[jD (a,b)]:=by simp
    have hwl:(ws.map jD).length=ws.length:=nV ..;have hall:∀x∈ws.map jD,x.cells.length=2:=by
     intro x hx;obtain ⟨r,_,rfl⟩:=nD.1 hx;rfl
    have key:=UD a b;have i0:(0:Int) < (ws.length:Int)+1:=by omega
    have i1:(ws.length:Int)+1 - 1=ws.length:=by omega
    have i2:(ws.length:Int) < (ws.length:Int)+1:=by omega
    have i3:(ws.length:Int)<=(ws.length:Int)+1:=by omega
    have hwr:=wrap64 (n:=(ws.length:Int)) (by omega) (by omega);rw [hmap];by_cases hl:a.length=b.length;rotate_left
    ·have hne:dn (∀q∈ws++[(a,b)],q.1=q.2)=false:=jK λh=>hl (tH List.length (h (a,b) (by simp)))
     have hc:¬ ((a.length:Int)=(b.length:Int)):=by omega
     rw [hne];generalize ws.map jD=A at *;have KQ:=eq_true hall;clear hall;refine ay rfl rfl ?_;simp [hwl,i0,i1,i2,i3,hwr,jD,hl1,hl2,hc,KQ]
    ·have hpo:=adU a b hl q1 q2
     have key:=key hl q3 q1 q2 a.length 0 ws (by omega) (by omega);rw [dY,dY,show ((0:Nat):Int)=0 from rfl] at key;have hc:b.length=a.length:=by omega
     cases hp:rC a b with
     | none=>
       rw [hp] at hpo key;have hne:dn (∀q∈ws++[(a,b)],q.1=q.2)=false:=jK λh=>hpo (h (a,b) (by simp));rw [hne];simp only at key;generalize ws.map jD=A at *;have hA:A.length < 281474976710656:=by omega
       have KQ:=eq_true hall;clear hall;refine ay rfl rfl ?_;simp [hwl,i0,i1,i2,i3,hwr,jD,hl1,hl2,hc,key,KQ]
     | some ps=>
       rw [hp] at hpo key;obtain ⟨p1,p2,p3⟩:=hpo;have ih:=abD N (ws++ps) (by rw [Qn];omega) (by rw [Qn];omega) (λq hq=>by
        rcases nX.1 hq with hq | hq
        ·exact hok q (by simp [hq])
        ·exact p3 q hq)
       have hcg:dn (∀q∈ws++[(a,b)],q.1=q.2)=dn (∀q∈ws++ps,q.1=q.2):=IB (by
        simp only [nX,or_imp,forall_and,p1,SE,forall_eq])
       rw [hcg];generalize dn (∀q∈ws++ps,q.1=q.2)=R at *;simp only at key;generalize (ws++ps).map jD=B at *;generalize ws.map jD=A at *;have KQ:=eq_true hall;clear hall;refine ay rfl rfl ?_;simp [hwl,i0,i1,i2,i3,hwr,jD,hl1,hl2,hc,key,KQ,ih]
theorem abE (a b:List aF) (ha:bY a) (hb:bY b) (hla:a.length<=1000000) (hlb:b.length<=1000000) (hs:bI a<=1000000):TT.lim 138 [.l (aC a),.l (aC b)]=some [.b (dn (a=b))]:=by
 have h:=abD (bI a+2) [(a,b)] (by simp [qZ]) (by simp [qZ];omega) (by intro q hq;simp at hq;subst hq;exact ⟨ha,hb,hla,hlb⟩);have hcg:dn (∀q∈[(a,b)],q.1=q.2)=dn (a=b):=IB (by simp);rw [hcg] at h;have hm:[(a,b)].map jD=[.g [.l (aC a),.l (aC b)]]:=rfl;rw [hm] at h;refine aW rfl rfl ?_ rfl;generalize dn (a=b)=r at *;cases r with
 | true=>simp at h;simp [h]
 | false=>simp at h;simp [h]
mutual
def toFt:aF->Ft
 | .mk t y n s k=>.mk [.int .u64 t,.int .i64 y,.int .u64 n,.string ⟨⟨s⟩⟩] (Gj k)
def Gj:List aF->List Ft
 | []=>[]
 | f::l=>toFt f::Gj l
end
mutual
theorem arT:∀f:aF,AQ (toFt f) (nJ f)/\cntF (toFt f)<=qj f
 | .mk t y n s k=>by
   have h:=Yb k;simp only [toFt,AQ,nJ,cntF,qj];exact ⟨⟨_,_,_,_,_,rfl,rfl,h.1⟩,by omega⟩
theorem Yb:∀l:List aF,oQ (Gj l) (aC l)/\nI (Gj l)<=bI l
 | []=>by simp only [Gj,oQ,aC,nI,bI];exact ⟨trivial,dJ _⟩
 | f::l=>by
   have h1:=arT f;have h2:=Yb l;simp only [Gj,oQ,aC,nI,bI];exact ⟨⟨_,_,rfl,h1.1,h2.1⟩,by omega⟩
end
theorem O0 (l:List aF) (hs:bI l<=1000000):TT.lim 86 [.l (aC l)]=some [.l (aC l)]:=by
 refine LX (Ds:=Ds) (k:=86) (f:=H8) rfl ?_;have h:=Yb l;unfold H8;exact aj ⟨Gj l,h.1,by omega⟩
theorem O9:∀ (n:Nat) (l:List One) (deep:Int),bI (fA n l deep).1+2 * (fA n l deep).2.length<=2 * l.length
 | 0,l,deep=>by simp [fA,bI]
 | n+1,[],deep=>by simp [fA,bI]
 | n+1,x::l,deep=>by
   simp only [fA];split
   ·by_cases hx:x.deep=255
    ·rw [aj hx]
     have h1:=O9 n l deep;simp only [bI,qj,jg];omega
    ·rw [ah hx]
     have h1:=O9 n l (x.deep+1);have h2:=O9 n (fA n l (x.deep+1)).2 deep;simp only [bI,qj,jg];omega
   ·simp [bI]
theorem acX (l:List One):bI (sG l)<=2 * l.length:=by
 have:=O9 (l.length+1) l 0;unfold sG;omega
end K
end Go.Proofs.YtcpfjpcdcafjmaaGreatDoor
