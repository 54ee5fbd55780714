/- What the trees compute: plain laws. -/
import Derived.Test.YtpioimdhbbgniaaGreatDoorKLe1
namespace Go.Proofs.YtpioimdhbbgniaaGreatDoor
open Go Go.aJ
set_option linter.unusedSimpArgs false
set_option linter.unusedVariables false
set_option maxRecDepth 100000
namespace L
inductive Pl where
 | rem | allow | name | region | note | d | t
 | num (k:Nat)
def lX:List UInt8:=[114,101,109,97,105,110,105,110,103]
def lq:List UInt8:=[97,108,108,111,119,101,100]
def lT:List UInt8:=[110,97,109,101]
def lW:List UInt8:=[114,101,103,105,111,110]
def lU:List UInt8:=[110,111,116,101]
def lH:List UInt8:=[100,101,115,99,114]
def lZ:List UInt8:=[116,97,98,108,101]
def lM:List UInt8:=[105,100]
def lS:List UInt8:=[109,105,110]
def lQ:List UInt8:=[109,97,120]
def lC:List UInt8:=[99,104,111,115,101,110]
def lK:List UInt8:=[102,108,97,103,115]
def lF:List UInt8:=[99,111,115,116]
def lV:List UInt8:=[112,114,105,111,114,105,116,121]
def lG:List UInt8:=[100,101,97,100,108,105,110,101]
def lY:List UInt8:=[114,101,116,114,121]
def lJ:List UInt8:=[101,112,111,99,104]
def lu:List UInt8:=[98,97,115,101]
def lI:List UInt8:=[100,105,103,101,115,116]
def lN:List UInt8:=[108,97,103]
def lD:List UInt8:=[99,111,100,101]
def l7:List UInt8:=[119,97,110,116]
def placeOf (n:List UInt8):Option Pl:=
 if n=lX then some .rem else if n=lq then some .allow else if n=lT then some .name else if n=lW then some .region else if n=lU then some .note else if n=lH then some .d else if n=lZ then some .t else if n=lM then some (.num 0) else if n=lS then some (.num 1) else if n=lQ then some (.num 2) else if n=lC then some (.num 3) else if n=lK then some (.num 4) else if n=lF then some (.num 5) else if n=lV then some (.num 6) else if n=lG then some (.num 7) else if n=lY then some (.num 8) else if n=lJ then some (.num 9) else if n=lu then some (.num 10) else if n=lI then some (.num 11) else if n=lN then some (.num 12) else if n=lD then some (.num 13) else if n=l7 then some (.num 14) else none
theorem Hq:placeOf lX=some .rem:=rfl
theorem GI:placeOf lq=some .allow:=rfl
theorem Hf:placeOf lT=some .name:=rfl
theorem Ho:placeOf lW=some .region:=rfl
theorem Hg:placeOf lU=some .note:=rfl
theorem GY:placeOf lH=some .d:=rfl
theorem Ht:placeOf lZ=some .t:=rfl
theorem G7:placeOf lM=some (.num 0):=rfl
theorem He:placeOf lS=some (.num 1):=rfl
theorem G9:placeOf lQ=some (.num 2):=rfl
theorem GL:placeOf lC=some (.num 3):=rfl
theorem G6:placeOf lK=some (.num 4):=rfl
theorem GU:placeOf lF=some (.num 5):=rfl
theorem Hl:placeOf lV=some (.num 6):=rfl
theorem GX:placeOf lG=some (.num 7):=rfl
theorem Hr:placeOf lY=some (.num 8):=rfl
theorem G5:placeOf lJ=some (.num 9):=rfl
theorem GK:placeOf lu=some (.num 10):=rfl
theorem GZ:placeOf lI=some (.num 11):=rfl
theorem G8:placeOf lN=some (.num 12):=rfl
theorem GN:placeOf lD=some (.num 13):=rfl
theorem Hu:placeOf l7=some (.num 14):=rfl
def fK (b:aB) (k:Nat):Int:=match k with
 | 0=>b.id
 | 1=>b.min
 | 2=>b.max
 | 3=>b.chosen
 | 4=>b.flags
 | 5=>b.cost
 | 6=>b.priority
 | 7=>b.deadline
 | 8=>b.retry
 | 9=>b.epoch
 | 10=>b.base
 | 11=>b.digest
 | 12=>b.lag
 | 13=>b.code
 | _=>b.want
def dF (b:aB):Pl->Bool
 | .rem=>decide (b.remaining=0)
 | .allow=>!b.allowed
 | .name=>decide (b.name=[])
 | .region=>decide (b.region=[])
 | .note=>decide (b.note=[])
 | .d=>decide (b.d=[])
 | .t=>decide (b.t=[])
 | .num k=>decide (fK b k=0)
def nD (b:aB) (n:List UInt8):Bool:=match placeOf n with
 | some p=>dF b p
 | none=>true
def qw (b:aB):Pl->Int
 | .name=>iT b.name 0 256
 | .region=>iT b.region 0 256
 | .note=>iT b.note 0 256
 | .d=>if b.d=[] then 0 else qL b.d
 | .t=>vS b.t
 | _=>0
def tX (b:aB) (n:List UInt8):Int:=match placeOf n with
 | some p=>qw b p
 | none=>0
def zz (x:Int):Int:=if 0<=x then 2 * x else -2 * x - 1
def aV (b:aB):Pl->Int×List UInt8
 | .rem=>(zz b.remaining,[])
 | .allow=>(if b.allowed=true then 1 else 0,[])
 | .name=>(0,b.name)
 | .region=>(0,b.region)
 | .note=>(0,b.note)
 | .d=>(0,if b.d=[] then [] else iF b.d)
 | .t=>(0,if b.t=[] then [] else (yE b.t).1)
 | .num k=>(fK b k,[])
def aY:Pl->Int
 | .num _=>0
 | .rem=>0
 | .allow=>0
 | _=>1
def aop:Pl->Int
 | .num _=>0
 | .allow=>1
 | .rem=>2
 | .d=>4
 | .t=>5
 | _=>3
/-- A cascade over all names. -/
theorem I8 {Q:List UInt8->Prop} (agK:Q lX) (agt:Q lq) (agG:Q lT) (agJ:Q lW) (agH:Q lU) (agy:Q lH) (agM:Q lZ) (agC:Q lM) (agF:Q lS) (agE:Q lQ) (agu:Q lC) (agB:Q lK) (agw:Q lF) (agI:Q lV) (agx:Q lG) (agL:Q lY) (agA:Q lJ) (h_base:Q lu) (agz:Q lI) (agD:Q lN) (agv:Q lD) (agN:Q l7) (h0:∀n,¬ n=lX->¬ n=lq->¬ n=lT->¬ n=lW->¬ n=lU->¬ n=lH->¬ n=lZ->¬ n=lM->¬ n=lS->¬ n=lQ->¬ n=lC->¬ n=lK->¬ n=lF->¬ n=lV->¬ n=lG->¬ n=lY->¬ n=lJ->¬ n=lu->¬ n=lI->¬ n=lN->¬ n=lD->¬ n=l7->Q n) (n:List UInt8):Q n:=by
 by_cases Zk:n=lX
 ·rw [Zk];exact agK
 by_cases Y2:n=lq
 ·rw [Y2];exact agt
 by_cases Zg:n=lT
 ·rw [Zg];exact agG
 by_cases Zj:n=lW
 ·rw [Zj];exact agJ
 by_cases Zh:n=lU
 ·rw [Zh];exact agH
 by_cases Y8:n=lH
 ·rw [Y8];exact agy
 by_cases Zm:n=lZ
 ·rw [Zm];exact agM
 by_cases Zc:n=lM
 ·rw [Zc];exact agC
 by_cases Zf:n=lS
 ·rw [Zf];exact agF
 by_cases Ze:n=lQ
 ·rw [Ze];exact agE
 by_cases Y4:n=lC
 ·rw [Y4];exact agu
 by_cases Zb:n=lK
 ·rw [Zb];exact agB
 by_cases Y6:n=lF
 ·rw [Y6];exact agw
 by_cases Zi:n=lV
 ·rw [Zi];exact agI
 by_cases Y7:n=lG
 ·rw [Y7];exact agx
 by_cases Zl:n=lY
 ·rw [Zl];exact agL
 by_cases Za:n=lJ
 ·rw [Za];exact agA
 by_cases Y3:n=lu
 ·rw [Y3];exact h_base
 by_cases Y9:n=lI
 ·rw [Y9];exact agz
 by_cases Zd:n=lN
 ·rw [Zd];exact agD
 by_cases Y5:n=lD
 ·rw [Y5];exact agv
 by_cases Zn:n=l7
 ·rw [Zn];exact agN
 exact h0 n Zk Y2 Zg Zj Zh Y8 Zm Zc Zf Ze Y4 Zb Y6 Zi Y7 Zl Za Y3 Y9 Zd Y5 Zn
theorem J6 (n:List UInt8) (e0:¬ n=lX) (e1:¬ n=lq) (e2:¬ n=lT) (e3:¬ n=lW) (e4:¬ n=lU) (e5:¬ n=lH) (e6:¬ n=lZ) (e7:¬ n=lM) (e8:¬ n=lS) (e9:¬ n=lQ) (e10:¬ n=lC) (e11:¬ n=lK) (e12:¬ n=lF) (e13:¬ n=lV) (e14:¬ n=lG) (e15:¬ n=lY) (e16:¬ n=lJ) (e17:¬ n=lu) (e18:¬ n=lI) (e19:¬ n=lN) (e20:¬ n=lD) (e21:¬ n=l7):placeOf n=none:=by
 unfold placeOf;rw [ah e0,ah e1,ah e2,ah e3,ah e4,ah e5,ah e6,ah e7,ah e8,ah e9,ah e10,ah e11,ah e12,ah e13,ah e14,ah e15,ah e16,ah e17,ah e18,ah e19,ah e20,ah e21]
def rG (ps:List (List UInt8)):List GV:=ps.map λp=>.g [.s p,.b true]
def yu (ps:List (List UInt8)) (x:List UInt8):List (List UInt8):=if x∈ps then ps else ps++[x]
theorem QV (n:List UInt8):∀ps:List (List UInt8),iD (.s n) (rG ps)=if n∈ps then some (.b true) else none
 | []=>rfl
 | p::ps=>by
   have ih:=QV n ps;simp only [rG,iy,iD,ny] at ih ⊢;by_cases e:n=p
   ·subst e;simp
   ·have e2:¬ p=n:=λh=>e h.symm
    simp [e,ih]
theorem ab3 (x:List UInt8):∀ps:List (List UInt8),jw (.s x) (.b true) (rG ps)=rG (yu ps x)
 | []=>rfl
 | p::ps=>by
   have ih:=ab3 x ps;unfold yu at ih ⊢;simp only [rG,iy,jw,ny] at ih ⊢;by_cases e:x=p
   ·subst e;simp
   ·have e1:(x==p)=false:=by simpa using e
    simp only [e1,fM,if_false];rw [ih];by_cases hm:x∈ps
    ·simp only [hm,if_true,dn,or_true,iy]
    ·simp only [hm,if_false,dn,e,or_false,jM,iy]
def wY (ps:List (List UInt8)) (l:List bP):List (List UInt8):=l.foldl (λps s=>yu ps s.name) ps
theorem aiQ (n x:List UInt8) (ps:List (List UInt8)):n∈yu ps x↔n∈ps\/x=n:=by
 unfold yu;split
 ·next h=>exact ⟨.inl,λe=>e.elim id (λe=>e ▸ h)⟩
 ·simp [eq_comm]
theorem abl (n:List UInt8):∀ (l:List bP) (ps:List (List UInt8)),n∈wY ps l↔n∈ps\/∃s∈l,s.name=n
 | [],ps=>by simp [wY]
 | s::l,ps=>by
   have:=abl n l (yu ps s.name);unfold wY at this ⊢;rw [List.foldl_cons,this,aiQ];simp [or_assoc]
def qN (l:List bP) (n:List UInt8):Bool:=l.any λs=>decide (s.name=n)
theorem aiP (n:List UInt8) (l:List bP):decide (n∈wY [] l)=qN l n:=by
 rw [yP,decide_eq_true_iff,abl];simp [qN]
theorem abe (b:aB) (r:List GV) (l:List bP) (hl:l.length<=1000):∀ (m i:Nat) (ps:List (List UInt8)),i+m=l.length->
 TT.lim 20 [.l (l.map dQ),.i .i64 l.length,.i .i64 i,.l (rG ps),.i .i64 b.kind,.i .u64 b.id,.i .u64 b.min,.i .u64 b.max,.i .u64 b.chosen,.i .u64 b.flags,.i .u64 b.cost,.i .u64 b.priority,.i .u64 b.deadline,.i .u64 b.retry,.i .u64 b.epoch,.i .u64 b.base,.i .u64 b.digest,.i .u64 b.lag,.i .u64 b.code,.i .u64 b.want,.i .i64 b.remaining,.b b.allowed,.s b.name,.s b.region,.s b.note,.l (b.d.map ent),.l (b.t.map row),.l r]=some [.i .i64 0,.l (rG (wY ps (l.drop i)))]
 | 0,i,ps,hi=>by
   have h0:l.drop i=[]:=iZ (by omega);refine aA rfl rfl ?_;have h:¬ ((i:Int) < l.length):=by omega
   simp [h,h0,wY]
 | m+1,i,ps,hi=>by
   have hlt:i < l.length:=by omega
   have ih:=abe b r l hl m (i+1) (yu ps l[i].name) (by omega);have hcast:((i:Int)+1)=((i+1:Nat):Int):=by omega
   rw [<- hcast] at ih;have hp:=ab3 l[i].name ps;have hd:wY ps (l.drop i)=wY (yu ps l[i].name) (l.drop (i+1)):=by
    rw [kS hlt];rfl
   rw [hd];generalize wY (yu ps l[i].name) (l.drop (i+1))=X at *;generalize rG (yu ps l[i].name)=Y at *;refine aA rfl rfl ?_;have h:((i:Int) < l.length):=by omega
   have hw:=wrap64 (n:=(i:Int)+1) (by omega) (by omega);simp [h,hlt,hw,hp,ih]
/-- One round of the second loop. -/
def kE (b:aB) (r:List GV) (n:List UInt8) (c:Prop):Prop:=∀ (sp:GV) (ns:List (List UInt8)) (i:Nat) (ps:List (List UInt8)) (out:List GV) (h:i < ns.length),((i:Int) < ns.length)->IntKind.i64.wrap ((i:Int)+1)=(i:Int)+1->ns[i]=n->iD (.s n) (rG ps)=none->
    TT.lim 22 [sp,.l (ns.map .s),.i .i64 ns.length,.i .i64 ((i:Int)+1),.l (rG ps),.i .i64 b.kind,.i .u64 b.id,.i .u64 b.min,.i .u64 b.max,.i .u64 b.chosen,.i .u64 b.flags,.i .u64 b.cost,.i .u64 b.priority,.i .u64 b.deadline,.i .u64 b.retry,.i .u64 b.epoch,.i .u64 b.base,.i .u64 b.digest,.i .u64 b.lag,.i .u64 b.code,.i .u64 b.want,.i .i64 b.remaining,.b b.allowed,.s b.name,.s b.region,.s b.note,.l (b.d.map ent),.l (b.t.map row),.l r]=some out->
    (c->TT.lim 22 [sp,.l (ns.map .s),.i .i64 ns.length,.i .i64 i,.l (rG ps),.i .i64 b.kind,.i .u64 b.id,.i .u64 b.min,.i .u64 b.max,.i .u64 b.chosen,.i .u64 b.flags,.i .u64 b.cost,.i .u64 b.priority,.i .u64 b.deadline,.i .u64 b.retry,.i .u64 b.epoch,.i .u64 b.base,.i .u64 b.digest,.i .u64 b.lag,.i .u64 b.code,.i .u64 b.want,.i .i64 b.remaining,.b b.allowed,.s b.name,.s b.region,.s b.note,.l (b.d.map ent),.l (b.t.map row),.l r]=some out)/\(¬ c->TT.lim 22 [sp,.l (ns.map .s),.i .i64 ns.length,.i .i64 i,.l (rG ps),.i .i64 b.kind,.i .u64 b.id,.i .u64 b.min,.i .u64 b.max,.i .u64 b.chosen,.i .u64 b.flags,.i .u64 b.cost,.i .u64 b.priority,.i .u64 b.deadline,.i .u64 b.retry,.i .u64 b.epoch,.i .u64 b.base,.i .u64 b.digest,.i .u64 b.lag,.i .u64 b.code,.i .u64 b.want,.i .i64 b.remaining,.b b.allowed,.s b.name,.s b.region,.s b.note,.l (b.d.map ent),.l (b.t.map row),.l r]=some [.i .i64 0])
theorem anb (b:aB) (r:List GV):kE b r lX (b.remaining=0):=by
 intro sp ns i ps out h h1 hw hn ha ih;unfold lX at *;refine ⟨λhc=>aA rfl rfl ?_,λhc=>aA rfl rfl ?_⟩
 ·have hc:=eq_true hc
  simp [h1,h,hn,hw,ha,hc,ih]
 ·simp [h1,h,hn,ha,hc]
theorem amT (b:aB) (r:List GV):kE b r lq (b.allowed=false):=by
 intro sp ns i ps out h h1 hw hn ha ih;unfold lq at *;refine ⟨λhc=>aA rfl rfl ?_,λhc=>aA rfl rfl ?_⟩
 ·rw [hc] at ih
  simp [h1,h,hn,hw,ha,hc,ih]
 ·simp [h1,h,hn,ha,hc]
theorem am7 (b:aB) (r:List GV):kE b r lT (b.name=[]):=by
 intro sp ns i ps out h h1 hw hn ha ih;unfold lT at *;refine ⟨λhc=>aA rfl rfl ?_,λhc=>aA rfl rfl ?_⟩
 ·have hc:=eq_true hc
  simp [h1,h,hn,hw,ha,hc,ih]
 ·simp [h1,h,hn,ha,hc]
theorem ana (b:aB) (r:List GV):kE b r lW (b.region=[]):=by
 intro sp ns i ps out h h1 hw hn ha ih;unfold lW at *;refine ⟨λhc=>aA rfl rfl ?_,λhc=>aA rfl rfl ?_⟩
 ·have hc:=eq_true hc
  simp [h1,h,hn,hw,ha,hc,ih]
 ·simp [h1,h,hn,ha,hc]
theorem am8 (b:aB) (r:List GV):kE b r lU (b.note=[]):=by
 intro sp ns i ps out h h1 hw hn ha ih;unfold lU at *;refine ⟨λhc=>aA rfl rfl ?_,λhc=>aA rfl rfl ?_⟩
 ·have hc:=eq_true hc
  simp [h1,h,hn,hw,ha,hc,ih]
 ·simp [h1,h,hn,ha,hc]
theorem amZ (b:aB) (r:List GV):kE b r lH (b.d=[]):=by
 intro sp ns i ps out h h1 hw hn ha ih;unfold lH at *;refine ⟨λhc=>aA rfl rfl ?_,λhc=>aA rfl rfl ?_⟩
 ·have hc:=eq_true hc
  simp [h1,h,hn,hw,ha,hc,ih]
 ·simp [h1,h,hn,ha,hc]
theorem anf (b:aB) (r:List GV):kE b r lZ (b.t=[]):=by
 intro sp ns i ps out h h1 hw hn ha ih;unfold lZ at *;refine ⟨λhc=>aA rfl rfl ?_,λhc=>aA rfl rfl ?_⟩
 ·have hc:=eq_true hc
  simp [h1,h,hn,hw,ha,hc,ih]
 ·simp [h1,h,hn,ha,hc]
theorem am3 (b:aB) (r:List GV):kE b r lM (b.id=0):=by
 intro sp ns i ps out h h1 hw hn ha ih;unfold lM at *;refine ⟨λhc=>aA rfl rfl ?_,λhc=>aA rfl rfl ?_⟩
 ·have hc:=eq_true hc
  simp [h1,h,hn,hw,ha,hc,ih]
 ·simp [h1,h,hn,ha,hc]
theorem am6 (b:aB) (r:List GV):kE b r lS (b.min=0):=by
 intro sp ns i ps out h h1 hw hn ha ih;unfold lS at *;refine ⟨λhc=>aA rfl rfl ?_,λhc=>aA rfl rfl ?_⟩
 ·have hc:=eq_true hc
  simp [h1,h,hn,hw,ha,hc,ih]
 ·simp [h1,h,hn,ha,hc]
theorem am5 (b:aB) (r:List GV):kE b r lQ (b.max=0):=by
 intro sp ns i ps out h h1 hw hn ha ih;unfold lQ at *;refine ⟨λhc=>aA rfl rfl ?_,λhc=>aA rfl rfl ?_⟩
 ·have hc:=eq_true hc
  simp [h1,h,hn,hw,ha,hc,ih]
 ·simp [h1,h,hn,ha,hc]
theorem amV (b:aB) (r:List GV):kE b r lC (b.chosen=0):=by
 intro sp ns i ps out h h1 hw hn ha ih;unfold lC at *;refine ⟨λhc=>aA rfl rfl ?_,λhc=>aA rfl rfl ?_⟩
 ·have hc:=eq_true hc
  simp [h1,h,hn,hw,ha,hc,ih]
 ·simp [h1,h,hn,ha,hc]
theorem am2 (b:aB) (r:List GV):kE b r lK (b.flags=0):=by
 intro sp ns i ps out h h1 hw hn ha ih;unfold lK at *;refine ⟨λhc=>aA rfl rfl ?_,λhc=>aA rfl rfl ?_⟩
 ·have hc:=eq_true hc
  simp [h1,h,hn,hw,ha,hc,ih]
 ·simp [h1,h,hn,ha,hc]
theorem amX (b:aB) (r:List GV):kE b r lF (b.cost=0):=by
 intro sp ns i ps out h h1 hw hn ha ih;unfold lF at *;refine ⟨λhc=>aA rfl rfl ?_,λhc=>aA rfl rfl ?_⟩
 ·have hc:=eq_true hc
  simp [h1,h,hn,hw,ha,hc,ih]
 ·simp [h1,h,hn,ha,hc]
theorem am9 (b:aB) (r:List GV):kE b r lV (b.priority=0):=by
 intro sp ns i ps out h h1 hw hn ha ih;unfold lV at *;refine ⟨λhc=>aA rfl rfl ?_,λhc=>aA rfl rfl ?_⟩
 ·have hc:=eq_true hc
  simp [h1,h,hn,hw,ha,hc,ih]
 ·simp [h1,h,hn,ha,hc]
theorem amY (b:aB) (r:List GV):kE b r lG (b.deadline=0):=by
 intro sp ns i ps out h h1 hw hn ha ih;unfold lG at *;refine ⟨λhc=>aA rfl rfl ?_,λhc=>aA rfl rfl ?_⟩
 ·have hc:=eq_true hc
  simp [h1,h,hn,hw,ha,hc,ih]
 ·simp [h1,h,hn,ha,hc]
theorem ane (b:aB) (r:List GV):kE b r lY (b.retry=0):=by
 intro sp ns i ps out h h1 hw hn ha ih;unfold lY at *;refine ⟨λhc=>aA rfl rfl ?_,λhc=>aA rfl rfl ?_⟩
 ·have hc:=eq_true hc
  simp [h1,h,hn,hw,ha,hc,ih]
 ·simp [h1,h,hn,ha,hc]
theorem am1 (b:aB) (r:List GV):kE b r lJ (b.epoch=0):=by
 intro sp ns i ps out h h1 hw hn ha ih;unfold lJ at *;refine ⟨λhc=>aA rfl rfl ?_,λhc=>aA rfl rfl ?_⟩
 ·have hc:=eq_true hc
  simp [h1,h,hn,hw,ha,hc,ih]
 ·simp [h1,h,hn,ha,hc]
theorem amU (b:aB) (r:List GV):kE b r lu (b.base=0):=by
 intro sp ns i ps out h h1 hw hn ha ih;unfold lu at *;refine ⟨λhc=>aA rfl rfl ?_,λhc=>aA rfl rfl ?_⟩
 ·have hc:=eq_true hc
  simp [h1,h,hn,hw,ha,hc,ih]
 ·simp [h1,h,hn,ha,hc]
theorem am0 (b:aB) (r:List GV):kE b r lI (b.digest=0):=by
 intro sp ns i ps out h h1 hw hn ha ih;unfold lI at *;refine ⟨λhc=>aA rfl rfl ?_,λhc=>aA rfl rfl ?_⟩
 ·have hc:=eq_true hc
  simp [h1,h,hn,hw,ha,hc,ih]
 ·simp [h1,h,hn,ha,hc]
theorem am4 (b:aB) (r:List GV):kE b r lN (b.lag=0):=by
 intro sp ns i ps out h h1 hw hn ha ih;unfold lN at *;refine ⟨λhc=>aA rfl rfl ?_,λhc=>aA rfl rfl ?_⟩
 ·have hc:=eq_true hc
  simp [h1,h,hn,hw,ha,hc,ih]
 ·simp [h1,h,hn,ha,hc]
theorem amW (b:aB) (r:List GV):kE b r lD (b.code=0):=by
 intro sp ns i ps out h h1 hw hn ha ih;unfold lD at *;refine ⟨λhc=>aA rfl rfl ?_,λhc=>aA rfl rfl ?_⟩
 ·have hc:=eq_true hc
  simp [h1,h,hn,hw,ha,hc,ih]
 ·simp [h1,h,hn,ha,hc]
theorem ang (b:aB) (r:List GV):kE b r l7 (b.want=0):=by
 intro sp ns i ps out h h1 hw hn ha ih;unfold l7 at *;refine ⟨λhc=>aA rfl rfl ?_,λhc=>aA rfl rfl ?_⟩
 ·have hc:=eq_true hc
  simp [h1,h,hn,hw,ha,hc,ih]
 ·simp [h1,h,hn,ha,hc]
theorem aiX:TT.lim 21 []=some [.l (l9.map .s)]:=Hz (Ds:=Ds) (k:=21) (f:=OE) rfl rfl
theorem mg (b:aB) {n:List UInt8} {p:Pl} (h:placeOf n=some p):nD b n=dF b p:=by unfold nD;rw [h]
def jV (b:aB) (r:List GV) (n:List UInt8):Prop:=∃c:Prop,(nD b n=true↔c)/\kE b r n c
theorem amD (b:aB) (r:List GV):jV b r lX:=⟨_,by rw [mg b Hq];simp [dF,fK],anb b r⟩
theorem amj (b:aB) (r:List GV):jV b r lq:=⟨_,by rw [mg b GI];simp [dF,fK],amT b r⟩
theorem amz (b:aB) (r:List GV):jV b r lT:=⟨_,by rw [mg b Hf];simp [dF,fK],am7 b r⟩
theorem amC (b:aB) (r:List GV):jV b r lW:=⟨_,by rw [mg b Ho];simp [dF,fK],ana b r⟩
theorem amA (b:aB) (r:List GV):jV b r lU:=⟨_,by rw [mg b Hg];simp [dF,fK],am8 b r⟩
theorem amq (b:aB) (r:List GV):jV b r lH:=⟨_,by rw [mg b GY];simp [dF,fK],amZ b r⟩
theorem amF (b:aB) (r:List GV):jV b r lZ:=⟨_,by rw [mg b Ht];simp [dF,fK],anf b r⟩
theorem amv (b:aB) (r:List GV):jV b r lM:=⟨_,by rw [mg b G7];simp [dF,fK],am3 b r⟩
theorem amy (b:aB) (r:List GV):jV b r lS:=⟨_,by rw [mg b He];simp [dF,fK],am6 b r⟩
theorem amx (b:aB) (r:List GV):jV b r lQ:=⟨_,by rw [mg b G9];simp [dF,fK],am5 b r⟩
theorem aml (b:aB) (r:List GV):jV b r lC:=⟨_,by rw [mg b GL];simp [dF,fK],amV b r⟩
theorem amu (b:aB) (r:List GV):jV b r lK:=⟨_,by rw [mg b G6];simp [dF,fK],am2 b r⟩
theorem amn (b:aB) (r:List GV):jV b r lF:=⟨_,by rw [mg b GU];simp [dF,fK],amX b r⟩
theorem amB (b:aB) (r:List GV):jV b r lV:=⟨_,by rw [mg b Hl];simp [dF,fK],am9 b r⟩
theorem amo (b:aB) (r:List GV):jV b r lG:=⟨_,by rw [mg b GX];simp [dF,fK],amY b r⟩
theorem amE (b:aB) (r:List GV):jV b r lY:=⟨_,by rw [mg b Hr];simp [dF,fK],ane b r⟩
theorem ams (b:aB) (r:List GV):jV b r lJ:=⟨_,by rw [mg b G5];simp [dF,fK],am1 b r⟩
theorem amk (b:aB) (r:List GV):jV b r lu:=⟨_,by rw [mg b GK];simp [dF,fK],amU b r⟩
theorem amr (b:aB) (r:List GV):jV b r lI:=⟨_,by rw [mg b GZ];simp [dF,fK],am0 b r⟩
theorem amw (b:aB) (r:List GV):jV b r lN:=⟨_,by rw [mg b G8];simp [dF,fK],am4 b r⟩
theorem amm (b:aB) (r:List GV):jV b r lD:=⟨_,by rw [mg b GN];simp [dF,fK],amW b r⟩
theorem amG (b:aB) (r:List GV):jV b r l7:=⟨_,by rw [mg b Hu];simp [dF,fK],ang b r⟩
theorem anH (b:aB) (r:List GV) (n:List UInt8):placeOf n≠none->jV b r n:=by
 refine I8 (Q:=λn=>placeOf n≠none->jV b r n) (λ_=>amD b r) (λ_=>amj b r) (λ_=>amz b r) (λ_=>amC b r) (λ_=>amA b r) (λ_=>amq b r) (λ_=>amF b r) (λ_=>amv b r) (λ_=>amy b r) (λ_=>amx b r) (λ_=>aml b r) (λ_=>amu b r) (λ_=>amn b r) (λ_=>amB b r) (λ_=>amo b r) (λ_=>amE b r) (λ_=>ams b r) (λ_=>amk b r) (λ_=>amr b r) (λ_=>amw b r) (λ_=>amm b r) (λ_=>amG b r) (λn e0 e1 e2 e3 e4 e5 e6 e7 e8 e9 e10 e11 e12 e13 e14 e15 e16 e17 e18 e19 e20 e21 h=>absurd (J6 n e0 e1 e2 e3 e4 e5 e6 e7 e8 e9 e10 e11 e12 e13 e14 e15 e16 e17 e18 e19 e20 e21) h) n
theorem abf (b:aB) (r:List GV) (sp:GV) (ns:List (List UInt8)) (hlen:ns.length<=1000) (hns:∀n∈ns,placeOf n≠none) (ps:List (List UInt8)):∀ (m i:Nat),i+m=ns.length->
 TT.lim 22 [sp,.l (ns.map .s),.i .i64 ns.length,.i .i64 i,.l (rG ps),.i .i64 b.kind,.i .u64 b.id,.i .u64 b.min,.i .u64 b.max,.i .u64 b.chosen,.i .u64 b.flags,.i .u64 b.cost,.i .u64 b.priority,.i .u64 b.deadline,.i .u64 b.retry,.i .u64 b.epoch,.i .u64 b.base,.i .u64 b.digest,.i .u64 b.lag,.i .u64 b.code,.i .u64 b.want,.i .i64 b.remaining,.b b.allowed,.s b.name,.s b.region,.s b.note,.l (b.d.map ent),.l (b.t.map row),.l r]=some (if (ns.drop i).all (λn=>decide (n∈ps) || nD b n)=true then [.i .i64 1] else [.i .i64 0])
 | 0,i,hi=>by
   have h0:ns.drop i=[]:=iZ (by omega);refine aA rfl rfl ?_;have h:¬ ((i:Int) < ns.length):=by omega
   simp [h,h0]
 | m+1,i,hi=>by
   have hlt:i < ns.length:=by omega
   have ih:=abf b r sp ns hlen hns ps m (i+1) (by omega);have hcast:((i:Int)+1)=((i+1:Nat):Int):=by omega
   rw [<- hcast] at ih;have hd:(ns.drop i).all (λn=>decide (n∈ps) || nD b n)=((decide (ns[i]∈ps) || nD b ns[i])&&(ns.drop (i+1)).all (λn=>decide (n∈ps) || nD b n)):=by rw [kS hlt,uw]
   rw [hd];generalize (ns.drop (i+1)).all (λn=>decide (n∈ps) || nD b n)=X at *;by_cases hps:ns[i]∈ps
   ·have ha:=QV ns[i] ps
    rw [ak hps] at ha;have h1:((i:Int) < ns.length):=by omega
    have hw:=wrap64 (n:=(i:Int)+1) (by omega) (by omega);rw [Rq hps,Bool.true_or,Bool.true_and];refine aA rfl rfl ?_;simp [h1,hlt,hw,ha,ih]
   ·have ha:=QV ns[i] ps
    rw [ah hps] at ha;obtain ⟨c,c1,c2⟩:=anH b r ns[i] (hns _ (jE hlt));obtain ⟨c3,c4⟩:=c2 sp ns i ps _ hlt (by omega) (wrap64 (n:=(i:Int)+1) (by omega) (by omega)) rfl ha ih;rw [MV hps,wE];cases hb:nD b ns[i] with
    | true=>rw [c3 (c1.1 hb),Bool.true_and]
    | false=>rw [c4 (λh=>by rw [c1.2 h] at hb;cases hb),Bool.false_and];rfl
def fA (b:aB) (r:List GV) (k:Nat) (out:List GV):Prop:=TT.lim k [.i .i64 b.kind,.i .u64 b.id,.i .u64 b.min,.i .u64 b.max,.i .u64 b.chosen,.i .u64 b.flags,.i .u64 b.cost,.i .u64 b.priority,.i .u64 b.deadline,.i .u64 b.retry,.i .u64 b.epoch,.i .u64 b.base,.i .u64 b.digest,.i .u64 b.lag,.i .u64 b.code,.i .u64 b.want,.i .i64 b.remaining,.b b.allowed,.s b.name,.s b.region,.s b.note,.l (b.d.map ent),.l (b.t.map row),.l r]=some out
theorem lg (b:aB) {n:List UInt8} {p:Pl} (h:placeOf n=some p):tX b n=qw b p:=by unfold tX;rw [h]
theorem aiK (b:aB) (r:List GV):fA b r 24 [.i .i64 0]:=by
 refine aA rfl rfl ?_;simp
theorem ais (b:aB) (r:List GV):fA b r 25 [.i .i64 0]:=by
 refine aA rfl rfl ?_;simp
theorem aiG (b:aB) (r:List GV) (hb:oq b):fA b r 26 [.i .i64 0,.i .i64 (iT b.name 0 256)]:=by
 have h:=AO b.name 0 256 hb.name;refine aA rfl rfl ?_;simp [h]
theorem aiJ (b:aB) (r:List GV) (hb:oq b):fA b r 30 [.i .i64 0,.i .i64 (iT b.region 0 256)]:=by
 have h:=AO b.region 0 256 hb.region;refine aA rfl rfl ?_;simp [h]
theorem aiH (b:aB) (r:List GV) (hb:oq b):fA b r 31 [.i .i64 0,.i .i64 (iT b.note 0 256)]:=by
 have h:=AO b.note 0 256 hb.note;refine aA rfl rfl ?_;simp [h]
theorem aiy (b:aB) (r:List GV) (hb:oq b):fA b r 32 [.i .i64 0,.i .i64 (if b.d=[] then 0 else qL b.d)]:=by
 have h:=Yn b.d hb.d;refine aA rfl rfl ?_;by_cases e:b.d=[]
 ·simp [e]
 ·have e2:¬ (List.map ent b.d)=[]:=by simpa using e
  have e3:0 < b.d.length:=KY.2 e;simp [e,h]
theorem aiM (b:aB) (r:List GV) (hb:oq b) (hf:∀r∈b.t,iV r.1=true):fA b r 36 [.i .i64 0,.i .i64 (vS b.t)]:=by
 have h:=Yo b.t hb.t hf;refine aA rfl rfl ?_;simp [h]
theorem aiC (b:aB) (r:List GV):fA b r 47 [.i .i64 0]:=by
 refine aA rfl rfl ?_;simp
theorem aiF (b:aB) (r:List GV):fA b r 48 [.i .i64 0]:=by
 refine aA rfl rfl ?_;simp
theorem aiE (b:aB) (r:List GV):fA b r 49 [.i .i64 0]:=by
 refine aA rfl rfl ?_;simp
theorem aiu (b:aB) (r:List GV):fA b r 50 [.i .i64 0]:=by
 refine aA rfl rfl ?_;simp
theorem aiB (b:aB) (r:List GV):fA b r 51 [.i .i64 0]:=by
 refine aA rfl rfl ?_;simp
theorem aiw (b:aB) (r:List GV):fA b r 52 [.i .i64 0]:=by
 refine aA rfl rfl ?_;simp
theorem aiI (b:aB) (r:List GV):fA b r 53 [.i .i64 0]:=by
 refine aA rfl rfl ?_;simp
theorem aix (b:aB) (r:List GV):fA b r 54 [.i .i64 0]:=by
 refine aA rfl rfl ?_;simp
theorem aiL (b:aB) (r:List GV):fA b r 55 [.i .i64 0]:=by
 refine aA rfl rfl ?_;simp
theorem aiA (b:aB) (r:List GV):fA b r 56 [.i .i64 0]:=by
 refine aA rfl rfl ?_;simp
theorem ait (b:aB) (r:List GV):fA b r 57 [.i .i64 0]:=by
 refine aA rfl rfl ?_;simp
theorem aiz (b:aB) (r:List GV):fA b r 58 [.i .i64 0]:=by
 refine aA rfl rfl ?_;simp
theorem aiD (b:aB) (r:List GV):fA b r 59 [.i .i64 0]:=by
 refine aA rfl rfl ?_;simp
theorem aiv (b:aB) (r:List GV):fA b r 60 [.i .i64 0]:=by
 refine aA rfl rfl ?_;simp
theorem aiN (b:aB) (r:List GV):fA b r 61 [.i .i64 0]:=by
 refine aA rfl rfl ?_;simp
/-- One round of the third loop. -/
def jW (b:aB) (r:List GV) (n:List UInt8) (c:Int):Prop:=∀ (l:List bP) (i:Nat) (out:List GV) (h:i < l.length),((i:Int) < l.length)->IntKind.i64.wrap ((i:Int)+1)=(i:Int)+1->l[i].name=n->
    TT.lim 23 [.l (l.map dQ),.i .i64 l.length,.i .i64 ((i:Int)+1),.i .i64 b.kind,.i .u64 b.id,.i .u64 b.min,.i .u64 b.max,.i .u64 b.chosen,.i .u64 b.flags,.i .u64 b.cost,.i .u64 b.priority,.i .u64 b.deadline,.i .u64 b.retry,.i .u64 b.epoch,.i .u64 b.base,.i .u64 b.digest,.i .u64 b.lag,.i .u64 b.code,.i .u64 b.want,.i .i64 b.remaining,.b b.allowed,.s b.name,.s b.region,.s b.note,.l (b.d.map ent),.l (b.t.map row),.l r]=some out->
    TT.lim 23 [.l (l.map dQ),.i .i64 l.length,.i .i64 i,.i .i64 b.kind,.i .u64 b.id,.i .u64 b.min,.i .u64 b.max,.i .u64 b.chosen,.i .u64 b.flags,.i .u64 b.cost,.i .u64 b.priority,.i .u64 b.deadline,.i .u64 b.retry,.i .u64 b.epoch,.i .u64 b.base,.i .u64 b.digest,.i .u64 b.lag,.i .u64 b.code,.i .u64 b.want,.i .i64 b.remaining,.b b.allowed,.s b.name,.s b.region,.s b.note,.l (b.d.map ent),.l (b.t.map row),.l r]=some (if c=0 then out else [.i .i64 0,.i .i64 c])
theorem anC (b:aB) (r:List GV):jW b r lX 0:=by
 intro l i out h h1 hw hn ih;have hm:=aiK b r;unfold fA at hm;unfold lX at *;rw [ak rfl];refine aA rfl rfl ?_;simp [h1,h,hn,hw,hm,ih]
theorem anh (b:aB) (r:List GV):jW b r lq 0:=by
 intro l i out h h1 hw hn ih;have hm:=ais b r;unfold fA at hm;unfold lq at *;rw [ak rfl];refine aA rfl rfl ?_;simp [h1,h,hn,hw,hm,ih]
theorem anx (b:aB) (r:List GV) (hb:oq b):jW b r lT (iT b.name 0 256):=by
 intro l i out h h1 hw hn ih;have hm:=aiG b r hb;unfold fA at hm;unfold lT at *;generalize (iT b.name 0 256)=c at *;by_cases hc:c=0
 ·subst hc
  rw [ak rfl];refine aA rfl rfl ?_;simp [h1,h,hn,hw,hm,ih]
 ·rw [ah hc]
  refine aA rfl rfl ?_;simp [h1,h,hn,hw,hm,hc]
theorem anB (b:aB) (r:List GV) (hb:oq b):jW b r lW (iT b.region 0 256):=by
 intro l i out h h1 hw hn ih;have hm:=aiJ b r hb;unfold fA at hm;unfold lW at *;generalize (iT b.region 0 256)=c at *;by_cases hc:c=0
 ·subst hc
  rw [ak rfl];refine aA rfl rfl ?_;simp [h1,h,hn,hw,hm,ih]
 ·rw [ah hc]
  refine aA rfl rfl ?_;simp [h1,h,hn,hw,hm,hc]
theorem anz (b:aB) (r:List GV) (hb:oq b):jW b r lU (iT b.note 0 256):=by
 intro l i out h h1 hw hn ih;have hm:=aiH b r hb;unfold fA at hm;unfold lU at *;generalize (iT b.note 0 256)=c at *;by_cases hc:c=0
 ·subst hc
  rw [ak rfl];refine aA rfl rfl ?_;simp [h1,h,hn,hw,hm,ih]
 ·rw [ah hc]
  refine aA rfl rfl ?_;simp [h1,h,hn,hw,hm,hc]
theorem ano (b:aB) (r:List GV) (hb:oq b):jW b r lH (if b.d=[] then 0 else qL b.d):=by
 intro l i out h h1 hw hn ih;have hm:=aiy b r hb;unfold fA at hm;unfold lH at *;generalize (if b.d=[] then 0 else qL b.d)=c at *;by_cases hc:c=0
 ·subst hc
  rw [ak rfl];refine aA rfl rfl ?_;simp [h1,h,hn,hw,hm,ih]
 ·rw [ah hc]
  refine aA rfl rfl ?_;simp [h1,h,hn,hw,hm,hc]
theorem anE (b:aB) (r:List GV) (hb:oq b) (hf:∀r∈b.t,iV r.1=true):jW b r lZ (vS b.t):=by
 intro l i out h h1 hw hn ih;have hm:=aiM b r hb hf;unfold fA at hm;unfold lZ at *;generalize (vS b.t)=c at *;by_cases hc:c=0
 ·subst hc
  rw [ak rfl];refine aA rfl rfl ?_;simp [h1,h,hn,hw,hm,ih]
 ·rw [ah hc]
  refine aA rfl rfl ?_;simp [h1,h,hn,hw,hm,hc]
theorem ant (b:aB) (r:List GV):jW b r lM 0:=by
 intro l i out h h1 hw hn ih;have hm:=aiC b r;unfold fA at hm;unfold lM at *;rw [ak rfl];refine aA rfl rfl ?_;simp [h1,h,hn,hw,hm,ih]
theorem anw (b:aB) (r:List GV):jW b r lS 0:=by
 intro l i out h h1 hw hn ih;have hm:=aiF b r;unfold fA at hm;unfold lS at *;rw [ak rfl];refine aA rfl rfl ?_;simp [h1,h,hn,hw,hm,ih]
theorem anv (b:aB) (r:List GV):jW b r lQ 0:=by
 intro l i out h h1 hw hn ih;have hm:=aiE b r;unfold fA at hm;unfold lQ at *;rw [ak rfl];refine aA rfl rfl ?_;simp [h1,h,hn,hw,hm,ih]
theorem anj (b:aB) (r:List GV):jW b r lC 0:=by
 intro l i out h h1 hw hn ih;have hm:=aiu b r;unfold fA at hm;unfold lC at *;rw [ak rfl];refine aA rfl rfl ?_;simp [h1,h,hn,hw,hm,ih]
theorem anr (b:aB) (r:List GV):jW b r lK 0:=by
 intro l i out h h1 hw hn ih;have hm:=aiB b r;unfold fA at hm;unfold lK at *;rw [ak rfl];refine aA rfl rfl ?_;simp [h1,h,hn,hw,hm,ih]
theorem anl (b:aB) (r:List GV):jW b r lF 0:=by
 intro l i out h h1 hw hn ih;have hm:=aiw b r;unfold fA at hm;unfold lF at *;rw [ak rfl];refine aA rfl rfl ?_;simp [h1,h,hn,hw,hm,ih]
theorem anA (b:aB) (r:List GV):jW b r lV 0:=by
 intro l i out h h1 hw hn ih;have hm:=aiI b r;unfold fA at hm;unfold lV at *;rw [ak rfl];refine aA rfl rfl ?_;simp [h1,h,hn,hw,hm,ih]
theorem anm (b:aB) (r:List GV):jW b r lG 0:=by
 intro l i out h h1 hw hn ih;have hm:=aix b r;unfold fA at hm;unfold lG at *;rw [ak rfl];refine aA rfl rfl ?_;simp [h1,h,hn,hw,hm,ih]
theorem anD (b:aB) (r:List GV):jW b r lY 0:=by
 intro l i out h h1 hw hn ih;have hm:=aiL b r;unfold fA at hm;unfold lY at *;rw [ak rfl];refine aA rfl rfl ?_;simp [h1,h,hn,hw,hm,ih]
theorem anq (b:aB) (r:List GV):jW b r lJ 0:=by
 intro l i out h h1 hw hn ih;have hm:=aiA b r;unfold fA at hm;unfold lJ at *;rw [ak rfl];refine aA rfl rfl ?_;simp [h1,h,hn,hw,hm,ih]
theorem ani (b:aB) (r:List GV):jW b r lu 0:=by
 intro l i out h h1 hw hn ih;have hm:=ait b r;unfold fA at hm;unfold lu at *;rw [ak rfl];refine aA rfl rfl ?_;simp [h1,h,hn,hw,hm,ih]
theorem anp (b:aB) (r:List GV):jW b r lI 0:=by
 intro l i out h h1 hw hn ih;have hm:=aiz b r;unfold fA at hm;unfold lI at *;rw [ak rfl];refine aA rfl rfl ?_;simp [h1,h,hn,hw,hm,ih]
theorem anu (b:aB) (r:List GV):jW b r lN 0:=by
 intro l i out h h1 hw hn ih;have hm:=aiD b r;unfold fA at hm;unfold lN at *;rw [ak rfl];refine aA rfl rfl ?_;simp [h1,h,hn,hw,hm,ih]
theorem ank (b:aB) (r:List GV):jW b r lD 0:=by
 intro l i out h h1 hw hn ih;have hm:=aiv b r;unfold fA at hm;unfold lD at *;rw [ak rfl];refine aA rfl rfl ?_;simp [h1,h,hn,hw,hm,ih]
theorem anF (b:aB) (r:List GV):jW b r l7 0:=by
 intro l i out h h1 hw hn ih;have hm:=aiN b r;unfold fA at hm;unfold l7 at *;rw [ak rfl];refine aA rfl rfl ?_;simp [h1,h,hn,hw,hm,ih]
theorem anI (b:aB) (r:List GV) (hb:oq b) (hf:∀r∈b.t,iV r.1=true) (n:List UInt8):placeOf n≠none->jW b r n (tX b n):=by
 refine I8 (Q:=λn=>placeOf n≠none->jW b r n (tX b n)) (λ_=>by rw [lg b Hq];exact anC b r ) (λ_=>by rw [lg b GI];exact anh b r ) (λ_=>by rw [lg b Hf];exact anx b r hb) (λ_=>by rw [lg b Ho];exact anB b r hb) (λ_=>by rw [lg b Hg];exact anz b r hb) (λ_=>by rw [lg b GY];exact ano b r hb) (λ_=>by rw [lg b Ht];exact anE b r hb hf) (λ_=>by rw [lg b G7];exact ant b r ) (λ_=>by rw [lg b He];exact anw b r ) (λ_=>by rw [lg b G9];exact anv b r ) (λ_=>by rw [lg b GL];exact anj b r ) (λ_=>by rw [lg b G6];exact anr b r ) (λ_=>by rw [lg b GU];exact anl b r ) (λ_=>by rw [lg b Hl];exact anA b r ) (λ_=>by rw [lg b GX];exact anm b r ) (λ_=>by rw [lg b Hr];exact anD b r ) (λ_=>by rw [lg b G5];exact anq b r ) (λ_=>by rw [lg b GK];exact ani b r ) (λ_=>by rw [lg b GZ];exact anp b r ) (λ_=>by rw [lg b G8];exact anu b r ) (λ_=>by rw [lg b GN];exact ank b r ) (λ_=>by rw [lg b Hu];exact anF b r ) (λn e0 e1 e2 e3 e4 e5 e6 e7 e8 e9 e10 e11 e12 e13 e14 e15 e16 e17 e18 e19 e20 e21 h=>absurd (J6 n e0 e1 e2 e3 e4 e5 e6 e7 e8 e9 e10 e11 e12 e13 e14 e15 e16 e17 e18 e19 e20 e21) h) n
/-- The first thing that is wrong with the values of names. -/
def kZ (b:aB):List bP->Int
 | []=>0
 | s::l=>if tX b s.name=0 then kZ b l else tX b s.name
theorem abg (b:aB) (r:List GV) (hb:oq b) (hf:∀r∈b.t,iV r.1=true) (l:List bP) (hlen:l.length<=1000) (hns:∀s∈l,placeOf s.name≠none):∀ (m i:Nat),i+m=l.length->
 TT.lim 23 [.l (l.map dQ),.i .i64 l.length,.i .i64 i,.i .i64 b.kind,.i .u64 b.id,.i .u64 b.min,.i .u64 b.max,.i .u64 b.chosen,.i .u64 b.flags,.i .u64 b.cost,.i .u64 b.priority,.i .u64 b.deadline,.i .u64 b.retry,.i .u64 b.epoch,.i .u64 b.base,.i .u64 b.digest,.i .u64 b.lag,.i .u64 b.code,.i .u64 b.want,.i .i64 b.remaining,.b b.allowed,.s b.name,.s b.region,.s b.note,.l (b.d.map ent),.l (b.t.map row),.l r]=some (if kZ b (l.drop i)=0 then [.i .i64 1] else [.i .i64 0,.i .i64 (kZ b (l.drop i))])
 | 0,i,hi=>by
   have h0:l.drop i=[]:=iZ (by omega);refine aA rfl rfl ?_;have h:¬ ((i:Int) < l.length):=by omega
   simp [h,h0,kZ]
 | m+1,i,hi=>by
   have hlt:i < l.length:=by omega
   have ih:=abg b r hb hf l hlen hns m (i+1) (by omega);have hcast:((i:Int)+1)=((i+1:Nat):Int):=by omega
   rw [<- hcast] at ih;have:=anI b r hb hf l[i].name (hns _ (jE hlt)) l i _ hlt (by omega) (wrap64 (n:=(i:Int)+1) (by omega) (by omega)) rfl ih;rw [this,kS hlt];by_cases hc:tX b l[i].name=0
   ·have hm:kZ b (l[i]::l.drop (i+1))=kZ b (l.drop (i+1)):=by simp only [kZ,hc,if_true]
    rw [ak hc,hm]
   ·have hm:kZ b (l[i]::l.drop (i+1))=tX b l[i].name:=by simp only [kZ,hc,if_false]
    rw [ah hc,hm,ah hc]
def hasTag (l:List bP) (t:Int):Bool:=l.any λs=>decide (t=s.tag)
theorem abj (l:List bP) (hlen:l.length<=1000) (a1 a2 a3:GV) (t:Int) (a7 a8 a9 a10:GV):∀ (m i:Nat),i+m=l.length->
 TT.lim 67 [.l (l.map dQ),a1,a2,a3,.i .i64 l.length,.i .i64 i,.i .u64 t,a7,a8,a9,a10]=some (if hasTag (l.drop i) t=true then [.i .i64 0] else [.i .i64 1])
 | 0,i,hi=>by
   have h0:l.drop i=[]:=iZ (by omega);refine aA rfl rfl ?_;have h:¬ ((i:Int) < l.length):=by omega
   simp [h,h0,hasTag]
 | m+1,i,hi=>by
   have hlt:i < l.length:=by omega
   have ih:=abj l hlen a1 a2 a3 t a7 a8 a9 a10 m (i+1) (by omega);have hcast:((i:Int)+1)=((i+1:Nat):Int):=by omega
   rw [<- hcast] at ih;have h1:((i:Int) < l.length):=by omega
   have hw:=wrap64 (n:=(i:Int)+1) (by omega) (by omega);have hd:hasTag (l.drop i) t=(decide (t=l[i].tag) || hasTag (l.drop (i+1)) t):=by rw [kS hlt];rfl
   rw [hd];generalize hasTag (l.drop (i+1)) t=X at *;refine aA rfl rfl ?_;by_cases hc:t=l[i].tag
   ·simp [h1,hlt,hc]
   ·simp [h1,hlt,hc,hw,ih]
theorem abh (l:List bP) (hlen:l.length<=1000) (fl:List aH) (hfl:fl.length<=1000000):∀ (m i:Nat),i+m=fl.length->
 TT.lim 66 [.l (l.map dQ),.l (aF fl),.i .i64 fl.length,.i .i64 i]=some (if (fl.drop i).any (λf=>hasTag l f.tag)=true then [.i .i64 0] else [.i .i64 1])
 | 0,i,hi=>by
   have h0:fl.drop i=[]:=iZ (by omega);refine aA rfl rfl ?_;have h:¬ ((i:Int) < fl.length):=by omega
   simp [h,h0]
 | m+1,i,hi=>by
   have hlt:i < fl.length:=by omega
   have ih:=abh l hlen fl hfl m (i+1) (by omega);have hcast:((i:Int)+1)=((i+1:Nat):Int):=by omega
   rw [<- hcast] at ih;have h1:((i:Int) < fl.length):=by omega
   have hw:=wrap64 (n:=(i:Int)+1) (by omega) (by omega);have hd:(fl.drop i).any (λf=>hasTag l f.tag)=(hasTag l fl[i].tag || (fl.drop (i+1)).any (λf=>hasTag l f.tag)):=by rw [kS hlt,List.any_cons]
   rw [hd];have hget:(aF fl)[i]? = some (kW fl[i]):=by rw [yt,iQ,bK hlt];rfl
   clear hd;obtain ⟨t,y,n,s,k,hfi⟩:∃t y n s k,fl[i]=aH.mk t y n s k:=by
    cases fl[i] with
    | mk t y n s k=>exact ⟨_,_,_,_,_,rfl⟩
   rw [hfi] at hget ⊢;rw [show (aH.mk t y n s k).tag=t from rfl];have h3:TT.lim 67 [.l (l.map dQ),.l (aF fl),.i .i64 fl.length,.i .i64 i,.i .i64 l.length,.i .i64 0,.i .u64 t,.i .i64 y,.i .u64 n,.s s,.l (aF k)]=_:=abj l hlen _ _ _ t _ _ _ _ l.length 0 (by omega);rw [fH] at h3;refine aA rfl rfl ?_;by_cases hc:hasTag l t=true
   ·rw [ak hc] at h3
    simp [-List.any_eq_true,h1,hget,h3,hc]
   ·rw [ah hc] at h3
    have hc:hasTag l t=false:=by simpa using hc
    simp [-List.any_eq_true,h1,hget,h3,hw,ih,hc]
def uK (b:aB):Int:=
 if b.kind=1 then (if b.min < 1 then 18 else if b.max < b.min then 18 else if 255 < b.max then 18 else 0)
 else if b.kind=2 then (if b.chosen < 1 then 18 else if 255 < b.chosen then 18 else 0)
 else if b.kind=3 then (if b.d=[] then 12 else 0)
 else if b.kind=5 then (if b.epoch < 1 then 18 else 0)
 else if b.kind=6 then (if b.base < 1 then 18 else if b.epoch<=b.base then 20 else 0)
 else 0
/-- What is said of a message at a version. -/
def Eb (sp:List bP) (fl:List aH):Int:=if gK 0 0 fl≠0 then gK 0 0 fl else if fl.any (λf=>hasTag sp f.tag)=true then 14 else 0
def gJ (b:aB) (fl:List aH) (v:Int):Int:=
 if v < 1 then 16 else if 3 < v then 16 else
 if aN b.kind v=[] then 15 else
 if l9.all (λn=>qN (aN b.kind v) n || nD b n)=false then 26 else
 if kZ b (aN b.kind v)≠0 then kZ b (aN b.kind v) else
 if uK b≠0 then uK b else Eb (aN b.kind v) fl
theorem abr:∀n∈l9,placeOf n≠none:=by decide
theorem aaI (k v:Int):∀s∈aN k v,placeOf s.name≠none:=by
 have key:∀s∈nI k,placeOf s.name≠none:=by
  unfold nI;repeat' split
  all_goals first | (unfold sp1;decide) | (unfold sp2;decide) | (unfold qW;decide) | (unfold zV;decide) | (unfold qX;decide) | (unfold qY;decide) | (unfold qZ;decide) | (unfold zW;decide) | (intro s hs;cases hs)
 intro s hs;exact key s (uz.1 hs).1
theorem Bo (k v:Int):(aN k v).length<=8:=jF (Xh _ _) (amM k)
set_option maxHeartbeats 4000000 in
theorem abd (b:aB) (fl:List aH) (v:Int) (hb:oq b) (hf:∀r∈b.t,iV r.1=true) (hok:dS fl) (hlen:fl.length<=1000000):TT.lim 8 [jf b (aF fl),.i .i64 v]=some [.i .i64 (gJ b fl v)]:=by
 have hk:=TF b.kind;refine bF rfl rfl ?_ rfl;unfold gJ;by_cases v1:v < 1
 ·simp [v1]
 by_cases v3:3 < v
 ·simp [v1,v3]
 rw [ah v1,ah v3];have hnil:=Oj b.kind v (by omega) (by omega);by_cases k0:jH b.kind=0
 ·rw [ak (hnil.2 (.inl k0))]
  rw [k0] at hk;simp [v1,v3,hk]
 by_cases k1:v < jH b.kind
 ·rw [ak (hnil.2 (.inr k1))]
  simp [v1,v3,hk,k0,k1]
 rw [ah (λe=>(hnil.1 e).elim k0 k1)];have hkn:=Og b.kind v (by omega) (by omega) (by omega);have hpl:=aaI b.kind v;have hl8:=Bo b.kind v;clear hnil;generalize aN b.kind v=sp at *;have hnm:=aiX;have h0:=abe b (aF fl) sp (by omega) sp.length 0 [] (by omega);have h1:=abf b (aF fl) (.l (sp.map dQ)) l9 (by decide) abr (wY [] sp) l9.length 0 (by omega);have h2:=abg b (aF fl) hb hf sp (by omega) hpl sp.length 0 (by omega);have h3:=abh sp (by omega) fl hlen fl.length 0 (by omega);have h4:=Nu fl hok hlen;rw [fH] at h0 h1 h2 h3;simp only [aiP] at h1;have hnl:(l9.map GV.s).length=l9.length:=BX _;have hfl:=pI fl;rw [<- hfl] at h3;generalize hX:wY [] sp=ps at *;have h0':TT.lim 20 [.l (sp.map dQ),.i .i64 sp.length,.i .i64 0,.l [],.i .i64 b.kind,.i .u64 b.id,.i .u64 b.min,.i .u64 b.max,.i .u64 b.chosen,.i .u64 b.flags,.i .u64 b.cost,.i .u64 b.priority,.i .u64 b.deadline,.i .u64 b.retry,.i .u64 b.epoch,.i .u64 b.base,.i .u64 b.digest,.i .u64 b.lag,.i .u64 b.code,.i .u64 b.want,.i .i64 b.remaining,.b b.allowed,.s b.name,.s b.region,.s b.note,.l (b.d.map ent),.l (b.t.map row),.l (aF fl)]=some [.i .i64 0,.l (rG ps)]:=h0;clear h0;have h1':TT.lim 22 [.l (sp.map dQ),.l (l9.map .s),.i .i64 l9.length,.i .i64 0,.l (rG ps),.i .i64 b.kind,.i .u64 b.id,.i .u64 b.min,.i .u64 b.max,.i .u64 b.chosen,.i .u64 b.flags,.i .u64 b.cost,.i .u64 b.priority,.i .u64 b.deadline,.i .u64 b.retry,.i .u64 b.epoch,.i .u64 b.base,.i .u64 b.digest,.i .u64 b.lag,.i .u64 b.code,.i .u64 b.want,.i .i64 b.remaining,.b b.allowed,.s b.name,.s b.region,.s b.note,.l (b.d.map ent),.l (b.t.map row),.l (aF fl)]=_:=h1;clear h1;have h2':TT.lim 23 [.l (sp.map dQ),.i .i64 sp.length,.i .i64 0,.i .i64 b.kind,.i .u64 b.id,.i .u64 b.min,.i .u64 b.max,.i .u64 b.chosen,.i .u64 b.flags,.i .u64 b.cost,.i .u64 b.priority,.i .u64 b.deadline,.i .u64 b.retry,.i .u64 b.epoch,.i .u64 b.base,.i .u64 b.digest,.i .u64 b.lag,.i .u64 b.code,.i .u64 b.want,.i .i64 b.remaining,.b b.allowed,.s b.name,.s b.region,.s b.note,.l (b.d.map ent),.l (b.t.map row),.l (aF fl)]=_:=h2;clear h2;have h3':TT.lim 66 [.l (sp.map dQ),.l (aF fl),.i .i64 (aF fl).length,.i .i64 0]=_:=h3;clear h3;have hr:Eb sp fl=if gK 0 0 fl≠0 then gK 0 0 fl else if fl.any (λf=>hasTag sp f.tag)=true then 14 else 0:=rfl
 generalize (l9.all λn=>qN sp n || nD b n)=A at *;generalize kZ b sp=M at *;generalize gK 0 0 fl=F at *;generalize (fl.any λf=>hasTag sp f.tag)=W at *;generalize Eb sp fl=R at *;generalize l9=NL at *;have aqP:∀ (x:GV),True:=λ_=>trivial;cases A with
 | false=>
   simp only [fM,if_false] at h1';simp [v1,v3,hk,k0,k1,hkn,hnm,h0',h1']
 | true=>
 simp only [if_true] at h1';by_cases hM:M=0;rotate_left
 ·rw [ah hM] at h2'
  simp [v1,v3,hk,k0,k1,hkn,hnm,h0',h1',h2',hM]
 rw [ak hM] at h2';rw [ah (by simp),ah (by simp [hM])];clear hM
 -- the rest of it
 have key:∀ (c:Int),uK b=c->c≠0->True:=λ_ _ _=>trivial;unfold uK;by_cases e1:b.kind=1
 ·have e1:=eq_true e1
  by_cases c1:b.min < 1
  ·simp [v1,v3,hk,k0,k1,hkn,hnm,h0',h1',h2',e1,c1]
  by_cases c2:b.max < b.min
  ·simp [v1,v3,hk,k0,k1,hkn,hnm,h0',h1',h2',e1,c1,c2]
  by_cases c3:255 < b.max
  ·simp [v1,v3,hk,k0,k1,hkn,hnm,h0',h1',h2',e1,c1,c2,c3]
  simp only [e1,c1,c2,c3,if_true,if_false,ne_eq,not_true_eq_false];rw [hr];by_cases hF:F=0
  ·subst hF
   cases W with
   | true=>simp only [if_true] at h3';simp [v1,v3,hk,k0,k1,hkn,hnm,h0',h1',h2',e1,c1,c2,c3,h4,h3']
   | false=>simp only [fM,if_false] at h3';simp [v1,v3,hk,k0,k1,hkn,hnm,h0',h1',h2',e1,c1,c2,c3,h4,h3']
  ·simp [v1,v3,hk,k0,k1,hkn,hnm,h0',h1',h2',e1,c1,c2,c3,h4,hF]
 by_cases e2:b.kind=2
 ·have e2:=eq_true e2
  by_cases c1:b.chosen < 1
  ·simp [v1,v3,hk,k0,k1,hkn,hnm,h0',h1',h2',e1,e2,c1]
  by_cases c2:255 < b.chosen
  ·simp [v1,v3,hk,k0,k1,hkn,hnm,h0',h1',h2',e1,e2,c1,c2]
  simp only [e1,e2,c1,c2,if_true,if_false,ne_eq,not_true_eq_false];rw [hr];by_cases hF:F=0
  ·subst hF
   cases W with
   | true=>simp only [if_true] at h3';simp [v1,v3,hk,k0,k1,hkn,hnm,h0',h1',h2',e1,e2,c1,c2,h4,h3']
   | false=>simp only [fM,if_false] at h3';simp [v1,v3,hk,k0,k1,hkn,hnm,h0',h1',h2',e1,e2,c1,c2,h4,h3']
  ·simp [v1,v3,hk,k0,k1,hkn,hnm,h0',h1',h2',e1,e2,c1,c2,h4,hF]
 by_cases e3:b.kind=3
 ·have e3:=eq_true e3
  by_cases c1:b.d=[]
  ·have c1:=eq_true c1
   simp [v1,v3,hk,k0,k1,hkn,hnm,h0',h1',h2',e1,e2,e3,c1]
  simp only [e1,e2,e3,c1,if_true,if_false,ne_eq,not_true_eq_false];rw [hr];by_cases hF:F=0
  ·subst hF
   cases W with
   | true=>simp only [if_true] at h3';simp [v1,v3,hk,k0,k1,hkn,hnm,h0',h1',h2',e1,e2,e3,c1,h4,h3']
   | false=>simp only [fM,if_false] at h3';simp [v1,v3,hk,k0,k1,hkn,hnm,h0',h1',h2',e1,e2,e3,c1,h4,h3']
  ·simp [v1,v3,hk,k0,k1,hkn,hnm,h0',h1',h2',e1,e2,e3,c1,h4,hF]
 by_cases e5:b.kind=5
 ·have e5:=eq_true e5
  by_cases c1:b.epoch < 1
  ·simp [v1,v3,hk,k0,k1,hkn,hnm,h0',h1',h2',e1,e2,e3,e5,c1]
  simp only [e1,e2,e3,e5,c1,if_true,if_false,ne_eq,not_true_eq_false];rw [hr];by_cases hF:F=0
  ·subst hF
   cases W with
   | true=>simp only [if_true] at h3';simp [v1,v3,hk,k0,k1,hkn,hnm,h0',h1',h2',e1,e2,e3,e5,c1,h4,h3']
   | false=>simp only [fM,if_false] at h3';simp [v1,v3,hk,k0,k1,hkn,hnm,h0',h1',h2',e1,e2,e3,e5,c1,h4,h3']
  ·simp [v1,v3,hk,k0,k1,hkn,hnm,h0',h1',h2',e1,e2,e3,e5,c1,h4,hF]
 by_cases e6:b.kind=6
 ·have e6:=eq_true e6
  by_cases c1:b.base < 1
  ·simp [v1,v3,hk,k0,k1,hkn,hnm,h0',h1',h2',e1,e2,e3,e5,e6,c1]
  by_cases c2:b.epoch<=b.base
  ·simp [v1,v3,hk,k0,k1,hkn,hnm,h0',h1',h2',e1,e2,e3,e5,e6,c1,c2]
  simp only [e1,e2,e3,e5,e6,c1,c2,if_true,if_false,ne_eq,not_true_eq_false];rw [hr];by_cases hF:F=0
  ·subst hF
   cases W with
   | true=>simp only [if_true] at h3';simp [v1,v3,hk,k0,k1,hkn,hnm,h0',h1',h2',e1,e2,e3,e5,e6,c1,c2,h4,h3']
   | false=>simp only [fM,if_false] at h3';simp [v1,v3,hk,k0,k1,hkn,hnm,h0',h1',h2',e1,e2,e3,e5,e6,c1,c2,h4,h3']
  ·simp [v1,v3,hk,k0,k1,hkn,hnm,h0',h1',h2',e1,e2,e3,e5,e6,c1,c2,h4,hF]
 simp only [e1,e2,e3,e5,e6,if_false,ne_eq,not_true_eq_false];rw [hr];by_cases hF:F=0
 ·subst hF
  cases W with
  | true=>simp only [if_true] at h3';simp [v1,v3,hk,k0,k1,hkn,hnm,h0',h1',h2',e1,e2,e3,e5,e6,h4,h3']
  | false=>simp only [fM,if_false] at h3';simp [v1,v3,hk,k0,k1,hkn,hnm,h0',h1',h2',e1,e2,e3,e5,e6,h4,h3']
 ·simp [v1,v3,hk,k0,k1,hkn,hnm,h0',h1',h2',e1,e2,e3,e5,e6,h4,hF]
def Wv (n:List UInt8):Int:=match placeOf n with
 | some p=>aop p
 | none=>-1
theorem ahS (k v:Int):∀s∈aN k v,placeOf s.name≠none/\s.use=Wv s.name:=by
 have key:∀s∈nI k,placeOf s.name≠none/\s.use=Wv s.name:=by
  unfold nI;repeat' split
  all_goals first | (unfold sp1;decide) | (unfold sp2;decide) | (unfold qW;decide) | (unfold zV;decide) | (unfold qX;decide) | (unfold qY;decide) | (unfold qZ;decide) | (unfold zW;decide) | (intro s hs;cases hs)
 intro s hs;exact key s (uz.1 hs).1
/-- The numbers with a sign, written by their bits. -/
theorem apj (x:Int) (h0 : -9223372036854775808<=x) (h1:x<=9223372036854775807):∃u w:Int,IntKind.u64.wrap x=u/\IntKind.u64.wrap (x.fdiv (2 ^ 63))=w/\eH .xor .u64 (IntKind.u64.wrap (u * 2 ^ 1)) w=some (.i .u64 (zz x)):=by
 have wr:∀y:Int,IntKind.u64.wrap y=y % 18446744073709551616:=λy=>by simp [IntKind.wrap,IntKind.signed,IntKind.bits]
 refine ⟨_,_,rfl,rfl, ?_⟩;rw [wr,wr,wr];unfold zz;have hb:IntKind.u64.bits=64:=rfl;by_cases h:0<=x
 ·have e1:x.fdiv (2 ^ 63)=0:=by
   rw [KU _ (by decide)];exact Int.ediv_eq_zero_of_lt h (by omega)
  rw [e1,ak h];have e2:x % 18446744073709551616 * 2 ^ 1 % 18446744073709551616=2 * x:=by omega
  rw [e2];simp only [eH,wr,hb];have e3:(BitVec.ofInt 64 (2 * x) ^^^ BitVec.ofInt 64 (0 % 18446744073709551616))=BitVec.ofInt 64 (2 * x):=by
   have:BitVec.ofInt 64 (0 % 18446744073709551616)=0#64:=rfl;rw [this,BitVec.xor_zero]
  show some (GV.i IntKind.u64 (((BitVec.ofInt 64 (2 * x) ^^^ BitVec.ofInt 64 (0 % 18446744073709551616)).toNat:Int) % 18446744073709551616))=_
  rw [e3,wC];congr 2;omega
 ·have e1:x.fdiv (2 ^ 63) = -1:=by
   rw [KU _ (by decide)];omega
  rw [e1,ah h];have e2:x % 18446744073709551616 * 2 ^ 1 % 18446744073709551616=2 * x+18446744073709551616:=by omega
  rw [e2];simp only [eH,wr,hb];have e3:(BitVec.ofInt 64 (2 * x+18446744073709551616) ^^^ BitVec.ofInt 64 (-1 % 18446744073709551616)) = ~~~ BitVec.ofInt 64 (2 * x+18446744073709551616):=by
   have:BitVec.ofInt 64 (-1 % 18446744073709551616)=BitVec.allOnes 64:=by decide
   rw [this,BitVec.xor_allOnes]
  show some (GV.i IntKind.u64 (((BitVec.ofInt 64 (2 * x+18446744073709551616) ^^^ BitVec.ofInt 64 (-1 % 18446744073709551616)).toNat:Int) % 18446744073709551616))=_
  rw [e3,BitVec.toNat_not,wC];congr 2;omega
def fC (b:aB) (r:List GV) (n:List UInt8) (p:Pl):Prop:=TT.lim 69 [jf b r,.s n]=some [.g [.i .u64 0,.i .i64 (aY p),.i .u64 (aV b p).1,.s (aV b p).2,.l []],.b true]
theorem aoD (b:aB) (r:List GV):fC b r lM (.num 0):=by
 unfold fC;show _=some [GV.g [.i .u64 0,.i .i64 0,.i .u64 b.id,.s [],.l []],GV.b true]
 unfold lM;refine bF rfl rfl ?_ rfl;simp
theorem aoG (b:aB) (r:List GV):fC b r lS (.num 1):=by
 unfold fC;show _=some [GV.g [.i .u64 0,.i .i64 0,.i .u64 b.min,.s [],.l []],GV.b true]
 unfold lS;refine bF rfl rfl ?_ rfl;simp
theorem aoF (b:aB) (r:List GV):fC b r lQ (.num 2):=by
 unfold fC;show _=some [GV.g [.i .u64 0,.i .i64 0,.i .u64 b.max,.s [],.l []],GV.b true]
 unfold lQ;refine bF rfl rfl ?_ rfl;simp
theorem aov (b:aB) (r:List GV):fC b r lC (.num 3):=by
 unfold fC;show _=some [GV.g [.i .u64 0,.i .i64 0,.i .u64 b.chosen,.s [],.l []],GV.b true]
 unfold lC;refine bF rfl rfl ?_ rfl;simp
theorem aoC (b:aB) (r:List GV):fC b r lK (.num 4):=by
 unfold fC;show _=some [GV.g [.i .u64 0,.i .i64 0,.i .u64 b.flags,.s [],.l []],GV.b true]
 unfold lK;refine bF rfl rfl ?_ rfl;simp
theorem aox (b:aB) (r:List GV):fC b r lF (.num 5):=by
 unfold fC;show _=some [GV.g [.i .u64 0,.i .i64 0,.i .u64 b.cost,.s [],.l []],GV.b true]
 unfold lF;refine bF rfl rfl ?_ rfl;simp
theorem aoJ (b:aB) (r:List GV):fC b r lV (.num 6):=by
 unfold fC;show _=some [GV.g [.i .u64 0,.i .i64 0,.i .u64 b.priority,.s [],.l []],GV.b true]
 unfold lV;refine bF rfl rfl ?_ rfl;simp
theorem aoy (b:aB) (r:List GV):fC b r lG (.num 7):=by
 unfold fC;show _=some [GV.g [.i .u64 0,.i .i64 0,.i .u64 b.deadline,.s [],.l []],GV.b true]
 unfold lG;refine bF rfl rfl ?_ rfl;simp
theorem aoM (b:aB) (r:List GV):fC b r lY (.num 8):=by
 unfold fC;show _=some [GV.g [.i .u64 0,.i .i64 0,.i .u64 b.retry,.s [],.l []],GV.b true]
 unfold lY;refine bF rfl rfl ?_ rfl;simp
theorem aoB (b:aB) (r:List GV):fC b r lJ (.num 9):=by
 unfold fC;show _=some [GV.g [.i .u64 0,.i .i64 0,.i .u64 b.epoch,.s [],.l []],GV.b true]
 unfold lJ;refine bF rfl rfl ?_ rfl;simp
theorem aou (b:aB) (r:List GV):fC b r lu (.num 10):=by
 unfold fC;show _=some [GV.g [.i .u64 0,.i .i64 0,.i .u64 b.base,.s [],.l []],GV.b true]
 unfold lu;refine bF rfl rfl ?_ rfl;simp
theorem aoA (b:aB) (r:List GV):fC b r lI (.num 11):=by
 unfold fC;show _=some [GV.g [.i .u64 0,.i .i64 0,.i .u64 b.digest,.s [],.l []],GV.b true]
 unfold lI;refine bF rfl rfl ?_ rfl;simp
theorem aoE (b:aB) (r:List GV):fC b r lN (.num 12):=by
 unfold fC;show _=some [GV.g [.i .u64 0,.i .i64 0,.i .u64 b.lag,.s [],.l []],GV.b true]
 unfold lN;refine bF rfl rfl ?_ rfl;simp
theorem aow (b:aB) (r:List GV):fC b r lD (.num 13):=by
 unfold fC;show _=some [GV.g [.i .u64 0,.i .i64 0,.i .u64 b.code,.s [],.l []],GV.b true]
 unfold lD;refine bF rfl rfl ?_ rfl;simp
theorem aoO (b:aB) (r:List GV):fC b r l7 (.num 14):=by
 unfold fC;show _=some [GV.g [.i .u64 0,.i .i64 0,.i .u64 b.want,.s [],.l []],GV.b true]
 unfold l7;refine bF rfl rfl ?_ rfl;simp
theorem aoH (b:aB) (r:List GV):fC b r lT .name:=by
 unfold fC;show _=some [GV.g [.i .u64 0,.i .i64 1,.i .u64 0,.s b.name,.l []],GV.b true]
 unfold lT;refine bF rfl rfl ?_ rfl;simp
theorem aoK (b:aB) (r:List GV):fC b r lW .region:=by
 unfold fC;show _=some [GV.g [.i .u64 0,.i .i64 1,.i .u64 0,.s b.region,.l []],GV.b true]
 unfold lW;refine bF rfl rfl ?_ rfl;simp
theorem aoI (b:aB) (r:List GV):fC b r lU .note:=by
 unfold fC;show _=some [GV.g [.i .u64 0,.i .i64 1,.i .u64 0,.s b.note,.l []],GV.b true]
 unfold lU;refine bF rfl rfl ?_ rfl;simp
theorem aot (b:aB) (r:List GV):fC b r lq .allow:=by
 unfold fC;unfold lq;refine bF rfl rfl ?_ rfl;cases hc:b.allowed<;>simp [aY,aV,hc]
theorem aoL (b:aB) (r:List GV) (hb:oq b):fC b r lX .rem:=by
 unfold fC;obtain ⟨u,w,h1,h2,h3⟩:=apj b.remaining hb.remaining.1 hb.remaining.2;show _=some [GV.g [.i .u64 0,.i .i64 0,.i .u64 (zz b.remaining),.s [],.l []],GV.b true]
 have h2:IntKind.u64.wrap (b.remaining.fdiv 9223372036854775808)=w:=h2;have h3:eH .xor .u64 (IntKind.u64.wrap (u * 2)) w=some (.i .u64 (zz b.remaining)):=h3;unfold lX;refine bF rfl rfl ?_ rfl;simp [nH,h1,h2,h3,IntKind.bits]
theorem aoz (b:aB) (r:List GV) (hf:iV b.d=true):fC b r lH .d:=by
 unfold fC;have hk:=TB b.d hf;have e:aV b .d=(0,if b.d=[] then [] else iF b.d):=rfl;rw [e];unfold lH;refine bF rfl rfl ?_ rfl;by_cases e:b.d=[]
 ·have e':=eq_true e
  simp [aY,e']
 ·simp [aY,e,hk]
theorem aoN (b:aB) (r:List GV) (hb:oq b) (hf:EF b.t):fC b r lZ .t:=by
 unfold fC;have hk:=ahT b.t hb.t hf;have e:aV b .t=(0,if b.t=[] then [] else (yE b.t).1):=rfl;rw [e];unfold lZ;refine bF rfl rfl ?_ rfl;by_cases e:b.t=[]
 ·have e':=eq_true e
  simp [aY,e']
 ·simp [aY,e,hk]
theorem aiV (b:aB) (r:List GV) (n:List UInt8) (e0:¬ n=lX) (e1:¬ n=lq) (e2:¬ n=lT) (e3:¬ n=lW) (e4:¬ n=lU) (e5:¬ n=lH) (e6:¬ n=lZ) (e7:¬ n=lM) (e8:¬ n=lS) (e9:¬ n=lQ) (e10:¬ n=lC) (e11:¬ n=lK) (e12:¬ n=lF) (e13:¬ n=lV) (e14:¬ n=lG) (e15:¬ n=lY) (e16:¬ n=lJ) (e17:¬ n=lu) (e18:¬ n=lI) (e19:¬ n=lN) (e20:¬ n=lD) (e21:¬ n=l7):TT.lim 69 [jf b r,.s n]=some [.g [.i .u64 0,.i .i64 0,.i .u64 0,.s [],.l []],.b false]:=by
 unfold lX lq lT lW lU lH lZ lM lS lQ lC lK lF lV lG lY lJ lu lI lN lD l7 at *;refine bF rfl rfl ?_ rfl;simp [e0,e1,e2,e3,e4,e5,e6,e7,e8,e9,e10,e11,e12,e13,e14,e15,e16,e17,e18,e19,e20,e21]
abbrev It:=Int×Int×List UInt8
def ltI (a b:It):Bool:=if a.1=b.1 then decide (a.2.1 < b.2.1) else decide (a.1 < b.1)
def leI (a b:It):Prop:=ltI b a=false
def dI:It:=(0,0,[])
abbrev at_ (h:List It) (i:Nat):It:=h.getD i dI
def par (k:Nat):Nat:=(k - 1) / 2
def Heap (h:List It) (n:Nat):Prop:=∀k,0 < k->k < n->leI (at_ h (par k)) (at_ h k)
structure Xz (h L:List It) (n:Int):Prop where
 heap:Heap h h.length
 perm:L.Perm h
 srt:L.Pairwise (λx y=>ltI x y=true)
 low:∀x∈L,x.2.1 < n
theorem Xz.len {h L:List It} {n:Int} (s:Xz h L n):h.length=L.length:=s.perm.length_eq.symm
/-- What may be kept. -/
structure Kp (k:List Sn):Prop where
 len:k.length<=8
 tb:∀s∈k,Tb s.2
 pos:∀s∈k,0 < s.1/\s.1 < 18446744073709551616
 rise:k.Pairwise λa b=>a.1 < b.1/\XU b.2 a.2=true
theorem Kp.nil:Kp []:=⟨by decide,by simp,by simp,List.Pairwise.nil⟩
theorem Kp.drop {k:List Sn} (hk:Kp k) (i:Nat):Kp (k.drop i):=
 ⟨by have:=hk.len;rw [dY];omega,λs hs=>hk.tb s (Iz hs),λs hs=>hk.pos s (Iz hs),hk.rise.sublist (List.drop_sublist i k)⟩
theorem key_inj {a b:Int} {x:GV} (h1:ny (.i .u64 a) x=true) (h2:ny (.i .u64 b) x=true):a=b:=by
 cases x<;>simp [ny] at h1 h2
 omega
theorem aaA (a b:Int):ny (.i .u64 a) (.i .u64 b)=decide (a=b):=by
 simp only [ny];rw [yP];simp
theorem wO (a b:Int) (u:GV):∀xs:List GV,iD (.i .u64 a) (jw (.i .u64 b) u xs)=if a=b then some u else iD (.i .u64 a) xs
 | []=>by
   show (if ny (.i .u64 a) (.i .u64 b)=true then some u else none)=_
   rw [aaA];by_cases h:a=b<;>simp [h,iD]
 | .g [x,v]::xs=>by
   have ih:=wO a b u xs;show iD (.i .u64 a) (if ny (.i .u64 b) x=true then .g [.i .u64 b,u]::xs else .g [x,v]::jw (.i .u64 b) u xs)=if a=b then some u else (if ny (.i .u64 a) x=true then some v else iD (.i .u64 a) xs)
   cases hb:ny (.i .u64 b) x with
   | true=>
     rw [ak rfl];show (if ny (.i .u64 a) (.i .u64 b)=true then some u else iD (.i .u64 a) xs)=_
     rw [aaA];by_cases h:a=b
     ·simp [h]
     ·cases ha:ny (.i .u64 a) x with
      | true=>exact absurd (key_inj ha hb) h
      | false=>simp [h]
   | false=>
     rw [ah (by simp)];show (if ny (.i .u64 a) x=true then some v else iD (.i .u64 a) (jw (.i .u64 b) u xs))=_
     rw [ih];cases ha:ny (.i .u64 a) x with
     | true=>
       by_cases h:a=b
       ·subst h;rw [ha] at hb;cases hb
       ·simp [h]
     | false=>simp
 | .g []::xs=>wO a b u xs
 | .g [_]::xs=>wO a b u xs
 | .g (_::_::_::_)::xs=>wO a b u xs
 | .i _ _::xs=>wO a b u xs
 | .b _::xs=>wO a b u xs
 | .s _::xs=>wO a b u xs
 | .l _::xs=>wO a b u xs
def pF (t y n:Int) (s:List UInt8) (k:List aH):GV:=.g [.i .u64 t,.i .i64 y,.i .u64 n,.s s,.l (aF k)]
@[simp] theorem aqd (t y n:Int) (s:List UInt8) (k:List aH):(pF t y n s k).cells=[.i .u64 t,.i .i64 y,.i .u64 n,.s s,.l (aF k)]:=rfl
theorem FQ {l:List aH} {i:Nat} (h:i < l.length):∃t y n s k,l[i]? = some (.mk t y n s k)/\(aF l)[i]? = some (pF t y n s k)/\l.drop i=.mk t y n s k::l.drop (i+1)/\aH.mk t y n s k∈l:=by
 have hget:(aF l)[i]? = some (kW l[i]):=by rw [yt,iQ,bK h];rfl
 have hd:=kS h;have hm:=jE h;have hg:=bK h;cases hf:l[i] with
 | mk t y n s k=>
   rw [hf] at hget hd hm hg;exact ⟨t,y,n,s,k,hg,by rw [hget];simp only [kW];rfl,hd,hm⟩
mutual
def toFt:aH->Ft
 | .mk t y n s k=>.mk [.int .u64 t,.int .i64 y,.int .u64 n,.string ⟨⟨s⟩⟩] (En k)
def En:List aH->List Ft
 | []=>[]
 | f::l=>toFt f::En l
end
mutual
theorem an9:∀f:aH,zA (toFt f) (kW f)/\cntF (toFt f)<=su f
 | .mk t y n s k=>by
   have h:=Wi k;simp only [toFt,zA,kW,cntF,su];exact ⟨⟨_,_,_,_,_,rfl,rfl,h.1⟩,by omega⟩
theorem Wi:∀l:List aH,nV (En l) (aF l)/\kV (En l)<=cu l
 | []=>by simp only [En,nV,aF,kV,cu];exact ⟨trivial,cZ _⟩
 | f::l=>by
   have h1:=an9 f;have h2:=Wi l;simp only [En,nV,aF,kV,cu];exact ⟨⟨_,_,rfl,h1.1,h2.1⟩,by omega⟩
end
theorem Nv (l:List aH) (hs:cu l<=1000000):TT.lim 78 [.l (aF l)]=some [.l (aF l)]:=by
 refine Hz (Ds:=Ds) (k:=78) (f:=FH) rfl ?_;have h:=Wi l;unfold FH;exact ak ⟨En l,h.1,by omega⟩
end L
end Go.Proofs.YtpioimdhbbgniaaGreatDoor
