/- What the trees compute: plain laws. -/
import Derived.Test.YtpkihgnabejkkaaGreatDoorKBe2
namespace Go.Proofs.YtpkihgnabejkkaaGreatDoor
open Go Go.aJ
set_option linter.unusedSimpArgs false
set_option linter.unusedVariables false
set_option maxRecDepth 100000
namespace B
inductive Pl where
 | rem | allow | name | region | note | d | t
 | num (k:Nat)
def kL:List UInt8:=[114,101,109,97,105,110,105,110,103]
def kK:List UInt8:=[97,108,108,111,119,101,100]
def jL:List UInt8:=[110,97,109,101]
def jP:List UInt8:=[114,101,103,105,111,110]
def jM:List UInt8:=[110,111,116,101]
def jD:List UInt8:=[100,101,115,99,114]
def jR:List UInt8:=[116,97,98,108,101]
def jH:List UInt8:=[105,100]
def jK:List UInt8:=[109,105,110]
def jJ:List UInt8:=[109,97,120]
def jy:List UInt8:=[99,104,111,115,101,110]
def jG:List UInt8:=[102,108,97,103,115]
def jB:List UInt8:=[99,111,115,116]
def jO:List UInt8:=[112,114,105,111,114,105,116,121]
def jC:List UInt8:=[100,101,97,100,108,105,110,101]
def jQ:List UInt8:=[114,101,116,114,121]
def jF:List UInt8:=[101,112,111,99,104]
def jw:List UInt8:=[98,97,115,101]
def jE:List UInt8:=[100,105,103,101,115,116]
def jI:List UInt8:=[108,97,103]
def jA:List UInt8:=[99,111,100,101]
def jS:List UInt8:=[119,97,110,116]
def placeOf (n:List UInt8):Option Pl:=
 if n=kL then some .rem else if n=kK then some .allow else if n=jL then some .name else if n=jP then some .region else if n=jM then some .note else if n=jD then some .d else if n=jR then some .t else if n=jH then some (.num 0) else if n=jK then some (.num 1) else if n=jJ then some (.num 2) else if n=jy then some (.num 3) else if n=jG then some (.num 4) else if n=jB then some (.num 5) else if n=jO then some (.num 6) else if n=jC then some (.num 7) else if n=jQ then some (.num 8) else if n=jF then some (.num 9) else if n=jw then some (.num 10) else if n=jE then some (.num 11) else if n=jI then some (.num 12) else if n=jA then some (.num 13) else if n=jS then some (.num 14) else none
theorem xI:placeOf kL=some .rem:=rfl
theorem wV:placeOf kK=some .allow:=rfl
theorem xE:placeOf jL=some .name:=rfl
theorem xH:placeOf jP=some .region:=rfl
theorem xF:placeOf jM=some .note:=rfl
theorem zo:placeOf jD=some .d:=rfl
theorem zq:placeOf jR=some .t:=rfl
theorem xw:placeOf jH=some (.num 0):=rfl
theorem xC:placeOf jK=some (.num 1):=rfl
theorem xB:placeOf jJ=some (.num 2):=rfl
theorem wX:placeOf jy=some (.num 3):=rfl
theorem xu:placeOf jG=some (.num 4):=rfl
theorem wZ:placeOf jB=some (.num 5):=rfl
theorem xG:placeOf jO=some (.num 6):=rfl
theorem xg:placeOf jC=some (.num 7):=rfl
theorem xJ:placeOf jQ=some (.num 8):=rfl
theorem xq:placeOf jF=some (.num 9):=rfl
theorem wW:placeOf jw=some (.num 10):=rfl
theorem xk:placeOf jE=some (.num 11):=rfl
theorem xA:placeOf jI=some (.num 12):=rfl
theorem wY:placeOf jA=some (.num 13):=rfl
theorem xK:placeOf jS=some (.num 14):=rfl
def gG (b:aF) (k:Nat):Int:=match k with
 | 0=>b.id
 | 1=>b.min
 | 2=>b.max
 | 3=>b.chosen
 | 4=>b.flags
 | 5=>b.cost
 | 6=>b.priority
 | 7=>b.deadline
 | 8=>b.retry
 | 9=>b.epoch
 | 10=>b.base
 | 11=>b.digest
 | 12=>b.lag
 | 13=>b.code
 | _=>b.want
def nothP (b:aF):Pl→Bool
 | .rem=>decide (b.remaining=0)
 | .allow=>!b.allowed
 | .name=>decide (b.name=[])
 | .region=>decide (b.region=[])
 | .note=>decide (b.note=[])
 | .d=>decide (b.d=[])
 | .t=>decide (b.t=[])
 | .num k=>decide (gG b k=0)
def nothB (b:aF) (n:List UInt8):Bool:=match placeOf n with
 | some p=>nothP b p
 | none=>true
def mayP (b:aF):Pl→Int
 | .name=>iY b.name 0 256
 | .region=>iY b.region 0 256
 | .note=>iY b.note 0 256
 | .d=>if b.d=[] then 0 else Aq b.d
 | .t=>Dp b.t
 | _=>0
def mayB (b:aF) (n:List UInt8):Int:=match placeOf n with
 | some p=>mayP b p
 | none=>0
def zz (x:Int):Int:=if 0≤x then 2 * x else -2 * x - 1
def gq (b:aF):Pl→Int×List UInt8
 | .rem=>(zz b.remaining,[])
 | .allow=>(if b.allowed=true then 1 else 0,[])
 | .name=>(0,b.name)
 | .region=>(0,b.region)
 | .note=>(0,b.note)
 | .d=>(0,if b.d=[] then [] else qy b.d)
 | .t=>(0,if b.t=[] then [] else (aiN b.t).1)
 | .num k=>(gG b k,[])
def aO:Pl→Int
 | .num _=>0
 | .rem=>0
 | .allow=>0
 | _=>1
/-- A cascade over all names. -/
theorem KI {Q:List UInt8→Prop} (afP:Q kL) (afy:Q kK) (afL:Q jL) (afO:Q jP) (afM:Q jM) (afD:Q jD) (afR:Q jR) (afH:Q jH) (afK:Q jK) (afJ:Q jJ) (afz:Q jy) (afG:Q jG) (afB:Q jB) (afN:Q jO) (afC:Q jC) (afQ:Q jQ) (afF:Q jF) (h_base:Q jw) (afE:Q jE) (afI:Q jI) (afA:Q jA) (afS:Q jS) (h0:∀n,¬ n=kL→¬ n=kK→¬ n=jL→¬ n=jP→¬ n=jM→¬ n=jD→¬ n=jR→¬ n=jH→¬ n=jK→¬ n=jJ→¬ n=jy→¬ n=jG→¬ n=jB→¬ n=jO→¬ n=jC→¬ n=jQ→¬ n=jF→¬ n=jw→¬ n=jE→¬ n=jI→¬ n=jA→¬ n=jS→Q n) (n:List UInt8):Q n:=by
 by_cases Yd:n=kL
 ·rw [Yd];exact afP
 by_cases XR:n=kK
 ·rw [XR];exact afy
 by_cases X9:n=jL
 ·rw [X9];exact afL
 by_cases Yc:n=jP
 ·rw [Yc];exact afO
 by_cases Ya:n=jM
 ·rw [Ya];exact afM
 by_cases XZ:n=jD
 ·rw [XZ];exact afD
 by_cases Yf:n=jR
 ·rw [Yf];exact afR
 by_cases X5:n=jH
 ·rw [X5];exact afH
 by_cases X8:n=jK
 ·rw [X8];exact afK
 by_cases X7:n=jJ
 ·rw [X7];exact afJ
 by_cases XU:n=jy
 ·rw [XU];exact afz
 by_cases X4:n=jG
 ·rw [X4];exact afG
 by_cases XW:n=jB
 ·rw [XW];exact afB
 by_cases Yb:n=jO
 ·rw [Yb];exact afN
 by_cases XY:n=jC
 ·rw [XY];exact afC
 by_cases Ye:n=jQ
 ·rw [Ye];exact afQ
 by_cases X3:n=jF
 ·rw [X3];exact afF
 by_cases XT:n=jw
 ·rw [XT];exact h_base
 by_cases X0:n=jE
 ·rw [X0];exact afE
 by_cases X6:n=jI
 ·rw [X6];exact afI
 by_cases XV:n=jA
 ·rw [XV];exact afA
 by_cases Yg:n=jS
 ·rw [Yg];exact afS
 exact h0 n Yd XR X9 Yc Ya XZ Yf X5 X8 X7 XU X4 XW Yb XY Ye X3 XT X0 X6 XV Yg
theorem H7 (n:List UInt8) (e0:¬ n=kL) (e1:¬ n=kK) (e2:¬ n=jL) (e3:¬ n=jP) (e4:¬ n=jM) (e5:¬ n=jD) (e6:¬ n=jR) (e7:¬ n=jH) (e8:¬ n=jK) (e9:¬ n=jJ) (e10:¬ n=jy) (e11:¬ n=jG) (e12:¬ n=jB) (e13:¬ n=jO) (e14:¬ n=jC) (e15:¬ n=jQ) (e16:¬ n=jF) (e17:¬ n=jw) (e18:¬ n=jE) (e19:¬ n=jI) (e20:¬ n=jA) (e21:¬ n=jS):placeOf n=none:=by
 unfold placeOf
 rw [if_neg e0,if_neg e1,if_neg e2,if_neg e3,if_neg e4,if_neg e5,if_neg e6,if_neg e7,if_neg e8,if_neg e9,if_neg e10,if_neg e11,if_neg e12,if_neg e13,if_neg e14,if_neg e15,if_neg e16,if_neg e17,if_neg e18,if_neg e19,if_neg e20,if_neg e21]
def encM (ps:List (List UInt8)):List GV:=ps.map fun p=>.g [.s p,.b true]
def insN (ps:List (List UInt8)) (x:List UInt8):List (List UInt8):=if x∈ps then ps else ps++[x]
theorem assoc_encM (n:List UInt8):∀ps:List (List UInt8),ng (.s n) (encM ps)=if n∈ps then some (.b true) else none
 | []=>rfl
 | p::ps=>by
  have ih:=assoc_encM n ps
  simp only [encM,List.map_cons,ng,Ba] at ih ⊢
  by_cases e:n=p
  ·subst e;simp
  ·have e2:¬ p=n:=fun h=>e h.symm
   simp -implicitDefEqProofs [e,ih]
theorem put_encM (x:List UInt8):∀ps:List (List UInt8),tq (.s x) (.b true) (encM ps)=encM (insN ps x)
 | []=>rfl
 | p::ps=>by
  have ih:=put_encM x ps
  unfold insN at ih ⊢
  simp only [encM,List.map_cons,tq,Ba] at ih ⊢
  by_cases e:x=p
  ·subst e;simp
  ·have e1:(x==p)=false:=by simpa using e
   simp only [e1,Bool.false_eq_true,if_false]
   rw [ih]
   by_cases hm:x∈ps
   ·simp only [hm,if_true,List.mem_cons,or_true,List.map_cons]
   ·simp only [hm,if_false,List.mem_cons,e,or_false,List.cons_append,List.map_cons]
def insAll (ps:List (List UInt8)) (l:List ou):List (List UInt8):=l.foldl (fun ps s=>insN ps s.name) ps
theorem mem_insN (n x:List UInt8) (ps:List (List UInt8)):n∈insN ps x↔n∈ps∨x=n:=by
 unfold insN
 split
 ·next h=>exact ⟨.inl,fun e=>e.elim id (fun e=>e ▸ h)⟩
 ·simp -implicitDefEqProofs [eq_comm]
theorem mem_insAll (n:List UInt8):∀ (l:List ou) (ps:List (List UInt8)),n∈insAll ps l↔n∈ps∨∃s∈l,s.name=n
 | [],ps=>by simp [insAll]
 | s::l,ps=>by
  have:=mem_insAll n l (insN ps s.name)
  unfold insAll at this ⊢
  rw [List.foldl_cons,this,mem_insN]
  simp -implicitDefEqProofs [or_assoc]
def hasN (l:List ou) (n:List UInt8):Bool:=l.any fun s=>decide (s.name=n)
theorem mem_hasN (n:List UInt8) (l:List ou):decide (n∈insAll [] l)=hasN l n:=by
 rw [Bool.eq_iff_iff,decide_eq_true_iff,mem_insAll]
 simp -implicitDefEqProofs [hasN]
theorem mchk0 (b:aF) (r:List GV) (l:List ou) (hl:l.length≤1000):∀ (m i:Nat) (ps:List (List UInt8)),i+m=l.length→
 TT.lim 47 [.l (l.map qC),.i .i64 l.length,.i .i64 i,.l (encM ps),.i .i64 b.kind,.i .u64 b.id,.i .u64 b.min,.i .u64 b.max,.i .u64 b.chosen,.i .u64 b.flags,.i .u64 b.cost,.i .u64 b.priority,.i .u64 b.deadline,.i .u64 b.retry,.i .u64 b.epoch,.i .u64 b.base,.i .u64 b.digest,.i .u64 b.lag,.i .u64 b.code,.i .u64 b.want,.i .i64 b.remaining,.b b.allowed,.s b.name,.s b.region,.s b.note,.l (b.d.map ent),.l (b.t.map row),.l r]=some [.i .i64 0,.l (encM (insAll ps (l.drop i)))]
 | 0,i,ps,hi=>by
  have h0:l.drop i=[]:=List.drop_eq_nil_of_le (by omega)
  refine ay rfl rfl ?_
  have h:¬ ((i:Int) < l.length):=by omega
  simp -implicitDefEqProofs [h,h0,insAll]
 | m+1,i,ps,hi=>by
  have hlt:i < l.length:=by omega
  have ih:=mchk0 b r l hl m (i+1) (insN ps l[i].name) (by omega)
  have hcast:((i:Int)+1)=((i+1:Nat):Int):=by omega
  rw [← hcast] at ih
  have hp:=put_encM l[i].name ps
  have hd:insAll ps (l.drop i)=insAll (insN ps l[i].name) (l.drop (i+1)):=by
   rw [List.drop_eq_getElem_cons hlt];rfl
  rw [hd]
  generalize insAll (insN ps l[i].name) (l.drop (i+1))=X at *
  generalize encM (insN ps l[i].name)=Y at *
  refine ay rfl rfl ?_
  have h:((i:Int) < l.length):=by omega
  have hw:=wrap64 (n:=(i:Int)+1) (by omega) (by omega)
  simp -implicitDefEqProofs [h,hlt,hw,hp,ih]
/-- One round of the second loop. -/
def Step1 (b:aF) (r:List GV) (n:List UInt8) (c:Prop):Prop:=∀ (sp:GV) (ns:List (List UInt8)) (i:Nat) (ps:List (List UInt8)) (out:List GV) (h:i < ns.length),((i:Int) < ns.length)→IntKind.i64.wrap ((i:Int)+1)=(i:Int)+1→ns[i]=n→ng (.s n) (encM ps)=none→
 TT.lim 49 [sp,.l (ns.map .s),.i .i64 ns.length,.i .i64 ((i:Int)+1),.l (encM ps),.i .i64 b.kind,.i .u64 b.id,.i .u64 b.min,.i .u64 b.max,.i .u64 b.chosen,.i .u64 b.flags,.i .u64 b.cost,.i .u64 b.priority,.i .u64 b.deadline,.i .u64 b.retry,.i .u64 b.epoch,.i .u64 b.base,.i .u64 b.digest,.i .u64 b.lag,.i .u64 b.code,.i .u64 b.want,.i .i64 b.remaining,.b b.allowed,.s b.name,.s b.region,.s b.note,.l (b.d.map ent),.l (b.t.map row),.l r]=some out→
 (c→TT.lim 49 [sp,.l (ns.map .s),.i .i64 ns.length,.i .i64 i,.l (encM ps),.i .i64 b.kind,.i .u64 b.id,.i .u64 b.min,.i .u64 b.max,.i .u64 b.chosen,.i .u64 b.flags,.i .u64 b.cost,.i .u64 b.priority,.i .u64 b.deadline,.i .u64 b.retry,.i .u64 b.epoch,.i .u64 b.base,.i .u64 b.digest,.i .u64 b.lag,.i .u64 b.code,.i .u64 b.want,.i .i64 b.remaining,.b b.allowed,.s b.name,.s b.region,.s b.note,.l (b.d.map ent),.l (b.t.map row),.l r]=some out)∧(¬ c→TT.lim 49 [sp,.l (ns.map .s),.i .i64 ns.length,.i .i64 i,.l (encM ps),.i .i64 b.kind,.i .u64 b.id,.i .u64 b.min,.i .u64 b.max,.i .u64 b.chosen,.i .u64 b.flags,.i .u64 b.cost,.i .u64 b.priority,.i .u64 b.deadline,.i .u64 b.retry,.i .u64 b.epoch,.i .u64 b.base,.i .u64 b.digest,.i .u64 b.lag,.i .u64 b.code,.i .u64 b.want,.i .i64 b.remaining,.b b.allowed,.s b.name,.s b.region,.s b.note,.l (b.d.map ent),.l (b.t.map row),.l r]=some [.i .i64 0])
theorem st1_remaining (b:aF) (r:List GV):Step1 b r kL (b.remaining=0):=by
 intro sp ns i ps out h h1 hw hn ha ih
 unfold kL at *
 refine ⟨fun hc=>ay rfl rfl ?_,fun hc=>ay rfl rfl ?_⟩
 ·have hc:=eq_true hc
  simp -implicitDefEqProofs [h1,h,hn,hw,ha,hc,ih]
 ·simp -implicitDefEqProofs [h1,h,hn,ha,hc]
theorem st1_allowed (b:aF) (r:List GV):Step1 b r kK (b.allowed=false):=by
 intro sp ns i ps out h h1 hw hn ha ih
 unfold kK at *
 refine ⟨fun hc=>ay rfl rfl ?_,fun hc=>ay rfl rfl ?_⟩
 ·rw [hc] at ih
  simp -implicitDefEqProofs [h1,h,hn,hw,ha,hc,ih]
 ·simp -implicitDefEqProofs [h1,h,hn,ha,hc]
theorem st1_name (b:aF) (r:List GV):Step1 b r jL (b.name=[]):=by
 intro sp ns i ps out h h1 hw hn ha ih
 unfold jL at *
 refine ⟨fun hc=>ay rfl rfl ?_,fun hc=>ay rfl rfl ?_⟩
 ·have hc:=eq_true hc
  simp -implicitDefEqProofs [h1,h,hn,hw,ha,hc,ih]
 ·simp -implicitDefEqProofs [h1,h,hn,ha,hc]
theorem st1_region (b:aF) (r:List GV):Step1 b r jP (b.region=[]):=by
 intro sp ns i ps out h h1 hw hn ha ih
 unfold jP at *
 refine ⟨fun hc=>ay rfl rfl ?_,fun hc=>ay rfl rfl ?_⟩
 ·have hc:=eq_true hc
  simp -implicitDefEqProofs [h1,h,hn,hw,ha,hc,ih]
 ·simp -implicitDefEqProofs [h1,h,hn,ha,hc]
theorem st1_note (b:aF) (r:List GV):Step1 b r jM (b.note=[]):=by
 intro sp ns i ps out h h1 hw hn ha ih
 unfold jM at *
 refine ⟨fun hc=>ay rfl rfl ?_,fun hc=>ay rfl rfl ?_⟩
 ·have hc:=eq_true hc
  simp -implicitDefEqProofs [h1,h,hn,hw,ha,hc,ih]
 ·simp -implicitDefEqProofs [h1,h,hn,ha,hc]
theorem st1_descr (b:aF) (r:List GV):Step1 b r jD (b.d=[]):=by
 intro sp ns i ps out h h1 hw hn ha ih
 unfold jD at *
 refine ⟨fun hc=>ay rfl rfl ?_,fun hc=>ay rfl rfl ?_⟩
 ·have hc:=eq_true hc
  simp -implicitDefEqProofs [h1,h,hn,hw,ha,hc,ih]
 ·simp -implicitDefEqProofs [h1,h,hn,ha,hc]
theorem st1_table (b:aF) (r:List GV):Step1 b r jR (b.t=[]):=by
 intro sp ns i ps out h h1 hw hn ha ih
 unfold jR at *
 refine ⟨fun hc=>ay rfl rfl ?_,fun hc=>ay rfl rfl ?_⟩
 ·have hc:=eq_true hc
  simp -implicitDefEqProofs [h1,h,hn,hw,ha,hc,ih]
 ·simp -implicitDefEqProofs [h1,h,hn,ha,hc]
theorem st1_id (b:aF) (r:List GV):Step1 b r jH (b.id=0):=by
 intro sp ns i ps out h h1 hw hn ha ih
 unfold jH at *
 refine ⟨fun hc=>ay rfl rfl ?_,fun hc=>ay rfl rfl ?_⟩
 ·have hc:=eq_true hc
  simp -implicitDefEqProofs [h1,h,hn,hw,ha,hc,ih]
 ·simp -implicitDefEqProofs [h1,h,hn,ha,hc]
theorem st1_min (b:aF) (r:List GV):Step1 b r jK (b.min=0):=by
 intro sp ns i ps out h h1 hw hn ha ih
 unfold jK at *
 refine ⟨fun hc=>ay rfl rfl ?_,fun hc=>ay rfl rfl ?_⟩
 ·have hc:=eq_true hc
  simp -implicitDefEqProofs [h1,h,hn,hw,ha,hc,ih]
 ·simp -implicitDefEqProofs [h1,h,hn,ha,hc]
theorem st1_max (b:aF) (r:List GV):Step1 b r jJ (b.max=0):=by
 intro sp ns i ps out h h1 hw hn ha ih
 unfold jJ at *
 refine ⟨fun hc=>ay rfl rfl ?_,fun hc=>ay rfl rfl ?_⟩
 ·have hc:=eq_true hc
  simp -implicitDefEqProofs [h1,h,hn,hw,ha,hc,ih]
 ·simp -implicitDefEqProofs [h1,h,hn,ha,hc]
theorem st1_chosen (b:aF) (r:List GV):Step1 b r jy (b.chosen=0):=by
 intro sp ns i ps out h h1 hw hn ha ih
 unfold jy at *
 refine ⟨fun hc=>ay rfl rfl ?_,fun hc=>ay rfl rfl ?_⟩
 ·have hc:=eq_true hc
  simp -implicitDefEqProofs [h1,h,hn,hw,ha,hc,ih]
 ·simp -implicitDefEqProofs [h1,h,hn,ha,hc]
theorem st1_flags (b:aF) (r:List GV):Step1 b r jG (b.flags=0):=by
 intro sp ns i ps out h h1 hw hn ha ih
 unfold jG at *
 refine ⟨fun hc=>ay rfl rfl ?_,fun hc=>ay rfl rfl ?_⟩
 ·have hc:=eq_true hc
  simp -implicitDefEqProofs [h1,h,hn,hw,ha,hc,ih]
 ·simp -implicitDefEqProofs [h1,h,hn,ha,hc]
theorem st1_cost (b:aF) (r:List GV):Step1 b r jB (b.cost=0):=by
 intro sp ns i ps out h h1 hw hn ha ih
 unfold jB at *
 refine ⟨fun hc=>ay rfl rfl ?_,fun hc=>ay rfl rfl ?_⟩
 ·have hc:=eq_true hc
  simp -implicitDefEqProofs [h1,h,hn,hw,ha,hc,ih]
 ·simp -implicitDefEqProofs [h1,h,hn,ha,hc]
theorem st1_priority (b:aF) (r:List GV):Step1 b r jO (b.priority=0):=by
 intro sp ns i ps out h h1 hw hn ha ih
 unfold jO at *
 refine ⟨fun hc=>ay rfl rfl ?_,fun hc=>ay rfl rfl ?_⟩
 ·have hc:=eq_true hc
  simp -implicitDefEqProofs [h1,h,hn,hw,ha,hc,ih]
 ·simp -implicitDefEqProofs [h1,h,hn,ha,hc]
theorem st1_deadline (b:aF) (r:List GV):Step1 b r jC (b.deadline=0):=by
 intro sp ns i ps out h h1 hw hn ha ih
 unfold jC at *
 refine ⟨fun hc=>ay rfl rfl ?_,fun hc=>ay rfl rfl ?_⟩
 ·have hc:=eq_true hc
  simp -implicitDefEqProofs [h1,h,hn,hw,ha,hc,ih]
 ·simp -implicitDefEqProofs [h1,h,hn,ha,hc]
theorem st1_retry (b:aF) (r:List GV):Step1 b r jQ (b.retry=0):=by
 intro sp ns i ps out h h1 hw hn ha ih
 unfold jQ at *
 refine ⟨fun hc=>ay rfl rfl ?_,fun hc=>ay rfl rfl ?_⟩
 ·have hc:=eq_true hc
  simp -implicitDefEqProofs [h1,h,hn,hw,ha,hc,ih]
 ·simp -implicitDefEqProofs [h1,h,hn,ha,hc]
theorem st1_epoch (b:aF) (r:List GV):Step1 b r jF (b.epoch=0):=by
 intro sp ns i ps out h h1 hw hn ha ih
 unfold jF at *
 refine ⟨fun hc=>ay rfl rfl ?_,fun hc=>ay rfl rfl ?_⟩
 ·have hc:=eq_true hc
  simp -implicitDefEqProofs [h1,h,hn,hw,ha,hc,ih]
 ·simp -implicitDefEqProofs [h1,h,hn,ha,hc]
theorem st1_base (b:aF) (r:List GV):Step1 b r jw (b.base=0):=by
 intro sp ns i ps out h h1 hw hn ha ih
 unfold jw at *
 refine ⟨fun hc=>ay rfl rfl ?_,fun hc=>ay rfl rfl ?_⟩
 ·have hc:=eq_true hc
  simp -implicitDefEqProofs [h1,h,hn,hw,ha,hc,ih]
 ·simp -implicitDefEqProofs [h1,h,hn,ha,hc]
theorem st1_digest (b:aF) (r:List GV):Step1 b r jE (b.digest=0):=by
 intro sp ns i ps out h h1 hw hn ha ih
 unfold jE at *
 refine ⟨fun hc=>ay rfl rfl ?_,fun hc=>ay rfl rfl ?_⟩
 ·have hc:=eq_true hc
  simp -implicitDefEqProofs [h1,h,hn,hw,ha,hc,ih]
 ·simp -implicitDefEqProofs [h1,h,hn,ha,hc]
theorem st1_lag (b:aF) (r:List GV):Step1 b r jI (b.lag=0):=by
 intro sp ns i ps out h h1 hw hn ha ih
 unfold jI at *
 refine ⟨fun hc=>ay rfl rfl ?_,fun hc=>ay rfl rfl ?_⟩
 ·have hc:=eq_true hc
  simp -implicitDefEqProofs [h1,h,hn,hw,ha,hc,ih]
 ·simp -implicitDefEqProofs [h1,h,hn,ha,hc]
theorem st1_code (b:aF) (r:List GV):Step1 b r jA (b.code=0):=by
 intro sp ns i ps out h h1 hw hn ha ih
 unfold jA at *
 refine ⟨fun hc=>ay rfl rfl ?_,fun hc=>ay rfl rfl ?_⟩
 ·have hc:=eq_true hc
  simp -implicitDefEqProofs [h1,h,hn,hw,ha,hc,ih]
 ·simp -implicitDefEqProofs [h1,h,hn,ha,hc]
theorem st1_want (b:aF) (r:List GV):Step1 b r jS (b.want=0):=by
 intro sp ns i ps out h h1 hw hn ha ih
 unfold jS at *
 refine ⟨fun hc=>ay rfl rfl ?_,fun hc=>ay rfl rfl ?_⟩
 ·have hc:=eq_true hc
  simp -implicitDefEqProofs [h1,h,hn,hw,ha,hc,ih]
 ·simp -implicitDefEqProofs [h1,h,hn,ha,hc]
theorem ahM:TT.lim 48 []=some [.l (fV.map .s)]:=Ib (Ds:=Ds) (k:=48) (f:=Ho) rfl rfl
theorem noth_of (b:aF) {n:List UInt8} {p:Pl} (h:placeOf n=some p):nothB b n=nothP b p:=by unfold nothB;rw [h]
def Some1 (b:aF) (r:List GV) (n:List UInt8):Prop:=∃c:Prop,(nothB b n=true↔c)∧Step1 b r n c
theorem so1_remaining (b:aF) (r:List GV):Some1 b r kL:=⟨_,by rw [noth_of b xI];simp [nothP,gG],st1_remaining b r⟩
theorem so1_allowed (b:aF) (r:List GV):Some1 b r kK:=⟨_,by rw [noth_of b wV];simp [nothP,gG],st1_allowed b r⟩
theorem so1_name (b:aF) (r:List GV):Some1 b r jL:=⟨_,by rw [noth_of b xE];simp [nothP,gG],st1_name b r⟩
theorem so1_region (b:aF) (r:List GV):Some1 b r jP:=⟨_,by rw [noth_of b xH];simp [nothP,gG],st1_region b r⟩
theorem so1_note (b:aF) (r:List GV):Some1 b r jM:=⟨_,by rw [noth_of b xF];simp [nothP,gG],st1_note b r⟩
theorem so1_descr (b:aF) (r:List GV):Some1 b r jD:=⟨_,by rw [noth_of b zo];simp [nothP,gG],st1_descr b r⟩
theorem so1_table (b:aF) (r:List GV):Some1 b r jR:=⟨_,by rw [noth_of b zq];simp [nothP,gG],st1_table b r⟩
theorem so1_id (b:aF) (r:List GV):Some1 b r jH:=⟨_,by rw [noth_of b xw];simp [nothP,gG],st1_id b r⟩
theorem so1_min (b:aF) (r:List GV):Some1 b r jK:=⟨_,by rw [noth_of b xC];simp [nothP,gG],st1_min b r⟩
theorem so1_max (b:aF) (r:List GV):Some1 b r jJ:=⟨_,by rw [noth_of b xB];simp [nothP,gG],st1_max b r⟩
theorem so1_chosen (b:aF) (r:List GV):Some1 b r jy:=⟨_,by rw [noth_of b wX];simp [nothP,gG],st1_chosen b r⟩
theorem so1_flags (b:aF) (r:List GV):Some1 b r jG:=⟨_,by rw [noth_of b xu];simp [nothP,gG],st1_flags b r⟩
theorem so1_cost (b:aF) (r:List GV):Some1 b r jB:=⟨_,by rw [noth_of b wZ];simp [nothP,gG],st1_cost b r⟩
theorem so1_priority (b:aF) (r:List GV):Some1 b r jO:=⟨_,by rw [noth_of b xG];simp [nothP,gG],st1_priority b r⟩
theorem so1_deadline (b:aF) (r:List GV):Some1 b r jC:=⟨_,by rw [noth_of b xg];simp [nothP,gG],st1_deadline b r⟩
theorem so1_retry (b:aF) (r:List GV):Some1 b r jQ:=⟨_,by rw [noth_of b xJ];simp [nothP,gG],st1_retry b r⟩
theorem so1_epoch (b:aF) (r:List GV):Some1 b r jF:=⟨_,by rw [noth_of b xq];simp [nothP,gG],st1_epoch b r⟩
theorem so1_base (b:aF) (r:List GV):Some1 b r jw:=⟨_,by rw [noth_of b wW];simp [nothP,gG],st1_base b r⟩
theorem so1_digest (b:aF) (r:List GV):Some1 b r jE:=⟨_,by rw [noth_of b xk];simp [nothP,gG],st1_digest b r⟩
theorem so1_lag (b:aF) (r:List GV):Some1 b r jI:=⟨_,by rw [noth_of b xA];simp [nothP,gG],st1_lag b r⟩
theorem so1_code (b:aF) (r:List GV):Some1 b r jA:=⟨_,by rw [noth_of b wY];simp [nothP,gG],st1_code b r⟩
theorem so1_want (b:aF) (r:List GV):Some1 b r jS:=⟨_,by rw [noth_of b xK];simp [nothP,gG],st1_want b r⟩
theorem step1_all (b:aF) (r:List GV) (n:List UInt8):placeOf n≠none→Some1 b r n:=by
 refine KI (Q:=fun n=>placeOf n≠none→Some1 b r n) (fun _=>so1_remaining b r) (fun _=>so1_allowed b r) (fun _=>so1_name b r) (fun _=>so1_region b r) (fun _=>so1_note b r) (fun _=>so1_descr b r) (fun _=>so1_table b r) (fun _=>so1_id b r) (fun _=>so1_min b r) (fun _=>so1_max b r) (fun _=>so1_chosen b r) (fun _=>so1_flags b r) (fun _=>so1_cost b r) (fun _=>so1_priority b r) (fun _=>so1_deadline b r) (fun _=>so1_retry b r) (fun _=>so1_epoch b r) (fun _=>so1_base b r) (fun _=>so1_digest b r) (fun _=>so1_lag b r) (fun _=>so1_code b r) (fun _=>so1_want b r) (fun n e0 e1 e2 e3 e4 e5 e6 e7 e8 e9 e10 e11 e12 e13 e14 e15 e16 e17 e18 e19 e20 e21 h=>absurd (H7 n e0 e1 e2 e3 e4 e5 e6 e7 e8 e9 e10 e11 e12 e13 e14 e15 e16 e17 e18 e19 e20 e21) h) n
theorem mchk1 (b:aF) (r:List GV) (sp:GV) (ns:List (List UInt8)) (hlen:ns.length≤1000) (hns:∀n∈ns,placeOf n≠none) (ps:List (List UInt8)):∀ (m i:Nat),i+m=ns.length→
 TT.lim 49 [sp,.l (ns.map .s),.i .i64 ns.length,.i .i64 i,.l (encM ps),.i .i64 b.kind,.i .u64 b.id,.i .u64 b.min,.i .u64 b.max,.i .u64 b.chosen,.i .u64 b.flags,.i .u64 b.cost,.i .u64 b.priority,.i .u64 b.deadline,.i .u64 b.retry,.i .u64 b.epoch,.i .u64 b.base,.i .u64 b.digest,.i .u64 b.lag,.i .u64 b.code,.i .u64 b.want,.i .i64 b.remaining,.b b.allowed,.s b.name,.s b.region,.s b.note,.l (b.d.map ent),.l (b.t.map row),.l r]=some (if (ns.drop i).all (fun n=>decide (n∈ps) || nothB b n)=true then [.i .i64 1] else [.i .i64 0])
 | 0,i,hi=>by
  have h0:ns.drop i=[]:=List.drop_eq_nil_of_le (by omega)
  refine ay rfl rfl ?_
  have h:¬ ((i:Int) < ns.length):=by omega
  simp -implicitDefEqProofs [h,h0]
 | m+1,i,hi=>by
  have hlt:i < ns.length:=by omega
  have ih:=mchk1 b r sp ns hlen hns ps m (i+1) (by omega)
  have hcast:((i:Int)+1)=((i+1:Nat):Int):=by omega
  rw [← hcast] at ih
  have hd:(ns.drop i).all (fun n=>decide (n∈ps) || nothB b n)=((decide (ns[i]∈ps) || nothB b ns[i])&&(ns.drop (i+1)).all (fun n=>decide (n∈ps) || nothB b n)):=by rw [List.drop_eq_getElem_cons hlt,List.all_cons]
  rw [hd]
  generalize (ns.drop (i+1)).all (fun n=>decide (n∈ps) || nothB b n)=X at *
  by_cases hps:ns[i]∈ps
  ·have ha:=assoc_encM ns[i] ps
   rw [if_pos hps] at ha
   have h1:((i:Int) < ns.length):=by omega
   have hw:=wrap64 (n:=(i:Int)+1) (by omega) (by omega)
   rw [decide_eq_true hps,Bool.true_or,Bool.true_and]
   refine ay rfl rfl ?_
   simp -implicitDefEqProofs [h1,hlt,hw,ha,ih]
  ·have ha:=assoc_encM ns[i] ps
   rw [if_neg hps] at ha
   obtain ⟨c,c1,c2⟩:=step1_all b r ns[i] (hns _ (List.getElem_mem hlt))
   obtain ⟨c3,c4⟩:=c2 sp ns i ps _ hlt (by omega) (wrap64 (n:=(i:Int)+1) (by omega) (by omega)) rfl ha ih
   rw [decide_eq_false hps,Bool.false_or]
   cases hb:nothB b ns[i] with
   | true=>rw [c3 (c1.1 hb),Bool.true_and]
   | false=>rw [c4 (fun h=>by rw [c1.2 h] at hb;cases hb),Bool.false_and];rfl
def MayIs (b:aF) (r:List GV) (k:Nat) (out:List GV):Prop:=TT.lim k [.i .i64 b.kind,.i .u64 b.id,.i .u64 b.min,.i .u64 b.max,.i .u64 b.chosen,.i .u64 b.flags,.i .u64 b.cost,.i .u64 b.priority,.i .u64 b.deadline,.i .u64 b.retry,.i .u64 b.epoch,.i .u64 b.base,.i .u64 b.digest,.i .u64 b.lag,.i .u64 b.code,.i .u64 b.want,.i .i64 b.remaining,.b b.allowed,.s b.name,.s b.region,.s b.note,.l (b.d.map ent),.l (b.t.map row),.l r]=some out
theorem may_of (b:aF) {n:List UInt8} {p:Pl} (h:placeOf n=some p):mayB b n=mayP b p:=by unfold mayB;rw [h]
theorem may_remaining (b:aF) (r:List GV):MayIs b r 51 [.i .i64 0]:=by
 refine ay rfl rfl ?_
 simp
theorem may_allowed (b:aF) (r:List GV):MayIs b r 52 [.i .i64 0]:=by
 refine ay rfl rfl ?_
 simp
theorem may_name (b:aF) (r:List GV) (hb:qH b):MayIs b r 53 [.i .i64 0,.i .i64 (iY b.name 0 256)]:=by
 have h:=Dl b.name 0 256 hb.name
 refine ay rfl rfl ?_
 simp -implicitDefEqProofs [h]
theorem may_region (b:aF) (r:List GV) (hb:qH b):MayIs b r 54 [.i .i64 0,.i .i64 (iY b.region 0 256)]:=by
 have h:=Dl b.region 0 256 hb.region
 refine ay rfl rfl ?_
 simp -implicitDefEqProofs [h]
theorem may_note (b:aF) (r:List GV) (hb:qH b):MayIs b r 55 [.i .i64 0,.i .i64 (iY b.note 0 256)]:=by
 have h:=Dl b.note 0 256 hb.note
 refine ay rfl rfl ?_
 simp -implicitDefEqProofs [h]
theorem may_descr (b:aF) (r:List GV) (hb:qH b):MayIs b r 56 [.i .i64 0,.i .i64 (if b.d=[] then 0 else Aq b.d)]:=by
 have h:=check16 b.d hb.d
 refine ay rfl rfl ?_
 by_cases e:b.d=[]
 ·simp -implicitDefEqProofs [e]
 ·have e2:¬ (List.map ent b.d)=[]:=by simpa using e
  have e3:0 < b.d.length:=List.length_pos_iff.2 e
  simp -implicitDefEqProofs [e,h]
theorem may_table (b:aF) (r:List GV) (hb:qH b) (hf:∀r∈b.t,kE r.1=true):MayIs b r 57 [.i .i64 0,.i .i64 (Dp b.t)]:=by
 have h:=check37 b.t hb.t hf
 refine ay rfl rfl ?_
 simp -implicitDefEqProofs [h]
theorem may_id (b:aF) (r:List GV):MayIs b r 58 [.i .i64 0]:=by
 refine ay rfl rfl ?_
 simp
theorem may_min (b:aF) (r:List GV):MayIs b r 59 [.i .i64 0]:=by
 refine ay rfl rfl ?_
 simp
theorem may_max (b:aF) (r:List GV):MayIs b r 60 [.i .i64 0]:=by
 refine ay rfl rfl ?_
 simp
theorem may_chosen (b:aF) (r:List GV):MayIs b r 61 [.i .i64 0]:=by
 refine ay rfl rfl ?_
 simp
theorem may_flags (b:aF) (r:List GV):MayIs b r 62 [.i .i64 0]:=by
 refine ay rfl rfl ?_
 simp
theorem may_cost (b:aF) (r:List GV):MayIs b r 63 [.i .i64 0]:=by
 refine ay rfl rfl ?_
 simp
theorem may_priority (b:aF) (r:List GV):MayIs b r 64 [.i .i64 0]:=by
 refine ay rfl rfl ?_
 simp
theorem may_deadline (b:aF) (r:List GV):MayIs b r 65 [.i .i64 0]:=by
 refine ay rfl rfl ?_
 simp
theorem may_retry (b:aF) (r:List GV):MayIs b r 66 [.i .i64 0]:=by
 refine ay rfl rfl ?_
 simp
theorem may_epoch (b:aF) (r:List GV):MayIs b r 67 [.i .i64 0]:=by
 refine ay rfl rfl ?_
 simp
theorem may_base (b:aF) (r:List GV):MayIs b r 68 [.i .i64 0]:=by
 refine ay rfl rfl ?_
 simp
theorem may_digest (b:aF) (r:List GV):MayIs b r 69 [.i .i64 0]:=by
 refine ay rfl rfl ?_
 simp
theorem may_lag (b:aF) (r:List GV):MayIs b r 70 [.i .i64 0]:=by
 refine ay rfl rfl ?_
 simp
theorem may_code (b:aF) (r:List GV):MayIs b r 71 [.i .i64 0]:=by
 refine ay rfl rfl ?_
 simp
theorem may_want (b:aF) (r:List GV):MayIs b r 72 [.i .i64 0]:=by
 refine ay rfl rfl ?_
 simp
/-- One round of the third loop. -/
def Step2 (b:aF) (r:List GV) (n:List UInt8) (c:Int):Prop:=∀ (l:List ou) (i:Nat) (out:List GV) (h:i < l.length),((i:Int) < l.length)→IntKind.i64.wrap ((i:Int)+1)=(i:Int)+1→l[i].name=n→
 TT.lim 50 [.l (l.map qC),.i .i64 l.length,.i .i64 ((i:Int)+1),.i .i64 b.kind,.i .u64 b.id,.i .u64 b.min,.i .u64 b.max,.i .u64 b.chosen,.i .u64 b.flags,.i .u64 b.cost,.i .u64 b.priority,.i .u64 b.deadline,.i .u64 b.retry,.i .u64 b.epoch,.i .u64 b.base,.i .u64 b.digest,.i .u64 b.lag,.i .u64 b.code,.i .u64 b.want,.i .i64 b.remaining,.b b.allowed,.s b.name,.s b.region,.s b.note,.l (b.d.map ent),.l (b.t.map row),.l r]=some out→
 TT.lim 50 [.l (l.map qC),.i .i64 l.length,.i .i64 i,.i .i64 b.kind,.i .u64 b.id,.i .u64 b.min,.i .u64 b.max,.i .u64 b.chosen,.i .u64 b.flags,.i .u64 b.cost,.i .u64 b.priority,.i .u64 b.deadline,.i .u64 b.retry,.i .u64 b.epoch,.i .u64 b.base,.i .u64 b.digest,.i .u64 b.lag,.i .u64 b.code,.i .u64 b.want,.i .i64 b.remaining,.b b.allowed,.s b.name,.s b.region,.s b.note,.l (b.d.map ent),.l (b.t.map row),.l r]=some (if c=0 then out else [.i .i64 0,.i .i64 c])
theorem st2_remaining (b:aF) (r:List GV):Step2 b r kL 0:=by
 intro l i out h h1 hw hn ih
 have hm:=may_remaining b r
 unfold MayIs at hm
 unfold kL at *
 rw [if_pos rfl]
 refine ay rfl rfl ?_
 simp -implicitDefEqProofs [h1,h,hn,hw,hm,ih]
theorem st2_allowed (b:aF) (r:List GV):Step2 b r kK 0:=by
 intro l i out h h1 hw hn ih
 have hm:=may_allowed b r
 unfold MayIs at hm
 unfold kK at *
 rw [if_pos rfl]
 refine ay rfl rfl ?_
 simp -implicitDefEqProofs [h1,h,hn,hw,hm,ih]
theorem st2_name (b:aF) (r:List GV) (hb:qH b):Step2 b r jL (iY b.name 0 256):=by
 intro l i out h h1 hw hn ih
 have hm:=may_name b r hb
 unfold MayIs at hm
 unfold jL at *
 generalize (iY b.name 0 256)=c at *
 by_cases hc:c=0
 ·subst hc
  rw [if_pos rfl]
  refine ay rfl rfl ?_
  simp -implicitDefEqProofs [h1,h,hn,hw,hm,ih]
 ·rw [if_neg hc]
  refine ay rfl rfl ?_
  simp -implicitDefEqProofs [h1,h,hn,hw,hm,hc]
theorem st2_region (b:aF) (r:List GV) (hb:qH b):Step2 b r jP (iY b.region 0 256):=by
 intro l i out h h1 hw hn ih
 have hm:=may_region b r hb
 unfold MayIs at hm
 unfold jP at *
 generalize (iY b.region 0 256)=c at *
 by_cases hc:c=0
 ·subst hc
  rw [if_pos rfl]
  refine ay rfl rfl ?_
  simp -implicitDefEqProofs [h1,h,hn,hw,hm,ih]
 ·rw [if_neg hc]
  refine ay rfl rfl ?_
  simp -implicitDefEqProofs [h1,h,hn,hw,hm,hc]
theorem st2_note (b:aF) (r:List GV) (hb:qH b):Step2 b r jM (iY b.note 0 256):=by
 intro l i out h h1 hw hn ih
 have hm:=may_note b r hb
 unfold MayIs at hm
 unfold jM at *
 generalize (iY b.note 0 256)=c at *
 by_cases hc:c=0
 ·subst hc
  rw [if_pos rfl]
  refine ay rfl rfl ?_
  simp -implicitDefEqProofs [h1,h,hn,hw,hm,ih]
 ·rw [if_neg hc]
  refine ay rfl rfl ?_
  simp -implicitDefEqProofs [h1,h,hn,hw,hm,hc]
theorem st2_descr (b:aF) (r:List GV) (hb:qH b):Step2 b r jD (if b.d=[] then 0 else Aq b.d):=by
 intro l i out h h1 hw hn ih
 have hm:=may_descr b r hb
 unfold MayIs at hm
 unfold jD at *
 generalize (if b.d=[] then 0 else Aq b.d)=c at *
 by_cases hc:c=0
 ·subst hc
  rw [if_pos rfl]
  refine ay rfl rfl ?_
  simp -implicitDefEqProofs [h1,h,hn,hw,hm,ih]
 ·rw [if_neg hc]
  refine ay rfl rfl ?_
  simp -implicitDefEqProofs [h1,h,hn,hw,hm,hc]
theorem st2_table (b:aF) (r:List GV) (hb:qH b) (hf:∀r∈b.t,kE r.1=true):Step2 b r jR (Dp b.t):=by
 intro l i out h h1 hw hn ih
 have hm:=may_table b r hb hf
 unfold MayIs at hm
 unfold jR at *
 generalize (Dp b.t)=c at *
 by_cases hc:c=0
 ·subst hc
  rw [if_pos rfl]
  refine ay rfl rfl ?_
  simp -implicitDefEqProofs [h1,h,hn,hw,hm,ih]
 ·rw [if_neg hc]
  refine ay rfl rfl ?_
  simp -implicitDefEqProofs [h1,h,hn,hw,hm,hc]
theorem st2_id (b:aF) (r:List GV):Step2 b r jH 0:=by
 intro l i out h h1 hw hn ih
 have hm:=may_id b r
 unfold MayIs at hm
 unfold jH at *
 rw [if_pos rfl]
 refine ay rfl rfl ?_
 simp -implicitDefEqProofs [h1,h,hn,hw,hm,ih]
theorem st2_min (b:aF) (r:List GV):Step2 b r jK 0:=by
 intro l i out h h1 hw hn ih
 have hm:=may_min b r
 unfold MayIs at hm
 unfold jK at *
 rw [if_pos rfl]
 refine ay rfl rfl ?_
 simp -implicitDefEqProofs [h1,h,hn,hw,hm,ih]
theorem st2_max (b:aF) (r:List GV):Step2 b r jJ 0:=by
 intro l i out h h1 hw hn ih
 have hm:=may_max b r
 unfold MayIs at hm
 unfold jJ at *
 rw [if_pos rfl]
 refine ay rfl rfl ?_
 simp -implicitDefEqProofs [h1,h,hn,hw,hm,ih]
theorem st2_chosen (b:aF) (r:List GV):Step2 b r jy 0:=by
 intro l i out h h1 hw hn ih
 have hm:=may_chosen b r
 unfold MayIs at hm
 unfold jy at *
 rw [if_pos rfl]
 refine ay rfl rfl ?_
 simp -implicitDefEqProofs [h1,h,hn,hw,hm,ih]
theorem st2_flags (b:aF) (r:List GV):Step2 b r jG 0:=by
 intro l i out h h1 hw hn ih
 have hm:=may_flags b r
 unfold MayIs at hm
 unfold jG at *
 rw [if_pos rfl]
 refine ay rfl rfl ?_
 simp -implicitDefEqProofs [h1,h,hn,hw,hm,ih]
theorem st2_cost (b:aF) (r:List GV):Step2 b r jB 0:=by
 intro l i out h h1 hw hn ih
 have hm:=may_cost b r
 unfold MayIs at hm
 unfold jB at *
 rw [if_pos rfl]
 refine ay rfl rfl ?_
 simp -implicitDefEqProofs [h1,h,hn,hw,hm,ih]
theorem st2_priority (b:aF) (r:List GV):Step2 b r jO 0:=by
 intro l i out h h1 hw hn ih
 have hm:=may_priority b r
 unfold MayIs at hm
 unfold jO at *
 rw [if_pos rfl]
 refine ay rfl rfl ?_
 simp -implicitDefEqProofs [h1,h,hn,hw,hm,ih]
theorem st2_deadline (b:aF) (r:List GV):Step2 b r jC 0:=by
 intro l i out h h1 hw hn ih
 have hm:=may_deadline b r
 unfold MayIs at hm
 unfold jC at *
 rw [if_pos rfl]
 refine ay rfl rfl ?_
 simp -implicitDefEqProofs [h1,h,hn,hw,hm,ih]
theorem st2_retry (b:aF) (r:List GV):Step2 b r jQ 0:=by
 intro l i out h h1 hw hn ih
 have hm:=may_retry b r
 unfold MayIs at hm
 unfold jQ at *
 rw [if_pos rfl]
 refine ay rfl rfl ?_
 simp -implicitDefEqProofs [h1,h,hn,hw,hm,ih]
theorem st2_epoch (b:aF) (r:List GV):Step2 b r jF 0:=by
 intro l i out h h1 hw hn ih
 have hm:=may_epoch b r
 unfold MayIs at hm
 unfold jF at *
 rw [if_pos rfl]
 refine ay rfl rfl ?_
 simp -implicitDefEqProofs [h1,h,hn,hw,hm,ih]
theorem st2_base (b:aF) (r:List GV):Step2 b r jw 0:=by
 intro l i out h h1 hw hn ih
 have hm:=may_base b r
 unfold MayIs at hm
 unfold jw at *
 rw [if_pos rfl]
 refine ay rfl rfl ?_
 simp -implicitDefEqProofs [h1,h,hn,hw,hm,ih]
theorem st2_digest (b:aF) (r:List GV):Step2 b r jE 0:=by
 intro l i out h h1 hw hn ih
 have hm:=may_digest b r
 unfold MayIs at hm
 unfold jE at *
 rw [if_pos rfl]
 refine ay rfl rfl ?_
 simp -implicitDefEqProofs [h1,h,hn,hw,hm,ih]
theorem st2_lag (b:aF) (r:List GV):Step2 b r jI 0:=by
 intro l i out h h1 hw hn ih
 have hm:=may_lag b r
 unfold MayIs at hm
 unfold jI at *
 rw [if_pos rfl]
 refine ay rfl rfl ?_
 simp -implicitDefEqProofs [h1,h,hn,hw,hm,ih]
theorem st2_code (b:aF) (r:List GV):Step2 b r jA 0:=by
 intro l i out h h1 hw hn ih
 have hm:=may_code b r
 unfold MayIs at hm
 unfold jA at *
 rw [if_pos rfl]
 refine ay rfl rfl ?_
 simp -implicitDefEqProofs [h1,h,hn,hw,hm,ih]
theorem st2_want (b:aF) (r:List GV):Step2 b r jS 0:=by
 intro l i out h h1 hw hn ih
 have hm:=may_want b r
 unfold MayIs at hm
 unfold jS at *
 rw [if_pos rfl]
 refine ay rfl rfl ?_
 simp -implicitDefEqProofs [h1,h,hn,hw,hm,ih]
theorem step2_all (b:aF) (r:List GV) (hb:qH b) (hf:∀r∈b.t,kE r.1=true) (n:List UInt8):placeOf n≠none→Step2 b r n (mayB b n):=by
 refine KI (Q:=fun n=>placeOf n≠none→Step2 b r n (mayB b n)) (fun _=>by rw [may_of b xI];exact st2_remaining b r ) (fun _=>by rw [may_of b wV];exact st2_allowed b r ) (fun _=>by rw [may_of b xE];exact st2_name b r hb) (fun _=>by rw [may_of b xH];exact st2_region b r hb) (fun _=>by rw [may_of b xF];exact st2_note b r hb) (fun _=>by rw [may_of b zo];exact st2_descr b r hb) (fun _=>by rw [may_of b zq];exact st2_table b r hb hf) (fun _=>by rw [may_of b xw];exact st2_id b r ) (fun _=>by rw [may_of b xC];exact st2_min b r ) (fun _=>by rw [may_of b xB];exact st2_max b r ) (fun _=>by rw [may_of b wX];exact st2_chosen b r ) (fun _=>by rw [may_of b xu];exact st2_flags b r ) (fun _=>by rw [may_of b wZ];exact st2_cost b r ) (fun _=>by rw [may_of b xG];exact st2_priority b r ) (fun _=>by rw [may_of b xg];exact st2_deadline b r ) (fun _=>by rw [may_of b xJ];exact st2_retry b r ) (fun _=>by rw [may_of b xq];exact st2_epoch b r ) (fun _=>by rw [may_of b wW];exact st2_base b r ) (fun _=>by rw [may_of b xk];exact st2_digest b r ) (fun _=>by rw [may_of b xA];exact st2_lag b r ) (fun _=>by rw [may_of b wY];exact st2_code b r ) (fun _=>by rw [may_of b xK];exact st2_want b r ) (fun n e0 e1 e2 e3 e4 e5 e6 e7 e8 e9 e10 e11 e12 e13 e14 e15 e16 e17 e18 e19 e20 e21 h=>absurd (H7 n e0 e1 e2 e3 e4 e5 e6 e7 e8 e9 e10 e11 e12 e13 e14 e15 e16 e17 e18 e19 e20 e21) h) n
/-- The first thing that is wrong with the values of names. -/
def mayL (b:aF):List ou→Int
 | []=>0
 | s::l=>if mayB b s.name=0 then mayL b l else mayB b s.name
theorem mchk2 (b:aF) (r:List GV) (hb:qH b) (hf:∀r∈b.t,kE r.1=true) (l:List ou) (hlen:l.length≤1000) (hns:∀s∈l,placeOf s.name≠none):∀ (m i:Nat),i+m=l.length→
 TT.lim 50 [.l (l.map qC),.i .i64 l.length,.i .i64 i,.i .i64 b.kind,.i .u64 b.id,.i .u64 b.min,.i .u64 b.max,.i .u64 b.chosen,.i .u64 b.flags,.i .u64 b.cost,.i .u64 b.priority,.i .u64 b.deadline,.i .u64 b.retry,.i .u64 b.epoch,.i .u64 b.base,.i .u64 b.digest,.i .u64 b.lag,.i .u64 b.code,.i .u64 b.want,.i .i64 b.remaining,.b b.allowed,.s b.name,.s b.region,.s b.note,.l (b.d.map ent),.l (b.t.map row),.l r]=some (if mayL b (l.drop i)=0 then [.i .i64 1] else [.i .i64 0,.i .i64 (mayL b (l.drop i))])
 | 0,i,hi=>by
  have h0:l.drop i=[]:=List.drop_eq_nil_of_le (by omega)
  refine ay rfl rfl ?_
  have h:¬ ((i:Int) < l.length):=by omega
  simp -implicitDefEqProofs [h,h0,mayL]
 | m+1,i,hi=>by
  have hlt:i < l.length:=by omega
  have ih:=mchk2 b r hb hf l hlen hns m (i+1) (by omega)
  have hcast:((i:Int)+1)=((i+1:Nat):Int):=by omega
  rw [← hcast] at ih
  have:=step2_all b r hb hf l[i].name (hns _ (List.getElem_mem hlt)) l i _ hlt (by omega) (wrap64 (n:=(i:Int)+1) (by omega) (by omega)) rfl ih
  rw [this,List.drop_eq_getElem_cons hlt]
  by_cases hc:mayB b l[i].name=0
  ·have hm:mayL b (l[i]::l.drop (i+1))=mayL b (l.drop (i+1)):=by simp only [mayL,hc,if_true]
   rw [if_pos hc,hm]
  ·have hm:mayL b (l[i]::l.drop (i+1))=mayB b l[i].name:=by simp only [mayL,hc,if_false]
   rw [if_neg hc,hm,if_neg hc]
def hasTag (l:List ou) (t:Int):Bool:=l.any fun s=>decide (t=s.tag)
theorem mchk30 (l:List ou) (hlen:l.length≤1000) (a1 a2 a3:GV) (t:Int) (a7 a8 a9 a10:GV):∀ (m i:Nat),i+m=l.length→
 TT.lim 78 [.l (l.map qC),a1,a2,a3,.i .i64 l.length,.i .i64 i,.i .u64 t,a7,a8,a9,a10]=some (if hasTag (l.drop i) t=true then [.i .i64 0] else [.i .i64 1])
 | 0,i,hi=>by
  have h0:l.drop i=[]:=List.drop_eq_nil_of_le (by omega)
  refine ay rfl rfl ?_
  have h:¬ ((i:Int) < l.length):=by omega
  simp -implicitDefEqProofs [h,h0,hasTag]
 | m+1,i,hi=>by
  have hlt:i < l.length:=by omega
  have ih:=mchk30 l hlen a1 a2 a3 t a7 a8 a9 a10 m (i+1) (by omega)
  have hcast:((i:Int)+1)=((i+1:Nat):Int):=by omega
  rw [← hcast] at ih
  have h1:((i:Int) < l.length):=by omega
  have hw:=wrap64 (n:=(i:Int)+1) (by omega) (by omega)
  have hd:hasTag (l.drop i) t=(decide (t=l[i].tag) || hasTag (l.drop (i+1)) t):=by rw [List.drop_eq_getElem_cons hlt];rfl
  rw [hd]
  generalize hasTag (l.drop (i+1)) t=X at *
  refine ay rfl rfl ?_
  by_cases hc:t=l[i].tag
  ·simp -implicitDefEqProofs [h1,hlt,hc]
  ·simp -implicitDefEqProofs [h1,hlt,hc,hw,ih]
theorem mchk3 (l:List ou) (hlen:l.length≤1000) (fl:List bH) (hfl:fl.length≤1000000):∀ (m i:Nat),i+m=fl.length→
 TT.lim 77 [.l (l.map qC),.l (aV fl),.i .i64 fl.length,.i .i64 i]=some (if (fl.drop i).any (fun f=>hasTag l f.tag)=true then [.i .i64 0] else [.i .i64 1])
 | 0,i,hi=>by
  have h0:fl.drop i=[]:=List.drop_eq_nil_of_le (by omega)
  refine ay rfl rfl ?_
  have h:¬ ((i:Int) < fl.length):=by omega
  simp -implicitDefEqProofs [h,h0]
 | m+1,i,hi=>by
  have hlt:i < fl.length:=by omega
  have ih:=mchk3 l hlen fl hfl m (i+1) (by omega)
  have hcast:((i:Int)+1)=((i+1:Nat):Int):=by omega
  rw [← hcast] at ih
  have h1:((i:Int) < fl.length):=by omega
  have hw:=wrap64 (n:=(i:Int)+1) (by omega) (by omega)
  have hd:(fl.drop i).any (fun f=>hasTag l f.tag)=(hasTag l fl[i].tag || (fl.drop (i+1)).any (fun f=>hasTag l f.tag)):=by rw [List.drop_eq_getElem_cons hlt,List.any_cons]
  rw [hd]
  have hget:(aV fl)[i]? = some (oM fl[i]):=by rw [LJ,List.getElem?_map,List.getElem?_eq_getElem hlt];rfl
  clear hd
  obtain ⟨t,y,n,s,k,hfi⟩:∃t y n s k,fl[i]=bH.mk t y n s k:=by
   cases fl[i] with
   | mk t y n s k=>exact ⟨_,_,_,_,_,rfl⟩
  rw [hfi] at hget ⊢
  rw [show (bH.mk t y n s k).tag=t from rfl]
  have h3:TT.lim 78 [.l (l.map qC),.l (aV fl),.i .i64 fl.length,.i .i64 i,.i .i64 l.length,.i .i64 0,.i .u64 t,.i .i64 y,.i .u64 n,.s s,.l (aV k)]=_:=mchk30 l hlen _ _ _ t _ _ _ _ l.length 0 (by omega)
  rw [List.drop_zero] at h3
  refine ay rfl rfl ?_
  by_cases hc:hasTag l t=true
  ·rw [if_pos hc] at h3
   simp -implicitDefEqProofs [-List.any_eq_true,h1,hget,h3,hc]
  ·rw [if_neg hc] at h3
   have hc:hasTag l t=false:=by simpa using hc
   simp -implicitDefEqProofs [-List.any_eq_true,h1,hget,h3,hw,ih,hc]
def boundsF (b:aF):Int:=
 if b.kind=1 then (if b.min < 1 then 18 else if b.max < b.min then 18 else if 255 < b.max then 18 else 0)
 else if b.kind=2 then (if b.chosen < 1 then 18 else if 255 < b.chosen then 18 else 0)
 else if b.kind=3 then (if b.d=[] then 12 else 0)
 else if b.kind=5 then (if b.epoch < 1 then 18 else 0)
 else if b.kind=6 then (if b.base < 1 then 18 else if b.epoch≤b.base then 20 else 0)
 else 0
/-- What is said of a message at a version. -/
def restM (sp:List ou) (fl:List bH):Int:=if chkFL 0 0 fl≠0 then chkFL 0 0 fl else if fl.any (fun f=>hasTag sp f.tag)=true then 14 else 0
def checkM (b:aF) (fl:List bH) (v:Int):Int:=
 if v < 1 then 16 else if 3 < v then 16 else
 if knownF b.kind v=[] then 15 else
 if fV.all (fun n=>hasN (knownF b.kind v) n || nothB b n)=false then 26 else
 if mayL b (knownF b.kind v)≠0 then mayL b (knownF b.kind v) else
 if boundsF b≠0 then boundsF b else restM (knownF b.kind v) fl
theorem names_place:∀n∈fV,placeOf n≠none:=by decide
theorem known_place (k v:Int):∀s∈knownF k v,placeOf s.name≠none:=by
 have key:∀s∈nZ k,placeOf s.name≠none:=by
  unfold nZ
  repeat' split
  all_goals first | (unfold sp1;decide) | (unfold sp2;decide) | (unfold Jo;decide) | (unfold Jp;decide) | (unfold Jq;decide) | (unfold Jr;decide) | (unfold Js;decide) | (unfold Jt;decide) | (intro s hs;cases hs)
 intro s hs
 exact key s (List.mem_filter.1 hs).1
theorem known_len (k v:Int):(knownF k v).length≤8:=Nat.le_trans (List.length_filter_le _ _) (als k)
set_option maxHeartbeats 4000000 in
theorem mcheck_ok (b:aF) (fl:List bH) (v:Int) (hb:qH b) (hf:∀r∈b.t,kE r.1=true) (hok:ig fl) (hlen:fl.length≤1000000):TT.lim 35 [aK b (aV fl),.i .i64 v]=some [.i .i64 (checkM b fl v)]:=by
 have hk:=kfrom_ok b.kind
 refine aA rfl rfl ?_ rfl
 unfold checkM
 by_cases v1:v < 1
 ·simp -implicitDefEqProofs [v1]
 by_cases v3:3 < v
 ·simp -implicitDefEqProofs [v1,v3]
 rw [if_neg v1,if_neg v3]
 have hnil:=known_nil b.kind v (by omega) (by omega)
 by_cases k0:fromK b.kind=0
 ·rw [if_pos (hnil.2 (.inl k0))]
  rw [k0] at hk
  simp -implicitDefEqProofs [v1,v3,hk]
 by_cases k1:v < fromK b.kind
 ·rw [if_pos (hnil.2 (.inr k1))]
  simp -implicitDefEqProofs [v1,v3,hk,k0,k1]
 rw [if_neg (fun e=>(hnil.1 e).elim k0 k1)]
 have hkn:=kknown_ok b.kind v (by omega) (by omega) (by omega)
 have hpl:=known_place b.kind v
 have hl8:=known_len b.kind v
 clear hnil
 generalize knownF b.kind v=sp at *
 have hnm:=ahM
 have h0:=mchk0 b (aV fl) sp (by omega) sp.length 0 [] (by omega)
 have h1:=mchk1 b (aV fl) (.l (sp.map qC)) fV (by decide) names_place (insAll [] sp) fV.length 0 (by omega)
 have h2:=mchk2 b (aV fl) hb hf sp (by omega) hpl sp.length 0 (by omega)
 have h3:=mchk3 sp (by omega) fl hlen fl.length 0 (by omega)
 have h4:=fcheck_ok fl hok hlen
 rw [List.drop_zero] at h0 h1 h2 h3
 simp only [mem_hasN] at h1
 have hnl:(fV.map GV.s).length=fV.length:=List.length_map _
 have hfl:=qp fl
 rw [← hfl] at h3
 generalize hX:insAll [] sp=ps at *
 have h0':TT.lim 47 [.l (sp.map qC),.i .i64 sp.length,.i .i64 0,.l [],.i .i64 b.kind,.i .u64 b.id,.i .u64 b.min,.i .u64 b.max,.i .u64 b.chosen,.i .u64 b.flags,.i .u64 b.cost,.i .u64 b.priority,.i .u64 b.deadline,.i .u64 b.retry,.i .u64 b.epoch,.i .u64 b.base,.i .u64 b.digest,.i .u64 b.lag,.i .u64 b.code,.i .u64 b.want,.i .i64 b.remaining,.b b.allowed,.s b.name,.s b.region,.s b.note,.l (b.d.map ent),.l (b.t.map row),.l (aV fl)]=some [.i .i64 0,.l (encM ps)]:=h0
 clear h0
 have h1':TT.lim 49 [.l (sp.map qC),.l (fV.map .s),.i .i64 fV.length,.i .i64 0,.l (encM ps),.i .i64 b.kind,.i .u64 b.id,.i .u64 b.min,.i .u64 b.max,.i .u64 b.chosen,.i .u64 b.flags,.i .u64 b.cost,.i .u64 b.priority,.i .u64 b.deadline,.i .u64 b.retry,.i .u64 b.epoch,.i .u64 b.base,.i .u64 b.digest,.i .u64 b.lag,.i .u64 b.code,.i .u64 b.want,.i .i64 b.remaining,.b b.allowed,.s b.name,.s b.region,.s b.note,.l (b.d.map ent),.l (b.t.map row),.l (aV fl)]=_:=h1
 clear h1
 have h2':TT.lim 50 [.l (sp.map qC),.i .i64 sp.length,.i .i64 0,.i .i64 b.kind,.i .u64 b.id,.i .u64 b.min,.i .u64 b.max,.i .u64 b.chosen,.i .u64 b.flags,.i .u64 b.cost,.i .u64 b.priority,.i .u64 b.deadline,.i .u64 b.retry,.i .u64 b.epoch,.i .u64 b.base,.i .u64 b.digest,.i .u64 b.lag,.i .u64 b.code,.i .u64 b.want,.i .i64 b.remaining,.b b.allowed,.s b.name,.s b.region,.s b.note,.l (b.d.map ent),.l (b.t.map row),.l (aV fl)]=_:=h2
 clear h2
 have h3':TT.lim 77 [.l (sp.map qC),.l (aV fl),.i .i64 (aV fl).length,.i .i64 0]=_:=h3
 clear h3
 have hr:restM sp fl=if chkFL 0 0 fl≠0 then chkFL 0 0 fl else if fl.any (fun f=>hasTag sp f.tag)=true then 14 else 0:=rfl
 generalize (fV.all fun n=>hasN sp n || nothB b n)=A at *
 generalize mayL b sp=M at *
 generalize chkFL 0 0 fl=F at *
 generalize (fl.any fun f=>hasTag sp f.tag)=W at *
 generalize restM sp fl=R at *
 generalize fV=NL at *
 have hcommon:∀ (x:GV),True:=fun _=>trivial
 cases A with
 | false=>
  simp only [Bool.false_eq_true,if_false] at h1'
  simp -implicitDefEqProofs [v1,v3,hk,k0,k1,hkn,hnm,h0',h1']
 | true=>
 simp only [if_true] at h1'
 by_cases hM:M=0
 rotate_left
 ·rw [if_neg hM] at h2'
  simp -implicitDefEqProofs [v1,v3,hk,k0,k1,hkn,hnm,h0',h1',h2',hM]
 rw [if_pos hM] at h2'
 rw [if_neg (by simp),if_neg (by simp [hM])]
 clear hM
 -- the rest of it
 have key:∀ (c:Int),boundsF b=c→c≠0→True:=fun _ _ _=>trivial
 unfold boundsF
 by_cases e1:b.kind=1
 ·have e1:=eq_true e1
  by_cases c1:b.min < 1
  ·simp -implicitDefEqProofs [v1,v3,hk,k0,k1,hkn,hnm,h0',h1',h2',e1,c1]
  by_cases c2:b.max < b.min
  ·simp -implicitDefEqProofs [v1,v3,hk,k0,k1,hkn,hnm,h0',h1',h2',e1,c1,c2]
  by_cases c3:255 < b.max
  ·simp -implicitDefEqProofs [v1,v3,hk,k0,k1,hkn,hnm,h0',h1',h2',e1,c1,c2,c3]
  simp only [e1,c1,c2,c3,if_true,if_false,ne_eq,not_true_eq_false]
  rw [hr]
  by_cases hF:F=0
  ·subst hF
   cases W with
   | true=>simp only [if_true] at h3';simp [v1,v3,hk,k0,k1,hkn,hnm,h0',h1',h2',e1,c1,c2,c3,h4,h3']
   | false=>simp only [Bool.false_eq_true,if_false] at h3';simp [v1,v3,hk,k0,k1,hkn,hnm,h0',h1',h2',e1,c1,c2,c3,h4,h3']
  ·simp -implicitDefEqProofs [v1,v3,hk,k0,k1,hkn,hnm,h0',h1',h2',e1,c1,c2,c3,h4,hF]
 by_cases e2:b.kind=2
 ·have e2:=eq_true e2
  by_cases c1:b.chosen < 1
  ·simp -implicitDefEqProofs [v1,v3,hk,k0,k1,hkn,hnm,h0',h1',h2',e1,e2,c1]
  by_cases c2:255 < b.chosen
  ·simp -implicitDefEqProofs [v1,v3,hk,k0,k1,hkn,hnm,h0',h1',h2',e1,e2,c1,c2]
  simp only [e1,e2,c1,c2,if_true,if_false,ne_eq,not_true_eq_false]
  rw [hr]
  by_cases hF:F=0
  ·subst hF
   cases W with
   | true=>simp only [if_true] at h3';simp [v1,v3,hk,k0,k1,hkn,hnm,h0',h1',h2',e1,e2,c1,c2,h4,h3']
   | false=>simp only [Bool.false_eq_true,if_false] at h3';simp [v1,v3,hk,k0,k1,hkn,hnm,h0',h1',h2',e1,e2,c1,c2,h4,h3']
  ·simp -implicitDefEqProofs [v1,v3,hk,k0,k1,hkn,hnm,h0',h1',h2',e1,e2,c1,c2,h4,hF]
 by_cases e3:b.kind=3
 ·have e3:=eq_true e3
  by_cases c1:b.d=[]
  ·have c1:=eq_true c1
   simp -implicitDefEqProofs [v1,v3,hk,k0,k1,hkn,hnm,h0',h1',h2',e1,e2,e3,c1]
  simp only [e1,e2,e3,c1,if_true,if_false,ne_eq,not_true_eq_false]
  rw [hr]
  by_cases hF:F=0
  ·subst hF
   cases W with
   | true=>simp only [if_true] at h3';simp [v1,v3,hk,k0,k1,hkn,hnm,h0',h1',h2',e1,e2,e3,c1,h4,h3']
   | false=>simp only [Bool.false_eq_true,if_false] at h3';simp [v1,v3,hk,k0,k1,hkn,hnm,h0',h1',h2',e1,e2,e3,c1,h4,h3']
  ·simp -implicitDefEqProofs [v1,v3,hk,k0,k1,hkn,hnm,h0',h1',h2',e1,e2,e3,c1,h4,hF]
 by_cases e5:b.kind=5
 ·have e5:=eq_true e5
  by_cases c1:b.epoch < 1
  ·simp -implicitDefEqProofs [v1,v3,hk,k0,k1,hkn,hnm,h0',h1',h2',e1,e2,e3,e5,c1]
  simp only [e1,e2,e3,e5,c1,if_true,if_false,ne_eq,not_true_eq_false]
  rw [hr]
  by_cases hF:F=0
  ·subst hF
   cases W with
   | true=>simp only [if_true] at h3';simp [v1,v3,hk,k0,k1,hkn,hnm,h0',h1',h2',e1,e2,e3,e5,c1,h4,h3']
   | false=>simp only [Bool.false_eq_true,if_false] at h3';simp [v1,v3,hk,k0,k1,hkn,hnm,h0',h1',h2',e1,e2,e3,e5,c1,h4,h3']
  ·simp -implicitDefEqProofs [v1,v3,hk,k0,k1,hkn,hnm,h0',h1',h2',e1,e2,e3,e5,c1,h4,hF]
 by_cases e6:b.kind=6
 ·have e6:=eq_true e6
  by_cases c1:b.base < 1
  ·simp -implicitDefEqProofs [v1,v3,hk,k0,k1,hkn,hnm,h0',h1',h2',e1,e2,e3,e5,e6,c1]
  by_cases c2:b.epoch≤b.base
  ·simp -implicitDefEqProofs [v1,v3,hk,k0,k1,hkn,hnm,h0',h1',h2',e1,e2,e3,e5,e6,c1,c2]
  simp only [e1,e2,e3,e5,e6,c1,c2,if_true,if_false,ne_eq,not_true_eq_false]
  rw [hr]
  by_cases hF:F=0
  ·subst hF
   cases W with
   | true=>simp only [if_true] at h3';simp [v1,v3,hk,k0,k1,hkn,hnm,h0',h1',h2',e1,e2,e3,e5,e6,c1,c2,h4,h3']
   | false=>simp only [Bool.false_eq_true,if_false] at h3';simp [v1,v3,hk,k0,k1,hkn,hnm,h0',h1',h2',e1,e2,e3,e5,e6,c1,c2,h4,h3']
  ·simp -implicitDefEqProofs [v1,v3,hk,k0,k1,hkn,hnm,h0',h1',h2',e1,e2,e3,e5,e6,c1,c2,h4,hF]
 simp only [e1,e2,e3,e5,e6,if_false,ne_eq,not_true_eq_false]
 rw [hr]
 by_cases hF:F=0
 ·subst hF
  cases W with
  | true=>simp only [if_true] at h3';simp [v1,v3,hk,k0,k1,hkn,hnm,h0',h1',h2',e1,e2,e3,e5,e6,h4,h3']
  | false=>simp only [Bool.false_eq_true,if_false] at h3';simp [v1,v3,hk,k0,k1,hkn,hnm,h0',h1',h2',e1,e2,e3,e5,e6,h4,h3']
 ·simp -implicitDefEqProofs [v1,v3,hk,k0,k1,hkn,hnm,h0',h1',h2',e1,e2,e3,e5,e6,h4,hF]
/-- The numbers with a sign, written by their bits. -/
theorem zz_bits (x:Int) (h0 : -9223372036854775808≤x) (h1:x≤9223372036854775807):∃u w:Int,IntKind.u64.wrap x=u∧IntKind.u64.wrap (x.fdiv (2 ^ 63))=w∧fF .xor .u64 (IntKind.u64.wrap (u * 2 ^ 1)) w=some (.i .u64 (zz x)):=by
 have wr:∀y:Int,IntKind.u64.wrap y=y % 18446744073709551616:=fun y=>by simp [IntKind.wrap,IntKind.signed,IntKind.bits]
 refine ⟨_,_,rfl,rfl, ?_⟩
 rw [wr,wr,wr]
 unfold zz
 have hb:IntKind.u64.bits=64:=rfl
 by_cases h:0≤x
 ·have e1:x.fdiv (2 ^ 63)=0:=by
   rw [Int.fdiv_eq_ediv_of_nonneg _ (by decide)]
   exact Int.ediv_eq_zero_of_lt h (by omega)
  rw [e1,if_pos h]
  have e2:x % 18446744073709551616 * 2 ^ 1 % 18446744073709551616=2 * x:=by omega
  rw [e2]
  simp only [fF,wr,hb]
  have e3:(BitVec.ofInt 64 (2 * x) ^^^ BitVec.ofInt 64 (0 % 18446744073709551616))=BitVec.ofInt 64 (2 * x):=by
   have:BitVec.ofInt 64 (0 % 18446744073709551616)=0#64:=rfl
   rw [this,BitVec.xor_zero]
  show some (GV.i IntKind.u64 (((BitVec.ofInt 64 (2 * x) ^^^ BitVec.ofInt 64 (0 % 18446744073709551616)).toNat:Int) % 18446744073709551616))=_
  rw [e3,BitVec.toNat_ofInt]
  congr 2
  omega
 ·have e1:x.fdiv (2 ^ 63) = -1:=by
   rw [Int.fdiv_eq_ediv_of_nonneg _ (by decide)]
   omega
  rw [e1,if_neg h]
  have e2:x % 18446744073709551616 * 2 ^ 1 % 18446744073709551616=2 * x+18446744073709551616:=by omega
  rw [e2]
  simp only [fF,wr,hb]
  have e3:(BitVec.ofInt 64 (2 * x+18446744073709551616) ^^^ BitVec.ofInt 64 (-1 % 18446744073709551616)) = ~~~ BitVec.ofInt 64 (2 * x+18446744073709551616):=by
   have:BitVec.ofInt 64 (-1 % 18446744073709551616)=BitVec.allOnes 64:=by decide
   rw [this,BitVec.xor_allOnes]
  show some (GV.i IntKind.u64 (((BitVec.ofInt 64 (2 * x+18446744073709551616) ^^^ BitVec.ofInt 64 (-1 % 18446744073709551616)).toNat:Int) % 18446744073709551616))=_
  rw [e3,BitVec.toNat_not,BitVec.toNat_ofInt]
  congr 2
  omega
def ValIs (b:aF) (r:List GV) (n:List UInt8) (p:Pl):Prop:=TT.lim 20 [aK b r,.s n]=some [.g [.i .u64 0,.i .i64 (aO p),.i .u64 (gq b p).1,.s (gq b p).2,.l []],.b true]
theorem val_id (b:aF) (r:List GV):ValIs b r jH (.num 0):=by
 unfold ValIs
 show _=some [GV.g [.i .u64 0,.i .i64 0,.i .u64 b.id,.s [],.l []],GV.b true]
 unfold jH
 refine aA rfl rfl ?_ rfl
 simp
theorem val_min (b:aF) (r:List GV):ValIs b r jK (.num 1):=by
 unfold ValIs
 show _=some [GV.g [.i .u64 0,.i .i64 0,.i .u64 b.min,.s [],.l []],GV.b true]
 unfold jK
 refine aA rfl rfl ?_ rfl
 simp
theorem val_max (b:aF) (r:List GV):ValIs b r jJ (.num 2):=by
 unfold ValIs
 show _=some [GV.g [.i .u64 0,.i .i64 0,.i .u64 b.max,.s [],.l []],GV.b true]
 unfold jJ
 refine aA rfl rfl ?_ rfl
 simp
theorem val_chosen (b:aF) (r:List GV):ValIs b r jy (.num 3):=by
 unfold ValIs
 show _=some [GV.g [.i .u64 0,.i .i64 0,.i .u64 b.chosen,.s [],.l []],GV.b true]
 unfold jy
 refine aA rfl rfl ?_ rfl
 simp
theorem val_flags (b:aF) (r:List GV):ValIs b r jG (.num 4):=by
 unfold ValIs
 show _=some [GV.g [.i .u64 0,.i .i64 0,.i .u64 b.flags,.s [],.l []],GV.b true]
 unfold jG
 refine aA rfl rfl ?_ rfl
 simp
theorem val_cost (b:aF) (r:List GV):ValIs b r jB (.num 5):=by
 unfold ValIs
 show _=some [GV.g [.i .u64 0,.i .i64 0,.i .u64 b.cost,.s [],.l []],GV.b true]
 unfold jB
 refine aA rfl rfl ?_ rfl
 simp
theorem val_priority (b:aF) (r:List GV):ValIs b r jO (.num 6):=by
 unfold ValIs
 show _=some [GV.g [.i .u64 0,.i .i64 0,.i .u64 b.priority,.s [],.l []],GV.b true]
 unfold jO
 refine aA rfl rfl ?_ rfl
 simp
theorem val_deadline (b:aF) (r:List GV):ValIs b r jC (.num 7):=by
 unfold ValIs
 show _=some [GV.g [.i .u64 0,.i .i64 0,.i .u64 b.deadline,.s [],.l []],GV.b true]
 unfold jC
 refine aA rfl rfl ?_ rfl
 simp
theorem val_retry (b:aF) (r:List GV):ValIs b r jQ (.num 8):=by
 unfold ValIs
 show _=some [GV.g [.i .u64 0,.i .i64 0,.i .u64 b.retry,.s [],.l []],GV.b true]
 unfold jQ
 refine aA rfl rfl ?_ rfl
 simp
theorem val_epoch (b:aF) (r:List GV):ValIs b r jF (.num 9):=by
 unfold ValIs
 show _=some [GV.g [.i .u64 0,.i .i64 0,.i .u64 b.epoch,.s [],.l []],GV.b true]
 unfold jF
 refine aA rfl rfl ?_ rfl
 simp
theorem val_base (b:aF) (r:List GV):ValIs b r jw (.num 10):=by
 unfold ValIs
 show _=some [GV.g [.i .u64 0,.i .i64 0,.i .u64 b.base,.s [],.l []],GV.b true]
 unfold jw
 refine aA rfl rfl ?_ rfl
 simp
theorem val_digest (b:aF) (r:List GV):ValIs b r jE (.num 11):=by
 unfold ValIs
 show _=some [GV.g [.i .u64 0,.i .i64 0,.i .u64 b.digest,.s [],.l []],GV.b true]
 unfold jE
 refine aA rfl rfl ?_ rfl
 simp
theorem val_lag (b:aF) (r:List GV):ValIs b r jI (.num 12):=by
 unfold ValIs
 show _=some [GV.g [.i .u64 0,.i .i64 0,.i .u64 b.lag,.s [],.l []],GV.b true]
 unfold jI
 refine aA rfl rfl ?_ rfl
 simp
theorem val_code (b:aF) (r:List GV):ValIs b r jA (.num 13):=by
 unfold ValIs
 show _=some [GV.g [.i .u64 0,.i .i64 0,.i .u64 b.code,.s [],.l []],GV.b true]
 unfold jA
 refine aA rfl rfl ?_ rfl
 simp
theorem val_want (b:aF) (r:List GV):ValIs b r jS (.num 14):=by
 unfold ValIs
 show _=some [GV.g [.i .u64 0,.i .i64 0,.i .u64 b.want,.s [],.l []],GV.b true]
 unfold jS
 refine aA rfl rfl ?_ rfl
 simp
theorem val_name (b:aF) (r:List GV):ValIs b r jL .name:=by
 unfold ValIs
 show _=some [GV.g [.i .u64 0,.i .i64 1,.i .u64 0,.s b.name,.l []],GV.b true]
 unfold jL
 refine aA rfl rfl ?_ rfl
 simp
theorem val_region (b:aF) (r:List GV):ValIs b r jP .region:=by
 unfold ValIs
 show _=some [GV.g [.i .u64 0,.i .i64 1,.i .u64 0,.s b.region,.l []],GV.b true]
 unfold jP
 refine aA rfl rfl ?_ rfl
 simp
theorem val_note (b:aF) (r:List GV):ValIs b r jM .note:=by
 unfold ValIs
 show _=some [GV.g [.i .u64 0,.i .i64 1,.i .u64 0,.s b.note,.l []],GV.b true]
 unfold jM
 refine aA rfl rfl ?_ rfl
 simp
theorem val_allowed (b:aF) (r:List GV):ValIs b r kK .allow:=by
 unfold ValIs
 unfold kK
 refine aA rfl rfl ?_ rfl
 cases hc:b.allowed<;>simp [aO,gq,hc]
theorem val_remaining (b:aF) (r:List GV) (hb:qH b):ValIs b r kL .rem:=by
 unfold ValIs
 obtain ⟨u,w,h1,h2,h3⟩:=zz_bits b.remaining hb.remaining.1 hb.remaining.2
 show _=some [GV.g [.i .u64 0,.i .i64 0,.i .u64 (zz b.remaining),.s [],.l []],GV.b true]
 have h2:IntKind.u64.wrap (b.remaining.fdiv 9223372036854775808)=w:=h2
 have h3:fF .xor .u64 (IntKind.u64.wrap (u * 2)) w=some (.i .u64 (zz b.remaining)):=h3
 unfold kL
 refine aA rfl rfl ?_ rfl
 simp -implicitDefEqProofs [mW,h1,h2,h3,IntKind.bits]
theorem val_descr (b:aF) (r:List GV) (hf:kE b.d=true):ValIs b r jD .d:=by
 unfold ValIs
 have hk:=agP b.d hf
 have e:gq b .d=(0,if b.d=[] then [] else qy b.d):=rfl
 rw [e]
 unfold jD
 refine aA rfl rfl ?_ rfl
 by_cases e:b.d=[]
 ·have e':=eq_true e
  simp -implicitDefEqProofs [aO,e']
 ·simp -implicitDefEqProofs [aO,e,hk]
theorem val_table (b:aF) (r:List GV) (hb:qH b) (hf:zN b.t):ValIs b r jR .t:=by
 unfold ValIs
 have hk:=kputP b.t hb.t hf
 have e:gq b .t=(0,if b.t=[] then [] else (aiN b.t).1):=rfl
 rw [e]
 unfold jR
 refine aA rfl rfl ?_ rfl
 by_cases e:b.t=[]
 ·have e':=eq_true e
  simp -implicitDefEqProofs [aO,e']
 ·simp -implicitDefEqProofs [aO,e,hk]
theorem mval_none (b:aF) (r:List GV) (n:List UInt8) (e0:¬ n=kL) (e1:¬ n=kK) (e2:¬ n=jL) (e3:¬ n=jP) (e4:¬ n=jM) (e5:¬ n=jD) (e6:¬ n=jR) (e7:¬ n=jH) (e8:¬ n=jK) (e9:¬ n=jJ) (e10:¬ n=jy) (e11:¬ n=jG) (e12:¬ n=jB) (e13:¬ n=jO) (e14:¬ n=jC) (e15:¬ n=jQ) (e16:¬ n=jF) (e17:¬ n=jw) (e18:¬ n=jE) (e19:¬ n=jI) (e20:¬ n=jA) (e21:¬ n=jS):TT.lim 20 [aK b r,.s n]=some [.g [.i .u64 0,.i .i64 0,.i .u64 0,.s [],.l []],.b false]:=by
 unfold kL kK jL jP jM jD jR jH jK jJ jy jG jB jO jC jQ jF jw jE jI jA jS at *
 refine aA rfl rfl ?_ rfl
 simp -implicitDefEqProofs [e0,e1,e2,e3,e4,e5,e6,e7,e8,e9,e10,e11,e12,e13,e14,e15,e16,e17,e18,e19,e20,e21]
theorem LP:∀ (n:Nat) (l:List One) (deep:Int),(∀x∈l,vN x∧x.text.length≤300)→l.length≤1000000→ig (dS n l deep).1
 | 0,l,deep,_,_=>by simp only [dS,ig]
 | n+1,[],deep,_,_=>by simp only [dS,ig]
 | n+1,x::l,deep,h,hl=>by
  have hx:=h x (by simp)
  have hl':∀y∈l,vN y∧y.text.length≤300:=fun y hy=>h y (by simp [hy])
  have hx1:=hx.1
  unfold vN at hx1
  simp only [List.length_cons] at hl
  simp only [dS]
  split
  ·have hp:ig (if x.deep=255 then (([]:List bH),l) else dS n l (x.deep+1)).1∧(if x.deep=255 then (([]:List bH),l) else dS n l (x.deep+1)).1.length≤1000000∧∃k,(if x.deep=255 then (([]:List bH),l) else dS n l (x.deep+1)).2=l.drop k:=by
    split
    ·exact ⟨by simp only [ig],by simp,0,rfl⟩
    ·have:=AO n l (x.deep+1)
     exact ⟨LP n l _ hl' (by omega),by omega,this.2⟩
   obtain ⟨p1,p2,k,p3⟩:=hp
   simp only [ig,AL]
   refine ⟨⟨⟨hx1.2.2.2.2.1,hx1.2.2.2.2.2.1,hx1.2.2.1,hx1.2.2.2.1,hx1.2.2.2.2.2.2.1,hx1.2.2.2.2.2.2.2.1,hx.2,p2⟩,p1⟩, ?_⟩
   rw [p3]
   exact LP n (l.drop k) deep (fun y hy=>hl' y (List.mem_of_mem_drop hy)) (by rw [List.length_drop];omega)
  ·simp only [ig]
theorem ahb (l:List One) (hl:Ones l) (hf:qQ l=true):ig (lX l)∧(lX l).length≤1000000:=by
 unfold qQ at hf
 rw [Bool.and_eq_true,decide_eq_true_iff,List.all_eq_true] at hf
 refine ⟨LP _ l 0 (fun x hx=>⟨hl.2 x hx,by simpa using hf.1 x hx⟩) (by omega), ?_⟩
 have:=AO (l.length+1) l 0
 unfold lX
 omega
abbrev It:=Int×Int×List UInt8
def ZR (a b:It):Bool:=if a.1=b.1 then decide (a.2.1 < b.2.1) else decide (a.1 < b.1)
def leI (a b:It):Prop:=ZR b a=false
theorem leI_iff (a b:It):leI a b↔a.1 < b.1∨(a.1=b.1∧a.2.1≤b.2.1):=by
 unfold leI ZR
 split
 ·next h=>simp;omega
 ·next h=>simp;omega
theorem leI_trans {a b c:It} (h1:leI a b) (h2:leI b c):leI a c:=by rw [leI_iff] at *;omega
theorem leI_of_lt {a b:It} (h:ZR a b=true):leI a b:=by
 rw [leI_iff]
 unfold ZR at h
 split at h
 ·next e=>have:=of_decide_eq_true h;omega
 ·next e=>have:=of_decide_eq_true h;omega
theorem leI_at {a b:It} (h:leI a b):a.1≤b.1:=by rw [leI_iff] at h;omega
def dI:It:=(0,0,[])
abbrev at_ (h:List It) (i:Nat):It:=h.getD i dI
def swapL (h:List It) (i j:Nat):List It:=(h.set i (at_ h j)).set j (at_ h i)
theorem swapL_len (h:List It) (i j:Nat):(swapL h i j).length=h.length:=by simp [swapL]
theorem at_swap (h:List It) {i j:Nat} (hi:i < h.length) (hj:j < h.length) (k:Nat):at_ (swapL h i j) k=if k=j then at_ h i else if k=i then at_ h j else at_ h k:=by
 unfold swapL at_
 simp only [List.getD_eq_getElem?_getD,List.getElem?_set,List.length_set]
 by_cases h1:k=j
 ·subst h1;simp [hj]
 ·have h1':¬ j=k:=fun e=>h1 e.symm
  rw [if_neg h1',if_neg h1]
  by_cases h2:k=i
  ·subst h2;simp [hi]
  ·have h2':¬ i=k:=fun e=>h2 e.symm
   rw [if_neg h2',if_neg h2]
theorem swap_perm (h:List It) {i j:Nat} (hi:i < h.length) (hj:j < h.length):(swapL h i j).Perm h:=by
 have:=Array.swap_perm (xs:=h.toArray) (i:=i) (j:=j) (by simpa using hi) (by simpa using hj)
 have h2:=this.toList
 simp only [Array.toList_swap] at h2
 unfold swapL at_
 simpa [List.getD_eq_getElem?_getD,hi,hj] using h2
def par (k:Nat):Nat:=(k - 1) / 2
def Heap (h:List It) (n:Nat):Prop:=∀k,0 < k→k < n→leI (at_ h (par k)) (at_ h k)
def upF:Nat→List It→Nat→List It
 | 0,h,_=>h
 | f+1,h,j=>if par j=j∨ZR (at_ h j) (at_ h (par j))=false then h else upF f (swapL h (par j) j) (par j)
structure UpOk (h:List It) (n j:Nat):Prop where
 jn:j < n
 heap:∀k,0 < k→k < n→k≠j→leI (at_ h (par k)) (at_ h k)
 kids:∀k,0 < k→k < n→par k=j→0 < j→leI (at_ h (par j)) (at_ h k)
theorem up_ok:∀ (f:Nat) (h:List It) (j n:Nat),j < f→n=h.length→UpOk h n j→Heap (upF f h j) n∧(upF f h j).Perm h
 | 0,h,j,n,hf,_,_=>by omega
 | f+1,h,j,n,hf,hn,hu=>by
  unfold upF
  split
  ·next hc=>
   refine ⟨fun k h0 hk=>?_,List.Perm.refl _⟩
   by_cases e:k=j
   ·subst e
    rcases hc with hc | hc
    ·unfold par at hc;omega
    ·exact hc
   ·exact hu.heap k h0 hk e
  ·next hc=>
   rw [not_or] at hc
   obtain ⟨c1,c2⟩:=hc
   have c2:ZR (at_ h j) (at_ h (par j))=true:=by simpa using c2
   have j0:0 < j:=by
    rcases Nat.eq_zero_or_pos j with e | e
    ·subst e;exact absurd rfl c1
    ·exact e
   have hp:par j < j:=by unfold par;omega
   have hjn:=hu.jn
   have hsw:=at_swap h (i:=par j) (j:=j) (by omega) (by omega)
   have hu2:UpOk (swapL h (par j) j) n (par j):=by
    refine ⟨by omega,fun k h0 hk hne=>?_,fun k h0 hk hpk hp0=>?_⟩
    ·rw [hsw,hsw]
     by_cases e1:k=j
     ·subst e1
      rw [if_neg (by omega),if_pos rfl,if_pos rfl]
      exact leI_of_lt c2
     ·rw [if_neg e1,if_neg hne]
      by_cases e2:par k=j
      ·rw [if_pos e2]
       exact hu.kids k h0 hk e2 j0
      ·rw [if_neg e2]
       by_cases e3:par k=par j
       ·rw [if_pos e3]
        exact leI_trans (leI_of_lt c2) (e3 ▸ hu.heap k h0 hk e1)
       ·rw [if_neg e3]
        exact hu.heap k h0 hk e1
    ·rw [hsw,hsw]
     have q:par (par j) < par j:=by unfold par at *;omega
     rw [if_neg (by omega),if_neg (by omega)]
     have hg:=hu.heap (par j) hp0 (by omega) (by omega)
     by_cases e1:k=j
     ·subst e1
      rw [if_pos rfl]
      exact hg
     ·rw [if_neg e1,if_neg (fun e=>by rw [e] at hpk;omega)]
      exact leI_trans hg (hpk ▸ hu.heap k h0 hk e1)
   obtain ⟨r1,r2⟩:=up_ok f (swapL h (par j) j) (par j) n (by omega) (by rw [swapL_len];exact hn) hu2
   exact ⟨r1,r2.trans (swap_perm h (by omega) (by omega))⟩
def pushF (h:List It) (x:It):List It:=upF (h.length+1) (h++[x]) h.length
theorem push_ok (h:List It) (x:It) (hh:Heap h h.length):Heap (pushF h x) (h.length+1)∧(pushF h x).Perm (h++[x]):=by
 refine up_ok _ _ _ _ (by omega) (by simp) ⟨by omega,fun k h0 hk hne=>?_,fun k h0 hk hpk _=>?_⟩
 ·have hk2:k < h.length:=by omega
  have e1:at_ (h++[x]) k=at_ h k:=by simp [at_,List.getElem?_append_left (show k < h.length by omega)]
  have e2:at_ (h++[x]) (par k)=at_ h (par k):=by simp [at_,List.getElem?_append_left (show par k < h.length by unfold par;omega)]
  rw [e1,e2]
  exact hh k h0 (by omega)
 ·exfalso;unfold par at hpk;omega
theorem pushF_len (h:List It) (x:It) (hh:Heap h h.length):(pushF h x).length=h.length+1:=by
 have:=(push_ok h x hh).2.length_eq
 simpa using this
structure Qh (h L:List It) (n:Int):Prop where
 heap:Heap h h.length
 perm:L.Perm h
 srt:L.Pairwise (fun x y=>ZR x y=true)
 low:∀x∈L,x.2.1 < n
theorem Qh.len {h L:List It} {n:Int} (s:Qh h L n):h.length=L.length:=s.perm.length_eq.symm
def insL (x:It):List It→List It
 | []=>[x]
 | y::L=>if y.1≤x.1 then y::insL x L else x::y::L
theorem insL_perm (x:It):∀L,(insL x L).Perm (L++[x])
 | []=>List.Perm.refl _
 | y::L=>by
  unfold insL
  split
  ·exact (insL_perm x L).cons y
  ·exact List.perm_append_comm (l₁:=[x]) (l₂:=y::L)
theorem ltI_num {y x:It} (h:y.1≤x.1) (h2:y.2.1 < x.2.1):ZR y x=true:=by
 unfold ZR
 split
 ·simpa using h2
 ·simp;omega
theorem ltI_first {y x:It} (h:x.1 < y.1):ZR x y=true:=by
 unfold ZR
 rw [if_neg (by omega)]
 simpa using h
theorem ltI_at {x y:It} (h:ZR x y=true):x.1≤y.1:=leI_at (leI_of_lt h)
theorem insL_srt (x:It):∀L:List It,L.Pairwise (fun a b=>ZR a b=true)→(∀y∈L,y.2.1 < x.2.1)→(insL x L).Pairwise (fun a b=>ZR a b=true)
 | [],_,_=>by simp [insL]
 | y::L,hs,hlow=>by
  obtain ⟨h1,h2⟩:=List.pairwise_cons.1 hs
  unfold insL
  split
  ·next hc=>
   refine List.pairwise_cons.2 ⟨fun z hz=>?_,insL_srt x L h2 fun z hz=>hlow z (List.mem_cons_of_mem _ hz)⟩
   rcases List.mem_append.1 ((insL_perm x L).mem_iff.1 hz) with g | g
   ·exact h1 z g
   ·rw [List.mem_singleton] at g
    subst g
    exact ltI_num hc (hlow y List.mem_cons_self)
  ·next hc=>
   refine List.pairwise_cons.2 ⟨fun z hz=>?_,hs⟩
   rcases List.mem_cons.1 hz with rfl | g
   ·exact ltI_first (by omega)
   ·exact ltI_first (by have:=ltI_at (h1 z g);omega)
theorem Qh.put {h L:List It} {n a:Int} {t:List UInt8} (s:Qh h L n):Qh (pushF h (a,n,t)) (insL (a,n,t) L) (n+1):=by
 have hp:=push_ok h (a,n,t) s.heap
 have hl:=pushF_len h (a,n,t) s.heap
 refine ⟨by rw [hl];exact hp.1,(insL_perm _ _).trans ((s.perm.append_right _).trans hp.2.symm),insL_srt _ _ s.srt s.low,fun x hx=>?_⟩
 rcases List.mem_append.1 ((insL_perm _ _).mem_iff.1 hx) with g | g
 ·have:=s.low x g;omega
 ·rw [List.mem_singleton] at g
  subst g
  show n < n+1
  omega
/-- What may be kept. -/
structure Kp (k:List Sn):Prop where
 len:k.length≤8
 tb:∀s∈k,Tb s.2
 pos:∀s∈k,0 < s.1∧s.1 < 18446744073709551616
 rise:k.Pairwise fun a b=>a.1 < b.1∧Qv b.2 a.2=true
theorem Kp.drop {k:List Sn} (hk:Kp k) (i:Nat):Kp (k.drop i):=
 ⟨by have:=hk.len;rw [List.length_drop];omega,fun s hs=>hk.tb s (List.mem_of_mem_drop hs),fun s hs=>hk.pos s (List.mem_of_mem_drop hs),hk.rise.sublist (List.drop_sublist i k)⟩
end B
end Go.Proofs.YtpkihgnabejkkaaGreatDoor
