/- What the trees compute: plain laws. -/
import Derived.Test.YthgifdbaegpbpaaGreatDoorKQe2
namespace Go.Proofs.YthgifdbaegpbpaaGreatDoor
open Go Go.aP
set_option linter.unusedSimpArgs false
set_option linter.unusedVariables false
set_option maxRecDepth 100000
namespace Q
inductive Pl where
 | rem | allow | name | region | note | d | t
 | num (k:Nat)
def lg:List UInt8:=[114,101,109,97,105,110,105,110,103]
def kZ:List UInt8:=[97,108,108,111,119,101,100]
def jw:List UInt8:=[110,97,109,101]
def jA:List UInt8:=[114,101,103,105,111,110]
def jy:List UInt8:=[110,111,116,101]
def jS:List UInt8:=[100,101,115,99,114]
def kD:List UInt8:=[116,97,98,108,101]
def jW:List UInt8:=[105,100]
def jZ:List UInt8:=[109,105,110]
def jY:List UInt8:=[109,97,120]
def jO:List UInt8:=[99,104,111,115,101,110]
def jV:List UInt8:=[102,108,97,103,115]
def jQ:List UInt8:=[99,111,115,116]
def ku:List UInt8:=[112,114,105,111,114,105,116,121]
def jR:List UInt8:=[100,101,97,100,108,105,110,101]
def kC:List UInt8:=[114,101,116,114,121]
def jU:List UInt8:=[101,112,111,99,104]
def jM:List UInt8:=[98,97,115,101]
def jT:List UInt8:=[100,105,103,101,115,116]
def jX:List UInt8:=[108,97,103]
def jP:List UInt8:=[99,111,100,101]
def kE:List UInt8:=[119,97,110,116]
def placeOf (n:List UInt8):Option Pl:=
 if n=lg then some .rem else if n=kZ then some .allow else if n=jw then some .name else if n=jA then some .region else if n=jy then some .note else if n=jS then some .d else if n=kD then some .t else if n=jW then some (.num 0) else if n=jZ then some (.num 1) else if n=jY then some (.num 2) else if n=jO then some (.num 3) else if n=jV then some (.num 4) else if n=jQ then some (.num 5) else if n=ku then some (.num 6) else if n=jR then some (.num 7) else if n=kC then some (.num 8) else if n=jU then some (.num 9) else if n=jM then some (.num 10) else if n=jT then some (.num 11) else if n=jX then some (.num 12) else if n=jP then some (.num 13) else if n=kE then some (.num 14) else none
theorem yY:placeOf lg=some .rem:=rfl
theorem yJ:placeOf kZ=some .allow:=rfl
theorem wR:placeOf jw=some .name:=rfl
theorem wU:placeOf jA=some .region:=rfl
theorem wS:placeOf jy=some .note:=rfl
theorem wQ:placeOf jS=some .d:=rfl
theorem wV:placeOf kD=some .t:=rfl
theorem yS:placeOf jW=some (.num 0):=rfl
theorem yV:placeOf jZ=some (.num 1):=rfl
theorem yU:placeOf jY=some (.num 2):=rfl
theorem yL:placeOf jO=some (.num 3):=rfl
theorem yR:placeOf jV=some (.num 4):=rfl
theorem yN:placeOf jQ=some (.num 5):=rfl
theorem yX:placeOf ku=some (.num 6):=rfl
theorem yO:placeOf jR=some (.num 7):=rfl
theorem yZ:placeOf kC=some (.num 8):=rfl
theorem yQ:placeOf jU=some (.num 9):=rfl
theorem yK:placeOf jM=some (.num 10):=rfl
theorem yP:placeOf jT=some (.num 11):=rfl
theorem yT:placeOf jX=some (.num 12):=rfl
theorem yM:placeOf jP=some (.num 13):=rfl
theorem y7:placeOf kE=some (.num 14):=rfl
def bQ (b:ay) (k:Nat):Int:=match k with
 | 0=>b.id
 | 1=>b.min
 | 2=>b.max
 | 3=>b.chosen
 | 4=>b.flags
 | 5=>b.cost
 | 6=>b.priority
 | 7=>b.deadline
 | 8=>b.retry
 | 9=>b.epoch
 | 10=>b.base
 | 11=>b.digest
 | 12=>b.lag
 | 13=>b.code
 | _=>b.want
def dV (b:ay):Pl→Bool
 | .rem=>decide (b.remaining=0)
 | .allow=>!b.allowed
 | .name=>decide (b.name=[])
 | .region=>decide (b.region=[])
 | .note=>decide (b.note=[])
 | .d=>decide (b.d=[])
 | .t=>decide (b.t=[])
 | .num k=>decide (bQ b k=0)
def fD (b:ay) (n:List UInt8):Bool:=match placeOf n with
 | some p=>dV b p
 | none=>true
def QD (b:ay):Pl→Int
 | .name=>iY b.name 0 256
 | .region=>iY b.region 0 256
 | .note=>iY b.note 0 256
 | .d=>if b.d=[] then 0 else og b.d
 | .t=>nC b.t
 | _=>0
def jv (b:ay) (n:List UInt8):Int:=match placeOf n with
 | some p=>QD b p
 | none=>0
def zz (x:Int):Int:=if 0≤x then 2 * x else -2 * x - 1
def aT (b:ay):Pl→Int×List UInt8
 | .rem=>(zz b.remaining,[])
 | .allow=>(if b.allowed=true then 1 else 0,[])
 | .name=>(0,b.name)
 | .region=>(0,b.region)
 | .note=>(0,b.note)
 | .d=>(0,if b.d=[] then [] else dK b.d)
 | .t=>(0,if b.t=[] then [] else (wY b.t).1)
 | .num k=>(bQ b k,[])
def eF:Pl→Int
 | .num _=>0
 | .rem=>0
 | .allow=>0
 | _=>1
def gV:Pl→Int
 | .num _=>0
 | .allow=>1
 | .rem=>2
 | .d=>4
 | .t=>5
 | _=>3
/-- A cascade over all names. -/
theorem BP {Q:List UInt8→Prop} (aiE:Q lg) (ain:Q kZ) (aiA:Q jw) (aiD:Q jA) (aiB:Q jy) (ais:Q jS) (aiG:Q kD) (aiw:Q jW) (aiz:Q jZ) (aiy:Q jY) (aio:Q jO) (aiv:Q jV) (aiq:Q jQ) (aiC:Q ku) (air:Q jR) (aiF:Q kC) (aiu:Q jU) (h_base:Q jM) (ait:Q jT) (aix:Q jX) (aip:Q jP) (aiH:Q kE) (h0:∀n,¬ n=lg→¬ n=kZ→¬ n=jw→¬ n=jA→¬ n=jy→¬ n=jS→¬ n=kD→¬ n=jW→¬ n=jZ→¬ n=jY→¬ n=jO→¬ n=jV→¬ n=jQ→¬ n=ku→¬ n=jR→¬ n=kC→¬ n=jU→¬ n=jM→¬ n=jT→¬ n=jX→¬ n=jP→¬ n=kE→Q n) (n:List UInt8):Q n:=by
 by_cases aaz:n=lg
 ·rw [aaz];exact aiE
 by_cases aah:n=kZ
 ·rw [aah];exact ain
 by_cases aav:n=jw
 ·rw [aav];exact aiA
 by_cases aay:n=jA
 ·rw [aay];exact aiD
 by_cases aaw:n=jy
 ·rw [aaw];exact aiB
 by_cases aan:n=jS
 ·rw [aan];exact ais
 by_cases aaB:n=kD
 ·rw [aaB];exact aiG
 by_cases aar:n=jW
 ·rw [aar];exact aiw
 by_cases aau:n=jZ
 ·rw [aau];exact aiz
 by_cases aat:n=jY
 ·rw [aat];exact aiy
 by_cases aaj:n=jO
 ·rw [aaj];exact aio
 by_cases aaq:n=jV
 ·rw [aaq];exact aiv
 by_cases aal:n=jQ
 ·rw [aal];exact aiq
 by_cases aax:n=ku
 ·rw [aax];exact aiC
 by_cases aam:n=jR
 ·rw [aam];exact air
 by_cases aaA:n=kC
 ·rw [aaA];exact aiF
 by_cases aap:n=jU
 ·rw [aap];exact aiu
 by_cases aai:n=jM
 ·rw [aai];exact h_base
 by_cases aao:n=jT
 ·rw [aao];exact ait
 by_cases aas:n=jX
 ·rw [aas];exact aix
 by_cases aak:n=jP
 ·rw [aak];exact aip
 by_cases aaC:n=kE
 ·rw [aaC];exact aiH
 exact h0 n aaz aah aav aay aaw aan aaB aar aau aat aaj aaq aal aax aam aaA aap aai aao aas aak aaC
theorem AP (n:List UInt8) (e0:¬ n=lg) (e1:¬ n=kZ) (e2:¬ n=jw) (e3:¬ n=jA) (e4:¬ n=jy) (e5:¬ n=jS) (e6:¬ n=kD) (e7:¬ n=jW) (e8:¬ n=jZ) (e9:¬ n=jY) (e10:¬ n=jO) (e11:¬ n=jV) (e12:¬ n=jQ) (e13:¬ n=ku) (e14:¬ n=jR) (e15:¬ n=kC) (e16:¬ n=jU) (e17:¬ n=jM) (e18:¬ n=jT) (e19:¬ n=jX) (e20:¬ n=jP) (e21:¬ n=kE):placeOf n=none:=by
 unfold placeOf
 rw [if_neg e0,if_neg e1,if_neg e2,if_neg e3,if_neg e4,if_neg e5,if_neg e6,if_neg e7,if_neg e8,if_neg e9,if_neg e10,if_neg e11,if_neg e12,if_neg e13,if_neg e14,if_neg e15,if_neg e16,if_neg e17,if_neg e18,if_neg e19,if_neg e20,if_neg e21]
def oL (ps:List (List UInt8)):List GV:=ps.map fun p=>.g [.s p,.b true]
def uO (ps:List (List UInt8)) (x:List UInt8):List (List UInt8):=if x∈ps then ps else ps++[x]
theorem NP (n:List UInt8):∀ps:List (List UInt8),lX (.s n) (oL ps)=if n∈ps then some (.b true) else none
 | []=>rfl
 | p::ps=>by
  have ih:=NP n ps
  simp only [oL,List.map_cons,lX,yB] at ih ⊢
  by_cases e:n=p
  ·subst e;simp
  ·have e2:¬ p=n:=fun h=>e h.symm
   simp -implicitDefEqProofs [e,ih]
theorem ac3 (x:List UInt8):∀ps:List (List UInt8),rO (.s x) (.b true) (oL ps)=oL (uO ps x)
 | []=>rfl
 | p::ps=>by
  have ih:=ac3 x ps
  unfold uO at ih ⊢
  simp only [oL,List.map_cons,rO,yB] at ih ⊢
  by_cases e:x=p
  ·subst e;simp
  ·have e1:(x==p)=false:=by simpa using e
   simp only [e1,Bool.false_eq_true,if_false]
   rw [ih]
   by_cases hm:x∈ps
   ·simp only [hm,if_true,List.mem_cons,or_true,List.map_cons]
   ·simp only [hm,if_false,List.mem_cons,e,or_false,List.cons_append,List.map_cons]
def sU (ps:List (List UInt8)) (l:List dh):List (List UInt8):=l.foldl (fun ps s=>uO ps s.name) ps
theorem akE (n x:List UInt8) (ps:List (List UInt8)):n∈uO ps x↔n∈ps∨x=n:=by
 unfold uO
 split
 ·next h=>exact ⟨.inl,fun e=>e.elim id (fun e=>e ▸ h)⟩
 ·simp -implicitDefEqProofs [eq_comm]
theorem acv (n:List UInt8):∀ (l:List dh) (ps:List (List UInt8)),n∈sU ps l↔n∈ps∨∃s∈l,s.name=n
 | [],ps=>by simp [sU]
 | s::l,ps=>by
  have:=acv n l (uO ps s.name)
  unfold sU at this ⊢
  rw [List.foldl_cons,this,akE]
  simp -implicitDefEqProofs [or_assoc]
def nK (l:List dh) (n:List UInt8):Bool:=l.any fun s=>decide (s.name=n)
theorem akD (n:List UInt8) (l:List dh):decide (n∈sU [] l)=nK l n:=by
 rw [Bool.eq_iff_iff,decide_eq_true_iff,acv]
 simp -implicitDefEqProofs [nK]
theorem aco (b:ay) (r:List GV) (l:List dh) (hl:l.length≤1000):∀ (m i:Nat) (ps:List (List UInt8)),i+m=l.length→
 TT.lim 41 [.l (l.map bG),.i .i64 l.length,.i .i64 i,.l (oL ps),.i .i64 b.kind,.i .u64 b.id,.i .u64 b.min,.i .u64 b.max,.i .u64 b.chosen,.i .u64 b.flags,.i .u64 b.cost,.i .u64 b.priority,.i .u64 b.deadline,.i .u64 b.retry,.i .u64 b.epoch,.i .u64 b.base,.i .u64 b.digest,.i .u64 b.lag,.i .u64 b.code,.i .u64 b.want,.i .i64 b.remaining,.b b.allowed,.s b.name,.s b.region,.s b.note,.l (b.d.map ent),.l (b.t.map row),.l r]=some [.i .i64 0,.l (oL (sU ps (l.drop i)))]
 | 0,i,ps,hi=>by
  have h0:l.drop i=[]:=List.drop_eq_nil_of_le (by omega)
  refine aA rfl rfl ?_
  have h:¬ ((i:Int) < l.length):=by omega
  simp -implicitDefEqProofs [h,h0,sU]
 | m+1,i,ps,hi=>by
  have hlt:i < l.length:=by omega
  have ih:=aco b r l hl m (i+1) (uO ps l[i].name) (by omega)
  have hcast:((i:Int)+1)=((i+1:Nat):Int):=by omega
  rw [← hcast] at ih
  have hp:=ac3 l[i].name ps
  have hd:sU ps (l.drop i)=sU (uO ps l[i].name) (l.drop (i+1)):=by
   rw [List.drop_eq_getElem_cons hlt];rfl
  rw [hd]
  generalize sU (uO ps l[i].name) (l.drop (i+1))=X at *
  generalize oL (uO ps l[i].name)=Y at *
  refine aA rfl rfl ?_
  have h:((i:Int) < l.length):=by omega
  have hw:=wrap64 (n:=(i:Int)+1) (by omega) (by omega)
  simp -implicitDefEqProofs [h,hlt,hw,hp,ih]
/-- One round of the second loop. -/
def jF (b:ay) (r:List GV) (n:List UInt8) (c:Prop):Prop:=∀ (sp:GV) (ns:List (List UInt8)) (i:Nat) (ps:List (List UInt8)) (out:List GV) (h:i < ns.length),((i:Int) < ns.length)→IntKind.i64.wrap ((i:Int)+1)=(i:Int)+1→ns[i]=n→lX (.s n) (oL ps)=none→
 TT.lim 43 [sp,.l (ns.map .s),.i .i64 ns.length,.i .i64 ((i:Int)+1),.l (oL ps),.i .i64 b.kind,.i .u64 b.id,.i .u64 b.min,.i .u64 b.max,.i .u64 b.chosen,.i .u64 b.flags,.i .u64 b.cost,.i .u64 b.priority,.i .u64 b.deadline,.i .u64 b.retry,.i .u64 b.epoch,.i .u64 b.base,.i .u64 b.digest,.i .u64 b.lag,.i .u64 b.code,.i .u64 b.want,.i .i64 b.remaining,.b b.allowed,.s b.name,.s b.region,.s b.note,.l (b.d.map ent),.l (b.t.map row),.l r]=some out→
 (c→TT.lim 43 [sp,.l (ns.map .s),.i .i64 ns.length,.i .i64 i,.l (oL ps),.i .i64 b.kind,.i .u64 b.id,.i .u64 b.min,.i .u64 b.max,.i .u64 b.chosen,.i .u64 b.flags,.i .u64 b.cost,.i .u64 b.priority,.i .u64 b.deadline,.i .u64 b.retry,.i .u64 b.epoch,.i .u64 b.base,.i .u64 b.digest,.i .u64 b.lag,.i .u64 b.code,.i .u64 b.want,.i .i64 b.remaining,.b b.allowed,.s b.name,.s b.region,.s b.note,.l (b.d.map ent),.l (b.t.map row),.l r]=some out)∧(¬ c→TT.lim 43 [sp,.l (ns.map .s),.i .i64 ns.length,.i .i64 i,.l (oL ps),.i .i64 b.kind,.i .u64 b.id,.i .u64 b.min,.i .u64 b.max,.i .u64 b.chosen,.i .u64 b.flags,.i .u64 b.cost,.i .u64 b.priority,.i .u64 b.deadline,.i .u64 b.retry,.i .u64 b.epoch,.i .u64 b.base,.i .u64 b.digest,.i .u64 b.lag,.i .u64 b.code,.i .u64 b.want,.i .i64 b.remaining,.b b.allowed,.s b.name,.s b.region,.s b.note,.l (b.d.map ent),.l (b.t.map row),.l r]=some [.i .i64 0])
theorem aos (b:ay) (r:List GV):jF b r lg (b.remaining=0):=by
 intro sp ns i ps out h h1 hw hn ha ih
 unfold lg at *
 refine ⟨fun hc=>aA rfl rfl ?_,fun hc=>aA rfl rfl ?_⟩
 ·have hc:=eq_true hc
  simp -implicitDefEqProofs [h1,h,hn,hw,ha,hc,ih]
 ·simp -implicitDefEqProofs [h1,h,hn,ha,hc]
theorem aoa (b:ay) (r:List GV):jF b r kZ (b.allowed=false):=by
 intro sp ns i ps out h h1 hw hn ha ih
 unfold kZ at *
 refine ⟨fun hc=>aA rfl rfl ?_,fun hc=>aA rfl rfl ?_⟩
 ·rw [hc] at ih
  simp -implicitDefEqProofs [h1,h,hn,hw,ha,hc,ih]
 ·simp -implicitDefEqProofs [h1,h,hn,ha,hc]
theorem aoo (b:ay) (r:List GV):jF b r jw (b.name=[]):=by
 intro sp ns i ps out h h1 hw hn ha ih
 unfold jw at *
 refine ⟨fun hc=>aA rfl rfl ?_,fun hc=>aA rfl rfl ?_⟩
 ·have hc:=eq_true hc
  simp -implicitDefEqProofs [h1,h,hn,hw,ha,hc,ih]
 ·simp -implicitDefEqProofs [h1,h,hn,ha,hc]
theorem aor (b:ay) (r:List GV):jF b r jA (b.region=[]):=by
 intro sp ns i ps out h h1 hw hn ha ih
 unfold jA at *
 refine ⟨fun hc=>aA rfl rfl ?_,fun hc=>aA rfl rfl ?_⟩
 ·have hc:=eq_true hc
  simp -implicitDefEqProofs [h1,h,hn,hw,ha,hc,ih]
 ·simp -implicitDefEqProofs [h1,h,hn,ha,hc]
theorem aop (b:ay) (r:List GV):jF b r jy (b.note=[]):=by
 intro sp ns i ps out h h1 hw hn ha ih
 unfold jy at *
 refine ⟨fun hc=>aA rfl rfl ?_,fun hc=>aA rfl rfl ?_⟩
 ·have hc:=eq_true hc
  simp -implicitDefEqProofs [h1,h,hn,hw,ha,hc,ih]
 ·simp -implicitDefEqProofs [h1,h,hn,ha,hc]
theorem aog (b:ay) (r:List GV):jF b r jS (b.d=[]):=by
 intro sp ns i ps out h h1 hw hn ha ih
 unfold jS at *
 refine ⟨fun hc=>aA rfl rfl ?_,fun hc=>aA rfl rfl ?_⟩
 ·have hc:=eq_true hc
  simp -implicitDefEqProofs [h1,h,hn,hw,ha,hc,ih]
 ·simp -implicitDefEqProofs [h1,h,hn,ha,hc]
theorem aou (b:ay) (r:List GV):jF b r kD (b.t=[]):=by
 intro sp ns i ps out h h1 hw hn ha ih
 unfold kD at *
 refine ⟨fun hc=>aA rfl rfl ?_,fun hc=>aA rfl rfl ?_⟩
 ·have hc:=eq_true hc
  simp -implicitDefEqProofs [h1,h,hn,hw,ha,hc,ih]
 ·simp -implicitDefEqProofs [h1,h,hn,ha,hc]
theorem aok (b:ay) (r:List GV):jF b r jW (b.id=0):=by
 intro sp ns i ps out h h1 hw hn ha ih
 unfold jW at *
 refine ⟨fun hc=>aA rfl rfl ?_,fun hc=>aA rfl rfl ?_⟩
 ·have hc:=eq_true hc
  simp -implicitDefEqProofs [h1,h,hn,hw,ha,hc,ih]
 ·simp -implicitDefEqProofs [h1,h,hn,ha,hc]
theorem aon (b:ay) (r:List GV):jF b r jZ (b.min=0):=by
 intro sp ns i ps out h h1 hw hn ha ih
 unfold jZ at *
 refine ⟨fun hc=>aA rfl rfl ?_,fun hc=>aA rfl rfl ?_⟩
 ·have hc:=eq_true hc
  simp -implicitDefEqProofs [h1,h,hn,hw,ha,hc,ih]
 ·simp -implicitDefEqProofs [h1,h,hn,ha,hc]
theorem aom (b:ay) (r:List GV):jF b r jY (b.max=0):=by
 intro sp ns i ps out h h1 hw hn ha ih
 unfold jY at *
 refine ⟨fun hc=>aA rfl rfl ?_,fun hc=>aA rfl rfl ?_⟩
 ·have hc:=eq_true hc
  simp -implicitDefEqProofs [h1,h,hn,hw,ha,hc,ih]
 ·simp -implicitDefEqProofs [h1,h,hn,ha,hc]
theorem aoc (b:ay) (r:List GV):jF b r jO (b.chosen=0):=by
 intro sp ns i ps out h h1 hw hn ha ih
 unfold jO at *
 refine ⟨fun hc=>aA rfl rfl ?_,fun hc=>aA rfl rfl ?_⟩
 ·have hc:=eq_true hc
  simp -implicitDefEqProofs [h1,h,hn,hw,ha,hc,ih]
 ·simp -implicitDefEqProofs [h1,h,hn,ha,hc]
theorem aoj (b:ay) (r:List GV):jF b r jV (b.flags=0):=by
 intro sp ns i ps out h h1 hw hn ha ih
 unfold jV at *
 refine ⟨fun hc=>aA rfl rfl ?_,fun hc=>aA rfl rfl ?_⟩
 ·have hc:=eq_true hc
  simp -implicitDefEqProofs [h1,h,hn,hw,ha,hc,ih]
 ·simp -implicitDefEqProofs [h1,h,hn,ha,hc]
theorem aoe (b:ay) (r:List GV):jF b r jQ (b.cost=0):=by
 intro sp ns i ps out h h1 hw hn ha ih
 unfold jQ at *
 refine ⟨fun hc=>aA rfl rfl ?_,fun hc=>aA rfl rfl ?_⟩
 ·have hc:=eq_true hc
  simp -implicitDefEqProofs [h1,h,hn,hw,ha,hc,ih]
 ·simp -implicitDefEqProofs [h1,h,hn,ha,hc]
theorem aoq (b:ay) (r:List GV):jF b r ku (b.priority=0):=by
 intro sp ns i ps out h h1 hw hn ha ih
 unfold ku at *
 refine ⟨fun hc=>aA rfl rfl ?_,fun hc=>aA rfl rfl ?_⟩
 ·have hc:=eq_true hc
  simp -implicitDefEqProofs [h1,h,hn,hw,ha,hc,ih]
 ·simp -implicitDefEqProofs [h1,h,hn,ha,hc]
theorem aof (b:ay) (r:List GV):jF b r jR (b.deadline=0):=by
 intro sp ns i ps out h h1 hw hn ha ih
 unfold jR at *
 refine ⟨fun hc=>aA rfl rfl ?_,fun hc=>aA rfl rfl ?_⟩
 ·have hc:=eq_true hc
  simp -implicitDefEqProofs [h1,h,hn,hw,ha,hc,ih]
 ·simp -implicitDefEqProofs [h1,h,hn,ha,hc]
theorem aot (b:ay) (r:List GV):jF b r kC (b.retry=0):=by
 intro sp ns i ps out h h1 hw hn ha ih
 unfold kC at *
 refine ⟨fun hc=>aA rfl rfl ?_,fun hc=>aA rfl rfl ?_⟩
 ·have hc:=eq_true hc
  simp -implicitDefEqProofs [h1,h,hn,hw,ha,hc,ih]
 ·simp -implicitDefEqProofs [h1,h,hn,ha,hc]
theorem aoi (b:ay) (r:List GV):jF b r jU (b.epoch=0):=by
 intro sp ns i ps out h h1 hw hn ha ih
 unfold jU at *
 refine ⟨fun hc=>aA rfl rfl ?_,fun hc=>aA rfl rfl ?_⟩
 ·have hc:=eq_true hc
  simp -implicitDefEqProofs [h1,h,hn,hw,ha,hc,ih]
 ·simp -implicitDefEqProofs [h1,h,hn,ha,hc]
theorem aob (b:ay) (r:List GV):jF b r jM (b.base=0):=by
 intro sp ns i ps out h h1 hw hn ha ih
 unfold jM at *
 refine ⟨fun hc=>aA rfl rfl ?_,fun hc=>aA rfl rfl ?_⟩
 ·have hc:=eq_true hc
  simp -implicitDefEqProofs [h1,h,hn,hw,ha,hc,ih]
 ·simp -implicitDefEqProofs [h1,h,hn,ha,hc]
theorem aoh (b:ay) (r:List GV):jF b r jT (b.digest=0):=by
 intro sp ns i ps out h h1 hw hn ha ih
 unfold jT at *
 refine ⟨fun hc=>aA rfl rfl ?_,fun hc=>aA rfl rfl ?_⟩
 ·have hc:=eq_true hc
  simp -implicitDefEqProofs [h1,h,hn,hw,ha,hc,ih]
 ·simp -implicitDefEqProofs [h1,h,hn,ha,hc]
theorem aol (b:ay) (r:List GV):jF b r jX (b.lag=0):=by
 intro sp ns i ps out h h1 hw hn ha ih
 unfold jX at *
 refine ⟨fun hc=>aA rfl rfl ?_,fun hc=>aA rfl rfl ?_⟩
 ·have hc:=eq_true hc
  simp -implicitDefEqProofs [h1,h,hn,hw,ha,hc,ih]
 ·simp -implicitDefEqProofs [h1,h,hn,ha,hc]
theorem aod (b:ay) (r:List GV):jF b r jP (b.code=0):=by
 intro sp ns i ps out h h1 hw hn ha ih
 unfold jP at *
 refine ⟨fun hc=>aA rfl rfl ?_,fun hc=>aA rfl rfl ?_⟩
 ·have hc:=eq_true hc
  simp -implicitDefEqProofs [h1,h,hn,hw,ha,hc,ih]
 ·simp -implicitDefEqProofs [h1,h,hn,ha,hc]
theorem aov (b:ay) (r:List GV):jF b r kE (b.want=0):=by
 intro sp ns i ps out h h1 hw hn ha ih
 unfold kE at *
 refine ⟨fun hc=>aA rfl rfl ?_,fun hc=>aA rfl rfl ?_⟩
 ·have hc:=eq_true hc
  simp -implicitDefEqProofs [h1,h,hn,hw,ha,hc,ih]
 ·simp -implicitDefEqProofs [h1,h,hn,ha,hc]
theorem akI:TT.lim 42 []=some [.l (lq.map .s)]:=FW (Ds:=Ds) (k:=42) (f:=Jt) rfl rfl
theorem kQ (b:ay) {n:List UInt8} {p:Pl} (h:placeOf n=some p):fD b n=dV b p:=by unfold fD;rw [h]
def jo (b:ay) (r:List GV) (n:List UInt8):Prop:=∃c:Prop,(fD b n=true↔c)∧jF b r n c
theorem anW (b:ay) (r:List GV):jo b r lg:=⟨_,by rw [kQ b yY];simp [dV,bQ],aos b r⟩
theorem anE (b:ay) (r:List GV):jo b r kZ:=⟨_,by rw [kQ b yJ];simp [dV,bQ],aoa b r⟩
theorem anS (b:ay) (r:List GV):jo b r jw:=⟨_,by rw [kQ b wR];simp [dV,bQ],aoo b r⟩
theorem anV (b:ay) (r:List GV):jo b r jA:=⟨_,by rw [kQ b wU];simp [dV,bQ],aor b r⟩
theorem anT (b:ay) (r:List GV):jo b r jy:=⟨_,by rw [kQ b wS];simp [dV,bQ],aop b r⟩
theorem anK (b:ay) (r:List GV):jo b r jS:=⟨_,by rw [kQ b wQ];simp [dV,bQ],aog b r⟩
theorem anY (b:ay) (r:List GV):jo b r kD:=⟨_,by rw [kQ b wV];simp [dV,bQ],aou b r⟩
theorem anO (b:ay) (r:List GV):jo b r jW:=⟨_,by rw [kQ b yS];simp [dV,bQ],aok b r⟩
theorem anR (b:ay) (r:List GV):jo b r jZ:=⟨_,by rw [kQ b yV];simp [dV,bQ],aon b r⟩
theorem anQ (b:ay) (r:List GV):jo b r jY:=⟨_,by rw [kQ b yU];simp [dV,bQ],aom b r⟩
theorem anG (b:ay) (r:List GV):jo b r jO:=⟨_,by rw [kQ b yL];simp [dV,bQ],aoc b r⟩
theorem anN (b:ay) (r:List GV):jo b r jV:=⟨_,by rw [kQ b yR];simp [dV,bQ],aoj b r⟩
theorem anI (b:ay) (r:List GV):jo b r jQ:=⟨_,by rw [kQ b yN];simp [dV,bQ],aoe b r⟩
theorem anU (b:ay) (r:List GV):jo b r ku:=⟨_,by rw [kQ b yX];simp [dV,bQ],aoq b r⟩
theorem anJ (b:ay) (r:List GV):jo b r jR:=⟨_,by rw [kQ b yO];simp [dV,bQ],aof b r⟩
theorem anX (b:ay) (r:List GV):jo b r kC:=⟨_,by rw [kQ b yZ];simp [dV,bQ],aot b r⟩
theorem anM (b:ay) (r:List GV):jo b r jU:=⟨_,by rw [kQ b yQ];simp [dV,bQ],aoi b r⟩
theorem anF (b:ay) (r:List GV):jo b r jM:=⟨_,by rw [kQ b yK];simp [dV,bQ],aob b r⟩
theorem anL (b:ay) (r:List GV):jo b r jT:=⟨_,by rw [kQ b yP];simp [dV,bQ],aoh b r⟩
theorem anP (b:ay) (r:List GV):jo b r jX:=⟨_,by rw [kQ b yT];simp [dV,bQ],aol b r⟩
theorem anH (b:ay) (r:List GV):jo b r jP:=⟨_,by rw [kQ b yM];simp [dV,bQ],aod b r⟩
theorem anZ (b:ay) (r:List GV):jo b r kE:=⟨_,by rw [kQ b y7];simp [dV,bQ],aov b r⟩
theorem ao9 (b:ay) (r:List GV) (n:List UInt8):placeOf n≠none→jo b r n:=by
 refine BP (Q:=fun n=>placeOf n≠none→jo b r n) (fun _=>anW b r) (fun _=>anE b r) (fun _=>anS b r) (fun _=>anV b r) (fun _=>anT b r) (fun _=>anK b r) (fun _=>anY b r) (fun _=>anO b r) (fun _=>anR b r) (fun _=>anQ b r) (fun _=>anG b r) (fun _=>anN b r) (fun _=>anI b r) (fun _=>anU b r) (fun _=>anJ b r) (fun _=>anX b r) (fun _=>anM b r) (fun _=>anF b r) (fun _=>anL b r) (fun _=>anP b r) (fun _=>anH b r) (fun _=>anZ b r) (fun n e0 e1 e2 e3 e4 e5 e6 e7 e8 e9 e10 e11 e12 e13 e14 e15 e16 e17 e18 e19 e20 e21 h=>absurd (AP n e0 e1 e2 e3 e4 e5 e6 e7 e8 e9 e10 e11 e12 e13 e14 e15 e16 e17 e18 e19 e20 e21) h) n
theorem acp (b:ay) (r:List GV) (sp:GV) (ns:List (List UInt8)) (hlen:ns.length≤1000) (hns:∀n∈ns,placeOf n≠none) (ps:List (List UInt8)):∀ (m i:Nat),i+m=ns.length→
 TT.lim 43 [sp,.l (ns.map .s),.i .i64 ns.length,.i .i64 i,.l (oL ps),.i .i64 b.kind,.i .u64 b.id,.i .u64 b.min,.i .u64 b.max,.i .u64 b.chosen,.i .u64 b.flags,.i .u64 b.cost,.i .u64 b.priority,.i .u64 b.deadline,.i .u64 b.retry,.i .u64 b.epoch,.i .u64 b.base,.i .u64 b.digest,.i .u64 b.lag,.i .u64 b.code,.i .u64 b.want,.i .i64 b.remaining,.b b.allowed,.s b.name,.s b.region,.s b.note,.l (b.d.map ent),.l (b.t.map row),.l r]=some (if (ns.drop i).all (fun n=>decide (n∈ps) || fD b n)=true then [.i .i64 1] else [.i .i64 0])
 | 0,i,hi=>by
  have h0:ns.drop i=[]:=List.drop_eq_nil_of_le (by omega)
  refine aA rfl rfl ?_
  have h:¬ ((i:Int) < ns.length):=by omega
  simp -implicitDefEqProofs [h,h0]
 | m+1,i,hi=>by
  have hlt:i < ns.length:=by omega
  have ih:=acp b r sp ns hlen hns ps m (i+1) (by omega)
  have hcast:((i:Int)+1)=((i+1:Nat):Int):=by omega
  rw [← hcast] at ih
  have hd:(ns.drop i).all (fun n=>decide (n∈ps) || fD b n)=((decide (ns[i]∈ps) || fD b ns[i])&&(ns.drop (i+1)).all (fun n=>decide (n∈ps) || fD b n)):=by rw [List.drop_eq_getElem_cons hlt,List.all_cons]
  rw [hd]
  generalize (ns.drop (i+1)).all (fun n=>decide (n∈ps) || fD b n)=X at *
  by_cases hps:ns[i]∈ps
  ·have ha:=NP ns[i] ps
   rw [if_pos hps] at ha
   have h1:((i:Int) < ns.length):=by omega
   have hw:=wrap64 (n:=(i:Int)+1) (by omega) (by omega)
   rw [decide_eq_true hps,Bool.true_or,Bool.true_and]
   refine aA rfl rfl ?_
   simp -implicitDefEqProofs [h1,hlt,hw,ha,ih]
  ·have ha:=NP ns[i] ps
   rw [if_neg hps] at ha
   obtain ⟨c,c1,c2⟩:=ao9 b r ns[i] (hns _ (List.getElem_mem hlt))
   obtain ⟨c3,c4⟩:=c2 sp ns i ps _ hlt (by omega) (wrap64 (n:=(i:Int)+1) (by omega) (by omega)) rfl ha ih
   rw [decide_eq_false hps,Bool.false_or]
   cases hb:fD b ns[i] with
   | true=>rw [c3 (c1.1 hb),Bool.true_and]
   | false=>rw [c4 (fun h=>by rw [c1.2 h] at hb;cases hb),Bool.false_and];rfl
def eP (b:ay) (r:List GV) (k:Nat) (out:List GV):Prop:=TT.lim k [.i .i64 b.kind,.i .u64 b.id,.i .u64 b.min,.i .u64 b.max,.i .u64 b.chosen,.i .u64 b.flags,.i .u64 b.cost,.i .u64 b.priority,.i .u64 b.deadline,.i .u64 b.retry,.i .u64 b.epoch,.i .u64 b.base,.i .u64 b.digest,.i .u64 b.lag,.i .u64 b.code,.i .u64 b.want,.i .i64 b.remaining,.b b.allowed,.s b.name,.s b.region,.s b.note,.l (b.d.map ent),.l (b.t.map row),.l r]=some out
theorem kP (b:ay) {n:List UInt8} {p:Pl} (h:placeOf n=some p):jv b n=QD b p:=by unfold jv;rw [h]
theorem aky (b:ay) (r:List GV):eP b r 45 [.i .i64 0]:=by
 refine aA rfl rfl ?_
 simp
theorem akg (b:ay) (r:List GV):eP b r 46 [.i .i64 0]:=by
 refine aA rfl rfl ?_
 simp
theorem aku (b:ay) (r:List GV) (hb:gI b):eP b r 47 [.i .i64 0,.i .i64 (iY b.name 0 256)]:=by
 have h:=ED b.name 0 256 hb.name
 refine aA rfl rfl ?_
 simp -implicitDefEqProofs [h]
theorem akx (b:ay) (r:List GV) (hb:gI b):eP b r 51 [.i .i64 0,.i .i64 (iY b.region 0 256)]:=by
 have h:=ED b.region 0 256 hb.region
 refine aA rfl rfl ?_
 simp -implicitDefEqProofs [h]
theorem akv (b:ay) (r:List GV) (hb:gI b):eP b r 52 [.i .i64 0,.i .i64 (iY b.note 0 256)]:=by
 have h:=ED b.note 0 256 hb.note
 refine aA rfl rfl ?_
 simp -implicitDefEqProofs [h]
theorem akm (b:ay) (r:List GV) (hb:gI b):eP b r 53 [.i .i64 0,.i .i64 (if b.d=[] then 0 else og b.d)]:=by
 have h:=XL b.d hb.d
 refine aA rfl rfl ?_
 by_cases e:b.d=[]
 ·simp -implicitDefEqProofs [e]
 ·have e2:¬ (List.map ent b.d)=[]:=by simpa using e
  have e3:0 < b.d.length:=List.length_pos_iff.2 e
  simp -implicitDefEqProofs [e,h]
theorem akA (b:ay) (r:List GV) (hb:gI b) (hf:∀r∈b.t,gK r.1=true):eP b r 57 [.i .i64 0,.i .i64 (nC b.t)]:=by
 have h:=XM b.t hb.t hf
 refine aA rfl rfl ?_
 simp -implicitDefEqProofs [h]
theorem akq (b:ay) (r:List GV):eP b r 61 [.i .i64 0]:=by
 refine aA rfl rfl ?_
 simp
theorem akt (b:ay) (r:List GV):eP b r 62 [.i .i64 0]:=by
 refine aA rfl rfl ?_
 simp
theorem aks (b:ay) (r:List GV):eP b r 63 [.i .i64 0]:=by
 refine aA rfl rfl ?_
 simp
theorem aki (b:ay) (r:List GV):eP b r 64 [.i .i64 0]:=by
 refine aA rfl rfl ?_
 simp
theorem akp (b:ay) (r:List GV):eP b r 65 [.i .i64 0]:=by
 refine aA rfl rfl ?_
 simp
theorem akk (b:ay) (r:List GV):eP b r 66 [.i .i64 0]:=by
 refine aA rfl rfl ?_
 simp
theorem akw (b:ay) (r:List GV):eP b r 67 [.i .i64 0]:=by
 refine aA rfl rfl ?_
 simp
theorem akl (b:ay) (r:List GV):eP b r 68 [.i .i64 0]:=by
 refine aA rfl rfl ?_
 simp
theorem akz (b:ay) (r:List GV):eP b r 69 [.i .i64 0]:=by
 refine aA rfl rfl ?_
 simp
theorem ako (b:ay) (r:List GV):eP b r 70 [.i .i64 0]:=by
 refine aA rfl rfl ?_
 simp
theorem akh (b:ay) (r:List GV):eP b r 71 [.i .i64 0]:=by
 refine aA rfl rfl ?_
 simp
theorem akn (b:ay) (r:List GV):eP b r 72 [.i .i64 0]:=by
 refine aA rfl rfl ?_
 simp
theorem akr (b:ay) (r:List GV):eP b r 73 [.i .i64 0]:=by
 refine aA rfl rfl ?_
 simp
theorem akj (b:ay) (r:List GV):eP b r 74 [.i .i64 0]:=by
 refine aA rfl rfl ?_
 simp
theorem akB (b:ay) (r:List GV):eP b r 75 [.i .i64 0]:=by
 refine aA rfl rfl ?_
 simp
/-- One round of the third loop. -/
def jq (b:ay) (r:List GV) (n:List UInt8) (c:Int):Prop:=∀ (l:List dh) (i:Nat) (out:List GV) (h:i < l.length),((i:Int) < l.length)→IntKind.i64.wrap ((i:Int)+1)=(i:Int)+1→l[i].name=n→
 TT.lim 44 [.l (l.map bG),.i .i64 l.length,.i .i64 ((i:Int)+1),.i .i64 b.kind,.i .u64 b.id,.i .u64 b.min,.i .u64 b.max,.i .u64 b.chosen,.i .u64 b.flags,.i .u64 b.cost,.i .u64 b.priority,.i .u64 b.deadline,.i .u64 b.retry,.i .u64 b.epoch,.i .u64 b.base,.i .u64 b.digest,.i .u64 b.lag,.i .u64 b.code,.i .u64 b.want,.i .i64 b.remaining,.b b.allowed,.s b.name,.s b.region,.s b.note,.l (b.d.map ent),.l (b.t.map row),.l r]=some out→
 TT.lim 44 [.l (l.map bG),.i .i64 l.length,.i .i64 i,.i .i64 b.kind,.i .u64 b.id,.i .u64 b.min,.i .u64 b.max,.i .u64 b.chosen,.i .u64 b.flags,.i .u64 b.cost,.i .u64 b.priority,.i .u64 b.deadline,.i .u64 b.retry,.i .u64 b.epoch,.i .u64 b.base,.i .u64 b.digest,.i .u64 b.lag,.i .u64 b.code,.i .u64 b.want,.i .i64 b.remaining,.b b.allowed,.s b.name,.s b.region,.s b.note,.l (b.d.map ent),.l (b.t.map row),.l r]=some (if c=0 then out else [.i .i64 0,.i .i64 c])
theorem aoO (b:ay) (r:List GV):jq b r lg 0:=by
 intro l i out h h1 hw hn ih
 have hm:=aky b r
 unfold eP at hm
 unfold lg at *
 rw [if_pos rfl]
 refine aA rfl rfl ?_
 simp -implicitDefEqProofs [h1,h,hn,hw,hm,ih]
theorem aow (b:ay) (r:List GV):jq b r kZ 0:=by
 intro l i out h h1 hw hn ih
 have hm:=akg b r
 unfold eP at hm
 unfold kZ at *
 rw [if_pos rfl]
 refine aA rfl rfl ?_
 simp -implicitDefEqProofs [h1,h,hn,hw,hm,ih]
theorem aoK (b:ay) (r:List GV) (hb:gI b):jq b r jw (iY b.name 0 256):=by
 intro l i out h h1 hw hn ih
 have hm:=aku b r hb
 unfold eP at hm
 unfold jw at *
 generalize (iY b.name 0 256)=c at *
 by_cases hc:c=0
 ·subst hc
  rw [if_pos rfl]
  refine aA rfl rfl ?_
  simp -implicitDefEqProofs [h1,h,hn,hw,hm,ih]
 ·rw [if_neg hc]
  refine aA rfl rfl ?_
  simp -implicitDefEqProofs [h1,h,hn,hw,hm,hc]
theorem aoN (b:ay) (r:List GV) (hb:gI b):jq b r jA (iY b.region 0 256):=by
 intro l i out h h1 hw hn ih
 have hm:=akx b r hb
 unfold eP at hm
 unfold jA at *
 generalize (iY b.region 0 256)=c at *
 by_cases hc:c=0
 ·subst hc
  rw [if_pos rfl]
  refine aA rfl rfl ?_
  simp -implicitDefEqProofs [h1,h,hn,hw,hm,ih]
 ·rw [if_neg hc]
  refine aA rfl rfl ?_
  simp -implicitDefEqProofs [h1,h,hn,hw,hm,hc]
theorem aoL (b:ay) (r:List GV) (hb:gI b):jq b r jy (iY b.note 0 256):=by
 intro l i out h h1 hw hn ih
 have hm:=akv b r hb
 unfold eP at hm
 unfold jy at *
 generalize (iY b.note 0 256)=c at *
 by_cases hc:c=0
 ·subst hc
  rw [if_pos rfl]
  refine aA rfl rfl ?_
  simp -implicitDefEqProofs [h1,h,hn,hw,hm,ih]
 ·rw [if_neg hc]
  refine aA rfl rfl ?_
  simp -implicitDefEqProofs [h1,h,hn,hw,hm,hc]
theorem aoC (b:ay) (r:List GV) (hb:gI b):jq b r jS (if b.d=[] then 0 else og b.d):=by
 intro l i out h h1 hw hn ih
 have hm:=akm b r hb
 unfold eP at hm
 unfold jS at *
 generalize (if b.d=[] then 0 else og b.d)=c at *
 by_cases hc:c=0
 ·subst hc
  rw [if_pos rfl]
  refine aA rfl rfl ?_
  simp -implicitDefEqProofs [h1,h,hn,hw,hm,ih]
 ·rw [if_neg hc]
  refine aA rfl rfl ?_
  simp -implicitDefEqProofs [h1,h,hn,hw,hm,hc]
theorem aoQ (b:ay) (r:List GV) (hb:gI b) (hf:∀r∈b.t,gK r.1=true):jq b r kD (nC b.t):=by
 intro l i out h h1 hw hn ih
 have hm:=akA b r hb hf
 unfold eP at hm
 unfold kD at *
 generalize (nC b.t)=c at *
 by_cases hc:c=0
 ·subst hc
  rw [if_pos rfl]
  refine aA rfl rfl ?_
  simp -implicitDefEqProofs [h1,h,hn,hw,hm,ih]
 ·rw [if_neg hc]
  refine aA rfl rfl ?_
  simp -implicitDefEqProofs [h1,h,hn,hw,hm,hc]
theorem aoG (b:ay) (r:List GV):jq b r jW 0:=by
 intro l i out h h1 hw hn ih
 have hm:=akq b r
 unfold eP at hm
 unfold jW at *
 rw [if_pos rfl]
 refine aA rfl rfl ?_
 simp -implicitDefEqProofs [h1,h,hn,hw,hm,ih]
theorem aoJ (b:ay) (r:List GV):jq b r jZ 0:=by
 intro l i out h h1 hw hn ih
 have hm:=akt b r
 unfold eP at hm
 unfold jZ at *
 rw [if_pos rfl]
 refine aA rfl rfl ?_
 simp -implicitDefEqProofs [h1,h,hn,hw,hm,ih]
theorem aoI (b:ay) (r:List GV):jq b r jY 0:=by
 intro l i out h h1 hw hn ih
 have hm:=aks b r
 unfold eP at hm
 unfold jY at *
 rw [if_pos rfl]
 refine aA rfl rfl ?_
 simp -implicitDefEqProofs [h1,h,hn,hw,hm,ih]
theorem aoy (b:ay) (r:List GV):jq b r jO 0:=by
 intro l i out h h1 hw hn ih
 have hm:=aki b r
 unfold eP at hm
 unfold jO at *
 rw [if_pos rfl]
 refine aA rfl rfl ?_
 simp -implicitDefEqProofs [h1,h,hn,hw,hm,ih]
theorem aoF (b:ay) (r:List GV):jq b r jV 0:=by
 intro l i out h h1 hw hn ih
 have hm:=akp b r
 unfold eP at hm
 unfold jV at *
 rw [if_pos rfl]
 refine aA rfl rfl ?_
 simp -implicitDefEqProofs [h1,h,hn,hw,hm,ih]
theorem aoA (b:ay) (r:List GV):jq b r jQ 0:=by
 intro l i out h h1 hw hn ih
 have hm:=akk b r
 unfold eP at hm
 unfold jQ at *
 rw [if_pos rfl]
 refine aA rfl rfl ?_
 simp -implicitDefEqProofs [h1,h,hn,hw,hm,ih]
theorem aoM (b:ay) (r:List GV):jq b r ku 0:=by
 intro l i out h h1 hw hn ih
 have hm:=akw b r
 unfold eP at hm
 unfold ku at *
 rw [if_pos rfl]
 refine aA rfl rfl ?_
 simp -implicitDefEqProofs [h1,h,hn,hw,hm,ih]
theorem aoB (b:ay) (r:List GV):jq b r jR 0:=by
 intro l i out h h1 hw hn ih
 have hm:=akl b r
 unfold eP at hm
 unfold jR at *
 rw [if_pos rfl]
 refine aA rfl rfl ?_
 simp -implicitDefEqProofs [h1,h,hn,hw,hm,ih]
theorem aoP (b:ay) (r:List GV):jq b r kC 0:=by
 intro l i out h h1 hw hn ih
 have hm:=akz b r
 unfold eP at hm
 unfold kC at *
 rw [if_pos rfl]
 refine aA rfl rfl ?_
 simp -implicitDefEqProofs [h1,h,hn,hw,hm,ih]
theorem aoE (b:ay) (r:List GV):jq b r jU 0:=by
 intro l i out h h1 hw hn ih
 have hm:=ako b r
 unfold eP at hm
 unfold jU at *
 rw [if_pos rfl]
 refine aA rfl rfl ?_
 simp -implicitDefEqProofs [h1,h,hn,hw,hm,ih]
theorem aox (b:ay) (r:List GV):jq b r jM 0:=by
 intro l i out h h1 hw hn ih
 have hm:=akh b r
 unfold eP at hm
 unfold jM at *
 rw [if_pos rfl]
 refine aA rfl rfl ?_
 simp -implicitDefEqProofs [h1,h,hn,hw,hm,ih]
theorem aoD (b:ay) (r:List GV):jq b r jT 0:=by
 intro l i out h h1 hw hn ih
 have hm:=akn b r
 unfold eP at hm
 unfold jT at *
 rw [if_pos rfl]
 refine aA rfl rfl ?_
 simp -implicitDefEqProofs [h1,h,hn,hw,hm,ih]
theorem aoH (b:ay) (r:List GV):jq b r jX 0:=by
 intro l i out h h1 hw hn ih
 have hm:=akr b r
 unfold eP at hm
 unfold jX at *
 rw [if_pos rfl]
 refine aA rfl rfl ?_
 simp -implicitDefEqProofs [h1,h,hn,hw,hm,ih]
theorem aoz (b:ay) (r:List GV):jq b r jP 0:=by
 intro l i out h h1 hw hn ih
 have hm:=akj b r
 unfold eP at hm
 unfold jP at *
 rw [if_pos rfl]
 refine aA rfl rfl ?_
 simp -implicitDefEqProofs [h1,h,hn,hw,hm,ih]
theorem aoR (b:ay) (r:List GV):jq b r kE 0:=by
 intro l i out h h1 hw hn ih
 have hm:=akB b r
 unfold eP at hm
 unfold kE at *
 rw [if_pos rfl]
 refine aA rfl rfl ?_
 simp -implicitDefEqProofs [h1,h,hn,hw,hm,ih]
theorem apa (b:ay) (r:List GV) (hb:gI b) (hf:∀r∈b.t,gK r.1=true) (n:List UInt8):placeOf n≠none→jq b r n (jv b n):=by
 refine BP (Q:=fun n=>placeOf n≠none→jq b r n (jv b n)) (fun _=>by rw [kP b yY];exact aoO b r ) (fun _=>by rw [kP b yJ];exact aow b r ) (fun _=>by rw [kP b wR];exact aoK b r hb) (fun _=>by rw [kP b wU];exact aoN b r hb) (fun _=>by rw [kP b wS];exact aoL b r hb) (fun _=>by rw [kP b wQ];exact aoC b r hb) (fun _=>by rw [kP b wV];exact aoQ b r hb hf) (fun _=>by rw [kP b yS];exact aoG b r ) (fun _=>by rw [kP b yV];exact aoJ b r ) (fun _=>by rw [kP b yU];exact aoI b r ) (fun _=>by rw [kP b yL];exact aoy b r ) (fun _=>by rw [kP b yR];exact aoF b r ) (fun _=>by rw [kP b yN];exact aoA b r ) (fun _=>by rw [kP b yX];exact aoM b r ) (fun _=>by rw [kP b yO];exact aoB b r ) (fun _=>by rw [kP b yZ];exact aoP b r ) (fun _=>by rw [kP b yQ];exact aoE b r ) (fun _=>by rw [kP b yK];exact aox b r ) (fun _=>by rw [kP b yP];exact aoD b r ) (fun _=>by rw [kP b yT];exact aoH b r ) (fun _=>by rw [kP b yM];exact aoz b r ) (fun _=>by rw [kP b y7];exact aoR b r ) (fun n e0 e1 e2 e3 e4 e5 e6 e7 e8 e9 e10 e11 e12 e13 e14 e15 e16 e17 e18 e19 e20 e21 h=>absurd (AP n e0 e1 e2 e3 e4 e5 e6 e7 e8 e9 e10 e11 e12 e13 e14 e15 e16 e17 e18 e19 e20 e21) h) n
/-- The first thing that is wrong with the values of names. -/
def kN (b:ay):List dh→Int
 | []=>0
 | s::l=>if jv b s.name=0 then kN b l else jv b s.name
theorem acr (b:ay) (r:List GV) (hb:gI b) (hf:∀r∈b.t,gK r.1=true) (l:List dh) (hlen:l.length≤1000) (hns:∀s∈l,placeOf s.name≠none):∀ (m i:Nat),i+m=l.length→
 TT.lim 44 [.l (l.map bG),.i .i64 l.length,.i .i64 i,.i .i64 b.kind,.i .u64 b.id,.i .u64 b.min,.i .u64 b.max,.i .u64 b.chosen,.i .u64 b.flags,.i .u64 b.cost,.i .u64 b.priority,.i .u64 b.deadline,.i .u64 b.retry,.i .u64 b.epoch,.i .u64 b.base,.i .u64 b.digest,.i .u64 b.lag,.i .u64 b.code,.i .u64 b.want,.i .i64 b.remaining,.b b.allowed,.s b.name,.s b.region,.s b.note,.l (b.d.map ent),.l (b.t.map row),.l r]=some (if kN b (l.drop i)=0 then [.i .i64 1] else [.i .i64 0,.i .i64 (kN b (l.drop i))])
 | 0,i,hi=>by
  have h0:l.drop i=[]:=List.drop_eq_nil_of_le (by omega)
  refine aA rfl rfl ?_
  have h:¬ ((i:Int) < l.length):=by omega
  simp -implicitDefEqProofs [h,h0,kN]
 | m+1,i,hi=>by
  have hlt:i < l.length:=by omega
  have ih:=acr b r hb hf l hlen hns m (i+1) (by omega)
  have hcast:((i:Int)+1)=((i+1:Nat):Int):=by omega
  rw [← hcast] at ih
  have:=apa b r hb hf l[i].name (hns _ (List.getElem_mem hlt)) l i _ hlt (by omega) (wrap64 (n:=(i:Int)+1) (by omega) (by omega)) rfl ih
  rw [this,List.drop_eq_getElem_cons hlt]
  by_cases hc:jv b l[i].name=0
  ·have hm:kN b (l[i]::l.drop (i+1))=kN b (l.drop (i+1)):=by simp only [kN,hc,if_true]
   rw [if_pos hc,hm]
  ·have hm:kN b (l[i]::l.drop (i+1))=jv b l[i].name:=by simp only [kN,hc,if_false]
   rw [if_neg hc,hm,if_neg hc]
def hasTag (l:List dh) (t:Int):Bool:=l.any fun s=>decide (t=s.tag)
theorem acu (l:List dh) (hlen:l.length≤1000) (a1 a2 a3:GV) (t:Int) (a7 a8 a9 a10:GV):∀ (m i:Nat),i+m=l.length→
 TT.lim 81 [.l (l.map bG),a1,a2,a3,.i .i64 l.length,.i .i64 i,.i .u64 t,a7,a8,a9,a10]=some (if hasTag (l.drop i) t=true then [.i .i64 0] else [.i .i64 1])
 | 0,i,hi=>by
  have h0:l.drop i=[]:=List.drop_eq_nil_of_le (by omega)
  refine aA rfl rfl ?_
  have h:¬ ((i:Int) < l.length):=by omega
  simp -implicitDefEqProofs [h,h0,hasTag]
 | m+1,i,hi=>by
  have hlt:i < l.length:=by omega
  have ih:=acu l hlen a1 a2 a3 t a7 a8 a9 a10 m (i+1) (by omega)
  have hcast:((i:Int)+1)=((i+1:Nat):Int):=by omega
  rw [← hcast] at ih
  have h1:((i:Int) < l.length):=by omega
  have hw:=wrap64 (n:=(i:Int)+1) (by omega) (by omega)
  have hd:hasTag (l.drop i) t=(decide (t=l[i].tag) || hasTag (l.drop (i+1)) t):=by rw [List.drop_eq_getElem_cons hlt];rfl
  rw [hd]
  generalize hasTag (l.drop (i+1)) t=X at *
  refine aA rfl rfl ?_
  by_cases hc:t=l[i].tag
  ·simp -implicitDefEqProofs [h1,hlt,hc]
  ·simp -implicitDefEqProofs [h1,hlt,hc,hw,ih]
theorem acs (l:List dh) (hlen:l.length≤1000) (fl:List aJ) (hfl:fl.length≤1000000):∀ (m i:Nat),i+m=fl.length→
 TT.lim 80 [.l (l.map bG),.l (ak fl),.i .i64 fl.length,.i .i64 i]=some (if (fl.drop i).any (fun f=>hasTag l f.tag)=true then [.i .i64 0] else [.i .i64 1])
 | 0,i,hi=>by
  have h0:fl.drop i=[]:=List.drop_eq_nil_of_le (by omega)
  refine aA rfl rfl ?_
  have h:¬ ((i:Int) < fl.length):=by omega
  simp -implicitDefEqProofs [h,h0]
 | m+1,i,hi=>by
  have hlt:i < fl.length:=by omega
  have ih:=acs l hlen fl hfl m (i+1) (by omega)
  have hcast:((i:Int)+1)=((i+1:Nat):Int):=by omega
  rw [← hcast] at ih
  have h1:((i:Int) < fl.length):=by omega
  have hw:=wrap64 (n:=(i:Int)+1) (by omega) (by omega)
  have hd:(fl.drop i).any (fun f=>hasTag l f.tag)=(hasTag l fl[i].tag || (fl.drop (i+1)).any (fun f=>hasTag l f.tag)):=by rw [List.drop_eq_getElem_cons hlt,List.any_cons]
  rw [hd]
  have hget:(ak fl)[i]? = some (gu fl[i]):=by rw [mJ,List.getElem?_map,List.getElem?_eq_getElem hlt];rfl
  clear hd
  obtain ⟨t,y,n,s,k,hfi⟩:∃t y n s k,fl[i]=aJ.mk t y n s k:=by
   cases fl[i] with
   | mk t y n s k=>exact ⟨_,_,_,_,_,rfl⟩
  rw [hfi] at hget ⊢
  rw [show (aJ.mk t y n s k).tag=t from rfl]
  have h3:TT.lim 81 [.l (l.map bG),.l (ak fl),.i .i64 fl.length,.i .i64 i,.i .i64 l.length,.i .i64 0,.i .u64 t,.i .i64 y,.i .u64 n,.s s,.l (ak k)]=_:=acu l hlen _ _ _ t _ _ _ _ l.length 0 (by omega)
  rw [List.drop_zero] at h3
  refine aA rfl rfl ?_
  by_cases hc:hasTag l t=true
  ·rw [if_pos hc] at h3
   simp -implicitDefEqProofs [-List.any_eq_true,h1,hget,h3,hc]
  ·rw [if_neg hc] at h3
   have hc:hasTag l t=false:=by simpa using hc
   simp -implicitDefEqProofs [-List.any_eq_true,h1,hget,h3,hw,ih,hc]
def BO (b:ay):Int:=
 if b.kind=1 then (if b.min < 1 then 18 else if b.max < b.min then 18 else if 255 < b.max then 18 else 0)
 else if b.kind=2 then (if b.chosen < 1 then 18 else if 255 < b.chosen then 18 else 0)
 else if b.kind=3 then (if b.d=[] then 12 else 0)
 else if b.kind=5 then (if b.epoch < 1 then 18 else 0)
 else if b.kind=6 then (if b.base < 1 then 18 else if b.epoch≤b.base then 20 else 0)
 else 0
/-- What is said of a message at a version. -/
def DC (sp:List dh) (fl:List aJ):Int:=if eG 0 0 fl≠0 then eG 0 0 fl else if fl.any (fun f=>hasTag sp f.tag)=true then 14 else 0
def kJ (b:ay) (fl:List aJ) (v:Int):Int:=
 if v < 1 then 16 else if 3 < v then 16 else
 if dP b.kind v=[] then 15 else
 if lq.all (fun n=>nK (dP b.kind v) n || fD b n)=false then 26 else
 if kN b (dP b.kind v)≠0 then kN b (dP b.kind v) else
 if BO b≠0 then BO b else DC (dP b.kind v) fl
theorem acD:∀n∈lq,placeOf n≠none:=by decide
theorem ajD (k v:Int):∀s∈dP k v,placeOf s.name≠none:=by
 have key:∀s∈iI k,placeOf s.name≠none:=by
  unfold iI
  repeat' split
  all_goals first | (unfold sp1;decide) | (unfold sp2;decide) | (unfold tH;decide) | (unfold tJ;decide) | (unfold tK;decide) | (unfold tN;decide) | (unfold tV;decide) | (unfold tX;decide) | (intro s hs;cases hs)
 intro s hs
 exact key s (List.mem_filter.1 hs).1
theorem wJ (k v:Int):(dP k v).length≤8:=Nat.le_trans (List.length_filter_le _ _) (SL k)
set_option maxHeartbeats 4000000 in
theorem akC (b:ay) (fl:List aJ) (v:Int) (hb:gI b) (hf:∀r∈b.t,gK r.1=true) (hok:dX fl) (hlen:fl.length≤1000000):TT.lim 29 [bH b (ak fl),.i .i64 v]=some [.i .i64 (kJ b fl v)]:=by
 have hk:=ajC b.kind
 refine aG rfl rfl ?_ rfl
 unfold kJ
 by_cases v1:v < 1
 ·simp -implicitDefEqProofs [v1]
 by_cases v3:3 < v
 ·simp -implicitDefEqProofs [v1,v3]
 rw [if_neg v1,if_neg v3]
 have hnil:=abD b.kind v (by omega) (by omega)
 by_cases k0:vZ b.kind=0
 ·rw [if_pos (hnil.2 (.inl k0))]
  rw [k0] at hk
  simp -implicitDefEqProofs [v1,v3,hk]
 by_cases k1:v < vZ b.kind
 ·rw [if_pos (hnil.2 (.inr k1))]
  simp -implicitDefEqProofs [v1,v3,hk,k0,k1]
 rw [if_neg (fun e=>(hnil.1 e).elim k0 k1)]
 have hkn:=abA b.kind v (by omega) (by omega) (by omega)
 have hpl:=ajD b.kind v
 have hl8:=wJ b.kind v
 clear hnil
 generalize dP b.kind v=sp at *
 have hnm:=akI
 have h0:=aco b (ak fl) sp (by omega) sp.length 0 [] (by omega)
 have h1:=acp b (ak fl) (.l (sp.map bG)) lq (by decide) acD (sU [] sp) lq.length 0 (by omega)
 have h2:=acr b (ak fl) hb hf sp (by omega) hpl sp.length 0 (by omega)
 have h3:=acs sp (by omega) fl hlen fl.length 0 (by omega)
 have h4:=Io fl hok hlen
 rw [List.drop_zero] at h0 h1 h2 h3
 simp only [akD] at h1
 have hnl:(lq.map GV.s).length=lq.length:=List.length_map _
 have hfl:=iq fl
 rw [← hfl] at h3
 generalize hX:sU [] sp=ps at *
 have h0':TT.lim 41 [.l (sp.map bG),.i .i64 sp.length,.i .i64 0,.l [],.i .i64 b.kind,.i .u64 b.id,.i .u64 b.min,.i .u64 b.max,.i .u64 b.chosen,.i .u64 b.flags,.i .u64 b.cost,.i .u64 b.priority,.i .u64 b.deadline,.i .u64 b.retry,.i .u64 b.epoch,.i .u64 b.base,.i .u64 b.digest,.i .u64 b.lag,.i .u64 b.code,.i .u64 b.want,.i .i64 b.remaining,.b b.allowed,.s b.name,.s b.region,.s b.note,.l (b.d.map ent),.l (b.t.map row),.l (ak fl)]=some [.i .i64 0,.l (oL ps)]:=h0
 clear h0
 have h1':TT.lim 43 [.l (sp.map bG),.l (lq.map .s),.i .i64 lq.length,.i .i64 0,.l (oL ps),.i .i64 b.kind,.i .u64 b.id,.i .u64 b.min,.i .u64 b.max,.i .u64 b.chosen,.i .u64 b.flags,.i .u64 b.cost,.i .u64 b.priority,.i .u64 b.deadline,.i .u64 b.retry,.i .u64 b.epoch,.i .u64 b.base,.i .u64 b.digest,.i .u64 b.lag,.i .u64 b.code,.i .u64 b.want,.i .i64 b.remaining,.b b.allowed,.s b.name,.s b.region,.s b.note,.l (b.d.map ent),.l (b.t.map row),.l (ak fl)]=_:=h1
 clear h1
 have h2':TT.lim 44 [.l (sp.map bG),.i .i64 sp.length,.i .i64 0,.i .i64 b.kind,.i .u64 b.id,.i .u64 b.min,.i .u64 b.max,.i .u64 b.chosen,.i .u64 b.flags,.i .u64 b.cost,.i .u64 b.priority,.i .u64 b.deadline,.i .u64 b.retry,.i .u64 b.epoch,.i .u64 b.base,.i .u64 b.digest,.i .u64 b.lag,.i .u64 b.code,.i .u64 b.want,.i .i64 b.remaining,.b b.allowed,.s b.name,.s b.region,.s b.note,.l (b.d.map ent),.l (b.t.map row),.l (ak fl)]=_:=h2
 clear h2
 have h3':TT.lim 80 [.l (sp.map bG),.l (ak fl),.i .i64 (ak fl).length,.i .i64 0]=_:=h3
 clear h3
 have hr:DC sp fl=if eG 0 0 fl≠0 then eG 0 0 fl else if fl.any (fun f=>hasTag sp f.tag)=true then 14 else 0:=rfl
 generalize (lq.all fun n=>nK sp n || fD b n)=A at *
 generalize kN b sp=M at *
 generalize eG 0 0 fl=F at *
 generalize (fl.any fun f=>hasTag sp f.tag)=W at *
 generalize DC sp fl=R at *
 generalize lq=NL at *
 have att:∀ (x:GV),True:=fun _=>trivial
 cases A with
 | false=>
  simp only [Bool.false_eq_true,if_false] at h1'
  simp -implicitDefEqProofs [v1,v3,hk,k0,k1,hkn,hnm,h0',h1']
 | true=>
 simp only [if_true] at h1'
 by_cases hM:M=0
 rotate_left
 ·rw [if_neg hM] at h2'
  simp -implicitDefEqProofs [v1,v3,hk,k0,k1,hkn,hnm,h0',h1',h2',hM]
 rw [if_pos hM] at h2'
 rw [if_neg (by simp),if_neg (by simp [hM])]
 clear hM
 -- the rest of it
 have key:∀ (c:Int),BO b=c→c≠0→True:=fun _ _ _=>trivial
 unfold BO
 by_cases e1:b.kind=1
 ·have e1:=eq_true e1
  by_cases c1:b.min < 1
  ·simp -implicitDefEqProofs [v1,v3,hk,k0,k1,hkn,hnm,h0',h1',h2',e1,c1]
  by_cases c2:b.max < b.min
  ·simp -implicitDefEqProofs [v1,v3,hk,k0,k1,hkn,hnm,h0',h1',h2',e1,c1,c2]
  by_cases c3:255 < b.max
  ·simp -implicitDefEqProofs [v1,v3,hk,k0,k1,hkn,hnm,h0',h1',h2',e1,c1,c2,c3]
  simp only [e1,c1,c2,c3,if_true,if_false,ne_eq,not_true_eq_false]
  rw [hr]
  by_cases hF:F=0
  ·subst hF
   cases W with
   | true=>simp only [if_true] at h3';simp [v1,v3,hk,k0,k1,hkn,hnm,h0',h1',h2',e1,c1,c2,c3,h4,h3']
   | false=>simp only [Bool.false_eq_true,if_false] at h3';simp [v1,v3,hk,k0,k1,hkn,hnm,h0',h1',h2',e1,c1,c2,c3,h4,h3']
  ·simp -implicitDefEqProofs [v1,v3,hk,k0,k1,hkn,hnm,h0',h1',h2',e1,c1,c2,c3,h4,hF]
 by_cases e2:b.kind=2
 ·have e2:=eq_true e2
  by_cases c1:b.chosen < 1
  ·simp -implicitDefEqProofs [v1,v3,hk,k0,k1,hkn,hnm,h0',h1',h2',e1,e2,c1]
  by_cases c2:255 < b.chosen
  ·simp -implicitDefEqProofs [v1,v3,hk,k0,k1,hkn,hnm,h0',h1',h2',e1,e2,c1,c2]
  simp only [e1,e2,c1,c2,if_true,if_false,ne_eq,not_true_eq_false]
  rw [hr]
  by_cases hF:F=0
  ·subst hF
   cases W with
   | true=>simp only [if_true] at h3';simp [v1,v3,hk,k0,k1,hkn,hnm,h0',h1',h2',e1,e2,c1,c2,h4,h3']
   | false=>simp only [Bool.false_eq_true,if_false] at h3';simp [v1,v3,hk,k0,k1,hkn,hnm,h0',h1',h2',e1,e2,c1,c2,h4,h3']
  ·simp -implicitDefEqProofs [v1,v3,hk,k0,k1,hkn,hnm,h0',h1',h2',e1,e2,c1,c2,h4,hF]
 by_cases e3:b.kind=3
 ·have e3:=eq_true e3
  by_cases c1:b.d=[]
  ·have c1:=eq_true c1
   simp -implicitDefEqProofs [v1,v3,hk,k0,k1,hkn,hnm,h0',h1',h2',e1,e2,e3,c1]
  simp only [e1,e2,e3,c1,if_true,if_false,ne_eq,not_true_eq_false]
  rw [hr]
  by_cases hF:F=0
  ·subst hF
   cases W with
   | true=>simp only [if_true] at h3';simp [v1,v3,hk,k0,k1,hkn,hnm,h0',h1',h2',e1,e2,e3,c1,h4,h3']
   | false=>simp only [Bool.false_eq_true,if_false] at h3';simp [v1,v3,hk,k0,k1,hkn,hnm,h0',h1',h2',e1,e2,e3,c1,h4,h3']
  ·simp -implicitDefEqProofs [v1,v3,hk,k0,k1,hkn,hnm,h0',h1',h2',e1,e2,e3,c1,h4,hF]
 by_cases e5:b.kind=5
 ·have e5:=eq_true e5
  by_cases c1:b.epoch < 1
  ·simp -implicitDefEqProofs [v1,v3,hk,k0,k1,hkn,hnm,h0',h1',h2',e1,e2,e3,e5,c1]
  simp only [e1,e2,e3,e5,c1,if_true,if_false,ne_eq,not_true_eq_false]
  rw [hr]
  by_cases hF:F=0
  ·subst hF
   cases W with
   | true=>simp only [if_true] at h3';simp [v1,v3,hk,k0,k1,hkn,hnm,h0',h1',h2',e1,e2,e3,e5,c1,h4,h3']
   | false=>simp only [Bool.false_eq_true,if_false] at h3';simp [v1,v3,hk,k0,k1,hkn,hnm,h0',h1',h2',e1,e2,e3,e5,c1,h4,h3']
  ·simp -implicitDefEqProofs [v1,v3,hk,k0,k1,hkn,hnm,h0',h1',h2',e1,e2,e3,e5,c1,h4,hF]
 by_cases e6:b.kind=6
 ·have e6:=eq_true e6
  by_cases c1:b.base < 1
  ·simp -implicitDefEqProofs [v1,v3,hk,k0,k1,hkn,hnm,h0',h1',h2',e1,e2,e3,e5,e6,c1]
  by_cases c2:b.epoch≤b.base
  ·simp -implicitDefEqProofs [v1,v3,hk,k0,k1,hkn,hnm,h0',h1',h2',e1,e2,e3,e5,e6,c1,c2]
  simp only [e1,e2,e3,e5,e6,c1,c2,if_true,if_false,ne_eq,not_true_eq_false]
  rw [hr]
  by_cases hF:F=0
  ·subst hF
   cases W with
   | true=>simp only [if_true] at h3';simp [v1,v3,hk,k0,k1,hkn,hnm,h0',h1',h2',e1,e2,e3,e5,e6,c1,c2,h4,h3']
   | false=>simp only [Bool.false_eq_true,if_false] at h3';simp [v1,v3,hk,k0,k1,hkn,hnm,h0',h1',h2',e1,e2,e3,e5,e6,c1,c2,h4,h3']
  ·simp -implicitDefEqProofs [v1,v3,hk,k0,k1,hkn,hnm,h0',h1',h2',e1,e2,e3,e5,e6,c1,c2,h4,hF]
 simp only [e1,e2,e3,e5,e6,if_false,ne_eq,not_true_eq_false]
 rw [hr]
 by_cases hF:F=0
 ·subst hF
  cases W with
  | true=>simp only [if_true] at h3';simp [v1,v3,hk,k0,k1,hkn,hnm,h0',h1',h2',e1,e2,e3,e5,e6,h4,h3']
  | false=>simp only [Bool.false_eq_true,if_false] at h3';simp [v1,v3,hk,k0,k1,hkn,hnm,h0',h1',h2',e1,e2,e3,e5,e6,h4,h3']
 ·simp -implicitDefEqProofs [v1,v3,hk,k0,k1,hkn,hnm,h0',h1',h2',e1,e2,e3,e5,e6,h4,hF]
theorem al3:TT.lim 103 []=some [.l (lq.map .s)]:=by
 refine aG rfl rfl ?_ rfl
 simp -implicitDefEqProofs [lq]
def sJ (l:List dh) (n:List UInt8):Option Int:=match l with
 | []=>none
 | s::l=>if s.name=n then some s.use else sJ l n
def gZ:Nat→Int→List UInt8→Option Int
 | 0,_,_=>none
 | m+1,k,n=>match sJ (iI k) n with
  | some u=>some u
  | none=>gZ m (k+1) n
def dY (n:List UInt8):Int:=match placeOf n with
 | some p=>gV p
 | none=>-1
theorem aeO (n:List UInt8) (a1:GV) (l:List dh) (hlen:l.length≤1000):∀ (m i:Nat),i+m=l.length→
 TT.lim 110 [.s n,a1,.l (l.map bG),.i .i64 l.length,.i .i64 i]=some (match sJ (l.drop i) n with | some u=>[.i .i64 0,.i .i64 u] | none=>[.i .i64 1])
 | 0,i,hi=>by
  have h0:l.drop i=[]:=List.drop_eq_nil_of_le (by omega)
  refine aA rfl rfl ?_
  have h:¬ ((i:Int) < l.length):=by omega
  simp -implicitDefEqProofs [h,h0,sJ]
 | m+1,i,hi=>by
  have hlt:i < l.length:=by omega
  have ih:=aeO n a1 l hlen m (i+1) (by omega)
  have hcast:((i:Int)+1)=((i+1:Nat):Int):=by omega
  rw [← hcast] at ih
  have h1:((i:Int) < l.length):=by omega
  have hw:=wrap64 (n:=(i:Int)+1) (by omega) (by omega)
  rw [List.drop_eq_getElem_cons hlt]
  refine aA rfl rfl ?_
  by_cases hc:l[i].name=n
  ·simp only [sJ,if_pos hc]
   simp -implicitDefEqProofs [h1,hlt,hc]
  ·simp only [sJ,if_neg hc]
   simp -implicitDefEqProofs [h1,hlt,hc,hw,ih]
theorem aeN (n:List UInt8):∀ (m:Nat) (k:Int),k+m=9→1≤k→
 TT.lim 109 [.s n,.i .i64 k]=some (match gZ m k n with | some u=>[.i .i64 0,.i .i64 u] | none=>[.i .i64 1])
 | 0,k,hk,h1=>by
  have:¬ k≤8:=by omega
  refine aA rfl rfl ?_
  simp -implicitDefEqProofs [this,gZ]
 | m+1,k,hk,h1=>by
  have h8:k≤8:=by omega
  have hw:=wrap64 (n:=k+1) (by omega) (by omega)
  have hs:=adw k
  have ih:=aeN n m (k+1) (by omega) (by omega)
  have hu:TT.lim 110 [.s n,.i .i64 k,.l ((iI k).map bG),.i .i64 (iI k).length,.i .i64 0]=_:=aeO n (.i .i64 k) (iI k) (by have:=SL k;omega) (iI k).length 0 (by omega)
  rw [List.drop_zero] at hu
  have he:gZ (m+1) k n=match sJ (iI k) n with | some u=>some u | none=>gZ m (k+1) n:=rfl
  rw [he]
  generalize iI k=l at *
  cases hf:sJ l n with
  | some u=>
   rw [hf] at hu
   refine aA rfl rfl ?_
   simp -implicitDefEqProofs [h8,hs,hu]
  | none=>
   rw [hf] at hu
   refine aA rfl rfl ?_
   simp -implicitDefEqProofs [h8,hs,hu,hw,ih]
theorem aqP:gZ 8 1 lg=some (gV .rem):=by unfold lg;decide
theorem aqw:gZ 8 1 kZ=some (gV .allow):=by unfold kZ;decide
theorem aqK:gZ 8 1 jw=some (gV .name):=by unfold jw;decide
theorem aqO:gZ 8 1 jA=some (gV .region):=by unfold jA;decide
theorem aqM:gZ 8 1 jy=some (gV .note):=by unfold jy;decide
theorem aqC:gZ 8 1 jS=some (gV .d):=by unfold jS;decide
theorem aqR:gZ 8 1 kD=some (gV .t):=by unfold kD;decide
theorem aqG:gZ 8 1 jW=some (gV (.num 0)):=by unfold jW;decide
theorem aqJ:gZ 8 1 jZ=some (gV (.num 1)):=by unfold jZ;decide
theorem aqI:gZ 8 1 jY=some (gV (.num 2)):=by unfold jY;decide
theorem aqy:gZ 8 1 jO=some (gV (.num 3)):=by unfold jO;decide
theorem aqF:gZ 8 1 jV=some (gV (.num 4)):=by unfold jV;decide
theorem aqA:gZ 8 1 jQ=some (gV (.num 5)):=by unfold jQ;decide
theorem aqN:gZ 8 1 ku=some (gV (.num 6)):=by unfold ku;decide
theorem aqB:gZ 8 1 jR=some (gV (.num 7)):=by unfold jR;decide
theorem aqQ:gZ 8 1 kC=some (gV (.num 8)):=by unfold kC;decide
theorem aqE:gZ 8 1 jU=some (gV (.num 9)):=by unfold jU;decide
theorem aqx:gZ 8 1 jM=some (gV (.num 10)):=by unfold jM;decide
theorem aqD:gZ 8 1 jT=some (gV (.num 11)):=by unfold jT;decide
theorem aqH:gZ 8 1 jX=some (gV (.num 12)):=by unfold jX;decide
theorem aqz:gZ 8 1 jP=some (gV (.num 13)):=by unfold jP;decide
theorem aqS:gZ 8 1 kE=some (gV (.num 14)):=by unfold kE;decide
theorem aqL (n:List UInt8) (e0:¬ n=lg) (e1:¬ n=kZ) (e2:¬ n=jw) (e3:¬ n=jA) (e4:¬ n=jy) (e5:¬ n=jS) (e6:¬ n=kD) (e7:¬ n=jW) (e8:¬ n=jZ) (e9:¬ n=jY) (e10:¬ n=jO) (e11:¬ n=jV) (e12:¬ n=jQ) (e13:¬ n=ku) (e14:¬ n=jR) (e15:¬ n=kC) (e16:¬ n=jU) (e17:¬ n=jM) (e18:¬ n=jT) (e19:¬ n=jX) (e20:¬ n=jP) (e21:¬ n=kE):gZ 8 1 n=none:=by
 have hh:∀k s,s∈iI k→¬ s.name=n:=by
  intro k s hs e
  have h1:=AP n e0 e1 e2 e3 e4 e5 e6 e7 e8 e9 e10 e11 e12 e13 e14 e15 e16 e17 e18 e19 e20 e21
  rw [← e] at h1
  have key:∀s∈iI k,placeOf s.name≠none:=by
   unfold iI
   repeat' split
   all_goals first | (unfold sp1;decide) | (unfold sp2;decide) | (unfold tH;decide) | (unfold tJ;decide) | (unfold tK;decide) | (unfold tN;decide) | (unfold tV;decide) | (unfold tX;decide) | (intro s hs;cases hs)
  exact key s hs h1
 have hf:∀ (l:List dh),(∀s∈l,¬ s.name=n)→sJ l n=none:=by
  intro l
  induction l with
  | nil=>intro _;rfl
  | cons s l ih=>intro h;simp only [sJ];rw [if_neg (h s (by simp))];exact ih fun s hs=>h s (by simp [hs])
 have hk:∀k,sJ (iI k) n=none:=fun k=>hf _ fun s hs=>hh k s hs
 simp only [gZ,hk]
theorem aq1 (n:List UInt8):TT.lim 108 [.s n]=some [.i .i64 (dY n)]:=by
 have hu:∀o,gZ 8 1 n=o→TT.lim 108 [.s n]=some [.i .i64 (match o with | some u=>u | none=>-1)]:=by
  intro o ho
  have h0:=aeN n 8 1 (by omega) (by omega)
  rw [ho] at h0
  refine aG rfl rfl ?_ rfl
  cases o with
  | some u=>simp [h0]
  | none=>simp [h0]
 have hv:gZ 8 1 n=(match placeOf n with | some p=>some (gV p) | none=>none):=by
  refine BP (Q:=fun n=>gZ 8 1 n=(match placeOf n with | some p=>some (gV p) | none=>none)) (by rw [yY];exact aqP) (by rw [yJ];exact aqw) (by rw [wR];exact aqK) (by rw [wU];exact aqO) (by rw [wS];exact aqM) (by rw [wQ];exact aqC) (by rw [wV];exact aqR) (by rw [yS];exact aqG) (by rw [yV];exact aqJ) (by rw [yU];exact aqI) (by rw [yL];exact aqy) (by rw [yR];exact aqF) (by rw [yN];exact aqA) (by rw [yX];exact aqN) (by rw [yO];exact aqB) (by rw [yZ];exact aqQ) (by rw [yQ];exact aqE) (by rw [yK];exact aqx) (by rw [yP];exact aqD) (by rw [yT];exact aqH) (by rw [yM];exact aqz) (by rw [y7];exact aqS) (fun n e0 e1 e2 e3 e4 e5 e6 e7 e8 e9 e10 e11 e12 e13 e14 e15 e16 e17 e18 e19 e20 e21=>by rw [AP n e0 e1 e2 e3 e4 e5 e6 e7 e8 e9 e10 e11 e12 e13 e14 e15 e16 e17 e18 e19 e20 e21];exact aqL n e0 e1 e2 e3 e4 e5 e6 e7 e8 e9 e10 e11 e12 e13 e14 e15 e16 e17 e18 e19 e20 e21) n
 have:=hu _ hv
 rw [this]
 unfold dY
 cases placeOf n<;>rfl
theorem kS {n:List UInt8} {p:Pl} (h:placeOf n=some p):TT.lim 108 [.s n]=some [.i .i64 (gV p)]:=by
 have hu:=aq1 n
 unfold dY at hu
 rw [h] at hu
 exact hu
def eU (b:ay) (r:List GV) (n:List UInt8) (p:Pl):Prop:=TT.lim 107 [bH b r,.s n]=some [.i .u64 (aT b p).1,.s (aT b p).2]
theorem amB (b:ay) (r:List GV):TT.lim 111 [bH b r,.s jW]=some [.i .u64 (bQ b 0)]:=by
 have e:bQ b 0=b.id:=rfl
 rw [e]
 unfold jW
 refine aG rfl rfl ?_ rfl
 simp
theorem amE (b:ay) (r:List GV):TT.lim 111 [bH b r,.s jZ]=some [.i .u64 (bQ b 1)]:=by
 have e:bQ b 1=b.min:=rfl
 rw [e]
 unfold jZ
 refine aG rfl rfl ?_ rfl
 simp
theorem amD (b:ay) (r:List GV):TT.lim 111 [bH b r,.s jY]=some [.i .u64 (bQ b 2)]:=by
 have e:bQ b 2=b.max:=rfl
 rw [e]
 unfold jY
 refine aG rfl rfl ?_ rfl
 simp
theorem amu (b:ay) (r:List GV):TT.lim 111 [bH b r,.s jO]=some [.i .u64 (bQ b 3)]:=by
 have e:bQ b 3=b.chosen:=rfl
 rw [e]
 unfold jO
 refine aG rfl rfl ?_ rfl
 simp
theorem amA (b:ay) (r:List GV):TT.lim 111 [bH b r,.s jV]=some [.i .u64 (bQ b 4)]:=by
 have e:bQ b 4=b.flags:=rfl
 rw [e]
 unfold jV
 refine aG rfl rfl ?_ rfl
 simp
theorem amw (b:ay) (r:List GV):TT.lim 111 [bH b r,.s jQ]=some [.i .u64 (bQ b 5)]:=by
 have e:bQ b 5=b.cost:=rfl
 rw [e]
 unfold jQ
 refine aG rfl rfl ?_ rfl
 simp
theorem amF (b:ay) (r:List GV):TT.lim 111 [bH b r,.s ku]=some [.i .u64 (bQ b 6)]:=by
 have e:bQ b 6=b.priority:=rfl
 rw [e]
 unfold ku
 refine aG rfl rfl ?_ rfl
 simp
theorem amx (b:ay) (r:List GV):TT.lim 111 [bH b r,.s jR]=some [.i .u64 (bQ b 7)]:=by
 have e:bQ b 7=b.deadline:=rfl
 rw [e]
 unfold jR
 refine aG rfl rfl ?_ rfl
 simp
theorem amG (b:ay) (r:List GV):TT.lim 111 [bH b r,.s kC]=some [.i .u64 (bQ b 8)]:=by
 have e:bQ b 8=b.retry:=rfl
 rw [e]
 unfold kC
 refine aG rfl rfl ?_ rfl
 simp
theorem amz (b:ay) (r:List GV):TT.lim 111 [bH b r,.s jU]=some [.i .u64 (bQ b 9)]:=by
 have e:bQ b 9=b.epoch:=rfl
 rw [e]
 unfold jU
 refine aG rfl rfl ?_ rfl
 simp
theorem ams (b:ay) (r:List GV):TT.lim 111 [bH b r,.s jM]=some [.i .u64 (bQ b 10)]:=by
 have e:bQ b 10=b.base:=rfl
 rw [e]
 unfold jM
 refine aG rfl rfl ?_ rfl
 simp
theorem amy (b:ay) (r:List GV):TT.lim 111 [bH b r,.s jT]=some [.i .u64 (bQ b 11)]:=by
 have e:bQ b 11=b.digest:=rfl
 rw [e]
 unfold jT
 refine aG rfl rfl ?_ rfl
 simp
theorem amC (b:ay) (r:List GV):TT.lim 111 [bH b r,.s jX]=some [.i .u64 (bQ b 12)]:=by
 have e:bQ b 12=b.lag:=rfl
 rw [e]
 unfold jX
 refine aG rfl rfl ?_ rfl
 simp
theorem amv (b:ay) (r:List GV):TT.lim 111 [bH b r,.s jP]=some [.i .u64 (bQ b 13)]:=by
 have e:bQ b 13=b.code:=rfl
 rw [e]
 unfold jP
 refine aG rfl rfl ?_ rfl
 simp
theorem amH (b:ay) (r:List GV):TT.lim 111 [bH b r,.s kE]=some [.i .u64 (bQ b 14)]:=by
 have e:bQ b 14=b.want:=rfl
 rw [e]
 unfold kE
 refine aG rfl rfl ?_ rfl
 simp
theorem adW (b:ay) (r:List GV):TT.lim 112 [bH b r,.s jw]=some [.s b.name]:=by
 unfold jw
 refine aG rfl rfl ?_ rfl
 simp
theorem adY (b:ay) (r:List GV):TT.lim 112 [bH b r,.s jA]=some [.s b.region]:=by
 unfold jA
 refine aG rfl rfl ?_ rfl
 simp
theorem adX (b:ay) (r:List GV):TT.lim 112 [bH b r,.s jy]=some [.s b.note]:=by
 unfold jy
 refine aG rfl rfl ?_ rfl
 simp
theorem adL (b:ay) (r:List GV):eU b r jW (.num 0):=by
 have hu:=kS yS
 unfold eU
 have hn:=amB b r
 have hu:TT.lim 108 [.s jW]=some [.i .i64 0]:=hu
 refine aG rfl rfl ?_ rfl
 simp -implicitDefEqProofs [hu,dF,hn,aT]
theorem adO (b:ay) (r:List GV):eU b r jZ (.num 1):=by
 have hu:=kS yV
 unfold eU
 have hn:=amE b r
 have hu:TT.lim 108 [.s jZ]=some [.i .i64 0]:=hu
 refine aG rfl rfl ?_ rfl
 simp -implicitDefEqProofs [hu,dF,hn,aT]
theorem adN (b:ay) (r:List GV):eU b r jY (.num 2):=by
 have hu:=kS yU
 unfold eU
 have hn:=amD b r
 have hu:TT.lim 108 [.s jY]=some [.i .i64 0]:=hu
 refine aG rfl rfl ?_ rfl
 simp -implicitDefEqProofs [hu,dF,hn,aT]
theorem adE (b:ay) (r:List GV):eU b r jO (.num 3):=by
 have hu:=kS yL
 unfold eU
 have hn:=amu b r
 have hu:TT.lim 108 [.s jO]=some [.i .i64 0]:=hu
 refine aG rfl rfl ?_ rfl
 simp -implicitDefEqProofs [hu,dF,hn,aT]
theorem adK (b:ay) (r:List GV):eU b r jV (.num 4):=by
 have hu:=kS yR
 unfold eU
 have hn:=amA b r
 have hu:TT.lim 108 [.s jV]=some [.i .i64 0]:=hu
 refine aG rfl rfl ?_ rfl
 simp -implicitDefEqProofs [hu,dF,hn,aT]
theorem adG (b:ay) (r:List GV):eU b r jQ (.num 5):=by
 have hu:=kS yN
 unfold eU
 have hn:=amw b r
 have hu:TT.lim 108 [.s jQ]=some [.i .i64 0]:=hu
 refine aG rfl rfl ?_ rfl
 simp -implicitDefEqProofs [hu,dF,hn,aT]
theorem adR (b:ay) (r:List GV):eU b r ku (.num 6):=by
 have hu:=kS yX
 unfold eU
 have hn:=amF b r
 have hu:TT.lim 108 [.s ku]=some [.i .i64 0]:=hu
 refine aG rfl rfl ?_ rfl
 simp -implicitDefEqProofs [hu,dF,hn,aT]
theorem adH (b:ay) (r:List GV):eU b r jR (.num 7):=by
 have hu:=kS yO
 unfold eU
 have hn:=amx b r
 have hu:TT.lim 108 [.s jR]=some [.i .i64 0]:=hu
 refine aG rfl rfl ?_ rfl
 simp -implicitDefEqProofs [hu,dF,hn,aT]
theorem adU (b:ay) (r:List GV):eU b r kC (.num 8):=by
 have hu:=kS yZ
 unfold eU
 have hn:=amG b r
 have hu:TT.lim 108 [.s kC]=some [.i .i64 0]:=hu
 refine aG rfl rfl ?_ rfl
 simp -implicitDefEqProofs [hu,dF,hn,aT]
theorem adJ (b:ay) (r:List GV):eU b r jU (.num 9):=by
 have hu:=kS yQ
 unfold eU
 have hn:=amz b r
 have hu:TT.lim 108 [.s jU]=some [.i .i64 0]:=hu
 refine aG rfl rfl ?_ rfl
 simp -implicitDefEqProofs [hu,dF,hn,aT]
theorem adD (b:ay) (r:List GV):eU b r jM (.num 10):=by
 have hu:=kS yK
 unfold eU
 have hn:=ams b r
 have hu:TT.lim 108 [.s jM]=some [.i .i64 0]:=hu
 refine aG rfl rfl ?_ rfl
 simp -implicitDefEqProofs [hu,dF,hn,aT]
theorem adI (b:ay) (r:List GV):eU b r jT (.num 11):=by
 have hu:=kS yP
 unfold eU
 have hn:=amy b r
 have hu:TT.lim 108 [.s jT]=some [.i .i64 0]:=hu
 refine aG rfl rfl ?_ rfl
 simp -implicitDefEqProofs [hu,dF,hn,aT]
theorem adM (b:ay) (r:List GV):eU b r jX (.num 12):=by
 have hu:=kS yT
 unfold eU
 have hn:=amC b r
 have hu:TT.lim 108 [.s jX]=some [.i .i64 0]:=hu
 refine aG rfl rfl ?_ rfl
 simp -implicitDefEqProofs [hu,dF,hn,aT]
theorem adF (b:ay) (r:List GV):eU b r jP (.num 13):=by
 have hu:=kS yM
 unfold eU
 have hn:=amv b r
 have hu:TT.lim 108 [.s jP]=some [.i .i64 0]:=hu
 refine aG rfl rfl ?_ rfl
 simp -implicitDefEqProofs [hu,dF,hn,aT]
theorem adV (b:ay) (r:List GV):eU b r kE (.num 14):=by
 have hu:=kS y7
 unfold eU
 have hn:=amH b r
 have hu:TT.lim 108 [.s kE]=some [.i .i64 0]:=hu
 refine aG rfl rfl ?_ rfl
 simp -implicitDefEqProofs [hu,dF,hn,aT]
theorem adC (b:ay) (r:List GV):eU b r kZ .allow:=by
 have hu:=kS yJ
 unfold eU
 have hu:TT.lim 108 [.s kZ]=some [.i .i64 1]:=hu
 refine aG rfl rfl ?_ rfl
 cases hc:b.allowed<;>simp [hu,aT,hc]
theorem adT (b:ay) (r:List GV) (hb:gI b):eU b r lg .rem:=by
 have hu:=kS yY
 unfold eU
 have hu:TT.lim 108 [.s lg]=some [.i .i64 2]:=hu
 have hx:=hb.remaining
 refine aG rfl rfl ?_ rfl
 by_cases hc:0≤b.remaining
 ·have w1:=fU (n:=b.remaining) (by omega) (by omega)
  have w2:=fU (n:=2 * b.remaining) (by omega) (by omega)
  simp -implicitDefEqProofs [hu,aT,zz,hc,w1,w2]
 ·have w0:=wrap64 (n:=b.remaining+1) (by omega) (by omega)
  have w00:=wrap64 (n:=0 - (b.remaining+1)) (by omega) (by omega)
  have w1:=fU (n:=0 - (b.remaining+1)) (by omega) (by omega)
  have w2:=fU (n:=0 - (b.remaining+1)+1) (by omega) (by omega)
  have w3:=fU (n:=0 - (b.remaining+1)+1 - 1) (by omega) (by omega)
  have w4:=fU (n:=2 * (0 - (b.remaining+1)+1 - 1)) (by omega) (by omega)
  have w5:=fU (n:=2 * (0 - (b.remaining+1)+1 - 1)+1) (by omega) (by omega)
  have e:2 * (0 - (b.remaining+1)+1 - 1)+1 = -2 * b.remaining - 1:=by omega
  have hz:zz b.remaining=2 * (0 - (b.remaining+1)+1 - 1)+1:=by unfold zz;rw [if_neg hc,e]
  have hv:aT b .rem=(zz b.remaining,[]):=rfl
  rw [hv,hz]
  simp only [Nat.reduceAdd] at *
  simp -implicitDefEqProofs [-Int.add_sub_cancel, -Int.zero_sub,hu,hc,w0,w00,w1,w2,w3,w4,w5]
theorem adP (b:ay) (r:List GV):eU b r jw .name:=by
 have hu:=kS wR
 unfold eU
 have hn:=adW b r
 have hu:TT.lim 108 [.s jw]=some [.i .i64 3]:=hu
 refine aG rfl rfl ?_ rfl
 simp -implicitDefEqProofs [hu,dF,hn,aT]
theorem adS (b:ay) (r:List GV):eU b r jA .region:=by
 have hu:=kS wU
 unfold eU
 have hn:=adY b r
 have hu:TT.lim 108 [.s jA]=some [.i .i64 3]:=hu
 refine aG rfl rfl ?_ rfl
 simp -implicitDefEqProofs [hu,dF,hn,aT]
theorem adQ (b:ay) (r:List GV):eU b r jy .note:=by
 have hu:=kS wS
 unfold eU
 have hn:=adX b r
 have hu:TT.lim 108 [.s jy]=some [.i .i64 3]:=hu
 refine aG rfl rfl ?_ rfl
 simp -implicitDefEqProofs [hu,dF,hn,aT]
theorem ank (b:ay) (r:List GV) (hf:gK b.d=true):eU b r jS .d:=by
 have hu:=kS wQ
 unfold eU
 have hu:TT.lim 108 [.s jS]=some [.i .i64 4]:=hu
 have hk:=Fg b.d hf
 refine aG rfl rfl ?_ rfl
 by_cases e:b.d=[]
 ·simp -implicitDefEqProofs [hu,aT,e]
 ·simp -implicitDefEqProofs [hu,aT,e,hk]
theorem anl (b:ay) (r:List GV) (hb:gI b) (hf:oI b.t):eU b r kD .t:=by
 have hu:=kS wV
 unfold eU
 have hu:TT.lim 108 [.s kD]=some [.i .i64 5]:=hu
 have hk:=alZ b.t hb.t hf
 refine aG rfl rfl ?_ rfl
 by_cases e:b.t=[]
 ·simp -implicitDefEqProofs [hu,aT,e]
 ·simp -implicitDefEqProofs [hu,aT,e,hk]
theorem oP (x:Int):decide (x=0)=(decide (x=0)&&decide (([]:List UInt8)=[])):=by simp
theorem QJ (x:List UInt8):decide (x=[])=(decide ((0:Int)=0)&&decide (x=[])):=by simp
theorem lT (b:ay) (r:List GV) {n:List UInt8} {c:Bool} {x:Int×List UInt8} (d1:¬ n=[100,101,115,99,114]) (d2:¬ n=[116,97,98,108,101]) (hv:TT.lim 107 [bH b r,.s n]=some [.i .u64 x.1,.s x.2]) (en:c=(decide (x.1=0)&&decide (x.2=[]))):TT.lim 106 [bH b r,.s n]=some [.b c]:=by
 rw [en]
 refine aG rfl rfl ?_ rfl
 by_cases c1:x.1=0
 ·simp -implicitDefEqProofs [d1,d2,dF,hv,c1]
 ·simp -implicitDefEqProofs [d1,d2,dF,hv,c1]
theorem amn (b:ay) (r:List GV) (hb:gI b):TT.lim 106 [bH b r,.s lg]=some [.b (dV b .rem)]:=lT b r (by decide) (by decide) (adT b r hb) (by
 rw [Bool.eq_iff_iff]
 simp only [dV,aT,zz]
 by_cases hc:0≤b.remaining
 ·simp -implicitDefEqProofs [hc]
  omega
 ·simp -implicitDefEqProofs [hc]
  omega)
theorem al5 (b:ay) (r:List GV):TT.lim 106 [bH b r,.s kZ]=some [.b (dV b .allow)]:=lT b r (by decide) (by decide) (adC b r ) (by
 rw [Bool.eq_iff_iff]
 by_cases hc:b.allowed=true<;>simp [dV,aT,hc])
theorem amj (b:ay) (r:List GV):TT.lim 106 [bH b r,.s jw]=some [.b (dV b .name)]:=lT b r (by decide) (by decide) (adP b r ) (QJ b.name)
theorem amm (b:ay) (r:List GV):TT.lim 106 [bH b r,.s jA]=some [.b (dV b .region)]:=lT b r (by decide) (by decide) (adS b r ) (QJ b.region)
theorem amk (b:ay) (r:List GV):TT.lim 106 [bH b r,.s jy]=some [.b (dV b .note)]:=lT b r (by decide) (by decide) (adQ b r ) (QJ b.note)
theorem amb (b:ay) (r:List GV):TT.lim 106 [bH b r,.s jS]=some [.b (dV b .d)]:=by
 have e:dV b .d=decide (b.d=[]):=rfl
 rw [e]
 unfold jS
 refine aG rfl rfl ?_ rfl
 by_cases hc:b.d=[]<;>simp [hc]
theorem amq (b:ay) (r:List GV):TT.lim 106 [bH b r,.s kD]=some [.b (dV b .t)]:=by
 have e:dV b .t=decide (b.t=[]):=rfl
 rw [e]
 unfold kD
 refine aG rfl rfl ?_ rfl
 by_cases hc:b.t=[]<;>simp [hc]
theorem amf (b:ay) (r:List GV):TT.lim 106 [bH b r,.s jW]=some [.b (dV b (.num 0))]:=lT b r (by decide) (by decide) (adL b r ) (oP (bQ b 0))
theorem ami (b:ay) (r:List GV):TT.lim 106 [bH b r,.s jZ]=some [.b (dV b (.num 1))]:=lT b r (by decide) (by decide) (adO b r ) (oP (bQ b 1))
theorem amh (b:ay) (r:List GV):TT.lim 106 [bH b r,.s jY]=some [.b (dV b (.num 2))]:=lT b r (by decide) (by decide) (adN b r ) (oP (bQ b 2))
theorem al7 (b:ay) (r:List GV):TT.lim 106 [bH b r,.s jO]=some [.b (dV b (.num 3))]:=lT b r (by decide) (by decide) (adE b r ) (oP (bQ b 3))
theorem ame (b:ay) (r:List GV):TT.lim 106 [bH b r,.s jV]=some [.b (dV b (.num 4))]:=lT b r (by decide) (by decide) (adK b r ) (oP (bQ b 4))
theorem al9 (b:ay) (r:List GV):TT.lim 106 [bH b r,.s jQ]=some [.b (dV b (.num 5))]:=lT b r (by decide) (by decide) (adG b r ) (oP (bQ b 5))
theorem aml (b:ay) (r:List GV):TT.lim 106 [bH b r,.s ku]=some [.b (dV b (.num 6))]:=lT b r (by decide) (by decide) (adR b r ) (oP (bQ b 6))
theorem ama (b:ay) (r:List GV):TT.lim 106 [bH b r,.s jR]=some [.b (dV b (.num 7))]:=lT b r (by decide) (by decide) (adH b r ) (oP (bQ b 7))
theorem amo (b:ay) (r:List GV):TT.lim 106 [bH b r,.s kC]=some [.b (dV b (.num 8))]:=lT b r (by decide) (by decide) (adU b r ) (oP (bQ b 8))
theorem amd (b:ay) (r:List GV):TT.lim 106 [bH b r,.s jU]=some [.b (dV b (.num 9))]:=lT b r (by decide) (by decide) (adJ b r ) (oP (bQ b 9))
theorem al6 (b:ay) (r:List GV):TT.lim 106 [bH b r,.s jM]=some [.b (dV b (.num 10))]:=lT b r (by decide) (by decide) (adD b r ) (oP (bQ b 10))
theorem amc (b:ay) (r:List GV):TT.lim 106 [bH b r,.s jT]=some [.b (dV b (.num 11))]:=lT b r (by decide) (by decide) (adI b r ) (oP (bQ b 11))
theorem amg (b:ay) (r:List GV):TT.lim 106 [bH b r,.s jX]=some [.b (dV b (.num 12))]:=lT b r (by decide) (by decide) (adM b r ) (oP (bQ b 12))
theorem al8 (b:ay) (r:List GV):TT.lim 106 [bH b r,.s jP]=some [.b (dV b (.num 13))]:=lT b r (by decide) (by decide) (adF b r ) (oP (bQ b 13))
theorem amr (b:ay) (r:List GV):TT.lim 106 [bH b r,.s kE]=some [.b (dV b (.num 14))]:=lT b r (by decide) (by decide) (adV b r ) (oP (bQ b 14))
theorem al4 (b:ay) (r:List GV) (hb:gI b) (n:List UInt8):placeOf n≠none→TT.lim 106 [bH b r,.s n]=some [.b (fD b n)]:=by
 refine BP (Q:=fun n=>placeOf n≠none→TT.lim 106 [bH b r,.s n]=some [.b (fD b n)]) (fun _=>by unfold fD;rw [yY];exact amn b r hb) (fun _=>by unfold fD;rw [yJ];exact al5 b r ) (fun _=>by unfold fD;rw [wR];exact amj b r ) (fun _=>by unfold fD;rw [wU];exact amm b r ) (fun _=>by unfold fD;rw [wS];exact amk b r ) (fun _=>by unfold fD;rw [wQ];exact amb b r ) (fun _=>by unfold fD;rw [wV];exact amq b r ) (fun _=>by unfold fD;rw [yS];exact amf b r ) (fun _=>by unfold fD;rw [yV];exact ami b r ) (fun _=>by unfold fD;rw [yU];exact amh b r ) (fun _=>by unfold fD;rw [yL];exact al7 b r ) (fun _=>by unfold fD;rw [yR];exact ame b r ) (fun _=>by unfold fD;rw [yN];exact al9 b r ) (fun _=>by unfold fD;rw [yX];exact aml b r ) (fun _=>by unfold fD;rw [yO];exact ama b r ) (fun _=>by unfold fD;rw [yZ];exact amo b r ) (fun _=>by unfold fD;rw [yQ];exact amd b r ) (fun _=>by unfold fD;rw [yK];exact al6 b r ) (fun _=>by unfold fD;rw [yP];exact amc b r ) (fun _=>by unfold fD;rw [yT];exact amg b r ) (fun _=>by unfold fD;rw [yM];exact al8 b r ) (fun _=>by unfold fD;rw [y7];exact amr b r ) (fun n e0 e1 e2 e3 e4 e5 e6 e7 e8 e9 e10 e11 e12 e13 e14 e15 e16 e17 e18 e19 e20 e21 h=>absurd (AP n e0 e1 e2 e3 e4 e5 e6 e7 e8 e9 e10 e11 e12 e13 e14 e15 e16 e17 e18 e19 e20 e21) h) n
theorem ac8 (b:ay) (r:List GV) (n:List UInt8) (a3 a4 a5:GV) (l:List dh) (hlen:l.length≤1000):∀ (m i:Nat) (is:Bool),i+m=l.length→
 TT.lim 105 [.l (l.map bG),.s n,.b is,a3,a4,a5,.i .i64 l.length,.i .i64 i,.i .i64 b.kind,.i .u64 b.id,.i .u64 b.min,.i .u64 b.max,.i .u64 b.chosen,.i .u64 b.flags,.i .u64 b.cost,.i .u64 b.priority,.i .u64 b.deadline,.i .u64 b.retry,.i .u64 b.epoch,.i .u64 b.base,.i .u64 b.digest,.i .u64 b.lag,.i .u64 b.code,.i .u64 b.want,.i .i64 b.remaining,.b b.allowed,.s b.name,.s b.region,.s b.note,.l (b.d.map ent),.l (b.t.map row),.l r]=some [.i .i64 0,.b (is || nK (l.drop i) n)]
 | 0,i,is,hi=>by
  have h0:l.drop i=[]:=List.drop_eq_nil_of_le (by omega)
  refine aA rfl rfl ?_
  have h:¬ ((i:Int) < l.length):=by omega
  simp -implicitDefEqProofs [h,h0,nK]
 | m+1,i,is,hi=>by
  have hlt:i < l.length:=by omega
  have hcast:((i:Int)+1)=((i+1:Nat):Int):=by omega
  have ih:=fun is=>ac8 b r n a3 a4 a5 l hlen m (i+1) is (by omega)
  simp only [← hcast] at ih
  have h1:((i:Int) < l.length):=by omega
  have hw:=wrap64 (n:=(i:Int)+1) (by omega) (by omega)
  have hd:nK (l.drop i) n=(decide (l[i].name=n) || nK (l.drop (i+1)) n):=by rw [List.drop_eq_getElem_cons hlt];rfl
  rw [hd]
  generalize nK (l.drop (i+1)) n=X at *
  refine aA rfl rfl ?_
  cases is with
  | true=>simp [h1,hlt,hw,ih]
  | false=>simp [h1,hlt,hw,ih]
theorem ac7 (b:ay) (r:List GV) (hb:gI b) (l:List dh) (hlen:l.length≤1000) (ns:List (List UInt8)) (hn:ns.length≤1000) (hns:∀n∈ns,placeOf n≠none):∀ (m i:Nat),i+m=ns.length→
 TT.lim 104 [.l (l.map bG),.l (ns.map .s),.i .i64 ns.length,.i .i64 i,.i .i64 b.kind,.i .u64 b.id,.i .u64 b.min,.i .u64 b.max,.i .u64 b.chosen,.i .u64 b.flags,.i .u64 b.cost,.i .u64 b.priority,.i .u64 b.deadline,.i .u64 b.retry,.i .u64 b.epoch,.i .u64 b.base,.i .u64 b.digest,.i .u64 b.lag,.i .u64 b.code,.i .u64 b.want,.i .i64 b.remaining,.b b.allowed,.s b.name,.s b.region,.s b.note,.l (b.d.map ent),.l (b.t.map row),.l r]=some (if (ns.drop i).all (fun n=>nK l n || fD b n)=true then [.i .i64 1] else [.i .i64 0])
 | 0,i,hi=>by
  have h0:ns.drop i=[]:=List.drop_eq_nil_of_le (by omega)
  refine aA rfl rfl ?_
  have h:¬ ((i:Int) < ns.length):=by omega
  simp -implicitDefEqProofs [h,h0]
 | m+1,i,hi=>by
  have hlt:i < ns.length:=by omega
  have ih:=ac7 b r hb l hlen ns hn hns m (i+1) (by omega)
  have hcast:((i:Int)+1)=((i+1:Nat):Int):=by omega
  rw [← hcast] at ih
  have h1:((i:Int) < ns.length):=by omega
  have hw:=wrap64 (n:=(i:Int)+1) (by omega) (by omega)
  have hd:(ns.drop i).all (fun n=>nK l n || fD b n)=((nK l ns[i] || fD b ns[i])&&(ns.drop (i+1)).all (fun n=>nK l n || fD b n)):=by rw [List.drop_eq_getElem_cons hlt,List.all_cons]
  rw [hd]
  have hN:=al4 b r hb ns[i] (hns _ (List.getElem_mem hlt))
  have h0:TT.lim 105 [.l (l.map bG),.s ns[i],.b false,.l (ns.map .s),.i .i64 ns.length,.i .i64 i,.i .i64 l.length,.i .i64 0,.i .i64 b.kind,.i .u64 b.id,.i .u64 b.min,.i .u64 b.max,.i .u64 b.chosen,.i .u64 b.flags,.i .u64 b.cost,.i .u64 b.priority,.i .u64 b.deadline,.i .u64 b.retry,.i .u64 b.epoch,.i .u64 b.base,.i .u64 b.digest,.i .u64 b.lag,.i .u64 b.code,.i .u64 b.want,.i .i64 b.remaining,.b b.allowed,.s b.name,.s b.region,.s b.note,.l (b.d.map ent),.l (b.t.map row),.l r]=_:=ac8 b r ns[i] (.l (ns.map .s)) (.i .i64 ns.length) (.i .i64 i) l hlen l.length 0 false (by omega)
  rw [List.drop_zero,Bool.false_or] at h0
  generalize (ns.drop (i+1)).all (fun n=>nK l n || fD b n)=X at *
  generalize nK l ns[i]=A at *
  generalize fD b ns[i]=B at *
  refine aA rfl rfl ?_
  cases A with
  | true=>simp [h1,hlt,hw,h0,ih]
  | false=>
   cases B with
   | true=>simp [h1,hlt,hw,h0,dF,hN,ih]
   | false=>simp [h1,hlt,hw,h0,dF,hN]
def um (b:ay) (r:List GV) (s:dh):Prop:=∀ (l:List dh) (i:Nat) (out:List GV),(h:i < l.length)→l[i]=s→l.length≤1000→
 TT.lim 140 [.l (l.map bG),.i .i64 l.length,.i .i64 ((i:Int)+1),.i .i64 b.kind,.i .u64 b.id,.i .u64 b.min,.i .u64 b.max,.i .u64 b.chosen,.i .u64 b.flags,.i .u64 b.cost,.i .u64 b.priority,.i .u64 b.deadline,.i .u64 b.retry,.i .u64 b.epoch,.i .u64 b.base,.i .u64 b.digest,.i .u64 b.lag,.i .u64 b.code,.i .u64 b.want,.i .i64 b.remaining,.b b.allowed,.s b.name,.s b.region,.s b.note,.l (b.d.map ent),.l (b.t.map row),.l r]=some out→
 TT.lim 140 [.l (l.map bG),.i .i64 l.length,.i .i64 i,.i .i64 b.kind,.i .u64 b.id,.i .u64 b.min,.i .u64 b.max,.i .u64 b.chosen,.i .u64 b.flags,.i .u64 b.cost,.i .u64 b.priority,.i .u64 b.deadline,.i .u64 b.retry,.i .u64 b.epoch,.i .u64 b.base,.i .u64 b.digest,.i .u64 b.lag,.i .u64 b.code,.i .u64 b.want,.i .i64 b.remaining,.b b.allowed,.s b.name,.s b.region,.s b.note,.l (b.d.map ent),.l (b.t.map row),.l r]=some (if jv b s.name=0 then out else [.i .i64 0,.i .i64 (jv b s.name)])
theorem amQ (b:ay) (r:List GV) (s:dh) (u3:s.use≠3) (u4:s.use≠4) (u5:s.use≠5) (hm:jv b s.name=0):um b r s:=by
 intro l i out h hs hlen ih
 have h1:((i:Int) < l.length):=by omega
 have hw:=wrap64 (n:=(i:Int)+1) (by omega) (by omega)
 rw [if_pos hm]
 refine aA rfl rfl ?_
 simp -implicitDefEqProofs [h1,h,hs,hw,u3,u4,u5,ih]
theorem amO (b:ay) (r:List GV) (hb:gI b) (s:dh) (hu:s.use=3) (hn:s.name=jw):um b r s:=by
 intro l i out h hs hlen ih
 have h1:((i:Int) < l.length):=by omega
 have hw:=wrap64 (n:=(i:Int)+1) (by omega) (by omega)
 have hm:jv b s.name=iY b.name 0 256:=by rw [hn];unfold jv;rw [wR];rfl
 have hr:=adW b r
 have hc:=EF b.name 0 256 hb.name
 rw [hm]
 generalize iY b.name 0 256=c at *
 rw [← hn] at hr
 by_cases e:c=0
 ·subst e
  rw [if_pos rfl]
  refine aA rfl rfl ?_
  simp -implicitDefEqProofs [h1,h,hs,hw,hu,dF,hr,hc,ih]
 ·rw [if_neg e]
  refine aA rfl rfl ?_
  simp -implicitDefEqProofs [h1,h,hs,hw,hu,dF,hr,hc,e]
theorem amR (b:ay) (r:List GV) (hb:gI b) (s:dh) (hu:s.use=3) (hn:s.name=jA):um b r s:=by
 intro l i out h hs hlen ih
 have h1:((i:Int) < l.length):=by omega
 have hw:=wrap64 (n:=(i:Int)+1) (by omega) (by omega)
 have hm:jv b s.name=iY b.region 0 256:=by rw [hn];unfold jv;rw [wU];rfl
 have hr:=adY b r
 have hc:=EF b.region 0 256 hb.region
 rw [hm]
 generalize iY b.region 0 256=c at *
 rw [← hn] at hr
 by_cases e:c=0
 ·subst e
  rw [if_pos rfl]
  refine aA rfl rfl ?_
  simp -implicitDefEqProofs [h1,h,hs,hw,hu,dF,hr,hc,ih]
 ·rw [if_neg e]
  refine aA rfl rfl ?_
  simp -implicitDefEqProofs [h1,h,hs,hw,hu,dF,hr,hc,e]
theorem amP (b:ay) (r:List GV) (hb:gI b) (s:dh) (hu:s.use=3) (hn:s.name=jy):um b r s:=by
 intro l i out h hs hlen ih
 have h1:((i:Int) < l.length):=by omega
 have hw:=wrap64 (n:=(i:Int)+1) (by omega) (by omega)
 have hm:jv b s.name=iY b.note 0 256:=by rw [hn];unfold jv;rw [wS];rfl
 have hr:=adX b r
 have hc:=EF b.note 0 256 hb.note
 rw [hm]
 generalize iY b.note 0 256=c at *
 rw [← hn] at hr
 by_cases e:c=0
 ·subst e
  rw [if_pos rfl]
  refine aA rfl rfl ?_
  simp -implicitDefEqProofs [h1,h,hs,hw,hu,dF,hr,hc,ih]
 ·rw [if_neg e]
  refine aA rfl rfl ?_
  simp -implicitDefEqProofs [h1,h,hs,hw,hu,dF,hr,hc,e]
theorem amN (b:ay) (r:List GV) (hb:gI b) (s:dh) (hu:s.use=4) (hn:s.name=jS):um b r s:=by
 intro l i out h hs hlen ih
 have h1:((i:Int) < l.length):=by omega
 have hw:=wrap64 (n:=(i:Int)+1) (by omega) (by omega)
 have hm:jv b s.name=if b.d=[] then 0 else og b.d:=by rw [hn];unfold jv;rw [wQ];rfl
 have hc:=XP b.d hb.d
 rw [hm]
 by_cases hd:b.d=[]
 ·rw [if_pos (by rw [if_pos hd])]
  have hd':(b.d=[])=True:=eq_true hd
  have hd2:(0 < b.d.length)=False:=eq_false (by rw [hd];simp)
  refine aA rfl rfl ?_
  simp -implicitDefEqProofs [h1,h,hs,hw,hu,hd2,ih]
 ·rw [if_neg hd]
  have hd0:0 < b.d.length:=List.length_pos_iff.2 hd
  generalize og b.d=c at *
  by_cases e:c=0
  ·subst e
   rw [if_pos rfl]
   refine aA rfl rfl ?_
   simp -implicitDefEqProofs [h1,h,hs,hw,hu,hd,hc,ih]
  ·rw [if_neg e]
   refine aA rfl rfl ?_
   simp -implicitDefEqProofs [h1,h,hs,hw,hu,hd,hc,e]
theorem amS (b:ay) (r:List GV) (hb:gI b) (hf:oI b.t) (s:dh) (hu:s.use=5) (hn:s.name=kD):um b r s:=by
 intro l i out h hs hlen ih
 have h1:((i:Int) < l.length):=by omega
 have hw:=wrap64 (n:=(i:Int)+1) (by omega) (by omega)
 have hm:jv b s.name=nC b.t:=by rw [hn];unfold jv;rw [wV];rfl
 have hc:=XO b.t hb.t hf
 rw [hm]
 generalize nC b.t=c at *
 by_cases e:c=0
 ·subst e
  rw [if_pos rfl]
  refine aA rfl rfl ?_
  simp -implicitDefEqProofs [h1,h,hs,hw,hu,hc,ih]
 ·rw [if_neg e]
  refine aA rfl rfl ?_
  simp -implicitDefEqProofs [h1,h,hs,hw,hu,hc,e]
theorem nR (b:ay) (r:List GV) (s:dh) {n:List UInt8} {p:Pl} (h:placeOf n=some p) (e:gV p < 3) (m:QD b p=0) (_:placeOf n≠none) (hn:s.name=n) (hu:s.use=dY n):um b r s:=by
 have e2:s.use < 3:=by rw [hu];unfold dY;rw [h];exact e
 exact amQ b r s (by omega) (by omega) (by omega) (by rw [hn];unfold jv;rw [h];exact m)
theorem amM (b:ay) (r:List GV) (hb:gI b) (hf:oI b.t) (s:dh) (hp:placeOf s.name≠none) (hu:s.use=dY s.name):um b r s:=by
 have key:∀n,placeOf n≠none→s.name=n→s.use=dY n→um b r s:=by
  intro n
  refine BP (Q:=fun n=>placeOf n≠none→s.name=n→s.use=dY n→um b r s) (nR b r s yY (by decide) rfl) (nR b r s yJ (by decide) rfl) (fun _ hn hu=>amO b r hb s (hu.trans (by unfold dY;rw [wR];rfl)) hn) (fun _ hn hu=>amR b r hb s (hu.trans (by unfold dY;rw [wU];rfl)) hn) (fun _ hn hu=>amP b r hb s (hu.trans (by unfold dY;rw [wS];rfl)) hn) (fun _ hn hu=>amN b r hb s (hu.trans (by unfold dY;rw [wQ];rfl)) hn) (fun _ hn hu=>amS b r hb hf s (hu.trans (by unfold dY;rw [wV];rfl)) hn) (nR b r s yS (by decide) rfl) (nR b r s yV (by decide) rfl) (nR b r s yU (by decide) rfl) (nR b r s yL (by decide) rfl) (nR b r s yR (by decide) rfl) (nR b r s yN (by decide) rfl) (nR b r s yX (by decide) rfl) (nR b r s yO (by decide) rfl) (nR b r s yZ (by decide) rfl) (nR b r s yQ (by decide) rfl) (nR b r s yK (by decide) rfl) (nR b r s yP (by decide) rfl) (nR b r s yT (by decide) rfl) (nR b r s yM (by decide) rfl) (nR b r s y7 (by decide) rfl) (fun n e0 e1 e2 e3 e4 e5 e6 e7 e8 e9 e10 e11 e12 e13 e14 e15 e16 e17 e18 e19 e20 e21 h=>absurd (AP n e0 e1 e2 e3 e4 e5 e6 e7 e8 e9 e10 e11 e12 e13 e14 e15 e16 e17 e18 e19 e20 e21) h) n
 exact key _ hp rfl hu
theorem ac9 (b:ay) (r:List GV) (hb:gI b) (hf:oI b.t) (l:List dh) (hlen:l.length≤1000) (hns:∀s∈l,placeOf s.name≠none∧s.use=dY s.name):∀ (m i:Nat),i+m=l.length→
 TT.lim 140 [.l (l.map bG),.i .i64 l.length,.i .i64 i,.i .i64 b.kind,.i .u64 b.id,.i .u64 b.min,.i .u64 b.max,.i .u64 b.chosen,.i .u64 b.flags,.i .u64 b.cost,.i .u64 b.priority,.i .u64 b.deadline,.i .u64 b.retry,.i .u64 b.epoch,.i .u64 b.base,.i .u64 b.digest,.i .u64 b.lag,.i .u64 b.code,.i .u64 b.want,.i .i64 b.remaining,.b b.allowed,.s b.name,.s b.region,.s b.note,.l (b.d.map ent),.l (b.t.map row),.l r]=some (if kN b (l.drop i)=0 then [.i .i64 1] else [.i .i64 0,.i .i64 (kN b (l.drop i))])
 | 0,i,hi=>by
  have h0:l.drop i=[]:=List.drop_eq_nil_of_le (by omega)
  refine aA rfl rfl ?_
  have h:¬ ((i:Int) < l.length):=by omega
  simp -implicitDefEqProofs [h,h0,kN]
 | m+1,i,hi=>by
  have hlt:i < l.length:=by omega
  have ih:=ac9 b r hb hf l hlen hns m (i+1) (by omega)
  have hcast:((i:Int)+1)=((i+1:Nat):Int):=by omega
  rw [← hcast] at ih
  have hq:=hns _ (List.getElem_mem hlt)
  have:=amM b r hb hf l[i] hq.1 hq.2 l i _ hlt rfl hlen ih
  rw [this,List.drop_eq_getElem_cons hlt]
  by_cases hc:jv b l[i].name=0
  ·have hm:kN b (l[i]::l.drop (i+1))=kN b (l.drop (i+1)):=by simp only [kN,hc,if_true]
   rw [if_pos hc,hm]
  ·have hm:kN b (l[i]::l.drop (i+1))=jv b l[i].name:=by simp only [kN,hc,if_false]
   rw [if_neg hc,hm,if_neg hc]
theorem adb (l:List dh) (hlen:l.length≤1000) (a1 a2 a3:GV) (t:Int) (a7 a8 a9 a10:GV):∀ (m i:Nat),i+m=l.length→
 TT.lim 144 [.l (l.map bG),a1,a2,a3,.i .i64 l.length,.i .i64 i,.i .u64 t,a7,a8,a9,a10]=some (if hasTag (l.drop i) t=true then [.i .i64 0] else [.i .i64 1])
 | 0,i,hi=>by
  have h0:l.drop i=[]:=List.drop_eq_nil_of_le (by omega)
  refine aA rfl rfl ?_
  have h:¬ ((i:Int) < l.length):=by omega
  simp -implicitDefEqProofs [h,h0,hasTag]
 | m+1,i,hi=>by
  have hlt:i < l.length:=by omega
  have ih:=adb l hlen a1 a2 a3 t a7 a8 a9 a10 m (i+1) (by omega)
  have hcast:((i:Int)+1)=((i+1:Nat):Int):=by omega
  rw [← hcast] at ih
  have h1:((i:Int) < l.length):=by omega
  have hw:=wrap64 (n:=(i:Int)+1) (by omega) (by omega)
  have hd:hasTag (l.drop i) t=(decide (t=l[i].tag) || hasTag (l.drop (i+1)) t):=by rw [List.drop_eq_getElem_cons hlt];rfl
  rw [hd]
  generalize hasTag (l.drop (i+1)) t=X at *
  refine aA rfl rfl ?_
  by_cases hc:t=l[i].tag
  ·simp -implicitDefEqProofs [h1,hlt,hc]
  ·have hc':¬ l[i].tag=t:=fun e=>hc e.symm
   simp -implicitDefEqProofs [h1,hlt,hc,hc',hw,ih]
theorem ada (l:List dh) (hlen:l.length≤1000) (fl:List aJ) (hfl:fl.length≤1000000):∀ (m i:Nat),i+m=fl.length→
 TT.lim 143 [.l (l.map bG),.l (ak fl),.i .i64 fl.length,.i .i64 i]=some (if (fl.drop i).any (fun f=>hasTag l f.tag)=true then [.i .i64 0] else [.i .i64 1])
 | 0,i,hi=>by
  have h0:fl.drop i=[]:=List.drop_eq_nil_of_le (by omega)
  refine aA rfl rfl ?_
  have h:¬ ((i:Int) < fl.length):=by omega
  simp -implicitDefEqProofs [h,h0]
 | m+1,i,hi=>by
  have hlt:i < fl.length:=by omega
  have ih:=ada l hlen fl hfl m (i+1) (by omega)
  have hcast:((i:Int)+1)=((i+1:Nat):Int):=by omega
  rw [← hcast] at ih
  have h1:((i:Int) < fl.length):=by omega
  have hw:=wrap64 (n:=(i:Int)+1) (by omega) (by omega)
  have hd:(fl.drop i).any (fun f=>hasTag l f.tag)=(hasTag l fl[i].tag || (fl.drop (i+1)).any (fun f=>hasTag l f.tag)):=by rw [List.drop_eq_getElem_cons hlt,List.any_cons]
  rw [hd]
  have hget:(ak fl)[i]? = some (gu fl[i]):=by rw [mJ,List.getElem?_map,List.getElem?_eq_getElem hlt];rfl
  clear hd
  obtain ⟨t,y,n,s,k,hfi⟩:∃t y n s k,fl[i]=aJ.mk t y n s k:=by
   cases fl[i] with
   | mk t y n s k=>exact ⟨_,_,_,_,_,rfl⟩
  rw [hfi] at hget ⊢
  rw [show (aJ.mk t y n s k).tag=t from rfl]
  have h3:TT.lim 144 [.l (l.map bG),.l (ak fl),.i .i64 fl.length,.i .i64 i,.i .i64 l.length,.i .i64 0,.i .u64 t,.i .i64 y,.i .u64 n,.s s,.l (ak k)]=_:=adb l hlen _ _ _ t _ _ _ _ l.length 0 (by omega)
  rw [List.drop_zero] at h3
  refine aA rfl rfl ?_
  by_cases hc:hasTag l t=true
  ·rw [if_pos hc] at h3
   simp -implicitDefEqProofs [-List.any_eq_true,h1,hget,h3,hc]
  ·rw [if_neg hc] at h3
   have hc:hasTag l t=false:=by simpa using hc
   simp -implicitDefEqProofs [-List.any_eq_true,h1,hget,h3,hw,ih,hc]
theorem Qk (k v:Int):∀s∈dP k v,placeOf s.name≠none∧s.use=dY s.name:=by
 have key:∀s∈iI k,placeOf s.name≠none∧s.use=dY s.name:=by
  unfold iI
  repeat' split
  all_goals first | (unfold sp1;decide) | (unfold sp2;decide) | (unfold tH;decide) | (unfold tJ;decide) | (unfold tK;decide) | (unfold tN;decide) | (unfold tV;decide) | (unfold tX;decide) | (intro s hs;cases hs)
 intro s hs
 exact key s (List.mem_filter.1 hs).1
set_option maxHeartbeats 4000000 in
theorem ac6 (b:ay) (fl:List aJ) (v:Int) (hb:gI b) (hf:oI b.t) (hok:dX fl) (hlen:fl.length≤1000000):TT.lim 99 [bH b (ak fl),.i .i64 v]=some [.i .i64 (kJ b fl v)]:=by
 refine aG rfl rfl ?_ rfl
 unfold kJ
 by_cases v1:v < 1
 ·simp -implicitDefEqProofs [v1]
 by_cases v3:3 < v
 ·simp -implicitDefEqProofs [v1,v3]
 rw [if_neg v1,if_neg v3]
 have hkn:=ado b.kind v (by omega)
 have hpl:=Qk b.kind v
 have hl8:=wJ b.kind v
 generalize dP b.kind v=sp at *
 by_cases hsp:sp=[]
 ·rw [if_pos hsp]
  rw [hsp] at hkn
  simp -implicitDefEqProofs [v1,v3,hkn]
 rw [if_neg hsp]
 have atx:¬ sp.length=0:=fun e=>hsp (List.length_eq_zero_iff.1 e)
 have hnm:=al3
 have h1:=ac7 b (ak fl) hb sp (by omega) lq (by decide) acD lq.length 0 (by omega)
 have h2:=ac9 b (ak fl) hb hf sp (by omega) hpl sp.length 0 (by omega)
 have h3:=ada sp (by omega) fl hlen fl.length 0 (by omega)
 have h4:TT.lim 141 [.l (ak fl),.i .i64 0]=some [.i .i64 (eG 0 0 fl)]:=JJ (cO fl+1) fl (by omega) hok hlen 0 (by omega)
 rw [List.drop_zero] at h1 h2 h3
 have hfl:=iq fl
 rw [← hfl] at h3
 have h1':TT.lim 104 [.l (sp.map bG),.l (lq.map .s),.i .i64 lq.length,.i .i64 0,.i .i64 b.kind,.i .u64 b.id,.i .u64 b.min,.i .u64 b.max,.i .u64 b.chosen,.i .u64 b.flags,.i .u64 b.cost,.i .u64 b.priority,.i .u64 b.deadline,.i .u64 b.retry,.i .u64 b.epoch,.i .u64 b.base,.i .u64 b.digest,.i .u64 b.lag,.i .u64 b.code,.i .u64 b.want,.i .i64 b.remaining,.b b.allowed,.s b.name,.s b.region,.s b.note,.l (b.d.map ent),.l (b.t.map row),.l (ak fl)]=_:=h1
 clear h1
 have h2':TT.lim 140 [.l (sp.map bG),.i .i64 sp.length,.i .i64 0,.i .i64 b.kind,.i .u64 b.id,.i .u64 b.min,.i .u64 b.max,.i .u64 b.chosen,.i .u64 b.flags,.i .u64 b.cost,.i .u64 b.priority,.i .u64 b.deadline,.i .u64 b.retry,.i .u64 b.epoch,.i .u64 b.base,.i .u64 b.digest,.i .u64 b.lag,.i .u64 b.code,.i .u64 b.want,.i .i64 b.remaining,.b b.allowed,.s b.name,.s b.region,.s b.note,.l (b.d.map ent),.l (b.t.map row),.l (ak fl)]=_:=h2
 clear h2
 have h3':TT.lim 143 [.l (sp.map bG),.l (ak fl),.i .i64 (ak fl).length,.i .i64 0]=_:=h3
 clear h3
 have hr:DC sp fl=if eG 0 0 fl≠0 then eG 0 0 fl else if fl.any (fun f=>hasTag sp f.tag)=true then 14 else 0:=rfl
 generalize (lq.all fun n=>nK sp n || fD b n)=A at *
 generalize kN b sp=M at *
 generalize eG 0 0 fl=F at *
 generalize (fl.any fun f=>hasTag sp f.tag)=W at *
 generalize DC sp fl=R at *
 generalize lq=NL at *
 cases A with
 | false=>
  simp only [Bool.false_eq_true,if_false] at h1'
  simp -implicitDefEqProofs [v1,v3,hkn,hsp,hnm,h1']
 | true=>
 simp only [if_true] at h1'
 by_cases hM:M=0
 rotate_left
 ·rw [if_neg hM] at h2'
  simp -implicitDefEqProofs [v1,v3,hkn,hsp,hnm,h1',h2',hM]
 rw [if_pos hM] at h2'
 rw [if_neg (by simp),if_neg (by simp [hM])]
 clear hM
 have z1:(b.min < 1)=(b.min=0):=propext ⟨fun h=>by have:=hb.min;omega,fun h=>by omega⟩
 have z2:(b.chosen < 1)=(b.chosen=0):=propext ⟨fun h=>by have:=hb.chosen;omega,fun h=>by omega⟩
 have z3:(b.epoch < 1)=(b.epoch=0):=propext ⟨fun h=>by have:=hb.epoch;omega,fun h=>by omega⟩
 have z4:(b.base < 1)=(b.base=0):=propext ⟨fun h=>by have:=hb.base;omega,fun h=>by omega⟩
 unfold BO
 simp only [z1,z2,z3,z4]
 by_cases e1:b.kind=1
 ·have e1:=eq_true e1
  by_cases c1:b.min=0
  ·have c1:=eq_true c1
   simp -implicitDefEqProofs [v1,v3,hkn,hsp,hnm,h1',h2',e1,c1]
  by_cases c2:b.max < b.min
  ·simp -implicitDefEqProofs [v1,v3,hkn,hsp,hnm,h1',h2',e1,c1,c2]
  by_cases c3:255 < b.max
  ·simp -implicitDefEqProofs [v1,v3,hkn,hsp,hnm,h1',h2',e1,c1,c2,c3]
  simp only [e1,c1,c2,c3,if_true,if_false,ne_eq,not_true_eq_false]
  rw [hr]
  by_cases hF:F=0
  ·subst hF
   cases W with
   | true=>simp only [if_true] at h3';simp [v1,v3,hkn,hsp,hnm,h1',h2',e1,c1,c2,c3,h4,h3']
   | false=>simp only [Bool.false_eq_true,if_false] at h3';simp [v1,v3,hkn,hsp,hnm,h1',h2',e1,c1,c2,c3,h4,h3']
  ·simp -implicitDefEqProofs [v1,v3,hkn,hsp,hnm,h1',h2',e1,c1,c2,c3,h4,hF]
 by_cases e2:b.kind=2
 ·have e2:=eq_true e2
  by_cases c1:b.chosen=0
  ·have c1:=eq_true c1
   simp -implicitDefEqProofs [v1,v3,hkn,hsp,hnm,h1',h2',e1,e2,c1]
  by_cases c2:255 < b.chosen
  ·simp -implicitDefEqProofs [v1,v3,hkn,hsp,hnm,h1',h2',e1,e2,c1,c2]
  simp only [e1,e2,c1,c2,if_true,if_false,ne_eq,not_true_eq_false]
  rw [hr]
  by_cases hF:F=0
  ·subst hF
   cases W with
   | true=>simp only [if_true] at h3';simp [v1,v3,hkn,hsp,hnm,h1',h2',e1,e2,c1,c2,h4,h3']
   | false=>simp only [Bool.false_eq_true,if_false] at h3';simp [v1,v3,hkn,hsp,hnm,h1',h2',e1,e2,c1,c2,h4,h3']
  ·simp -implicitDefEqProofs [v1,v3,hkn,hsp,hnm,h1',h2',e1,e2,c1,c2,h4,hF]
 by_cases e3:b.kind=3
 ·have n5:(b.kind=5)=False:=eq_false (by omega)
  have n6:(b.kind=6)=False:=eq_false (by omega)
  have e3:=eq_true e3
  by_cases c1:b.d=[]
  ·have c1:=eq_true c1
   simp -implicitDefEqProofs [v1,v3,hkn,hsp,hnm,h1',h2',e1,e2,e3,n5,n6,c1]
  simp only [e1,e2,e3,c1,if_true,if_false,ne_eq,not_true_eq_false]
  rw [hr]
  by_cases hF:F=0
  ·subst hF
   cases W with
   | true=>simp only [if_true] at h3';simp [v1,v3,hkn,hsp,hnm,h1',h2',e1,e2,e3,n5,n6,c1,h4,h3']
   | false=>simp only [Bool.false_eq_true,if_false] at h3';simp [v1,v3,hkn,hsp,hnm,h1',h2',e1,e2,e3,n5,n6,c1,h4,h3']
  ·simp -implicitDefEqProofs [v1,v3,hkn,hsp,hnm,h1',h2',e1,e2,e3,n5,n6,c1,h4,hF]
 by_cases e5:b.kind=5
 ·have e5:=eq_true e5
  by_cases c1:b.epoch=0
  ·have c1:=eq_true c1
   simp -implicitDefEqProofs [v1,v3,hkn,hsp,hnm,h1',h2',e1,e2,e3,e5,c1]
  simp only [e1,e2,e3,e5,c1,if_true,if_false,ne_eq,not_true_eq_false]
  rw [hr]
  by_cases hF:F=0
  ·subst hF
   cases W with
   | true=>simp only [if_true] at h3';simp [v1,v3,hkn,hsp,hnm,h1',h2',e1,e2,e3,e5,c1,h4,h3']
   | false=>simp only [Bool.false_eq_true,if_false] at h3';simp [v1,v3,hkn,hsp,hnm,h1',h2',e1,e2,e3,e5,c1,h4,h3']
  ·simp -implicitDefEqProofs [v1,v3,hkn,hsp,hnm,h1',h2',e1,e2,e3,e5,c1,h4,hF]
 by_cases e6:b.kind=6
 ·have e6:=eq_true e6
  by_cases c1:b.base=0
  ·have c1:=eq_true c1
   simp -implicitDefEqProofs [v1,v3,hkn,hsp,hnm,h1',h2',e1,e2,e3,e5,e6,c1]
  by_cases c2:b.epoch≤b.base
  ·simp -implicitDefEqProofs [v1,v3,hkn,hsp,hnm,h1',h2',e1,e2,e3,e5,e6,c1,c2]
  simp only [e1,e2,e3,e5,e6,c1,c2,if_true,if_false,ne_eq,not_true_eq_false]
  rw [hr]
  by_cases hF:F=0
  ·subst hF
   cases W with
   | true=>simp only [if_true] at h3';simp [v1,v3,hkn,hsp,hnm,h1',h2',e1,e2,e3,e5,e6,c1,c2,h4,h3']
   | false=>simp only [Bool.false_eq_true,if_false] at h3';simp [v1,v3,hkn,hsp,hnm,h1',h2',e1,e2,e3,e5,e6,c1,c2,h4,h3']
  ·simp -implicitDefEqProofs [v1,v3,hkn,hsp,hnm,h1',h2',e1,e2,e3,e5,e6,c1,c2,h4,hF]
 simp only [e1,e2,e3,e5,e6,if_false,ne_eq,not_true_eq_false]
 rw [hr]
 by_cases hF:F=0
 ·subst hF
  cases W with
  | true=>simp only [if_true] at h3';simp [v1,v3,hkn,hsp,hnm,h1',h2',e1,e2,e3,e5,e6,h4,h3']
  | false=>simp only [Bool.false_eq_true,if_false] at h3';simp [v1,v3,hkn,hsp,hnm,h1',h2',e1,e2,e3,e5,e6,h4,h3']
 ·simp -implicitDefEqProofs [v1,v3,hkn,hsp,hnm,h1',h2',e1,e2,e3,e5,e6,h4,hF]
/-- The numbers with a sign, written by their bits. -/
theorem arT (x:Int) (h0 : -9223372036854775808≤x) (h1:x≤9223372036854775807):∃u w:Int,IntKind.u64.wrap x=u∧IntKind.u64.wrap (x.fdiv (2 ^ 63))=w∧bK .xor .u64 (IntKind.u64.wrap (u * 2 ^ 1)) w=some (.i .u64 (zz x)):=by
 have wr:∀y:Int,IntKind.u64.wrap y=y % 18446744073709551616:=fun y=>by simp [IntKind.wrap,IntKind.signed,IntKind.bits]
 refine ⟨_,_,rfl,rfl, ?_⟩
 rw [wr,wr,wr]
 unfold zz
 have hb:IntKind.u64.bits=64:=rfl
 by_cases h:0≤x
 ·have e1:x.fdiv (2 ^ 63)=0:=by
   rw [Int.fdiv_eq_ediv_of_nonneg _ (by decide)]
   exact Int.ediv_eq_zero_of_lt h (by omega)
  rw [e1,if_pos h]
  have e2:x % 18446744073709551616 * 2 ^ 1 % 18446744073709551616=2 * x:=by omega
  rw [e2]
  simp only [bK,wr,hb]
  have e3:(BitVec.ofInt 64 (2 * x) ^^^ BitVec.ofInt 64 (0 % 18446744073709551616))=BitVec.ofInt 64 (2 * x):=by
   have:BitVec.ofInt 64 (0 % 18446744073709551616)=0#64:=rfl
   rw [this,BitVec.xor_zero]
  show some (GV.i IntKind.u64 (((BitVec.ofInt 64 (2 * x) ^^^ BitVec.ofInt 64 (0 % 18446744073709551616)).toNat:Int) % 18446744073709551616))=_
  rw [e3,BitVec.toNat_ofInt]
  congr 2
  omega
 ·have e1:x.fdiv (2 ^ 63) = -1:=by
   rw [Int.fdiv_eq_ediv_of_nonneg _ (by decide)]
   omega
  rw [e1,if_neg h]
  have e2:x % 18446744073709551616 * 2 ^ 1 % 18446744073709551616=2 * x+18446744073709551616:=by omega
  rw [e2]
  simp only [bK,wr,hb]
  have e3:(BitVec.ofInt 64 (2 * x+18446744073709551616) ^^^ BitVec.ofInt 64 (-1 % 18446744073709551616)) = ~~~ BitVec.ofInt 64 (2 * x+18446744073709551616):=by
   have:BitVec.ofInt 64 (-1 % 18446744073709551616)=BitVec.allOnes 64:=by decide
   rw [this,BitVec.xor_allOnes]
  show some (GV.i IntKind.u64 (((BitVec.ofInt 64 (2 * x+18446744073709551616) ^^^ BitVec.ofInt 64 (-1 % 18446744073709551616)).toNat:Int) % 18446744073709551616))=_
  rw [e3,BitVec.toNat_not,BitVec.toNat_ofInt]
  congr 2
  omega
def eX (b:ay) (r:List GV) (n:List UInt8) (p:Pl):Prop:=TT.lim 83 [bH b r,.s n]=some [.g [.i .u64 0,.i .i64 (eF p),.i .u64 (aT b p).1,.s (aT b p).2,.l []],.b true]
theorem arj (b:ay) (r:List GV):eX b r jW (.num 0):=by
 unfold eX
 show _=some [GV.g [.i .u64 0,.i .i64 0,.i .u64 b.id,.s [],.l []],GV.b true]
 unfold jW
 refine aG rfl rfl ?_ rfl
 simp
theorem arn (b:ay) (r:List GV):eX b r jZ (.num 1):=by
 unfold eX
 show _=some [GV.g [.i .u64 0,.i .i64 0,.i .u64 b.min,.s [],.l []],GV.b true]
 unfold jZ
 refine aG rfl rfl ?_ rfl
 simp
theorem arl (b:ay) (r:List GV):eX b r jY (.num 2):=by
 unfold eX
 show _=some [GV.g [.i .u64 0,.i .i64 0,.i .u64 b.max,.s [],.l []],GV.b true]
 unfold jY
 refine aG rfl rfl ?_ rfl
 simp
theorem aq8 (b:ay) (r:List GV):eX b r jO (.num 3):=by
 unfold eX
 show _=some [GV.g [.i .u64 0,.i .i64 0,.i .u64 b.chosen,.s [],.l []],GV.b true]
 unfold jO
 refine aG rfl rfl ?_ rfl
 simp
theorem ari (b:ay) (r:List GV):eX b r jV (.num 4):=by
 unfold eX
 show _=some [GV.g [.i .u64 0,.i .i64 0,.i .u64 b.flags,.s [],.l []],GV.b true]
 unfold jV
 refine aG rfl rfl ?_ rfl
 simp
theorem ara (b:ay) (r:List GV):eX b r jQ (.num 5):=by
 unfold eX
 show _=some [GV.g [.i .u64 0,.i .i64 0,.i .u64 b.cost,.s [],.l []],GV.b true]
 unfold jQ
 refine aG rfl rfl ?_ rfl
 simp
theorem arq (b:ay) (r:List GV):eX b r ku (.num 6):=by
 unfold eX
 show _=some [GV.g [.i .u64 0,.i .i64 0,.i .u64 b.priority,.s [],.l []],GV.b true]
 unfold ku
 refine aG rfl rfl ?_ rfl
 simp
theorem arb (b:ay) (r:List GV):eX b r jR (.num 7):=by
 unfold eX
 show _=some [GV.g [.i .u64 0,.i .i64 0,.i .u64 b.deadline,.s [],.l []],GV.b true]
 unfold jR
 refine aG rfl rfl ?_ rfl
 simp
theorem arv (b:ay) (r:List GV):eX b r kC (.num 8):=by
 unfold eX
 show _=some [GV.g [.i .u64 0,.i .i64 0,.i .u64 b.retry,.s [],.l []],GV.b true]
 unfold kC
 refine aG rfl rfl ?_ rfl
 simp
theorem arh (b:ay) (r:List GV):eX b r jU (.num 9):=by
 unfold eX
 show _=some [GV.g [.i .u64 0,.i .i64 0,.i .u64 b.epoch,.s [],.l []],GV.b true]
 unfold jU
 refine aG rfl rfl ?_ rfl
 simp
theorem aq7 (b:ay) (r:List GV):eX b r jM (.num 10):=by
 unfold eX
 show _=some [GV.g [.i .u64 0,.i .i64 0,.i .u64 b.base,.s [],.l []],GV.b true]
 unfold jM
 refine aG rfl rfl ?_ rfl
 simp
theorem arf (b:ay) (r:List GV):eX b r jT (.num 11):=by
 unfold eX
 show _=some [GV.g [.i .u64 0,.i .i64 0,.i .u64 b.digest,.s [],.l []],GV.b true]
 unfold jT
 refine aG rfl rfl ?_ rfl
 simp
theorem ark (b:ay) (r:List GV):eX b r jX (.num 12):=by
 unfold eX
 show _=some [GV.g [.i .u64 0,.i .i64 0,.i .u64 b.lag,.s [],.l []],GV.b true]
 unfold jX
 refine aG rfl rfl ?_ rfl
 simp
theorem aq9 (b:ay) (r:List GV):eX b r jP (.num 13):=by
 unfold eX
 show _=some [GV.g [.i .u64 0,.i .i64 0,.i .u64 b.code,.s [],.l []],GV.b true]
 unfold jP
 refine aG rfl rfl ?_ rfl
 simp
theorem arx (b:ay) (r:List GV):eX b r kE (.num 14):=by
 unfold eX
 show _=some [GV.g [.i .u64 0,.i .i64 0,.i .u64 b.want,.s [],.l []],GV.b true]
 unfold kE
 refine aG rfl rfl ?_ rfl
 simp
theorem aro (b:ay) (r:List GV):eX b r jw .name:=by
 unfold eX
 show _=some [GV.g [.i .u64 0,.i .i64 1,.i .u64 0,.s b.name,.l []],GV.b true]
 unfold jw
 refine aG rfl rfl ?_ rfl
 simp
theorem ars (b:ay) (r:List GV):eX b r jA .region:=by
 unfold eX
 show _=some [GV.g [.i .u64 0,.i .i64 1,.i .u64 0,.s b.region,.l []],GV.b true]
 unfold jA
 refine aG rfl rfl ?_ rfl
 simp
theorem arp (b:ay) (r:List GV):eX b r jy .note:=by
 unfold eX
 show _=some [GV.g [.i .u64 0,.i .i64 1,.i .u64 0,.s b.note,.l []],GV.b true]
 unfold jy
 refine aG rfl rfl ?_ rfl
 simp
theorem aq6 (b:ay) (r:List GV):eX b r kZ .allow:=by
 unfold eX
 unfold kZ
 refine aG rfl rfl ?_ rfl
 cases hc:b.allowed<;>simp [eF,aT,hc]
theorem aru (b:ay) (r:List GV) (hb:gI b):eX b r lg .rem:=by
 unfold eX
 obtain ⟨u,w,h1,h2,h3⟩:=arT b.remaining hb.remaining.1 hb.remaining.2
 show _=some [GV.g [.i .u64 0,.i .i64 0,.i .u64 (zz b.remaining),.s [],.l []],GV.b true]
 have h2:IntKind.u64.wrap (b.remaining.fdiv 9223372036854775808)=w:=h2
 have h3:bK .xor .u64 (IntKind.u64.wrap (u * 2)) w=some (.i .u64 (zz b.remaining)):=h3
 unfold lg
 refine aG rfl rfl ?_ rfl
 simp -implicitDefEqProofs [nS,h1,h2,h3,IntKind.bits]
theorem ard (b:ay) (r:List GV) (hf:gK b.d=true):eX b r jS .d:=by
 unfold eX
 have hk:=Jf b.d hf
 have e:aT b .d=(0,if b.d=[] then [] else dK b.d):=rfl
 rw [e]
 unfold jS
 refine aG rfl rfl ?_ rfl
 by_cases e:b.d=[]
 ·have e':=eq_true e
  simp -implicitDefEqProofs [eF,e']
 ·simp -implicitDefEqProofs [eF,e,hk]
theorem arw (b:ay) (r:List GV) (hb:gI b) (hf:oI b.t):eX b r kD .t:=by
 unfold eX
 have hk:=ajE b.t hb.t hf
 have e:aT b .t=(0,if b.t=[] then [] else (wY b.t).1):=rfl
 rw [e]
 unfold kD
 refine aG rfl rfl ?_ rfl
 by_cases e:b.t=[]
 ·have e':=eq_true e
  simp -implicitDefEqProofs [eF,e']
 ·simp -implicitDefEqProofs [eF,e,hk]
theorem akH (b:ay) (r:List GV) (n:List UInt8) (e0:¬ n=lg) (e1:¬ n=kZ) (e2:¬ n=jw) (e3:¬ n=jA) (e4:¬ n=jy) (e5:¬ n=jS) (e6:¬ n=kD) (e7:¬ n=jW) (e8:¬ n=jZ) (e9:¬ n=jY) (e10:¬ n=jO) (e11:¬ n=jV) (e12:¬ n=jQ) (e13:¬ n=ku) (e14:¬ n=jR) (e15:¬ n=kC) (e16:¬ n=jU) (e17:¬ n=jM) (e18:¬ n=jT) (e19:¬ n=jX) (e20:¬ n=jP) (e21:¬ n=kE):TT.lim 83 [bH b r,.s n]=some [.g [.i .u64 0,.i .i64 0,.i .u64 0,.s [],.l []],.b false]:=by
 unfold lg kZ jw jA jy jS kD jW jZ jY jO jV jQ ku jR kC jU jM jT jX jP kE at *
 refine aG rfl rfl ?_ rfl
 simp -implicitDefEqProofs [e0,e1,e2,e3,e4,e5,e6,e7,e8,e9,e10,e11,e12,e13,e14,e15,e16,e17,e18,e19,e20,e21]
theorem QK:∀ (N:Nat) (l:List aJ),cO l < N→dX l→l.length≤1000000→TT.lim 25 [.l (ak l)]=some [.l (ak l)]
 | 0,l,h,_,_=>by omega
 | N+1,l,hN,hok,hlen=>by
  have loop:∀m i,i+m=l.length→TT.lim 26 [.l ((ak l).take i),.l (ak l),.i .i64 l.length,.i .i64 i]=some [.i .i64 0,.l (ak l)]:=by
   intro m
   induction m with
   | zero=>
    intro i hi
    have h0:(ak l).take i=ak l:=List.take_of_length_le (by rw [iq];omega)
    rw [h0]
    refine aA rfl rfl ?_
    have h:¬ ((i:Int) < l.length):=by omega
    simp -implicitDefEqProofs [h]
   | succ m ih=>
    intro i hi
    have hlt:i < l.length:=by omega
    have hf:=rE hok l[i] (List.getElem_mem hlt)
    have hs:=zi (List.getElem_mem hlt)
    have hget:(ak l)[i]? = some (gu l[i]):=by rw [mJ,List.getElem?_map,List.getElem?_eq_getElem hlt];rfl
    have hcast:((i:Int)+1)=((i+1:Nat):Int):=by omega
    have ih':=ih (i+1) (by omega)
    have htk:(ak l).take (i+1)=(ak l).take i++[gu l[i]]:=by
     rw [List.take_add_one,hget];rfl
    rw [htk,← hcast] at ih'
    clear htk
    obtain ⟨t,y,n,s,k,hfi⟩:∃t y n s k,l[i]=aJ.mk t y n s k:=by
     cases l[i] with
     | mk t y n s k=>exact ⟨_,_,_,_,_,rfl⟩
    rw [hfi] at hget hf hs ih'
    simp only [pY] at hf
    simp only [oG] at hs
    have hwr:=wrap64 (n:=(i:Int)+1) (by omega) (by omega)
    have h:((i:Int) < l.length):=by omega
    have hk:=QK N k (by omega) hf.2 hf.1.2.2.2.2.2.2.2
    have hfold:GV.g [.i .u64 t,.i .i64 y,.i .u64 n,.s s,.l (ak k)]=gu (.mk t y n s k):=by simp only [gu]
    have hel:(gu (.mk t y n s k)).gJ 5=true:=by simp only [gu];rfl
    have hl0:((ak l).take i).length=i:=by rw [List.length_take,iq];omega
    have hb1:2 * (((ak l).take i).length+1) * 64≤281474976710656:=by rw [hl0];omega
    have hb2:((ak l).take i).length≤281474976710655:=by rw [hl0];omega
    generalize (ak l).take i=acc at *
    refine aA rfl rfl ?_
    simp -implicitDefEqProofs [h,hget,hk,hfold,hel,hb1,hb2,hwr,ih']
  have h0:=loop l.length 0 (by omega)
  have hl2:=iq l
  have h0':TT.lim 26 [.l [],.l (ak l),.i .i64 (ak l).length,.i .i64 0]=some [.i .i64 0,.l (ak l)]:=by rw [hl2];exact h0
  refine aG rfl rfl ?_ rfl
  simp -implicitDefEqProofs [h0']
theorem OZ:∀ (n:Nat) (l:List One) (deep:Int),(∀x∈l,xG x∧x.text.length≤300)→l.length≤1000000→dX (dR n l deep).1
 | 0,l,deep,_,_=>by simp only [dR,dX]
 | n+1,[],deep,_,_=>by simp only [dR,dX]
 | n+1,x::l,deep,h,hl=>by
  have hx:=h x (by simp)
  have hl':∀y∈l,xG y∧y.text.length≤300:=fun y hy=>h y (by simp [hy])
  have hx1:=hx.1
  unfold xG at hx1
  simp only [List.length_cons] at hl
  simp only [dR]
  split
  ·have hp:dX (if x.deep=255 then (([]:List aJ),l) else dR n l (x.deep+1)).1∧(if x.deep=255 then (([]:List aJ),l) else dR n l (x.deep+1)).1.length≤1000000∧∃k,(if x.deep=255 then (([]:List aJ),l) else dR n l (x.deep+1)).2=l.drop k:=by
    split
    ·exact ⟨by simp only [dX],by simp,0,rfl⟩
    ·have:=zW n l (x.deep+1)
     exact ⟨OZ n l _ hl' (by omega),by omega,this.2⟩
   obtain ⟨p1,p2,k,p3⟩:=hp
   simp only [dX,pY]
   refine ⟨⟨⟨hx1.2.2.2.2.1,hx1.2.2.2.2.2.1,hx1.2.2.1,hx1.2.2.2.1,hx1.2.2.2.2.2.2.1,hx1.2.2.2.2.2.2.2.1,Nat.le_trans hx.2 (by decide),p2⟩,p1⟩, ?_⟩
   rw [p3]
   exact OZ n (l.drop k) deep (fun y hy=>hl' y (List.mem_of_mem_drop hy)) (by rw [List.length_drop];omega)
  ·simp only [dX]
theorem aj3 (l:List One) (hl:Ones l) (hf:pW l=true):dX (jk l)∧(jk l).length≤1000000:=by
 unfold pW at hf
 rw [Bool.and_eq_true,decide_eq_true_iff,List.all_eq_true] at hf
 refine ⟨OZ _ l 0 (fun x hx=>⟨hl.2 x hx,by simpa using hf.1 x hx⟩) (by omega), ?_⟩
 have:=zW (l.length+1) l 0
 unfold jk
 omega
theorem acH (b:ay) (fl:List aJ) (hd:b.d.length≤40) (ht:zx b.t) (hok:dX fl) (hlen:fl.length≤1000000):TT.lim 20 [bH b (ak fl)]=some [bH b (ak fl)]:=by
 have h1:=aey b.d hd
 have h2:=aqo b.t ht
 have h3:=QK (cO fl+1) fl (by omega) hok hlen
 refine aG rfl rfl ?_ rfl
 simp -implicitDefEqProofs [h1,h2,h3,dF]
theorem aeP (p:Pl):0≤gV p∧(gV p).tdiv 3=eF p∧gV p≤5:=by cases p<;>simp [gV,eF]
theorem aq5 (b:ay) (r:List GV) (hb:gI b) (hd:gK b.d=true) (hf:oI b.t) (n:List UInt8):(∃p,placeOf n=some p∧TT.lim 83 [bH b r,.s n]=some [.g [.i .u64 0,.i .i64 (eF p),.i .u64 (aT b p).1,.s (aT b p).2,.l []],.b true]∧TT.lim 107 [bH b r,.s n]=some [.i .u64 (aT b p).1,.s (aT b p).2]∧dY n=gV p)∨
 (TT.lim 83 [bH b r,.s n]=some [.g [.i .u64 0,.i .i64 0,.i .u64 0,.s [],.l []],.b false]∧dY n = -1):=by
 refine BP (Q:=fun n=>(∃p,placeOf n=some p∧TT.lim 83 [bH b r,.s n]=some [.g [.i .u64 0,.i .i64 (eF p),.i .u64 (aT b p).1,.s (aT b p).2,.l []],.b true]∧TT.lim 107 [bH b r,.s n]=some [.i .u64 (aT b p).1,.s (aT b p).2]∧dY n=gV p)∨(TT.lim 83 [bH b r,.s n]=some [.g [.i .u64 0,.i .i64 0,.i .u64 0,.s [],.l []],.b false]∧dY n = -1)) (.inl ⟨_,yY,aru b r hb,adT b r hb,by unfold dY;rw [yY]⟩) (.inl ⟨_,yJ,aq6 b r , adC b r , by unfold dY;rw [yJ]⟩) (.inl ⟨_,wR,aro b r , adP b r , by unfold dY;rw [wR]⟩) (.inl ⟨_,wU,ars b r , adS b r , by unfold dY;rw [wU]⟩) (.inl ⟨_,wS,arp b r , adQ b r , by unfold dY;rw [wS]⟩) (.inl ⟨_,wQ,ard b r hd,ank b r hd,by unfold dY;rw [wQ]⟩) (.inl ⟨_,wV,arw b r hb hf,anl b r hb hf,by unfold dY;rw [wV]⟩) (.inl ⟨_,yS,arj b r , adL b r , by unfold dY;rw [yS]⟩) (.inl ⟨_,yV,arn b r , adO b r , by unfold dY;rw [yV]⟩) (.inl ⟨_,yU,arl b r , adN b r , by unfold dY;rw [yU]⟩) (.inl ⟨_,yL,aq8 b r , adE b r , by unfold dY;rw [yL]⟩) (.inl ⟨_,yR,ari b r , adK b r , by unfold dY;rw [yR]⟩) (.inl ⟨_,yN,ara b r , adG b r , by unfold dY;rw [yN]⟩) (.inl ⟨_,yX,arq b r , adR b r , by unfold dY;rw [yX]⟩) (.inl ⟨_,yO,arb b r , adH b r , by unfold dY;rw [yO]⟩) (.inl ⟨_,yZ,arv b r , adU b r , by unfold dY;rw [yZ]⟩) (.inl ⟨_,yQ,arh b r , adJ b r , by unfold dY;rw [yQ]⟩) (.inl ⟨_,yK,aq7 b r , adD b r , by unfold dY;rw [yK]⟩) (.inl ⟨_,yP,arf b r , adI b r , by unfold dY;rw [yP]⟩) (.inl ⟨_,yT,ark b r , adM b r , by unfold dY;rw [yT]⟩) (.inl ⟨_,yM,aq9 b r , adF b r , by unfold dY;rw [yM]⟩) (.inl ⟨_,y7,arx b r , adV b r , by unfold dY;rw [y7]⟩) (fun n e0 e1 e2 e3 e4 e5 e6 e7 e8 e9 e10 e11 e12 e13 e14 e15 e16 e17 e18 e19 e20 e21=>.inr ⟨akH b r n e0 e1 e2 e3 e4 e5 e6 e7 e8 e9 e10 e11 e12 e13 e14 e15 e16 e17 e18 e19 e20 e21,by unfold dY;rw [AP n e0 e1 e2 e3 e4 e5 e6 e7 e8 e9 e10 e11 e12 e13 e14 e15 e16 e17 e18 e19 e20 e21]⟩) n
abbrev It:=Int×Int×List UInt8
def qy (a b:It):Bool:=if a.1=b.1 then decide (a.2.1 < b.2.1) else decide (a.1 < b.1)
def leI (a b:It):Prop:=qy b a=false
theorem Qp (a b:It):leI a b↔a.1 < b.1∨(a.1=b.1∧a.2.1≤b.2.1):=by
 unfold leI qy
 split
 ·next h=>simp;omega
 ·next h=>simp;omega
theorem abI {a b c:It} (h1:leI a b) (h2:leI b c):leI a c:=by rw [Qp] at *;omega
theorem Qq {a b:It} (h:qy a b=true):leI a b:=by
 rw [Qp]
 unfold qy at h
 split at h
 ·next e=>have:=of_decide_eq_true h;omega
 ·next e=>have:=of_decide_eq_true h;omega
theorem ajJ {a b:It} (h:leI a b):a.1≤b.1:=by rw [Qp] at h;omega
def dI:It:=(0,0,[])
abbrev at_ (h:List It) (i:Nat):It:=h.getD i dI
def xC (h:List It) (i j:Nat):List It:=(h.set i (at_ h j)).set j (at_ h i)
theorem aph (h:List It) (i j:Nat):(xC h i j).length=h.length:=by simp [xC]
theorem afl (h:List It) {i j:Nat} (hi:i < h.length) (hj:j < h.length) (k:Nat):at_ (xC h i j) k=if k=j then at_ h i else if k=i then at_ h j else at_ h k:=by
 unfold xC at_
 simp only [List.getD_eq_getElem?_getD,List.getElem?_set,List.length_set]
 by_cases h1:k=j
 ·subst h1;simp [hj]
 ·have h1':¬ j=k:=fun e=>h1 e.symm
  rw [if_neg h1',if_neg h1]
  by_cases h2:k=i
  ·subst h2;simp [hi]
  ·have h2':¬ i=k:=fun e=>h2 e.symm
   rw [if_neg h2',if_neg h2]
theorem swap_perm (h:List It) {i j:Nat} (hi:i < h.length) (hj:j < h.length):(xC h i j).Perm h:=by
 have:=Array.swap_perm (xs:=h.toArray) (i:=i) (j:=j) (by simpa using hi) (by simpa using hj)
 have h2:=this.toList
 simp only [Array.toList_swap] at h2
 unfold xC at_
 simpa [List.getD_eq_getElem?_getD,hi,hj] using h2
def par (k:Nat):Nat:=(k - 1) / 2
def Heap (h:List It) (n:Nat):Prop:=∀k,0 < k→k < n→leI (at_ h (par k)) (at_ h k)
def Gp:Nat→List It→Nat→List It
 | 0,h,_=>h
 | f+1,h,j=>if par j=j∨qy (at_ h j) (at_ h (par j))=false then h else Gp f (xC h (par j) j) (par j)
structure Uc (h:List It) (n j:Nat):Prop where
 jn:j < n
 heap:∀k,0 < k→k < n→k≠j→leI (at_ h (par k)) (at_ h k)
 kids:∀k,0 < k→k < n→par k=j→0 < j→leI (at_ h (par j)) (at_ h k)
theorem aeM:∀ (f:Nat) (h:List It) (j n:Nat),j < f→n=h.length→Uc h n j→Heap (Gp f h j) n∧(Gp f h j).Perm h
 | 0,h,j,n,hf,_,_=>by omega
 | f+1,h,j,n,hf,hn,hu=>by
  unfold Gp
  split
  ·next hc=>
   refine ⟨fun k h0 hk=>?_,List.Perm.refl _⟩
   by_cases e:k=j
   ·subst e
    rcases hc with hc | hc
    ·unfold par at hc;omega
    ·exact hc
   ·exact hu.heap k h0 hk e
  ·next hc=>
   rw [not_or] at hc
   obtain ⟨c1,c2⟩:=hc
   have c2:qy (at_ h j) (at_ h (par j))=true:=by simpa using c2
   have j0:0 < j:=by
    rcases Nat.eq_zero_or_pos j with e | e
    ·subst e;exact absurd rfl c1
    ·exact e
   have hp:par j < j:=by unfold par;omega
   have hjn:=hu.jn
   have hsw:=afl h (i:=par j) (j:=j) (by omega) (by omega)
   have hu2:Uc (xC h (par j) j) n (par j):=by
    refine ⟨by omega,fun k h0 hk hne=>?_,fun k h0 hk hpk hp0=>?_⟩
    ·rw [hsw,hsw]
     by_cases e1:k=j
     ·subst e1
      rw [if_neg (by omega),if_pos rfl,if_pos rfl]
      exact Qq c2
     ·rw [if_neg e1,if_neg hne]
      by_cases e2:par k=j
      ·rw [if_pos e2]
       exact hu.kids k h0 hk e2 j0
      ·rw [if_neg e2]
       by_cases e3:par k=par j
       ·rw [if_pos e3]
        exact abI (Qq c2) (e3 ▸ hu.heap k h0 hk e1)
       ·rw [if_neg e3]
        exact hu.heap k h0 hk e1
    ·rw [hsw,hsw]
     have q:par (par j) < par j:=by unfold par at *;omega
     rw [if_neg (by omega),if_neg (by omega)]
     have hg:=hu.heap (par j) hp0 (by omega) (by omega)
     by_cases e1:k=j
     ·subst e1
      rw [if_pos rfl]
      exact hg
     ·rw [if_neg e1,if_neg (fun e=>by rw [e] at hpk;omega)]
      exact abI hg (hpk ▸ hu.heap k h0 hk e1)
   obtain ⟨r1,r2⟩:=aeM f (xC h (par j) j) (par j) n (by omega) (by rw [aph];exact hn) hu2
   exact ⟨r1,r2.trans (swap_perm h (by omega) (by omega))⟩
def JF (h:List It) (x:It):List It:=Gp (h.length+1) (h++[x]) h.length
theorem acZ (h:List It) (x:It) (hh:Heap h h.length):Heap (JF h x) (h.length+1)∧(JF h x).Perm (h++[x]):=by
 refine aeM _ _ _ _ (by omega) (by simp) ⟨by omega,fun k h0 hk hne=>?_,fun k h0 hk hpk _=>?_⟩
 ·have hk2:k < h.length:=by omega
  have e1:at_ (h++[x]) k=at_ h k:=by simp [at_,List.getElem?_append_left (show k < h.length by omega)]
  have e2:at_ (h++[x]) (par k)=at_ h (par k):=by simp [at_,List.getElem?_append_left (show par k < h.length by unfold par;omega)]
  rw [e1,e2]
  exact hh k h0 (by omega)
 ·exfalso;unfold par at hpk;omega
theorem alI (h:List It) (x:It) (hh:Heap h h.length):(JF h x).length=h.length+1:=by
 have:=(acZ h x hh).2.length_eq
 simpa using this
structure Ea (h L:List It) (n:Int):Prop where
 heap:Heap h h.length
 perm:L.Perm h
 srt:L.Pairwise (fun x y=>qy x y=true)
 low:∀x∈L,x.2.1 < n
theorem Ea.len {h L:List It} {n:Int} (s:Ea h L n):h.length=L.length:=s.perm.length_eq.symm
def insL (x:It):List It→List It
 | []=>[x]
 | y::L=>if y.1≤x.1 then y::insL x L else x::y::L
theorem Jb (x:It):∀L,(insL x L).Perm (L++[x])
 | []=>List.Perm.refl _
 | y::L=>by
  unfold insL
  split
  ·exact (Jb x L).cons y
  ·exact List.perm_append_comm (l₁:=[x]) (l₂:=y::L)
theorem aj0 {y x:It} (h:y.1≤x.1) (h2:y.2.1 < x.2.1):qy y x=true:=by
 unfold qy
 split
 ·simpa using h2
 ·simp;omega
theorem ab7 {y x:It} (h:x.1 < y.1):qy x y=true:=by
 unfold qy
 rw [if_neg (by omega)]
 simpa using h
theorem ajZ {x y:It} (h:qy x y=true):x.1≤y.1:=ajJ (Qq h)
theorem abr (x:It):∀L:List It,L.Pairwise (fun a b=>qy a b=true)→(∀y∈L,y.2.1 < x.2.1)→(insL x L).Pairwise (fun a b=>qy a b=true)
 | [],_,_=>by simp [insL]
 | y::L,hs,hlow=>by
  obtain ⟨h1,h2⟩:=List.pairwise_cons.1 hs
  unfold insL
  split
  ·next hc=>
   refine List.pairwise_cons.2 ⟨fun z hz=>?_,abr x L h2 fun z hz=>hlow z (List.mem_cons_of_mem _ hz)⟩
   rcases List.mem_append.1 ((Jb x L).mem_iff.1 hz) with g | g
   ·exact h1 z g
   ·rw [List.mem_singleton] at g
    subst g
    exact aj0 hc (hlow y List.mem_cons_self)
  ·next hc=>
   refine List.pairwise_cons.2 ⟨fun z hz=>?_,hs⟩
   rcases List.mem_cons.1 hz with rfl | g
   ·exact ab7 (by omega)
   ·exact ab7 (by have:=ajZ (h1 z g);omega)
theorem Ea.put {h L:List It} {n a:Int} {t:List UInt8} (s:Ea h L n):Ea (JF h (a,n,t)) (insL (a,n,t) L) (n+1):=by
 have hp:=acZ h (a,n,t) s.heap
 have hl:=alI h (a,n,t) s.heap
 refine ⟨by rw [hl];exact hp.1,(Jb _ _).trans ((s.perm.append_right _).trans hp.2.symm),abr _ _ s.srt s.low,fun x hx=>?_⟩
 rcases List.mem_append.1 ((Jb _ _).mem_iff.1 hx) with g | g
 ·have:=s.low x g;omega
 ·rw [List.mem_singleton] at g
  subst g
  show n < n+1
  omega
/-- What may be kept. -/
structure Kp (k:List Sn):Prop where
 len:k.length≤8
 tb:∀s∈k,Tb s.2
 pos:∀s∈k,0 < s.1∧s.1 < 18446744073709551616
 rise:k.Pairwise fun a b=>a.1 < b.1∧Un b.2 a.2=true
theorem Kp.nil:Kp []:=⟨by decide,by simp,by simp,List.Pairwise.nil⟩
theorem Kp.drop {k:List Sn} (hk:Kp k) (i:Nat):Kp (k.drop i):=
 ⟨by have:=hk.len;rw [List.length_drop];omega,fun s hs=>hk.tb s (List.mem_of_mem_drop hs),fun s hs=>hk.pos s (List.mem_of_mem_drop hs),hk.rise.sublist (List.drop_sublist i k)⟩
end Q
end Go.Proofs.YthgifdbaegpbpaaGreatDoor
