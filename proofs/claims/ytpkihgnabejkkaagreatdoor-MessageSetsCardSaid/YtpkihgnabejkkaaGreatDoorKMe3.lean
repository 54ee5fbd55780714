/- What the trees compute: plain laws. -/
import Derived.Test.YtpkihgnabejkkaaGreatDoorKMe2
namespace Go.Proofs.YtpkihgnabejkkaaGreatDoor
open Go Go.aJ
set_option linter.unusedSimpArgs false
set_option linter.unusedVariables false
set_option maxRecDepth 100000
namespace M
inductive Pl where
 | rem | allow | name | region | note | d | t
 | num (k:Nat)
def kL:List UInt8:=[114,101,109,97,105,110,105,110,103]
def kK:List UInt8:=[97,108,108,111,119,101,100]
def jL:List UInt8:=[110,97,109,101]
def jP:List UInt8:=[114,101,103,105,111,110]
def jM:List UInt8:=[110,111,116,101]
def jD:List UInt8:=[100,101,115,99,114]
def jR:List UInt8:=[116,97,98,108,101]
def jH:List UInt8:=[105,100]
def jK:List UInt8:=[109,105,110]
def jJ:List UInt8:=[109,97,120]
def jy:List UInt8:=[99,104,111,115,101,110]
def jG:List UInt8:=[102,108,97,103,115]
def jB:List UInt8:=[99,111,115,116]
def jO:List UInt8:=[112,114,105,111,114,105,116,121]
def jC:List UInt8:=[100,101,97,100,108,105,110,101]
def jQ:List UInt8:=[114,101,116,114,121]
def jF:List UInt8:=[101,112,111,99,104]
def jw:List UInt8:=[98,97,115,101]
def jE:List UInt8:=[100,105,103,101,115,116]
def jI:List UInt8:=[108,97,103]
def jA:List UInt8:=[99,111,100,101]
def jS:List UInt8:=[119,97,110,116]
def placeOf (n:List UInt8):Option Pl:=
 if n=kL then some .rem else if n=kK then some .allow else if n=jL then some .name else if n=jP then some .region else if n=jM then some .note else if n=jD then some .d else if n=jR then some .t else if n=jH then some (.num 0) else if n=jK then some (.num 1) else if n=jJ then some (.num 2) else if n=jy then some (.num 3) else if n=jG then some (.num 4) else if n=jB then some (.num 5) else if n=jO then some (.num 6) else if n=jC then some (.num 7) else if n=jQ then some (.num 8) else if n=jF then some (.num 9) else if n=jw then some (.num 10) else if n=jE then some (.num 11) else if n=jI then some (.num 12) else if n=jA then some (.num 13) else if n=jS then some (.num 14) else none
theorem xI:placeOf kL=some .rem:=rfl
theorem wV:placeOf kK=some .allow:=rfl
theorem xE:placeOf jL=some .name:=rfl
theorem xH:placeOf jP=some .region:=rfl
theorem xF:placeOf jM=some .note:=rfl
theorem zo:placeOf jD=some .d:=rfl
theorem zq:placeOf jR=some .t:=rfl
theorem xw:placeOf jH=some (.num 0):=rfl
theorem xC:placeOf jK=some (.num 1):=rfl
theorem xB:placeOf jJ=some (.num 2):=rfl
theorem wX:placeOf jy=some (.num 3):=rfl
theorem xu:placeOf jG=some (.num 4):=rfl
theorem wZ:placeOf jB=some (.num 5):=rfl
theorem xG:placeOf jO=some (.num 6):=rfl
theorem xg:placeOf jC=some (.num 7):=rfl
theorem xJ:placeOf jQ=some (.num 8):=rfl
theorem xq:placeOf jF=some (.num 9):=rfl
theorem wW:placeOf jw=some (.num 10):=rfl
theorem xk:placeOf jE=some (.num 11):=rfl
theorem xA:placeOf jI=some (.num 12):=rfl
theorem wY:placeOf jA=some (.num 13):=rfl
theorem xK:placeOf jS=some (.num 14):=rfl
def gG (b:aF) (k:Nat):Int:=match k with
 | 0=>b.id
 | 1=>b.min
 | 2=>b.max
 | 3=>b.chosen
 | 4=>b.flags
 | 5=>b.cost
 | 6=>b.priority
 | 7=>b.deadline
 | 8=>b.retry
 | 9=>b.epoch
 | 10=>b.base
 | 11=>b.digest
 | 12=>b.lag
 | 13=>b.code
 | _=>b.want
def zz (x:Int):Int:=if 0≤x then 2 * x else -2 * x - 1
def gq (b:aF):Pl→Int×List UInt8
 | .rem=>(zz b.remaining,[])
 | .allow=>(if b.allowed=true then 1 else 0,[])
 | .name=>(0,b.name)
 | .region=>(0,b.region)
 | .note=>(0,b.note)
 | .d=>(0,if b.d=[] then [] else qy b.d)
 | .t=>(0,if b.t=[] then [] else (aiN b.t).1)
 | .num k=>(gG b k,[])
def aO:Pl→Int
 | .num _=>0
 | .rem=>0
 | .allow=>0
 | _=>1
def dO:Pl→Int
 | .num _=>0
 | .allow=>1
 | .rem=>2
 | .d=>4
 | .t=>5
 | _=>3
/-- A cascade over all names. -/
theorem KI {Q:List UInt8→Prop} (afP:Q kL) (afy:Q kK) (afL:Q jL) (afO:Q jP) (afM:Q jM) (afD:Q jD) (afR:Q jR) (afH:Q jH) (afK:Q jK) (afJ:Q jJ) (afz:Q jy) (afG:Q jG) (afB:Q jB) (afN:Q jO) (afC:Q jC) (afQ:Q jQ) (afF:Q jF) (h_base:Q jw) (afE:Q jE) (afI:Q jI) (afA:Q jA) (afS:Q jS) (h0:∀n,¬ n=kL→¬ n=kK→¬ n=jL→¬ n=jP→¬ n=jM→¬ n=jD→¬ n=jR→¬ n=jH→¬ n=jK→¬ n=jJ→¬ n=jy→¬ n=jG→¬ n=jB→¬ n=jO→¬ n=jC→¬ n=jQ→¬ n=jF→¬ n=jw→¬ n=jE→¬ n=jI→¬ n=jA→¬ n=jS→Q n) (n:List UInt8):Q n:=by
 by_cases Yd:n=kL
 ·rw [Yd];exact afP
 by_cases XR:n=kK
 ·rw [XR];exact afy
 by_cases X9:n=jL
 ·rw [X9];exact afL
 by_cases Yc:n=jP
 ·rw [Yc];exact afO
 by_cases Ya:n=jM
 ·rw [Ya];exact afM
 by_cases XZ:n=jD
 ·rw [XZ];exact afD
 by_cases Yf:n=jR
 ·rw [Yf];exact afR
 by_cases X5:n=jH
 ·rw [X5];exact afH
 by_cases X8:n=jK
 ·rw [X8];exact afK
 by_cases X7:n=jJ
 ·rw [X7];exact afJ
 by_cases XU:n=jy
 ·rw [XU];exact afz
 by_cases X4:n=jG
 ·rw [X4];exact afG
 by_cases XW:n=jB
 ·rw [XW];exact afB
 by_cases Yb:n=jO
 ·rw [Yb];exact afN
 by_cases XY:n=jC
 ·rw [XY];exact afC
 by_cases Ye:n=jQ
 ·rw [Ye];exact afQ
 by_cases X3:n=jF
 ·rw [X3];exact afF
 by_cases XT:n=jw
 ·rw [XT];exact h_base
 by_cases X0:n=jE
 ·rw [X0];exact afE
 by_cases X6:n=jI
 ·rw [X6];exact afI
 by_cases XV:n=jA
 ·rw [XV];exact afA
 by_cases Yg:n=jS
 ·rw [Yg];exact afS
 exact h0 n Yd XR X9 Yc Ya XZ Yf X5 X8 X7 XU X4 XW Yb XY Ye X3 XT X0 X6 XV Yg
theorem H7 (n:List UInt8) (e0:¬ n=kL) (e1:¬ n=kK) (e2:¬ n=jL) (e3:¬ n=jP) (e4:¬ n=jM) (e5:¬ n=jD) (e6:¬ n=jR) (e7:¬ n=jH) (e8:¬ n=jK) (e9:¬ n=jJ) (e10:¬ n=jy) (e11:¬ n=jG) (e12:¬ n=jB) (e13:¬ n=jO) (e14:¬ n=jC) (e15:¬ n=jQ) (e16:¬ n=jF) (e17:¬ n=jw) (e18:¬ n=jE) (e19:¬ n=jI) (e20:¬ n=jA) (e21:¬ n=jS):placeOf n=none:=by
 unfold placeOf
 rw [if_neg e0,if_neg e1,if_neg e2,if_neg e3,if_neg e4,if_neg e5,if_neg e6,if_neg e7,if_neg e8,if_neg e9,if_neg e10,if_neg e11,if_neg e12,if_neg e13,if_neg e14,if_neg e15,if_neg e16,if_neg e17,if_neg e18,if_neg e19,if_neg e20,if_neg e21]
theorem ahM:TT.lim 110 []=some [.l (fV.map .s)]:=Ib (Ds:=Ds) (k:=110) (f:=Ho) rfl rfl
theorem ajr:TT.lim 84 []=some [.l (fV.map .s)]:=by
 refine aA rfl rfl ?_ rfl
 simp -implicitDefEqProofs [fV]
def qR (l:List ou) (n:List UInt8):Option Int:=match l with
 | []=>none
 | s::l=>if s.name=n then some s.use else qR l n
def gY:Nat→Int→List UInt8→Option Int
 | 0,_,_=>none
 | m+1,k,n=>match qR (nZ k) n with
  | some u=>some u
  | none=>gY m (k+1) n
def JU (n:List UInt8):Int:=match placeOf n with
 | some p=>dO p
 | none=>-1
theorem acf (n:List UInt8) (a1:GV) (l:List ou) (hlen:l.length≤1000):∀ (m i:Nat),i+m=l.length→
 TT.lim 57 [.s n,a1,.l (l.map qC),.i .i64 l.length,.i .i64 i]=some (match qR (l.drop i) n with | some u=>[.i .i64 0,.i .i64 u] | none=>[.i .i64 1])
 | 0,i,hi=>by
  have h0:l.drop i=[]:=List.drop_eq_nil_of_le (by omega)
  refine ay rfl rfl ?_
  have h:¬ ((i:Int) < l.length):=by omega
  simp -implicitDefEqProofs [h,h0,qR]
 | m+1,i,hi=>by
  have hlt:i < l.length:=by omega
  have ih:=acf n a1 l hlen m (i+1) (by omega)
  have hcast:((i:Int)+1)=((i+1:Nat):Int):=by omega
  rw [← hcast] at ih
  have h1:((i:Int) < l.length):=by omega
  have hw:=wrap64 (n:=(i:Int)+1) (by omega) (by omega)
  rw [List.drop_eq_getElem_cons hlt]
  refine ay rfl rfl ?_
  by_cases hc:l[i].name=n
  ·simp only [qR,if_pos hc]
   simp -implicitDefEqProofs [h1,hlt,hc]
  ·simp only [qR,if_neg hc]
   simp -implicitDefEqProofs [h1,hlt,hc,hw,ih]
theorem ace (n:List UInt8):∀ (m:Nat) (k:Int),k+m=9→1≤k→
 TT.lim 55 [.s n,.i .i64 k]=some (match gY m k n with | some u=>[.i .i64 0,.i .i64 u] | none=>[.i .i64 1])
 | 0,k,hk,h1=>by
  have:¬ k≤8:=by omega
  refine ay rfl rfl ?_
  simp -implicitDefEqProofs [this,gY]
 | m+1,k,hk,h1=>by
  have h8:k≤8:=by omega
  have hw:=wrap64 (n:=k+1) (by omega) (by omega)
  have hs:=ajT k
  have ih:=ace n m (k+1) (by omega) (by omega)
  have hu:TT.lim 57 [.s n,.i .i64 k,.l ((nZ k).map qC),.i .i64 (nZ k).length,.i .i64 0]=_:=acf n (.i .i64 k) (nZ k) (by have:=als k;omega) (nZ k).length 0 (by omega)
  rw [List.drop_zero] at hu
  have he:gY (m+1) k n=match qR (nZ k) n with | some u=>some u | none=>gY m (k+1) n:=rfl
  rw [he]
  generalize nZ k=l at *
  cases hf:qR l n with
  | some u=>
   rw [hf] at hu
   refine ay rfl rfl ?_
   simp -implicitDefEqProofs [h8,hs,hu]
  | none=>
   rw [hf] at hu
   refine ay rfl rfl ?_
   simp -implicitDefEqProofs [h8,hs,hu,hw,ih]
theorem amF:gY 8 1 kL=some (dO .rem):=by unfold kL;decide
theorem amk:gY 8 1 kK=some (dO .allow):=by unfold kK;decide
theorem amA:gY 8 1 jL=some (dO .name):=by unfold jL;decide
theorem amE:gY 8 1 jP=some (dO .region):=by unfold jP;decide
theorem amC:gY 8 1 jM=some (dO .note):=by unfold jM;decide
theorem amr:gY 8 1 jD=some (dO .d):=by unfold jD;decide
theorem amH:gY 8 1 jR=some (dO .t):=by unfold jR;decide
theorem amw:gY 8 1 jH=some (dO (.num 0)):=by unfold jH;decide
theorem amz:gY 8 1 jK=some (dO (.num 1)):=by unfold jK;decide
theorem amy:gY 8 1 jJ=some (dO (.num 2)):=by unfold jJ;decide
theorem amm:gY 8 1 jy=some (dO (.num 3)):=by unfold jy;decide
theorem amv:gY 8 1 jG=some (dO (.num 4)):=by unfold jG;decide
theorem amo:gY 8 1 jB=some (dO (.num 5)):=by unfold jB;decide
theorem amD:gY 8 1 jO=some (dO (.num 6)):=by unfold jO;decide
theorem amq:gY 8 1 jC=some (dO (.num 7)):=by unfold jC;decide
theorem amG:gY 8 1 jQ=some (dO (.num 8)):=by unfold jQ;decide
theorem amu:gY 8 1 jF=some (dO (.num 9)):=by unfold jF;decide
theorem aml:gY 8 1 jw=some (dO (.num 10)):=by unfold jw;decide
theorem ams:gY 8 1 jE=some (dO (.num 11)):=by unfold jE;decide
theorem amx:gY 8 1 jI=some (dO (.num 12)):=by unfold jI;decide
theorem amn:gY 8 1 jA=some (dO (.num 13)):=by unfold jA;decide
theorem amI:gY 8 1 jS=some (dO (.num 14)):=by unfold jS;decide
theorem amB (n:List UInt8) (e0:¬ n=kL) (e1:¬ n=kK) (e2:¬ n=jL) (e3:¬ n=jP) (e4:¬ n=jM) (e5:¬ n=jD) (e6:¬ n=jR) (e7:¬ n=jH) (e8:¬ n=jK) (e9:¬ n=jJ) (e10:¬ n=jy) (e11:¬ n=jG) (e12:¬ n=jB) (e13:¬ n=jO) (e14:¬ n=jC) (e15:¬ n=jQ) (e16:¬ n=jF) (e17:¬ n=jw) (e18:¬ n=jE) (e19:¬ n=jI) (e20:¬ n=jA) (e21:¬ n=jS):gY 8 1 n=none:=by
 have hh:∀k s,s∈nZ k→¬ s.name=n:=by
  intro k s hs e
  have h1:=H7 n e0 e1 e2 e3 e4 e5 e6 e7 e8 e9 e10 e11 e12 e13 e14 e15 e16 e17 e18 e19 e20 e21
  rw [← e] at h1
  have key:∀s∈nZ k,placeOf s.name≠none:=by
   unfold nZ
   repeat' split
   all_goals first | (unfold sp1;decide) | (unfold sp2;decide) | (unfold Jo;decide) | (unfold Jp;decide) | (unfold Jq;decide) | (unfold Jr;decide) | (unfold Js;decide) | (unfold Jt;decide) | (intro s hs;cases hs)
  exact key s hs h1
 have hf:∀ (l:List ou),(∀s∈l,¬ s.name=n)→qR l n=none:=by
  intro l
  induction l with
  | nil=>intro _;rfl
  | cons s l ih=>intro h;simp only [qR];rw [if_neg (h s (by simp))];exact ih fun s hs=>h s (by simp [hs])
 have hk:∀k,qR (nZ k) n=none:=fun k=>hf _ fun s hs=>hh k s hs
 simp only [gY,hk]
theorem acg (n:List UInt8):TT.lim 54 [.s n]=some [.i .i64 (JU n)]:=by
 have hu:∀o,gY 8 1 n=o→TT.lim 54 [.s n]=some [.i .i64 (match o with | some u=>u | none=>-1)]:=by
  intro o ho
  have h0:=ace n 8 1 (by omega) (by omega)
  rw [ho] at h0
  refine aA rfl rfl ?_ rfl
  cases o with
  | some u=>simp [h0]
  | none=>simp [h0]
 have hv:gY 8 1 n=(match placeOf n with | some p=>some (dO p) | none=>none):=by
  refine KI (Q:=fun n=>gY 8 1 n=(match placeOf n with | some p=>some (dO p) | none=>none)) (by rw [xI];exact amF) (by rw [wV];exact amk) (by rw [xE];exact amA) (by rw [xH];exact amE) (by rw [xF];exact amC) (by rw [zo];exact amr) (by rw [zq];exact amH) (by rw [xw];exact amw) (by rw [xC];exact amz) (by rw [xB];exact amy) (by rw [wX];exact amm) (by rw [xu];exact amv) (by rw [wZ];exact amo) (by rw [xG];exact amD) (by rw [xg];exact amq) (by rw [xJ];exact amG) (by rw [xq];exact amu) (by rw [wW];exact aml) (by rw [xk];exact ams) (by rw [xA];exact amx) (by rw [wY];exact amn) (by rw [xK];exact amI) (fun n e0 e1 e2 e3 e4 e5 e6 e7 e8 e9 e10 e11 e12 e13 e14 e15 e16 e17 e18 e19 e20 e21=>by rw [H7 n e0 e1 e2 e3 e4 e5 e6 e7 e8 e9 e10 e11 e12 e13 e14 e15 e16 e17 e18 e19 e20 e21];exact amB n e0 e1 e2 e3 e4 e5 e6 e7 e8 e9 e10 e11 e12 e13 e14 e15 e16 e17 e18 e19 e20 e21) n
 have:=hu _ hv
 rw [this]
 unfold JU
 cases placeOf n<;>rfl
theorem eU {n:List UInt8} {p:Pl} (h:placeOf n=some p):TT.lim 54 [.s n]=some [.i .i64 (dO p)]:=by
 have hu:=acg n
 unfold JU at hu
 rw [h] at hu
 exact hu
def eF (b:aF) (r:List GV) (n:List UInt8) (p:Pl):Prop:=TT.lim 86 [aK b r,.s n]=some [.i .u64 (gq b p).1,.s (gq b p).2]
theorem ajB (b:aF) (r:List GV):TT.lim 87 [aK b r,.s jH]=some [.i .u64 (gG b 0)]:=by
 have e:gG b 0=b.id:=rfl
 rw [e]
 unfold jH
 refine aA rfl rfl ?_ rfl
 simp
theorem ajE (b:aF) (r:List GV):TT.lim 87 [aK b r,.s jK]=some [.i .u64 (gG b 1)]:=by
 have e:gG b 1=b.min:=rfl
 rw [e]
 unfold jK
 refine aA rfl rfl ?_ rfl
 simp
theorem ajD (b:aF) (r:List GV):TT.lim 87 [aK b r,.s jJ]=some [.i .u64 (gG b 2)]:=by
 have e:gG b 2=b.max:=rfl
 rw [e]
 unfold jJ
 refine aA rfl rfl ?_ rfl
 simp
theorem aju (b:aF) (r:List GV):TT.lim 87 [aK b r,.s jy]=some [.i .u64 (gG b 3)]:=by
 have e:gG b 3=b.chosen:=rfl
 rw [e]
 unfold jy
 refine aA rfl rfl ?_ rfl
 simp
theorem ajA (b:aF) (r:List GV):TT.lim 87 [aK b r,.s jG]=some [.i .u64 (gG b 4)]:=by
 have e:gG b 4=b.flags:=rfl
 rw [e]
 unfold jG
 refine aA rfl rfl ?_ rfl
 simp
theorem ajw (b:aF) (r:List GV):TT.lim 87 [aK b r,.s jB]=some [.i .u64 (gG b 5)]:=by
 have e:gG b 5=b.cost:=rfl
 rw [e]
 unfold jB
 refine aA rfl rfl ?_ rfl
 simp
theorem ajF (b:aF) (r:List GV):TT.lim 87 [aK b r,.s jO]=some [.i .u64 (gG b 6)]:=by
 have e:gG b 6=b.priority:=rfl
 rw [e]
 unfold jO
 refine aA rfl rfl ?_ rfl
 simp
theorem ajx (b:aF) (r:List GV):TT.lim 87 [aK b r,.s jC]=some [.i .u64 (gG b 7)]:=by
 have e:gG b 7=b.deadline:=rfl
 rw [e]
 unfold jC
 refine aA rfl rfl ?_ rfl
 simp
theorem ajG (b:aF) (r:List GV):TT.lim 87 [aK b r,.s jQ]=some [.i .u64 (gG b 8)]:=by
 have e:gG b 8=b.retry:=rfl
 rw [e]
 unfold jQ
 refine aA rfl rfl ?_ rfl
 simp
theorem ajz (b:aF) (r:List GV):TT.lim 87 [aK b r,.s jF]=some [.i .u64 (gG b 9)]:=by
 have e:gG b 9=b.epoch:=rfl
 rw [e]
 unfold jF
 refine aA rfl rfl ?_ rfl
 simp
theorem ajt (b:aF) (r:List GV):TT.lim 87 [aK b r,.s jw]=some [.i .u64 (gG b 10)]:=by
 have e:gG b 10=b.base:=rfl
 rw [e]
 unfold jw
 refine aA rfl rfl ?_ rfl
 simp
theorem ajy (b:aF) (r:List GV):TT.lim 87 [aK b r,.s jE]=some [.i .u64 (gG b 11)]:=by
 have e:gG b 11=b.digest:=rfl
 rw [e]
 unfold jE
 refine aA rfl rfl ?_ rfl
 simp
theorem ajC (b:aF) (r:List GV):TT.lim 87 [aK b r,.s jI]=some [.i .u64 (gG b 12)]:=by
 have e:gG b 12=b.lag:=rfl
 rw [e]
 unfold jI
 refine aA rfl rfl ?_ rfl
 simp
theorem ajv (b:aF) (r:List GV):TT.lim 87 [aK b r,.s jA]=some [.i .u64 (gG b 13)]:=by
 have e:gG b 13=b.code:=rfl
 rw [e]
 unfold jA
 refine aA rfl rfl ?_ rfl
 simp
theorem ajH (b:aF) (r:List GV):TT.lim 87 [aK b r,.s jS]=some [.i .u64 (gG b 14)]:=by
 have e:gG b 14=b.want:=rfl
 rw [e]
 unfold jS
 refine aA rfl rfl ?_ rfl
 simp
theorem akH (b:aF) (r:List GV):TT.lim 88 [aK b r,.s jL]=some [.s b.name]:=by
 unfold jL
 refine aA rfl rfl ?_ rfl
 simp
theorem akJ (b:aF) (r:List GV):TT.lim 88 [aK b r,.s jP]=some [.s b.region]:=by
 unfold jP
 refine aA rfl rfl ?_ rfl
 simp
theorem akI (b:aF) (r:List GV):TT.lim 88 [aK b r,.s jM]=some [.s b.note]:=by
 unfold jM
 refine aA rfl rfl ?_ rfl
 simp
theorem abe (b:aF) (r:List GV):eF b r jH (.num 0):=by
 have hu:=eU xw
 unfold eF
 have hn:=ajB b r
 have hu:TT.lim 54 [.s jH]=some [.i .i64 0]:=hu
 refine aA rfl rfl ?_ rfl
 simp -implicitDefEqProofs [hu,iG,hn,gq]
theorem abh (b:aF) (r:List GV):eF b r jK (.num 1):=by
 have hu:=eU xC
 unfold eF
 have hn:=ajE b r
 have hu:TT.lim 54 [.s jK]=some [.i .i64 0]:=hu
 refine aA rfl rfl ?_ rfl
 simp -implicitDefEqProofs [hu,iG,hn,gq]
theorem abg (b:aF) (r:List GV):eF b r jJ (.num 2):=by
 have hu:=eU xB
 unfold eF
 have hn:=ajD b r
 have hu:TT.lim 54 [.s jJ]=some [.i .i64 0]:=hu
 refine aA rfl rfl ?_ rfl
 simp -implicitDefEqProofs [hu,iG,hn,gq]
theorem aa5 (b:aF) (r:List GV):eF b r jy (.num 3):=by
 have hu:=eU wX
 unfold eF
 have hn:=aju b r
 have hu:TT.lim 54 [.s jy]=some [.i .i64 0]:=hu
 refine aA rfl rfl ?_ rfl
 simp -implicitDefEqProofs [hu,iG,hn,gq]
theorem abd (b:aF) (r:List GV):eF b r jG (.num 4):=by
 have hu:=eU xu
 unfold eF
 have hn:=ajA b r
 have hu:TT.lim 54 [.s jG]=some [.i .i64 0]:=hu
 refine aA rfl rfl ?_ rfl
 simp -implicitDefEqProofs [hu,iG,hn,gq]
theorem aa7 (b:aF) (r:List GV):eF b r jB (.num 5):=by
 have hu:=eU wZ
 unfold eF
 have hn:=ajw b r
 have hu:TT.lim 54 [.s jB]=some [.i .i64 0]:=hu
 refine aA rfl rfl ?_ rfl
 simp -implicitDefEqProofs [hu,iG,hn,gq]
theorem abl (b:aF) (r:List GV):eF b r jO (.num 6):=by
 have hu:=eU xG
 unfold eF
 have hn:=ajF b r
 have hu:TT.lim 54 [.s jO]=some [.i .i64 0]:=hu
 refine aA rfl rfl ?_ rfl
 simp -implicitDefEqProofs [hu,iG,hn,gq]
theorem aa8 (b:aF) (r:List GV):eF b r jC (.num 7):=by
 have hu:=eU xg
 unfold eF
 have hn:=ajx b r
 have hu:TT.lim 54 [.s jC]=some [.i .i64 0]:=hu
 refine aA rfl rfl ?_ rfl
 simp -implicitDefEqProofs [hu,iG,hn,gq]
theorem abo (b:aF) (r:List GV):eF b r jQ (.num 8):=by
 have hu:=eU xJ
 unfold eF
 have hn:=ajG b r
 have hu:TT.lim 54 [.s jQ]=some [.i .i64 0]:=hu
 refine aA rfl rfl ?_ rfl
 simp -implicitDefEqProofs [hu,iG,hn,gq]
theorem abb (b:aF) (r:List GV):eF b r jF (.num 9):=by
 have hu:=eU xq
 unfold eF
 have hn:=ajz b r
 have hu:TT.lim 54 [.s jF]=some [.i .i64 0]:=hu
 refine aA rfl rfl ?_ rfl
 simp -implicitDefEqProofs [hu,iG,hn,gq]
theorem aa4 (b:aF) (r:List GV):eF b r jw (.num 10):=by
 have hu:=eU wW
 unfold eF
 have hn:=ajt b r
 have hu:TT.lim 54 [.s jw]=some [.i .i64 0]:=hu
 refine aA rfl rfl ?_ rfl
 simp -implicitDefEqProofs [hu,iG,hn,gq]
theorem aa9 (b:aF) (r:List GV):eF b r jE (.num 11):=by
 have hu:=eU xk
 unfold eF
 have hn:=ajy b r
 have hu:TT.lim 54 [.s jE]=some [.i .i64 0]:=hu
 refine aA rfl rfl ?_ rfl
 simp -implicitDefEqProofs [hu,iG,hn,gq]
theorem abf (b:aF) (r:List GV):eF b r jI (.num 12):=by
 have hu:=eU xA
 unfold eF
 have hn:=ajC b r
 have hu:TT.lim 54 [.s jI]=some [.i .i64 0]:=hu
 refine aA rfl rfl ?_ rfl
 simp -implicitDefEqProofs [hu,iG,hn,gq]
theorem aa6 (b:aF) (r:List GV):eF b r jA (.num 13):=by
 have hu:=eU wY
 unfold eF
 have hn:=ajv b r
 have hu:TT.lim 54 [.s jA]=some [.i .i64 0]:=hu
 refine aA rfl rfl ?_ rfl
 simp -implicitDefEqProofs [hu,iG,hn,gq]
theorem abp (b:aF) (r:List GV):eF b r jS (.num 14):=by
 have hu:=eU xK
 unfold eF
 have hn:=ajH b r
 have hu:TT.lim 54 [.s jS]=some [.i .i64 0]:=hu
 refine aA rfl rfl ?_ rfl
 simp -implicitDefEqProofs [hu,iG,hn,gq]
theorem aa3 (b:aF) (r:List GV):eF b r kK .allow:=by
 have hu:=eU wV
 unfold eF
 have hu:TT.lim 54 [.s kK]=some [.i .i64 1]:=hu
 refine aA rfl rfl ?_ rfl
 cases hc:b.allowed<;>simp [hu,gq,hc]
theorem abn (b:aF) (r:List GV) (hb:qH b):eF b r kL .rem:=by
 have hu:=eU xI
 unfold eF
 have hu:TT.lim 54 [.s kL]=some [.i .i64 2]:=hu
 have hx:=hb.remaining
 refine aA rfl rfl ?_ rfl
 by_cases hc:0≤b.remaining
 ·have w1:=gK (n:=b.remaining) (by omega) (by omega)
  have w2:=gK (n:=2 * b.remaining) (by omega) (by omega)
  simp -implicitDefEqProofs [hu,gq,zz,hc,w1,w2]
 ·have w0:=wrap64 (n:=b.remaining+1) (by omega) (by omega)
  have w00:=wrap64 (n:=0 - (b.remaining+1)) (by omega) (by omega)
  have w1:=gK (n:=0 - (b.remaining+1)) (by omega) (by omega)
  have w2:=gK (n:=0 - (b.remaining+1)+1) (by omega) (by omega)
  have w3:=gK (n:=0 - (b.remaining+1)+1 - 1) (by omega) (by omega)
  have w4:=gK (n:=2 * (0 - (b.remaining+1)+1 - 1)) (by omega) (by omega)
  have w5:=gK (n:=2 * (0 - (b.remaining+1)+1 - 1)+1) (by omega) (by omega)
  have e:2 * (0 - (b.remaining+1)+1 - 1)+1 = -2 * b.remaining - 1:=by omega
  have hz:zz b.remaining=2 * (0 - (b.remaining+1)+1 - 1)+1:=by unfold zz;rw [if_neg hc,e]
  have hv:gq b .rem=(zz b.remaining,[]):=rfl
  rw [hv,hz]
  simp only [Nat.reduceAdd] at *
  simp -implicitDefEqProofs [-Int.add_sub_cancel, -Int.zero_sub,hu,hc,w0,w00,w1,w2,w3,w4,w5]
theorem abj (b:aF) (r:List GV):eF b r jL .name:=by
 have hu:=eU xE
 unfold eF
 have hn:=akH b r
 have hu:TT.lim 54 [.s jL]=some [.i .i64 3]:=hu
 refine aA rfl rfl ?_ rfl
 simp -implicitDefEqProofs [hu,iG,hn,gq]
theorem abm (b:aF) (r:List GV):eF b r jP .region:=by
 have hu:=eU xH
 unfold eF
 have hn:=akJ b r
 have hu:TT.lim 54 [.s jP]=some [.i .i64 3]:=hu
 refine aA rfl rfl ?_ rfl
 simp -implicitDefEqProofs [hu,iG,hn,gq]
theorem abk (b:aF) (r:List GV):eF b r jM .note:=by
 have hu:=eU xF
 unfold eF
 have hn:=akI b r
 have hu:TT.lim 54 [.s jM]=some [.i .i64 3]:=hu
 refine aA rfl rfl ?_ rfl
 simp -implicitDefEqProofs [hu,iG,hn,gq]
theorem aam:∀ (N:Nat) (l:List bH),iD l < N→ig l→l.length≤1000000→TT.lim 25 [.l (aV l)]=some [.l (aV l)]
 | 0,l,h,_,_=>by omega
 | N+1,l,hN,hok,hlen=>by
  have loop:∀m i,i+m=l.length→TT.lim 26 [.l ((aV l).take i),.l (aV l),.i .i64 l.length,.i .i64 i]=some [.i .i64 0,.l (aV l)]:=by
   intro m
   induction m with
   | zero=>
    intro i hi
    have h0:(aV l).take i=aV l:=List.take_of_length_le (by rw [qp];omega)
    rw [h0]
    refine ay rfl rfl ?_
    have h:¬ ((i:Int) < l.length):=by omega
    simp -implicitDefEqProofs [h]
   | succ m ih=>
    intro i hi
    have hlt:i < l.length:=by omega
    have hf:=Gl hok l[i] (List.getElem_mem hlt)
    have hs:=Py (List.getElem_mem hlt)
    have hget:(aV l)[i]? = some (oM l[i]):=by rw [LJ,List.getElem?_map,List.getElem?_eq_getElem hlt];rfl
    have hcast:((i:Int)+1)=((i+1:Nat):Int):=by omega
    have ih':=ih (i+1) (by omega)
    have htk:(aV l).take (i+1)=(aV l).take i++[oM l[i]]:=by
     rw [List.take_add_one,hget];rfl
    rw [htk,← hcast] at ih'
    clear htk
    obtain ⟨t,y,n,s,k,hfi⟩:∃t y n s k,l[i]=bH.mk t y n s k:=by
     cases l[i] with
     | mk t y n s k=>exact ⟨_,_,_,_,_,rfl⟩
    rw [hfi] at hget hf hs ih'
    simp only [AL] at hf
    simp only [tK] at hs
    have hwr:=wrap64 (n:=(i:Int)+1) (by omega) (by omega)
    have h:((i:Int) < l.length):=by omega
    have hk:=aam N k (by omega) hf.2 hf.1.2.2.2.2.2.2.2
    have hfold:GV.g [.i .u64 t,.i .i64 y,.i .u64 n,.s s,.l (aV k)]=oM (.mk t y n s k):=by simp only [oM]
    have hel:(oM (.mk t y n s k)).fA 5=true:=by simp only [oM];rfl
    have hl0:((aV l).take i).length=i:=by rw [List.length_take,qp];omega
    have hb1:2 * (((aV l).take i).length+1) * 64≤281474976710656:=by rw [hl0];omega
    have hb2:((aV l).take i).length≤281474976710655:=by rw [hl0];omega
    generalize (aV l).take i=acc at *
    refine ay rfl rfl ?_
    simp -implicitDefEqProofs [h,hget,hk,hfold,hel,hb1,hb2,hwr,ih']
  have h0:=loop l.length 0 (by omega)
  have hl2:=qp l
  have h0':TT.lim 26 [.l [],.l (aV l),.i .i64 (aV l).length,.i .i64 0]=some [.i .i64 0,.l (aV l)]:=by rw [hl2];exact h0
  refine aA rfl rfl ?_ rfl
  simp -implicitDefEqProofs [h0']
theorem LP:∀ (n:Nat) (l:List One) (deep:Int),(∀x∈l,vN x∧x.text.length≤300)→l.length≤1000000→ig (dS n l deep).1
 | 0,l,deep,_,_=>by simp only [dS,ig]
 | n+1,[],deep,_,_=>by simp only [dS,ig]
 | n+1,x::l,deep,h,hl=>by
  have hx:=h x (by simp)
  have hl':∀y∈l,vN y∧y.text.length≤300:=fun y hy=>h y (by simp [hy])
  have hx1:=hx.1
  unfold vN at hx1
  simp only [List.length_cons] at hl
  simp only [dS]
  split
  ·have hp:ig (if x.deep=255 then (([]:List bH),l) else dS n l (x.deep+1)).1∧(if x.deep=255 then (([]:List bH),l) else dS n l (x.deep+1)).1.length≤1000000∧∃k,(if x.deep=255 then (([]:List bH),l) else dS n l (x.deep+1)).2=l.drop k:=by
    split
    ·exact ⟨by simp only [ig],by simp,0,rfl⟩
    ·have:=AO n l (x.deep+1)
     exact ⟨LP n l _ hl' (by omega),by omega,this.2⟩
   obtain ⟨p1,p2,k,p3⟩:=hp
   simp only [ig,AL]
   refine ⟨⟨⟨hx1.2.2.2.2.1,hx1.2.2.2.2.2.1,hx1.2.2.1,hx1.2.2.2.1,hx1.2.2.2.2.2.2.1,hx1.2.2.2.2.2.2.2.1,hx.2,p2⟩,p1⟩, ?_⟩
   rw [p3]
   exact LP n (l.drop k) deep (fun y hy=>hl' y (List.mem_of_mem_drop hy)) (by rw [List.length_drop];omega)
  ·simp only [ig]
theorem ahb (l:List One) (hl:Ones l) (hf:qQ l=true):ig (lX l)∧(lX l).length≤1000000:=by
 unfold qQ at hf
 rw [Bool.and_eq_true,decide_eq_true_iff,List.all_eq_true] at hf
 refine ⟨LP _ l 0 (fun x hx=>⟨hl.2 x hx,by simpa using hf.1 x hx⟩) (by omega), ?_⟩
 have:=AO (l.length+1) l 0
 unfold lX
 omega
theorem ahX (b:aF) (fl:List bH) (hd:b.d.length≤40) (ht:ku b.t) (hok:ig fl) (hlen:fl.length≤1000000):TT.lim 20 [aK b (aV fl)]=some [aK b (aV fl)]:=by
 have h1:=abV b.d hd
 have h2:=amb b.t ht
 have h3:=aam (iD fl+1) fl (by omega) hok hlen
 refine aA rfl rfl ?_ rfl
 simp -implicitDefEqProofs [h1,h2,h3,iG]
abbrev It:=Int×Int×List UInt8
def ZR (a b:It):Bool:=if a.1=b.1 then decide (a.2.1 < b.2.1) else decide (a.1 < b.1)
def leI (a b:It):Prop:=ZR b a=false
def dI:It:=(0,0,[])
abbrev at_ (h:List It) (i:Nat):It:=h.getD i dI
def par (k:Nat):Nat:=(k - 1) / 2
def Heap (h:List It) (n:Nat):Prop:=∀k,0 < k→k < n→leI (at_ h (par k)) (at_ h k)
structure Qh (h L:List It) (n:Int):Prop where
 heap:Heap h h.length
 perm:L.Perm h
 srt:L.Pairwise (fun x y=>ZR x y=true)
 low:∀x∈L,x.2.1 < n
theorem Qh.len {h L:List It} {n:Int} (s:Qh h L n):h.length=L.length:=s.perm.length_eq.symm
/-- What may be kept. -/
structure Kp (k:List Sn):Prop where
 len:k.length≤8
 tb:∀s∈k,Tb s.2
 pos:∀s∈k,0 < s.1∧s.1 < 18446744073709551616
 rise:k.Pairwise fun a b=>a.1 < b.1∧Qv b.2 a.2=true
theorem Kp.drop {k:List Sn} (hk:Kp k) (i:Nat):Kp (k.drop i):=
 ⟨by have:=hk.len;rw [List.length_drop];omega,fun s hs=>hk.tb s (List.mem_of_mem_drop hs),fun s hs=>hk.pos s (List.mem_of_mem_drop hs),hk.rise.sublist (List.drop_sublist i k)⟩
theorem Io (b:aF) (r:List GV) (hd:b.d.length≤1000):∀m i:Nat,i+m=b.d.length→
 TT.lim 108 ([.i .i64 b.d.length,.i .i64 i]++(aK b r).cells++(aK b r).cells)=some [.i .i64 1]
 | 0,i,hi=>by
  have h:¬ ((i:Int) < b.d.length):=by omega
  refine ay rfl rfl ?_
  simp -implicitDefEqProofs [h]
 | m+1,i,hi=>by
  have hlt:i < b.d.length:=by omega
  have h:((i:Int) < b.d.length):=by omega
  have hw:=wrap64 (n:=(i:Int)+1) (by omega) (by omega)
  have ih:TT.lim 108 ([.i .i64 b.d.length,.i .i64 ((i:Int)+1)]++(aK b r).cells++(aK b r).cells)=_:=Io b r hd m (i+1) (by omega)
  have ke:=Dy b.d[i] b.d[i]
  simp only [decide_true] at ke
  rw [dw] at ih ⊢
  simp only [List.cons_append,List.nil_append] at ih ⊢
  refine ay rfl rfl ?_
  simp -implicitDefEqProofs [h,hlt,ke,hw,ih]
end M
end Go.Proofs.YtpkihgnabejkkaaGreatDoor
