/- What the trees compute: plain laws. -/
import Derived.Test.YtcpfjpcdcafjmaaGreatDoorKCe3
namespace Go.Proofs.YtcpfjpcdcafjmaaGreatDoor
open Go Go.aN
set_option linter.unusedSimpArgs false
set_option linter.unusedVariables false
set_option maxRecDepth 100000
namespace C
theorem ab3:TT.lim 122 []=some [.l (bD.map .s)]:=by
 refine aA rfl rfl ?_ rfl;simp [bD]
def wG (l:List rZ) (n:List UInt8):Option Int:=match l with
 | []=>none
 | s::l=>if s.name=n then some s.use else wG l n
def jd:Nat->Int->List UInt8->Option Int
 | 0,_,_=>none
 | m+1,k,n=>match wG (rM k) n with
   | some u=>some u
   | none=>jd m (k+1) n
def iT (n:List UInt8):Int:=match placeOf n with
 | some p=>dM p
 | none=>-1
theorem ada (n:List UInt8) (a1:GV) (l:List rZ) (hlen:l.length<=1000):∀ (m i:Nat),i+m=l.length->
 TT.lim 72 [.s n,a1,.l (l.map vS),.i .i64 l.length,.i .i64 i]=some (match wG (l.drop i) n with | some u=>[.i .i64 0,.i .i64 u] | none=>[.i .i64 1])
 | 0,i,hi=>by
   have h0:l.drop i=[]:=eY (by omega);refine aC rfl rfl ?_;have h:¬ ((i:Int) < l.length):=by omega
   simp [h,h0,wG]
 | m+1,i,hi=>by
   have hlt:i < l.length:=by omega
   have ih:=ada n a1 l hlen m (i+1) (by omega);have hcast:((i:Int)+1)=((i+1:Nat):Int):=by omega
   rw [<- hcast] at ih;have h1:((i:Int) < l.length):=by omega
   have hw:=wrap64 (n:=(i:Int)+1) (by omega) (by omega);rw [fZ hlt];refine aC rfl rfl ?_;by_cases hc:l[i].name=n
   ·simp only [wG,ak hc]
    simp [h1,hlt,hc]
   ·simp only [wG,ah hc]
    simp [h1,hlt,hc,hw,ih]
theorem ac9 (n:List UInt8):∀ (m:Nat) (k:Int),k+m=9->1<=k->
 TT.lim 70 [.s n,.i .i64 k]=some (match jd m k n with | some u=>[.i .i64 0,.i .i64 u] | none=>[.i .i64 1])
 | 0,k,hk,h1=>by
   have:¬ k<=8:=by omega
   refine aC rfl rfl ?_;simp [this,jd]
 | m+1,k,hk,h1=>by
   have h8:k<=8:=by omega
   have hw:=wrap64 (n:=k+1) (by omega) (by omega);have hs:=akY k;have ih:=ac9 n m (k+1) (by omega) (by omega);have hu:TT.lim 72 [.s n,.i .i64 k,.l ((rM k).map vS),.i .i64 (rM k).length,.i .i64 0]=_:=ada n (.i .i64 k) (rM k) (by have:=amO k;omega) (rM k).length 0 (by omega);rw [dJ] at hu;have he:jd (m+1) k n=match wG (rM k) n with | some u=>some u | none=>jd m (k+1) n:=rfl
   rw [he];generalize rM k=l at *;cases hf:wG l n with
   | some u=>
     rw [hf] at hu;refine aC rfl rfl ?_;simp [h8,hs,hu]
   | none=>
     rw [hf] at hu;refine aC rfl rfl ?_;simp [h8,hs,hu,hw,ih]
theorem anS:jd 8 1 lH=some (dM .rem):=by unfold lH;decide
theorem anz:jd 8 1 lG=some (dM .allow):=by unfold lG;decide
theorem anN:jd 8 1 kM=some (dM .name):=by unfold kM;decide
theorem anR:jd 8 1 kQ=some (dM .region):=by unfold kQ;decide
theorem anP:jd 8 1 kN=some (dM .note):=by unfold kN;decide
theorem anF:jd 8 1 jG=some (dM .d):=by unfold jG;decide
theorem anU:jd 8 1 jH=some (dM .t):=by unfold jH;decide
theorem anJ:jd 8 1 kH=some (dM (.num 0)):=by unfold kH;decide
theorem anM:jd 8 1 kL=some (dM (.num 1)):=by unfold kL;decide
theorem anL:jd 8 1 kK=some (dM (.num 2)):=by unfold kK;decide
theorem anB:jd 8 1 jZ=some (dM (.num 3)):=by unfold jZ;decide
theorem anI:jd 8 1 kG=some (dM (.num 4)):=by unfold kG;decide
theorem anD:jd 8 1 kC=some (dM (.num 5)):=by unfold kC;decide
theorem anQ:jd 8 1 kP=some (dM (.num 6)):=by unfold kP;decide
theorem anE:jd 8 1 kD=some (dM (.num 7)):=by unfold kD;decide
theorem anT:jd 8 1 kR=some (dM (.num 8)):=by unfold kR;decide
theorem anH:jd 8 1 kF=some (dM (.num 9)):=by unfold kF;decide
theorem anA:jd 8 1 jY=some (dM (.num 10)):=by unfold jY;decide
theorem anG:jd 8 1 kE=some (dM (.num 11)):=by unfold kE;decide
theorem anK:jd 8 1 kJ=some (dM (.num 12)):=by unfold kJ;decide
theorem anC:jd 8 1 ku=some (dM (.num 13)):=by unfold ku;decide
theorem anV:jd 8 1 kS=some (dM (.num 14)):=by unfold kS;decide
theorem anO (n:List UInt8) (e0:¬ n=lH) (e1:¬ n=lG) (e2:¬ n=kM) (e3:¬ n=kQ) (e4:¬ n=kN) (e5:¬ n=jG) (e6:¬ n=jH) (e7:¬ n=kH) (e8:¬ n=kL) (e9:¬ n=kK) (e10:¬ n=jZ) (e11:¬ n=kG) (e12:¬ n=kC) (e13:¬ n=kP) (e14:¬ n=kD) (e15:¬ n=kR) (e16:¬ n=kF) (e17:¬ n=jY) (e18:¬ n=kE) (e19:¬ n=kJ) (e20:¬ n=ku) (e21:¬ n=kS):jd 8 1 n=none:=by
 have hh:∀k s,s∈rM k->¬ s.name=n:=by
  intro k s hs e;have h1:=Gi n e0 e1 e2 e3 e4 e5 e6 e7 e8 e9 e10 e11 e12 e13 e14 e15 e16 e17 e18 e19 e20 e21;rw [<- e] at h1;have key:∀s∈rM k,placeOf s.name≠none:=by
   unfold rM;repeat' split
   all_goals first | (unfold sp1;decide) | (unfold sp2;decide) | (unfold OG;decide) | (unfold OH;decide) | (unfold OI;decide) | (unfold OJ;decide) | (unfold OL;decide) | (unfold OM;decide) | (intro s hs;cases hs)
  exact key s hs h1
 have hf:∀ (l:List rZ),(∀s∈l,¬ s.name=n)->wG l n=none:=by
  intro l;induction l with
  | nil=>intro _;rfl
  | cons s l ih=>intro h;simp only [wG];rw [ah (h s (by simp))];exact ih λs hs=>h s (by simp [hs])
 have hk:∀k,wG (rM k) n=none:=λk=>hf _ λs hs=>hh k s hs;simp only [jd,hk]
theorem V6 (n:List UInt8):TT.lim 69 [.s n]=some [.i .i64 (iT n)]:=by
 have hu:∀o,jd 8 1 n=o->TT.lim 69 [.s n]=some [.i .i64 (match o with | some u=>u | none=>-1)]:=by
  intro o ho;have h0:=ac9 n 8 1 (by omega) (by omega);rw [ho] at h0;refine aA rfl rfl ?_ rfl;cases o with
  | some u=>simp [h0]
  | none=>simp [h0]
 have hv:jd 8 1 n=(match placeOf n with | some p=>some (dM p) | none=>none):=by
  refine Il (Q:=λn=>jd 8 1 n=(match placeOf n with | some p=>some (dM p) | none=>none)) (by rw [xH];exact anS) (by rw [wS];exact anz) (by rw [xC];exact anN) (by rw [xG];exact anR) (by rw [xE];exact anP) (by rw [wZ];exact anF) (by rw [xJ];exact anU) (by rw [xu];exact anJ) (by rw [xB];exact anM) (by rw [xA];exact anL) (by rw [wV];exact anB) (by rw [xq];exact anI) (by rw [wX];exact anD) (by rw [xF];exact anQ) (by rw [wY];exact anE) (by rw [xI];exact anT) (by rw [xk];exact anH) (by rw [wU];exact anA) (by rw [xg];exact anG) (by rw [xw];exact anK) (by rw [wW];exact anC) (by rw [xK];exact anV) (λn e0 e1 e2 e3 e4 e5 e6 e7 e8 e9 e10 e11 e12 e13 e14 e15 e16 e17 e18 e19 e20 e21=>by rw [Gi n e0 e1 e2 e3 e4 e5 e6 e7 e8 e9 e10 e11 e12 e13 e14 e15 e16 e17 e18 e19 e20 e21];exact anO n e0 e1 e2 e3 e4 e5 e6 e7 e8 e9 e10 e11 e12 e13 e14 e15 e16 e17 e18 e19 e20 e21) n
 have:=hu _ hv;rw [this];unfold iT;cases placeOf n<;>rfl
theorem fC {n:List UInt8} {p:Pl} (h:placeOf n=some p):TT.lim 69 [.s n]=some [.i .i64 (dM p)]:=by
 have hu:=V6 n;unfold iT at hu;rw [h] at hu;exact hu
def eG (b:aG) (r:List GV) (n:List UInt8) (p:Pl):Prop:=TT.lim 73 [aJ b r,.s n]=some [.i .u64 (aV b p).1,.s (aV b p).2]
theorem akF (b:aG) (r:List GV):TT.lim 74 [aJ b r,.s kH]=some [.i .u64 (iw b 0)]:=by
 have e:iw b 0=b.id:=rfl;rw [e];unfold kH;refine aA rfl rfl ?_ rfl;simp
theorem akI (b:aG) (r:List GV):TT.lim 74 [aJ b r,.s kL]=some [.i .u64 (iw b 1)]:=by
 have e:iw b 1=b.min:=rfl;rw [e];unfold kL;refine aA rfl rfl ?_ rfl;simp
theorem akH (b:aG) (r:List GV):TT.lim 74 [aJ b r,.s kK]=some [.i .u64 (iw b 2)]:=by
 have e:iw b 2=b.max:=rfl;rw [e];unfold kK;refine aA rfl rfl ?_ rfl;simp
theorem aky (b:aG) (r:List GV):TT.lim 74 [aJ b r,.s jZ]=some [.i .u64 (iw b 3)]:=by
 have e:iw b 3=b.chosen:=rfl;rw [e];unfold jZ;refine aA rfl rfl ?_ rfl;simp
theorem akE (b:aG) (r:List GV):TT.lim 74 [aJ b r,.s kG]=some [.i .u64 (iw b 4)]:=by
 have e:iw b 4=b.flags:=rfl;rw [e];unfold kG;refine aA rfl rfl ?_ rfl;simp
theorem akA (b:aG) (r:List GV):TT.lim 74 [aJ b r,.s kC]=some [.i .u64 (iw b 5)]:=by
 have e:iw b 5=b.cost:=rfl;rw [e];unfold kC;refine aA rfl rfl ?_ rfl;simp
theorem akJ (b:aG) (r:List GV):TT.lim 74 [aJ b r,.s kP]=some [.i .u64 (iw b 6)]:=by
 have e:iw b 6=b.priority:=rfl;rw [e];unfold kP;refine aA rfl rfl ?_ rfl;simp
theorem akB (b:aG) (r:List GV):TT.lim 74 [aJ b r,.s kD]=some [.i .u64 (iw b 7)]:=by
 have e:iw b 7=b.deadline:=rfl;rw [e];unfold kD;refine aA rfl rfl ?_ rfl;simp
theorem akK (b:aG) (r:List GV):TT.lim 74 [aJ b r,.s kR]=some [.i .u64 (iw b 8)]:=by
 have e:iw b 8=b.retry:=rfl;rw [e];unfold kR;refine aA rfl rfl ?_ rfl;simp
theorem akD (b:aG) (r:List GV):TT.lim 74 [aJ b r,.s kF]=some [.i .u64 (iw b 9)]:=by
 have e:iw b 9=b.epoch:=rfl;rw [e];unfold kF;refine aA rfl rfl ?_ rfl;simp
theorem akx (b:aG) (r:List GV):TT.lim 74 [aJ b r,.s jY]=some [.i .u64 (iw b 10)]:=by
 have e:iw b 10=b.base:=rfl;rw [e];unfold jY;refine aA rfl rfl ?_ rfl;simp
theorem akC (b:aG) (r:List GV):TT.lim 74 [aJ b r,.s kE]=some [.i .u64 (iw b 11)]:=by
 have e:iw b 11=b.digest:=rfl;rw [e];unfold kE;refine aA rfl rfl ?_ rfl;simp
theorem akG (b:aG) (r:List GV):TT.lim 74 [aJ b r,.s kJ]=some [.i .u64 (iw b 12)]:=by
 have e:iw b 12=b.lag:=rfl;rw [e];unfold kJ;refine aA rfl rfl ?_ rfl;simp
theorem akz (b:aG) (r:List GV):TT.lim 74 [aJ b r,.s ku]=some [.i .u64 (iw b 13)]:=by
 have e:iw b 13=b.code:=rfl;rw [e];unfold ku;refine aA rfl rfl ?_ rfl;simp
theorem akL (b:aG) (r:List GV):TT.lim 74 [aJ b r,.s kS]=some [.i .u64 (iw b 14)]:=by
 have e:iw b 14=b.want:=rfl;rw [e];unfold kS;refine aA rfl rfl ?_ rfl;simp
theorem alQ (b:aG) (r:List GV):TT.lim 75 [aJ b r,.s kM]=some [.s b.name]:=by
 unfold kM;refine aA rfl rfl ?_ rfl;simp
theorem alS (b:aG) (r:List GV):TT.lim 75 [aJ b r,.s kQ]=some [.s b.region]:=by
 unfold kQ;refine aA rfl rfl ?_ rfl;simp
theorem alR (b:aG) (r:List GV):TT.lim 75 [aJ b r,.s kN]=some [.s b.note]:=by
 unfold kN;refine aA rfl rfl ?_ rfl;simp
theorem Vk (b:aG) (r:List GV):eG b r kH (.num 0):=by
 have hu:=fC xu;unfold eG;have hn:=akF b r;have hu:TT.lim 69 [.s kH]=some [.i .i64 0]:=hu;refine aA rfl rfl ?_ rfl;simp [hu,jC,hn,aV]
theorem Vo (b:aG) (r:List GV):eG b r kL (.num 1):=by
 have hu:=fC xB;unfold eG;have hn:=akI b r;have hu:TT.lim 69 [.s kL]=some [.i .i64 0]:=hu;refine aA rfl rfl ?_ rfl;simp [hu,jC,hn,aV]
theorem Vm (b:aG) (r:List GV):eG b r kK (.num 2):=by
 have hu:=fC xA;unfold eG;have hn:=akH b r;have hu:TT.lim 69 [.s kK]=some [.i .i64 0]:=hu;refine aA rfl rfl ?_ rfl;simp [hu,jC,hn,aV]
theorem Vb (b:aG) (r:List GV):eG b r jZ (.num 3):=by
 have hu:=fC wV;unfold eG;have hn:=aky b r;have hu:TT.lim 69 [.s jZ]=some [.i .i64 0]:=hu;refine aA rfl rfl ?_ rfl;simp [hu,jC,hn,aV]
theorem Vj (b:aG) (r:List GV):eG b r kG (.num 4):=by
 have hu:=fC xq;unfold eG;have hn:=akE b r;have hu:TT.lim 69 [.s kG]=some [.i .i64 0]:=hu;refine aA rfl rfl ?_ rfl;simp [hu,jC,hn,aV]
theorem Ve (b:aG) (r:List GV):eG b r kC (.num 5):=by
 have hu:=fC wX;unfold eG;have hn:=akA b r;have hu:TT.lim 69 [.s kC]=some [.i .i64 0]:=hu;refine aA rfl rfl ?_ rfl;simp [hu,jC,hn,aV]
theorem Vr (b:aG) (r:List GV):eG b r kP (.num 6):=by
 have hu:=fC xF;unfold eG;have hn:=akJ b r;have hu:TT.lim 69 [.s kP]=some [.i .i64 0]:=hu;refine aA rfl rfl ?_ rfl;simp [hu,jC,hn,aV]
theorem Vf (b:aG) (r:List GV):eG b r kD (.num 7):=by
 have hu:=fC wY;unfold eG;have hn:=akB b r;have hu:TT.lim 69 [.s kD]=some [.i .i64 0]:=hu;refine aA rfl rfl ?_ rfl;simp [hu,jC,hn,aV]
theorem Vu (b:aG) (r:List GV):eG b r kR (.num 8):=by
 have hu:=fC xI;unfold eG;have hn:=akK b r;have hu:TT.lim 69 [.s kR]=some [.i .i64 0]:=hu;refine aA rfl rfl ?_ rfl;simp [hu,jC,hn,aV]
theorem Vh (b:aG) (r:List GV):eG b r kF (.num 9):=by
 have hu:=fC xk;unfold eG;have hn:=akD b r;have hu:TT.lim 69 [.s kF]=some [.i .i64 0]:=hu;refine aA rfl rfl ?_ rfl;simp [hu,jC,hn,aV]
theorem Va (b:aG) (r:List GV):eG b r jY (.num 10):=by
 have hu:=fC wU;unfold eG;have hn:=akx b r;have hu:TT.lim 69 [.s jY]=some [.i .i64 0]:=hu;refine aA rfl rfl ?_ rfl;simp [hu,jC,hn,aV]
theorem Vg (b:aG) (r:List GV):eG b r kE (.num 11):=by
 have hu:=fC xg;unfold eG;have hn:=akC b r;have hu:TT.lim 69 [.s kE]=some [.i .i64 0]:=hu;refine aA rfl rfl ?_ rfl;simp [hu,jC,hn,aV]
theorem Vl (b:aG) (r:List GV):eG b r kJ (.num 12):=by
 have hu:=fC xw;unfold eG;have hn:=akG b r;have hu:TT.lim 69 [.s kJ]=some [.i .i64 0]:=hu;refine aA rfl rfl ?_ rfl;simp [hu,jC,hn,aV]
theorem Vd (b:aG) (r:List GV):eG b r ku (.num 13):=by
 have hu:=fC wW;unfold eG;have hn:=akz b r;have hu:TT.lim 69 [.s ku]=some [.i .i64 0]:=hu;refine aA rfl rfl ?_ rfl;simp [hu,jC,hn,aV]
theorem Vw (b:aG) (r:List GV):eG b r kS (.num 14):=by
 have hu:=fC xK;unfold eG;have hn:=akL b r;have hu:TT.lim 69 [.s kS]=some [.i .i64 0]:=hu;refine aA rfl rfl ?_ rfl;simp [hu,jC,hn,aV]
theorem U9 (b:aG) (r:List GV):eG b r lG .allow:=by
 have hu:=fC wS;unfold eG;have hu:TT.lim 69 [.s lG]=some [.i .i64 1]:=hu;refine aA rfl rfl ?_ rfl;cases hc:b.allowed<;>simp [hu,aV,hc]
theorem Vt (b:aG) (r:List GV) (hb:nG b):eG b r lH .rem:=by
 have hu:=fC xH;unfold eG;have hu:TT.lim 69 [.s lH]=some [.i .i64 2]:=hu;have hx:=hb.remaining;refine aA rfl rfl ?_ rfl;by_cases hc:0<=b.remaining
 ·have w1:=eH (n:=b.remaining) (by omega) (by omega)
  have w2:=eH (n:=2 * b.remaining) (by omega) (by omega);simp [hu,aV,zz,hc,w1,w2]
 ·have w0:=wrap64 (n:=b.remaining+1) (by omega) (by omega)
  have w00:=wrap64 (n:=0 - (b.remaining+1)) (by omega) (by omega);have w1:=eH (n:=0 - (b.remaining+1)) (by omega) (by omega);have w2:=eH (n:=0 - (b.remaining+1)+1) (by omega) (by omega);have w3:=eH (n:=0 - (b.remaining+1)+1 - 1) (by omega) (by omega);have w4:=eH (n:=2 * (0 - (b.remaining+1)+1 - 1)) (by omega) (by omega);have w5:=eH (n:=2 * (0 - (b.remaining+1)+1 - 1)+1) (by omega) (by omega);have e:2 * (0 - (b.remaining+1)+1 - 1)+1 = -2 * b.remaining - 1:=by omega
  have hz:zz b.remaining=2 * (0 - (b.remaining+1)+1 - 1)+1:=by unfold zz;rw [ah hc,e]
  have hv:aV b .rem=(zz b.remaining,[]):=rfl;rw [hv,hz];simp only [Nat.reduceAdd] at *;simp [-Int.add_sub_cancel, -Int.zero_sub,hu,hc,w0,w00,w1,w2,w3,w4,w5]
theorem Vp (b:aG) (r:List GV):eG b r kM .name:=by
 have hu:=fC xC;unfold eG;have hn:=alQ b r;have hu:TT.lim 69 [.s kM]=some [.i .i64 3]:=hu;refine aA rfl rfl ?_ rfl;simp [hu,jC,hn,aV]
theorem Vs (b:aG) (r:List GV):eG b r kQ .region:=by
 have hu:=fC xG;unfold eG;have hn:=alS b r;have hu:TT.lim 69 [.s kQ]=some [.i .i64 3]:=hu;refine aA rfl rfl ?_ rfl;simp [hu,jC,hn,aV]
theorem Vq (b:aG) (r:List GV):eG b r kN .note:=by
 have hu:=fC xE;unfold eG;have hn:=alR b r;have hu:TT.lim 69 [.s kN]=some [.i .i64 3]:=hu;refine aA rfl rfl ?_ rfl;simp [hu,jC,hn,aV]
theorem alp (b:aG) (r:List GV) (hf:gy b.d=true):eG b r jG .d:=by
 have hu:=fC wZ;unfold eG;have hu:TT.lim 69 [.s jG]=some [.i .i64 4]:=hu;have hk:=Jj b.d hf;refine aA rfl rfl ?_ rfl;by_cases e:b.d=[]
 ·simp [hu,aV,e]
 ·simp [hu,aV,e,hk]
theorem alq (b:aG) (r:List GV) (hb:nG b) (hf:oP b.t):eG b r jH .t:=by
 have hu:=fC xJ;unfold eG;have hu:TT.lim 69 [.s jH]=some [.i .i64 5]:=hu;have hk:=akt b.t hb.t hf;refine aA rfl rfl ?_ rfl;by_cases e:b.t=[]
 ·simp [hu,aV,e]
 ·simp [hu,aV,e,hk]
/-- The numbers with a sign, written by their bits. -/
theorem aoK (x:Int) (h0 : -9223372036854775808<=x) (h1:x<=9223372036854775807):∃u w:Int,IntKind.u64.wrap x=u/\IntKind.u64.wrap (x.fdiv (2 ^ 63))=w/\fO .xor .u64 (IntKind.u64.wrap (u * 2 ^ 1)) w=some (.i .u64 (zz x)):=by
 have wr:∀y:Int,IntKind.u64.wrap y=y % 18446744073709551616:=λy=>by simp [IntKind.wrap,IntKind.signed,IntKind.bits]
 refine ⟨_,_,rfl,rfl, ?_⟩;rw [wr,wr,wr];unfold zz;have hb:IntKind.u64.bits=64:=rfl;by_cases h:0<=x
 ·have e1:x.fdiv (2 ^ 63)=0:=by
   rw [PN _ (by decide)];exact Int.ediv_eq_zero_of_lt h (by omega)
  rw [e1,ak h];have e2:x % 18446744073709551616 * 2 ^ 1 % 18446744073709551616=2 * x:=by omega
  rw [e2];simp only [fO,wr,hb];have e3:(BitVec.ofInt 64 (2 * x) ^^^ BitVec.ofInt 64 (0 % 18446744073709551616))=BitVec.ofInt 64 (2 * x):=by
   have:BitVec.ofInt 64 (0 % 18446744073709551616)=0#64:=rfl;rw [this,BitVec.xor_zero]
  show some (GV.i IntKind.u64 (((BitVec.ofInt 64 (2 * x) ^^^ BitVec.ofInt 64 (0 % 18446744073709551616)).toNat:Int) % 18446744073709551616))=_
  rw [e3,Aq];congr 2;omega
 ·have e1:x.fdiv (2 ^ 63) = -1:=by
   rw [PN _ (by decide)];omega
  rw [e1,ah h];have e2:x % 18446744073709551616 * 2 ^ 1 % 18446744073709551616=2 * x+18446744073709551616:=by omega
  rw [e2];simp only [fO,wr,hb];have e3:(BitVec.ofInt 64 (2 * x+18446744073709551616) ^^^ BitVec.ofInt 64 (-1 % 18446744073709551616)) = ~~~ BitVec.ofInt 64 (2 * x+18446744073709551616):=by
   have:BitVec.ofInt 64 (-1 % 18446744073709551616)=BitVec.allOnes 64:=by decide
   rw [this,BitVec.xor_allOnes]
  show some (GV.i IntKind.u64 (((BitVec.ofInt 64 (2 * x+18446744073709551616) ^^^ BitVec.ofInt 64 (-1 % 18446744073709551616)).toNat:Int) % 18446744073709551616))=_
  rw [e3,BitVec.toNat_not,Aq];congr 2;omega
def fE (b:aG) (r:List GV) (n:List UInt8) (p:Pl):Prop:=TT.lim 37 [aJ b r,.s n]=some [.g [.i .u64 0,.i .i64 (aK p),.i .u64 (aV b p).1,.s (aV b p).2,.l []],.b true]
theorem aog (b:aG) (r:List GV):fE b r kH (.num 0):=by
 unfold fE;show _=some [GV.g [.i .u64 0,.i .i64 0,.i .u64 b.id,.s [],.l []],GV.b true]
 unfold kH;refine aA rfl rfl ?_ rfl;simp
theorem aoj (b:aG) (r:List GV):fE b r kL (.num 1):=by
 unfold fE;show _=some [GV.g [.i .u64 0,.i .i64 0,.i .u64 b.min,.s [],.l []],GV.b true]
 unfold kL;refine aA rfl rfl ?_ rfl;simp
theorem aoi (b:aG) (r:List GV):fE b r kK (.num 2):=by
 unfold fE;show _=some [GV.g [.i .u64 0,.i .i64 0,.i .u64 b.max,.s [],.l []],GV.b true]
 unfold kK;refine aA rfl rfl ?_ rfl;simp
theorem an8 (b:aG) (r:List GV):fE b r jZ (.num 3):=by
 unfold fE;show _=some [GV.g [.i .u64 0,.i .i64 0,.i .u64 b.chosen,.s [],.l []],GV.b true]
 unfold jZ;refine aA rfl rfl ?_ rfl;simp
theorem aof (b:aG) (r:List GV):fE b r kG (.num 4):=by
 unfold fE;show _=some [GV.g [.i .u64 0,.i .i64 0,.i .u64 b.flags,.s [],.l []],GV.b true]
 unfold kG;refine aA rfl rfl ?_ rfl;simp
theorem aoa (b:aG) (r:List GV):fE b r kC (.num 5):=by
 unfold fE;show _=some [GV.g [.i .u64 0,.i .i64 0,.i .u64 b.cost,.s [],.l []],GV.b true]
 unfold kC;refine aA rfl rfl ?_ rfl;simp
theorem aom (b:aG) (r:List GV):fE b r kP (.num 6):=by
 unfold fE;show _=some [GV.g [.i .u64 0,.i .i64 0,.i .u64 b.priority,.s [],.l []],GV.b true]
 unfold kP;refine aA rfl rfl ?_ rfl;simp
theorem aob (b:aG) (r:List GV):fE b r kD (.num 7):=by
 unfold fE;show _=some [GV.g [.i .u64 0,.i .i64 0,.i .u64 b.deadline,.s [],.l []],GV.b true]
 unfold kD;refine aA rfl rfl ?_ rfl;simp
theorem aop (b:aG) (r:List GV):fE b r kR (.num 8):=by
 unfold fE;show _=some [GV.g [.i .u64 0,.i .i64 0,.i .u64 b.retry,.s [],.l []],GV.b true]
 unfold kR;refine aA rfl rfl ?_ rfl;simp
theorem aoe (b:aG) (r:List GV):fE b r kF (.num 9):=by
 unfold fE;show _=some [GV.g [.i .u64 0,.i .i64 0,.i .u64 b.epoch,.s [],.l []],GV.b true]
 unfold kF;refine aA rfl rfl ?_ rfl;simp
theorem an7 (b:aG) (r:List GV):fE b r jY (.num 10):=by
 unfold fE;show _=some [GV.g [.i .u64 0,.i .i64 0,.i .u64 b.base,.s [],.l []],GV.b true]
 unfold jY;refine aA rfl rfl ?_ rfl;simp
theorem aod (b:aG) (r:List GV):fE b r kE (.num 11):=by
 unfold fE;show _=some [GV.g [.i .u64 0,.i .i64 0,.i .u64 b.digest,.s [],.l []],GV.b true]
 unfold kE;refine aA rfl rfl ?_ rfl;simp
theorem aoh (b:aG) (r:List GV):fE b r kJ (.num 12):=by
 unfold fE;show _=some [GV.g [.i .u64 0,.i .i64 0,.i .u64 b.lag,.s [],.l []],GV.b true]
 unfold kJ;refine aA rfl rfl ?_ rfl;simp
theorem an9 (b:aG) (r:List GV):fE b r ku (.num 13):=by
 unfold fE;show _=some [GV.g [.i .u64 0,.i .i64 0,.i .u64 b.code,.s [],.l []],GV.b true]
 unfold ku;refine aA rfl rfl ?_ rfl;simp
theorem aor (b:aG) (r:List GV):fE b r kS (.num 14):=by
 unfold fE;show _=some [GV.g [.i .u64 0,.i .i64 0,.i .u64 b.want,.s [],.l []],GV.b true]
 unfold kS;refine aA rfl rfl ?_ rfl;simp
theorem aok (b:aG) (r:List GV):fE b r kM .name:=by
 unfold fE;show _=some [GV.g [.i .u64 0,.i .i64 1,.i .u64 0,.s b.name,.l []],GV.b true]
 unfold kM;refine aA rfl rfl ?_ rfl;simp
theorem aon (b:aG) (r:List GV):fE b r kQ .region:=by
 unfold fE;show _=some [GV.g [.i .u64 0,.i .i64 1,.i .u64 0,.s b.region,.l []],GV.b true]
 unfold kQ;refine aA rfl rfl ?_ rfl;simp
theorem aol (b:aG) (r:List GV):fE b r kN .note:=by
 unfold fE;show _=some [GV.g [.i .u64 0,.i .i64 1,.i .u64 0,.s b.note,.l []],GV.b true]
 unfold kN;refine aA rfl rfl ?_ rfl;simp
theorem an6 (b:aG) (r:List GV):fE b r lG .allow:=by
 unfold fE;unfold lG;refine aA rfl rfl ?_ rfl;cases hc:b.allowed<;>simp [aK,aV,hc]
theorem aoo (b:aG) (r:List GV) (hb:nG b):fE b r lH .rem:=by
 unfold fE;obtain ⟨u,w,h1,h2,h3⟩:=aoK b.remaining hb.remaining.1 hb.remaining.2;show _=some [GV.g [.i .u64 0,.i .i64 0,.i .u64 (zz b.remaining),.s [],.l []],GV.b true]
 have h2:IntKind.u64.wrap (b.remaining.fdiv 9223372036854775808)=w:=h2;have h3:fO .xor .u64 (IntKind.u64.wrap (u * 2)) w=some (.i .u64 (zz b.remaining)):=h3;unfold lH;refine aA rfl rfl ?_ rfl;simp [pI,h1,h2,h3,IntKind.bits]
theorem aoc (b:aG) (r:List GV) (hf:gy b.d=true):fE b r jG .d:=by
 unfold fE;have hk:=Nr b.d hf;have e:aV b .d=(0,if b.d=[] then [] else dN b.d):=rfl;rw [e];unfold jG;refine aA rfl rfl ?_ rfl;by_cases e:b.d=[]
 ·have e':=eq_true e
  simp [aK,e']
 ·simp [aK,e,hk]
theorem aoq (b:aG) (r:List GV) (hb:nG b) (hf:oP b.t):fE b r jH .t:=by
 unfold fE;have hk:=ahU b.t hb.t hf;have e:aV b .t=(0,if b.t=[] then [] else (zY b.t).1):=rfl;rw [e];unfold jH;refine aA rfl rfl ?_ rfl;by_cases e:b.t=[]
 ·have e':=eq_true e
  simp [aK,e']
 ·simp [aK,e,hk]
theorem aiB (b:aG) (r:List GV) (n:List UInt8) (e0:¬ n=lH) (e1:¬ n=lG) (e2:¬ n=kM) (e3:¬ n=kQ) (e4:¬ n=kN) (e5:¬ n=jG) (e6:¬ n=jH) (e7:¬ n=kH) (e8:¬ n=kL) (e9:¬ n=kK) (e10:¬ n=jZ) (e11:¬ n=kG) (e12:¬ n=kC) (e13:¬ n=kP) (e14:¬ n=kD) (e15:¬ n=kR) (e16:¬ n=kF) (e17:¬ n=jY) (e18:¬ n=kE) (e19:¬ n=kJ) (e20:¬ n=ku) (e21:¬ n=kS):TT.lim 37 [aJ b r,.s n]=some [.g [.i .u64 0,.i .i64 0,.i .u64 0,.s [],.l []],.b false]:=by
 unfold lH lG kM kQ kN jG jH kH kL kK jZ kG kC kP kD kR kF jY kE kJ ku kS at *;refine aA rfl rfl ?_ rfl;simp [e0,e1,e2,e3,e4,e5,e6,e7,e8,e9,e10,e11,e12,e13,e14,e15,e16,e17,e18,e19,e20,e21]
theorem abl:∀ (N:Nat) (l:List bH),iR l < N->jB l->l.length<=1000000->TT.lim 65 [.l (aQ l)]=some [.l (aQ l)]
 | 0,l,h,_,_=>by omega
 | N+1,l,hN,hok,hlen=>by
   have loop:∀m i,i+m=l.length->TT.lim 66 [.l ((aQ l).take i),.l (aQ l),.i .i64 l.length,.i .i64 i]=some [.i .i64 0,.l (aQ l)]:=by
    intro m;induction m with
    | zero=>
      intro i hi;have h0:(aQ l).take i=aQ l:=lK (by rw [vH];omega);rw [h0];refine aC rfl rfl ?_;have h:¬ ((i:Int) < l.length):=by omega
      simp [h]
    | succ m ih=>
      intro i hi;have hlt:i < l.length:=by omega
      have hf:=MH hok l[i] (iI hlt);have hs:=VT (iI hlt);have hget:(aQ l)[i]? = some (sQ l[i]):=by rw [Rn,jU,dK hlt];rfl
      have hcast:((i:Int)+1)=((i+1:Nat):Int):=by omega
      have ih':=ih (i+1) (by omega);have htk:(aQ l).take (i+1)=(aQ l).take i++[sQ l[i]]:=by
       rw [Ku,hget];rfl
      rw [htk,<- hcast] at ih';clear htk;obtain ⟨t,y,n,s,k,hfi⟩:∃t y n s k,l[i]=bH.mk t y n s k:=by
       cases l[i] with
       | mk t y n s k=>exact ⟨_,_,_,_,_,rfl⟩
      rw [hfi] at hget hf hs ih';simp only [Fj] at hf;simp only [yV] at hs;have hwr:=wrap64 (n:=(i:Int)+1) (by omega) (by omega);have h:((i:Int) < l.length):=by omega
      have hk:=abl N k (by omega) hf.2 hf.1.2.2.2.2.2.2.2;have hfold:GV.g [.i .u64 t,.i .i64 y,.i .u64 n,.s s,.l (aQ k)]=sQ (.mk t y n s k):=by simp only [sQ]
      have hel:(sQ (.mk t y n s k)).fV 5=true:=by simp only [sQ];rfl
      have hl0:((aQ l).take i).length=i:=by rw [lX,vH];omega
      have hb1:2 * (((aQ l).take i).length+1) * 64<=281474976710656:=by rw [hl0];omega
      have hb2:((aQ l).take i).length<=281474976710655:=by rw [hl0];omega
      generalize (aQ l).take i=acc at *;refine aC rfl rfl ?_;simp [h,hget,hk,hfold,hel,hb1,hb2,hwr,ih']
   have h0:=loop l.length 0 (by omega);have hl2:=vH l;have h0':TT.lim 66 [.l [],.l (aQ l),.i .i64 (aQ l).length,.i .i64 0]=some [.i .i64 0,.l (aQ l)]:=by rw [hl2];exact h0
   refine aA rfl rfl ?_ rfl;simp [h0']
theorem Rq:∀ (n:Nat) (l:List One) (deep:Int),(∀x∈l,AO x/\x.text.length<=300)->l.length<=1000000->jB (fA n l deep).1
 | 0,l,deep,_,_=>by simp only [fA,jB]
 | n+1,[],deep,_,_=>by simp only [fA,jB]
 | n+1,x::l,deep,h,hl=>by
   have hx:=h x (by simp);have hl':∀y∈l,AO y/\y.text.length<=300:=λy hy=>h y (by simp [hy]);have hx1:=hx.1;unfold AO at hx1;simp only [lq] at hl;simp only [fA];split
   ·have hp:jB (if x.deep=255 then (([]:List bH),l) else fA n l (x.deep+1)).1/\(if x.deep=255 then (([]:List bH),l) else fA n l (x.deep+1)).1.length<=1000000/\∃k,(if x.deep=255 then (([]:List bH),l) else fA n l (x.deep+1)).2=l.drop k:=by
     split
     ·exact ⟨by simp only [jB],by simp,0,rfl⟩
     ·have:=Fp n l (x.deep+1)
      exact ⟨Rq n l _ hl' (by omega),by omega,this.2⟩
    obtain ⟨p1,p2,k,p3⟩:=hp;simp only [jB,Fj];refine ⟨⟨⟨hx1.2.2.2.2.1,hx1.2.2.2.2.2.1,hx1.2.2.1,hx1.2.2.2.1,hx1.2.2.2.2.2.2.1,hx1.2.2.2.2.2.2.2.1,lu hx.2 (by decide),p2⟩,p1⟩, ?_⟩;rw [p3];exact Rq n (l.drop k) deep (λy hy=>hl' y (BZ hy)) (by rw [eU];omega)
   ·simp only [jB]
theorem aiq (l:List One) (hl:Ones l) (hf:wF l=true):jB (uI l)/\(uI l).length<=1000000:=by
 unfold wF at hf;rw [aH,decide_eq_true_iff,List.all_eq_true] at hf;refine ⟨Rq _ l 0 (λx hx=>⟨hl.2 x hx,by simpa using hf.1 x hx⟩) (by omega), ?_⟩;have:=Fp (l.length+1) l 0;unfold uI;omega
theorem Jt (b:aG) (fl:List bH) (hd:b.d.length<=40) (ht:qU b.t) (hok:jB fl) (hlen:fl.length<=1000000):TT.lim 60 [aJ b (aQ fl)]=some [aJ b (aQ fl)]:=by
 have h1:=acT b.d hd;have h2:=ano b.t ht;have h3:=abl (iR fl+1) fl (by omega) hok hlen;refine aA rfl rfl ?_ rfl;simp [h1,h2,h3,jC]
theorem adb (p:Pl):0<=dM p/\(dM p).tdiv 3=aK p/\dM p<=5:=by cases p<;>simp [dM,aK]
theorem an5 (b:aG) (r:List GV) (hb:nG b) (hd:gy b.d=true) (hf:oP b.t) (n:List UInt8):(∃p,placeOf n=some p/\TT.lim 37 [aJ b r,.s n]=some [.g [.i .u64 0,.i .i64 (aK p),.i .u64 (aV b p).1,.s (aV b p).2,.l []],.b true]/\TT.lim 73 [aJ b r,.s n]=some [.i .u64 (aV b p).1,.s (aV b p).2]/\iT n=dM p)\/
 (TT.lim 37 [aJ b r,.s n]=some [.g [.i .u64 0,.i .i64 0,.i .u64 0,.s [],.l []],.b false]/\iT n = -1):=by
 refine Il (Q:=λn=>(∃p,placeOf n=some p/\TT.lim 37 [aJ b r,.s n]=some [.g [.i .u64 0,.i .i64 (aK p),.i .u64 (aV b p).1,.s (aV b p).2,.l []],.b true]/\TT.lim 73 [aJ b r,.s n]=some [.i .u64 (aV b p).1,.s (aV b p).2]/\iT n=dM p)\/(TT.lim 37 [aJ b r,.s n]=some [.g [.i .u64 0,.i .i64 0,.i .u64 0,.s [],.l []],.b false]/\iT n = -1)) (.inl ⟨_,xH,aoo b r hb,Vt b r hb,by unfold iT;rw [xH]⟩) (.inl ⟨_,wS,an6 b r , U9 b r , by unfold iT;rw [wS]⟩) (.inl ⟨_,xC,aok b r , Vp b r , by unfold iT;rw [xC]⟩) (.inl ⟨_,xG,aon b r , Vs b r , by unfold iT;rw [xG]⟩) (.inl ⟨_,xE,aol b r , Vq b r , by unfold iT;rw [xE]⟩) (.inl ⟨_,wZ,aoc b r hd,alp b r hd,by unfold iT;rw [wZ]⟩) (.inl ⟨_,xJ,aoq b r hb hf,alq b r hb hf,by unfold iT;rw [xJ]⟩) (.inl ⟨_,xu,aog b r , Vk b r , by unfold iT;rw [xu]⟩) (.inl ⟨_,xB,aoj b r , Vo b r , by unfold iT;rw [xB]⟩) (.inl ⟨_,xA,aoi b r , Vm b r , by unfold iT;rw [xA]⟩) (.inl ⟨_,wV,an8 b r , Vb b r , by unfold iT;rw [wV]⟩) (.inl ⟨_,xq,aof b r , Vj b r , by unfold iT;rw [xq]⟩) (.inl ⟨_,wX,aoa b r , Ve b r , by unfold iT;rw [wX]⟩) (.inl ⟨_,xF,aom b r , Vr b r , by unfold iT;rw [xF]⟩) (.inl ⟨_,wY,aob b r , Vf b r , by unfold iT;rw [wY]⟩) (.inl ⟨_,xI,aop b r , Vu b r , by unfold iT;rw [xI]⟩) (.inl ⟨_,xk,aoe b r , Vh b r , by unfold iT;rw [xk]⟩) (.inl ⟨_,wU,an7 b r , Va b r , by unfold iT;rw [wU]⟩) (.inl ⟨_,xg,aod b r , Vg b r , by unfold iT;rw [xg]⟩) (.inl ⟨_,xw,aoh b r , Vl b r , by unfold iT;rw [xw]⟩) (.inl ⟨_,wW,an9 b r , Vd b r , by unfold iT;rw [wW]⟩) (.inl ⟨_,xK,aor b r , Vw b r , by unfold iT;rw [xK]⟩) (λn e0 e1 e2 e3 e4 e5 e6 e7 e8 e9 e10 e11 e12 e13 e14 e15 e16 e17 e18 e19 e20 e21=>.inr ⟨aiB b r n e0 e1 e2 e3 e4 e5 e6 e7 e8 e9 e10 e11 e12 e13 e14 e15 e16 e17 e18 e19 e20 e21,by unfold iT;rw [Gi n e0 e1 e2 e3 e4 e5 e6 e7 e8 e9 e10 e11 e12 e13 e14 e15 e16 e17 e18 e19 e20 e21]⟩) n
abbrev It:=Int×Int×List UInt8
def tu (a b:It):Bool:=if a.1=b.1 then decide (a.2.1 < b.2.1) else decide (a.1 < b.1)
def leI (a b:It):Prop:=tu b a=false
theorem SY (a b:It):leI a b↔a.1 < b.1\/(a.1=b.1/\a.2.1<=b.2.1):=by
 unfold leI tu;split
 ·next h=>simp;omega
 ·next h=>simp;omega
theorem aav {a b c:It} (h1:leI a b) (h2:leI b c):leI a c:=by rw [SY] at *;omega
theorem S9 {a b:It} (h:tu a b=true):leI a b:=by
 rw [SY];unfold tu at h;split at h
 ·next e=>have:=Jv h;omega
 ·next e=>have:=Jv h;omega
theorem ahZ {a b:It} (h:leI a b):a.1<=b.1:=by rw [SY] at h;omega
def dI:It:=(0,0,[])
abbrev at_ (h:List It) (i:Nat):It:=h.getD i dI
def Ai (h:List It) (i j:Nat):List It:=(h.set i (at_ h j)).set j (at_ h i)
theorem amX (h:List It) (i j:Nat):(Ai h i j).length=h.length:=by simp [Ai]
theorem adM (h:List It) {i j:Nat} (hi:i < h.length) (hj:j < h.length) (k:Nat):at_ (Ai h i j) k=if k=j then at_ h i else if k=i then at_ h j else at_ h k:=by
 unfold Ai at_;simp only [uU,List.getElem?_set,List.length_set];by_cases h1:k=j
 ·subst h1;simp [hj]
 ·have h1':¬ j=k:=λe=>h1 e.symm
  rw [ah h1',ah h1];by_cases h2:k=i
  ·subst h2;simp [hi]
  ·have h2':¬ i=k:=λe=>h2 e.symm
   rw [ah h2',ah h2]
theorem swap_perm (h:List It) {i j:Nat} (hi:i < h.length) (hj:j < h.length):(Ai h i j).Perm h:=by
 have:=Array.swap_perm (xs:=h.toArray) (i:=i) (j:=j) (by simpa using hi) (by simpa using hj);have h2:=this.toList;simp only [Array.toList_swap] at h2;unfold Ai at_;simpa [uU,hi,hj] using h2
def par (k:Nat):Nat:=(k - 1) / 2
def Heap (h:List It) (n:Nat):Prop:=∀k,0 < k->k < n->leI (at_ h (par k)) (at_ h k)
def JV:Nat->List It->Nat->List It
 | 0,h,_=>h
 | f+1,h,j=>if par j=j\/tu (at_ h j) (at_ h (par j))=false then h else JV f (Ai h (par j) j) (par j)
structure Xj (h:List It) (n j:Nat):Prop where
 jn:j < n
 heap:∀k,0 < k->k < n->k≠j->leI (at_ h (par k)) (at_ h k)
 kids:∀k,0 < k->k < n->par k=j->0 < j->leI (at_ h (par j)) (at_ h k)
theorem ac8:∀ (f:Nat) (h:List It) (j n:Nat),j < f->n=h.length->Xj h n j->Heap (JV f h j) n/\(JV f h j).Perm h
 | 0,h,j,n,hf,_,_=>by omega
 | f+1,h,j,n,hf,hn,hu=>by
   unfold JV;split
   ·next hc=>
    refine ⟨λk h0 hk=>?_,Ko _⟩;by_cases e:k=j
    ·subst e
     rcases hc with hc | hc
     ·unfold par at hc;omega
     ·exact hc
    ·exact hu.heap k h0 hk e
   ·next hc=>
    rw [not_or] at hc;obtain ⟨c1,c2⟩:=hc;have c2:tu (at_ h j) (at_ h (par j))=true:=by simpa using c2
    have j0:0 < j:=by
     rcases Xd j with e | e
     ·subst e;exact absurd rfl c1
     ·exact e
    have hp:par j < j:=by unfold par;omega
    have hjn:=hu.jn;have hsw:=adM h (i:=par j) (j:=j) (by omega) (by omega);have hu2:Xj (Ai h (par j) j) n (par j):=by
     refine ⟨by omega,λk h0 hk hne=>?_,λk h0 hk hpk hp0=>?_⟩
     ·rw [hsw,hsw]
      by_cases e1:k=j
      ·subst e1
       rw [ah (by omega),ak rfl,ak rfl];exact S9 c2
      ·rw [ah e1,ah hne]
       by_cases e2:par k=j
       ·rw [ak e2]
        exact hu.kids k h0 hk e2 j0
       ·rw [ah e2]
        by_cases e3:par k=par j
        ·rw [ak e3]
         exact aav (S9 c2) (e3 ▸ hu.heap k h0 hk e1)
        ·rw [ah e3]
         exact hu.heap k h0 hk e1
     ·rw [hsw,hsw]
      have q:par (par j) < par j:=by unfold par at *;omega
      rw [ah (by omega),ah (by omega)];have hg:=hu.heap (par j) hp0 (by omega) (by omega);by_cases e1:k=j
      ·subst e1
       rw [ak rfl];exact hg
      ·rw [ah e1,ah (λe=>by rw [e] at hpk;omega)]
       exact aav hg (hpk ▸ hu.heap k h0 hk e1)
    obtain ⟨r1,r2⟩:=ac8 f (Ai h (par j) j) (par j) n (by omega) (by rw [amX];exact hn) hu2;exact ⟨r1,r2.trans (swap_perm h (by omega) (by omega))⟩
def Om (h:List It) (x:It):List It:=JV (h.length+1) (h++[x]) h.length
theorem abH (h:List It) (x:It) (hh:Heap h h.length):Heap (Om h x) (h.length+1)/\(Om h x).Perm (h++[x]):=by
 refine ac8 _ _ _ _ (by omega) (by simp) ⟨by omega,λk h0 hk hne=>?_,λk h0 hk hpk _=>?_⟩
 ·have hk2:k < h.length:=by omega
  have e1:at_ (h++[x]) k=at_ h k:=by simp [at_,lg (show k < h.length by omega)]
  have e2:at_ (h++[x]) (par k)=at_ h (par k):=by simp [at_,lg (show par k < h.length by unfold par;omega)]
  rw [e1,e2];exact hh k h0 (by omega)
 ·exfalso;unfold par at hpk;omega
theorem ajG (h:List It) (x:It) (hh:Heap h h.length):(Om h x).length=h.length+1:=by
 have:=(abH h x hh).2.length_eq;simpa using this
structure Ia (h L:List It) (n:Int):Prop where
 heap:Heap h h.length
 perm:L.Perm h
 srt:L.Pairwise (λx y=>tu x y=true)
 low:∀x∈L,x.2.1 < n
theorem Ia.len {h L:List It} {n:Int} (s:Ia h L n):h.length=L.length:=s.perm.length_eq.symm
def insL (x:It):List It->List It
 | []=>[x]
 | y::L=>if y.1<=x.1 then y::insL x L else x::y::L
theorem Nl (x:It):∀L,(insL x L).Perm (L++[x])
 | []=>Ko _
 | y::L=>by
   unfold insL;split
   ·exact (Nl x L).cons y
   ·exact List.perm_append_comm (l₁:=[x]) (l₂:=y::L)
theorem aio {y x:It} (h:y.1<=x.1) (h2:y.2.1 < x.2.1):tu y x=true:=by
 unfold tu;split
 ·simpa using h2
 ·simp;omega
theorem aaV {y x:It} (h:x.1 < y.1):tu x y=true:=by
 unfold tu;rw [ah (by omega)];simpa using h
theorem ain {x y:It} (h:tu x y=true):x.1<=y.1:=ahZ (S9 h)
theorem aaj (x:It):∀L:List It,L.Pairwise (λa b=>tu a b=true)->(∀y∈L,y.2.1 < x.2.1)->(insL x L).Pairwise (λa b=>tu a b=true)
 | [],_,_=>by simp [insL]
 | y::L,hs,hlow=>by
   obtain ⟨h1,h2⟩:=Hq.1 hs;unfold insL;split
   ·next hc=>
    refine Hq.2 ⟨λz hz=>?_,aaj x L h2 λz hz=>hlow z (xX _ hz)⟩;rcases nI.1 ((Nl x L).mem_iff.1 hz) with g | g
    ·exact h1 z g
    ·rw [Ho] at g
     subst g;exact aio hc (hlow y List.mem_cons_self)
   ·next hc=>
    refine Hq.2 ⟨λz hz=>?_,hs⟩;rcases dP.1 hz with rfl | g
    ·exact aaV (by omega)
    ·exact aaV (by have:=ain (h1 z g);omega)
theorem Ia.put {h L:List It} {n a:Int} {t:List UInt8} (s:Ia h L n):Ia (Om h (a,n,t)) (insL (a,n,t) L) (n+1):=by
 have hp:=abH h (a,n,t) s.heap;have hl:=ajG h (a,n,t) s.heap;refine ⟨by rw [hl];exact hp.1,(Nl _ _).trans ((s.perm.append_right _).trans hp.2.symm),aaj _ _ s.srt s.low,λx hx=>?_⟩;rcases nI.1 ((Nl _ _).mem_iff.1 hx) with g | g
 ·have:=s.low x g;omega
 ·rw [Ho] at g
  subst g;show n < n+1
  omega
/-- What may be kept. -/
structure Kp (k:List Sn):Prop where
 len:k.length<=8
 tb:∀s∈k,Tb s.2
 pos:∀s∈k,0 < s.1/\s.1 < 18446744073709551616
 rise:k.Pairwise λa b=>a.1 < b.1/\Xz b.2 a.2=true
theorem Kp.drop {k:List Sn} (hk:Kp k) (i:Nat):Kp (k.drop i):=
 ⟨by have:=hk.len;rw [eU];omega,λs hs=>hk.tb s (BZ hs),λs hs=>hk.pos s (BZ hs),hk.rise.sublist (List.drop_sublist i k)⟩
end C
end Go.Proofs.YtcpfjpcdcafjmaaGreatDoor
