/- What the trees compute: plain laws. -/
import Derived.Test.YtjglbndncdkhhaaGreatDoorKUe7
namespace Go.Proofs.YtjglbndncdkhhaaGreatDoor
open Go Go.aN
set_option linter.unusedSimpArgs false
set_option linter.unusedVariables false
set_option maxRecDepth 100000
namespace U
theorem ajX {a b:List UInt8} {x:GV} (h1:iW (.s a) x=true) (h2:iW (.s b) x=true):a=b:=by
 cases x<;>simp [iW] at h1 h2
 rw [h1,h2]
theorem abO (a b:List UInt8):iW (.s a) (.s b)=decide (a=b):=by
 simp only [iW];rw [oU];simp
theorem zA (a b:List UInt8) (u:GV):∀xs:List GV,eU (.s a) (iH (.s b) u xs)=if a=b then some u else eU (.s a) xs
 | []=>by
   show (if iW (.s a) (.s b)=true then some u else none)=_
   rw [abO];by_cases h:a=b<;>simp [h,eU]
 | .g [x,v]::xs=>by
   have ih:=zA a b u xs;show eU (.s a) (if iW (.s b) x=true then .g [.s b,u]::xs else .g [x,v]::iH (.s b) u xs)=if a=b then some u else (if iW (.s a) x=true then some v else eU (.s a) xs)
   cases hb:iW (.s b) x with
   | true=>
     rw [aj rfl];show (if iW (.s a) (.s b)=true then some u else eU (.s a) xs)=_
     rw [abO];by_cases h:a=b
     ·simp [h]
     ·cases ha:iW (.s a) x with
      | true=>exact absurd (ajX ha hb) h
      | false=>simp [h]
   | false=>
     rw [ah (by simp)];show (if iW (.s a) x=true then some v else eU (.s a) (iH (.s b) u xs))=_
     rw [ih];cases ha:iW (.s a) x with
     | true=>
       by_cases h:a=b
       ·subst h;rw [ha] at hb;cases hb
       ·simp [h]
     | false=>simp
 | .g []::xs=>zA a b u xs
 | .g [_]::xs=>zA a b u xs
 | .g (_::_::_::_)::xs=>zA a b u xs
 | .i _ _::xs=>zA a b u xs
 | .b _::xs=>zA a b u xs
 | .s _::xs=>zA a b u xs
 | .l _::xs=>zA a b u xs
/-- The value of a name. -/
def iK (b:aJ) (n:List UInt8):Int×List UInt8:=match placeOf n with
 | some p=>aK b p
 | none=>(0,[])
def CG (n:List UInt8):Int:=match placeOf n with
 | some p=>bF p
 | none=>0
def ru (b:aJ) (n:List UInt8):GV:=.g [.i .i64 (CG n),.i .u64 (iK b n).1,.s (iK b n).2]
def lH (b:aJ) (xs:List GV) (ns:List (List UInt8)):List GV:=ns.foldl (λm n=>iH (.s n) (ru b n) m) xs
theorem aeN (b:aJ) (a:List UInt8):∀ (ns:List (List UInt8)) (xs:List GV),eU (.s a) (lH b xs ns)=if a∈ns then some (ru b a) else eU (.s a) xs
 | [],xs=>by simp [lH]
 | n::ns,xs=>by
   have ih:=aeN b a ns (iH (.s n) (ru b n) xs);show eU (.s a) (lH b (iH (.s n) (ru b n) xs) ns)=_
   rw [ih,zA];by_cases h:a∈ns
   ·simp [h]
   ·by_cases h2:a=n
    ·subst h2;simp
    ·simp [h,h2]
theorem Yb (b:aJ) (a:List UInt8):eU (.s a) (lH b [] dF)=if placeOf a=none then none else some (ru b a):=by
 rw [aeN];by_cases h:a∈dF
 ·rw [aj h,ah (Ef a h)]
 ·rw [ah h]
  cases hp:placeOf a with
  | none=>rfl
  | some p=>exact absurd (mJ a p hp).2.2 h
theorem apD (b:aJ) (r:List GV) (hb:qM b) (hd:gV b.d=true) (hf:zf b.t) (n:List UInt8) (hn:placeOf n≠none) :
 TT.lim 77 [dU b r,.s n]=some [.g [.i .u64 0,.i .i64 (CG n),.i .u64 (iK b n).1,.s (iK b n).2,.l []],.b true]:=by
 rcases acK b r hb hd hf n with ⟨p,hp,hv⟩ | ⟨hp, -⟩
 ·unfold CG iK
  rw [hp];exact hv
 ·exact absurd hp hn
theorem aeK (b:aJ) (r:GV) (R:List GV) (hr:r=.l R) (hb:qM b) (hd:gV b.d=true) (hf:zf b.t) (ns:List (List UInt8)) (hl:ns.length<=1000) (hns:∀n∈ns,placeOf n≠none):∀ (m i:Nat) (xs:List GV),i+m=ns.length->
 TT.lim 133 ([.l (ns.map .s),.i .i64 ns.length,.i .i64 i,.l xs,.i .i64 b.kind]++dK b++[r])=some [.i .i64 0,.l (lH b xs (ns.drop i))]
 | 0,i,xs,hi=>by
   have h:¬ ((i:Int) < ns.length):=by omega
   have e:ns.drop i=[]:=gY (by omega);rw [e];simp only [lH,List.foldl_nil,dK,dV,bV];refine aG rfl rfl ?_;simp [h]
 | m+1,i,xs,hi=>by
   have hlt:i < ns.length:=by omega
   have h:((i:Int) < ns.length):=by omega
   have hw:=wrap64 (n:=(i:Int)+1) (by omega) (by omega);have hcast:((i+1:Nat):Int)=(i:Int)+1:=by omega
   have hd2:=jw hlt;have hget:(ns.map GV.s)[i]? = some (.s ns[i]):=by rw [iq,bP hlt];rfl
   have hv:=apD b R hb hd hf ns[i] (hns _ (je hlt));have ih:=aeK b r R hr hb hd hf ns hl hns m (i+1) (iH (.s ns[i]) (ru b ns[i]) xs) (by omega);rw [hd2];show _=some [GV.i .i64 0,.l (lH b (iH (.s ns[i]) (ru b ns[i]) xs) (ns.drop (i+1)))]
   rw [hcast] at ih;subst hr;unfold ru at ih ⊢;generalize lH b (iH (.s ns[i]) (.g [.i .i64 (CG ns[i]),.i .u64 (iK b ns[i]).1,.s (iK b ns[i]).2]) xs) (ns.drop (i+1))=O at *;generalize (iK b ns[i]).1=x at *;generalize (iK b ns[i]).2=y at *;generalize CG ns[i]=t at *;generalize ns[i]=n at *;generalize ns.map GV.s=NS at *;generalize (ns.length:Int)=L at *;unfold dU at hv;simp only [dK,dV,bV] at ih ⊢;refine aG rfl rfl ?_;simp -implicitDefEqProofs (maxSteps:=10000000) [↓jy,h,hw,hget,hv,ih]
theorem Ya (b:aJ) (R:List GV) (hb:qM b) (hd:gV b.d=true) (hf:zf b.t):TT.lim 132 (.i .i64 b.kind::(dK b++[.l R]))=some [.i .i64 0,.l (lH b [] dF)]:=by
 have h0:=aeK b (.l R) R rfl hb hd hf dF (by decide) Ef dF.length 0 [] (by omega);rw [eH] at h0;simp only [qO,dK,dV,bV] at h0 ⊢;have hn:=VJ;have hnl:((dF.map GV.s).length:Int)=(dF.length:Int):=by rw [kM]
 generalize lH b [] dF=O at *;generalize dF.map GV.s=NS at *;generalize (dF.length:Int)=L at *;refine aG rfl rfl ?_;simp -implicitDefEqProofs (maxSteps:=10000000) [↓jy,hn,hnl,h0]
def mZ (b c:aJ) (ns:List (List UInt8)):List (List UInt8):=ns.filter λn=>!decide (iK b n=iK c n)
theorem af7 (b c:aJ) (n:List UInt8) (r:List (List UInt8)):mZ b c (n::r)=if iK b n=iK c n then mZ b c r else n::mZ b c r:=by
 unfold mZ;rw [CU];by_cases h:iK b n=iK c n<;>simp [h]
theorem ZK (b c:aJ) (ns:List (List UInt8)):(mZ b c ns).length<=ns.length:=Iz _ _
/-- What isn't the same, by its names. -/
noncomputable def DC (b:aJ) (fb:List aC) (c:aJ) (fc:List aC):List (List UInt8):=
 mZ b c dF++((if b.kind=c.kind then [] else [[107,105,110,100]])++(if oK (fb=fc)=true then [] else [[114,101,115,116]]))
theorem F6 (t:Int) (x x2:Int) (y y2:List UInt8):lS [0,0,1] [.i .i64 t,.i .u64 x,.s y] [.i .i64 t,.i .u64 x2,.s y2]=some (decide (x=x2/\y=y2)):=by
 simp only [lS,if_true,gG,LZ];congr 1;rw [oU];simp
theorem DN (n:List UInt8):(GV.s n).fO 1=true:=rfl
theorem Ti (b c:aJ) (r1 r2:GV) (ns:List (List UInt8)) (hl:ns.length<=1000) (hns:∀n∈ns,placeOf n≠none):∀ (m i:Nat) (acc:List (List UInt8)),i+m=ns.length->acc.length<=i->
 TT.lim 136 ([.l (acc.map .s),.l (ns.map .s),.i .i64 ns.length,.i .i64 i,.l (lH c [] dF),.l (lH b [] dF)]++(.i .i64 c.kind::(dK c++[r1]))++(.i .i64 b.kind::(dK b++[r2])))=some [.i .i64 0,.l ((acc++mZ b c (ns.drop i)).map .s)]
 | 0,i,acc,hi,ha=>by
   have h:¬ ((i:Int) < ns.length):=by omega
   have e:ns.drop i=[]:=gY (by omega);rw [e];simp only [mZ,Rz,kK,dK,dV,bV];generalize acc.map GV.s=A at *;refine aG rfl rfl ?_;simp [h]
 | m+1,i,acc,hi,ha=>by
   have hlt:i < ns.length:=by omega
   have h:((i:Int) < ns.length):=by omega
   have hw:=wrap64 (n:=(i:Int)+1) (by omega) (by omega);have hcast:((i+1:Nat):Int)=(i:Int)+1:=by omega
   have hd2:=jw hlt;have hget:(ns.map GV.s)[i]? = some (.s ns[i]):=by rw [iq,bP hlt];rfl
   have hp:=hns _ (je hlt);have gb:=Yb b ns[i];have gc:=Yb c ns[i];rw [ah hp] at gb gc;unfold ru at gb gc;rw [hd2,af7];have la:(acc.map GV.s).length=acc.length:=kM _;have c1:2 * ((acc.map GV.s).length+1) * 16<=281474976710656/\(acc.map GV.s).length+1<=281474976710656:=by omega
   by_cases hv:iK b ns[i]=iK c ns[i]
   ·rw [aj hv]
    have ih:=Ti b c r1 r2 ns hl hns m (i+1) acc (by omega) (by omega);rw [hcast] at ih;rw [hv] at gb;generalize (acc++mZ b c (ns.drop (i+1))).map GV.s=O at *;generalize lH c [] dF=MC at *;generalize lH b [] dF=MB at *;generalize (iK c ns[i]).1=x at *;generalize (iK c ns[i]).2=y at *;generalize CG ns[i]=t at *;clear hv hd2 hp;generalize ns[i]=n at *;generalize ns.map GV.s=NS at *;generalize (ns.length:Int)=L at *;generalize acc.map GV.s=A at *;simp only [dK,dV,bV] at ih ⊢;refine aG rfl rfl ?_;simp -implicitDefEqProofs (maxSteps:=10000000) [↓jy,h,hw,hget,gb,gc,F6,ih]
   ·rw [ah hv]
    have ih:=Ti b c r1 r2 ns hl hns m (i+1) (acc++[ns[i]]) (by omega) (by rw [dH,xM];omega);have happ:acc++[ns[i]]++mZ b c (ns.drop (i+1))=acc++(ns[i]::mZ b c (ns.drop (i+1))):=by simp
    rw [hcast,happ,sD (l₂:=[ns[i]]),iQ,uD] at ih;have hv2:(((iK b ns[i]).1=(iK c ns[i]).1)/\(iK b ns[i]).2=(iK c ns[i]).2)=False:=eq_false λe=>hv (Prod.ext e.1 e.2);generalize (acc++(ns[i]::mZ b c (ns.drop (i+1)))).map GV.s=O at *;generalize lH c [] dF=MC at *;generalize lH b [] dF=MB at *;clear hv hd2 hp happ;generalize (iK c ns[i]).1=x at *;generalize (iK c ns[i]).2=y at *;generalize (iK b ns[i]).1=x2 at *;generalize (iK b ns[i]).2=y2 at *;generalize CG ns[i]=t at *;generalize ns[i]=n at *;generalize ns.map GV.s=NS at *;generalize (ns.length:Int)=L at *;generalize acc.map GV.s=A at *;simp only [dK,dV,bV] at ih ⊢;refine aG rfl rfl ?_;simp -implicitDefEqProofs (maxSteps:=10000000) [↓jy,h,hw,hget,gb,gc,F6,hv2,DN,c1,ih]
theorem af0 {b c:aJ} {fb fc:List aC} (hb:jE b fb) (hc:jE c fc) (hs:bH fb<=1000000):TT.lim 135 [dU b (aA fb),dU c (aA fc)]=some [.l ((DC b fb c fc).map .s)]:=by
 have v1:=Ya b (aA fb) hb.body hb.d hb.t.few;have v2:=Ya c (aA fc) hc.body hc.d hc.t.few;have h0:=Ti b c (.l (aA fc)) (.l (aA fb)) dF (by decide) Ef dF.length 0 [] (by omega) (by simp);rw [eH,bV,uD] at h0;simp only [qO] at h0;have hn:=VJ;have hnl:((dF.map GV.s).length:Int)=(dF.length:Int):=by rw [kM]
 have hf:=aix fb fc hb.f8 hc.f8 hb.len hc.len hs;have hl:=ZK b c dF;have h22:dF.length=22:=by decide
 have l1:((mZ b c dF).map GV.s).length<=22:=by rw [kM];omega
 have c1:2 * (((mZ b c dF).map GV.s).length+1) * 16<=281474976710656/\((mZ b c dF).map GV.s).length+1<=281474976710656:=by omega
 have c2:2 * (((mZ b c dF).map GV.s).length+1+1) * 16<=281474976710656/\((mZ b c dF).map GV.s).length+1+1<=281474976710656:=by
  clear c1 hnl hf h0 hn hl h22;generalize ((mZ b c dF).map GV.s).length=N at *;omega
 unfold DC;rw [sD,sD];generalize lH c [] dF=MC at *;generalize lH b [] dF=MB at *;generalize (mZ b c dF).map GV.s=O at *;generalize dF.map GV.s=NS at *;generalize (dF.length:Int)=L at *;generalize oK (fb=fc)=B at *;generalize aA fb=r1 at *;generalize aA fc=r2 at *;clear hl h22 l1 hb hc hs;unfold dU;simp only [dK,dV,bV] at v1 v2 h0;by_cases hk:b.kind=c.kind
 ·rw [aj hk]
  rw [hk] at v1 h0 ⊢;cases B with
  | true=>
    refine bD rfl rfl ?_ rfl;simp -implicitDefEqProofs (maxSteps:=10000000) [↓jy,v1,v2,hn,hnl,h0,hf,DN,c1]
  | false=>
    refine bD rfl rfl ?_ rfl;simp -implicitDefEqProofs (maxSteps:=10000000) [↓jy,v1,v2,hn,hnl,h0,hf,DN,c1]
 ·rw [ah hk]
  have hk:(b.kind=c.kind)=False:=eq_false hk;cases B with
  | true=>
    refine bD rfl rfl ?_ rfl;simp -implicitDefEqProofs (maxSteps:=10000000) [↓jy,v1,v2,hn,hnl,h0,hf,hk,DN,c1]
  | false=>
    refine bD rfl rfl ?_ rfl;simp -implicitDefEqProofs (maxSteps:=10000000) [↓jy,v1,v2,hn,hnl,h0,hf,hk,DN,c1,c2]
def oH (b:aJ):Pl->aJ
 | .rem=>{ b with remaining:=0 }
 | .allow=>{ b with allowed:=false }
 | .name=>{ b with name:=[] }
 | .region=>{ b with region:=[] }
 | .note=>{ b with note:=[] }
 | .d=>{ b with d:=[] }
 | .t=>{ b with t:=[] }
 | .num k=>setB b 0 [] (.num k)
theorem ZP (b:aJ) (p:Pl):(oH b p).kind=b.kind:=by
 cases p with
 | num k=>exact Lc b 0 [] (.num k)
 | _=>rfl
/-- What is put, or why not. -/
def dQ (o:aJ):aJ->List (List UInt8)->aJ×Int
 | b,[]=>(b,0)
 | b,n::r=>match placeOf n with
   | none=>(bM,26)
   | some p=>if aK o p=(0,[]) then dQ o (oH b p) r else if iJ (bF p) (aK o p).1 (aK o p).2 p=0 then dQ o (setB b (aK o p).1 (aK o p).2 p) r else (bM,iJ (bF p) (aK o p).1 (aK o p).2 p)
theorem ZQ {b:aJ} {fl:List aC} (h:jE b fl) (p:Pl) (hk:nJ p):jE (oH b p) fl:=by
 obtain ⟨hb,hd,ht,hf,hl⟩:=h;cases hb;cases p with
 | num k=>
   simp only [nJ] at hk;rcases (show k=0\/k=1\/k=2\/k=3\/k=4\/k=5\/k=6\/k=7\/k=8\/k=9\/k=10\/k=11\/k=12\/k=13\/k=14 by omega) with rfl | rfl | rfl | rfl | rfl | rfl | rfl | rfl | rfl | rfl | rfl | rfl | rfl | rfl | rfl
   all_goals
    simp only [oH,setB];exact ⟨by constructor<;>first | assumption | simp,hd,ht,hf,hl⟩
 | d=>exact ⟨by constructor<;>first | assumption | simp [oH,rZ],by simp [oH,gV],ht,hf,hl⟩
 | t=>exact ⟨by constructor<;>first | assumption | simp [oH,Rows],hd,LU.t,hf,hl⟩
 | _=>exact ⟨by constructor<;>first | assumption | simp [oH],hd,ht,hf,hl⟩
set_option maxHeartbeats 4000000 in
theorem amy {n:List UInt8} {p:Pl} (hp:placeOf n=some p) (hk:nJ p) (b:aJ) (NS MP r OUT:List GV) (L ty:Int) (i:Nat) (h:(i:Int) < L) (hw:IntKind.i64.wrap ((i:Int)+1)=(i:Int)+1) (hget:NS[i]? = some (.s n)) (gv:eU (.s n) MP=some (.g [.i .i64 ty,.i .u64 0,.s []]))
 (ih:TT.lim 134 ([.l NS,.i .i64 L,.i .i64 ((i:Int)+1),.l MP,.i .i64 b.kind]++dK (oH b p)++[.l r])=some OUT):TT.lim 134 ([.l NS,.i .i64 L,.i .i64 (i:Int),.l MP,.i .i64 b.kind]++dK b++[.l r])=some OUT:=by
 have hI:=JQ hp;clear hp;cases p with
 | num k=>
   simp only [nJ] at hk;rcases (show k=0\/k=1\/k=2\/k=3\/k=4\/k=5\/k=6\/k=7\/k=8\/k=9\/k=10\/k=11\/k=12\/k=13\/k=14 by omega) with rfl | rfl | rfl | rfl | rfl | rfl | rfl | rfl | rfl | rfl | rfl | rfl | rfl | rfl | rfl
   all_goals
    simp only [oH,setB,dK,dV,bV] at ih ⊢;refine aG rfl rfl ?_;simp -implicitDefEqProofs (maxSteps:=10000000) [↓jy,h,hw,hget,gv,F6,hI,ih]
 | _=>
   simp only [oH,dK,dV,bV,uD] at ih ⊢;refine aG rfl rfl ?_;simp -implicitDefEqProofs (maxSteps:=10000000) [↓jy,h,hw,hget,gv,F6,hI,ih]
set_option maxHeartbeats 4000000 in
theorem aac {o:aJ} {fo fl:List aC} (ho:jE o fo) (hso:Short o) (hsz:bH fl<=1000000) (ns:List (List UInt8)) (hl:ns.length<=1000):∀ (m i:Nat) (b:aJ),i+m=ns.length->jE b fl->
 TT.lim 134 ([.l (ns.map .s),.i .i64 ns.length,.i .i64 i,.l (lH o [] dF),.i .i64 b.kind]++dK b++[.l (aA fl)])=some (if (dQ o b (ns.drop i)).2=0 then .i .i64 1::.i .i64 (dQ o b (ns.drop i)).1.kind::(dK (dQ o b (ns.drop i)).1++[.l (aA fl)]) else [.i .i64 0,.i .i64 (dQ o b (ns.drop i)).2])
 | 0,i,b,hi,hb=>by
   have h:¬ ((i:Int) < ns.length):=by omega
   have e:ns.drop i=[]:=gY (by omega);rw [e];simp only [dQ,if_true,dK,dV,bV];refine aG rfl rfl ?_;simp [h]
 | m+1,i,b,hi,hb=>by
   have hlt:i < ns.length:=by omega
   have h:((i:Int) < ns.length):=by omega
   have hw:=wrap64 (n:=(i:Int)+1) (by omega) (by omega);have hcast:((i+1:Nat):Int)=(i:Int)+1:=by omega
   have hd2:=jw hlt;have hget:(ns.map GV.s)[i]? = some (.s ns[i]):=by rw [iq,bP hlt];rfl
   rw [hd2];have gv:=Yb o ns[i];have ih:=λb hb=>aac ho hso hsz ns hl m (i+1) b (by omega) hb;simp only [hcast] at ih;cases hp:placeOf ns[i] with
   | none=>
     rw [aj hp] at gv;simp only [dQ,hp];rw [ah (by decide)];generalize lH o [] dF=MP at *;generalize ns.map GV.s=NS at *;generalize (ns.length:Int)=L at *;generalize ns[i]=n at *;simp only [dK,dV,bV];clear ih;refine aG rfl rfl ?_;simp -implicitDefEqProofs (maxSteps:=10000000) [↓jy,h,hw,hget,gv]
   | some p=>
     rw [ah (by rw [hp];simp)] at gv;unfold ru CG iK at gv;rw [hp] at gv;simp only [dQ,hp] at gv ⊢;obtain ⟨e,hk, -⟩:=mJ ns[i] p hp;obtain ⟨v1,v2⟩:=LK ho hso p;have hwt:=akR b fl (Uc hb.d) hb.t hsz 0 (bF p) (aK o p).1 (aK o p).2 v1 v2 ns[i];unfold LP at hwt;rw [hp] at hwt;simp only at hwt;unfold Rj at hwt;by_cases hz:aK o p=(0,[])
     ·rw [aj hz]
      have ih:=ih (oH b p) (ZQ hb p hk);rw [ZP] at ih;rw [hz] at gv;exact amy hp hk b _ _ _ _ _ _ i h hw hget gv ih
     ·rw [ah hz]
      have hz2:((aK o p).1=0/\(aK o p).2=[])=False:=eq_false λe=>hz (Prod.ext e.1 e.2);by_cases hc:iJ (bF p) (aK o p).1 (aK o p).2 p=0
      ·rw [aj hc] at hwt ⊢
       obtain ⟨q1,q2,q3⟩:=Qu hb.body hb.d hb.t v1 v2 hc;have ih:=ih (setB b (aK o p).1 (aK o p).2 p) ⟨q1,q2,q3,hb.f8,hb.len⟩;rw [Lc] at ih;have hk2:=Lc b (aK o p).1 (aK o p).2 p;generalize dQ o (setB b (aK o p).1 (aK o p).2 p) (ns.drop (i+1))=R at *;generalize setB b (aK o p).1 (aK o p).2 p=B at *;generalize lH o [] dF=MP at *;generalize ns.map GV.s=NS at *;generalize (ns.length:Int)=L at *;clear hz hd2 hp v1 v2 q1 q2 q3 hc e;generalize (aK o p).1=x at *;generalize (aK o p).2=y at *;generalize ns[i]=n at *;generalize bF p=ty at *;generalize aA fl=r at *;generalize (if R.2=0 then GV.i .i64 1::.i .i64 R.1.kind::(dK R.1++[.l r]) else [.i .i64 0,.i .i64 R.2])=OUT at *;unfold dU at hwt;rw [hk2] at hwt;simp only [dK,dV,bV] at ih ⊢;refine aG rfl rfl ?_;simp -implicitDefEqProofs (maxSteps:=10000000) [↓jy,h,hw,hget,gv,F6,hz2,hwt,ih]
      ·rw [ah hc] at hwt ⊢
       simp only;rw [ah hc];clear ih;generalize iJ (bF p) (aK o p).1 (aK o p).2 p=er at *;generalize lH o [] dF=MP at *;generalize ns.map GV.s=NS at *;generalize (ns.length:Int)=L at *;clear hz hd2 hp v1 v2 e;generalize (aK o p).1=x at *;generalize (aK o p).2=y at *;generalize ns[i]=n at *;generalize bF p=ty at *;generalize aA fl=r at *;unfold dU at hwt;simp only [dK,dV,bV];refine aG rfl rfl ?_;simp -implicitDefEqProofs (maxSteps:=10000000) [↓jy,h,hw,hget,gv,F6,hz2,hwt,hc]
theorem amz {o b:aJ} {fo fl:List aC} (ho:jE o fo) (hso:Short o) (hb:jE b fl) (hsz:bH fl<=1000000) (ns:List (List UInt8)) (hl:ns.length<=1000) :
 TT.lim 131 [dU b (aA fl),dU o (aA fo),.l (ns.map .s)]=some (if (dQ o b ns).2=0 then [dU (dQ o b ns).1 (aA fl),.i .i64 0] else [dU bM [],.i .i64 (dQ o b ns).2]):=by
 have v1:=Ya o (aA fo) ho.body ho.d ho.t.few;have kc:=acD b fl (Uc hb.d) hb.t hsz;have h0:=aac ho hso hsz ns hl ns.length 0 b (by omega) hb;rw [eH] at h0;simp only [qO] at h0;have hnl:((ns.map GV.s).length:Int)=(ns.length:Int):=by rw [kM]
 have hz:GV.g [.i .i64 0,.i .u64 0,.i .u64 0,.i .u64 0,.i .u64 0,.i .u64 0,.i .u64 0,.i .u64 0,.i .u64 0,.i .u64 0,.i .u64 0,.i .u64 0,.i .u64 0,.i .u64 0,.i .u64 0,.i .u64 0,.i .i64 0,.b false,.s [],.s [],.s [],.l [],.l [],.l []]=dU bM []:=rfl;generalize lH o [] dF=MP at *;generalize dQ o b ns=R at *;generalize ns.map GV.s=NS at *;generalize (ns.length:Int)=L at *;generalize aA fo=r2 at *;generalize aA fl=r at *;clear ho hso hb hsz hl;by_cases e:R.2=0
 ·rw [aj e] at h0 ⊢
  unfold dU at kc ⊢;simp only [dK,dV,bV] at v1 h0;refine bD rfl rfl ?_ rfl;simp -implicitDefEqProofs (maxSteps:=10000000) [↓jy,v1,kc,hnl,h0]
 ·rw [ah e] at h0 ⊢
  rw [<- hz];unfold dU at kc ⊢;simp only [dK,dV,bV] at v1 h0;refine bD rfl rfl ?_ rfl;simp -implicitDefEqProofs (maxSteps:=10000000) [↓jy,v1,kc,hnl,h0]
theorem Qk {o:aJ} {fo fl:List aC} (ho:jE o fo) (hso:Short o):∀ (ns:List (List UInt8)) (b:aJ),jE b fl->(dQ o b ns).2=0->jE (dQ o b ns).1 fl
 | [],b,hb,_=>hb
 | n::r,b,hb,h=>by
   unfold dQ at h ⊢;cases hp:placeOf n with
   | none=>rw [hp] at h;exact absurd h (by simp)
   | some p=>
     rw [hp] at h;simp only at h ⊢;by_cases hz:aK o p=(0,[])
     ·rw [aj hz] at h ⊢
      exact Qk ho hso r _ (ZQ hb p (mJ n p hp).2.1) h
     ·rw [ah hz] at h ⊢
      by_cases hc:iJ (bF p) (aK o p).1 (aK o p).2 p=0
      ·rw [aj hc] at h ⊢
       obtain ⟨v1,v2⟩:=LK ho hso p;obtain ⟨q1,q2,q3⟩:=Qu hb.body hb.d hb.t v1 v2 hc;exact Qk ho hso r _ ⟨q1,q2,q3,hb.f8,hb.len⟩ h
      ·rw [ah hc] at h
       exact absurd h hc
theorem Wp {b c:aJ} {q:Pl} (h:fD b c q):fD c b q:=by cases q<;>exact Eq.symm h
theorem alv {b c:aJ} {q:Pl} (h:fD b c q):fB b q=fB c q:=by
 cases q<;>simp only [fD] at h<;>simp only [fB,h]
theorem adT (b c:aJ) (n:Int) (s:List UInt8) (p:Pl):fD (setB b n s p) (setB c n s p) p:=by
 cases p with
 | num k=>rcases k with _ | _ | _ | _ | _ | _ | _ | _ | _ | _ | _ | _ | _ | _ | k<;>rfl
 | _=>rfl
theorem aov (b:aJ) (n:Int) (s:List UInt8) (j k:Nat) (hk:k < 15) (hj:j < 15) (hne:j≠k):jG (setB b n s (.num k)) j=jG b j:=by
 rcases k with _ | _ | _ | _ | _ | _ | _ | _ | _ | _ | _ | _ | _ | _ | _ | k
 all_goals first | (exfalso;omega) | skip
 all_goals (rcases j with _ | _ | _ | _ | _ | _ | _ | _ | _ | _ | _ | _ | _ | _ | _ | j)<;>first | rfl | exact absurd rfl hne | (exfalso;omega)
theorem adU (b d:aJ) (n:Int) (s:List UInt8) (p q:Pl) (hp:nJ p) (hq:nJ q) (hne:q≠p):fD (setB b n s p) d q↔fD b d q:=by
 cases p with
 | num k=>
   cases q with
   | num j=>
     show jG (setB b n s (.num k)) j=jG d j↔jG b j=jG d j
     rw [aov b n s j k hp hq (λe=>hne (by rw [e]))]
   | _=>unfold setB;split<;>rename_i hk<;>cases hk<;>(split<;>exact zh)
 | _=>
   cases q with
   | num j=>exact zh
   | _=>first | exact zh | exact absurd rfl hne
theorem agk (b c:aJ) (p:Pl):fD (oH b p) (oH c p) p:=by
 cases p with
 | num k=>exact adT b c 0 [] (.num k)
 | _=>rfl
theorem agl (b d:aJ) (p q:Pl) (hp:nJ p) (hq:nJ q) (hne:q≠p):fD (oH b p) d q↔fD b d q:=by
 cases p with
 | num k=>exact adU b d 0 [] (.num k) q hp hq hne
 | _=>
   cases q with
   | num j=>exact zh
   | _=>first | exact zh | exact absurd rfl hne
theorem aow {o b:aJ} (ho:Short o) (hb:Short b) (p:Pl):Short (setB b (aK o p).1 (aK o p).2 p):=by
 cases p with
 | num k=>rcases k with _ | _ | _ | _ | _ | _ | _ | _ | _ | _ | _ | _ | _ | _ | k<;>exact hb
 | name=>exact ⟨ho.1,hb.2⟩
 | region=>exact ⟨hb.1,ho.2.1,hb.2.2⟩
 | note=>exact ⟨hb.1,hb.2.1,ho.2.2⟩
 | _=>exact hb
theorem agm {b:aJ} (hb:Short b) (p:Pl):Short (oH b p):=by
 have z:([]:List UInt8).length<=600:=by decide
 cases p with
 | num k=>rcases k with _ | _ | _ | _ | _ | _ | _ | _ | _ | _ | _ | _ | _ | _ | k<;>exact hb
 | name=>exact ⟨z,hb.2⟩
 | region=>exact ⟨hb.1,z,hb.2.2⟩
 | note=>exact ⟨hb.1,hb.2.1,z⟩
 | _=>exact hb
/-- One name is put: the same for all messages. -/
theorem amA (o:aJ) (ho:Short o) (n:List UInt8) (r:List (List UInt8)):(∃ (p:Pl) (X:aJ->aJ),placeOf n=some p/\(∀b c,fD (X b) (X c) p)/\(∀b d q,nJ q->q≠p->(fD (X b) d q↔fD b d q))/\(∀b,(X b).kind=b.kind)/\(∀b,Short b->Short (X b))/\∀b,dQ o b (n::r)=dQ o (X b) r)\/∃e:Int,e≠0/\∀b,dQ o b (n::r)=(bM,e):=by
 cases hp:placeOf n with
 | none=>exact .inr ⟨26,by decide,λb=>by unfold dQ;rw [hp]⟩
 | some p=>
   have hk:=(mJ n p hp).2.1;by_cases hz:aK o p=(0,[])
   ·exact .inl ⟨p,λb=>oH b p,rfl,λb c=>agk b c p,λb d q hq hne=>agl b d p q hk hq hne,λb=>ZP b p,λb hb=>agm hb p,λb=>by
     rw [dQ,hp];simp only;rw [aj hz]⟩
   ·by_cases hc:iJ (bF p) (aK o p).1 (aK o p).2 p=0
    ·exact .inl ⟨p,λb=>setB b (aK o p).1 (aK o p).2 p,rfl,λb c=>adT b c _ _ p,λb d q hq hne=>adU b d _ _ p q hk hq hne,λb=>Lc b _ _ p,λb hb=>aow ho hb p,λb=>by
      rw [dQ,hp];simp only;rw [ah hz,aj hc]⟩
    ·exact .inr ⟨_,hc,λb=>by rw [dQ,hp];simp only;rw [ah hz,ah hc]⟩
theorem Ew {o:aJ} (ho:Short o):∀ (ns:List (List UInt8)) (b c:aJ),(dQ o b ns).2=(dQ o c ns).2/\((dQ o b ns).2=0->(dQ o b ns).1.kind=b.kind/\(Short b->Short (dQ o b ns).1)/\
 (∀q,nJ q->(fD b c q\/∃n∈ns,placeOf n=some q)->fD (dQ o b ns).1 (dQ o c ns).1 q)/\(∀d q,nJ q->(∀n∈ns,placeOf n≠some q)->(fD (dQ o b ns).1 d q↔fD b d q)))
 | [],b,c=>by
   refine ⟨rfl,λ_=>⟨rfl,λh=>h,λq _ h=>?_,λd q _ _=>zh⟩⟩;rcases h with h | ⟨n,hn, -⟩
   ·exact h
   ·cases hn
 | n::r,b,c=>by
   rcases amA o ho n r with ⟨p,X,hp,x1,x2,x3,x4,x5⟩ | ⟨e,e0,x⟩
   ·rw [x5 b,x5 c]
    obtain ⟨i1,i2⟩:=Ew ho r (X b) (X c);refine ⟨i1,λh=>?_⟩;obtain ⟨j1,j2,j3,j4⟩:=i2 h;refine ⟨by rw [j1,x3],λh=>j2 (x4 _ h),λq hq hh=>?_,λd q hq hn=>?_⟩
    ·refine j3 q hq ?_
     by_cases e:q=p
     ·rw [e];exact .inl (x1 b c)
     ·rcases hh with hh | ⟨m,hm,em⟩
      ·exact .inl ((x2 b _ q hq e).2 (Wp ((x2 c _ q hq e).2 (Wp hh))))
      ·rcases bU.1 hm with rfl | hm
       ·rw [hp] at em;injection em with em;exact absurd em.symm e
       ·exact .inr ⟨m,hm,em⟩
    ·have e:q≠p:=λe=>hn n (by simp) (by rw [hp,e])
     exact (j4 d q hq λm hm=>hn m (by simp [hm])).trans (x2 b d q hq e)
   ·rw [x b,x c]
    exact ⟨rfl,λh=>absurd h e0⟩
theorem ZJ {b:aJ} {fl:List aC} {v:Int} (h:eY b fl v=0):(∀n∈dF,∀q,placeOf n=some q->jA (aB b.kind v) n=false->fB b q=true)/\(∀s∈aB b.kind v,∀q,placeOf s.name=some q->jo b q=0)/\qZ b=0/\EC (aB b.kind v) fl=0:=by
 unfold eY at h;by_cases h1:v < 1
 ·rw [aj h1] at h;exact absurd h (by decide)
 rw [ah h1] at h;by_cases h2:3 < v
 ·rw [aj h2] at h;exact absurd h (by decide)
 rw [ah h2] at h;by_cases h3:aB b.kind v=[]
 ·rw [aj h3] at h;exact absurd h (by decide)
 rw [ah h3] at h;by_cases h4:dF.all (λn=>jA (aB b.kind v) n || lF b n)=false
 ·rw [aj h4] at h;exact absurd h (by decide)
 rw [ah h4] at h;by_cases h5:lD b (aB b.kind v)≠0
 ·rw [aj h5] at h;exact absurd h h5
 rw [ah h5] at h;by_cases h6:qZ b≠0
 ·rw [aj h6] at h;exact absurd h h6
 rw [ah h6] at h;refine ⟨λn hn q hq hx=>?_,λs hs q hq=>?_,by simpa using h6,h⟩
 ·rw [L6] at h4
  have:=List.all_eq_true.1 h4 n hn;rw [hx,uy] at this;unfold lF at this;rw [hq] at this;exact this
 ·have:=PO b _ (by simpa using h5) s hs
  unfold tX at this;rw [hq] at this;exact this
theorem JE {l:List bJ} {n:List UInt8}:jA l n=true↔∃s∈l,s.name=n:=by
 unfold jA;rw [List.any_eq_true];exact ⟨λ⟨s,h,e⟩=>⟨s,h,yG e⟩,λ⟨s,h,e⟩=>⟨s,h,Bl e⟩⟩
theorem aj3 {k u:Int} {s t:bJ} (hs:s∈aB k u) (ht:t∈aB k u) (e:s.name=t.name):s.from_=t.from_:=by
 have key:∀s∈kU k,∀t∈kU k,s.name=t.name->s.from_=t.from_:=by
  unfold kU;repeat' split
  all_goals first | (unfold sp1;decide) | (unfold sp2;decide) | (unfold pY;decide) | (unfold yO;decide) | (unfold qg;decide) | (unfold qh;decide) | (unfold yP;decide) | (unfold yQ;decide) | (intro s hs;cases hs)
 exact key s (lY.1 hs).1 t (lY.1 ht).1 e
theorem ac0 {b:aJ} {fl:List aC} {u w:Int} (hc:eY b fl u=0) (h:w<=u):(fH (aB b.kind w) (fE b fl u)).Perm (gu b ((aB b.kind u).filter λs=>!decide (s.from_<=w))++fl)/\(fH (aB b.kind w) (fE b fl u)).Pairwise (λx y=>x.tag < y.tag):=by
 obtain ⟨mp,ms⟩:=zY (A8 hc);have hp:=mp.filter (λf=>!hasTag (aB b.kind w) f.tag);rw [Ry] at hp;have e1:fl.filter (λf=>!hasTag (aB b.kind w) f.tag)=fl:=List.filter_eq_self.2 λf hf=>by rw [adK hc h f hf];rfl
 have e2:=Va b (λt=>!hasTag (aB b.kind w) t) (λs=>!decide (s.from_<=w)) (aB b.kind u) (λs hs=>by
  rw [D9 b.kind h,abh (zV b.kind u).1 _ hs])
 rw [e1,e2] at hp;exact ⟨hp,ms.sublist Me⟩
/-- What an elder version's message with some values put tells: the message with these values put. -/
theorem amw {o b:aJ} {fl:List aC} {u w:Int} (ho:Short o) (hc:eY b fl u=0) (h1:1<=w) (h:w<=u) (hf:iV b.kind<=w) {ns:List (List UInt8)} (hns:∀n∈ns,jA (aB b.kind w) n=true)
 (he:(dQ o (fJ b { bM with kind:=b.kind } (aB b.kind w)) ns).2=0) (hB:eY (dQ o (fJ b { bM with kind:=b.kind } (aB b.kind w)) ns).1 (fH (aB b.kind w) (fE b fl u)) w=0) :
 (dQ o b ns).2=0/\(dQ o b ns).1.kind=b.kind/\eY (dQ o b ns).1 fl u=0/\bytesV (dQ o (fJ b { bM with kind:=b.kind } (aB b.kind w)) ns).1 (fH (aB b.kind w) (fE b fl u)) w=bytesV (dQ o b ns).1 fl u:=by
 have hka:(fJ b { bM with kind:=b.kind } (aB b.kind w)).kind=b.kind:=yL b _ _;obtain ⟨hp1,hp2⟩:=Hz hc h;obtain ⟨p1,p2⟩:=Ew ho ns (fJ b { bM with kind:=b.kind } (aB b.kind w)) b;obtain ⟨p3, -,p4, -⟩:=p2 he;have hW:(dQ o b ns).2=0:=by rw [<- p1];exact he
 obtain ⟨p5, -, -,p6⟩:=(Ew ho ns b b).2 hW;have K1:∀s∈aB b.kind w,∀q,placeOf s.name=some q->fD (dQ o (fJ b { bM with kind:=b.kind } (aB b.kind w)) ns).1 (dQ o b ns).1 q:=λs hs q e=>p4 q (mJ _ q e).2.1 (.inl (hp1 s hs q e).1);have K2:∀n q,placeOf n=some q->jA (aB b.kind w) n=false->fD (dQ o b ns).1 b q:=λn q e hn=>(p6 b q (mJ _ q e).2.1 λm hm em=>by
  have:=hns m hm;rw [Qc em e,hn] at this;cases this).2 (Qa b q)
 rw [hka] at p3;generalize fJ b { bM with kind:=b.kind } (aB b.kind w)=A at *;generalize hBB:(dQ o A ns).1=B at *;generalize hWW:(dQ o b ns).1=W at *;obtain ⟨-,b2,b3, -⟩:=ZJ hB;obtain ⟨c1,c2, -,c4⟩:=ZJ hc;obtain ⟨u1,u3,yT, -, -⟩:=yh hc;rw [p3] at b2;have hbd:qZ W=0:=by
  have K1':∀s∈aB B.kind w,∀q,placeOf s.name=some q->fD W B q:=by
   rw [p3];exact λs hs q e=>Wp (K1 s hs q e)
  rw [Zm (by rw [p5,p3]) h1 (by rw [p3];exact hf) K1',b3]
 have hall:dF.all (λn=>jA (aB b.kind u) n || lF W n)=true:=List.all_eq_true.2 λn hn=>by
  cases hx:jA (aB b.kind u) n with
  | true=>rfl
  | false=>
    have hx':jA (aB b.kind w) n=false:=by
     cases hy:jA (aB b.kind w) n with
     | false=>rfl
     | true=>
       obtain ⟨s,hs,e⟩:=JE.1 hy;rw [D9 b.kind h] at hs;rw [JE.2 ⟨s,(lY.1 hs).1,e⟩] at hx;cases hx
    unfold lF;cases hq:placeOf n with
    | none=>exact absurd hq (Ef n hn)
    | some q=>
      simp only [uy];rw [alv (K2 n q hq hx')];exact c1 n hn q hq hx
 have hml:lD W (aB b.kind u)=0:=VE _ _ λs hs=>by
  unfold tX;cases hq:placeOf s.name with
  | none=>rfl
  | some q=>
    simp only;cases hx:jA (aB b.kind w) s.name with
    | true=>
      obtain ⟨s',hs',e⟩:=JE.1 hx;have hq':placeOf s'.name=some q:=by rw [e];exact hq
      rw [<- Wn (K1 s' hs' q hq')];exact b2 s' hs' q hq'
    | false=>
      rw [Wn (K2 _ q hq hx)];exact c2 s hs q hq
 have hcW:eY W fl u=0:=by
  unfold eY;rw [p5,ah (by omega),ah (by omega),ah yT,hall,ah (by decide),ah (λx=>x hml),ah (λx=>x hbd)];exact c4
 refine ⟨hW,p5,hcW, ?_⟩;have kv:gu B (aB b.kind w)=gu W (aB b.kind w):=Vd K1;obtain ⟨o1,o2⟩:=ac0 hc h;obtain ⟨o3,o4⟩:=ac0 hcW h;rw [p5] at o3 o4;have kv2:gu W ((aB b.kind u).filter λs=>!decide (s.from_<=w))=gu b ((aB b.kind u).filter λs=>!decide (s.from_<=w)):=Vd λs hs q e=>by
  obtain ⟨m1,m2⟩:=lY.1 hs;refine K2 _ q e ?_;cases hx:jA (aB b.kind w) s.name with
  | false=>rfl
  | true=>
    obtain ⟨s',hs',e'⟩:=JE.1 hx;rw [D9 b.kind h] at hs';obtain ⟨n1,n2⟩:=lY.1 hs';rw [aj3 n1 m1 e'] at n2;rw [n2] at m2;cases m2
 rw [kv2] at o3;have e3:fH (aB b.kind w) (fE b fl u)=fH (aB b.kind w) (fE W fl u):=H9 _ _ (o1.trans o3.symm) (o2.imp λh=>by omega) o4;have e4:=acI hcW h;rw [p5,<- e3,<- kv] at e4;unfold bytesV;rw [p3,p5];have e5:fE B (fH (aB b.kind w) (fE b fl u)) w=oL (gu B (aB B.kind w)) (fH (aB b.kind w) (fE b fl u)):=rfl;rw [e5,p3,e4]
theorem abz (n:List UInt8) (ks:List (List UInt8)) (hl:ks.length<=1000):∀ (m i:Nat),i+m=ks.length->
 (n∈ks.drop i->∃j:Nat,TT.lim 130 [.l (ks.map .s),.s n,.i .i64 ks.length,.i .i64 i]=some [.i .i64 0,.i .i64 j])/\
 (n∉ks.drop i->TT.lim 130 [.l (ks.map .s),.s n,.i .i64 ks.length,.i .i64 i]=some [.i .i64 1])
 | 0,i,hi=>by
   have h:¬ ((i:Int) < ks.length):=by omega
   have e:ks.drop i=[]:=gY (by omega);rw [e];refine ⟨λh=>by (cases h),λ_=>?_⟩;refine aG rfl rfl ?_;simp [h]
 | m+1,i,hi=>by
   have hlt:i < ks.length:=by omega
   have h:((i:Int) < ks.length):=by omega
   have hw:=wrap64 (n:=(i:Int)+1) (by omega) (by omega);have hcast:((i+1:Nat):Int)=(i:Int)+1:=by omega
   have hd2:=jw hlt;have hget:(ks.map GV.s)[i]? = some (.s ks[i]):=by rw [iq,bP hlt];rfl
   obtain ⟨ih1,ih2⟩:=abz n ks hl m (i+1) (by omega);rw [hcast] at ih1 ih2;rw [hd2];by_cases e:n=ks[i]
   ·refine ⟨λ_=>⟨i, ?_⟩,λh=>absurd (bU.2 (.inl e)) h⟩
    rw [<- e] at hget;clear ih1 ih2 hd2 e;generalize ks.map GV.s=NS at *;generalize (ks.length:Int)=L at *;refine aG rfl rfl ?_;simp [h,hw,hget]
   ·have e':(n=ks[i])=False:=eq_false e
    refine ⟨λhm=>?_,λhm=>?_⟩
    ·obtain ⟨j,hj⟩:=ih1 (by
      rcases bU.1 hm with h | h
      ·exact absurd h e
      ·exact h)
     clear ih1 ih2 hd2 e hm;generalize ks.map GV.s=NS at *;generalize (ks.length:Int)=L at *;refine ⟨j,aG rfl rfl ?_⟩;simp [h,hw,hget,e',hj]
    ·have hj:=ih2 λh=>hm (wI _ h)
     clear ih1 ih2 hd2 e hm;generalize ks.map GV.s=NS at *;generalize (ks.length:Int)=L at *;refine aG rfl rfl ?_;simp [h,hw,hget,e',hj]
theorem abg (n:List UInt8) (ks:List (List UInt8)) (hl:ks.length<=1000):TT.lim 128 [.l (ks.map .s),.s n]=some [.b (decide (n∈ks))]:=by
 have hnl:((ks.map GV.s).length:Int)=(ks.length:Int):=by rw [kM]
 obtain ⟨h1,h2⟩:=abz n ks hl ks.length 0 (by omega);rw [eH] at h1 h2;simp only [qO] at h1 h2;by_cases e:n∈ks
 ·obtain ⟨j,hj⟩:=h1 e
  have k:TT.lim 129 [.l (ks.map .s),.s n]=some [.i .i64 (j:Int)]:=by
   generalize ks.map GV.s=NS at *;generalize (ks.length:Int)=L at *;refine bD rfl rfl ?_ rfl;simp [hnl,hj]
  have h0:(0:Int)<=(j:Int):=by omega
  rw [Bl e];generalize ks.map GV.s=NS at *;refine bD rfl rfl ?_ rfl;simp [k,h0]
 ·have hj:=h2 e
  have k:TT.lim 129 [.l (ks.map .s),.s n]=some [.i .i64 (-1)]:=by
   generalize ks.map GV.s=NS at *;generalize (ks.length:Int)=L at *;refine bD rfl rfl ?_ rfl;simp [hnl,hj]
  rw [DK e];generalize ks.map GV.s=NS at *;refine bD rfl rfl ?_ rfl;simp [k]
theorem aoJ {l:List bJ} {i:Nat} (h:i < l.length):(l.map dG)[i]? = some (dG l[i]):=by rw [iq,bP h];rfl
theorem aqa {n:Int} (h:0<=n):zz (xI n)=n:=by
 unfold zz xI;split<;>split<;>omega
/-- What is set is the value. -/
theorem apG {b:aJ} {y n:Int} {s:List UInt8} {p:Pl} (hp:nJ p) (hn:0<=n) (hs:s.length<=100000000) (h:iJ y n s p=0):y=bF p/\aK (setB b n s p) p=(if bF p=0 then (n,[]) else (0,s))/\¬ ((aK (setB b n s p) p).1=0/\(aK (setB b n s p) p).2=[]):=by
 unfold iJ at h;by_cases h1:y=bF p;rotate_left
 ·rw [ah h1] at h;exact absurd h (by decide)
 rw [aj h1] at h;refine ⟨h1, ?_⟩;suffices hv:aK (setB b n s p) p=(if bF p=0 then (n,[]) else (0,s)) by
  refine ⟨hv, ?_⟩;rw [hv];by_cases h2:y=0
  ·rw [aj h2] at h
   rw [aj (by rw [<- h1];exact h2)];by_cases h3:n=0
   ·rw [aj h3] at h;exact absurd h (by decide)
   ·exact λe=>h3 e.1
  ·rw [ah h2] at h
   rw [ah (by rw [<- h1];exact h2)];by_cases h3:s=[]
   ·rw [aj h3] at h;exact absurd h (by decide)
   ·exact λe=>h3 e.2
 cases p with
 | num k=>rcases k with _ | _ | _ | _ | _ | _ | _ | _ | _ | _ | _ | _ | _ | _ | k<;>rfl
 | rem=>simp only [setB,aK,bF,if_true,aqa hn]
 | allow=>
   simp only [bF] at h1;rw [aj h1] at h;have h2:n=1:=by
    by_cases h3:n=0
    ·rw [aj h3] at h;exact absurd h (by decide)
    rw [ah h3] at h;simp only [nN] at h;by_cases h4:n=1
    ·exact h4
    ·rw [ah h4] at h;exact absurd h (by decide)
   subst h2;rfl
 | d=>
   simp only [bF] at h1;rw [ah (by omega)] at h;by_cases h3:s=[]
   ·rw [aj h3] at h;exact absurd h (by decide)
   rw [ah h3] at h;simp only [nN] at h;have hd:=TI h hs;have hne:(lQ s).1≠[]:=λe=>by
    have:=hd.chk;rw [e] at this;exact absurd this (by decide)
   have e:aK (setB b n s .d) .d=(0,if (lQ s).1=[] then [] else iC (lQ s).1):=rfl;rw [e,ah hne,hd.put];rfl
 | t=>
   simp only [bF] at h1;rw [ah (by omega)] at h;by_cases h3:s=[]
   ·rw [aj h3] at h;exact absurd h (by decide)
   rw [ah h3] at h;simp only [nN] at h;obtain ⟨t1,t2, -⟩:=aew hs;by_cases h4:(kD s).2=0;rotate_left
   ·rw [ah h4] at h;exact absurd h h4
   rw [aj h4] at h;by_cases h5:(kD s).1.length=0
   ·rw [aj h5] at h;exact absurd h (by decide)
   have hne:(kD s).1≠[]:=λe=>h5 (by rw [e];rfl);have e:aK (setB b n s .t) .t=(0,if (kD s).1=[] then [] else (vX (kD s).1).1):=rfl;have e2:vX (kD s).1=(lG (kD s).1,0):=by unfold vX;rw [t1.tb];rfl
   rw [e,ah hne,e2,t2 h4];rfl
 | _=>rfl
end U
end Go.Proofs.YtjglbndncdkhhaaGreatDoor
