/- What the trees compute: plain laws. -/
import Derived.Test.YtcpfjpcdcafjmaaGreatDoorKCe5
namespace Go.Proofs.YtcpfjpcdcafjmaaGreatDoor
open Go Go.aN
set_option linter.unusedSimpArgs false
set_option linter.unusedVariables false
set_option maxRecDepth 100000
namespace C
theorem ahR {a b:List UInt8} {x:GV} (h1:oI (.s a) x=true) (h2:oI (.s b) x=true):a=b:=by
 cases x<;>simp [oI] at h1 h2
 rw [h1,h2]
theorem aaq (a b:List UInt8):oI (.s a) (.s b)=decide (a=b):=by
 simp only [oI];rw [qp];simp
theorem zB (a b:List UInt8) (u:GV):∀xs:List GV,jE (.s a) (oL (.s b) u xs)=if a=b then some u else jE (.s a) xs
 | []=>by
   show (if oI (.s a) (.s b)=true then some u else none)=_
   rw [aaq];by_cases h:a=b<;>simp [h,jE]
 | .g [x,v]::xs=>by
   have ih:=zB a b u xs;show jE (.s a) (if oI (.s b) x=true then .g [.s b,u]::xs else .g [x,v]::oL (.s b) u xs)=if a=b then some u else (if oI (.s a) x=true then some v else jE (.s a) xs)
   cases hb:oI (.s b) x with
   | true=>
     rw [ak rfl];show (if oI (.s a) (.s b)=true then some u else jE (.s a) xs)=_
     rw [aaq];by_cases h:a=b
     ·simp [h]
     ·cases ha:oI (.s a) x with
      | true=>exact absurd (ahR ha hb) h
      | false=>simp [h]
   | false=>
     rw [ah (by simp)];show (if oI (.s a) x=true then some v else jE (.s a) (oL (.s b) u xs))=_
     rw [ih];cases ha:oI (.s a) x with
     | true=>
       by_cases h:a=b
       ·subst h;rw [ha] at hb;cases hb
       ·simp [h]
     | false=>simp
 | .g []::xs=>zB a b u xs
 | .g [_]::xs=>zB a b u xs
 | .g (_::_::_::_)::xs=>zB a b u xs
 | .i _ _::xs=>zB a b u xs
 | .b _::xs=>zB a b u xs
 | .s _::xs=>zB a b u xs
 | .l _::xs=>zB a b u xs
/-- The value of a name. -/
def eF (b:aG) (n:List UInt8):Int×List UInt8:=match placeOf n with
 | some p=>aV b p
 | none=>(0,[])
def BL (n:List UInt8):Int:=match placeOf n with
 | some p=>aK p
 | none=>0
def ru (b:aG) (n:List UInt8):GV:=.g [.i .i64 (BL n),.i .u64 (eF b n).1,.s (eF b n).2]
def lV (b:aG) (xs:List GV) (ns:List (List UInt8)):List GV:=ns.foldl (λm n=>oL (.s n) (ru b n) m) xs
theorem adi (b:aG) (a:List UInt8):∀ (ns:List (List UInt8)) (xs:List GV),jE (.s a) (lV b xs ns)=if a∈ns then some (ru b a) else jE (.s a) xs
 | [],xs=>by simp [lV]
 | n::ns,xs=>by
   have ih:=adi b a ns (oL (.s n) (ru b n) xs);show jE (.s a) (lV b (oL (.s n) (ru b n) xs) ns)=_
   rw [ih,zB];by_cases h:a∈ns
   ·simp [h]
   ·by_cases h2:a=n
    ·subst h2;simp
    ·simp [h,h2]
theorem Wj (b:aG) (a:List UInt8):jE (.s a) (lV b [] bD)=if placeOf a=none then none else some (ru b a):=by
 rw [adi];by_cases h:a∈bD
 ·rw [ak h,ah (NU a h)]
 ·rw [ah h]
  cases hp:placeOf a with
  | none=>rfl
  | some p=>exact absurd (Gj a p hp).2.2 h
theorem GI (b:aG) (r:List GV) (hb:nG b) (hd:gy b.d=true) (hf:oP b.t) (n:List UInt8) (hn:placeOf n≠none) :
 TT.lim 37 [aJ b r,.s n]=some [.g [.i .u64 0,.i .i64 (BL n),.i .u64 (eF b n).1,.s (eF b n).2,.l []],.b true]/\TT.lim 73 [aJ b r,.s n]=some [.i .u64 (eF b n).1,.s (eF b n).2]:=by
 obtain ⟨p,hp,h1,h2, -⟩ | ⟨h1,h2⟩:=an5 b r hb hd hf n
 ·unfold BL eF
  rw [hp];exact ⟨h1,h2⟩
 ·exfalso
  cases hp:placeOf n with
  | none=>exact hn hp
  | some p=>
    have hu:=adb p;unfold iT at h2;rw [hp] at h2;simp only at h2;omega
theorem adf (b:aG) (r:GV) (R:List GV) (hr:r=.l R) (hb:nG b) (hd:gy b.d=true) (hf:oP b.t) (ns:List (List UInt8)) (hl:ns.length<=1000) (hns:∀n∈ns,placeOf n≠none):∀ (m i:Nat) (xs:List GV),i+m=ns.length->
 TT.lim 36 ([.l (ns.map .s),.i .i64 ns.length,.i .i64 i,.l xs,.i .i64 b.kind]++aU b++[r])=some [.i .i64 0,.l (lV b xs (ns.drop i))]
 | 0,i,xs,hi=>by
   have h:¬ ((i:Int) < ns.length):=by omega
   have e:ns.drop i=[]:=eY (by omega);rw [e];simp only [lV,List.foldl_nil,aU,eP,dD];refine aC rfl rfl ?_;simp [h]
 | m+1,i,xs,hi=>by
   have hlt:i < ns.length:=by omega
   have h:((i:Int) < ns.length):=by omega
   have hw:=wrap64 (n:=(i:Int)+1) (by omega) (by omega);have hcast:((i+1:Nat):Int)=(i:Int)+1:=by omega
   have hd2:=fZ hlt;have hget:(ns.map GV.s)[i]? = some (.s ns[i]):=by rw [jU,dK hlt];rfl
   have hv:=(GI b R hb hd hf ns[i] (hns _ (iI hlt))).1;have ih:=adf b r R hr hb hd hf ns hl hns m (i+1) (oL (.s ns[i]) (ru b ns[i]) xs) (by omega);rw [hd2];show _=some [GV.i .i64 0,.l (lV b (oL (.s ns[i]) (ru b ns[i]) xs) (ns.drop (i+1)))]
   rw [hcast] at ih;subst hr;unfold ru at ih ⊢;generalize lV b (oL (.s ns[i]) (.g [.i .i64 (BL ns[i]),.i .u64 (eF b ns[i]).1,.s (eF b ns[i]).2]) xs) (ns.drop (i+1))=O at *;generalize (eF b ns[i]).1=x at *;generalize (eF b ns[i]).2=y at *;generalize BL ns[i]=t at *;generalize ns[i]=n at *;generalize ns.map GV.s=NS at *;generalize (ns.length:Int)=L at *;unfold aJ at hv;simp only [aU,eP,dD] at ih ⊢;refine aC rfl rfl ?_;simp -implicitDefEqProofs (maxSteps:=10000000) [↓iE,h,hw,hget,hv,ih]
theorem Wi (b:aG) (R:List GV) (hb:nG b) (hd:gy b.d=true) (hf:oP b.t):TT.lim 34 (.i .i64 b.kind::(aU b++[.l R]))=some [.i .i64 0,.l (lV b [] bD)]:=by
 have h0:=adf b (.l R) R rfl hb hd hf bD (by decide) NU bD.length 0 [] (by omega);rw [dJ] at h0;simp only [xW,aU,eP,dD] at h0 ⊢;have hn:=abe;have hnl:((bD.map GV.s).length:Int)=(bD.length:Int):=by rw [oQ]
 generalize lV b [] bD=O at *;generalize bD.map GV.s=NS at *;generalize (bD.length:Int)=L at *;refine aC rfl rfl ?_;simp -implicitDefEqProofs (maxSteps:=10000000) [↓iE,hn,hnl,h0]
def iL (b c:aG) (ns:List (List UInt8)):List (List UInt8):=ns.filter λn=>!decide (eF b n=eF c n)
theorem X7 (b c:aG) (n:List UInt8) (r:List (List UInt8)):iL b c (n::r)=if eF b n=eF c n then iL b c r else n::iL b c r:=by
 unfold iL;rw [List.filter_cons];by_cases h:eF b n=eF c n<;>simp [h]
theorem QA (b c:aG) (ns:List (List UInt8)):(iL b c ns).length<=ns.length:=List.length_filter_le _ _
/-- What isn't the same, by its names. -/
noncomputable def uy (b:aG) (fb:List bH) (c:aG) (fc:List bH):List (List UInt8):=
 iL b c bD++((if b.kind=c.kind then [] else [[107,105,110,100]])++(if fH (fb=fc)=true then [] else [[114,101,115,116]]))
theorem EY (t:Int) (x x2:Int) (y y2:List UInt8):lD [0,0,1] [.i .i64 t,.i .u64 x,.s y] [.i .i64 t,.i .u64 x2,.s y2]=some (decide (x=x2/\y=y2)):=by
 simp only [lD,if_true,fQ,G5];congr 1;rw [qp];simp
theorem wB (n:List UInt8):(GV.s n).fV 1=true:=rfl
theorem Qz (b c:aG) (r1 r2:GV) (ns:List (List UInt8)) (hl:ns.length<=1000) (hns:∀n∈ns,placeOf n≠none):∀ (m i:Nat) (acc:List (List UInt8)),i+m=ns.length->acc.length<=i->
 TT.lim 117 ([.l (acc.map .s),.l (ns.map .s),.i .i64 ns.length,.i .i64 i,.l (lV c [] bD),.l (lV b [] bD)]++(.i .i64 c.kind::(aU c++[r1]))++(.i .i64 b.kind::(aU b++[r2])))=some [.i .i64 0,.l ((acc++iL b c (ns.drop i)).map .s)]
 | 0,i,acc,hi,ha=>by
   have h:¬ ((i:Int) < ns.length):=by omega
   have e:ns.drop i=[]:=eY (by omega);rw [e];simp only [iL,List.filter_nil,qV,aU,eP,dD];generalize acc.map GV.s=A at *;refine aC rfl rfl ?_;simp [h]
 | m+1,i,acc,hi,ha=>by
   have hlt:i < ns.length:=by omega
   have h:((i:Int) < ns.length):=by omega
   have hw:=wrap64 (n:=(i:Int)+1) (by omega) (by omega);have hcast:((i+1:Nat):Int)=(i:Int)+1:=by omega
   have hd2:=fZ hlt;have hget:(ns.map GV.s)[i]? = some (.s ns[i]):=by rw [jU,dK hlt];rfl
   have hp:=hns _ (iI hlt);have gb:=Wj b ns[i];have gc:=Wj c ns[i];rw [ah hp] at gb gc;unfold ru at gb gc;rw [hd2,X7];have la:(acc.map GV.s).length=acc.length:=oQ _;have c1:2 * ((acc.map GV.s).length+1) * 16<=281474976710656/\(acc.map GV.s).length+1<=281474976710656:=by omega
   by_cases hv:eF b ns[i]=eF c ns[i]
   ·rw [ak hv]
    have ih:=Qz b c r1 r2 ns hl hns m (i+1) acc (by omega) (by omega);rw [hcast] at ih;rw [hv] at gb;generalize (acc++iL b c (ns.drop (i+1))).map GV.s=O at *;generalize lV c [] bD=MC at *;generalize lV b [] bD=MB at *;generalize (eF c ns[i]).1=x at *;generalize (eF c ns[i]).2=y at *;generalize BL ns[i]=t at *;clear hv hd2 hp;generalize ns[i]=n at *;generalize ns.map GV.s=NS at *;generalize (ns.length:Int)=L at *;generalize acc.map GV.s=A at *;simp only [aU,eP,dD] at ih ⊢;refine aC rfl rfl ?_;simp -implicitDefEqProofs (maxSteps:=10000000) [↓iE,h,hw,hget,gb,gc,EY,ih]
   ·rw [ah hv]
    have ih:=Qz b c r1 r2 ns hl hns m (i+1) (acc++[ns[i]]) (by omega) (by rw [iJ,y9];omega);have happ:acc++[ns[i]]++iL b c (ns.drop (i+1))=acc++(ns[i]::iL b c (ns.drop (i+1))):=by simp
    rw [hcast,happ,qy (l₂:=[ns[i]]),jV,qA] at ih;have hv2:(((eF b ns[i]).1=(eF c ns[i]).1)/\(eF b ns[i]).2=(eF c ns[i]).2)=False:=eq_false λe=>hv (HY e.1 e.2);generalize (acc++(ns[i]::iL b c (ns.drop (i+1)))).map GV.s=O at *;generalize lV c [] bD=MC at *;generalize lV b [] bD=MB at *;clear hv hd2 hp happ;generalize (eF c ns[i]).1=x at *;generalize (eF c ns[i]).2=y at *;generalize (eF b ns[i]).1=x2 at *;generalize (eF b ns[i]).2=y2 at *;generalize BL ns[i]=t at *;generalize ns[i]=n at *;generalize ns.map GV.s=NS at *;generalize (ns.length:Int)=L at *;generalize acc.map GV.s=A at *;simp only [aU,eP,dD] at ih ⊢;refine aC rfl rfl ?_;simp -implicitDefEqProofs (maxSteps:=10000000) [↓iE,h,hw,hget,gb,gc,EY,hv2,wB,c1,ih]
theorem UU (b c:aG) (R1 R2:List GV) (hb:nG b) (hd:gy b.d=true) (hf:oP b.t) (hb2:nG c) (RS:gy c.d=true) (hf2:oP c.t) (ns:List (List UInt8)) (hl:ns.length<=1000) (hns:∀n∈ns,placeOf n≠none):∀ (m i:Nat) (acc:List (List UInt8)),i+m=ns.length->acc.length<=i->
 TT.lim 123 ([.l (acc.map .s),.l (ns.map .s),.i .i64 ns.length,.i .i64 i]++(.i .i64 c.kind::(aU c++[.l R1]))++(.i .i64 b.kind::(aU b++[.l R2])))=some [.i .i64 0,.l ((acc++iL b c (ns.drop i)).map .s)]
 | 0,i,acc,hi,ha=>by
   have h:¬ ((i:Int) < ns.length):=by omega
   have e:ns.drop i=[]:=eY (by omega);rw [e];simp only [iL,List.filter_nil,qV,aU,eP,dD];generalize acc.map GV.s=A at *;refine aC rfl rfl ?_;simp [h]
 | m+1,i,acc,hi,ha=>by
   have hlt:i < ns.length:=by omega
   have h:((i:Int) < ns.length):=by omega
   have hw:=wrap64 (n:=(i:Int)+1) (by omega) (by omega);have hcast:((i+1:Nat):Int)=(i:Int)+1:=by omega
   have hd2:=fZ hlt;have hget:(ns.map GV.s)[i]? = some (.s ns[i]):=by rw [jU,dK hlt];rfl
   have hp:=hns _ (iI hlt);have gb:=(GI b R2 hb hd hf ns[i] hp).2;have gc:=(GI c R1 hb2 RS hf2 ns[i] hp).2;rw [hd2,X7];have la:(acc.map GV.s).length=acc.length:=oQ _;have c1:2 * ((acc.map GV.s).length+1) * 16<=281474976710656/\(acc.map GV.s).length+1<=281474976710656:=by omega
   by_cases hv:eF b ns[i]=eF c ns[i]
   ·rw [ak hv]
    have ih:=UU b c R1 R2 hb hd hf hb2 RS hf2 ns hl hns m (i+1) acc (by omega) (by omega);rw [hcast] at ih;rw [hv] at gb;generalize (acc++iL b c (ns.drop (i+1))).map GV.s=O at *;generalize (eF c ns[i]).1=x at *;generalize (eF c ns[i]).2=y at *;clear hv hd2 hp;generalize ns[i]=n at *;generalize ns.map GV.s=NS at *;generalize (ns.length:Int)=L at *;generalize acc.map GV.s=A at *;unfold aJ at gb gc;simp only [aU,eP,dD] at ih ⊢;refine aC rfl rfl ?_;simp -implicitDefEqProofs (maxSteps:=10000000) [↓iE,h,hw,hget,gb,gc,ih]
   ·rw [ah hv]
    have ih:=UU b c R1 R2 hb hd hf hb2 RS hf2 ns hl hns m (i+1) (acc++[ns[i]]) (by omega) (by rw [iJ,y9];omega);have happ:acc++[ns[i]]++iL b c (ns.drop (i+1))=acc++(ns[i]::iL b c (ns.drop (i+1))):=by simp
    rw [hcast,happ,qy (l₂:=[ns[i]]),jV,qA] at ih;generalize (acc++(ns[i]::iL b c (ns.drop (i+1)))).map GV.s=O at *;have hv2:¬ ((eF b ns[i]).1=(eF c ns[i]).1/\(eF b ns[i]).2=(eF c ns[i]).2):=λe=>hv (HY e.1 e.2);clear hv hd2 hp happ;generalize (eF c ns[i]).1=x at *;generalize (eF c ns[i]).2=y at *;generalize (eF b ns[i]).1=x2 at *;generalize (eF b ns[i]).2=y2 at *;generalize ns[i]=n at *;generalize ns.map GV.s=NS at *;generalize (ns.length:Int)=L at *;generalize acc.map GV.s=A at *;unfold aJ at gb gc;simp only [aU,eP,dD] at ih ⊢;by_cases e1:x2=x
    ·subst e1
     have e2:(y2=y)=False:=eq_false λe=>hv2 ⟨rfl,e⟩;refine aC rfl rfl ?_;simp -implicitDefEqProofs (maxSteps:=10000000) [↓iE,h,hw,hget,gb,gc,e2,wB,c1,ih]
    ·have e1:(x2=x)=False:=eq_false e1
     refine aC rfl rfl ?_;simp -implicitDefEqProofs (maxSteps:=10000000) [↓iE,h,hw,hget,gb,gc,e1,wB,c1,ih]
theorem X5 {b c:aG} {fb fc:List bH} (hb:lY b fb) (hc:lY c fc) (hs:iR fb<=1000000):TT.lim 116 [aJ b (aQ fb),aJ c (aQ fc)]=some [.l ((uy b fb c fc).map .s)]:=by
 have v1:=Wi b (aQ fb) hb.body hb.d hb.t.few;have v2:=Wi c (aQ fc) hc.body hc.d hc.t.few;have h0:=Qz b c (.l (aQ fc)) (.l (aQ fb)) bD (by decide) NU bD.length 0 [] (by omega) (by simp);rw [dJ,dD,qA] at h0;simp only [xW] at h0;have hn:=abe;have hnl:((bD.map GV.s).length:Int)=(bD.length:Int):=by rw [oQ]
 have hf:=agj fb fc hb.f8 hc.f8 hb.len hc.len hs;have hl:=QA b c bD;have h22:bD.length=22:=by decide
 have l1:((iL b c bD).map GV.s).length<=22:=by rw [oQ];omega
 have c1:2 * (((iL b c bD).map GV.s).length+1) * 16<=281474976710656/\((iL b c bD).map GV.s).length+1<=281474976710656:=by omega
 have c2:2 * (((iL b c bD).map GV.s).length+1+1) * 16<=281474976710656/\((iL b c bD).map GV.s).length+1+1<=281474976710656:=by
  clear c1 hnl hf h0 hn hl h22;generalize ((iL b c bD).map GV.s).length=N at *;omega
 unfold uy;rw [qy,qy];generalize lV c [] bD=MC at *;generalize lV b [] bD=MB at *;generalize (iL b c bD).map GV.s=O at *;generalize bD.map GV.s=NS at *;generalize (bD.length:Int)=L at *;generalize fH (fb=fc)=B at *;generalize aQ fb=r1 at *;generalize aQ fc=r2 at *;clear hl h22 l1 hb hc hs;unfold aJ;simp only [aU,eP,dD] at v1 v2 h0;by_cases hk:b.kind=c.kind
 ·rw [ak hk]
  rw [hk] at v1 h0 ⊢;cases B with
  | true=>
    refine aA rfl rfl ?_ rfl;simp -implicitDefEqProofs (maxSteps:=10000000) [↓iE,v1,v2,hn,hnl,h0,hf,wB,c1]
  | false=>
    refine aA rfl rfl ?_ rfl;simp -implicitDefEqProofs (maxSteps:=10000000) [↓iE,v1,v2,hn,hnl,h0,hf,wB,c1]
 ·rw [ah hk]
  have hk:(b.kind=c.kind)=False:=eq_false hk;cases B with
  | true=>
    refine aA rfl rfl ?_ rfl;simp -implicitDefEqProofs (maxSteps:=10000000) [↓iE,v1,v2,hn,hnl,h0,hf,hk,wB,c1]
  | false=>
    refine aA rfl rfl ?_ rfl;simp -implicitDefEqProofs (maxSteps:=10000000) [↓iE,v1,v2,hn,hnl,h0,hf,hk,wB,c1,c2]
theorem akh {b c:aG} {fb fc:List bH} (hb:lY b fb) (hc:lY c fc):TT.lim 121 [aJ b (aQ fb),aJ c (aQ fc)]=some [.l ((uy b fb c fc).map .s)]:=by
 have h0:=UU b c (aQ fc) (aQ fb) hb.body hb.d hb.t.few hc.body hc.d hc.t.few bD (by decide) NU bD.length 0 [] (by omega) (by simp);rw [dJ,dD,qA] at h0;simp only [xW] at h0;have hn:=ab3;have hnl:((bD.map GV.s).length:Int)=(bD.length:Int):=by rw [oQ]
 have hf:=U3 (iR fb+1) fb fc (by omega) hb.f8 hc.f8 hb.len hc.len;have hl:=QA b c bD;have h22:bD.length=22:=by decide
 have l1:((iL b c bD).map GV.s).length<=22:=by rw [oQ];omega
 have c1:2 * (((iL b c bD).map GV.s).length+1) * 16<=281474976710656/\((iL b c bD).map GV.s).length+1<=281474976710656:=by omega
 have c2:2 * (((iL b c bD).map GV.s).length+1+1) * 16<=281474976710656/\((iL b c bD).map GV.s).length+1+1<=281474976710656:=by
  clear c1 hnl hf h0 hn hl h22;generalize ((iL b c bD).map GV.s).length=N at *;omega
 unfold uy;rw [qy,qy];generalize (iL b c bD).map GV.s=O at *;generalize bD.map GV.s=NS at *;generalize (bD.length:Int)=L at *;generalize fH (fb=fc)=B at *;generalize aQ fb=r1 at *;generalize aQ fc=r2 at *;clear hl h22 l1 hb hc;unfold aJ;simp only [aU,eP,dD] at h0;by_cases hk:b.kind=c.kind
 ·rw [ak hk]
  rw [hk] at h0 ⊢;cases B with
  | true=>
    refine aA rfl rfl ?_ rfl;simp -implicitDefEqProofs (maxSteps:=10000000) [↓iE,hn,hnl,h0,hf,wB,c1]
  | false=>
    refine aA rfl rfl ?_ rfl;simp -implicitDefEqProofs (maxSteps:=10000000) [↓iE,hn,hnl,h0,hf,wB,c1]
 ·rw [ah hk]
  have hk:(b.kind=c.kind)=False:=eq_false hk;cases B with
  | true=>
    refine aA rfl rfl ?_ rfl;simp -implicitDefEqProofs (maxSteps:=10000000) [↓iE,hn,hnl,h0,hf,hk,wB,c1]
  | false=>
    refine aA rfl rfl ?_ rfl;simp -implicitDefEqProofs (maxSteps:=10000000) [↓iE,hn,hnl,h0,hf,hk,wB,c1,c2]
def qI (b:aG):Pl->aG
 | .rem=>{ b with remaining:=0 }
 | .allow=>{ b with allowed:=false }
 | .name=>{ b with name:=[] }
 | .region=>{ b with region:=[] }
 | .note=>{ b with note:=[] }
 | .d=>{ b with d:=[] }
 | .t=>{ b with t:=[] }
 | .num k=>setB b 0 [] (.num k)
theorem Yb (b:aG) (p:Pl):(qI b p).kind=b.kind:=by
 cases p with
 | num k=>exact Gq b 0 [] (.num k)
 | _=>rfl
/-- What is put, or why not. -/
def iZ (o:aG):aG->List (List UInt8)->aG×Int
 | b,[]=>(b,0)
 | b,n::r=>match placeOf n with
   | none=>(gB,26)
   | some p=>if aV o p=(0,[]) then iZ o (qI b p) r else if aB (aK p) (aV o p).1 (aV o p).2 p=0 then iZ o (setB b (aV o p).1 (aV o p).2 p) r else (gB,aB (aK p) (aV o p).1 (aV o p).2 p)
theorem QD {b:aG} {fl:List bH} (h:lY b fl) (p:Pl) (hk:jr p):lY (qI b p) fl:=by
 obtain ⟨hb,hd,ht,hf,hl⟩:=h;cases hb;cases p with
 | num k=>
   simp only [jr] at hk;rcases (show k=0\/k=1\/k=2\/k=3\/k=4\/k=5\/k=6\/k=7\/k=8\/k=9\/k=10\/k=11\/k=12\/k=13\/k=14 by omega) with rfl | rfl | rfl | rfl | rfl | rfl | rfl | rfl | rfl | rfl | rfl | rfl | rfl | rfl | rfl
   all_goals
    simp only [qI,setB];exact ⟨by constructor<;>first | assumption | simp,hd,ht,hf,hl⟩
 | d=>exact ⟨by constructor<;>first | assumption | simp [qI,oq],by simp [qI,gy],ht,hf,hl⟩
 | t=>exact ⟨by constructor<;>first | assumption | simp [qI,Rows],hd,uS.t,hf,hl⟩
 | _=>exact ⟨by constructor<;>first | assumption | simp [qI],hd,ht,hf,hl⟩
theorem mJ {n m:List UInt8} {p q:Pl} (hp:placeOf n=some p) (hq:placeOf m=some q):(n=m)=(p=q):=
 propext ⟨λe=>by subst e;rw [hp] at hq;cases hq;rfl,λe=>by subst e;exact ajx hp hq⟩
theorem aan {n:List UInt8} {p:Pl} (hp:placeOf n=some p):((n=[114,101,109,97,105,110,105,110,103])=(p=.rem))/\((n=[97,108,108,111,119,101,100])=(p=.allow))/\((n=[110,97,109,101])=(p=.name))/\((n=[114,101,103,105,111,110])=(p=.region))/\((n=[110,111,116,101])=(p=.note))/\((n=[100,101,115,99,114])=(p=.d))/\((n=[116,97,98,108,101])=(p=.t))/\((n=[105,100])=(p=.num 0))/\((n=[109,105,110])=(p=.num 1))/\((n=[109,97,120])=(p=.num 2))/\((n=[99,104,111,115,101,110])=(p=.num 3))/\((n=[102,108,97,103,115])=(p=.num 4))/\((n=[99,111,115,116])=(p=.num 5))/\((n=[112,114,105,111,114,105,116,121])=(p=.num 6))/\((n=[100,101,97,100,108,105,110,101])=(p=.num 7))/\((n=[114,101,116,114,121])=(p=.num 8))/\((n=[101,112,111,99,104])=(p=.num 9))/\((n=[98,97,115,101])=(p=.num 10))/\((n=[100,105,103,101,115,116])=(p=.num 11))/\((n=[108,97,103])=(p=.num 12))/\((n=[99,111,100,101])=(p=.num 13))/\((n=[119,97,110,116])=(p=.num 14)):=
 ⟨mJ hp xH,mJ hp wS,mJ hp xC,mJ hp xG,mJ hp xE,mJ hp wZ,mJ hp xJ,mJ hp xu,mJ hp xB,mJ hp xA,mJ hp wV,mJ hp xq,mJ hp wX,mJ hp xF,mJ hp wY,mJ hp xI,mJ hp xk,mJ hp wU,mJ hp xg,mJ hp xw,mJ hp wW,mJ hp xK⟩
set_option maxHeartbeats 4000000 in
theorem ajM {n:List UInt8} {p:Pl} (hp:placeOf n=some p) (hk:jr p) (b:aG) (NS MP r OUT:List GV) (L ty:Int) (i:Nat) (h:(i:Int) < L) (hw:IntKind.i64.wrap ((i:Int)+1)=(i:Int)+1) (hget:NS[i]? = some (.s n)) (gv:jE (.s n) MP=some (.g [.i .i64 ty,.i .u64 0,.s []]))
 (ih:TT.lim 43 ([.l NS,.i .i64 L,.i .i64 ((i:Int)+1),.l MP,.i .i64 b.kind]++aU (qI b p)++[.l r])=some OUT):TT.lim 43 ([.l NS,.i .i64 L,.i .i64 (i:Int),.l MP,.i .i64 b.kind]++aU b++[.l r])=some OUT:=by
 have hI:=aan hp;clear hp;cases p with
 | num k=>
   simp only [jr] at hk;rcases (show k=0\/k=1\/k=2\/k=3\/k=4\/k=5\/k=6\/k=7\/k=8\/k=9\/k=10\/k=11\/k=12\/k=13\/k=14 by omega) with rfl | rfl | rfl | rfl | rfl | rfl | rfl | rfl | rfl | rfl | rfl | rfl | rfl | rfl | rfl
   all_goals
    simp only [qI,setB,aU,eP,dD] at ih ⊢;refine aC rfl rfl ?_;simp -implicitDefEqProofs (maxSteps:=10000000) [↓iE,h,hw,hget,gv,EY,hI,ih]
 | _=>
   simp only [qI,aU,eP,dD,qA] at ih ⊢;refine aC rfl rfl ?_;simp -implicitDefEqProofs (maxSteps:=10000000) [↓iE,h,hw,hget,gv,EY,hI,ih]
set_option maxHeartbeats 4000000 in
theorem akV {n:List UInt8} {p:Pl} (hp:placeOf n=some p) (hk:jr p) (o b:aG) (NS r r3 OUT:List GV) (L u:Int) (i:Nat) (h:(i:Int) < L) (hw:IntKind.i64.wrap ((i:Int)+1)=(i:Int)+1) (hget:NS[i]? = some (.s n)) (hu:TT.lim 69 [.s n]=some [.i .i64 u]) (u4:¬ u < 0) (gv:TT.lim 73 [aJ o r3,.s n]=some [.i .u64 0,.s []])
 (ih:TT.lim 68 ([.l NS,.i .i64 L,.i .i64 ((i:Int)+1),.i .i64 o.kind]++aU o++[.l r3,.i .i64 b.kind]++aU (qI b p)++[.l r])=some OUT):TT.lim 68 ([.l NS,.i .i64 L,.i .i64 (i:Int),.i .i64 o.kind]++aU o++[.l r3,.i .i64 b.kind]++aU b++[.l r])=some OUT:=by
 have hI:=aan hp;clear hp;unfold aJ at gv;cases p with
 | num k=>
   simp only [jr] at hk;rcases (show k=0\/k=1\/k=2\/k=3\/k=4\/k=5\/k=6\/k=7\/k=8\/k=9\/k=10\/k=11\/k=12\/k=13\/k=14 by omega) with rfl | rfl | rfl | rfl | rfl | rfl | rfl | rfl | rfl | rfl | rfl | rfl | rfl | rfl | rfl
   all_goals
    simp only [qI,setB,aU,eP,dD] at ih ⊢;refine aC rfl rfl ?_;simp -implicitDefEqProofs (maxSteps:=10000000) [↓iE,h,hw,hget,hu,u4,gv,hI,ih]
 | _=>
   simp only [qI,aU,eP,dD,qA] at ih ⊢;refine aC rfl rfl ?_;simp -implicitDefEqProofs (maxSteps:=10000000) [↓iE,h,hw,hget,hu,u4,gv,hI,ih]
set_option maxHeartbeats 4000000 in
theorem Yn {o:aG} {fo fl:List bH} (ho:lY o fo) (hso:Short o) (hsz:iR fl<=1000000) (ns:List (List UInt8)) (hl:ns.length<=1000):∀ (m i:Nat) (b:aG),i+m=ns.length->lY b fl->
 TT.lim 43 ([.l (ns.map .s),.i .i64 ns.length,.i .i64 i,.l (lV o [] bD),.i .i64 b.kind]++aU b++[.l (aQ fl)])=some (if (iZ o b (ns.drop i)).2=0 then .i .i64 1::.i .i64 (iZ o b (ns.drop i)).1.kind::(aU (iZ o b (ns.drop i)).1++[.l (aQ fl)]) else [.i .i64 0,.i .i64 (iZ o b (ns.drop i)).2])
 | 0,i,b,hi,hb=>by
   have h:¬ ((i:Int) < ns.length):=by omega
   have e:ns.drop i=[]:=eY (by omega);rw [e];simp only [iZ,if_true,aU,eP,dD];refine aC rfl rfl ?_;simp [h]
 | m+1,i,b,hi,hb=>by
   have hlt:i < ns.length:=by omega
   have h:((i:Int) < ns.length):=by omega
   have hw:=wrap64 (n:=(i:Int)+1) (by omega) (by omega);have hcast:((i+1:Nat):Int)=(i:Int)+1:=by omega
   have hd2:=fZ hlt;have hget:(ns.map GV.s)[i]? = some (.s ns[i]):=by rw [jU,dK hlt];rfl
   rw [hd2];have gv:=Wj o ns[i];have ih:=λb hb=>Yn ho hso hsz ns hl m (i+1) b (by omega) hb;simp only [hcast] at ih;cases hp:placeOf ns[i] with
   | none=>
     rw [ak hp] at gv;simp only [iZ,hp];rw [ah (by decide)];generalize lV o [] bD=MP at *;generalize ns.map GV.s=NS at *;generalize (ns.length:Int)=L at *;generalize ns[i]=n at *;simp only [aU,eP,dD];clear ih;refine aC rfl rfl ?_;simp -implicitDefEqProofs (maxSteps:=10000000) [↓iE,h,hw,hget,gv]
   | some p=>
     rw [ah (by rw [hp];simp)] at gv;unfold ru BL eF at gv;rw [hp] at gv;simp only [iZ,hp] at gv ⊢;obtain ⟨e,hk, -⟩:=Gj ns[i] p hp;obtain ⟨v1,v2⟩:=V7 ho hso p;have hwt:=aiD b fl (wE hb.d) hb.t hsz 0 (aK p) (aV o p).1 (aV o p).2 v1 v2 ns[i];unfold jv at hwt;rw [hp] at hwt;simp only at hwt;unfold jR at hwt;by_cases hz:aV o p=(0,[])
     ·rw [ak hz]
      have ih:=ih (qI b p) (QD hb p hk);rw [Yb] at ih;rw [hz] at gv;exact ajM hp hk b _ _ _ _ _ _ i h hw hget gv ih
     ·rw [ah hz]
      have hz2:((aV o p).1=0/\(aV o p).2=[])=False:=eq_false λe=>hz (HY e.1 e.2);by_cases hc:aB (aK p) (aV o p).1 (aV o p).2 p=0
      ·rw [ak hc] at hwt ⊢
       obtain ⟨q1,q2,q3⟩:=Vz hb.body hb.d hb.t v1 v2 hc;have ih:=ih (setB b (aV o p).1 (aV o p).2 p) ⟨q1,q2,q3,hb.f8,hb.len⟩;rw [Gq] at ih;have hk2:=Gq b (aV o p).1 (aV o p).2 p;generalize iZ o (setB b (aV o p).1 (aV o p).2 p) (ns.drop (i+1))=R at *;generalize setB b (aV o p).1 (aV o p).2 p=B at *;generalize lV o [] bD=MP at *;generalize ns.map GV.s=NS at *;generalize (ns.length:Int)=L at *;clear hz hd2 hp v1 v2 q1 q2 q3 hc e;generalize (aV o p).1=x at *;generalize (aV o p).2=y at *;generalize ns[i]=n at *;generalize aK p=ty at *;generalize aQ fl=r at *;generalize (if R.2=0 then GV.i .i64 1::.i .i64 R.1.kind::(aU R.1++[.l r]) else [.i .i64 0,.i .i64 R.2])=OUT at *;unfold aJ at hwt;rw [hk2] at hwt;simp only [aU,eP,dD] at ih ⊢;refine aC rfl rfl ?_;simp -implicitDefEqProofs (maxSteps:=10000000) [↓iE,h,hw,hget,gv,EY,hz2,hwt,ih]
      ·rw [ah hc] at hwt ⊢
       simp only;rw [ah hc];clear ih;generalize aB (aK p) (aV o p).1 (aV o p).2 p=er at *;generalize lV o [] bD=MP at *;generalize ns.map GV.s=NS at *;generalize (ns.length:Int)=L at *;clear hz hd2 hp v1 v2 e;generalize (aV o p).1=x at *;generalize (aV o p).2=y at *;generalize ns[i]=n at *;generalize aK p=ty at *;generalize aQ fl=r at *;unfold aJ at hwt;simp only [aU,eP,dD];refine aC rfl rfl ?_;simp -implicitDefEqProofs (maxSteps:=10000000) [↓iE,h,hw,hget,gv,EY,hz2,hwt,hc]
set_option maxHeartbeats 4000000 in
theorem ab8 {o:aG} {fo fl:List bH} (ho:lY o fo) (hso:Short o) (ns:List (List UInt8)) (hl:ns.length<=1000):∀ (m i:Nat) (b:aG),i+m=ns.length->lY b fl->
 TT.lim 68 ([.l (ns.map .s),.i .i64 ns.length,.i .i64 i,.i .i64 o.kind]++aU o++[.l (aQ fo),.i .i64 b.kind]++aU b++[.l (aQ fl)])=some (if (iZ o b (ns.drop i)).2=0 then .i .i64 1::.i .i64 (iZ o b (ns.drop i)).1.kind::(aU (iZ o b (ns.drop i)).1++[.l (aQ fl)]) else [.i .i64 0,.i .i64 (iZ o b (ns.drop i)).2])
 | 0,i,b,hi,hb=>by
   have h:¬ ((i:Int) < ns.length):=by omega
   have e:ns.drop i=[]:=eY (by omega);rw [e];simp only [iZ,if_true,aU,eP,dD];refine aC rfl rfl ?_;simp [h]
 | m+1,i,b,hi,hb=>by
   have hlt:i < ns.length:=by omega
   have h:((i:Int) < ns.length):=by omega
   have hw:=wrap64 (n:=(i:Int)+1) (by omega) (by omega);have hcast:((i+1:Nat):Int)=(i:Int)+1:=by omega
   have hd2:=fZ hlt;have hget:(ns.map GV.s)[i]? = some (.s ns[i]):=by rw [jU,dK hlt];rfl
   rw [hd2];have ih:=λb hb=>ab8 (fl:=fl) ho hso ns hl m (i+1) b (by omega) hb;simp only [hcast] at ih;cases hp:placeOf ns[i] with
   | none=>
     have hu:=V6 ns[i];unfold iT at hu;rw [hp] at hu;simp only [iZ,hp] at hu ⊢;rw [ah (by decide)];generalize ns.map GV.s=NS at *;generalize (ns.length:Int)=L at *;generalize ns[i]=n at *;simp only [aU,eP,dD];clear ih;refine aC rfl rfl ?_;simp -implicitDefEqProofs (maxSteps:=10000000) [↓iE,h,hw,hget,hu]
   | some p=>
     have hu:=fC hp;obtain ⟨u1,u2,u3⟩:=adb p;have u4:¬ dM p < 0:=by omega
     have Nj:=wrap64 (n:=aK p) (by cases p<;>simp [aK]) (by cases p<;>simp [aK]);have gv:=(GI o (aQ fo) ho.body ho.d ho.t.few ns[i] (by rw [hp];simp)).2;unfold eF at gv;rw [hp] at gv;simp only [iZ,hp] at gv ⊢;obtain ⟨e,hk, -⟩:=Gj ns[i] p hp;obtain ⟨v1,v2⟩:=V7 ho hso p;have hwt:=alr b (aQ fl) (aK p) (aV o p).1 (aV o p).2 v1 v2 ns[i];unfold jv at hwt;rw [hp] at hwt;simp only at hwt;unfold jR at hwt;by_cases hz:aV o p=(0,[])
     ·rw [ak hz]
      have ih:=ih (qI b p) (QD hb p hk);rw [Yb] at ih;rw [hz] at gv;exact akV hp hk o b _ _ _ _ _ _ i h hw hget hu u4 gv ih
     ·rw [ah hz]
      have hz2:¬ ((aV o p).1=0/\(aV o p).2=[]):=λe=>hz (HY e.1 e.2);by_cases hc:aB (aK p) (aV o p).1 (aV o p).2 p=0
      ·rw [ak hc] at hwt ⊢
       obtain ⟨q1,q2,q3⟩:=Vz hb.body hb.d hb.t v1 v2 hc;have ih:=ih (setB b (aV o p).1 (aV o p).2 p) ⟨q1,q2,q3,hb.f8,hb.len⟩;rw [Gq] at ih;have hk2:=Gq b (aV o p).1 (aV o p).2 p;generalize iZ o (setB b (aV o p).1 (aV o p).2 p) (ns.drop (i+1))=R at *;generalize setB b (aV o p).1 (aV o p).2 p=B at *;generalize ns.map GV.s=NS at *;generalize (ns.length:Int)=L at *;clear hz hd2 hp v1 v2 q1 q2 q3 hc e u1 u3;generalize (aV o p).1=x at *;generalize (aV o p).2=y at *;generalize ns[i]=n at *;generalize aK p=ty at *;generalize dM p=u at *;generalize aQ fl=r at *;generalize aQ fo=r3 at *;generalize (if R.2=0 then GV.i .i64 1::.i .i64 R.1.kind::(aU R.1++[.l r]) else [.i .i64 0,.i .i64 R.2])=OUT at *;unfold aJ at hwt gv;rw [hk2] at hwt;simp only [aU,eP,dD] at ih ⊢;by_cases x0:x=0
       ·have y0:(y=[])=False:=eq_false λe=>hz2 ⟨x0,e⟩
        refine aC rfl rfl ?_;subst x0;simp -implicitDefEqProofs (maxSteps:=10000000) [↓iE,h,hw,hget,hu,u4,u2,Nj,gv,y0,hwt,ih]
       ·have x0:(x=0)=False:=eq_false x0
        refine aC rfl rfl ?_;simp -implicitDefEqProofs (maxSteps:=10000000) [↓iE,h,hw,hget,hu,u4,u2,Nj,gv,x0,hwt,ih]
      ·rw [ah hc] at hwt ⊢
       simp only;rw [ah hc];clear ih;generalize aB (aK p) (aV o p).1 (aV o p).2 p=er at *;generalize ns.map GV.s=NS at *;generalize (ns.length:Int)=L at *;clear hz hd2 hp v1 v2 e u1 u3;generalize (aV o p).1=x at *;generalize (aV o p).2=y at *;generalize ns[i]=n at *;generalize aK p=ty at *;generalize dM p=u at *;generalize aQ fl=r at *;generalize aQ fo=r3 at *;unfold aJ at hwt gv;simp only [aU,eP,dD];by_cases x0:x=0
       ·have y0:(y=[])=False:=eq_false λe=>hz2 ⟨x0,e⟩
        refine aC rfl rfl ?_;subst x0;simp -implicitDefEqProofs (maxSteps:=10000000) [↓iE,h,hw,hget,hu,u4,u2,Nj,gv,y0,hwt,hc]
       ·have x0:(x=0)=False:=eq_false x0
        refine aC rfl rfl ?_;simp -implicitDefEqProofs (maxSteps:=10000000) [↓iE,h,hw,hget,hu,u4,u2,Nj,gv,x0,hwt,hc]
theorem ajN {o b:aG} {fo fl:List bH} (ho:lY o fo) (hso:Short o) (hb:lY b fl) (hsz:iR fl<=1000000) (ns:List (List UInt8)) (hl:ns.length<=1000) :
 TT.lim 29 [aJ b (aQ fl),aJ o (aQ fo),.l (ns.map .s)]=some (if (iZ o b ns).2=0 then [aJ (iZ o b ns).1 (aQ fl),.i .i64 0] else [aJ gB [],.i .i64 (iZ o b ns).2]):=by
 have v1:=Wi o (aQ fo) ho.body ho.d ho.t.few;have kc:=aa7 b fl (wE hb.d) hb.t hsz;have h0:=Yn ho hso hsz ns hl ns.length 0 b (by omega) hb;rw [dJ] at h0;simp only [xW] at h0;have hnl:((ns.map GV.s).length:Int)=(ns.length:Int):=by rw [oQ]
 have hz:GV.g [.i .i64 0,.i .u64 0,.i .u64 0,.i .u64 0,.i .u64 0,.i .u64 0,.i .u64 0,.i .u64 0,.i .u64 0,.i .u64 0,.i .u64 0,.i .u64 0,.i .u64 0,.i .u64 0,.i .u64 0,.i .u64 0,.i .i64 0,.b false,.s [],.s [],.s [],.l [],.l [],.l []]=aJ gB []:=rfl;generalize lV o [] bD=MP at *;generalize iZ o b ns=R at *;generalize ns.map GV.s=NS at *;generalize (ns.length:Int)=L at *;generalize aQ fo=r2 at *;generalize aQ fl=r at *;clear ho hso hb hsz hl;by_cases e:R.2=0
 ·rw [ak e] at h0 ⊢
  unfold aJ at kc ⊢;simp only [aU,eP,dD] at v1 h0;refine aA rfl rfl ?_ rfl;simp -implicitDefEqProofs (maxSteps:=10000000) [↓iE,v1,kc,hnl,h0]
 ·rw [ah e] at h0 ⊢
  rw [<- hz];unfold aJ at kc ⊢;simp only [aU,eP,dD] at v1 h0;refine aA rfl rfl ?_ rfl;simp -implicitDefEqProofs (maxSteps:=10000000) [↓iE,v1,kc,hnl,h0]
theorem akW {o b:aG} {fo fl:List bH} (ho:lY o fo) (hso:Short o) (hb:lY b fl) (ns:List (List UInt8)) (hl:ns.length<=1000) :
 TT.lim 67 [aJ b (aQ fl),aJ o (aQ fo),.l (ns.map .s)]=some (if (iZ o b ns).2=0 then [aJ (iZ o b ns).1 (aQ fl),.i .i64 0] else [aJ gB [],.i .i64 (iZ o b ns).2]):=by
 have h0:=ab8 (fl:=fl) ho hso ns hl ns.length 0 b (by omega) hb;rw [dJ] at h0;simp only [xW] at h0;have hnl:((ns.map GV.s).length:Int)=(ns.length:Int):=by rw [oQ]
 have hz:GV.g [.i .i64 0,.i .u64 0,.i .u64 0,.i .u64 0,.i .u64 0,.i .u64 0,.i .u64 0,.i .u64 0,.i .u64 0,.i .u64 0,.i .u64 0,.i .u64 0,.i .u64 0,.i .u64 0,.i .u64 0,.i .u64 0,.i .i64 0,.b false,.s [],.s [],.s [],.l [],.l [],.l []]=aJ gB []:=rfl;generalize iZ o b ns=R at *;generalize ns.map GV.s=NS at *;generalize (ns.length:Int)=L at *;generalize aQ fo=r2 at *;generalize aQ fl=r at *;clear ho hso hb hl;by_cases e:R.2=0
 ·rw [ak e] at h0 ⊢
  unfold aJ;simp only [aU,eP,dD] at h0;refine aA rfl rfl ?_ rfl;simp -implicitDefEqProofs (maxSteps:=10000000) [↓iE,hnl,h0]
 ·rw [ah e] at h0 ⊢
  rw [<- hz];unfold aJ;simp only [aU,eP,dD] at h0;refine aA rfl rfl ?_ rfl;simp -implicitDefEqProofs (maxSteps:=10000000) [↓iE,hnl,h0]
theorem UN {o:aG} {fo fl:List bH} (ho:lY o fo) (hso:Short o):∀ (ns:List (List UInt8)) (b:aG),lY b fl->(iZ o b ns).2=0->lY (iZ o b ns).1 fl
 | [],b,hb,_=>hb
 | n::r,b,hb,h=>by
   unfold iZ at h ⊢;cases hp:placeOf n with
   | none=>rw [hp] at h;exact absurd h (by simp)
   | some p=>
     rw [hp] at h;simp only at h ⊢;by_cases hz:aV o p=(0,[])
     ·rw [ak hz] at h ⊢
      exact UN ho hso r _ (QD hb p (Gj n p hp).2.1) h
     ·rw [ah hz] at h ⊢
      by_cases hc:aB (aK p) (aV o p).1 (aV o p).2 p=0
      ·rw [ak hc] at h ⊢
       obtain ⟨v1,v2⟩:=V7 ho hso p;obtain ⟨q1,q2,q3⟩:=Vz hb.body hb.d hb.t v1 v2 hc;exact UN ho hso r _ ⟨q1,q2,q3,hb.f8,hb.len⟩ h
      ·rw [ah hc] at h
       exact absurd h hc
theorem aej (b:aG) (fb:List bH):uy b fb b fb=[]:=by
 unfold uy iL;rw [ak rfl,ak (tq rfl)];simp
set_option maxHeartbeats 4000000 in
theorem crossTells (gs:List GV) (h:hasArgs [(true,UR),(true,UR),(false,[.list false [.str]])] gs):TT.lim 1 gs=some [.b true]:=by
 obtain ⟨c1,gs,rfl,h1,h⟩:=ZU h;obtain ⟨c2,gs,rfl,h2,h⟩:=ZU h;obtain ⟨g,gs,rfl,h3,h⟩:=agZ h;obtain rfl:=agY h;obtain ⟨b,l,hb,hl,e⟩:=abO h1;obtain ⟨o,l2,ho,hl2,e2⟩:=abO h2;obtain ⟨ns,rfl, -, -⟩:=ag1 h3;rw [e,e2];have hf:=Zl b l hb hl;have hf2:=Zl o l2 ho hl2;clear h1 h2 h3 h e e2;unfold strs;have hnl:((ns.map GV.s).length:Int)=(ns.length:Int):=by rw [oQ]
 cases hfw:Dk b l with
 | false=>
   rw [hfw] at hf;refine aA rfl rfl ?_ rfl;simp [jC,hf]
 | true=>
 cases hfw2:Dk o l2 with
 | false=>
   rw [hfw] at hf;rw [hfw2] at hf2;refine aA rfl rfl ?_ rfl;simp [jC,hf,hf2]
 | true=>
 rw [hfw] at hf;rw [hfw2] at hf2;obtain ⟨mb,hsb,Zg⟩:=abP hb hl hfw;obtain ⟨mo,hso,Zh⟩:=abP ho hl2 hfw2;have hsh:Short o:=by
  unfold Dk at hfw2;simp only [aH,decide_eq_true_iff] at hfw2;exact ⟨hfw2.1,hfw2.2.1,hfw2.2.2.1⟩
 have hm:=aa0 b l hl Zg;have hm2:=aa0 o l2 hl2 Zh;have ct:=Qx b.t mb.body.t mb.t.few;have QJ:=Qx o.t mo.body.t mo.t.few;clear hb ho hl hl2 hfw hfw2 Zg Zh;generalize l.map one=L1 at *;generalize l2.map one=L2 at *;generalize uI l=fb at *;generalize uI l2=fo at *;by_cases XR:30 < ns.length
 ·have XR:(30:Int) < ns.length:=by omega
  clear hm hm2;generalize ns.map GV.s=NS at *;refine aA rfl rfl ?_ rfl;simp [jC,hf,hf2,hnl,XR]
 have Qr:¬ (30:Int) < ns.length:=by omega
 have p1:=ajN mo hsh mb hsb ns (by omega);have p2:=akW mo hsh mb ns (by omega);have pm:=λh=>UN (fl:=fb) mo hsh ns b mb h;have k1:=X5 mb mo hsb;have k2:=akh mb mo;have k3:=X5 mb mb hsb;rw [aej,qA] at k3;have o1:=Jt b fb (wE mb.d) mb.t mb.f8 mb.len;have o2:=Jt o fo (wE mo.d) mo.t mo.f8 mo.len;have oz:=Jt gB [] (wE uS.d) uS.t uS.f8 uS.len;have sz:=acd gB gB [] [] uS.body uS.body (wE uS.d) uS.t uS.f8 uS.f8 uS.len uS.len;rw [tq ⟨rfl,rfl⟩] at sz;have fn:aQ []=[]:=by simp only [aQ]
 rw [fn] at oz sz;have he:TT.lim 126 [.l ((uy b fb o fo).map .s),.l ((uy b fb o fo).map .s)]=some [.b true]:=by
  have hle:(uy b fb o fo).length<=140737488351232:=by
   have:=QA b o bD;have h22:bD.length=22:=by decide
   unfold uy;rw [iJ,iJ];split<;>split<;>simp<;>omega
  have:=afs (uy b fb o fo) (uy b fb o fo) hle hle;rw [Dh rfl] at this;exact this
 generalize (uy b fb o fo).map GV.s=CH at *
 have done:∀ (B:aG) (F:List GV) (er:Int),TT.lim 29 [aJ b (aQ fb),aJ o (aQ fo),.l (ns.map .s)]=some [aJ B F,.i .i64 er]->TT.lim 67 [aJ b (aQ fb),aJ o (aQ fo),.l (ns.map .s)]=some [aJ B F,.i .i64 er]->
  TT.lim 60 [aJ B F]=some [aJ B F]->TT.lim 128 [aJ B F,aJ B F]=some [.b true]->
  TT.lim 1 [aJ b L1,aJ o L2,.l (ns.map GV.s)]=some [.b true]:=by
  intro B F er q1 q2 q3 q4;clear p1 p2 pm oz sz;by_cases t1:qH b.t=0;rotate_left
  ·generalize qH b.t=E1 at *
   generalize qH o.t=E2 at *;clear hm hm2 q1 q2 q3 q4 k1 k2 k3 o1 o2 he;generalize ns.map GV.s=NS at *;generalize (ns.length:Int)=NL at *;unfold aJ at hf hf2 ⊢;refine aA rfl rfl ?_ rfl;simp -implicitDefEqProofs (maxSteps:=10000000) [↓iE,hf,hf2,hnl,Qr,ct,t1]
  by_cases t2:qH o.t=0;rotate_left
  ·rw [t1] at ct
   generalize qH o.t=E2 at *;clear hm hm2 q1 q2 q3 q4 k1 k2 k3 o1 o2 he;generalize ns.map GV.s=NS at *;generalize (ns.length:Int)=NL at *;unfold aJ at hf hf2 ⊢;refine aA rfl rfl ?_ rfl;simp -implicitDefEqProofs (maxSteps:=10000000) [↓iE,hf,hf2,hnl,Qr,ct,QJ,t2]
  rw [t1] at ct;rw [t2] at QJ;clear t1 t2 hsh mb mo hsb hso;generalize ns.map GV.s=NS at *;generalize (ns.length:Int)=NL at *;generalize aQ fb=r1 at *;generalize aQ fo=r2 at *;unfold aJ at *;refine aA rfl rfl ?_ rfl;simp -implicitDefEqProofs (maxSteps:=10000000) [↓iE,hf,hf2,hnl,Qr,ct,QJ,hm,hm2,o1,o2,k1,k2,k3,he,q1,q2,q3,q4]
 by_cases er:(iZ o b ns).2=0
 ·rw [ak er] at p1 p2
  have mp:=pm er;exact done _ _ _ p1 p2 (Jt _ fb (wE mp.d) mp.t mp.f8 mp.len) (by
   have s:=acd (iZ o b ns).1 (iZ o b ns).1 fb fb mp.body mp.body (wE mp.d) mp.t mp.f8 mp.f8 mp.len mp.len;rw [tq ⟨rfl,rfl⟩] at s;exact s)
 ·rw [ah er] at p1 p2
  exact done _ _ _ p1 p2 oz sz
end C
end Go.Proofs.YtcpfjpcdcafjmaaGreatDoor
