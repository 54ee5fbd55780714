/- What the trees compute: plain laws. -/
import Derived.Test.YtpioimdhbbgniaaGreatDoorKLe5
namespace Go.Proofs.YtpioimdhbbgniaaGreatDoor
open Go Go.aJ
set_option linter.unusedSimpArgs false
set_option linter.unusedVariables false
set_option maxRecDepth 100000
namespace L
theorem akW (x:List UInt8) (c:Int) (h:0<=c/\c<=9223372036854775807/\x.length * c.toNat<=140737488355328):TT.lim 2 [.s x,.i .i64 c]=some [.s (Lib.repeatL x c.toNat)]:=
 Hz rfl (by simp only [J8];rw [ak h])
theorem aic (X:List UInt8):TT.lim 3 [.l [.g [.i .u8 0,.i .u64 9,.i .i8 1,.i .u64 0,.s X]]]=some [.i .i64 0,.l [.g [.i .u64 9,.i .i64 1,.i .u64 0,.s X,.l []]]]:=by
 have w1:IntKind.u8.wrap 1=1:=by decide
 have w2:IntKind.i64.wrap 1=1:=by decide
 have a1:TT.lim 5 [.l [],.i .u8 1,.l []]=some [.i .i64 0,.l [],.l []]:=by
  refine aA rfl rfl ?_;simp
 have a2:TT.lim 4 [.l [],.i .u8 1]=some [.i .i64 0,.l [],.l []]:=by
  refine aA rfl rfl ?_;simp [a1]
 have a3:TT.lim 5 [.l [],.i .u8 0,.l [.g [.i .u64 9,.i .i64 1,.i .u64 0,.s X,.l []]]]=some [.i .i64 0,.l [],.l [.g [.i .u64 9,.i .i64 1,.i .u64 0,.s X,.l []]]]:=by
  refine aA rfl rfl ?_;simp
 have e5:(GV.g [.i .u64 9,.i .i64 1,.i .u64 0,.s X,.l []]).fQ 5=true:=rfl;have a4:TT.lim 5 [.l [.g [.i .u8 0,.i .u64 9,.i .i8 1,.i .u64 0,.s X]],.i .u8 0,.l []]=some [.i .i64 0,.l [],.l [.g [.i .u64 9,.i .i64 1,.i .u64 0,.s X,.l []]]]:=by
  refine aA rfl rfl ?_;simp [a2,a3,w1,w2,e5]
 have a5:TT.lim 4 [.l [.g [.i .u8 0,.i .u64 9,.i .i8 1,.i .u64 0,.s X]],.i .u8 0]=some [.i .i64 0,.l [.g [.i .u64 9,.i .i64 1,.i .u64 0,.s X,.l []]],.l []]:=by
  refine aA rfl rfl ?_;simp [a4]
 refine aA rfl rfl ?_;simp [a5]
def jX:aB:={ dG with kind:=7 }
theorem aaU (X:List UInt8) (h:X.length<=100000):EU jX [.mk 9 1 0 X []]:=by
 refine ⟨⟨by constructor<;>simp [jX,dG,yS,Rows],by simp [jX,dG,iV],KQ.t, ?_,by simp⟩,by simp [Short,jX,dG],by simp [cu,su], ?_⟩
 ·simp only [dS,pG,sJ,and_true]
  omega
 ·simp only [wL,wF]
  omega
theorem TW (X:List UInt8):gJ jX [.mk 9 1 0 X []] 3=0:=by
 have h1:aN jX.kind 3=qZ:=rfl;have h2:l9.all (λn=>qN qZ n || nD jX n)=true:=by decide
 have h3:kZ jX qZ=0:=by decide
 have h4:uK jX=0:=by decide
 unfold gJ;rw [h1,ah (by decide),ah (by decide),ah (by simp [qZ]),h2,ah (by decide),h3,ah (by decide),h4,ah (by decide)];have h5:gK 0 0 [.mk 9 1 0 X []]=0:=by simp [gK,uM,aH.tag]
 have h6:[aH.mk 9 1 0 X []].any (λf=>hasTag qZ f.tag)=false:=by simp [hasTag,qZ,aH.tag]
 unfold Eb;rw [h5,h6];rfl
theorem aaT (X:List UInt8) (h:X.length=65531\/X.length=65532):(bytesV jX [.mk 9 1 0 X []] 3).length=X.length+5:=by
 have hk:je jX (aN jX.kind 3)=[]:=by
  have h1:aN jX.kind 3=qZ:=rfl;rw [h1];rfl
 have ha:qH jX [.mk 9 1 0 X []] 3=[.mk 9 1 0 X []]:=by
  obtain ⟨mp, -⟩:=Gp (E5 (TW X));rw [hk,fJ] at mp;unfold qH;rw [hk];exact List.perm_singleton.1 mp
 have h3:(aP X.length).length=3:=by
  show fF X.length=3
  rcases h with e | e<;>rw [e,Et (by decide),Et (by decide),Qe (by decide)]
 unfold bytesV;rw [ha];simp only [bH,FT];rw [ah (by decide),ak trivial,mM,bY,bY,bY,h3];have h7:(aP jX.kind.toNat).length=1:=Qe (by decide);have h8:(aP (4 * (9:Int)+1).toNat).length=1:=Qe (by decide);rw [h7,h8];omega
theorem schemaLong (gs:List GV) (h:hasArgs [] gs):TT.lim 1 gs=some [.b true]:=by
 obtain rfl:=agQ h;have hr:=akW [120] 65531 (by decide);obtain ⟨X,hX⟩:∃X,Lib.repeatL [120] (65531:Int).toNat=X:=⟨_,rfl⟩
 have hl:X.length=65531:=by
  rw [<- hX,Lib.repeatL_length];rfl
 rw [hX] at hr;clear hX;have mk:=aic X;have w1:=aaU X (by omega);have hc:=TW X;have hL:=aaT X (.inl hl);have en:Dp jX [.mk 9 1 0 X []] 3=(bytesV jX [.mk 9 1 0 X []] 3,0):=by
  unfold Dp;rw [ak hc,ah (by omega)]
 have k1:=abO w1 3;rw [en] at k1;have d1:=akR w1 hc (w:=3) (by decide) (by decide) (by decide) (by omega);obtain ⟨s1,s2⟩:=akS hc;rw [s1,s2] at d1;have k2:=decode_ok (bytesV jX [.mk 9 1 0 X []] 3) 3 (by omega);rw [d1] at k2;have w2:=aaU (X++[120]) (by rw [bY,uy];omega);have hc2:=TW (X++[120]);have hL2:=aaT (X++[120]) (.inr (by rw [bY,uy];omega));rw [bY,uy] at hL2;have Zq:Dp jX [.mk 9 1 0 (X++[120]) []] 3=([],4):=by
  unfold Dp;rw [ak hc2,ak (by omega)]
 have k3:=abO w2 3;rw [Zq] at k3;have k4:=decode_ok (bytesV jX [.mk 9 1 0 X []] 3++[120]) 3 (by rw [bY,uy];omega);have d4:zk (bytesV jX [.mk 9 1 0 X []] 3++[120]) 3=(dG,[],4):=by
  unfold zk;rw [ah (by decide),ah (by decide),ak (by rw [bY,uy];omega)]
 rw [d4] at k4;have hLi:((bytesV jX [.mk 9 1 0 X []] 3).length:Int)=65536:=by omega
 have hXi:(X.length:Int)=65531:=by omega
 clear hc hL en d1 s1 s2 w1 w2 hc2 hL2 Zq d4;generalize bytesV jX [.mk 9 1 0 X []] 3=BY at *;simp only [aF,kW,jX,dG,jf,Ai] at k1 k2 k3 k4;have b1:X.length+1<=140737488355328:=by omega
 have b2:BY.length+1<=140737488355328:=by omega
 have hput:(GV.g [.i .u64 9,.i .i64 1,.i .u64 0,.s X,.l []]).put 3 [.s (X++[120])]=some (.g [.i .u64 9,.i .i64 1,.i .u64 0,.s (X++[120]),.l []]):=rfl;have w0:IntKind.i64.wrap 0=0:=by decide
 have w4:IntKind.i64.wrap 4=4:=by decide
 refine bF rfl rfl ?_ rfl;simp -implicitDefEqProofs (maxSteps:=10000000) [↓FY,hr,mk,k1,k2,k3,k4,hLi,hXi,hput,w0,w4]
end L
end Go.Proofs.YtpioimdhbbgniaaGreatDoor
