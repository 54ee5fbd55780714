/- What the trees compute: plain laws. -/
import Derived.Test.YtcpfjpcdcafjmaaGreatDoorKKe5
namespace Go.Proofs.YtcpfjpcdcafjmaaGreatDoor
open Go Go.aO
set_option linter.unusedSimpArgs false
set_option linter.unusedVariables false
set_option maxRecDepth 100000
namespace K
theorem ace (n:List UInt8) (ks:List (List UInt8)) (hl:ks.length<=1000):∀ (m i:Nat),i+m=ks.length->
 (n∈ks.drop i->∃j:Nat,TT.lim 145 [.l (ks.map .s),.s n,.i .i64 ks.length,.i .i64 i]=some [.i .i64 0,.i .i64 j])/\
 (n∉ks.drop i->TT.lim 145 [.l (ks.map .s),.s n,.i .i64 ks.length,.i .i64 i]=some [.i .i64 1])
 | 0,i,hi=>by
   have h:¬ ((i:Int) < ks.length):=by omega
   have e:ks.drop i=[]:=gG (by omega);rw [e];refine ⟨λh=>by (cases h),λ_=>?_⟩;refine ay rfl rfl ?_;simp [h]
 | m+1,i,hi=>by
   have hlt:i < ks.length:=by omega
   have h:((i:Int) < ks.length):=by omega
   have hw:=wrap64 (n:=(i:Int)+1) (by omega) (by omega);have hcast:((i+1:Nat):Int)=(i:Int)+1:=by omega
   have hd2:=iQ hlt;have hget:(ks.map GV.s)[i]? = some (.s ks[i]):=by rw [iL,bT hlt];rfl
   obtain ⟨ih1,ih2⟩:=ace n ks hl m (i+1) (by omega);rw [hcast] at ih1 ih2;rw [hd2];by_cases e:n=ks[i]
   ·refine ⟨λ_=>⟨i, ?_⟩,λh=>absurd (cO.2 (.inl e)) h⟩
    rw [<- e] at hget;clear ih1 ih2 hd2 e;generalize ks.map GV.s=NS at *;generalize (ks.length:Int)=L at *;refine ay rfl rfl ?_;simp [h,hw,hget]
   ·have e':(n=ks[i])=False:=eq_false e
    refine ⟨λhm=>?_,λhm=>?_⟩
    ·obtain ⟨j,hj⟩:=ih1 (by
      rcases cO.1 hm with h | h
      ·exact absurd h e
      ·exact h)
     clear ih1 ih2 hd2 e hm;generalize ks.map GV.s=NS at *;generalize (ks.length:Int)=L at *;refine ⟨j,ay rfl rfl ?_⟩;simp [h,hw,hget,e',hj]
    ·have hj:=ih2 λh=>hm (yN _ h)
     clear ih1 ih2 hd2 e hm;generalize ks.map GV.s=NS at *;generalize (ks.length:Int)=L at *;refine ay rfl rfl ?_;simp [h,hw,hget,e',hj]
theorem ajI (n:List UInt8) (ks:List (List UInt8)) (hl:ks.length<=1000):TT.lim 143 [.l (ks.map .s),.s n]=some [.b (decide (n∈ks))]:=by
 have hnl:((ks.map GV.s).length:Int)=(ks.length:Int):=by rw [nV]
 obtain ⟨h1,h2⟩:=ace n ks hl ks.length 0 (by omega);rw [dY] at h1 h2;simp only [vP] at h1 h2;by_cases e:n∈ks
 ·obtain ⟨j,hj⟩:=h1 e
  have k:TT.lim 144 [.l (ks.map .s),.s n]=some [.i .i64 (j:Int)]:=by
   generalize ks.map GV.s=NS at *;generalize (ks.length:Int)=L at *;refine aW rfl rfl ?_ rfl;simp [hnl,hj]
  have h0:(0:Int)<=(j:Int):=by omega
  rw [yh e];generalize ks.map GV.s=NS at *;refine aW rfl rfl ?_ rfl;simp [k,h0]
 ·have hj:=h2 e
  have k:TT.lim 144 [.l (ks.map .s),.s n]=some [.i .i64 (-1)]:=by
   generalize ks.map GV.s=NS at *;generalize (ks.length:Int)=L at *;refine aW rfl rfl ?_ rfl;simp [hnl,hj]
  rw [yg e];generalize ks.map GV.s=NS at *;refine aW rfl rfl ?_ rfl;simp [k]
theorem abN {b:aB} {fl:List aF} (hm:tu b fl) (v:Int):TT.lim 29 [bU b (aC fl),.i .i64 v]=some [.b (decide ((kN b fl v).2=0))]:=by
 have k:=LV hm v;generalize kN b fl v=E at *;generalize aC fl=r at *;refine aW rfl rfl ?_ rfl;simp -implicitDefEqProofs (maxSteps:=10000000) [↓jF,jk,k]
theorem aok {s:List UInt8} {v:Int} (hs:s.length<=140737488351232) {B:aB} {F:List aF} (hd:yc s v=(B,F,0)) (hm:tu B F):TT.lim 128 [.s s,.i .i64 v]=some [.s (kN B F v).1,.i .i64 (kN B F v).2]:=by
 have k1:=decode_ok s v hs;rw [hd] at k1;simp only at k1;have k2:=LV hm v;generalize kN B F v=E at *;generalize aC F=r at *;refine aW rfl rfl ?_ rfl;simp -implicitDefEqProofs (maxSteps:=10000000) [↓jF,jk,k1,k2]
theorem aqw {l:List bM} {i:Nat} (h:i < l.length):(l.map dN)[i]? = some (dN l[i]):=by rw [iL,bT h];rfl
theorem aiX {b:aB} {fl:List aF} (h:jE b fl) (hs:Short b) (q:Pl):TT.lim 138 [.l [.g [.i .u64 0,.i .i64 (aV q),.i .u64 (aK b q).1,.s (aK b q).2,.l []]],.l [.g [.i .u64 0,.i .i64 (aV q),.i .u64 (aK b q).1,.s (aK b q).2,.l []]]]=some [.b true]:=by
 obtain ⟨⟨v1,v2⟩,v3⟩:=MR h hs q;have ht : -128<=aV q/\aV q<=127:=by rcases afc b q with ⟨e, -⟩ | ⟨e, -⟩<;>omega
 have hok:bY [.mk 0 (aV q) (aK b q).1 (aK b q).2 []]:=by
  simp only [bY,oN,uF,and_true];exact ⟨by omega,by omega,ht.1,ht.2,v1,v2,v3,by omega⟩
 have k:=abE [.mk 0 (aV q) (aK b q).1 (aK b q).2 []] [.mk 0 (aV q) (aK b q).1 (aK b q).2 []] hok hok (by simp) (by simp) (by simp [bI,qj]);rw [jP rfl] at k;simp only [aC,nJ] at k;exact k
set_option maxHeartbeats 4000000 in
theorem ZM {a b:aB} {fa fb:List aF} (ha:jE a fa) (hb:jE b fb) (hsb:Short b) (y:aB) (x0 x1 x2 r3:GV) (r1 r2:List GV) (e1:aC fa=r1) (e2:aC fb=r2) (ls:List bM) (hl:ls.length<=1000) (hls:∀s∈ls,∃q,placeOf s.name=some q/\aK a q=aK b q):∀ (m i:Nat) (acc:List (List UInt8)),i+m=ls.length->acc.length<=i->
 TT.lim 141 ([x0,x1,x2,.l (acc.map .s),.l (ls.map dN),.i .i64 ls.length,.i .i64 i]++(.i .i64 a.kind::(bg a++[.l r1]))++(.i .i64 b.kind::(bg b++[.l r2]))++(.i .i64 y.kind::(bg y++[r3])))=some [.i .i64 1,.l ((acc++(ls.drop i).map bM.name).map .s)]
 | 0,i,acc,hi,hacc=>by
   have h:¬ ((i:Int) < ls.length):=by omega
   have e:ls.drop i=[]:=gG (by omega);rw [e];simp only [wU,mG,bg,cu,bK];generalize acc.map GV.s=A at *;refine ay rfl rfl ?_;simp [h]
 | m+1,i,acc,hi,hacc=>by
   have hlt:i < ls.length:=by omega
   have h:((i:Int) < ls.length):=by omega
   have hw:=wrap64 (n:=(i:Int)+1) (by omega) (by omega);have hcast:((i+1:Nat):Int)=(i:Int)+1:=by omega
   have hd2:=iQ hlt;have hget:(ls.map dN)[i]? = some (.g [.i .u64 ls[i].tag,.i .i64 ls[i].use,.i .i64 ls[i].from_,.s ls[i].name]):=aqw hlt;obtain ⟨q,hq,hv⟩:=hls _ (jf hlt);have va:=VZ ha hq;have vb:=VZ hb hq;have fs:=aiX hb hsb q;rw [hv] at va;have la:(acc.map GV.s).length=acc.length:=nV _;have c1:2 * ((acc.map GV.s).length+1) * 16<=281474976710656/\(acc.map GV.s).length+1<=281474976710656:=by omega
   have ih:=ZM ha hb hsb y x0 x1 x2 r3 r1 r2 e1 e2 ls hl hls m (i+1) (acc++[ls[i].name]) (by omega) (by rw [dQ,yM];omega);rw [hd2,iY];have happ:acc++[ls[i].name]++(ls.drop (i+1)).map bM.name=acc++(ls[i].name::(ls.drop (i+1)).map bM.name):=by simp
   rw [hcast,happ,wS (l₂:=[ls[i].name]),iY,wU] at ih;generalize (acc++(ls[i].name::(ls.drop (i+1)).map bM.name)).map GV.s=O at *;clear hd2 happ hv hq hls ha hb;generalize aV q=ty at *;generalize (aK b q).1=vn at *;generalize (aK b q).2=vt at *;generalize ls[i].tag=s1 at *;generalize ls[i].use=s2 at *;generalize ls[i].from_=s3 at *;generalize ls[i].name=n at *;generalize ls.map dN=LS at *;generalize (ls.length:Int)=L at *;generalize acc.map GV.s=A at *;unfold bU at va vb;rw [e1] at va;rw [e2] at vb;simp only [bg,cu,bK] at ih ⊢;refine ay rfl rfl ?_;simp -implicitDefEqProofs (maxSteps:=10000000) [↓jF,h,hw,hget,va,vb,fs,Ue,c1,ih]
theorem TJ (a b y:aB) (x1 x2 r1 r2 r3:GV) (ks ns:List (List UInt8)) (hk:ks.length<=1000) (hl:ns.length<=1000):∀ (m i:Nat) (acc:List (List UInt8)),i+m=ns.length->acc.length<=i->
 TT.lim 142 ([x1,x2,.l (ks.map .s),.l (acc.map .s),.l (ns.map .s),.i .i64 ns.length,.i .i64 i]++(.i .i64 a.kind::(bg a++[r1]))++(.i .i64 b.kind::(bg b++[r2]))++(.i .i64 y.kind::(bg y++[r3])))=some [.i .i64 0,.l ((acc++(ns.drop i).filter (λn=>decide (n∈ks))).map .s)]
 | 0,i,acc,hi,hacc=>by
   have h:¬ ((i:Int) < ns.length):=by omega
   have e:ns.drop i=[]:=gG (by omega);rw [e];simp only [YM,mG,bg,cu,bK];generalize acc.map GV.s=A at *;refine ay rfl rfl ?_;simp [h]
 | m+1,i,acc,hi,hacc=>by
   have hlt:i < ns.length:=by omega
   have h:((i:Int) < ns.length):=by omega
   have hw:=wrap64 (n:=(i:Int)+1) (by omega) (by omega);have hcast:((i+1:Nat):Int)=(i:Int)+1:=by omega
   have hd2:=iQ hlt;have hget:(ns.map GV.s)[i]? = some (.s ns[i]):=by rw [iL,bT hlt];rfl
   have hc:=ajI ns[i] ks hk;have la:(acc.map GV.s).length=acc.length:=nV _;have c1:2 * ((acc.map GV.s).length+1) * 16<=281474976710656/\(acc.map GV.s).length+1<=281474976710656:=by omega
   rw [hd2,GK];by_cases hm:ns[i]∈ks
   ·rw [yh hm] at hc ⊢
    rw [aj rfl];have ih:=TJ a b y x1 x2 r1 r2 r3 ks ns hk hl m (i+1) (acc++[ns[i]]) (by omega) (by rw [dQ,yM];omega);have happ:acc++[ns[i]]++(ns.drop (i+1)).filter (λn=>decide (n∈ks))=acc++(ns[i]::(ns.drop (i+1)).filter (λn=>decide (n∈ks))):=by simp
    rw [hcast,happ,wS (l₂:=[ns[i]]),iY,wU] at ih;generalize (acc++(ns[i]::(ns.drop (i+1)).filter (λn=>decide (n∈ks)))).map GV.s=O at *;clear hd2 happ hm;generalize ks.map GV.s=KS at *;generalize ns[i]=n at *;generalize ns.map GV.s=NS at *;generalize (ns.length:Int)=L at *;generalize acc.map GV.s=A at *;simp only [bg,cu,bK] at ih ⊢;refine ay rfl rfl ?_;simp -implicitDefEqProofs (maxSteps:=10000000) [↓jF,h,hw,hget,hc,Ue,c1,ih]
   ·rw [yg hm] at hc ⊢
    rw [ah (by decide)];have ih:=TJ a b y x1 x2 r1 r2 r3 ks ns hk hl m (i+1) acc (by omega) (by omega);rw [hcast] at ih;generalize (acc++(ns.drop (i+1)).filter (λn=>decide (n∈ks))).map GV.s=O at *;clear hd2 hm;generalize ks.map GV.s=KS at *;generalize ns[i]=n at *;generalize ns.map GV.s=NS at *;generalize (ns.length:Int)=L at *;generalize acc.map GV.s=A at *;simp only [bg,cu,bK] at ih ⊢;refine ay rfl rfl ?_;simp -implicitDefEqProofs (maxSteps:=10000000) [↓jF,h,hw,hget,hc,Ue,c1,ih]
end K
end Go.Proofs.YtcpfjpcdcafjmaaGreatDoor
