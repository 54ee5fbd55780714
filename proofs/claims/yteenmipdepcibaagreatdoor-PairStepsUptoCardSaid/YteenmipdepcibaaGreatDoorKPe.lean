/- What the trees compute: plain laws. -/
import Derived.Test.YteenmipdepcibaaGreatDoorKPe8
set_option linter.unusedSimpArgs false
set_option linter.unusedVariables false
namespace Go.Proofs.YteenmipdepcibaaGreatDoor
open Go Go.aN
set_option maxRecDepth 100000
namespace P
def OY(y:Pr):Q1:=match kK y with
 |some a=>.i .i64 0::.i .u64 a::iM y
 |none=>.i .i64 1::iM y
theorem yG{h:List It}{n:Nat}(hn:h.length=n+1):at2 3 (some (.l (h.map bJ))) (some (.i .i64 0))=some (bJ (at_ h 0))/\Dc (some (.l (h.map bJ))) (some (.i .i64 0))=some (.i .i64 0):=by have a0:=zY (h:=h) (k:=0) (by omega);have i0:=zl (h:=h) (k:=0) (by omega);exact⟨a0,i0⟩
theorem Pe{x:Pr}{a:Int}(h:kK x=some a):Pg x=a:=by unfold Pg;rw[h];rfl
set_option maxHeartbeats 4000000 in
theorem afP(last at0:Int):∀(f:Nat)(x:Pr),gq x->x.now<=800000000000->dF x<=80000->dF x<f->
 TT.lim 255 ([.i .u64 last,.i .u64 (Pg x),.b (kK x).isSome,.i .u64 at0]++bZ x)=some (OY (wI f x))
 |0,x,hx,jc,hg,hf=>by omega
 |f+1,x,hx,jc,hg,hf=>by
  unfold wI;cases hn:kK x with
  |none=>simp only;unfold OY Pg;rw[hn];simp only[acB,uD,bZ,iM,fA,dL,lW,bC,aV];refine au rfl rfl ?_;simp
  |some a=>
   rw[Pe hn];simp only[WX];by_cases c:a<=x.now;rotate_left
   ·rw[ah c];unfold OY;rw[hn];simp only[bZ,iM,fA,dL,lW,bC,aV];refine au rfl rfl ?_;simp -implicitDefEqProofs[c]
   rw[aj c];obtain⟨g1,g2⟩:=XG hx hn c;have hc:=ak3 x hx jc hg;have ih:=afP last at0 f (uJ x) g1 (by rw[RH];exact jc) (by omega) (by omega);have hfx:=ady x;have hnw:=RH x;generalize OY (wI f (uJ x))=R at *;have hcs:=ag4 (uJ x);generalize uJ x=E at *;have CG:((E.k0.h.map bJ).length:Int)=(E.k0.h.length:Int):=by rw[fE]
   have el1:((E.k1.h.map bJ).length:Int)=(E.k1.h.length:Int):=by rw[fE]
   rcases hcs with⟨q0,q1,q2⟩|⟨n,q0,q1,q2⟩|⟨n,q0,q1,q2⟩|⟨n,m,q0,q1,q2⟩
   ·unfold Pg at ih;rw[q2]at ih;simp only[acB,uD,bZ,iM,fA,dL,lW,bC,aV]at hc ih⊢;rw[hnw,hfx.a.1,hfx.a.2.1,hfx.a.2.2.1,hfx.a.2.2.2,hfx.b.1,hfx.b.2.1,hfx.b.2.2.1,hfx.b.2.2.2,q0,q1]at ih;rw[q0,q1]at hc;simp only[jl]at hc ih;refine au rfl rfl ?_;simp -implicitDefEqProofs[c,hc,ih]
   ·rw[Pe q2,q2]at ih;obtain⟨t1,t2⟩:=yG q0;have hne:¬(E.k0.h.length:Int)=0:=by omega
    simp only[WX,bZ,iM,fA,dL,lW,bC,aV]at hc ih⊢;rw[hnw,hfx.a.1,hfx.a.2.1,hfx.a.2.2.1,hfx.a.2.2.2,hfx.b.1,hfx.b.2.1,hfx.b.2.2.1,hfx.b.2.2.2,q1]at ih;rw[q1]at hc;simp only[jl]at hc ih;generalize at_ E.k0.h 0=z at *;generalize E.k0.h.map bJ=H0 at *;generalize(E.k0.h.length:Int)=n0 at *;refine au rfl rfl ?_;simp -implicitDefEqProofs[-jh,-dY,c,hc,CG,hne,t1,t2,ih]
   ·rw[Pe q2,q2]at ih;obtain⟨t1,t2⟩:=yG q1;have hne:¬(E.k1.h.length:Int)=0:=by omega
    simp only[WX,bZ,iM,fA,dL,lW,bC,aV]at hc ih⊢;rw[hnw,hfx.a.1,hfx.a.2.1,hfx.a.2.2.1,hfx.a.2.2.2,hfx.b.1,hfx.b.2.1,hfx.b.2.2.1,hfx.b.2.2.2,q0]at ih;rw[q0]at hc;simp only[jl]at hc ih;generalize at_ E.k1.h 0=z at *;generalize E.k1.h.map bJ=H0 at *;generalize(E.k1.h.length:Int)=n0 at *;refine au rfl rfl ?_;simp -implicitDefEqProofs[-jh,-dY,c,hc,el1,hne,t1,t2,ih]
   ·rw[Pe q2,q2]at ih;obtain⟨t1,t2⟩:=yG q0;obtain⟨u1,u2⟩:=yG q1;have hne:¬(E.k0.h.length:Int)=0:=by omega
    have hne1:¬(E.k1.h.length:Int)=0:=by omega
    simp only[WX,bZ,iM,fA,dL,lW,bC,aV]at hc ih⊢;rw[hnw,hfx.a.1,hfx.a.2.1,hfx.a.2.2.1,hfx.a.2.2.2,hfx.b.1,hfx.b.2.1,hfx.b.2.2.1,hfx.b.2.2.2]at ih;generalize at_ E.k0.h 0=z at *;generalize E.k0.h.map bJ=H0 at *;generalize(E.k0.h.length:Int)=n0 at *;generalize at_ E.k1.h 0=y at *;generalize E.k1.h.map bJ=H1 at *;generalize(E.k1.h.length:Int)=n1 at *;refine au rfl rfl ?_;simp -implicitDefEqProofs[-jh,-dY,c,hc,CG,el1,hne,hne1,t1,t2,u1,u2,ih]
set_option maxHeartbeats 8000000 in
theorem afh:∀(f:Nat)(last:Int)(x:Pr),gq x->x.now<=last->last<=800000000000->dF x<=80000->(last-x.now).toNat<f->
 TT.lim 254 (.i .u64 last::bZ x)=some (.i .i64 0::iM (ig f last x))\/
 TT.lim 254 (.i .u64 last::bZ x)=some (.i .i64 1::.i .u64 last::iM (ig f last x))
 |0,last,x,hx,hle,hl,hg,hf=>by omega
 |f+1,last,x,hx,hle,hl,hg,hf=>by
  unfold ig;by_cases c:x.now<last;rotate_left
  ·rw[ah c];have e:x.now=last:=by omega
   refine .inr ?_;simp only[bZ,iM,fA,dL,lW,bC,aV];rw[e];refine au rfl rfl ?_;simp
  rw[aj c];have hcs:=ag4 x;have CG:((x.k0.h.map bJ).length:Int)=(x.k0.h.length:Int):=by rw[fE]
  have el1:((x.k1.h.map bJ).length:Int)=(x.k1.h.length:Int):=by rw[fE]
  cases hn:kK x with
  |none=>
   simp only;have q:x.k0.h=[]/\x.k1.h=[]:=by
    rcases hcs with⟨q0,q1,q2⟩|⟨n,q0,q1,q2⟩|⟨n,q0,q1,q2⟩|⟨n,m,q0,q1,q2⟩
    ·exact⟨q0,q1⟩
    ·rw[hn]at q2;cases q2
    ·rw[hn]at q2;cases q2
    ·rw[hn]at q2;cases q2
   refine .inl ?_;simp only[bZ,iM,fA,dL,lW,bC,aV];rw[q.1,q.2];simp only[jl];refine au rfl rfl ?_;simp -implicitDefEqProofs[c]
  |some a=>
   simp only;rw[hn]at hcs;by_cases c2:last<a
   ·rw[aj c2];refine .inl ?_;simp only[bZ,iM,fA,dL,lW,bC,aV];rcases hcs with⟨q0,q1,q2⟩|⟨n,q0,q1,q2⟩|⟨n,q0,q1,q2⟩|⟨n,m,q0,q1,q2⟩
    ·cases q2
    ·injection q2 with q2
     obtain⟨t1,t2⟩:=yG q0;have hne:¬(x.k0.h.length:Int)=0:=by omega
     rw[q2]at c2;rw[q1];simp only[jl];clear q2 hn;generalize at_ x.k0.h 0=z at *;generalize x.k0.h.map bJ=H0 at *;generalize(x.k0.h.length:Int)=n0 at *;refine au rfl rfl ?_;simp -implicitDefEqProofs[-jh,-dY,c,c2,CG,hne,t1,t2]
    ·injection q2 with q2
     obtain⟨t1,t2⟩:=yG q1;have hne:¬(x.k1.h.length:Int)=0:=by omega
     rw[q2]at c2;rw[q0];simp only[jl];clear q2 hn;generalize at_ x.k1.h 0=z at *;generalize x.k1.h.map bJ=H0 at *;generalize(x.k1.h.length:Int)=n0 at *;refine au rfl rfl ?_;simp -implicitDefEqProofs[-jh,-dY,c,c2,el1,hne,t1,t2]
    ·injection q2 with q2
     obtain⟨t1,t2⟩:=yG q0;obtain⟨u1,u2⟩:=yG q1;have hne:¬(x.k0.h.length:Int)=0:=by omega
     have hne1:¬(x.k1.h.length:Int)=0:=by omega
     rw[q2]at c2;clear q2 hn;generalize at_ x.k0.h 0=z at *;generalize x.k0.h.map bJ=H0 at *;generalize(x.k0.h.length:Int)=n0 at *;generalize at_ x.k1.h 0=y at *;generalize x.k1.h.map bJ=H1 at *;generalize(x.k1.h.length:Int)=n1 at *;refine au rfl rfl ?_;simp -implicitDefEqProofs[-jh,-dY,c,c2,CG,el1,hne,hne1,t1,t2,u1,u2]
   rw[ah c2];have n0:=hx.now;obtain⟨g1,g2,g3,-⟩:=NQ (a:=a) hx;have hlt:(kY a x).now<=last/\x.now<(kY a x).now:=by rw[g3];split<;>omega
   have ih:=afh f last (kY a x) g1 hlt.1 hl (by omega) (by omega);have hx':gq {x with now:=if x.now+1<a then a else x.now+1}:=⟨hx.s0,hx.s1,hx.k0,hx.k1,by simp only;split<;>omega⟩
   have hin:=afP last a (dF x+1) {x with now:=if x.now+1<a then a else x.now+1} hx' (by simp only;split<;>omega) hg (BM _);have hn':kK {x with now:=if x.now+1<a then a else x.now+1}=some a:=hn;rw[Pe hn',hn']at hin;rw[show wI (dF x+1) {x with now:=if x.now+1<a then a else x.now+1}=kY a x from rfl]at hin;have hfx:=ac0 a x;have wn:=gJ (n:=x.now+1) (by omega) (by omega);generalize ig f last (kY a x)=G at *;generalize kY a x=E at *;have hin:TT.lim 255 ([.i .u64 last,.i .u64 a,.b true,.i .u64 a]++bZ {x with now:=if x.now+1<a then a else x.now+1})=some (.i .i64 1::iM E)\/∃b,TT.lim 255 ([.i .u64 last,.i .u64 a,.b true,.i .u64 a]++bZ {x with now:=if x.now+1<a then a else x.now+1})=some (.i .i64 0::.i .u64 b::iM E):=by
    unfold OY at hin;cases hq:kK E with
    |none=>rw[hq]at hin;exact .inl hin
    |some b=>rw[hq]at hin;exact .inr ⟨b,hin⟩
   have key:∀Q:Q1,TT.lim 254 (.i .u64 last::bZ E)=some Q->TT.lim 254 (.i .u64 last::bZ x)=some Q:=by
    intro Q ih;simp only[bZ,iM,fA,dL,lW,bC,aV]at hin ih⊢;rw[g3,hfx.a.1,hfx.a.2.1,hfx.a.2.2.1,hfx.a.2.2.2,hfx.b.1,hfx.b.2.1,hfx.b.2.2.1,hfx.b.2.2.2]at ih;rcases hcs with⟨q0,q1,q2⟩|⟨n,q0,q1,q2⟩|⟨n,q0,q1,q2⟩|⟨n,m,q0,q1,q2⟩
    ·cases q2
    ·injection q2 with q2
     obtain⟨t1,t2⟩:=yG q0;have hne:¬(x.k0.h.length:Int)=0:=by omega
     rw[q2]at c2 ih hin;rw[q1]at hin⊢;simp only[jl]at hin⊢;clear q2 hn hn' g3;generalize at_ x.k0.h 0=z at *;generalize x.k0.h.map bJ=H0 at *;generalize(x.k0.h.length:Int)=n0 at *;rcases hin with hin|⟨b,hin⟩
     ·refine au rfl rfl ?_;simp -implicitDefEqProofs[-jh,-dY,c,c2,CG,hne,t1,t2,wn,hin,ih]
     ·refine au rfl rfl ?_;simp -implicitDefEqProofs[-jh,-dY,c,c2,CG,hne,t1,t2,wn,hin,ih]
    ·injection q2 with q2
     obtain⟨t1,t2⟩:=yG q1;have hne:¬(x.k1.h.length:Int)=0:=by omega
     rw[q2]at c2 ih hin;rw[q0]at hin⊢;simp only[jl]at hin⊢;clear q2 hn hn' g3;generalize at_ x.k1.h 0=z at *;generalize x.k1.h.map bJ=H0 at *;generalize(x.k1.h.length:Int)=n0 at *;rcases hin with hin|⟨b,hin⟩
     ·refine au rfl rfl ?_;simp -implicitDefEqProofs[-jh,-dY,c,c2,el1,hne,t1,t2,wn,hin,ih]
     ·refine au rfl rfl ?_;simp -implicitDefEqProofs[-jh,-dY,c,c2,el1,hne,t1,t2,wn,hin,ih]
    ·injection q2 with q2
     obtain⟨t1,t2⟩:=yG q0;obtain⟨u1,u2⟩:=yG q1;have hne:¬(x.k0.h.length:Int)=0:=by omega
     have hne1:¬(x.k1.h.length:Int)=0:=by omega
     rw[q2]at c2 ih hin;clear q2 hn hn' g3;generalize at_ x.k0.h 0=z at *;generalize x.k0.h.map bJ=H0 at *;generalize(x.k0.h.length:Int)=n0 at *;generalize at_ x.k1.h 0=y at *;generalize x.k1.h.map bJ=H1 at *;generalize(x.k1.h.length:Int)=n1 at *;rcases hin with hin|⟨b,hin⟩
     ·refine au rfl rfl ?_;simp -implicitDefEqProofs[-jh,-dY,c,c2,CG,el1,hne,hne1,t1,t2,u1,u2,wn,hin,ih]
     ·refine au rfl rfl ?_;simp -implicitDefEqProofs[-jh,-dY,c,c2,CG,el1,hne,hne1,t1,t2,u1,u2,wn,hin,ih]
   exact ih.imp (key _) (key _)
theorem VD(n:Int)(x:Pr)(h0:0<=n)(hn:n<=100000)(hx:gq x)(jc:x.now<=700000000000)(hg:dF x<=80000):
 TT.lim 253 (.i .u64 n::bZ x)=some (.i .i64 0::.i .u64 (x.now+n)::iM (uo n x)):=by
 have w0:=hx.now;have hw:=gJ (n:=x.now+n) (by omega) (by omega);have h:=afh (n.toNat+1) (x.now+n) x hx (by omega) (by omega) hg (by omega);have c:¬(100000:Int)<n:=by omega
 unfold uo;generalize ig (n.toNat+1) (x.now+n) x=E at *;simp only[bZ,iM,fA,dL,lW,bC,aV]at h⊢;rcases h with h|h
 ·refine au rfl rfl ?_;simp -implicitDefEqProofs[c,hw,h]
 ·refine au rfl rfl ?_;simp -implicitDefEqProofs[c,hw,h]
theorem step_ok{n:Int}{x:Pr}(h0:0<=n)(hx:gq x):gq (uo n x)/\dF (uo n x)<=dF x/\(uo n x).now=x.now+n:=by obtain⟨g1,g2,g3⟩:=go_ok (n.toNat+1) (last:=x.now+n) hx (by omega);exact⟨g1,g2,g3 (by omega)⟩
theorem adL(h:List It)(hl:h.length<=100000):TT.lim 0 [.l (h.map bJ)]=some [.l (h.map bJ)]:=by
 refine yA rfl ?_;unfold qy;have h1:(h.map bJ).length*32<=140737488355328/\(h.map bJ).all (GV.fC 3)=true:=⟨by rw[fE];omega,by rw[List.all_map];exact List.all_eq_true.2 λx _=>rfl⟩
 simp only[h1,and_self,if_true]
theorem RZ(h:List Fa)(hl:h.length<=100000):TT.lim 29 [.l (h.map aU)]=some [.l (h.map aU)]:=by
 refine yA rfl ?_;unfold qy;have h1:(h.map aU).length*32<=140737488355328/\(h.map aU).all (GV.fC 6)=true:=⟨by rw[fE];omega,by rw[List.all_map];exact List.all_eq_true.2 λx _=>rfl⟩
 simp only[h1,and_self,if_true]
theorem adK(h:List (Int×Int×Int))(hl:h.length<=100000):TT.lim 1 [.l (h.map lM)]=some [.l (h.map lM)]:=by
 refine yA rfl ?_;unfold qy;have h1:(h.map lM).length*24<=140737488355328/\(h.map lM).all (GV.fC 3)=true:=⟨by rw[fE];omega,by rw[List.all_map];exact List.all_eq_true.2 λx _=>rfl⟩
 simp only[h1,and_self,if_true]
theorem au2(x:Pr)(hx:gq x)(hg:dF x<=90000):TT.lim 256 (bZ x)=some [.i .i64 0,.l (x.rc.map lM),.l (x.k1.f.map aU),.l (x.k1.h.map bJ),.l (x.k0.f.map aU),.l (x.k0.h.map bJ),.i .u64 x.s1.h.1,.l (x.s1.h.2.map row),.l (x.s1.k.map sn),.i .u64 x.s0.h.1,.l (x.s0.h.2.map row),.l (x.s0.k.map sn)]:=by unfold dF at hg;obtain⟨a1,a2,a3⟩:=Uu hx.k0 (B:=90000) (by omega);obtain⟨b1,b2,b3⟩:=Uu hx.k1 (B:=90000) (by omega);have h0:=Vo x.s0 hx.s0;have h1:=Vo x.s1 hx.s1;have c1:=adK x.rc (by omega);have c2:=RZ x.k1.f (by omega);have c3:=adL x.k1.h (by omega);have c4:=RZ x.k0.f (by omega);have c5:=adL x.k0.h (by omega);simp only[bZ,fA,dL,bC,aV]at h0 h1⊢;refine au rfl rfl ?_;simp -implicitDefEqProofs[h0,h1,c1,c2,c3,c4,c5]
def Oq(s:fK):Q1:=[.i .i64 0]++([.i .u64 s.mn,.i .u64 s.mx,.s s.name,.b s.first,.i .i64 s.st,.i .i64 s.ver,.i .i64 s.vs,.b s.sm,.i .u64 s.h.1,.l (s.h.2.map row),.l (s.k.map sn),.i .u64 s.b])
theorem apk(x:Pr)(hx:gq x):TT.lim 264 (bZ x++[.i .i64 0])=some (Oq x.s0):=by have h0:=Vo x.s0 hx.s0;simp only[bZ,Oq,fA,dL,bC,aV]at h0⊢;refine au rfl rfl ?_;simp -implicitDefEqProofs[h0]
theorem apl(x:Pr)(hx:gq x):TT.lim 264 (bZ x++[.i .i64 1])=some (Oq x.s1):=by have h0:=Vo x.s1 hx.s1;simp only[bZ,Oq,fA,dL,bC,aV]at h0⊢;refine au rfl rfl ?_;simp -implicitDefEqProofs[h0]
def lH(e:Int)(v:Sn)(x:Pr):Pr:=if e=0 then {x with s0:=PE v x.s0}else if e=1 then {x with s1:=PE v x.s1}else x
def ahS(e:Int)(v:Sn)(x:Pr):Int:=if e=0 then(uh v x.s0.k x.s0.b).1 else if e=1 then(uh v x.s1.k x.s1.b).1 else 24
theorem au4(e:Int)(v:Sn)(x:Pr)(hv:fQ v.2)(hx:gq x):TT.lim 249 ([.i .i64 e,.i .u64 v.1,.l (v.2.map row)]++bZ x)=some [.i .i64 0,.i .i64 (ahS e v x),.l ((lH e v x).s1.k.map sn),.i .u64 (lH e v x).s1.b,.l ((lH e v x).s0.k.map sn),.i .u64 (lH e v x).s0.b]:=by
 have h0:=ahV v x.s0 hv hx.s0;have h1:=ahV v x.s1 hv hx.s1;unfold lH ahS PE;generalize uh v x.s0.k x.s0.b=P0 at *;generalize uh v x.s1.k x.s1.b=P1 at *;simp only[bZ,fA,dL,bC,aV]at h0 h1⊢;by_cases c:e=0
 ·rw[aj c,aj c];subst c;refine au rfl rfl ?_;simp -implicitDefEqProofs[h0]
 rw[ah c,ah c];by_cases c1:e=1
 ·rw[aj c1,aj c1];subst c1;refine au rfl rfl ?_;simp -implicitDefEqProofs[h1]
 rw[ah c1,ah c1];refine au rfl rfl ?_;simp -implicitDefEqProofs[c,c1]
theorem avU{e:Int}{v:Sn}{x:Pr}(hx:gq x)(hv:fQ v.2)(h0:0<=v.1/\v.1<18446744073709551616):gq (lH e v x)/\dF (lH e v x)=dF x/\(lH e v x).now=x.now:=by
 unfold lH;split
 ·exact⟨⟨ahT hx.s0 hv h0,hx.s1,hx.k0,hx.k1,hx.now⟩,rfl,rfl⟩
 split
 ·exact⟨⟨hx.s0,ahT hx.s1 hv h0,hx.k0,hx.k1,hx.now⟩,rfl,rfl⟩
 ·exact⟨hx,rfl,rfl⟩
def lG(e:Int)(x:Pr):Pr:=if e=0 then {x with s0:=FB x.s0,k0:=jR x.now (pX x.s0).1 x.k0}else if e=1 then {x with s1:=FB x.s1,k1:=jR x.now (pX x.s1).1 x.k1}else x
def ahO(e:Int)(x:Pr):Int:=if e=0 then(pX x.s0).1.length else if e=1 then(pX x.s1).1.length else 0
theorem U2(s:fK):∀t∈(pX s).1,t.length<=65536:=by
 intro t ht;have sl:∀{b:aT}{v:Int},t∈lV b v->t.length<=65536:=by
  intro b v h;unfold lV at h;split at h
  ·rw[uy.1 h];exact aeu _ _ _
  ·cases h
 unfold pX at ht;repeat' split at ht
 all_goals first|exact sl ht|cases ht
theorem U3{s:fK}(hs:qp s):qp (FB s):=⟨hs.mn,hs.mx,hs.le,hs.name,hs.ver,hs.rc,hs.kp⟩
theorem U4(s:fK):wW (pX s).1<=6:=by
 have hl:=aaE s;generalize(pX s).1=Uq at *;match Uq,hl with
 |[],_=>simp[wW]
 |[u],_=>have:=Qm (ku u);simp only[wW];omega
theorem au3(e:Int)(x:Pr)(hx:gq x)(jc:x.now<=800000000000)(hg:dF x<=80000):TT.lim 251 (.i .i64 e::bZ x)=some ([.i .i64 0,.i .i64 (ahO e x)]++(fA (lG e x).k1++(fA (lG e x).k0++[.i .i64 (lG e x).s1.st,.i .i64 (lG e x).s0.st]))):=by
 unfold dF at hg;unfold lG ahO;by_cases c:e=0
 ·rw[aj c,aj c];subst c;have hp:=ahQ x.s0 hx.s0;have hw:=U4 x.s0;have hl:=aaE x.s0;have hs:=Vl {x with s0:=FB x.s0} ⟨U3 hx.s0,hx.s1,hx.k0,hx.k1,hx.now⟩ (pX x.s0).1 (by omega) (U2 x.s0) jc (by simp only;omega);unfold FB at hs⊢;generalize pX x.s0=P at *;simp only[bZ,fA,dL,bC,aV]at hp hs⊢;have hlen:((P.1.map GV.s).length:Int)=(P.1.length:Int):=by rw[fE]
  generalize jR x.now P.1 x.k0=K at *;generalize P.1.map GV.s=PG at *;refine au rfl rfl ?_;simp -implicitDefEqProofs[hp,hs,hlen]
 rw[ah c,ah c];by_cases c1:e=1
 ·rw[aj c1,aj c1];subst c1;have hp:=ahQ x.s1 hx.s1;have hw:=U4 x.s1;have hl:=aaE x.s1;have hs:=Vm {x with s1:=FB x.s1} ⟨hx.s0,U3 hx.s1,hx.k0,hx.k1,hx.now⟩ (pX x.s1).1 (by omega) (U2 x.s1) jc (by simp only;omega);unfold FB at hs⊢;generalize pX x.s1=P at *;simp only[bZ,fA,dL,bC,aV]at hp hs⊢;have hlen:((P.1.map GV.s).length:Int)=(P.1.length:Int):=by rw[fE]
  generalize jR x.now P.1 x.k1=K at *;generalize P.1.map GV.s=PG at *;refine au rfl rfl ?_;simp -implicitDefEqProofs[hp,hs,hlen]
 rw[ah c1,ah c1];simp only[bZ,fA,dL,bC,aV];refine au rfl rfl ?_;simp -implicitDefEqProofs[c,c1]
theorem avL{e:Int}{x:Pr}(hx:gq x):gq (lG e x)/\dF (lG e x)<=dF x+6/\(lG e x).now=x.now:=by
 unfold lG;split
 ·obtain⟨g1,g2,-⟩:=PY (now:=x.now) (pX x.s0).1 hx.k0 (U2 x.s0);have:=U4 x.s0;refine⟨⟨U3 hx.s0,hx.s1,g1,hx.k1,hx.now⟩,?_,rfl⟩;unfold dF;simp only;omega
 split
 ·obtain⟨g1,g2,-⟩:=PY (now:=x.now) (pX x.s1).1 hx.k1 (U2 x.s1);have:=U4 x.s1;refine⟨⟨hx.s0,U3 hx.s1,hx.k0,g1,hx.now⟩,?_,rfl⟩;unfold dF;simp only;omega
 ·exact⟨hx,by omega,rfl⟩
theorem alS(a b:List Fa)(ha:a.length<=2000000000000)(hb:b.length<=2000000000000):TT.lim 6 [.l [.l (a.map aU),.l (b.map aU)]]=some [.l ((a++b).map aU)]:=by
 have w1:IntKind.i64.wrap 1=1:=rfl;have w2:IntKind.i64.wrap 2=2:=rfl;have la:((a.map aU).length:Int)=(a.length:Int):=by rw[fE]
 have lb:((b.map aU).length:Int)=(b.length:Int):=by rw[fE]
 have wa:=wrap64 (n:=(a.length:Int)) (by omega) (by omega);have wb:=wrap64 (n:=(a.length:Int)+(b.length:Int)) (by omega) (by omega);have s2:TT.lim 7 [.l [.l (a.map aU),.l (b.map aU)],.i .i64 ((a.length:Int)+(b.length:Int)),.i .i64 2,.i .i64 2]=some [.i .i64 0,.i .i64 ((a.length:Int)+(b.length:Int))]:=by refine au rfl rfl ?_;simp
 have n1:¬((a.length:Int)+(b.length:Int)<0):=by omega
 have n0:¬((a.length:Int)<0):=by omega
 have s1:TT.lim 7 [.l [.l (a.map aU),.l (b.map aU)],.i .i64 (a.length:Int),.i .i64 2,.i .i64 1]=some [.i .i64 0,.i .i64 ((a.length:Int)+(b.length:Int))]:=by generalize a.map aU=A at *;generalize b.map aU=B at *;generalize(a.length:Int)=x at *;generalize(b.length:Int)=y at *;refine au rfl rfl ?_;simp -implicitDefEqProofs[w2,lb,wb,n1,s2]
 have s0:TT.lim 7 [.l [.l (a.map aU),.l (b.map aU)],.i .i64 0,.i .i64 2,.i .i64 0]=some [.i .i64 0,.i .i64 ((a.length:Int)+(b.length:Int))]:=by generalize a.map aU=A at *;generalize b.map aU=B at *;generalize(a.length:Int)=x at *;generalize(b.length:Int)=y at *;refine au rfl rfl ?_;simp -implicitDefEqProofs[w1,la,wa,n0,s1]
 have ap:∀u v:List Fa,u.length+v.length<=4398046511000->Gs 6 32 (some (.l (u.map aU))) (some (.l (v.map aU)))=some (.l ((u++v).map aU)):=by
  intro u v h;rw[Eo,aj]
  ·rw[lX]
  ·refine⟨?_,?_,?_⟩
   ·rw[List.all_map];exact List.all_eq_true.2 λx _=>rfl
   ·simp only[fE];omega
   ·simp only[fE];omega
 have t2:∀X:List Fa,TT.lim 8 [.l (X.map aU),.l [.l (a.map aU),.l (b.map aU)],.i .i64 2,.i .i64 2]=some [.i .i64 0,.l (X.map aU)]:=by intro X;refine au rfl rfl ?_;simp
 have t1:TT.lim 8 [.l (a.map aU),.l [.l (a.map aU),.l (b.map aU)],.i .i64 2,.i .i64 1]=some [.i .i64 0,.l ((a++b).map aU)]:=by have h:=ap a b (by omega);have t2:=t2 (a++b);generalize(a++b).map aU=C at *;generalize a.map aU=A at *;generalize b.map aU=B at *;refine au rfl rfl ?_;simp -implicitDefEqProofs[w2,h,t2]
 have t0:TT.lim 8 [.l [],.l [.l (a.map aU),.l (b.map aU)],.i .i64 2,.i .i64 0]=some [.i .i64 0,.l ((a++b).map aU)]:=by have h:=ap [] a (by simp;omega);rw[aV,jl]at h;generalize(a++b).map aU=C at *;generalize a.map aU=A at *;generalize b.map aU=B at *;refine au rfl rfl ?_;simp -implicitDefEqProofs[w1,h,t1]
 have hg:TT.lim 2 [.i .i64 ((a.length:Int)+(b.length:Int))]=some [.l []]:=by refine yA rfl ?_;unfold Hq;dsimp only;rw[aj ⟨by omega,by omega,by omega⟩]
 have wz:=wrap64 (n:=(a.length:Int)+(b.length:Int)) (by omega) (by omega);generalize(a++b).map aU=C at *;generalize a.map aU=A at *;generalize b.map aU=B at *;generalize(a.length:Int)=x at *;generalize(b.length:Int)=y at *;refine aP rfl rfl ?_ rfl;simp -implicitDefEqProofs[s0,n1,hg,t0]
structure Ap where
 G9:Int
 en:Int
 x:Sn
 ep:Int
 tk:Int
structure FZ(a:Ap):Prop where
 G9:0<=a.G9/\a.G9<256
 v:0<=a.x.1/\a.x.1<18446744073709551616
 rows:Rows a.x.2
 ep:0<=a.ep/\a.ep<18446744073709551616
 tk:0<=a.tk/\a.tk<256
def iJ(a:Ap):GV:=.g [.i .u8 a.G9,.i .i64 a.en,.i .u64 a.x.1,.l (a.x.2.map row),.i .u64 a.ep,.i .u8 a.tk]
@[simp] theorem aBs(a:Ap):(iJ a).cells=[.i .u8 a.G9,.i .i64 a.en,.i .u64 a.x.1,.l (a.x.2.map row),.i .u64 a.ep,.i .u8 a.tk]:=rfl
@[simp] theorem aBt(a:Ap):(iJ a).scalar=false:=rfl
def zy(r:Row):Bool:=decide ((100:Int)<(dQ r.1).length)
theorem afK(l:List Row)(hl:∀r∈l,iF r.1=true)(hn:l.length<=100000):∀(m i:Nat),i+m=l.length->
 ∃k,TT.lim 24 [.l (l.map row),.i .i64 (l.length:Int),.i .i64 (i:Int)]=some (if(l.drop i).any zy=true then[.i .i64 0,.i .i64 ((k:Nat):Int)]else[.i .i64 1])
 |0,i,hi=>by
  have c:¬((i:Int)<l.length):=by omega
  rw[fZ (by omega)];refine⟨0,?_⟩;rw[ah (by simp)];refine au rfl rfl ?_;simp -implicitDefEqProofs[c]
 |m+1,i,hi=>by
  have hlt:i<l.length:=by omega
  have c:(i:Int)<l.length:=by omega
  have hw:IntKind.i64.wrap ((i:Int)+1)=((i+1:Nat):Int):=by rw[wrap64 (by omega) (by omega)];omega
  have hd:l.drop i=l[i]::l.drop (i+1):=gY hlt;have hat:at2 2 (some (.l (l.map row))) (some (.i .i64 (i:Int)))=some (row l[i]):=by rw[dY,aj (by omega),wX,iP,bK hlt];rfl
  have hf:=hl _ (gK hlt);obtain⟨k,ih⟩:=afK l hl hn m (i+1) (by omega);rw[hd];generalize l[i]=r at *;have hkey:=AO r.1 hf;have hone:TT.lim 25 [row r]=some [.b (zy r)]:=by unfold zy;generalize dQ r.1=K at *;refine aP rfl rfl ?_ rfl;simp -implicitDefEqProofs[hkey]
  have e1:GV.g [.l (r.1.map ent),.i .u64 r.2]=row r:=rfl;rw[<-hw]at ih;rw[ab8];cases hq:zy r with
  |true=>rw[hq]at hone;refine⟨i,?_⟩;rw[aj (by simp)];generalize l.map row=LG at *;generalize(l.length:Int)=n0 at *;refine au rfl rfl ?_;simp -implicitDefEqProofs[-dY,c,hat,e1,hone]
  |false=>rw[hq]at hone;refine⟨k,?_⟩;rw[zJ];generalize(if(l.drop (i+1)).any zy=true then[GV.i .i64 0,.i .i64 ((k:Nat):Int)]else[.i .i64 1])=Q at *;generalize l.map row=LG at *;generalize(l.length:Int)=n0 at *;refine au rfl rfl ?_;simp -implicitDefEqProofs[-dY,c,hat,e1,hone,ih]
theorem alW(l:List Row)(hl:∀r∈l,iF r.1=true)(hn:l.length<=100000):TT.lim 22 [.l (l.map row)]=some [.b (l.any zy)]:=by
 obtain⟨k,h⟩:=afK l hl hn l.length 0 (by omega);rw[dD]at h;have hlen:((l.map row).length:Int)=(l.length:Int):=by rw[fE]
 have hi:TT.lim 23 [.l (l.map row)]=some [.i .i64 (if l.any zy=true then((k:Nat):Int)else -1)]:=by
  cases hq:l.any zy with
  |true=>rw[hq,aj rfl]at h;rw[aj rfl];simp only[qZ]at h;generalize l.map row=LG at *;refine aP rfl rfl ?_ rfl;simp -implicitDefEqProofs[hlen,h]
  |false=>rw[hq,ah (by simp)]at h;rw[ah (by simp)];simp only[qZ]at h;generalize l.map row=LG at *;refine aP rfl rfl ?_ rfl;simp -implicitDefEqProofs[hlen,h]
 cases hq:l.any zy with
 |true=>
  rw[hq,aj rfl]at hi;have k0:(0:Int)<=(k:Int):=by omega
  generalize l.map row=LG at *;generalize(k:Int)=kk at *;refine aP rfl rfl ?_ rfl;simp -implicitDefEqProofs[hi,k0]
 |false=>rw[hq,ah (by simp)]at hi;generalize l.map row=LG at *;refine aP rfl rfl ?_ rfl;simp -implicitDefEqProofs[hi]
def Hg(a:Ap):Bool:=decide ((a.x.2.length:Int)<=10)&&(EO a.x.2&&(decide (a.tk<=40)&&!a.x.2.any zy))
theorem aeQ(x0 x1:GV)(l:List Ap)(hn:l.length<=4000000000000)(ho:∀a∈l,FZ a):∀(m i:Nat),i+m=l.length->
 TT.lim 10 [x0,x1,.l (l.map iJ),.i .i64 (l.length:Int),.i .i64 (i:Int)]=some (if(l.drop i).all Hg=true then[.i .i64 1]else[.i .i64 0])
 |0,i,hi=>by
  have c:¬((i:Int)<l.length):=by omega
  rw[fZ (by omega),aj (by simp)];refine au rfl rfl ?_;simp -implicitDefEqProofs[c]
 |m+1,i,hi=>by
  have hlt:i<l.length:=by omega
  have c:(i:Int)<l.length:=by omega
  have hw:IntKind.i64.wrap ((i:Int)+1)=((i+1:Nat):Int):=by rw[wrap64 (by omega) (by omega)];omega
  have hd:l.drop i=l[i]::l.drop (i+1):=gY hlt;have hat:at2 6 (some (.l (l.map iJ))) (some (.i .i64 (i:Int)))=some (iJ l[i]):=by rw[dY,aj (by omega),wX,iP,bK hlt];rfl
  have hok:=ho _ (gK hlt);have ih:=aeQ x0 x1 l hn ho m (i+1) (by omega);rw[<-hw]at ih;rw[hd,qK];generalize l[i]=a at *;have hf:=ap6 a.x.2 hok.rows;have hlen:((a.x.2.map row).length:Int)=(a.x.2.length:Int):=by rw[fE]
  generalize(l.drop (i+1)).all Hg=B at *;unfold Hg;by_cases q1:(a.x.2.length:Int)<=10;rotate_left
  ·rw[ah (by simp[q1])];have q1':(10:Int)<a.x.2.length:=by omega
   generalize l.map iJ=LG at *;generalize(l.length:Int)=n0 at *;refine au rfl rfl ?_;simp -implicitDefEqProofs[-dY,c,hat,q1']
  have q1':¬(10:Int)<a.x.2.length:=by omega
  cases q2:EO a.x.2 with
  |false=>rw[ah (by simp[q2])];rw[q2]at hf;generalize l.map iJ=LG at *;generalize(l.length:Int)=n0 at *;refine au rfl rfl ?_;simp -implicitDefEqProofs[-dY,c,hat,q1',hf]
  |true=>
   rw[q2]at hf;have hcn:=alW a.x.2 (afi hok.rows q2).few (by omega);by_cases q3:a.tk<=40;rotate_left
   ·rw[ah (by simp[q3])];have q3':(40:Int)<a.tk:=by omega
    generalize l.map iJ=LG at *;generalize(l.length:Int)=n0 at *;refine au rfl rfl ?_;simp -implicitDefEqProofs[-dY,c,hat,q1',hf,q3']
   have q3':¬(40:Int)<a.tk:=by omega
   cases q4:a.x.2.any zy with
   |true=>rw[ah (by simp[q4])];rw[q4]at hcn;generalize l.map iJ=LG at *;generalize(l.length:Int)=n0 at *;refine au rfl rfl ?_;simp -implicitDefEqProofs[-dY,c,hat,q1',hf,q3',hcn]
   |false=>
    rw[q4]at hcn;have e:(decide ((a.x.2.length:Int)<=10)&&(true&&(decide (a.tk<=40)&&!false)))=true:=by simp[q1,q3]
    rw[e,D9];generalize(if B=true then[GV.i .i64 1]else[.i .i64 0])=Q at *;generalize l.map iJ=LG at *;generalize(l.length:Int)=n0 at *;refine au rfl rfl ?_;simp -implicitDefEqProofs[-dY,c,hat,q1',hf,q3',hcn,ih]
def KE(f:Fa):Bool:=decide ((f.c:Int)<=3)
theorem aeP(x0 x1 x2:GV)(l:List Fa)(hn:l.length<=9000000000000000):∀(m i:Nat),i+m=l.length->
 TT.lim 9 [x0,x1,x2,.l (l.map aU),.i .i64 (l.length:Int),.i .i64 (i:Int)]=some (if(l.drop i).all KE=true then[.i .i64 1]else[.i .i64 0])
 |0,i,hi=>by
  have c:¬((i:Int)<l.length):=by omega
  rw[fZ (by omega),aj (by simp)];refine au rfl rfl ?_;simp -implicitDefEqProofs[c]
 |m+1,i,hi=>by
  have hlt:i<l.length:=by omega
  have c:(i:Int)<l.length:=by omega
  have hw:IntKind.i64.wrap ((i:Int)+1)=((i+1:Nat):Int):=by rw[wrap64 (by omega) (by omega)];omega
  have hd:l.drop i=l[i]::l.drop (i+1):=gY hlt;have hat:at2 6 (some (.l (l.map aU))) (some (.i .i64 (i:Int)))=some (aU l[i]):=by rw[dY,aj (by omega),wX,iP,bK hlt];rfl
  have ih:=aeP x0 x1 x2 l hn m (i+1) (by omega);rw[<-hw]at ih;rw[hd,qK];generalize l[i]=a at *;generalize hq:(l.drop (i+1)).all KE=B at *;unfold KE;by_cases q1:(a.c:Int)<=3
  ·have q1':¬(3:Int)<a.c:=by omega
   rw[G7 q1,D9];generalize(if B=true then[GV.i .i64 1]else[.i .i64 0])=Q at *;generalize l.map aU=LG at *;generalize(l.length:Int)=n0 at *;refine au rfl rfl ?_;simp -implicitDefEqProofs[-dY,c,hat,q1',ih]
  ·have q1':(3:Int)<a.c:=by omega
   rw[G6 q1,WA,ah (by simp)];generalize l.map aU=LG at *;generalize(l.length:Int)=n0 at *;refine au rfl rfl ?_;simp -implicitDefEqProofs[-dY,c,hat,q1']
def SV(a b:List Fa)(l:List Ap):Bool:=(a++b).all KE&&(l.all Hg&&(decide ((a.length:Int)<=30)&&(decide ((b.length:Int)<=30)&&decide ((l.length:Int)<=30))))
theorem ap7(a b:List Fa)(l:List Ap)(ha:a.length<=2000000000000)(hb:b.length<=2000000000000)(hl:l.length<=4000000000000)(ho:∀x∈l,FZ x):TT.lim 5 [.l (a.map aU),.l (b.map aU),.l (l.map iJ)]=some [.b (SV a b l)]:=by
 have hc:=alS a b (by omega) (by omega);have h0:=aeP (.l (a.map aU)) (.l (b.map aU)) (.l (l.map iJ)) (a++b) (by rw[fU];omega) (a++b).length 0 (by omega);have h1:=aeQ (.l (a.map aU)) (.l (b.map aU)) l hl ho l.length 0 (by omega);rw[dD]at h0 h1;have la:((a.map aU).length:Int)=(a.length:Int):=by rw[fE]
 have lb:((b.map aU).length:Int)=(b.length:Int):=by rw[fE]
 have ll:((l.map iJ).length:Int)=(l.length:Int):=by rw[fE]
 have lc:(((a++b).map aU).length:Int)=((a++b).length:Int):=by rw[fE]
 simp only[qZ]at h0 h1;unfold SV;cases q0:(a++b).all KE with
 |false=>rw[q0,ah (by simp)]at h0;rw[WA];generalize(a++b).map aU=C at *;generalize a.map aU=A at *;generalize b.map aU=B at *;generalize l.map iJ=L at *;generalize((a++b).length:Int)=nc at *;refine aP rfl rfl ?_ rfl;simp -implicitDefEqProofs[hc,lc,h0]
 |true=>
  rw[q0,aj rfl]at h0;rw[D9];cases q1:l.all Hg with
  |false=>rw[q1,ah (by simp)]at h1;rw[WA];generalize(a++b).map aU=C at *;generalize a.map aU=A at *;generalize b.map aU=B at *;generalize l.map iJ=L at *;generalize((a++b).length:Int)=nc at *;refine aP rfl rfl ?_ rfl;simp -implicitDefEqProofs[hc,lc,h0,ll,h1]
  |true=>
   rw[q1,aj rfl]at h1;rw[D9];generalize(a++b).map aU=C at *;generalize a.map aU=A at *;generalize b.map aU=B at *;generalize l.map iJ=L at *;generalize((a++b).length:Int)=nc at *;by_cases p1:(a.length:Int)<=30
   ·by_cases p2:(b.length:Int)<=30
    ·refine aP rfl rfl ?_ rfl;simp -implicitDefEqProofs[hc,lc,h0,ll,h1,la,lb,p1,p2]
    ·refine aP rfl rfl ?_ rfl;simp -implicitDefEqProofs[hc,lc,h0,ll,h1,la,lb,p1,p2]
   ·refine aP rfl rfl ?_ rfl;simp -implicitDefEqProofs[hc,lc,h0,ll,h1,la,lb,p1]
theorem YB:∀(f g:Nat){last:Int}{x:Pr},gq x->(last-x.now).toNat<f->(last-x.now).toNat<g->ig f last x=ig g last x
 |0,g,last,x,hx,hf,hg=>by omega
 |f+1,0,last,x,hx,hf,hg=>by omega
 |f+1,g+1,last,x,hx,hf,hg=>by
  unfold ig;split;rotate_left
  ·rfl
  next c=>
  cases hn:kK x with
  |none=>rfl
  |some a=>
   simp only;split
   ·rfl
   ·next c2=>
    obtain⟨h1,h2,h3,-⟩:=NQ (a:=a) hx;have hlt:x.now<(kY a x).now:=by rw[h3];split<;>omega
    exact YB f g h1 (by omega) (by omega)
theorem akA{a l:Int}{x:Pr}(h1:x.now<l)(h2:l<a):kY a {x with now:=l}=kY a x:=by
 have e:(if l+1<a then a else l+1)=(if x.now+1<a then a else x.now+1):=by split<;>split<;>omega
 unfold kY;simp only;rw[e];rfl
theorem afe:∀(f g k:Nat){l1 l2:Int}{x:Pr},gq x->x.now<=l1->l1<=l2->(l1-x.now).toNat<f->(l2-x.now).toNat<g->(l2-l1).toNat<k->ig k l2 (ig f l1 x)=ig g l2 x
 |0,g,k,l1,l2,x,hx,h1,h2,hf,hg,hk=>by omega
 |f+1,g,k,l1,l2,x,hx,h1,h2,hf,hg,hk=>by
  by_cases c:x.now<l1;rotate_left
  ·have e:ig (f+1) l1 x=x:=by unfold ig;rw[ah c]
   rw[e];exact YB k g hx (by omega) hg
  have hl:gq {x with now:=l1}:=⟨hx.s0,hx.s1,hx.k0,hx.k1,by have:=hx.now;simp only;omega⟩
  obtain⟨g,rfl⟩:∃g',g=g'+1:=⟨g-1,by omega⟩
  obtain⟨k,rfl⟩:∃k',k=k'+1:=⟨k-1,by omega⟩
  have c2:x.now<l2:=by omega
  cases hn:kK x with
  |none=>
   have e1:ig (f+1) l1 x ={x with now:=l1}:=by unfold ig;rw[aj c,hn]
   have e2:ig (g+1) l2 x ={x with now:=l2}:=by unfold ig;rw[aj c2,hn]
   have hn':kK {x with now:=l1}=none:=hn;rw[e1,e2];unfold ig;simp only;split
   ·rw[hn']
   ·next q=>have e:l1=l2:=by omega
            rw[e]
  |some a=>
   by_cases q1:l1<a
   ·have e1:ig (f+1) l1 x ={x with now:=l1}:=by unfold ig;rw[aj c,hn];simp only;rw[aj q1]
    have hn':kK {x with now:=l1}=some a:=hn;rw[e1];by_cases q2:l1=l2
    ·subst q2;have e2:ig (g+1) l1 x ={x with now:=l1}:=by unfold ig;rw[aj c,hn];simp only;rw[aj q1]
     rw[e2];unfold ig;rw[ah (by simp only;omega)]
    ·have e3:ig (k+1) l2 {x with now:=l1}=(if l2<a then {x with now:=l2}else ig k l2 (kY a {x with now:=l1})):=by
      conv=>lhs;unfold ig
      rw[aj (by simp only;omega),hn']
     have e2:ig (g+1) l2 x=(if l2<a then {x with now:=l2}else ig g l2 (kY a x)):=by
      conv=>lhs;unfold ig
      rw[aj c2,hn]
     rw[e3,e2,akA c q1];split
     ·rfl
     ·next q3=>
      obtain⟨h3,h4,h5,-⟩:=NQ (a:=a) hx;have hn2:(kY a x).now=a:=by rw[h5];split<;>omega
      exact YB k g h3 (by rw[hn2];omega) (by rw[hn2];omega)
   ·obtain⟨h3,h4,h5,-⟩:=NQ (a:=a) hx;have hb:x.now<(kY a x).now/\(kY a x).now<=l1:=by rw[h5];split<;>omega
    have e1:ig (f+1) l1 x=ig f l1 (kY a x):=by
     conv=>lhs;unfold ig
     rw[aj c,hn];simp only;rw[ah q1]
    have e2:ig (g+1) l2 x=ig g l2 (kY a x):=by
     conv=>lhs;unfold ig
     rw[aj c2,hn];simp only;rw[ah (by omega)]
    rw[e1,e2];exact afe f g (k+1) h3 hb.2 h2 (by omega) (by omega) hk
theorem azP{m n:Int}{x:Pr}(hx:gq x)(h0:0<=m)(h1:0<=n):uo n (uo m x)=uo (m+n) x:=by
 obtain⟨-,-,jc⟩:=step_ok (n:=m) h0 hx;unfold uo at jc⊢;rw[jc];have e:x.now+m+n=x.now+(m+n):=by omega
 rw[e];exact afe (m.toNat+1) ((m+n).toNat+1) (n.toNat+1) hx (by omega) (by omega) (by omega) (by omega) (by omega)
theorem apu(e:Int×Int×Int):lQ [0,0,0] [.i .u64 e.1,.i .i64 e.2.1,.i .i64 e.2.2] [.i .u64 e.1,.i .i64 e.2.1,.i .i64 e.2.2]=some true:=by simp[lQ]
theorem aeA(l:List (Int×Int×Int))(hn:l.length<=1000000):∀(m i:Nat),i+m=l.length->TT.lim 262 [.l (l.map lM),.l (l.map lM),.i .i64 (l.length:Int),.i .i64 (i:Int)]=some [.i .i64 1]
 |0,i,hi=>by
  have c:¬((i:Int)<l.length):=by omega
  refine au rfl rfl ?_;simp -implicitDefEqProofs[c]
 |m+1,i,hi=>by
  have hlt:i<l.length:=by omega
  have c:(i:Int)<l.length:=by omega
  have hw:IntKind.i64.wrap ((i:Int)+1)=((i+1:Nat):Int):=by rw[wrap64 (by omega) (by omega)];omega
  have hat:at2 3 (some (.l (l.map lM))) (some (.i .i64 (i:Int)))=some (lM l[i]):=by rw[dY,aj (by omega),wX,iP,bK hlt];rfl
  have ih:=aeA l hn m (i+1) (by omega);rw[<-hw]at ih;generalize l[i]=e at *;generalize l.map lM=LG at *;generalize(l.length:Int)=n0 at *;refine au rfl rfl ?_;simp -implicitDefEqProofs[-dY,c,hat,apu,ih]
theorem apr(l:List (Int×Int×Int))(hn:l.length<=1000000):TT.lim 261 [.l (l.map lM),.l (l.map lM)]=some [.b true]:=by
 have h:=aeA l hn l.length 0 (by omega);have hlen:((l.map lM).length:Int)=(l.length:Int):=by rw[fE]
 simp only[qZ]at h;generalize l.map lM=LG at *;refine aP rfl rfl ?_ rfl;simp -implicitDefEqProofs[hlen,h]
theorem ahU(e:Int)(v:Sn)(x:Pr):Fix x (lH e v x):=by
 unfold lH;split
 ·exact⟨⟨rfl,rfl,rfl,rfl⟩,rfl,rfl,rfl,rfl⟩
 split
 ·exact⟨⟨rfl,rfl,rfl,rfl⟩,rfl,rfl,rfl,rfl⟩
 ·exact Fix.refl x
theorem ahP(e:Int)(x:Pr):Fix x (lG e x):=by
 unfold lG;split
 ·exact⟨⟨rfl,rfl,rfl,rfl⟩,rfl,rfl,rfl,rfl⟩
 split
 ·exact⟨⟨rfl,rfl,rfl,rfl⟩,rfl,rfl,rfl,rfl⟩
 ·exact Fix.refl x
theorem VB(n:Int)(x:Pr):Fix x (uo n x):=aff _ _ _
set_option maxHeartbeats 4000000 in
theorem aiW(x0 x1:GV)(acts:List Ap)(hlen:acts.length<=30)(ho:∀a∈acts,FZ a/\Hg a=true):∀(m i:Nat)(x:Pr),i+m=acts.length->gq x->x.now<=1000000*i->dF x<=1440+6*i->
 ∃y,gq y/\y.now<=30000000/\dF y<=1620/\Fix x y/\TT.lim 30 ([x0,x1,.l (acts.map iJ),.i .i64 (acts.length:Int),.i .i64 (i:Int)]++bZ x)=some (.i .i64 0::.i .u64 y.now::iM y)
 |0,i,x,hi,hx,jc,hg=>by
  have c:¬((i:Int)<acts.length):=by omega
  refine⟨x,hx,by omega,by omega,Fix.refl x,?_⟩;simp only[bZ,iM,fA,dL,lW,bC,aV];refine au rfl rfl ?_;simp -implicitDefEqProofs[c]
 |m+1,i,x,hi,hx,jc,hg=>by
  have hlt:i<acts.length:=by omega
  have c:(i:Int)<acts.length:=by omega
  have hw:IntKind.i64.wrap ((i:Int)+1)=((i+1:Nat):Int):=by rw[wrap64 (by omega) (by omega)];omega
  have hat:at2 6 (some (.l (acts.map iJ))) (some (.i .i64 (i:Int)))=some (iJ acts[i]):=by rw[dY,aj (by omega),wX,iP,bK hlt];rfl
  obtain⟨hok,hf⟩:=ho _ (gK hlt);generalize acts[i]=a at *;have n0:=hx.now;have hq:fQ a.x.2/\a.tk<=40:=by unfold Hg at hf;simp only[aK]at hf;exact⟨afi hok.rows hf.2.1,by simpa using hf.2.2.1⟩
  have rest:∀z:Pr,gq z->z.now<=x.now+1000000->dF z<=dF x+6->Fix x z->
   (∀Q,TT.lim 30 ([x0,x1,.l (acts.map iJ),.i .i64 (acts.length:Int),.i .i64 (IntKind.i64.wrap ((i:Int)+1))]++bZ z)=some Q->TT.lim 30 ([x0,x1,.l (acts.map iJ),.i .i64 (acts.length:Int),.i .i64 (i:Int)]++bZ x)=some Q)->
   ∃y,gq y/\y.now<=30000000/\dF y<=1620/\Fix x y/\TT.lim 30 ([x0,x1,.l (acts.map iJ),.i .i64 (acts.length:Int),.i .i64 (i:Int)]++bZ x)=some (.i .i64 0::.i .u64 y.now::iM y):=by
   intro z hz zn zg zf key;obtain⟨y,g1,g2,g3,g4,g5⟩:=aiW x0 x1 acts hlen ho m (i+1) z (by omega) hz (by omega) (by omega);rw[<-hw]at g5;exact⟨y,g1,g2,g3,zf.trans g4,key _ g5⟩
  by_cases d0:a.G9.tmod 4=0
  ·have hp:=au4 a.en a.x x hq.1 hx;obtain⟨h1,h2,h3⟩:=avU (e:=a.en) (v:=a.x) hx hq.1 hok.v;refine rest (lH a.en a.x x) h1 (by rw[h3];omega) (by omega) (ahU _ _ _) λQ hQ=>?_;have hz:(lH a.en a.x x).rc=x.rc/\(lH a.en a.x x).k0=x.k0/\(lH a.en a.x x).k1=x.k1/\(lH a.en a.x x).s0.st=x.s0.st/\(lH a.en a.x x).s0.ver=x.s0.ver/\(lH a.en a.x x).s0.vs=x.s0.vs/\(lH a.en a.x x).s0.sm=x.s0.sm/\(lH a.en a.x x).s0.h=x.s0.h/\(lH a.en a.x x).s1.st=x.s1.st/\(lH a.en a.x x).s1.ver=x.s1.ver/\(lH a.en a.x x).s1.vs=x.s1.vs/\(lH a.en a.x x).s1.sm=x.s1.sm/\(lH a.en a.x x).s1.h=x.s1.h:=by
    unfold lH PE;split
    ·simp
    split
    ·simp
    ·simp
   have hfx:=ahU a.en a.x x;generalize lH a.en a.x x=Z at *;obtain⟨z1,z2,z3,z4,z5,z6,z7,z8,z9,z10,z11,z12,z13⟩:=hz;simp only[bZ,fA,dL,bC,aV]at hp hQ⊢;rw[h3,z1,z2,z3,z4,z5,z6,z7,z8,z9,z10,z11,z12,z13,hfx.a.1,hfx.a.2.1,hfx.a.2.2.1,hfx.a.2.2.2,hfx.b.1,hfx.b.2.1,hfx.b.2.2.1,hfx.b.2.2.2]at hQ;generalize acts.map iJ=AG at *;generalize(acts.length:Int)=n0 at *;refine au rfl rfl ?_;simp -implicitDefEqProofs[-dY,c,hat,d0,hp,hQ]
  by_cases d1:a.G9.tmod 4=1
  ·have hp:=au3 a.en x hx (by omega) (by omega);obtain⟨h1,h2,h3⟩:=avL (e:=a.en) hx;refine rest (lG a.en x) h1 (by rw[h3];omega) h2 (ahP _ _) λQ hQ=>?_;have hz:(lG a.en x).rc=x.rc/\(lG a.en x).s0.ver=x.s0.ver/\(lG a.en x).s0.vs=x.s0.vs/\(lG a.en x).s0.sm=x.s0.sm/\(lG a.en x).s0.h=x.s0.h/\(lG a.en x).s0.k=x.s0.k/\(lG a.en x).s0.b=x.s0.b/\(lG a.en x).s1.ver=x.s1.ver/\(lG a.en x).s1.vs=x.s1.vs/\(lG a.en x).s1.sm=x.s1.sm/\(lG a.en x).s1.h=x.s1.h/\(lG a.en x).s1.k=x.s1.k/\(lG a.en x).s1.b=x.s1.b:=by
    unfold lG FB;split
    ·simp
    split
    ·simp
    ·simp
   have hfx:=ahP a.en x;generalize lG a.en x=Z at *;obtain⟨z1,z2,z3,z4,z5,z6,z7,z8,z9,z10,z11,z12,z13⟩:=hz;simp only[bZ,fA,dL,bC,aV]at hp hQ⊢;rw[h3,z1,z2,z3,z4,z5,z6,z7,z8,z9,z10,z11,z12,z13,hfx.a.1,hfx.a.2.1,hfx.a.2.2.1,hfx.a.2.2.2,hfx.b.1,hfx.b.2.1,hfx.b.2.2.1,hfx.b.2.2.2]at hQ;generalize acts.map iJ=AG at *;generalize(acts.length:Int)=n0 at *;refine au rfl rfl ?_;simp -implicitDefEqProofs[-dY,c,hat,d0,d1,hp,hQ]
  ·have htk:=hok.tk;have hp:=VD a.tk x htk.1 (by omega) hx (by omega) (by omega);obtain⟨h1,h2,h3⟩:=step_ok (n:=a.tk) htk.1 hx;refine rest (uo a.tk x) h1 (by rw[h3];omega) (by omega) (VB _ _) λQ hQ=>?_;have hfx:=VB a.tk x;have wt:=gJ (n:=a.tk) (by omega) (by omega);rw[<-h3]at hp;generalize uo a.tk x=Z at *;simp only[bZ,iM,fA,dL,lW,bC,aV]at hp hQ⊢;rw[hfx.a.1,hfx.a.2.1,hfx.a.2.2.1,hfx.a.2.2.2,hfx.b.1,hfx.b.2.1,hfx.b.2.2.1,hfx.b.2.2.2]at hQ;generalize acts.map iJ=AG at *;generalize(acts.length:Int)=n0 at *;refine au rfl rfl ?_;simp -implicitDefEqProofs[-dY,c,hat,d0,d1,wt,hp,hQ]
def aaO(x:Pr):Bool:=decide (x.k0.h=[])&&(decide (x.k0.f.length=0)&&(decide (x.k1.h=[])&&decide (x.k1.f.length=0)))
theorem awt(x:Pr):TT.lim 263 (bZ x)=some [.i .i64 0,.b (aaO x)]:=by
 have q0:((x.k0.h.map bJ).length:Int)=(x.k0.h.length:Int):=by rw[fE]
 have q1:((x.k0.f.map aU).length:Int)=(x.k0.f.length:Int):=by rw[fE]
 have q2:((x.k1.h.map bJ).length:Int)=(x.k1.h.length:Int):=by rw[fE]
 have q3:((x.k1.f.map aU).length:Int)=(x.k1.f.length:Int):=by rw[fE]
 have e0:(x.k0.h=[])=((x.k0.h.length:Int)=0):=propext (by rw[<-Qy];omega);have e1:(x.k0.f.length=0)=((x.k0.f.length:Int)=0):=propext (by omega);have e2:(x.k1.h=[])=((x.k1.h.length:Int)=0):=propext (by rw[<-Qy];omega);have e3:(x.k1.f.length=0)=((x.k1.f.length:Int)=0):=propext (by omega);unfold aaO;simp only[e0,e1,e2,e3];clear e0 e1 e2 e3;simp only[bZ,fA,dL,bC,aV];generalize x.k0.h.map bJ=G0 at *;generalize x.k0.f.map aU=G1 at *;generalize x.k1.h.map bJ=G2 at *;generalize x.k1.f.map aU=G3 at *;generalize(x.k0.h.length:Int)=r0 at *;generalize(x.k0.f.length:Int)=r1 at *;generalize(x.k1.h.length:Int)=r2 at *;generalize(x.k1.f.length:Int)=r3 at *;by_cases c0:r0=0;rotate_left
 ·refine au rfl rfl ?_;simp -implicitDefEqProofs[q0,c0]
 subst c0;by_cases c1:r1=0;rotate_left
 ·refine au rfl rfl ?_;simp -implicitDefEqProofs[q0,q1,c1]
 subst c1;by_cases c2:r2=0;rotate_left
 ·refine au rfl rfl ?_;simp -implicitDefEqProofs[q0,q1,q2,c2]
 subst c2;refine au rfl rfl ?_;simp -implicitDefEqProofs[q0,q1,q2,q3]
theorem aAL:pq [102,105,114,115,116] 0 256=0:=by kernel_rfl
theorem aAM:pq [111,116,104,101,114] 0 256=0:=by kernel_rfl
def newP(a c x y:Int)(th bk:List Fa):Pr:=⟨newS a c [102,105,114,115,116] true,newS x y [111,116,104,101,114] false,⟨th,[],0⟩,⟨bk,[],0⟩,0,[]⟩
theorem auq{a c x y:Int}{th bk:List Fa}(h1:1<=a)(h2:a<=c)(h3:c<=3)(h4:1<=x)(h5:x<=y)(h6:y<=3)(ht:∀f∈th,Jz f)(hb:∀f∈bk,Jz f)(lt:th.length<=30)(lb:bk.length<=30):gq (newP a c x y th bk)/\dF (newP a c x y th bk)<=1440:=by
 have afA:Heap [] ([]:List It).length:=λk _ h=>by simp at h
 refine⟨⟨ag2 h1 h2 h3 (by simp),ag2 h4 h5 h6 (by simp),⟨ht,afA,zM _,λy h=>by cases h⟩,⟨hb,afA,zM _,λy h=>by cases h⟩,zM _⟩,?_⟩;unfold dF l9 newP;simp only[wQ,kT,Int.toNat_zero];omega
set_option maxHeartbeats 4000000 in
theorem azQ(a c x y:Int)(th bk:List Fa)(acts:List Ap)(m n:Int)(hm:0<=m/\m<256)(hn:0<=n/\n<256)(lt:th.length<=2000000000000)(lb:bk.length<=2000000000000)(la:acts.length<=4000000000000)(ho:∀u∈acts,FZ u)
 (fo:∀f∈th++bk,f.d<256/\f.vS<256/\f.cu<=9223372036854775807/\f.at_<=9223372036854775807):
 TT.lim 4 [.g [.i .u64 a,.i .u64 c],.g [.i .u64 x,.i .u64 y],.l (th.map aU),.l (bk.map aU),.l (acts.map iJ),.i .u8 m,.i .u8 n]=some [.b true]:=by
 have hfew:=ap7 th bk acts lt lb la ho;have ka:=EF [102,105,114,115,116] 0 256 (by simp);have kb:=EF [111,116,104,101,114] 0 256 (by simp);rw[aAL]at ka;rw[aAM]at kb;have hal:((acts.map iJ).length:Int)=(acts.length:Int):=by rw[fE]
 cases hF:SV th bk acts with
 |false=>rw[hF]at hfew;generalize th.map aU=TG at *;generalize bk.map aU=BG at *;generalize acts.map iJ=AG at *;refine aP rfl rfl ?_ rfl;simp -implicitDefEqProofs[hfew]
 |true=>
 rw[hF]at hfew;by_cases a1:a<1
 ·generalize th.map aU=TG at *;generalize bk.map aU=BG at *;generalize acts.map iJ=AG at *;refine aP rfl rfl ?_ rfl;simp -implicitDefEqProofs[hfew,a1]
 by_cases a2:c<a
 ·generalize th.map aU=TG at *;generalize bk.map aU=BG at *;generalize acts.map iJ=AG at *;refine aP rfl rfl ?_ rfl;simp -implicitDefEqProofs[hfew,a1,a2]
 by_cases a3:255<c
 ·generalize th.map aU=TG at *;generalize bk.map aU=BG at *;generalize acts.map iJ=AG at *;refine aP rfl rfl ?_ rfl;simp -implicitDefEqProofs[hfew,a1,a2,a3]
 by_cases a4:3<c
 ·generalize th.map aU=TG at *;generalize bk.map aU=BG at *;generalize acts.map iJ=AG at *;refine aP rfl rfl ?_ rfl;simp -implicitDefEqProofs[hfew,a1,a2,a3,a4]
 by_cases b1:x<1
 ·generalize th.map aU=TG at *;generalize bk.map aU=BG at *;generalize acts.map iJ=AG at *;refine aP rfl rfl ?_ rfl;simp -implicitDefEqProofs[hfew,a1,a2,a3,a4,ka,b1]
 by_cases b2:y<x
 ·generalize th.map aU=TG at *;generalize bk.map aU=BG at *;generalize acts.map iJ=AG at *;refine aP rfl rfl ?_ rfl;simp -implicitDefEqProofs[hfew,a1,a2,a3,a4,ka,b1,b2]
 by_cases b3:255<y
 ·generalize th.map aU=TG at *;generalize bk.map aU=BG at *;generalize acts.map iJ=AG at *;refine aP rfl rfl ?_ rfl;simp -implicitDefEqProofs[hfew,a1,a2,a3,a4,ka,b1,b2,b3]
 by_cases b4:3<y
 ·generalize th.map aU=TG at *;generalize bk.map aU=BG at *;generalize acts.map iJ=AG at *;refine aP rfl rfl ?_ rfl;simp -implicitDefEqProofs[hfew,a1,a2,a3,a4,ka,b1,b2,b3,b4]
 unfold SV at hF;simp only[aK,List.all_eq_true,decide_eq_true_eq]at hF;obtain⟨f1,f2,f3,f4,f5⟩:=hF;have fok:∀f∈th++bk,Jz f:=λf hf=>by obtain⟨q1,q2,q3,q4⟩:=fo f hf;have:=f1 f hf;unfold KE at this;exact⟨by have:=Fv this;omega,q1,q2,q3,q4⟩
 have cT:=RZ th (by omega);have cB:=RZ bk (by omega);obtain⟨p1,p2⟩:=auq (a:=a) (c:=c) (x:=x) (y:=y) (th:=th) (bk:=bk) (by omega) (by omega) (by omega) (by omega) (by omega) (by omega) (λf hf=>fok f (WO _ hf)) (λf hf=>fok f (acn _ hf)) (by omega) (by omega);obtain⟨z,g1,g2,g3,g4,g5⟩:=aiW (.i .u8 m) (.i .u8 n) acts (by omega) (λu hu=>⟨ho u hu,f2 u hu⟩) acts.length 0 (newP a c x y th bk) (by omega) p1 (zM _) (by omega);have hcl:=au2 z g1 (by omega);have s1:=VD m z hm.1 (by omega) g1 (by omega) (by omega);obtain⟨h1,h2,h3⟩:=step_ok (n:=m) hm.1 g1;have s2:=VD n (uo m z) hn.1 (by omega) h1 (by omega) (by omega);have s3:=VD (m+n) z (by omega) (by omega) g1 (by omega) (by omega);obtain⟨h4,h5,h6⟩:=step_ok (n:=m+n) (by omega) g1;rw[azP g1 hm.1 hn.1]at s2;have fx1:=VB m z;have fx2:=VB (m+n) z;have wm:=gJ (n:=m) (by omega) (by omega);have wn:=gJ (n:=n) (by omega) (by omega);have wmn:=gJ (n:=m+n) (by omega) (by omega);rw[show(uo m z).now+n=z.now+(m+n)from by rw[h3];omega]at s2;rw[<-h3]at s1;rw[<-h6]at s2 s3;generalize uo (m+n) z=E at *;generalize uo m z=D at *
 have lr:E.rc.length<=100000:=by have:dF E<=1620:=by omega
                                 unfold dF at this;omega
 have ce:=adK E.rc lr;have hq:=apr E.rc (by omega);have e0:=apk E h4;have e1:=apl E h4;have n1:E.s0.mn=a/\E.s0.mx=c/\E.s0.name=[102,105,114,115,116]/\E.s0.first=true:=by obtain⟨q1,q2,q3,q4⟩:=(g4.trans fx2).a;exact⟨q1,q2,q3,q4⟩
 have n2:E.s1.mn=x/\E.s1.mx=y/\E.s1.name=[111,116,104,101,114]/\E.s1.first=false:=by obtain⟨q1,q2,q3,q4⟩:=(g4.trans fx2).b;exact⟨q1,q2,q3,q4⟩
 have m1:D.s0.mn=a/\D.s0.mx=c/\D.s0.name=[102,105,114,115,116]/\D.s0.first=true:=by obtain⟨q1,q2,q3,q4⟩:=(g4.trans fx1).a;exact⟨q1,q2,q3,q4⟩
 have m2:D.s1.mn=x/\D.s1.mx=y/\D.s1.name=[111,116,104,101,114]/\D.s1.first=false:=by obtain⟨q1,q2,q3,q4⟩:=(g4.trans fx1).b;exact⟨q1,q2,q3,q4⟩
 have k1:z.s0.mn=a/\z.s0.mx=c/\z.s0.name=[102,105,114,115,116]/\z.s0.first=true:=g4.a;have k2:z.s1.mn=x/\z.s1.mx=y/\z.s1.name=[111,116,104,101,114]/\z.s1.first=false:=g4.b;simp only[newP,newS,bZ,iM,fA,dL,lW,Oq,zS,jl,bC,aV,qZ]at g5 hcl s1 s2 s3 e0 e1;rw[k1.1,k1.2.1,k1.2.2.1,k1.2.2.2,k2.1,k2.2.1,k2.2.2.1,k2.2.2.2]at hcl s1 s3;rw[m1.1,m1.2.1,m1.2.2.1,m1.2.2.2,m2.1,m2.2.1,m2.2.2.1,m2.2.2.2]at s2;rw[n1.1,n1.2.1,n1.2.2.1,n1.2.2.2,n2.1,n2.2.1,n2.2.2.1,n2.2.2.2]at e0 e1;have TS:=awt E;simp only[bZ,fA,dL,bC,aV]at TS;rw[n1.1,n1.2.1,n1.2.2.1,n1.2.2.2,n2.1,n2.2.1,n2.2.2.1,n2.2.2.2]at TS;generalize aaO E=qu at *;generalize th.map aU=TG at *;generalize bk.map aU=BG at *;generalize acts.map iJ=AG at *;generalize(acts.length:Int)=na at *;generalize E.k0.h.map bJ=G0 at *;generalize E.k0.f.map aU=G1 at *;generalize E.k1.h.map bJ=G2 at *;generalize E.k1.f.map aU=G3 at *;generalize E.rc.map lM=G4 at *;cases qu with
 |true=>refine aP rfl rfl ?_ rfl;simp -implicitDefEqProofs(maxSteps:=1000000) [hfew,a1,a2,a3,a4,ka,b1,b2,b3,b4,kb,cT,cB,hal,g5,hcl,wm,wn,wmn,s1,s2,s3,ce,hq,TS,e0,e1]
 |false=>refine aP rfl rfl ?_ rfl;simp -implicitDefEqProofs(maxSteps:=1000000) [hfew,a1,a2,a3,a4,ka,b1,b2,b3,b4,kb,cT,cB,hal,g5,hcl,wm,wn,wmn,s1,s2,s3,ce,hq,TS,e0,e1]
abbrev SN:WD:=[.bool,.int .u8,.int .u8,.int .i64,.int .i64,.int .u8]
abbrev Xn:WD:=[.int .u8,.int .i64,.int .u64,.list true [.list true [.str,.str],.int .u64],.int .u64,.int .u8]
theorem ap1{cs:Q1}(h:bP.iU SN cs):∃f:Fa,(f.d<256/\f.vS<256/\f.cu<=9223372036854775807/\f.at_<=9223372036854775807)/\GV.g cs=aU f:=by obtain⟨g1,r1,rfl,a1,h⟩:=oL h;obtain⟨g2,r2,rfl,a2,h⟩:=oL h;obtain⟨g3,r3,rfl,a3,h⟩:=oL h;obtain⟨g4,r4,rfl,a4,h⟩:=oL h;obtain⟨g5,r5,rfl,a5,h⟩:=oL h;obtain⟨g6,r6,rfl,a6,h⟩:=oL h;have:=KU h;subst this;obtain⟨b1,rfl⟩:=ars a1;obtain⟨n2,rfl,b2⟩:=HY a2;obtain⟨n3,rfl,b3⟩:=HY a3;obtain⟨n4,rfl,b4⟩:=YJ a4;obtain⟨n5,rfl,b5⟩:=YJ a5;obtain⟨n6,rfl,b6⟩:=HY a6;refine⟨⟨b1,n2.toNat,n3.toNat,n4,n5,n6.toNat⟩,⟨by simp only;omega,by simp only;omega,b4.2,b5.2⟩,?_⟩;unfold aU;simp only;rw[F6 b2.1,F6 b3.1,F6 b6.1]
theorem aks{cs:Q1}(h:bP.iU Xn cs):∃a:Ap,FZ a/\GV.g cs=iJ a:=by obtain⟨g1,r1,rfl,a1,h⟩:=oL h;obtain⟨g2,r2,rfl,a2,h⟩:=oL h;obtain⟨g3,r3,rfl,a3,h⟩:=oL h;obtain⟨g4,r4,rfl,a4,h⟩:=oL h;obtain⟨g5,r5,rfl,a5,h⟩:=oL h;obtain⟨g6,r6,rfl,a6,h⟩:=oL h;have:=KU h;subst this;obtain⟨n1,rfl,b1⟩:=HY a1;obtain⟨n2,rfl,-⟩:=YJ a2;obtain⟨n3,rfl,b3⟩:=Hz a3;obtain⟨rs,hrs,rfl⟩:=awR a4;obtain⟨n5,rfl,b5⟩:=Hz a5;obtain⟨n6,rfl,b6⟩:=HY a6;exact⟨⟨n1,n2,(n3,rs),n5,n6⟩,⟨b1,b3,hrs,b5,b6⟩,rfl⟩
theorem aeN{g:GV}(h:(bP.list true SN).has g):∃l:List Fa,(∀f∈l,f.d<256/\f.vS<256/\f.cu<=9223372036854775807/\f.at_<=9223372036854775807)/\g=.l (l.map aU):=by
 obtain⟨xs,rfl,-,hx⟩:=TL h;obtain⟨l,ha,rfl⟩:=O1 (f:=aU) (p:=λf=>f.d<256/\f.vS<256/\f.cu<=9223372036854775807/\f.at_<=9223372036854775807) (xs:=xs) λx hx'=>by
  obtain⟨k1,k2⟩:=hx x hx';cases x<;>simp[GV.scalar]at k2
  exact ap1 k1
 exact⟨l,ha,rfl⟩
theorem akx{g:GV}(h:(bP.list true Xn).has g):∃l:List Ap,(∀f∈l,FZ f)/\g=.l (l.map iJ):=by
 obtain⟨xs,rfl,-,hx⟩:=TL h;obtain⟨l,ha,rfl⟩:=O1 (f:=iJ) (p:=FZ) (xs:=xs) λx hx'=>by
  obtain⟨k1,k2⟩:=hx x hx';cases x<;>simp[GV.scalar]at k2
  exact aks k1
 exact⟨l,ha,rfl⟩
theorem pairSteps(gs:Q1)(h:hasArgs [(true,[.int .u64,.int .u64]),(true,[.int .u64,.int .u64]),(false,[.list true SN]),(false,[.list true SN]),(false,[.list true Xn]),(false,[.int .u8]),(false,[.int .u8])] gs)(hl:∀xs,GV.l xs∈gs->xs.length<=1048576):TT.lim 4 gs=some [.b true]:=by obtain⟨c1,gs,rfl,h1,h⟩:=afv h;obtain⟨c2,gs,rfl,h2,h⟩:=afv h;obtain⟨l1,gs,rfl,h3,h⟩:=OH h;obtain⟨l2,gs,rfl,h4,h⟩:=OH h;obtain⟨l3,gs,rfl,h5,h⟩:=OH h;obtain⟨m1,gs,rfl,h6,h⟩:=OH h;obtain⟨m2,gs,rfl,h7,h⟩:=OH h;obtain rfl:=arq h;obtain⟨g1,r1,rfl,a1,h1⟩:=oL h1;obtain⟨g2,r2,rfl,a2,h1⟩:=oL h1;obtain rfl:=KU h1;obtain⟨n1,rfl,-⟩:=Hz a1;obtain⟨n2,rfl,-⟩:=Hz a2;obtain⟨g1,r1,rfl,a1,h2⟩:=oL h2;obtain⟨g2,r2,rfl,a2,h2⟩:=oL h2;obtain rfl:=KU h2;obtain⟨n3,rfl,-⟩:=Hz a1;obtain⟨n4,rfl,-⟩:=Hz a2;obtain⟨th,t1,rfl⟩:=aeN h3;obtain⟨bk,t3,rfl⟩:=aeN h4;obtain⟨acts,t5,rfl⟩:=akx h5;have t2:=hl (th.map aU) (by simp);have t4:=hl (bk.map aU) (by simp);have t6:=hl (acts.map iJ) (by simp);rw[fE]at t2 t4 t6;obtain⟨m,rfl,b6⟩:=HY h6;obtain⟨n,rfl,b7⟩:=HY h7;exact azQ n1 n2 n3 n4 th bk acts m n b6 b7 (by omega) (by omega) (by omega) t5 λf hf=>(kG.1 hf).elim (t1 f) (t3 f)
