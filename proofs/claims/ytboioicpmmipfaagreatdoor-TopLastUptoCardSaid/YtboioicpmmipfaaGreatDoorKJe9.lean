/- What the trees compute: plain laws. -/
import Derived.Test.YtboioicpmmipfaaGreatDoorKJe8
set_option linter.all false
namespace Go.Proofs.YtboioicpmmipfaaGreatDoor
open Go Go.aP
set_option maxRecDepth 100000
namespace J
def Rx(y:Pr):Q1:=match kU y with
 |some a=>.zq 0::.zu a::gG y
 |none=>.zq 1::gG y
def Bf{h:List It}{n:Nat}(c:h.length=n+1):at2 3 (some (.l (h.map dD))) (some (.zq 0))=some (dD (at_ h 0))/\Fe (some (.l (h.map dD))) (some (.zq 0))=some (.zq 0):=by have a:=Dj (h:=h) (k:=0) ah;have b:=BX (h:=h) (k:=0) ah;exact⟨a,b⟩
def Si{x:Pr}{a:Int}(h:kU x=some a):Sj x=a:=by unfold Sj;rw[h];rfl
set_option maxHeartbeats 4000000 in
def aiZ(last l:Int):∀(f:Nat)(x:Pr),gK x->x.now<=800000000000->dL x<=80000->dL x<f->
 TT.lim 307 ([.zu last,.zu (Sj x),.b (kU x).isSome,.zu l]++dw x)=some (Rx (oI f x))
 |0,x,u,v,A,F=>ah
 |f+1,x,u,v,A,F=>by
  unfold oI;cases t:kU x with
  |none=>simp only;unfold Rx Sj;rw[t];simp only[Zn,wE,dw,gG,dZ,dH,kD,bG,aZ];refine aB ?_;simp
  |some a=>
   rw[Si t];simp only[Zo];by_cases c:a<=x.now;rotate_left
   ·rw[aj c];unfold Rx;rw[t];simp only[dw,gG,dZ,dH,kD,bG,aZ];refine aB ?_;simp -implicitDefEqProofs[c]
   rw[au c];obtain⟨G,M⟩:=Vm u t c;have e:=ao4 x u v A;have d:=aiZ last l f (lG x) G (by rw[NC];exact v) ah ah;have b:=agi x;have i:=NC x;generalize Rx (oI f (lG x))=R at *;have w:=akm (lG x);generalize lG x=E at *;have B:((E.k0.h.map dD).length:Int)=(E.k0.h.length:Int):=by rw[gU]
   have o:((E.k1.h.map dD).length:Int)=(E.k1.h.length:Int):=by rw[gU]
   rcases w with⟨j,k,h⟩|⟨n,j,k,h⟩|⟨n,j,k,h⟩|⟨n,m,j,k,h⟩
   ·unfold Sj at d;rw[h]at d;simp only[Zn,wE,dw,gG,dZ,dH,kD,bG,aZ]at e d⊢;rw[i,b.a.1,b.a.2.1,b.a.2.2.1,b.a.2.2.2,b.b.1,b.b.2.1,b.b.2.2.1,b.b.2.2.2,j,k]at d;rw[j,k]at e;simp only[jJ]at e d;refine aB ?_;simp -implicitDefEqProofs[c,e,d]
   ·rw[Si h,h]at d;obtain⟨p,q⟩:=Bf j;have g:¬(E.k0.h.length:Int)=0:=ah;simp only[Zo,dw,gG,dZ,dH,kD,bG,aZ]at e d⊢;rw[i,b.a.1,b.a.2.1,b.a.2.2.1,b.a.2.2.2,b.b.1,b.b.2.1,b.b.2.2.1,b.b.2.2.2,k]at d;rw[k]at e;simp only[jJ]at e d;generalize at_ E.k0.h 0=z,E.k0.h.map dD=r,(E.k0.h.length:Int)=D at *;refine aB ?_;simp -implicitDefEqProofs[-ku,-fO,c,e,B,g,p,q,d]
   ·rw[Si h,h]at d;obtain⟨p,q⟩:=Bf k;have g:¬(E.k1.h.length:Int)=0:=ah;simp only[Zo,dw,gG,dZ,dH,kD,bG,aZ]at e d⊢;rw[i,b.a.1,b.a.2.1,b.a.2.2.1,b.a.2.2.2,b.b.1,b.b.2.1,b.b.2.2.1,b.b.2.2.2,j]at d;rw[j]at e;simp only[jJ]at e d;generalize at_ E.k1.h 0=z,E.k1.h.map dD=r,(E.k1.h.length:Int)=D at *;refine aB ?_;simp -implicitDefEqProofs[-ku,-fO,c,e,o,g,p,q,d]
   ·rw[Si h,h]at d;obtain⟨p,q⟩:=Bf j;obtain⟨H,I⟩:=Bf k;have g:¬(E.k0.h.length:Int)=0:=ah;have s:¬(E.k1.h.length:Int)=0:=ah;simp only[Zo,dw,gG,dZ,dH,kD,bG,aZ]at e d⊢;rw[i,b.a.1,b.a.2.1,b.a.2.2.1,b.a.2.2.2,b.b.1,b.b.2.1,b.b.2.2.1,b.b.2.2.2]at d;generalize at_ E.k0.h 0=z,E.k0.h.map dD=r,(E.k0.h.length:Int)=D,at_ E.k1.h 0=y,E.k1.h.map dD=L,(E.k1.h.length:Int)=N at *;refine aB ?_;simp -implicitDefEqProofs[-ku,-fO,c,e,B,o,g,s,p,q,H,I,d]
set_option maxHeartbeats 8000000 in
def aif:∀(f:Nat)(last:Int)(x:Pr),gK x->x.now<=last->last<=800000000000->dL x<=80000->(last-x.now).toNat<f->
 TT.lim 306 (.zu last::dw x)=some (.zq 0::gG (ql f last x))\/
 TT.lim 306 (.zu last::dw x)=some (.zq 1::.zu last::gG (ql f last x))
 |0,last,x,B,N,S,T,V=>ah
 |f+1,last,x,B,N,S,T,V=>by
  unfold ql;by_cases c:x.now<last;rotate_left
  ·rw[aj c];have e:x.now=last:=ah;refine .inr ?_;simp only[dw,gG,dZ,dH,kD,bG,aZ];rw[e];refine aB ?_;simp
  rw[au c];have A:=akm x;have D:((x.k0.h.map dD).length:Int)=(x.k0.h.length:Int):=by rw[gU]
  have s:((x.k1.h.map dD).length:Int)=(x.k1.h.length:Int):=by rw[gU]
  cases u:kU x with
  |none=>
   simp only;have q:x.k0.h=[]/\x.k1.h=[]:=by
    rcases A with⟨i,j,g⟩|⟨n,i,j,g⟩|⟨n,i,j,g⟩|⟨n,m,i,j,g⟩
    ·exact⟨i,j⟩
    ·rw[u]at g;cases g
    ·rw[u]at g;cases g
    ·rw[u]at g;cases g
   refine .inl ?_;simp only[dw,gG,dZ,dH,kD,bG,aZ];rw[q.1,q.2];simp only[jJ];refine aB ?_;simp -implicitDefEqProofs[c]
  |some a=>
   simp only;rw[u]at A;by_cases k:last<a
   ·rw[au k];refine .inl ?_;simp only[dw,gG,dZ,dH,kD,bG,aZ];rcases A with⟨i,j,g⟩|⟨n,i,j,g⟩|⟨n,i,j,g⟩|⟨n,m,i,j,g⟩
    ·cases g
    ·injection g with g
     obtain⟨o,p⟩:=Bf i;have h:¬(x.k0.h.length:Int)=0:=ah;rw[g]at k;rw[j];simp only[jJ];clear g u;generalize at_ x.k0.h 0=z,x.k0.h.map dD=v,(x.k0.h.length:Int)=F at *;refine aB ?_;simp -implicitDefEqProofs[-ku,-fO,c,k,D,h,o,p]
    ·injection g with g
     obtain⟨o,p⟩:=Bf j;have h:¬(x.k1.h.length:Int)=0:=ah;rw[g]at k;rw[i];simp only[jJ];clear g u;generalize at_ x.k1.h 0=z,x.k1.h.map dD=v,(x.k1.h.length:Int)=F at *;refine aB ?_;simp -implicitDefEqProofs[-ku,-fO,c,k,s,h,o,p]
    ·injection g with g
     obtain⟨o,p⟩:=Bf i;obtain⟨L,M⟩:=Bf j;have h:¬(x.k0.h.length:Int)=0:=ah;have r:¬(x.k1.h.length:Int)=0:=ah;rw[g]at k;clear g u;generalize at_ x.k0.h 0=z,x.k0.h.map dD=v,(x.k0.h.length:Int)=F,at_ x.k1.h 0=y,x.k1.h.map dD=O,(x.k1.h.length:Int)=W at *;refine aB ?_;simp -implicitDefEqProofs[-ku,-fO,c,k,D,s,h,r,o,p,L,M]
   rw[aj k];have F:=B.now;obtain⟨X,Y,g3,-⟩:=afL (a:=a) B;have P:(sG a x).now<=last/\x.now<(sG a x).now:=by rw[g3];split<;>omega
   have t:=aif f last (sG a x) X P.1 S ah ah;have R:gK {x with now:=if x.now+1<a then a else x.now+1}:=⟨B.s0,B.s1,B.k0,B.k1,by simp only;split<;>omega⟩
   have d:=aiZ last a (dL x+1) {x with now:=if x.now+1<a then a else x.now+1} R (by simp only;split<;>omega) T (Eu _);have w:kU {x with now:=if x.now+1<a then a else x.now+1}=some a:=u;rw[Si w,w]at d;rw[show oI (dL x+1) {x with now:=if x.now+1<a then a else x.now+1}=sG a x from rfl]at d;have l:=afM a x;have H:=jW (x.now+1);generalize ql f last (sG a x)=G at *;generalize sG a x=E at *;have d:TT.lim 307 ([.zu last,.zu a,.b true,.zu a]++dw {x with now:=if x.now+1<a then a else x.now+1})=some (.zq 1::gG E)\/∃b,TT.lim 307 ([.zu last,.zu a,.b true,.zu a]++dw {x with now:=if x.now+1<a then a else x.now+1})=some (.zq 0::.zu b::gG E):=by
    unfold Rx at d;cases U:kU E with
    |none=>rw[U]at d;exact .inl d
    |some b=>rw[U]at d;exact .inr ⟨b,d⟩
   have I:∀Q:Q1,TT.lim 306 (.zu last::dw E)=some Q->TT.lim 306 (.zu last::dw x)=some Q:=by
    intro Q t;simp only[dw,gG,dZ,dH,kD,bG,aZ]at d t⊢;rw[g3,l.a.1,l.a.2.1,l.a.2.2.1,l.a.2.2.2,l.b.1,l.b.2.1,l.b.2.2.1,l.b.2.2.2]at t;rcases A with⟨i,j,g⟩|⟨n,i,j,g⟩|⟨n,i,j,g⟩|⟨n,m,i,j,g⟩
    ·cases g
    ·injection g with g
     obtain⟨o,p⟩:=Bf i;have h:¬(x.k0.h.length:Int)=0:=ah;rw[g]at k t d;rw[j]at d⊢;simp only[jJ]at d⊢;clear g u w g3;generalize at_ x.k0.h 0=z,x.k0.h.map dD=v,(x.k0.h.length:Int)=F at *;rcases d with d|⟨b,d⟩
     ·refine aB ?_;simp -implicitDefEqProofs[-ku,-fO,c,k,D,h,o,p,H,d,t]
     ·refine aB ?_;simp -implicitDefEqProofs[-ku,-fO,c,k,D,h,o,p,H,d,t]
    ·injection g with g
     obtain⟨o,p⟩:=Bf j;have h:¬(x.k1.h.length:Int)=0:=ah;rw[g]at k t d;rw[i]at d⊢;simp only[jJ]at d⊢;clear g u w g3;generalize at_ x.k1.h 0=z,x.k1.h.map dD=v,(x.k1.h.length:Int)=F at *;rcases d with d|⟨b,d⟩
     ·refine aB ?_;simp -implicitDefEqProofs[-ku,-fO,c,k,s,h,o,p,H,d,t]
     ·refine aB ?_;simp -implicitDefEqProofs[-ku,-fO,c,k,s,h,o,p,H,d,t]
    ·injection g with g
     obtain⟨o,p⟩:=Bf i;obtain⟨L,M⟩:=Bf j;have h:¬(x.k0.h.length:Int)=0:=ah;have r:¬(x.k1.h.length:Int)=0:=ah;rw[g]at k t d;clear g u w g3;generalize at_ x.k0.h 0=z,x.k0.h.map dD=v,(x.k0.h.length:Int)=F,at_ x.k1.h 0=y,x.k1.h.map dD=O,(x.k1.h.length:Int)=W at *;rcases d with d|⟨b,d⟩
     ·refine aB ?_;simp -implicitDefEqProofs[-ku,-fO,c,k,D,s,h,r,o,p,L,M,H,d,t]
     ·refine aB ?_;simp -implicitDefEqProofs[-ku,-fO,c,k,D,s,h,r,o,p,L,M,H,d,t]
   exact t.imp (I _) (I _)
def adX(n:Int)(x:Pr)(h0:0<=n)(e:n<=100000)(a:gK x)(f:x.now<=700000000000)(d:dL x<=80000):
 TT.lim 305 (.zu n::dw x)=some (.zq 0::.zu (x.now+n)::gG (zl n x)):=by
 have w0:=a.now;have b:=jW (x.now+n);have h:=aif (n.toNat+1) (x.now+n) x a ah ah d ah;have c:¬(100000:Int)<n:=ah;unfold zl;generalize ql (n.toNat+1) (x.now+n) x=E at *;simp only[dw,gG,dZ,dH,kD,bG,aZ]at h⊢;rcases h with h|h
 ·refine aB ?_;simp -implicitDefEqProofs[c,b,h]
 ·refine aB ?_;simp -implicitDefEqProofs[c,b,h]
def step_ok{n:Int}{x:Pr}(h0:0<=n)(a:gK x):gK (zl n x)/\dL (zl n x)<=dL x/\(zl n x).now=x.now+n:=by obtain⟨b,c,g3⟩:=go_ok (n.toNat+1) (last:=x.now+n) a ah;exact⟨b,c,g3 ah⟩
def agx(h:List Fa)(b:h.length<=100000):TT.lim 29 [.l (h.map bg)]=some [.l (h.map bg)]:=by
 refine D5 rfl ?_;unfold EM;have a:(h.map bg).length*32<=140737488355328/\(h.map bg).all (GV.gV 6)=true:=⟨by rw[gU];omega,by rw[List.all_map];exact List.all_eq_true.2 λx _=>rfl⟩
 simp only[a,and_self,if_true]
def Hz(s:bf):Q1:=[.zq 0]++([.zu s.mn,.zu s.mx,.s s.name,.b s.first,.zq s.st,.zq s.ver,.zq s.vs,.b s.sm,.zu s.h.1,.l (s.h.2.map row),.l (s.k.map sn),.zu s.b])
def kM(e:Int)(v:Sn)(x:Pr):Pr:=if e=0 then {x with s0:=FP v x.s0}else if e=1 then {x with s1:=FP v x.s1}else x
def Ls(e:Int)(v:Sn)(x:Pr):Int:=if e=0 then(jV v x.s0.k x.s0.b).1 else if e=1 then(jV v x.s1.k x.s1.b).1 else 24
def azQ(e:Int)(v:Sn)(x:Pr)(b:dX v.2)(d:gK x):TT.lim 298 ([.zq e,.zu v.1,.l (v.2.map row)]++dw x)=some [.zq 0,.zq (Ls e v x),.l ((kM e v x).s1.k.map sn),.zu (kM e v x).s1.b,.l ((kM e v x).s0.k.map sn),.zu (kM e v x).s0.b]:=by
 have f:=alk v x.s0 b d.s0;have g:=alk v x.s1 b d.s1;unfold kM Ls FP;generalize jV v x.s0.k x.s0.b=h,jV v x.s1.k x.s1.b=i at *;simp only[dw,dZ,dH,bG,aZ]at f g⊢;by_cases c:e=0
 ·rw[au c,au c];subst c;refine aB ?_;simp -implicitDefEqProofs[f]
 rw[aj c,aj c];by_cases a:e=1
 ·rw[au a,au a];subst a;refine aB ?_;simp -implicitDefEqProofs[g]
 rw[aj a,aj a];refine aB ?_;simp -implicitDefEqProofs[c,a]
def alj{e:Int}{v:Sn}{x:Pr}(a:gK x)(b:dX v.2)(h0:0<=v.1/\v.1<18446744073709551616):gK (kM e v x)/\dL (kM e v x)=dL x/\(kM e v x).now=x.now:=by
 unfold kM;split
 ·exact⟨⟨alg a.s0 b h0,a.s1,a.k0,a.k1,a.now⟩,rfl,rfl⟩
 split
 ·exact⟨⟨a.s0,alg a.s1 b h0,a.k0,a.k1,a.now⟩,rfl,rfl⟩
 ·exact⟨a,rfl,rfl⟩
def gI(e:Int)(x:Pr):Pr:=if e=0 then {x with s0:=jU x.s0,k0:=iU x.now (fH x.s0).1 x.k0}else if e=1 then {x with s1:=jU x.s1,k1:=iU x.now (fH x.s1).1 x.k1}else x
def OT(e:Int)(x:Pr):Int:=if e=0 then(fH x.s0).1.length else if e=1 then(fH x.s1).1.length else 0
def IG(s:bf):∀t∈(fH s).1,t.length<=65536:=by
 intro t a;have c:∀{b:aQ}{v:Int},t∈jw b v->t.length<=65536:=by
  intro b v h;unfold jw at h;split at h
  ·rw[jX.1 h];exact QS _ _ _
  ·cases h
 unfold fH at a;repeat' split at a
 all_goals first|exact c a|cases a
def XO{s:bf}(a:kF s):kF (jU s):=⟨a.mn,a.mx,a.le,a.name,a.ver,a.rc,a.kp⟩
def XP(s:bf):wW (fH s).1<=6:=by
 have a:=SL s;generalize(fH s).1=b at *;match b,a with
 |[],_=>simp[wW]
 |[u],_=>have:=Ua (fA u);simp only[wW];omega
def SE(e:Int)(x:Pr)(a:gK x)(h:x.now<=800000000000)(i:dL x<=80000):TT.lim 303 (.zq e::dw x)=some ([.zq 0,.zq (OT e x)]++(dZ (gI e x).k1++(dZ (gI e x).k0++[.zq (gI e x).s1.st,.zq (gI e x).s0.st]))):=by
 unfold dL at i;unfold gI OT;by_cases c:e=0
 ·rw[au c,au c];subst c;have g:=ald x.s0 a.s0;have j:=XP x.s0;have k:=SL x.s0;have d:=Yd {x with s0:=jU x.s0} ⟨XO a.s0,a.s1,a.k0,a.k1,a.now⟩ (fH x.s0).1 ah (IG x.s0) h (by simp only;omega);unfold jU at d⊢;generalize fH x.s0=P at *;simp only[dw,dZ,dH,bG,aZ]at g d⊢;have b:((P.1.map GV.s).length:Int)=(P.1.length:Int):=by rw[gU]
  generalize iU x.now P.1 x.k0=K,P.1.map GV.s=l at *;refine aB ?_;simp -implicitDefEqProofs[g,d,b]
 rw[aj c,aj c];by_cases f:e=1
 ·rw[au f,au f];subst f;have g:=ald x.s1 a.s1;have j:=XP x.s1;have k:=SL x.s1;have d:=Ye {x with s1:=jU x.s1} ⟨a.s0,XO a.s1,a.k0,a.k1,a.now⟩ (fH x.s1).1 ah (IG x.s1) h (by simp only;omega);unfold jU at d⊢;generalize fH x.s1=P at *;simp only[dw,dZ,dH,bG,aZ]at g d⊢;have b:((P.1.map GV.s).length:Int)=(P.1.length:Int):=by rw[gU]
  generalize iU x.now P.1 x.k1=K,P.1.map GV.s=l at *;refine aB ?_;simp -implicitDefEqProofs[g,d,b]
 rw[aj f,aj f];simp only[dw,dZ,dH,bG,aZ];refine aB ?_;simp -implicitDefEqProofs[c,f]
def IE{e:Int}{x:Pr}(a:gK x):gK (gI e x)/\dL (gI e x)<=dL x+6/\(gI e x).now=x.now:=by
 unfold gI;split
 ·obtain⟨b,c,-⟩:=Tt (now:=x.now) (fH x.s0).1 a.k0 (IG x.s0);have:=XP x.s0;refine⟨⟨XO a.s0,a.s1,b,a.k1,a.now⟩,?_,rfl⟩;unfold dL;simp only;omega
 split
 ·obtain⟨b,c,-⟩:=Tt (now:=x.now) (fH x.s1).1 a.k1 (IG x.s1);have:=XP x.s1;refine⟨⟨a.s0,XO a.s1,a.k0,b,a.now⟩,?_,rfl⟩;unfold dL;simp only;omega
 ·exact⟨a,ah,rfl⟩
def agL(a b:List Fa)(s:a.length<=2000000000000)(t:b.length<=2000000000000):TT.lim 5 [.l [.l (a.map bg),.l (b.map bg)]]=some [.l ((a++b).map bg)]:=by
 have w1:IntKind.i64.wrap 1=1:=rfl;have d:IntKind.i64.wrap 2=2:=rfl;have g:((a.map bg).length:Int)=(a.length:Int):=by rw[gU]
 have i:((b.map bg).length:Int)=(b.length:Int):=by rw[gU]
 have j:=bK ((a.length:Int));have k:=bK ((a.length:Int)+(b.length:Int));have l:TT.lim 6 [.l [.l (a.map bg),.l (b.map bg)],.zq ((a.length:Int)+(b.length:Int)),.zq 2,.zq 2]=some [.zq 0,.zq ((a.length:Int)+(b.length:Int))]:=by refine aB ?_;simp
 have e:¬((a.length:Int)+(b.length:Int)<0):=ah;have m:¬((a.length:Int)<0):=ah;have n:TT.lim 6 [.l [.l (a.map bg),.l (b.map bg)],.zq (a.length:Int),.zq 2,.zq 1]=some [.zq 0,.zq ((a.length:Int)+(b.length:Int))]:=by generalize a.map bg=A,b.map bg=B,(a.length:Int)=x,(b.length:Int)=y at *;refine aB ?_;simp -implicitDefEqProofs[d,i,k,e,l]
 have o:TT.lim 6 [.l [.l (a.map bg),.l (b.map bg)],.zq 0,.zq 2,.zq 0]=some [.zq 0,.zq ((a.length:Int)+(b.length:Int))]:=by generalize a.map bg=A,b.map bg=B,(a.length:Int)=x,(b.length:Int)=y at *;refine aB ?_;simp -implicitDefEqProofs[w1,g,j,m,n]
 have f:∀u v:List Fa,u.length+v.length<=4398046511000->Jy 6 32 (some (.l (u.map bg))) (some (.l (v.map bg)))=some (.l ((u++v).map bg)):=by
  intro u v h;rw[GY,au]
  ·rw[oJ]
  ·refine⟨?_,?_,?_⟩
   ·rw[List.all_map];exact List.all_eq_true.2 λx _=>rfl
   ·simp only[gU];omega
   ·simp only[gU];omega
 have c:∀X:List Fa,TT.lim 7 [.l (X.map bg),.l [.l (a.map bg),.l (b.map bg)],.zq 2,.zq 2]=some [.zq 0,.l (X.map bg)]:=by intro X;refine aB ?_;simp
 have p:TT.lim 7 [.l (a.map bg),.l [.l (a.map bg),.l (b.map bg)],.zq 2,.zq 1]=some [.zq 0,.l ((a++b).map bg)]:=by have h:=f a b ah;have c:=c (a++b);generalize(a++b).map bg=C,a.map bg=A,b.map bg=B at *;refine aB ?_;simp -implicitDefEqProofs[d,h,c]
 have q:TT.lim 7 [.l [],.l [.l (a.map bg),.l (b.map bg)],.zq 2,.zq 0]=some [.zq 0,.l ((a++b).map bg)]:=by have h:=f [] a (by simp;omega);rw[aZ,jJ]at h;generalize(a++b).map bg=C,a.map bg=A,b.map bg=B at *;refine aB ?_;simp -implicitDefEqProofs[w1,h,p]
 have r:TT.lim 1 [.zq ((a.length:Int)+(b.length:Int))]=some [.l []]:=by refine D5 rfl ?_;unfold J3;dsimp only;rw[au ⟨ah,ah,ah⟩]
 have w:=bK ((a.length:Int)+(b.length:Int));generalize(a++b).map bg=C,a.map bg=A,b.map bg=B,(a.length:Int)=x,(b.length:Int)=y at *;refine aW ?_;simp -implicitDefEqProofs[o,e,r,q]
structure Ap where
 kK:Int
 en:Int
 x:Sn
 ep:Int
 tk:Int
structure Ai(a:Ap):Prop where
 kK:0<=a.kK/\a.kK<256
 v:0<=a.x.1/\a.x.1<18446744073709551616
 rows:Rows a.x.2
 ep:0<=a.ep/\a.ep<18446744073709551616
 tk:0<=a.tk/\a.tk<256
def kR(a:Ap):GV:=.g [.i .u8 a.kK,.zq a.en,.zu a.x.1,.l (a.x.2.map row),.zu a.ep,.i .u8 a.tk]
@[simp] theorem aHd(a:Ap):(kR a).cells=[.i .u8 a.kK,.zq a.en,.zu a.x.1,.l (a.x.2.map row),.zu a.ep,.i .u8 a.tk]:=rfl
@[simp] theorem aHe(a:Ap):(kR a).scalar=false:=rfl
def AP(r:Row):Bool:=decide ((100:Int)<(dN r.1).length)
def aiW(l:List Row)(f:∀r∈l,ji r.1=true)(n:l.length<=100000):∀(m i:Nat),i+m=l.length->
 ∃k,TT.lim 23 [.l (l.map row),.zq (l.length:Int),.zq (i:Int)]=some (if(l.drop i).any AP=true then[.zq 0,.zq ((k:Nat):Int)]else[.zq 1])
 |0,i,hi=>by have c:¬((i:Int)<l.length):=ah;rw[iP];refine⟨0,?_⟩;rw[aj aA];refine aB ?_;simp -implicitDefEqProofs[c]
 |m+1,i,hi=>by
  have b:i<l.length:=ah;have c:(i:Int)<l.length:=ah;have o:IntKind.i64.wrap ((i:Int)+1)=((i+1:Nat):Int):=by rw[wrap64 ah ah];omega
  have p:l.drop i=l[i]::l.drop (i+1):=iY b;have d:at2 2 (some (.l (l.map row))) (some (.zq (i:Int)))=some (row l[i]):=by rw[fO,lY,zF,jA,cO b];rfl
  have q:=f _ (iZ b);obtain⟨k,g⟩:=aiW l f n m (i+1) ah;rw[p];generalize l[i]=r at *;have e:=DL r.1 q;have a:TT.lim 24 [row r]=some [.b (AP r)]:=by unfold AP;generalize dN r.1=K at *;refine aW ?_;simp -implicitDefEqProofs[e]
  have h:GV.g [.l (r.1.map ent),.zu r.2]=row r:=rfl;rw[<-o]at g;rw[aeU];cases j:AP r with
  |true=>rw[j]at a;refine⟨i,?_⟩;rw[au aA];generalize l.map row=s,(l.length:Int)=t at *;refine aB ?_;simp -implicitDefEqProofs[-fO,c,d,h,a]
  |false=>rw[j]at a;refine⟨k,?_⟩;rw[Bj];generalize(if(l.drop (i+1)).any AP=true then[GV.zq 0,.zq ((k:Nat):Int)]else[.zq 1])=Q,l.map row=s,(l.length:Int)=t at *;refine aB ?_;simp -implicitDefEqProofs[-fO,c,d,h,a,g]
def apY(l:List Row)(d:∀r∈l,ji r.1=true)(e:l.length<=100000):TT.lim 21 [.l (l.map row)]=some [.b (l.any AP)]:=by
 obtain⟨k,h⟩:=aiW l d e l.length 0 ah;rw[dY]at h;have a:((l.map row).length:Int)=(l.length:Int):=by rw[gU]
 have hi:TT.lim 22 [.l (l.map row)]=some [.zq (if l.any AP=true then((k:Nat):Int)else -1)]:=by
  cases b:l.any AP with
  |true=>rw[b,au rfl]at h;rw[au rfl];simp only[tJ]at h;generalize l.map row=c at *;refine aW ?_;simp -implicitDefEqProofs[a,h]
  |false=>rw[b,aj aA]at h;rw[aj aA];simp only[tJ]at h;generalize l.map row=c at *;refine aW ?_;simp -implicitDefEqProofs[a,h]
 cases b:l.any AP with
 |true=>rw[b,au rfl]at hi;have f:(0:Int)<=(k:Int):=ah;generalize l.map row=c,(k:Int)=g at *;refine aW ?_;simp -implicitDefEqProofs[hi,f]
 |false=>rw[b,aj aA]at hi;generalize l.map row=c at *;refine aW ?_;simp -implicitDefEqProofs[hi]
def Ia(a:Ap):Bool:=decide ((a.x.2.length:Int)<=10)&&(H9 a.x.2&&(decide (a.tk<=40)&&!a.x.2.any AP))
def ahJ(r s:GV)(l:List Ap)(y:l.length<=4000000000000)(t:∀a∈l,Ai a):∀(m i:Nat),i+m=l.length->
 TT.lim 9 [r,s,.l (l.map kR),.zq (l.length:Int),.zq (i:Int)]=some (if(l.drop i).all Ia=true then[.zq 1]else[.zq 0])
 |0,i,hi=>by have c:¬((i:Int)<l.length):=ah;rw[iP,au aA];refine aB ?_;simp -implicitDefEqProofs[c]
 |m+1,i,hi=>by
  have h:i<l.length:=ah;have c:(i:Int)<l.length:=ah;have z:IntKind.i64.wrap ((i:Int)+1)=((i+1:Nat):Int):=by rw[wrap64 ah ah];omega
  have A:l.drop i=l[i]::l.drop (i+1):=iY h;have d:at2 6 (some (.l (l.map kR))) (some (.zq (i:Int)))=some (kR l[i]):=by rw[fO,lY,zF,jA,cO h];rfl
  have k:=t _ (iZ h);have u:=ahJ r s l y t m (i+1) ah;rw[<-z]at u;rw[A,uH];generalize l[i]=a at *;have j:=auF a.x.2 k.rows;have v:((a.x.2.map row).length:Int)=(a.x.2.length:Int):=by rw[gU]
  generalize(l.drop (i+1)).all Ia=B at *;unfold Ia;by_cases w:(a.x.2.length:Int)<=10;rotate_left
  ·rw[aj (by simp[w])];have b:(10:Int)<a.x.2.length:=ah;generalize l.map kR=n,(l.length:Int)=o at *;refine aB ?_;simp -implicitDefEqProofs[-fO,c,d,b]
  have b:¬(10:Int)<a.x.2.length:=ah;cases p:H9 a.x.2 with
  |false=>rw[aj (by simp[p])];rw[p]at j;generalize l.map kR=n,(l.length:Int)=o at *;refine aB ?_;simp -implicitDefEqProofs[-fO,c,d,b,j]
  |true=>
   rw[p]at j;have f:=apY a.x.2 (aij k.rows p).few ah;by_cases x:a.tk<=40;rotate_left
   ·rw[aj (by simp[x])];have g:(40:Int)<a.tk:=ah;generalize l.map kR=n,(l.length:Int)=o at *;refine aB ?_;simp -implicitDefEqProofs[-fO,c,d,b,j,g]
   have g:¬(40:Int)<a.tk:=ah;cases q:a.x.2.any AP with
   |true=>rw[aj (by simp[q])];rw[q]at f;generalize l.map kR=n,(l.length:Int)=o at *;refine aB ?_;simp -implicitDefEqProofs[-fO,c,d,b,j,g,f]
   |false=>
    rw[q]at f;have e:(decide ((a.x.2.length:Int)<=10)&&(true&&(decide (a.tk<=40)&&!false)))=true:=by simp[w,x]
    rw[e,Gv];generalize(if B=true then[GV.zq 1]else[.zq 0])=Q,l.map kR=n,(l.length:Int)=o at *;refine aB ?_;simp -implicitDefEqProofs[-fO,c,d,b,j,g,f,u]
def NS(f:Fa):Bool:=decide ((f.c:Int)<=3)
def ahI(f g h:GV)(l:List Fa)(n:l.length<=9000000000000000):∀(m i:Nat),i+m=l.length->
 TT.lim 8 [f,g,h,.l (l.map bg),.zq (l.length:Int),.zq (i:Int)]=some (if(l.drop i).all NS=true then[.zq 1]else[.zq 0])
 |0,i,hi=>by have c:¬((i:Int)<l.length):=ah;rw[iP,au aA];refine aB ?_;simp -implicitDefEqProofs[c]
 |m+1,i,hi=>by
  have d:i<l.length:=ah;have c:(i:Int)<l.length:=ah;have o:IntKind.i64.wrap ((i:Int)+1)=((i+1:Nat):Int):=by rw[wrap64 ah ah];omega
  have p:l.drop i=l[i]::l.drop (i+1):=iY d;have e:at2 6 (some (.l (l.map bg))) (some (.zq (i:Int)))=some (bg l[i]):=by rw[fO,lY,zF,jA,cO d];rfl
  have j:=ahI f g h l n m (i+1) ah;rw[<-o]at j;rw[p,uH];generalize l[i]=a at *;generalize s:(l.drop (i+1)).all NS=B at *;unfold NS;by_cases k:(a.c:Int)<=3
  ·have b:¬(3:Int)<a.c:=ah;rw[EN k,Gv];generalize(if B=true then[GV.zq 1]else[.zq 0])=Q,l.map bg=q,(l.length:Int)=r at *;refine aB ?_;simp -implicitDefEqProofs[-fO,c,e,b,j]
  ·have b:(3:Int)<a.c:=ah;rw[Dx k,Y8,aj aA];generalize l.map bg=q,(l.length:Int)=r at *;refine aB ?_;simp -implicitDefEqProofs[-fO,c,e,b]
def V4(a b:List Fa)(l:List Ap):Bool:=(a++b).all NS&&(l.all Ia&&(decide ((a.length:Int)<=30)&&(decide ((b.length:Int)<=30)&&decide ((l.length:Int)<=30))))
def auG(a b:List Fa)(l:List Ap)(r:a.length<=2000000000000)(s:b.length<=2000000000000)(p:l.length<=4000000000000)(q:∀x∈l,Ai x):TT.lim 4 [.l (a.map bg),.l (b.map bg),.l (l.map kR)]=some [.b (V4 a b l)]:=by
 have e:=agL a b ah ah;have c:=ahI (.l (a.map bg)) (.l (b.map bg)) (.l (l.map kR)) (a++b) (by rw[eP];omega) (a++b).length 0 ah;have d:=ahJ (.l (a.map bg)) (.l (b.map bg)) l p q l.length 0 ah;rw[dY]at c d;have h:((a.map bg).length:Int)=(a.length:Int):=by rw[gU]
 have i:((b.map bg).length:Int)=(b.length:Int):=by rw[gU]
 have g:((l.map kR).length:Int)=(l.length:Int):=by rw[gU]
 have f:(((a++b).map bg).length:Int)=((a++b).length:Int):=by rw[gU]
 simp only[tJ]at c d;unfold V4;cases k:(a++b).all NS with
 |false=>rw[k,aj aA]at c;rw[Y8];generalize(a++b).map bg=C,a.map bg=A,b.map bg=B,l.map kR=L,((a++b).length:Int)=m at *;refine aW ?_;simp -implicitDefEqProofs[e,f,c]
 |true=>
  rw[k,au rfl]at c;rw[Gv];cases n:l.all Ia with
  |false=>rw[n,aj aA]at d;rw[Y8];generalize(a++b).map bg=C,a.map bg=A,b.map bg=B,l.map kR=L,((a++b).length:Int)=m at *;refine aW ?_;simp -implicitDefEqProofs[e,f,c,g,d]
  |true=>
   rw[n,au rfl]at d;rw[Gv];generalize(a++b).map bg=C,a.map bg=A,b.map bg=B,l.map kR=L,((a++b).length:Int)=m at *;by_cases j:(a.length:Int)<=30
   ·by_cases o:(b.length:Int)<=30
    ·refine aW ?_;simp -implicitDefEqProofs[e,f,c,g,d,h,i,j,o]
    ·refine aW ?_;simp -implicitDefEqProofs[e,f,c,g,d,h,i,j,o]
   ·refine aW ?_;simp -implicitDefEqProofs[e,f,c,g,d,h,i,j]
def LC(x:Pr):Bool:=decide (x.k0.h=[])&&(decide (x.k0.f.length=0)&&(decide (x.k1.h=[])&&decide (x.k1.f.length=0)))
def alA(x:Pr):TT.lim 308 (dw x)=some [.zq 0,.b (LC x)]:=by
 have a:((x.k0.h.map dD).length:Int)=(x.k0.h.length:Int):=by rw[gU]
 have b:((x.k0.f.map bg).length:Int)=(x.k0.f.length:Int):=by rw[gU]
 have c:((x.k1.h.map dD).length:Int)=(x.k1.h.length:Int):=by rw[gU]
 have k:((x.k1.f.map bg).length:Int)=(x.k1.f.length:Int):=by rw[gU]
 have d:(x.k0.h=[])=((x.k0.h.length:Int)=0):=propext (by rw[<-PX];omega);have e:(x.k0.f.length=0)=((x.k0.f.length:Int)=0):=propext ah;have f:(x.k1.h=[])=((x.k1.h.length:Int)=0):=propext (by rw[<-PX];omega);have g:(x.k1.f.length=0)=((x.k1.f.length:Int)=0):=propext ah;unfold LC;simp only[d,e,f,g];clear d e f g;simp only[dw,dZ,dH,bG,aZ];generalize x.k0.h.map dD=l,x.k0.f.map bg=m,x.k1.h.map dD=n,x.k1.f.map bg=o,(x.k0.h.length:Int)=r0,(x.k0.f.length:Int)=r1,(x.k1.h.length:Int)=r2,(x.k1.f.length:Int)=r3 at *;by_cases h:r0=0;rotate_left
 ·refine aB ?_;simp -implicitDefEqProofs[a,h]
 subst h;by_cases i:r1=0;rotate_left
 ·refine aB ?_;simp -implicitDefEqProofs[a,b,i]
 subst i;by_cases j:r2=0;rotate_left
 ·refine aB ?_;simp -implicitDefEqProofs[a,b,c,j]
 subst j;refine aB ?_;simp -implicitDefEqProofs[a,b,c,k]
def aGq:pq [102,105,114,115,116] 0 256=0:=by kernel_rfl
def aGr:pq [111,116,104,101,114] 0 256=0:=by kernel_rfl
def newP(a c x y:Int)(th bk:List Fa):Pr:=⟨newS a c [102,105,114,115,116] true,newS x y [111,116,104,101,114] false,⟨th,[],0⟩,⟨bk,[],0⟩,0,[]⟩
def ay8{a c x y:Int}{th bk:List Fa}(h1:1<=a)(d:a<=c)(e:c<=3)(g:1<=x)(h5:x<=y)(h6:y<=3)(i:∀f∈th,Gw f)(j:∀f∈bk,Gw f)(lt:th.length<=30)(l:bk.length<=30):gK (newP a c x y th bk)/\dL (newP a c x y th bk)<=1440:=by
 have b:Heap [] ([]:List It).length:=λk _ h=>by simp at h
 refine⟨⟨akk h1 d e aA,akk g h5 h6 aA,⟨i,b,iG _,λy h=>by cases h⟩,⟨j,b,iG _,λy h=>by cases h⟩,iG _⟩,?_⟩;unfold dL oM newP;simp only[wQ,lQ,Int.toNat_zero];omega
abbrev VY:WK:=[.bool,.int .u8,.int .u8,.int .i64,.int .i64,.int .u8]
abbrev ZK:WK:=[.int .u8,.int .i64,.int .u64,.list true [.list true [.str,.str],.int .u64],.int .u64,.int .u8]
def auA{cs:Q1}(h:dh.jK VY cs):∃f:Fa,(f.d<256/\f.tZ<256/\f.cu<=9223372036854775807/\f.at_<=9223372036854775807)/\GV.g cs=bg f:=by obtain⟨t,r1,rfl,a,h⟩:=rE h;obtain⟨u,r2,rfl,b,h⟩:=rE h;obtain⟨g3,r3,rfl,c,h⟩:=rE h;obtain⟨g4,v,rfl,d,h⟩:=rE h;obtain⟨w,x,rfl,e,h⟩:=rE h;obtain⟨y,z,rfl,g,h⟩:=rE h;have:=Og h;subst this;obtain⟨i,rfl⟩:=awf a;obtain⟨j,rfl,k⟩:=Rh b;obtain⟨l,rfl,m⟩:=Rh c;obtain⟨n,rfl,o⟩:=aa9 d;obtain⟨p,rfl,q⟩:=aa9 e;obtain⟨r,rfl,s⟩:=Rh g;refine⟨⟨i,j.toNat,l.toNat,n,p,r.toNat⟩,⟨by simp only;omega,by simp only;omega,o.2,q.2⟩,?_⟩;unfold bg;simp only;rw[Jf k.1,Jf m.1,Jf s.1]
def aop{cs:Q1}(h:dh.jK ZK cs):∃a:Ap,Ai a/\GV.g cs=kR a:=by obtain⟨t,r1,rfl,c,h⟩:=rE h;obtain⟨u,r2,rfl,d,h⟩:=rE h;obtain⟨g3,r3,rfl,e,h⟩:=rE h;obtain⟨g4,v,rfl,f,h⟩:=rE h;obtain⟨w,x,rfl,g,h⟩:=rE h;obtain⟨y,z,rfl,i,h⟩:=rE h;have:=Og h;subst this;obtain⟨j,rfl,k⟩:=Rh c;obtain⟨l,rfl,-⟩:=aa9 d;obtain⟨m,rfl,n⟩:=J8 e;obtain⟨o,b,rfl⟩:=aBY f;obtain⟨p,rfl,q⟩:=J8 g;obtain⟨r,rfl,s⟩:=Rh i;exact⟨⟨j,l,(m,o),p,r⟩,⟨k,n,b,q,s⟩,rfl⟩
def ahG{g:GV}(h:(dh.list true VY).has g):∃l:List Fa,(∀f∈l,f.d<256/\f.tZ<256/\f.cu<=9223372036854775807/\f.at_<=9223372036854775807)/\g=.l (l.map bg):=by
 obtain⟨b,rfl,-,c⟩:=WG h;obtain⟨l,d,rfl⟩:=RI (f:=bg) (p:=λf=>f.d<256/\f.tZ<256/\f.cu<=9223372036854775807/\f.at_<=9223372036854775807) (xs:=b) λx a=>by
  obtain⟨e,i⟩:=c x a;cases x<;>simp[GV.scalar]at i
  exact auA e
 exact⟨l,d,rfl⟩
def aot{g:GV}(h:(dh.list true ZK).has g):∃l:List Ap,(∀f∈l,Ai f)/\g=.l (l.map kR):=by
 obtain⟨b,rfl,-,c⟩:=WG h;obtain⟨l,d,rfl⟩:=RI (f:=kR) (p:=Ai) (xs:=b) λx a=>by
  obtain⟨e,i⟩:=c x a;cases x<;>simp[GV.scalar]at i
  exact aop e
 exact⟨l,d,rfl⟩
