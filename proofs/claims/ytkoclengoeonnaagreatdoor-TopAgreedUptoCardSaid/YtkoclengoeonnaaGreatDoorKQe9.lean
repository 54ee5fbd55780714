/- What the trees compute: plain laws. -/
import Derived.Test.YtkoclengoeonnaaGreatDoorKQe8
set_option linter.all false
namespace Go.Proofs.YtkoclengoeonnaaGreatDoor
open Go Go.aP
set_option maxRecDepth 100000
namespace Q
def PW(y:Pr):Q1:=match nJ y with
 |some a=>.zq 0::.zu a::ji y
 |none=>.zq 1::ji y
def zB{h:List It}{n:Nat}(c:h.length=n+1):at2 3 (some (.l (h.map bZ))) (some (.zq 0))=some (bZ (at_ h 0))/\BO (some (.l (h.map bZ))) (some (.zq 0))=some (.zq 0):=by have a:=Bg (h:=h) (k:=0) ah;have b:=Af (h:=h) (k:=0) ah;exact⟨a,b⟩
def Qd{x:Pr}{a:Int}(h:nJ x=some a):Qe x=a:=by unfold Qe;rw[h];rfl
set_option maxHeartbeats 4000000 in
def agI(last l:Int):∀(f:Nat)(x:Pr),iW x->x.now<=800000000000->eU x<=80000->eU x<f->
 TT.lim 212 ([.zu last,.zu (Qe x),.b (nJ x).isSome,.zu l]++eY x)=some (PW (uX f x))
 |0,x,t,u,w,F=>ah
 |f+1,x,t,u,w,F=>by
  unfold uX;cases s:nJ x with
  |none=>simp only;unfold PW Qe;rw[s];simp only[adu,um,eY,ji,fU,eG,nM,bI,bf];refine aB ?_;simp
  |some a=>
   rw[Qd s];simp only[XI];by_cases c:a<=x.now;rotate_left
   ·rw[aj c];unfold PW;rw[s];simp only[eY,ji,fU,eG,nM,bI,bf];refine aB ?_;simp -implicitDefEqProofs[c]
   rw[au c];obtain⟨G,J⟩:=Yh t s c;have e:=alY x t u w;have d:=agI last l f (vI x) G (by rw[S9];exact u) ah ah;have b:=aep x;have i:=S9 x;generalize PW (uX f (vI x))=R at *;have v:=ahV (vI x);generalize vI x=E at *;have A:((E.k0.h.map bZ).length:Int)=(E.k0.h.length:Int):=by rw[iw]
   have o:((E.k1.h.map bZ).length:Int)=(E.k1.h.length:Int):=by rw[iw]
   rcases v with⟨j,k,h⟩|⟨n,j,k,h⟩|⟨n,j,k,h⟩|⟨n,m,j,k,h⟩
   ·unfold Qe at d;rw[h]at d;simp only[adu,um,eY,ji,fU,eG,nM,bI,bf]at e d⊢;rw[i,b.a.1,b.a.2.1,b.a.2.2.1,b.a.2.2.2,b.b.1,b.b.2.1,b.b.2.2.1,b.b.2.2.2,j,k]at d;rw[j,k]at e;simp only[jg]at e d;refine aB ?_;simp -implicitDefEqProofs[c,e,d]
   ·rw[Qd h,h]at d;obtain⟨p,q⟩:=zB j;have g:¬(E.k0.h.length:Int)=0:=ah;simp only[XI,eY,ji,fU,eG,nM,bI,bf]at e d⊢;rw[i,b.a.1,b.a.2.1,b.a.2.2.1,b.a.2.2.2,b.b.1,b.b.2.1,b.b.2.2.1,b.b.2.2.2,k]at d;rw[k]at e;simp only[jg]at e d;generalize at_ E.k0.h 0=z,E.k0.h.map bZ=B,(E.k0.h.length:Int)=D at *;refine aB ?_;simp -implicitDefEqProofs[-iT,-dw,c,e,A,g,p,q,d]
   ·rw[Qd h,h]at d;obtain⟨p,q⟩:=zB k;have g:¬(E.k1.h.length:Int)=0:=ah;simp only[XI,eY,ji,fU,eG,nM,bI,bf]at e d⊢;rw[i,b.a.1,b.a.2.1,b.a.2.2.1,b.a.2.2.2,b.b.1,b.b.2.1,b.b.2.2.1,b.b.2.2.2,j]at d;rw[j]at e;simp only[jg]at e d;generalize at_ E.k1.h 0=z,E.k1.h.map bZ=B,(E.k1.h.length:Int)=D at *;refine aB ?_;simp -implicitDefEqProofs[-iT,-dw,c,e,o,g,p,q,d]
   ·rw[Qd h,h]at d;obtain⟨p,q⟩:=zB j;obtain⟨H,I⟩:=zB k;have g:¬(E.k0.h.length:Int)=0:=ah;have r:¬(E.k1.h.length:Int)=0:=ah;simp only[XI,eY,ji,fU,eG,nM,bI,bf]at e d⊢;rw[i,b.a.1,b.a.2.1,b.a.2.2.1,b.a.2.2.2,b.b.1,b.b.2.1,b.b.2.2.1,b.b.2.2.2]at d;generalize at_ E.k0.h 0=z,E.k0.h.map bZ=B,(E.k0.h.length:Int)=D,at_ E.k1.h 0=y,E.k1.h.map bZ=L,(E.k1.h.length:Int)=M at *;refine aB ?_;simp -implicitDefEqProofs[-iT,-dw,c,e,A,o,g,r,p,q,H,I,d]
set_option maxHeartbeats 8000000 in
def agf:∀(f:Nat)(last:Int)(x:Pr),iW x->x.now<=last->last<=800000000000->eU x<=80000->(last-x.now).toNat<f->
 TT.lim 211 (.zu last::eY x)=some (.zq 0::ji (vO f last x))\/
 TT.lim 211 (.zu last::eY x)=some (.zq 1::.zu last::ji (vO f last x))
 |0,last,x,A,M,P,R,T=>ah
 |f+1,last,x,A,M,P,R,T=>by
  unfold vO;by_cases c:x.now<last;rotate_left
  ·rw[aj c];have e:x.now=last:=ah;refine .inr ?_;simp only[eY,ji,fU,eG,nM,bI,bf];rw[e];refine aB ?_;simp
  rw[au c];have w:=ahV x;have B:((x.k0.h.map bZ).length:Int)=(x.k0.h.length:Int):=by rw[iw]
  have s:((x.k1.h.map bZ).length:Int)=(x.k1.h.length:Int):=by rw[iw]
  cases u:nJ x with
  |none=>
   simp only;have q:x.k0.h=[]/\x.k1.h=[]:=by
    rcases w with⟨i,j,g⟩|⟨n,i,j,g⟩|⟨n,i,j,g⟩|⟨n,m,i,j,g⟩
    ·exact⟨i,j⟩
    ·rw[u]at g;cases g
    ·rw[u]at g;cases g
    ·rw[u]at g;cases g
   refine .inl ?_;simp only[eY,ji,fU,eG,nM,bI,bf];rw[q.1,q.2];simp only[jg];refine aB ?_;simp -implicitDefEqProofs[c]
  |some a=>
   simp only;rw[u]at w;by_cases k:last<a
   ·rw[au k];refine .inl ?_;simp only[eY,ji,fU,eG,nM,bI,bf];rcases w with⟨i,j,g⟩|⟨n,i,j,g⟩|⟨n,i,j,g⟩|⟨n,m,i,j,g⟩
    ·cases g
    ·injection g with g
     obtain⟨o,p⟩:=zB i;have h:¬(x.k0.h.length:Int)=0:=ah;rw[g]at k;rw[j];simp only[jg];clear g u;generalize at_ x.k0.h 0=z,x.k0.h.map bZ=H,(x.k0.h.length:Int)=D at *;refine aB ?_;simp -implicitDefEqProofs[-iT,-dw,c,k,B,h,o,p]
    ·injection g with g
     obtain⟨o,p⟩:=zB j;have h:¬(x.k1.h.length:Int)=0:=ah;rw[g]at k;rw[i];simp only[jg];clear g u;generalize at_ x.k1.h 0=z,x.k1.h.map bZ=H,(x.k1.h.length:Int)=D at *;refine aB ?_;simp -implicitDefEqProofs[-iT,-dw,c,k,s,h,o,p]
    ·injection g with g
     obtain⟨o,p⟩:=zB i;obtain⟨J,L⟩:=zB j;have h:¬(x.k0.h.length:Int)=0:=ah;have r:¬(x.k1.h.length:Int)=0:=ah;rw[g]at k;clear g u;generalize at_ x.k0.h 0=z,x.k0.h.map bZ=H,(x.k0.h.length:Int)=D,at_ x.k1.h 0=y,x.k1.h.map bZ=U,(x.k1.h.length:Int)=V at *;refine aB ?_;simp -implicitDefEqProofs[-iT,-dw,c,k,B,s,h,r,o,p,J,L]
   rw[aj k];have D:=A.now;obtain⟨W,X,g3,-⟩:=adW (a:=a) A;have N:(uy a x).now<=last/\x.now<(uy a x).now:=by rw[g3];split<;>omega
   have t:=agf f last (uy a x) W N.1 P ah ah;have O:iW {x with now:=if x.now+1<a then a else x.now+1}:=⟨A.s0,A.s1,A.k0,A.k1,by simp only;split<;>omega⟩
   have d:=agI last a (eU x+1) {x with now:=if x.now+1<a then a else x.now+1} O (by simp only;split<;>omega) R (Dp _);have v:nJ {x with now:=if x.now+1<a then a else x.now+1}=some a:=u;rw[Qd v,v]at d;rw[show uX (eU x+1) {x with now:=if x.now+1<a then a else x.now+1}=uy a x from rfl]at d;have l:=adX a x;have F:=jD (x.now+1);generalize vO f last (uy a x)=G at *;generalize uy a x=E at *;have d:TT.lim 212 ([.zu last,.zu a,.b true,.zu a]++eY {x with now:=if x.now+1<a then a else x.now+1})=some (.zq 1::ji E)\/∃b,TT.lim 212 ([.zu last,.zu a,.b true,.zu a]++eY {x with now:=if x.now+1<a then a else x.now+1})=some (.zq 0::.zu b::ji E):=by
    unfold PW at d;cases S:nJ E with
    |none=>rw[S]at d;exact .inl d
    |some b=>rw[S]at d;exact .inr ⟨b,d⟩
   have I:∀Q:Q1,TT.lim 211 (.zu last::eY E)=some Q->TT.lim 211 (.zu last::eY x)=some Q:=by
    intro Q t;simp only[eY,ji,fU,eG,nM,bI,bf]at d t⊢;rw[g3,l.a.1,l.a.2.1,l.a.2.2.1,l.a.2.2.2,l.b.1,l.b.2.1,l.b.2.2.1,l.b.2.2.2]at t;rcases w with⟨i,j,g⟩|⟨n,i,j,g⟩|⟨n,i,j,g⟩|⟨n,m,i,j,g⟩
    ·cases g
    ·injection g with g
     obtain⟨o,p⟩:=zB i;have h:¬(x.k0.h.length:Int)=0:=ah;rw[g]at k t d;rw[j]at d⊢;simp only[jg]at d⊢;clear g u v g3;generalize at_ x.k0.h 0=z,x.k0.h.map bZ=H,(x.k0.h.length:Int)=D at *;rcases d with d|⟨b,d⟩
     ·refine aB ?_;simp -implicitDefEqProofs[-iT,-dw,c,k,B,h,o,p,F,d,t]
     ·refine aB ?_;simp -implicitDefEqProofs[-iT,-dw,c,k,B,h,o,p,F,d,t]
    ·injection g with g
     obtain⟨o,p⟩:=zB j;have h:¬(x.k1.h.length:Int)=0:=ah;rw[g]at k t d;rw[i]at d⊢;simp only[jg]at d⊢;clear g u v g3;generalize at_ x.k1.h 0=z,x.k1.h.map bZ=H,(x.k1.h.length:Int)=D at *;rcases d with d|⟨b,d⟩
     ·refine aB ?_;simp -implicitDefEqProofs[-iT,-dw,c,k,s,h,o,p,F,d,t]
     ·refine aB ?_;simp -implicitDefEqProofs[-iT,-dw,c,k,s,h,o,p,F,d,t]
    ·injection g with g
     obtain⟨o,p⟩:=zB i;obtain⟨J,L⟩:=zB j;have h:¬(x.k0.h.length:Int)=0:=ah;have r:¬(x.k1.h.length:Int)=0:=ah;rw[g]at k t d;clear g u v g3;generalize at_ x.k0.h 0=z,x.k0.h.map bZ=H,(x.k0.h.length:Int)=D,at_ x.k1.h 0=y,x.k1.h.map bZ=U,(x.k1.h.length:Int)=V at *;rcases d with d|⟨b,d⟩
     ·refine aB ?_;simp -implicitDefEqProofs[-iT,-dw,c,k,B,s,h,r,o,p,J,L,F,d,t]
     ·refine aB ?_;simp -implicitDefEqProofs[-iT,-dw,c,k,B,s,h,r,o,p,J,L,F,d,t]
   exact t.imp (I _) (I _)
def aAM(n:Int)(x:Pr)(h0:0<=n)(e:n<=100000)(a:iW x)(f:x.now<=700000000000)(d:eU x<=80000):
 TT.lim 210 (.zu n::eY x)=some (.zq 0::.zu (x.now+n)::ji (Az n x)):=by
 have w0:=a.now;have b:=jD (x.now+n);have h:=agf (n.toNat+1) (x.now+n) x a ah ah d ah;have c:¬(100000:Int)<n:=ah;unfold Az;generalize vO (n.toNat+1) (x.now+n) x=E at *;simp only[eY,ji,fU,eG,nM,bI,bf]at h⊢;rcases h with h|h
 ·refine aB ?_;simp -implicitDefEqProofs[c,b,h]
 ·refine aB ?_;simp -implicitDefEqProofs[c,b,h]
def step_ok{n:Int}{x:Pr}(h0:0<=n)(a:iW x):iW (Az n x)/\eU (Az n x)<=eU x/\(Az n x).now=x.now+n:=by obtain⟨b,c,g3⟩:=go_ok (n.toNat+1) (last:=x.now+n) a ah;exact⟨b,c,g3 ah⟩
def aeE(h:List Fa)(b:h.length<=100000):TT.lim 197 [.l (h.map aV)]=some [.l (h.map aV)]:=by
 refine CG rfl ?_;unfold DL;have a:(h.map aV).length*32<=140737488355328/\(h.map aV).all (GV.fQ 6)=true:=⟨by rw[iw];omega,by rw[List.all_map];exact List.all_eq_true.2 λx _=>rfl⟩
 simp only[a,and_self,if_true]
def jA(e:Int)(x:Pr):Pr:=if e=0 then {x with s0:=tu x.s0,k0:=jP x.now (jr x.s0).1 x.k0}else if e=1 then {x with s1:=tu x.s1,k1:=jP x.now (jr x.s1).1 x.k1}else x
def aiK(e:Int)(x:Pr):Int:=if e=0 then(jr x.s0).1.length else if e=1 then(jr x.s1).1.length else 0
def VH(s:dh):∀t∈(jr s).1,t.length<=65536:=by
 intro t a;have c:∀{b:aW}{v:Int},t∈kE b v->t.length<=65536:=by
  intro b v h;unfold kE at h;split at h
  ·rw[oz.1 h];exact FQ _ _ _
  ·cases h
 unfold jr at a;repeat' split at a
 all_goals first|exact c a|cases a
def VI{s:dh}(a:lH s):lH (tu s):=⟨a.mn,a.mx,a.le,a.name,a.ver,a.rc,a.kp⟩
def VJ(s:dh):wW (jr s).1<=6:=by
 have a:=abo s;generalize(jr s).1=b at *;match b,a with
 |[],_=>simp[wW]
 |[u],_=>have:=QU (fG u);simp only[wW];omega
def avU(e:Int)(x:Pr)(a:iW x)(h:x.now<=800000000000)(i:eU x<=80000):TT.lim 199 (.zq e::eY x)=some ([.zq 0,.zq (aiK e x)]++(fU (jA e x).k1++(fU (jA e x).k0++[.zq (jA e x).s1.st,.zq (jA e x).s0.st]))):=by
 unfold eU at i;unfold jA aiK;by_cases c:e=0
 ·rw[au c,au c];subst c;have g:=abp x.s0 a.s0;have j:=VJ x.s0;have k:=abo x.s0;have d:=V5 {x with s0:=tu x.s0} ⟨VI a.s0,a.s1,a.k0,a.k1,a.now⟩ (jr x.s0).1 ah (VH x.s0) h (by simp only;omega);unfold tu at d⊢;generalize jr x.s0=P at *;simp only[eY,fU,eG,bI,bf]at g d⊢;have b:((P.1.map GV.s).length:Int)=(P.1.length:Int):=by rw[iw]
  generalize jP x.now P.1 x.k0=K,P.1.map GV.s=l at *;refine aB ?_;simp -implicitDefEqProofs[g,d,b]
 rw[aj c,aj c];by_cases f:e=1
 ·rw[au f,au f];subst f;have g:=abp x.s1 a.s1;have j:=VJ x.s1;have k:=abo x.s1;have d:=V6 {x with s1:=tu x.s1} ⟨a.s0,VI a.s1,a.k0,a.k1,a.now⟩ (jr x.s1).1 ah (VH x.s1) h (by simp only;omega);unfold tu at d⊢;generalize jr x.s1=P at *;simp only[eY,fU,eG,bI,bf]at g d⊢;have b:((P.1.map GV.s).length:Int)=(P.1.length:Int):=by rw[iw]
  generalize jP x.now P.1 x.k1=K,P.1.map GV.s=l at *;refine aB ?_;simp -implicitDefEqProofs[g,d,b]
 rw[aj f,aj f];simp only[eY,fU,eG,bI,bf];refine aB ?_;simp -implicitDefEqProofs[c,f]
def aiL{e:Int}{x:Pr}(a:iW x):iW (jA e x)/\eU (jA e x)<=eU x+6/\(jA e x).now=x.now:=by
 unfold jA;split
 ·obtain⟨b,c,-⟩:=QC (now:=x.now) (jr x.s0).1 a.k0 (VH x.s0);have:=VJ x.s0;refine⟨⟨VI a.s0,a.s1,b,a.k1,a.now⟩,?_,rfl⟩;unfold eU;simp only;omega
 split
 ·obtain⟨b,c,-⟩:=QC (now:=x.now) (jr x.s1).1 a.k1 (VH x.s1);have:=VJ x.s1;refine⟨⟨a.s0,VI a.s1,a.k0,b,a.now⟩,?_,rfl⟩;unfold eU;simp only;omega
 ·exact⟨a,ah,rfl⟩
def amN(a b:List Fa)(s:a.length<=2000000000000)(t:b.length<=2000000000000):TT.lim 5 [.l [.l (a.map aV),.l (b.map aV)]]=some [.l ((a++b).map aV)]:=by
 have w1:IntKind.i64.wrap 1=1:=rfl;have d:IntKind.i64.wrap 2=2:=rfl;have g:((a.map aV).length:Int)=(a.length:Int):=by rw[iw]
 have i:((b.map aV).length:Int)=(b.length:Int):=by rw[iw]
 have j:=bD ((a.length:Int));have k:=bD ((a.length:Int)+(b.length:Int));have l:TT.lim 6 [.l [.l (a.map aV),.l (b.map aV)],.zq ((a.length:Int)+(b.length:Int)),.zq 2,.zq 2]=some [.zq 0,.zq ((a.length:Int)+(b.length:Int))]:=by refine aB ?_;simp
 have e:¬((a.length:Int)+(b.length:Int)<0):=ah;have m:¬((a.length:Int)<0):=ah;have n:TT.lim 6 [.l [.l (a.map aV),.l (b.map aV)],.zq (a.length:Int),.zq 2,.zq 1]=some [.zq 0,.zq ((a.length:Int)+(b.length:Int))]:=by generalize a.map aV=A,b.map aV=B,(a.length:Int)=x,(b.length:Int)=y at *;refine aB ?_;simp -implicitDefEqProofs[d,i,k,e,l]
 have o:TT.lim 6 [.l [.l (a.map aV),.l (b.map aV)],.zq 0,.zq 2,.zq 0]=some [.zq 0,.zq ((a.length:Int)+(b.length:Int))]:=by generalize a.map aV=A,b.map aV=B,(a.length:Int)=x,(b.length:Int)=y at *;refine aB ?_;simp -implicitDefEqProofs[w1,g,j,m,n]
 have f:∀u v:List Fa,u.length+v.length<=4398046511000->Oo 6 32 (some (.l (u.map aV))) (some (.l (v.map aV)))=some (.l ((u++v).map aV)):=by
  intro u v h;rw[X4,au]
  ·rw[ng]
  ·refine⟨?_,?_,?_⟩
   ·rw[List.all_map];exact List.all_eq_true.2 λx _=>rfl
   ·simp only[iw];omega
   ·simp only[iw];omega
 have c:∀X:List Fa,TT.lim 7 [.l (X.map aV),.l [.l (a.map aV),.l (b.map aV)],.zq 2,.zq 2]=some [.zq 0,.l (X.map aV)]:=by intro X;refine aB ?_;simp
 have p:TT.lim 7 [.l (a.map aV),.l [.l (a.map aV),.l (b.map aV)],.zq 2,.zq 1]=some [.zq 0,.l ((a++b).map aV)]:=by have h:=f a b ah;have c:=c (a++b);generalize(a++b).map aV=C,a.map aV=A,b.map aV=B at *;refine aB ?_;simp -implicitDefEqProofs[d,h,c]
 have q:TT.lim 7 [.l [],.l [.l (a.map aV),.l (b.map aV)],.zq 2,.zq 0]=some [.zq 0,.l ((a++b).map aV)]:=by have h:=f [] a (by simp;omega);rw[bf,jg]at h;generalize(a++b).map aV=C,a.map aV=A,b.map aV=B at *;refine aB ?_;simp -implicitDefEqProofs[w1,h,p]
 have r:TT.lim 1 [.zq ((a.length:Int)+(b.length:Int))]=some [.l []]:=by refine CG rfl ?_;unfold IE;dsimp only;rw[au ⟨ah,ah,ah⟩]
 have w:=bD ((a.length:Int)+(b.length:Int));generalize(a++b).map aV=C,a.map aV=A,b.map aV=B,(a.length:Int)=x,(b.length:Int)=y at *;refine aQ ?_;simp -implicitDefEqProofs[o,e,r,q]
structure Ap where
 O6:Int
 en:Int
 x:Sn
 ep:Int
 tk:Int
structure acM(a:Ap):Prop where
 O6:0<=a.O6/\a.O6<256
 v:0<=a.x.1/\a.x.1<18446744073709551616
 rows:Rows a.x.2
 ep:0<=a.ep/\a.ep<18446744073709551616
 tk:0<=a.tk/\a.tk<256
def uw(a:Ap):GV:=.g [.i .u8 a.O6,.zq a.en,.zu a.x.1,.l (a.x.2.map row),.zu a.ep,.i .u8 a.tk]
@[simp] theorem aCw(a:Ap):(uw a).cells=[.i .u8 a.O6,.zq a.en,.zu a.x.1,.l (a.x.2.map row),.zu a.ep,.i .u8 a.tk]:=rfl
@[simp] theorem aCx(a:Ap):(uw a).scalar=false:=rfl
def Ak(r:Row):Bool:=decide ((100:Int)<(dV r.1).length)
def agF(l:List Row)(f:∀r∈l,iL r.1=true)(n:l.length<=100000):∀(m i:Nat),i+m=l.length->
 ∃k,TT.lim 23 [.l (l.map row),.zq (l.length:Int),.zq (i:Int)]=some (if(l.drop i).any Ak=true then[.zq 0,.zq ((k:Nat):Int)]else[.zq 1])
 |0,i,hi=>by have c:¬((i:Int)<l.length):=ah;rw[gJ];refine⟨0,?_⟩;rw[aj aA];refine aB ?_;simp -implicitDefEqProofs[c]
 |m+1,i,hi=>by
  have b:i<l.length:=ah;have c:(i:Int)<l.length:=ah;have o:IntKind.i64.wrap ((i:Int)+1)=((i+1:Nat):Int):=by rw[wrap64 ah ah];omega
  have p:l.drop i=l[i]::l.drop (i+1):=gW b;have d:at2 2 (some (.l (l.map row))) (some (.zq (i:Int)))=some (row l[i]):=by rw[dw,mW,xO,jf,bT b];rfl
  have q:=f _ (iq b);obtain⟨k,g⟩:=agF l f n m (i+1) ah;rw[p];generalize l[i]=r at *;have e:=BQ r.1 q;have a:TT.lim 24 [row r]=some [.b (Ak r)]:=by unfold Ak;generalize dV r.1=K at *;refine aQ ?_;simp -implicitDefEqProofs[e]
  have h:GV.g [.l (r.1.map ent),.zu r.2]=row r:=rfl;rw[<-o]at g;rw[ac4];cases j:Ak r with
  |true=>rw[j]at a;refine⟨i,?_⟩;rw[au aA];generalize l.map row=s,(l.length:Int)=t at *;refine aB ?_;simp -implicitDefEqProofs[-dw,c,d,h,a]
  |false=>rw[j]at a;refine⟨k,?_⟩;rw[AL];generalize(if(l.drop (i+1)).any Ak=true then[GV.zq 0,.zq ((k:Nat):Int)]else[.zq 1])=Q,l.map row=s,(l.length:Int)=t at *;refine aB ?_;simp -implicitDefEqProofs[-dw,c,d,h,a,g]
def amR(l:List Row)(d:∀r∈l,iL r.1=true)(e:l.length<=100000):TT.lim 21 [.l (l.map row)]=some [.b (l.any Ak)]:=by
 obtain⟨k,h⟩:=agF l d e l.length 0 ah;rw[dD]at h;have a:((l.map row).length:Int)=(l.length:Int):=by rw[iw]
 have hi:TT.lim 22 [.l (l.map row)]=some [.zq (if l.any Ak=true then((k:Nat):Int)else -1)]:=by
  cases b:l.any Ak with
  |true=>rw[b,au rfl]at h;rw[au rfl];simp only[qX]at h;generalize l.map row=c at *;refine aQ ?_;simp -implicitDefEqProofs[a,h]
  |false=>rw[b,aj aA]at h;rw[aj aA];simp only[qX]at h;generalize l.map row=c at *;refine aQ ?_;simp -implicitDefEqProofs[a,h]
 cases b:l.any Ak with
 |true=>rw[b,au rfl]at hi;have f:(0:Int)<=(k:Int):=ah;generalize l.map row=c,(k:Int)=g at *;refine aQ ?_;simp -implicitDefEqProofs[hi,f]
 |false=>rw[b,aj aA]at hi;generalize l.map row=c at *;refine aQ ?_;simp -implicitDefEqProofs[hi]
def O8(a:Ap):Bool:=decide ((a.x.2.length:Int)<=10)&&(FX a.x.2&&(decide (a.tk<=40)&&!a.x.2.any Ak))
def afJ(r s:GV)(l:List Ap)(y:l.length<=4000000000000)(t:∀a∈l,acM a):∀(m i:Nat),i+m=l.length->
 TT.lim 9 [r,s,.l (l.map uw),.zq (l.length:Int),.zq (i:Int)]=some (if(l.drop i).all O8=true then[.zq 1]else[.zq 0])
 |0,i,hi=>by have c:¬((i:Int)<l.length):=ah;rw[gJ,au aA];refine aB ?_;simp -implicitDefEqProofs[c]
 |m+1,i,hi=>by
  have h:i<l.length:=ah;have c:(i:Int)<l.length:=ah;have z:IntKind.i64.wrap ((i:Int)+1)=((i+1:Nat):Int):=by rw[wrap64 ah ah];omega
  have A:l.drop i=l[i]::l.drop (i+1):=gW h;have d:at2 6 (some (.l (l.map uw))) (some (.zq (i:Int)))=some (uw l[i]):=by rw[dw,mW,xO,jf,bT h];rfl
  have k:=t _ (iq h);have u:=afJ r s l y t m (i+1) ah;rw[<-z]at u;rw[A,qJ];generalize l[i]=a at *;have j:=aqF a.x.2 k.rows;have v:((a.x.2.map row).length:Int)=(a.x.2.length:Int):=by rw[iw]
  generalize(l.drop (i+1)).all O8=B at *;unfold O8;by_cases w:(a.x.2.length:Int)<=10;rotate_left
  ·rw[aj (by simp[w])];have b:(10:Int)<a.x.2.length:=ah;generalize l.map uw=n,(l.length:Int)=o at *;refine aB ?_;simp -implicitDefEqProofs[-dw,c,d,b]
  have b:¬(10:Int)<a.x.2.length:=ah;cases p:FX a.x.2 with
  |false=>rw[aj (by simp[p])];rw[p]at j;generalize l.map uw=n,(l.length:Int)=o at *;refine aB ?_;simp -implicitDefEqProofs[-dw,c,d,b,j]
  |true=>
   rw[p]at j;have f:=amR a.x.2 (arP k.rows p).few ah;by_cases x:a.tk<=40;rotate_left
   ·rw[aj (by simp[x])];have g:(40:Int)<a.tk:=ah;generalize l.map uw=n,(l.length:Int)=o at *;refine aB ?_;simp -implicitDefEqProofs[-dw,c,d,b,j,g]
   have g:¬(40:Int)<a.tk:=ah;cases q:a.x.2.any Ak with
   |true=>rw[aj (by simp[q])];rw[q]at f;generalize l.map uw=n,(l.length:Int)=o at *;refine aB ?_;simp -implicitDefEqProofs[-dw,c,d,b,j,g,f]
   |false=>
    rw[q]at f;have e:(decide ((a.x.2.length:Int)<=10)&&(true&&(decide (a.tk<=40)&&!false)))=true:=by simp[w,x]
    rw[e,ET];generalize(if B=true then[GV.zq 1]else[.zq 0])=Q,l.map uw=n,(l.length:Int)=o at *;refine aB ?_;simp -implicitDefEqProofs[-dw,c,d,b,j,g,f,u]
def Lu(f:Fa):Bool:=decide ((f.c:Int)<=3)
def afI(f g h:GV)(l:List Fa)(n:l.length<=9000000000000000):∀(m i:Nat),i+m=l.length->
 TT.lim 8 [f,g,h,.l (l.map aV),.zq (l.length:Int),.zq (i:Int)]=some (if(l.drop i).all Lu=true then[.zq 1]else[.zq 0])
 |0,i,hi=>by have c:¬((i:Int)<l.length):=ah;rw[gJ,au aA];refine aB ?_;simp -implicitDefEqProofs[c]
 |m+1,i,hi=>by
  have d:i<l.length:=ah;have c:(i:Int)<l.length:=ah;have o:IntKind.i64.wrap ((i:Int)+1)=((i+1:Nat):Int):=by rw[wrap64 ah ah];omega
  have p:l.drop i=l[i]::l.drop (i+1):=gW d;have e:at2 6 (some (.l (l.map aV))) (some (.zq (i:Int)))=some (aV l[i]):=by rw[dw,mW,xO,jf,bT d];rfl
  have j:=afI f g h l n m (i+1) ah;rw[<-o]at j;rw[p,qJ];generalize l[i]=a at *;generalize s:(l.drop (i+1)).all Lu=B at *;unfold Lu;by_cases k:(a.c:Int)<=3
  ·have b:¬(3:Int)<a.c:=ah;rw[DN k,ET];generalize(if B=true then[GV.zq 1]else[.zq 0])=Q,l.map aV=q,(l.length:Int)=r at *;refine aB ?_;simp -implicitDefEqProofs[-dw,c,e,b,j]
  ·have b:(3:Int)<a.c:=ah;rw[Iy k,Xr,aj aA];generalize l.map aV=q,(l.length:Int)=r at *;refine aB ?_;simp -implicitDefEqProofs[-dw,c,e,b]
def Uc(a b:List Fa)(l:List Ap):Bool:=(a++b).all Lu&&(l.all O8&&(decide ((a.length:Int)<=30)&&(decide ((b.length:Int)<=30)&&decide ((l.length:Int)<=30))))
def aqG(a b:List Fa)(l:List Ap)(r:a.length<=2000000000000)(s:b.length<=2000000000000)(p:l.length<=4000000000000)(q:∀x∈l,acM x):TT.lim 4 [.l (a.map aV),.l (b.map aV),.l (l.map uw)]=some [.b (Uc a b l)]:=by
 have e:=amN a b ah ah;have c:=afI (.l (a.map aV)) (.l (b.map aV)) (.l (l.map uw)) (a++b) (by rw[gu];omega) (a++b).length 0 ah;have d:=afJ (.l (a.map aV)) (.l (b.map aV)) l p q l.length 0 ah;rw[dD]at c d;have h:((a.map aV).length:Int)=(a.length:Int):=by rw[iw]
 have i:((b.map aV).length:Int)=(b.length:Int):=by rw[iw]
 have g:((l.map uw).length:Int)=(l.length:Int):=by rw[iw]
 have f:(((a++b).map aV).length:Int)=((a++b).length:Int):=by rw[iw]
 simp only[qX]at c d;unfold Uc;cases k:(a++b).all Lu with
 |false=>rw[k,aj aA]at c;rw[Xr];generalize(a++b).map aV=C,a.map aV=A,b.map aV=B,l.map uw=L,((a++b).length:Int)=m at *;refine aQ ?_;simp -implicitDefEqProofs[e,f,c]
 |true=>
  rw[k,au rfl]at c;rw[ET];cases n:l.all O8 with
  |false=>rw[n,aj aA]at d;rw[Xr];generalize(a++b).map aV=C,a.map aV=A,b.map aV=B,l.map uw=L,((a++b).length:Int)=m at *;refine aQ ?_;simp -implicitDefEqProofs[e,f,c,g,d]
  |true=>
   rw[n,au rfl]at d;rw[ET];generalize(a++b).map aV=C,a.map aV=A,b.map aV=B,l.map uw=L,((a++b).length:Int)=m at *;by_cases j:(a.length:Int)<=30
   ·by_cases o:(b.length:Int)<=30
    ·refine aQ ?_;simp -implicitDefEqProofs[e,f,c,g,d,h,i,j,o]
    ·refine aQ ?_;simp -implicitDefEqProofs[e,f,c,g,d,h,i,j,o]
   ·refine aQ ?_;simp -implicitDefEqProofs[e,f,c,g,d,h,i,j]
def aBN:pX [102,105,114,115,116] 0 256=0:=by kernel_rfl
def aBO:pX [111,116,104,101,114] 0 256=0:=by kernel_rfl
def newP(a c x y:Int)(b d:List Fa):Pr:=⟨newS a c [102,105,114,115,116] true,newS x y [111,116,104,101,114] false,⟨b,[],0⟩,⟨d,[],0⟩,0,[]⟩
def au8{a c x y:Int}{d e:List Fa}(h1:1<=a)(g:a<=c)(i:c<=3)(j:1<=x)(h5:x<=y)(h6:y<=3)(l:∀f∈d,EU f)(m:∀f∈e,EU f)(lt:d.length<=30)(n:e.length<=30):iW (newP a c x y d e)/\eU (newP a c x y d e)<=1440:=by
 have b:Heap [] ([]:List It).length:=λk _ h=>by simp at h
 refine⟨⟨Vr h1 g i aA,Vr j h5 h6 aA,⟨l,b,AQ _,λy h=>by cases h⟩,⟨m,b,AQ _,λy h=>by cases h⟩,AQ _⟩,?_⟩;unfold eU mG newP;simp only[wQ,mZ,Int.toNat_zero];omega
abbrev TY:WK:=[.bool,.int .u8,.int .u8,.int .i64,.int .i64,.int .u8]
def aqA{cs:Q1}(h:bW.jq TY cs):∃f:Fa,(f.d<256/\f.jJ<256/\f.cu<=9223372036854775807/\f.at_<=9223372036854775807)/\GV.g cs=aV f:=by obtain⟨t,r1,rfl,a,h⟩:=Ad h;obtain⟨u,r2,rfl,b,h⟩:=Ad h;obtain⟨g3,r3,rfl,c,h⟩:=Ad h;obtain⟨g4,v,rfl,d,h⟩:=Ad h;obtain⟨w,x,rfl,e,h⟩:=Ad h;obtain⟨y,z,rfl,g,h⟩:=Ad h;have:=Zi h;subst this;obtain⟨i,rfl⟩:=ar5 a;obtain⟨j,rfl,k⟩:=UD b;obtain⟨l,rfl,m⟩:=UD c;obtain⟨n,rfl,o⟩:=agt d;obtain⟨p,rfl,q⟩:=agt e;obtain⟨r,rfl,s⟩:=UD g;refine⟨⟨i,j.toNat,l.toNat,n,p,r.toNat⟩,⟨by simp only;omega,by simp only;omega,o.2,q.2⟩,?_⟩;unfold aV;simp only;rw[Dj k.1,Dj m.1,Dj s.1]
def afG{g:GV}(h:(bW.list true TY).has g):∃l:List Fa,(∀f∈l,f.d<256/\f.jJ<256/\f.cu<=9223372036854775807/\f.at_<=9223372036854775807)/\g=.l (l.map aV):=by
 obtain⟨b,rfl,-,c⟩:=ar7 h;obtain⟨l,d,rfl⟩:=ahc (f:=aV) (p:=λf=>f.d<256/\f.jJ<256/\f.cu<=9223372036854775807/\f.at_<=9223372036854775807) (xs:=b) λx a=>by
  obtain⟨e,i⟩:=c x a;cases x<;>simp[GV.scalar]at i
  exact aqA e
 exact⟨l,d,rfl⟩
