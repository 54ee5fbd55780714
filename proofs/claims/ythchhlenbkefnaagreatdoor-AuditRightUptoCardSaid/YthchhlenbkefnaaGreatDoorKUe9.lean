/- What the trees compute: plain laws. -/
import Derived.Test.YthchhlenbkefnaaGreatDoorKUe8
set_option linter.all false
namespace Go.Proofs.YthchhlenbkefnaaGreatDoor
open Go Go.aN
set_option maxRecDepth 100000
namespace U
def QF(y:Pr):Q1:=match oH y with
 |some a=>.zq 0::.zu a::iI y
 |none=>.zq 1::iI y
def Ad{h:List It}{n:Nat}(c:h.length=n+1):at2 3 (some (.l (h.map cZ))) (some (.zq 0))=some (cZ (at_ h 0))/\Ey (some (.l (h.map cZ))) (some (.zq 0))=some (.zq 0):=by have a:=Cb (h:=h) (k:=0) (by omega);have b:=Ba (h:=h) (k:=0) (by omega);exact⟨a,b⟩
def QW{x:Pr}{a:Int}(h:oH x=some a):QX x=a:=by unfold QX;rw[h];rfl
set_option maxHeartbeats 4000000 in
def ah0(last l:Int):∀(f:Nat)(x:Pr),gI x->x.now<=800000000000->dW x<=80000->dW x<f->
 TT.lim 387 ([.zu last,.zu (QX x),.b (oH x).isSome,.zu l]++bW x)=some (QF (uU f x))
 |0,x,t,u,w,F=>by omega
 |f+1,x,t,u,w,F=>by
  unfold uU;cases s:oH x with
  |none=>simp only;unfold QF QX;rw[s];simp only[aev,uF,bW,iI,dS,cO,lJ,bg,aX];refine au ?_;simp
  |some a=>
   rw[QW s];simp only[YG];by_cases c:a<=x.now;rotate_left
   ·rw[ah c];unfold QF;rw[s];simp only[bW,iI,dS,cO,lJ,bg,aX];refine au ?_;simp -implicitDefEqProofs[c]
   rw[aj c];obtain⟨G,J⟩:=Zi t s c;have e:=an0 x t u w;have d:=ah0 last l f (uG x) G (by rw[UE];exact u) (by omega) (by omega);have b:=afv x;have i:=UE x;generalize QF (uU f (uG x))=R at *;have v:=ajp (uG x);generalize uG x=E at *;have A:((E.k0.h.map cZ).length:Int)=(E.k0.h.length:Int):=by rw[gG]
   have o:((E.k1.h.map cZ).length:Int)=(E.k1.h.length:Int):=by rw[gG]
   rcases v with⟨j,k,h⟩|⟨n,j,k,h⟩|⟨n,j,k,h⟩|⟨n,m,j,k,h⟩
   ·unfold QX at d;rw[h]at d;simp only[aev,uF,bW,iI,dS,cO,lJ,bg,aX]at e d⊢;rw[i,b.a.1,b.a.2.1,b.a.2.2.1,b.a.2.2.2,b.b.1,b.b.2.1,b.b.2.2.1,b.b.2.2.2,j,k]at d;rw[j,k]at e;simp only[jI]at e d;refine au ?_;simp -implicitDefEqProofs[c,e,d]
   ·rw[QW h,h]at d;obtain⟨p,q⟩:=Ad j;have g:¬(E.k0.h.length:Int)=0:=by omega
    simp only[YG,bW,iI,dS,cO,lJ,bg,aX]at e d⊢;rw[i,b.a.1,b.a.2.1,b.a.2.2.1,b.a.2.2.2,b.b.1,b.b.2.1,b.b.2.2.1,b.b.2.2.2,k]at d;rw[k]at e;simp only[jI]at e d;generalize at_ E.k0.h 0=z,E.k0.h.map cZ=B,(E.k0.h.length:Int)=D at *;refine au ?_;simp -implicitDefEqProofs[-jF,-eF,c,e,A,g,p,q,d]
   ·rw[QW h,h]at d;obtain⟨p,q⟩:=Ad k;have g:¬(E.k1.h.length:Int)=0:=by omega
    simp only[YG,bW,iI,dS,cO,lJ,bg,aX]at e d⊢;rw[i,b.a.1,b.a.2.1,b.a.2.2.1,b.a.2.2.2,b.b.1,b.b.2.1,b.b.2.2.1,b.b.2.2.2,j]at d;rw[j]at e;simp only[jI]at e d;generalize at_ E.k1.h 0=z,E.k1.h.map cZ=B,(E.k1.h.length:Int)=D at *;refine au ?_;simp -implicitDefEqProofs[-jF,-eF,c,e,o,g,p,q,d]
   ·rw[QW h,h]at d;obtain⟨p,q⟩:=Ad j;obtain⟨H,I⟩:=Ad k;have g:¬(E.k0.h.length:Int)=0:=by omega
    have r:¬(E.k1.h.length:Int)=0:=by omega
    simp only[YG,bW,iI,dS,cO,lJ,bg,aX]at e d⊢;rw[i,b.a.1,b.a.2.1,b.a.2.2.1,b.a.2.2.2,b.b.1,b.b.2.1,b.b.2.2.1,b.b.2.2.2]at d;generalize at_ E.k0.h 0=z,E.k0.h.map cZ=B,(E.k0.h.length:Int)=D,at_ E.k1.h 0=y,E.k1.h.map cZ=L,(E.k1.h.length:Int)=M at *;refine au ?_;simp -implicitDefEqProofs[-jF,-eF,c,e,A,o,g,r,p,q,H,I,d]
set_option maxHeartbeats 8000000 in
def aho:∀(f:Nat)(last:Int)(x:Pr),gI x->x.now<=last->last<=800000000000->dW x<=80000->(last-x.now).toNat<f->
 TT.lim 386 (.zu last::bW x)=some (.zq 0::iI (vT f last x))\/
 TT.lim 386 (.zu last::bW x)=some (.zq 1::.zu last::iI (vT f last x))
 |0,last,x,A,N,R,S,V=>by omega
 |f+1,last,x,A,N,R,S,V=>by
  unfold vT;by_cases c:x.now<last;rotate_left
  ·rw[ah c];have e:x.now=last:=by omega
   refine .inr ?_;simp only[bW,iI,dS,cO,lJ,bg,aX];rw[e];refine au ?_;simp
  rw[aj c];have w:=ajp x;have B:((x.k0.h.map cZ).length:Int)=(x.k0.h.length:Int):=by rw[gG]
  have s:((x.k1.h.map cZ).length:Int)=(x.k1.h.length:Int):=by rw[gG]
  cases u:oH x with
  |none=>
   simp only;have q:x.k0.h=[]/\x.k1.h=[]:=by
    rcases w with⟨i,j,g⟩|⟨n,i,j,g⟩|⟨n,i,j,g⟩|⟨n,m,i,j,g⟩
    ·exact⟨i,j⟩
    ·rw[u]at g;cases g
    ·rw[u]at g;cases g
    ·rw[u]at g;cases g
   refine .inl ?_;simp only[bW,iI,dS,cO,lJ,bg,aX];rw[q.1,q.2];simp only[jI];refine au ?_;simp -implicitDefEqProofs[c]
  |some a=>
   simp only;rw[u]at w;by_cases k:last<a
   ·rw[aj k];refine .inl ?_;simp only[bW,iI,dS,cO,lJ,bg,aX];rcases w with⟨i,j,g⟩|⟨n,i,j,g⟩|⟨n,i,j,g⟩|⟨n,m,i,j,g⟩
    ·cases g
    ·injection g with g
     obtain⟨o,p⟩:=Ad i;have h:¬(x.k0.h.length:Int)=0:=by omega
     rw[g]at k;rw[j];simp only[jI];clear g u;generalize at_ x.k0.h 0=z,x.k0.h.map cZ=H,(x.k0.h.length:Int)=D at *;refine au ?_;simp -implicitDefEqProofs[-jF,-eF,c,k,B,h,o,p]
    ·injection g with g
     obtain⟨o,p⟩:=Ad j;have h:¬(x.k1.h.length:Int)=0:=by omega
     rw[g]at k;rw[i];simp only[jI];clear g u;generalize at_ x.k1.h 0=z,x.k1.h.map cZ=H,(x.k1.h.length:Int)=D at *;refine au ?_;simp -implicitDefEqProofs[-jF,-eF,c,k,s,h,o,p]
    ·injection g with g
     obtain⟨o,p⟩:=Ad i;obtain⟨L,M⟩:=Ad j;have h:¬(x.k0.h.length:Int)=0:=by omega
     have r:¬(x.k1.h.length:Int)=0:=by omega
     rw[g]at k;clear g u;generalize at_ x.k0.h 0=z,x.k0.h.map cZ=H,(x.k0.h.length:Int)=D,at_ x.k1.h 0=y,x.k1.h.map cZ=W,(x.k1.h.length:Int)=X at *;refine au ?_;simp -implicitDefEqProofs[-jF,-eF,c,k,B,s,h,r,o,p,L,M]
   rw[ah k];have D:=A.now;obtain⟨Y,Z,I,-⟩:=ae1 (a:=a) A;have O:(tV a x).now<=last/\x.now<(tV a x).now:=by rw[I];split<;>omega
   have t:=aho f last (tV a x) Y O.1 R (by omega) (by omega);have P:gI {x with now:=if x.now+1<a then a else x.now+1}:=⟨A.s0,A.s1,A.k0,A.k1,by simp only;split<;>omega⟩
   have d:=ah0 last a (dW x+1) {x with now:=if x.now+1<a then a else x.now+1} P (by simp only;split<;>omega) S (DW _);have v:oH {x with now:=if x.now+1<a then a else x.now+1}=some a:=u;rw[QW v,v]at d;rw[show uU (dW x+1) {x with now:=if x.now+1<a then a else x.now+1}=tV a x from rfl]at d;have l:=ae2 a x;have F:=jA (x.now+1);generalize vT f last (tV a x)=G at *;generalize tV a x=E at *;have d:TT.lim 387 ([.zu last,.zu a,.b true,.zu a]++bW {x with now:=if x.now+1<a then a else x.now+1})=some (.zq 1::iI E)\/∃b,TT.lim 387 ([.zu last,.zu a,.b true,.zu a]++bW {x with now:=if x.now+1<a then a else x.now+1})=some (.zq 0::.zu b::iI E):=by
    unfold QF at d;cases T:oH E with
    |none=>rw[T]at d;exact .inl d
    |some b=>rw[T]at d;exact .inr ⟨b,d⟩
   have J:∀Q:Q1,TT.lim 386 (.zu last::bW E)=some Q->TT.lim 386 (.zu last::bW x)=some Q:=by
    intro Q t;simp only[bW,iI,dS,cO,lJ,bg,aX]at d t⊢;rw[I,l.a.1,l.a.2.1,l.a.2.2.1,l.a.2.2.2,l.b.1,l.b.2.1,l.b.2.2.1,l.b.2.2.2]at t;rcases w with⟨i,j,g⟩|⟨n,i,j,g⟩|⟨n,i,j,g⟩|⟨n,m,i,j,g⟩
    ·cases g
    ·injection g with g
     obtain⟨o,p⟩:=Ad i;have h:¬(x.k0.h.length:Int)=0:=by omega
     rw[g]at k t d;rw[j]at d⊢;simp only[jI]at d⊢;clear g u v I;generalize at_ x.k0.h 0=z,x.k0.h.map cZ=H,(x.k0.h.length:Int)=D at *;rcases d with d|⟨b,d⟩
     ·refine au ?_;simp -implicitDefEqProofs[-jF,-eF,c,k,B,h,o,p,F,d,t]
     ·refine au ?_;simp -implicitDefEqProofs[-jF,-eF,c,k,B,h,o,p,F,d,t]
    ·injection g with g
     obtain⟨o,p⟩:=Ad j;have h:¬(x.k1.h.length:Int)=0:=by omega
     rw[g]at k t d;rw[i]at d⊢;simp only[jI]at d⊢;clear g u v I;generalize at_ x.k1.h 0=z,x.k1.h.map cZ=H,(x.k1.h.length:Int)=D at *;rcases d with d|⟨b,d⟩
     ·refine au ?_;simp -implicitDefEqProofs[-jF,-eF,c,k,s,h,o,p,F,d,t]
     ·refine au ?_;simp -implicitDefEqProofs[-jF,-eF,c,k,s,h,o,p,F,d,t]
    ·injection g with g
     obtain⟨o,p⟩:=Ad i;obtain⟨L,M⟩:=Ad j;have h:¬(x.k0.h.length:Int)=0:=by omega
     have r:¬(x.k1.h.length:Int)=0:=by omega
     rw[g]at k t d;clear g u v I;generalize at_ x.k0.h 0=z,x.k0.h.map cZ=H,(x.k0.h.length:Int)=D,at_ x.k1.h 0=y,x.k1.h.map cZ=W,(x.k1.h.length:Int)=X at *;rcases d with d|⟨b,d⟩
     ·refine au ?_;simp -implicitDefEqProofs[-jF,-eF,c,k,B,s,h,r,o,p,L,M,F,d,t]
     ·refine au ?_;simp -implicitDefEqProofs[-jF,-eF,c,k,B,s,h,r,o,p,L,M,F,d,t]
   exact t.imp (J _) (J _)
def aEt(n:Int)(x:Pr)(h0:0<=n)(e:n<=100000)(a:gI x)(f:x.now<=700000000000)(d:dW x<=80000):
 TT.lim 385 (.zu n::bW x)=some (.zq 0::.zu (x.now+n)::iI (Dx n x)):=by
 have w0:=a.now;have b:=jA (x.now+n);have h:=aho (n.toNat+1) (x.now+n) x a (by omega) (by omega) d (by omega);have c:¬(100000:Int)<n:=by omega
 unfold Dx;generalize vT (n.toNat+1) (x.now+n) x=E at *;simp only[bW,iI,dS,cO,lJ,bg,aX]at h⊢;rcases h with h|h
 ·refine au ?_;simp -implicitDefEqProofs[c,b,h]
 ·refine au ?_;simp -implicitDefEqProofs[c,b,h]
def step_ok{n:Int}{x:Pr}(h0:0<=n)(a:gI x):gI (Dx n x)/\dW (Dx n x)<=dW x/\(Dx n x).now=x.now+n:=by obtain⟨b,c,d⟩:=go_ok (n.toNat+1) (last:=x.now+n) a (by omega);exact⟨b,c,d (by omega)⟩
def afH(h:List Fa)(b:h.length<=100000):TT.lim 29 [.l (h.map bn)]=some [.l (h.map bn)]:=by
 refine Bz rfl ?_;unfold wP;have a:(h.map bn).length*32<=140737488355328/\(h.map bn).all (GV.fP 6)=true:=⟨by rw[gG];omega,by rw[List.all_map];exact List.all_eq_true.2 λx _=>rfl⟩
 simp only[a,and_self,if_true]
def aou(h:Ys)(b:h.length<=100000):TT.lim 0 [.l (h.map oM)]=some [.l (h.map oM)]:=by
 refine Bz rfl ?_;unfold wP;have a:(h.map oM).length*24<=140737488355328/\(h.map oM).all (GV.fP 3)=true:=⟨by rw[gG];omega,by rw[List.all_map];exact List.all_eq_true.2 λx _=>rfl⟩
 simp only[a,and_self,if_true]
def Gt(s:bP):Q1:=[.zq 0]++([.zu s.mn,.zu s.mx,.s s.name,.b s.first,.zq s.st,.zq s.ver,.zq s.vs,.b s.sm,.zu s.h.1,.l (s.h.2.map row),.l (s.k.map sn),.zu s.b])
def jV(e:Int)(v:Sn)(x:Pr):Pr:=if e=0 then {x with s0:=EO v x.s0}else if e=1 then {x with s1:=EO v x.s1}else x
def BA(e:Int)(v:Sn)(x:Pr):Int:=if e=0 then(iW v x.s0.k x.s0.b).1 else if e=1 then(iW v x.s1.k x.s1.b).1 else 24
def ayT(e:Int)(v:Sn)(x:Pr)(b:dU v.2)(d:gI x):TT.lim 383 ([.zq e,.zu v.1,.l (v.2.map row)]++bW x)=some [.zq 0,.zq (BA e v x),.l ((jV e v x).s1.k.map sn),.zu (jV e v x).s1.b,.l ((jV e v x).s0.k.map sn),.zu (jV e v x).s0.b]:=by
 have f:=ako v x.s0 b d.s0;have g:=ako v x.s1 b d.s1;unfold jV BA EO;generalize iW v x.s0.k x.s0.b=h,iW v x.s1.k x.s1.b=i at *;simp only[bW,dS,cO,bg,aX]at f g⊢;by_cases c:e=0
 ·rw[aj c,aj c];subst c;refine au ?_;simp -implicitDefEqProofs[f]
 rw[ah c,ah c];by_cases a:e=1
 ·rw[aj a,aj a];subst a;refine au ?_;simp -implicitDefEqProofs[g]
 rw[ah a,ah a];refine au ?_;simp -implicitDefEqProofs[c,a]
def akn{e:Int}{v:Sn}{x:Pr}(a:gI x)(b:dU v.2)(h0:0<=v.1/\v.1<18446744073709551616):gI (jV e v x)/\dW (jV e v x)=dW x/\(jV e v x).now=x.now:=by
 unfold jV;split
 ·exact⟨⟨akm a.s0 b h0,a.s1,a.k0,a.k1,a.now⟩,rfl,rfl⟩
 split
 ·exact⟨⟨a.s0,akm a.s1 b h0,a.k0,a.k1,a.now⟩,rfl,rfl⟩
 ·exact⟨a,rfl,rfl⟩
def kV(e:Int)(x:Pr):Pr:=if e=0 then {x with s0:=qg x.s0,k0:=jw x.now (ji x.s0).1 x.k0}else if e=1 then {x with s1:=qg x.s1,k1:=jw x.now (ji x.s1).1 x.k1}else x
def akg(e:Int)(x:Pr):Int:=if e=0 then(ji x.s0).1.length else if e=1 then(ji x.s1).1.length else 0
def NZ(s:bP):∀t∈(ji s).1,t.length<=65536:=by
 intro t a;have c:∀{b:aO}{v:Int},t∈jW b v->t.length<=65536:=by
  intro b v h;unfold jW at h;split at h
  ·rw[jK.1 h];exact Qh _ _ _
  ·cases h
 unfold ji at a;repeat' split at a
 all_goals first|exact c a|cases a
def Xa{s:bP}(a:kG s):kG (qg s):=⟨a.mn,a.mx,a.le,a.name,a.ver,a.rc,a.kp⟩
def Xb(s:bP):wW (ji s).1<=6:=by
 have a:=acu s;generalize(ji s).1=U at *;match U,a with
 |[],_=>simp[wW]
 |[u],_=>have:=SA (jf u);simp only[wW];omega
def ayS(e:Int)(x:Pr)(a:gI x)(h:x.now<=800000000000)(i:dW x<=80000):TT.lim 384 (.zq e::bW x)=some ([.zq 0,.zq (akg e x)]++(dS (kV e x).k1++(dS (kV e x).k0++[.zq (kV e x).s1.st,.zq (kV e x).s0.st]))):=by
 unfold dW at i;unfold kV akg;by_cases c:e=0
 ·rw[aj c,aj c];subst c;have g:=akj x.s0 a.s0;have j:=Xb x.s0;have k:=acu x.s0;have d:=Xu {x with s0:=qg x.s0} ⟨Xa a.s0,a.s1,a.k0,a.k1,a.now⟩ (ji x.s0).1 (by omega) (NZ x.s0) h (by simp only;omega);unfold qg at d⊢;generalize ji x.s0=P at *;simp only[bW,dS,cO,bg,aX]at g d⊢;have b:((P.1.map GV.s).length:Int)=(P.1.length:Int):=by rw[gG]
  generalize jw x.now P.1 x.k0=K,P.1.map GV.s=l at *;refine au ?_;simp -implicitDefEqProofs[g,d,b]
 rw[ah c,ah c];by_cases f:e=1
 ·rw[aj f,aj f];subst f;have g:=akj x.s1 a.s1;have j:=Xb x.s1;have k:=acu x.s1;have d:=Xv {x with s1:=qg x.s1} ⟨a.s0,Xa a.s1,a.k0,a.k1,a.now⟩ (ji x.s1).1 (by omega) (NZ x.s1) h (by simp only;omega);unfold qg at d⊢;generalize ji x.s1=P at *;simp only[bW,dS,cO,bg,aX]at g d⊢;have b:((P.1.map GV.s).length:Int)=(P.1.length:Int):=by rw[gG]
  generalize jw x.now P.1 x.k1=K,P.1.map GV.s=l at *;refine au ?_;simp -implicitDefEqProofs[g,d,b]
 rw[ah f,ah f];simp only[bW,dS,cO,bg,aX];refine au ?_;simp -implicitDefEqProofs[c,f]
def akh{e:Int}{x:Pr}(a:gI x):gI (kV e x)/\dW (kV e x)<=dW x+6/\(kV e x).now=x.now:=by
 unfold kV;split
 ·obtain⟨b,c,-⟩:=RF (now:=x.now) (ji x.s0).1 a.k0 (NZ x.s0);have:=Xb x.s0;refine⟨⟨Xa a.s0,a.s1,b,a.k1,a.now⟩,?_,rfl⟩;unfold dW;simp only;omega
 split
 ·obtain⟨b,c,-⟩:=RF (now:=x.now) (ji x.s1).1 a.k1 (NZ x.s1);have:=Xb x.s1;refine⟨⟨a.s0,Xa a.s1,a.k0,b,a.now⟩,?_,rfl⟩;unfold dW;simp only;omega
 ·exact⟨a,by omega,rfl⟩
def afU(a b:List Fa)(s:a.length<=2000000000000)(t:b.length<=2000000000000):TT.lim 5 [.l [.l (a.map bn),.l (b.map bn)]]=some [.l ((a++b).map bn)]:=by
 have w1:IntKind.i64.wrap 1=1:=rfl;have d:IntKind.i64.wrap 2=2:=rfl;have g:((a.map bn).length:Int)=(a.length:Int):=by rw[gG]
 have i:((b.map bn).length:Int)=(b.length:Int):=by rw[gG]
 have j:=bF ((a.length:Int));have k:=bF ((a.length:Int)+(b.length:Int));have l:TT.lim 6 [.l [.l (a.map bn),.l (b.map bn)],.zq ((a.length:Int)+(b.length:Int)),.zq 2,.zq 2]=some [.zq 0,.zq ((a.length:Int)+(b.length:Int))]:=by refine au ?_;simp
 have e:¬((a.length:Int)+(b.length:Int)<0):=by omega
 have m:¬((a.length:Int)<0):=by omega
 have n:TT.lim 6 [.l [.l (a.map bn),.l (b.map bn)],.zq (a.length:Int),.zq 2,.zq 1]=some [.zq 0,.zq ((a.length:Int)+(b.length:Int))]:=by generalize a.map bn=A,b.map bn=B,(a.length:Int)=x,(b.length:Int)=y at *;refine au ?_;simp -implicitDefEqProofs[d,i,k,e,l]
 have o:TT.lim 6 [.l [.l (a.map bn),.l (b.map bn)],.zq 0,.zq 2,.zq 0]=some [.zq 0,.zq ((a.length:Int)+(b.length:Int))]:=by generalize a.map bn=A,b.map bn=B,(a.length:Int)=x,(b.length:Int)=y at *;refine au ?_;simp -implicitDefEqProofs[w1,g,j,m,n]
 have f:∀u v:List Fa,u.length+v.length<=4398046511000->IQ 6 32 (some (.l (u.map bn))) (some (.l (v.map bn)))=some (.l ((u++v).map bn)):=by
  intro u v h;rw[FZ,aj]
  ·rw[nM]
  ·refine⟨?_,?_,?_⟩
   ·rw[List.all_map];exact List.all_eq_true.2 λx _=>rfl
   ·simp only[gG];omega
   ·simp only[gG];omega
 have c:∀X:List Fa,TT.lim 7 [.l (X.map bn),.l [.l (a.map bn),.l (b.map bn)],.zq 2,.zq 2]=some [.zq 0,.l (X.map bn)]:=by intro X;refine au ?_;simp
 have p:TT.lim 7 [.l (a.map bn),.l [.l (a.map bn),.l (b.map bn)],.zq 2,.zq 1]=some [.zq 0,.l ((a++b).map bn)]:=by have h:=f a b (by omega);have c:=c (a++b);generalize(a++b).map bn=C,a.map bn=A,b.map bn=B at *;refine au ?_;simp -implicitDefEqProofs[d,h,c]
 have q:TT.lim 7 [.l [],.l [.l (a.map bn),.l (b.map bn)],.zq 2,.zq 0]=some [.zq 0,.l ((a++b).map bn)]:=by have h:=f [] a (by simp;omega);rw[aX,jI]at h;generalize(a++b).map bn=C,a.map bn=A,b.map bn=B at *;refine au ?_;simp -implicitDefEqProofs[w1,h,p]
 have r:TT.lim 1 [.zq ((a.length:Int)+(b.length:Int))]=some [.l []]:=by refine Bz rfl ?_;unfold Jp;dsimp only;rw[aj ⟨by omega,by omega,by omega⟩]
 have w:=bF ((a.length:Int)+(b.length:Int));generalize(a++b).map bn=C,a.map bn=A,b.map bn=B,(a.length:Int)=x,(b.length:Int)=y at *;refine aT ?_;simp -implicitDefEqProofs[o,e,r,q]
structure Ap where
 jQ:Int
 en:Int
 x:Sn
 ep:Int
 tk:Int
structure yH(a:Ap):Prop where
 jQ:0<=a.jQ/\a.jQ<256
 v:0<=a.x.1/\a.x.1<18446744073709551616
 rows:Rows a.x.2
 ep:0<=a.ep/\a.ep<18446744073709551616
 tk:0<=a.tk/\a.tk<256
def kQ(a:Ap):GV:=.g [.i .u8 a.jQ,.zq a.en,.zu a.x.1,.l (a.x.2.map row),.zu a.ep,.i .u8 a.tk]
@[simp] theorem aGg(a:Ap):(kQ a).cells=[.i .u8 a.jQ,.zq a.en,.zu a.x.1,.l (a.x.2.map row),.zu a.ep,.i .u8 a.tk]:=rfl
@[simp] theorem aGh(a:Ap):(kQ a).scalar=false:=rfl
def zU(r:Row):Bool:=decide ((100:Int)<(dG r.1).length)
def ahW(l:List Row)(f:∀r∈l,iL r.1=true)(n:l.length<=100000):∀(m i:Nat),i+m=l.length->
 ∃k,TT.lim 23 [.l (l.map row),.zq (l.length:Int),.zq (i:Int)]=some (if(l.drop i).any zU=true then[.zq 0,.zq ((k:Nat):Int)]else[.zq 1])
 |0,i,hi=>by
  have c:¬((i:Int)<l.length):=by omega
  rw[ig];refine⟨0,?_⟩;rw[ah (by simp)];refine au ?_;simp -implicitDefEqProofs[c]
 |m+1,i,hi=>by
  have b:i<l.length:=by omega
  have c:(i:Int)<l.length:=by omega
  have o:IntKind.i64.wrap ((i:Int)+1)=((i+1:Nat):Int):=by rw[wrap64 (by omega) (by omega)];omega
  have p:l.drop i=l[i]::l.drop (i+1):=iC b;have d:at2 2 (some (.l (l.map row))) (some (.zq (i:Int)))=some (row l[i]):=by rw[eF,nI,xG,iY,bT b];rfl
  have q:=f _ (gX b);obtain⟨k,g⟩:=ahW l f n m (i+1) (by omega);rw[p];generalize l[i]=r at *;have e:=CY r.1 q;have a:TT.lim 24 [row r]=some [.b (zU r)]:=by unfold zU;generalize dG r.1=K at *;refine aT ?_;simp -implicitDefEqProofs[e]
  have h:GV.g [.l (r.1.map ent),.zu r.2]=row r:=rfl;rw[<-o]at g;rw[ad5];cases j:zU r with
  |true=>rw[j]at a;refine⟨i,?_⟩;rw[aj (by simp)];generalize l.map row=s,(l.length:Int)=t at *;refine au ?_;simp -implicitDefEqProofs[-eF,c,d,h,a]
  |false=>rw[j]at a;refine⟨k,?_⟩;rw[Ag];generalize(if(l.drop (i+1)).any zU=true then[GV.zq 0,.zq ((k:Nat):Int)]else[.zq 1])=Q,l.map row=s,(l.length:Int)=t at *;refine au ?_;simp -implicitDefEqProofs[-eF,c,d,h,a,g]
def aoV(l:List Row)(d:∀r∈l,iL r.1=true)(e:l.length<=100000):TT.lim 21 [.l (l.map row)]=some [.b (l.any zU)]:=by
 obtain⟨k,h⟩:=ahW l d e l.length 0 (by omega);rw[dN]at h;have a:((l.map row).length:Int)=(l.length:Int):=by rw[gG]
 have hi:TT.lim 22 [.l (l.map row)]=some [.zq (if l.any zU=true then((k:Nat):Int)else -1)]:=by
  cases b:l.any zU with
  |true=>rw[b,aj rfl]at h;rw[aj rfl];simp only[sW]at h;generalize l.map row=c at *;refine aT ?_;simp -implicitDefEqProofs[a,h]
  |false=>rw[b,ah (by simp)]at h;rw[ah (by simp)];simp only[sW]at h;generalize l.map row=c at *;refine aT ?_;simp -implicitDefEqProofs[a,h]
 cases b:l.any zU with
 |true=>
  rw[b,aj rfl]at hi;have f:(0:Int)<=(k:Int):=by omega
  generalize l.map row=c,(k:Int)=g at *;refine aT ?_;simp -implicitDefEqProofs[hi,f]
 |false=>rw[b,ah (by simp)]at hi;generalize l.map row=c at *;refine aT ?_;simp -implicitDefEqProofs[hi]
def Gz(a:Ap):Bool:=decide ((a.x.2.length:Int)<=10)&&(Gy a.x.2&&(decide (a.tk<=40)&&!a.x.2.any zU))
def agT(r s:GV)(l:List Ap)(y:l.length<=4000000000000)(t:∀a∈l,yH a):∀(m i:Nat),i+m=l.length->
 TT.lim 9 [r,s,.l (l.map kQ),.zq (l.length:Int),.zq (i:Int)]=some (if(l.drop i).all Gz=true then[.zq 1]else[.zq 0])
 |0,i,hi=>by
  have c:¬((i:Int)<l.length):=by omega
  rw[ig,aj (by simp)];refine au ?_;simp -implicitDefEqProofs[c]
 |m+1,i,hi=>by
  have h:i<l.length:=by omega
  have c:(i:Int)<l.length:=by omega
  have z:IntKind.i64.wrap ((i:Int)+1)=((i+1:Nat):Int):=by rw[wrap64 (by omega) (by omega)];omega
  have A:l.drop i=l[i]::l.drop (i+1):=iC h;have d:at2 6 (some (.l (l.map kQ))) (some (.zq (i:Int)))=some (kQ l[i]):=by rw[eF,nI,xG,iY,bT h];rfl
  have k:=t _ (gX h);have u:=agT r s l y t m (i+1) (by omega);rw[<-z]at u;rw[A,rH];generalize l[i]=a at *;have j:=aty a.x.2 k.rows;have v:((a.x.2.map row).length:Int)=(a.x.2.length:Int):=by rw[gG]
  generalize(l.drop (i+1)).all Gz=B at *;unfold Gz;by_cases w:(a.x.2.length:Int)<=10;rotate_left
  ·rw[ah (by simp[w])];have b:(10:Int)<a.x.2.length:=by omega
   generalize l.map kQ=n,(l.length:Int)=o at *;refine au ?_;simp -implicitDefEqProofs[-eF,c,d,b]
  have b:¬(10:Int)<a.x.2.length:=by omega
  cases p:Gy a.x.2 with
  |false=>rw[ah (by simp[p])];rw[p]at j;generalize l.map kQ=n,(l.length:Int)=o at *;refine au ?_;simp -implicitDefEqProofs[-eF,c,d,b,j]
  |true=>
   rw[p]at j;have f:=aoV a.x.2 (ahq k.rows p).few (by omega);by_cases x:a.tk<=40;rotate_left
   ·rw[ah (by simp[x])];have g:(40:Int)<a.tk:=by omega
    generalize l.map kQ=n,(l.length:Int)=o at *;refine au ?_;simp -implicitDefEqProofs[-eF,c,d,b,j,g]
   have g:¬(40:Int)<a.tk:=by omega
   cases q:a.x.2.any zU with
   |true=>rw[ah (by simp[q])];rw[q]at f;generalize l.map kQ=n,(l.length:Int)=o at *;refine au ?_;simp -implicitDefEqProofs[-eF,c,d,b,j,g,f]
   |false=>
    rw[q]at f;have e:(decide ((a.x.2.length:Int)<=10)&&(true&&(decide (a.tk<=40)&&!false)))=true:=by simp[w,x]
    rw[e,FK];generalize(if B=true then[GV.zq 1]else[.zq 0])=Q,l.map kQ=n,(l.length:Int)=o at *;refine au ?_;simp -implicitDefEqProofs[-eF,c,d,b,j,g,f,u]
def MS(f:Fa):Bool:=decide ((f.c:Int)<=3)
def agS(f g h:GV)(l:List Fa)(n:l.length<=9000000000000000):∀(m i:Nat),i+m=l.length->
 TT.lim 8 [f,g,h,.l (l.map bn),.zq (l.length:Int),.zq (i:Int)]=some (if(l.drop i).all MS=true then[.zq 1]else[.zq 0])
 |0,i,hi=>by
  have c:¬((i:Int)<l.length):=by omega
  rw[ig,aj (by simp)];refine au ?_;simp -implicitDefEqProofs[c]
 |m+1,i,hi=>by
  have d:i<l.length:=by omega
  have c:(i:Int)<l.length:=by omega
  have o:IntKind.i64.wrap ((i:Int)+1)=((i+1:Nat):Int):=by rw[wrap64 (by omega) (by omega)];omega
  have p:l.drop i=l[i]::l.drop (i+1):=iC d;have e:at2 6 (some (.l (l.map bn))) (some (.zq (i:Int)))=some (bn l[i]):=by rw[eF,nI,xG,iY,bT d];rfl
  have j:=agS f g h l n m (i+1) (by omega);rw[<-o]at j;rw[p,rH];generalize l[i]=a at *;generalize s:(l.drop (i+1)).all MS=B at *;unfold MS;by_cases k:(a.c:Int)<=3
  ·have b:¬(3:Int)<a.c:=by omega
   rw[Gq k,FK];generalize(if B=true then[GV.zq 1]else[.zq 0])=Q,l.map bn=q,(l.length:Int)=r at *;refine au ?_;simp -implicitDefEqProofs[-eF,c,e,b,j]
  ·have b:(3:Int)<a.c:=by omega
   rw[Ed k,Yo,ah (by simp)];generalize l.map bn=q,(l.length:Int)=r at *;refine au ?_;simp -implicitDefEqProofs[-eF,c,e,b]
def Vj(a b:List Fa)(l:List Ap):Bool:=(a++b).all MS&&(l.all Gz&&(decide ((a.length:Int)<=30)&&(decide ((b.length:Int)<=30)&&decide ((l.length:Int)<=30))))
def atz(a b:List Fa)(l:List Ap)(r:a.length<=2000000000000)(s:b.length<=2000000000000)(p:l.length<=4000000000000)(q:∀x∈l,yH x):TT.lim 4 [.l (a.map bn),.l (b.map bn),.l (l.map kQ)]=some [.b (Vj a b l)]:=by
 have e:=afU a b (by omega) (by omega);have c:=agS (.l (a.map bn)) (.l (b.map bn)) (.l (l.map kQ)) (a++b) (by rw[eP];omega) (a++b).length 0 (by omega);have d:=agT (.l (a.map bn)) (.l (b.map bn)) l p q l.length 0 (by omega);rw[dN]at c d;have h:((a.map bn).length:Int)=(a.length:Int):=by rw[gG]
 have i:((b.map bn).length:Int)=(b.length:Int):=by rw[gG]
 have g:((l.map kQ).length:Int)=(l.length:Int):=by rw[gG]
 have f:(((a++b).map bn).length:Int)=((a++b).length:Int):=by rw[gG]
 simp only[sW]at c d;unfold Vj;cases k:(a++b).all MS with
 |false=>rw[k,ah (by simp)]at c;rw[Yo];generalize(a++b).map bn=C,a.map bn=A,b.map bn=B,l.map kQ=L,((a++b).length:Int)=m at *;refine aT ?_;simp -implicitDefEqProofs[e,f,c]
 |true=>
  rw[k,aj rfl]at c;rw[FK];cases n:l.all Gz with
  |false=>rw[n,ah (by simp)]at d;rw[Yo];generalize(a++b).map bn=C,a.map bn=A,b.map bn=B,l.map kQ=L,((a++b).length:Int)=m at *;refine aT ?_;simp -implicitDefEqProofs[e,f,c,g,d]
  |true=>
   rw[n,aj rfl]at d;rw[FK];generalize(a++b).map bn=C,a.map bn=A,b.map bn=B,l.map kQ=L,((a++b).length:Int)=m at *;by_cases j:(a.length:Int)<=30
   ·by_cases o:(b.length:Int)<=30
    ·refine aT ?_;simp -implicitDefEqProofs[e,f,c,g,d,h,i,j,o]
    ·refine aT ?_;simp -implicitDefEqProofs[e,f,c,g,d,h,i,j,o]
   ·refine aT ?_;simp -implicitDefEqProofs[e,f,c,g,d,h,i,j]
def aFs:qP [102,105,114,115,116] 0 256=0:=by kernel_rfl
def aFt:qP [111,116,104,101,114] 0 256=0:=by kernel_rfl
def newP(a c x y:Int)(th bk:List Fa):Pr:=⟨newS a c [102,105,114,115,116] true,newS x y [111,116,104,101,114] false,⟨th,[],0⟩,⟨bk,[],0⟩,0,[]⟩
def ax8{a c x y:Int}{th bk:List Fa}(h1:1<=a)(d:a<=c)(e:c<=3)(g:1<=x)(h5:x<=y)(h6:y<=3)(i:∀f∈th,FM f)(j:∀f∈bk,FM f)(lt:th.length<=30)(l:bk.length<=30):gI (newP a c x y th bk)/\dW (newP a c x y th bk)<=1440:=by
 have b:Heap [] ([]:List It).length:=λk _ h=>by simp at h
 refine⟨⟨ajn h1 d e (by simp),ajn g h5 h6 (by simp),⟨i,b,gW _,λy h=>by cases h⟩,⟨j,b,gW _,λy h=>by cases h⟩,gW _⟩,?_⟩;unfold dW nR newP;simp only[wQ,kY,Int.toNat_zero];omega
abbrev Vf:WF:=[.bool,.int .u8,.int .u8,.int .i64,.int .i64,.int .u8]
abbrev Y2:WF:=[.int .u8,.int .i64,.int .u64,.list true [.list true [.str,.str],.int .u64],.int .u64,.int .u8]
def att{cs:Q1}(h:bU.jo Vf cs):∃f:Fa,(f.d<256/\f.rY<256/\f.cu<=9223372036854775807/\f.at_<=9223372036854775807)/\GV.g cs=bn f:=by obtain⟨t,r1,rfl,a,h⟩:=qF h;obtain⟨u,r2,rfl,b,h⟩:=qF h;obtain⟨v,r3,rfl,c,h⟩:=qF h;obtain⟨w,x,rfl,d,h⟩:=qF h;obtain⟨y,z,rfl,e,h⟩:=qF h;obtain⟨A,B,rfl,g,h⟩:=qF h;have:=Nr h;subst this;obtain⟨i,rfl⟩:=avh a;obtain⟨j,rfl,k⟩:=Qu b;obtain⟨l,rfl,m⟩:=Qu c;obtain⟨n,rfl,o⟩:=aau d;obtain⟨p,rfl,q⟩:=aau e;obtain⟨r,rfl,s⟩:=Qu g;refine⟨⟨i,j.toNat,l.toNat,n,p,r.toNat⟩,⟨by simp only;omega,by simp only;omega,o.2,q.2⟩,?_⟩;unfold bn;simp only;rw[Il k.1,Il m.1,Il s.1]
def ang{cs:Q1}(h:bU.jo Y2 cs):∃a:Ap,yH a/\GV.g cs=kQ a:=by obtain⟨t,r1,rfl,c,h⟩:=qF h;obtain⟨u,r2,rfl,d,h⟩:=qF h;obtain⟨v,r3,rfl,e,h⟩:=qF h;obtain⟨w,x,rfl,f,h⟩:=qF h;obtain⟨y,z,rfl,g,h⟩:=qF h;obtain⟨A,B,rfl,i,h⟩:=qF h;have:=Nr h;subst this;obtain⟨j,rfl,k⟩:=Qu c;obtain⟨l,rfl,-⟩:=aau d;obtain⟨m,rfl,n⟩:=Jv e;obtain⟨o,b,rfl⟩:=aAW f;obtain⟨p,rfl,q⟩:=Jv g;obtain⟨r,rfl,s⟩:=Qu i;exact⟨⟨j,l,(m,o),p,r⟩,⟨k,n,b,q,s⟩,rfl⟩
def agQ{g:GV}(h:(bU.list true Vf).has g):∃l:List Fa,(∀f∈l,f.d<256/\f.rY<256/\f.cu<=9223372036854775807/\f.at_<=9223372036854775807)/\g=.l (l.map bn):=by
 obtain⟨b,rfl,-,c⟩:=VJ h;obtain⟨l,d,rfl⟩:=QL (f:=bn) (p:=λf=>f.d<256/\f.rY<256/\f.cu<=9223372036854775807/\f.at_<=9223372036854775807) (xs:=b) λx a=>by
  obtain⟨e,i⟩:=c x a;cases x<;>simp[GV.scalar]at i
  exact att e
 exact⟨l,d,rfl⟩
def anj{g:GV}(h:(bU.list true Y2).has g):∃l:List Ap,(∀f∈l,yH f)/\g=.l (l.map kQ):=by
 obtain⟨b,rfl,-,c⟩:=VJ h;obtain⟨l,d,rfl⟩:=QL (f:=kQ) (p:=yH) (xs:=b) λx a=>by
  obtain⟨e,i⟩:=c x a;cases x<;>simp[GV.scalar]at i
  exact ang e
 exact⟨l,d,rfl⟩
