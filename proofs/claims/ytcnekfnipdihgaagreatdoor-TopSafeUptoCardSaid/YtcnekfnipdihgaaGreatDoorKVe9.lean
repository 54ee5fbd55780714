/- What the trees compute: plain laws. -/
import Derived.Test.YtcnekfnipdihgaaGreatDoorKVe8
set_option linter.all false
namespace Go.Proofs.YtcnekfnipdihgaaGreatDoor
open Go Go.aP
set_option maxRecDepth 100000
namespace V
def Rw(y:Pr):Q3:=match oO y with
 |some a=>.zq 0::.zu a::iF y
 |none=>.zq 1::iF y
def Au{h:List It}{n:Nat}(c:h.length=n+1):at2 3 (some (.l (h.map dF))) (some (.zq 0))=some (dF (at_ h 0))/\EL (some (.l (h.map dF))) (some (.zq 0))=some (.zq 0):=by have a:=CQ (h:=h) (k:=0) ah;have b:=Bv (h:=h) (k:=0) ah;exact⟨a,b⟩
def RZ{x:Pr}{a:Int}(h:oO x=some a):Si x=a:=by unfold Si;rw[h];rfl
set_option maxHeartbeats 4000000 in
def aiA(last l:Int):∀(f:Nat)(x:Pr),gI x->x.now<=800000000000->dS x<=80000->dS x<f->
 TT.lim 151 ([.zu last,.zu (Si x),.b (oO x).isSome,.zu l]++bU x)=some (Rw (vJ f x))
 |0,x,t,u,w,F=>ah
 |f+1,x,t,u,w,F=>by
  unfold vJ;cases s:oO x with
  |none=>simp only;unfold Rw Si;rw[s];simp only[aeX,uS,bU,iF,dQ,cZ,kX,bg,aW];refine aB ?_;simp
  |some a=>
   rw[RZ s];simp only[Zi];by_cases c:a<=x.now;rotate_left
   ·rw[aj c];unfold Rw;rw[s];simp only[bU,iF,dQ,cZ,kX,bg,aW];refine aB ?_;simp -implicitDefEqProofs[c]
   rw[au c];obtain⟨G,J⟩:=ZW t s c;have e:=aos x t u w;have d:=aiA last l f (uT x) G (by rw[Vb];exact u) ah ah;have b:=afZ x;have i:=Vb x;generalize Rw (vJ f (uT x))=R at *;have v:=ajU (uT x);generalize uT x=E at *;have A:((E.k0.h.map dF).length:Int)=(E.k0.h.length:Int):=by rw[gG]
   have o:((E.k1.h.map dF).length:Int)=(E.k1.h.length:Int):=by rw[gG]
   rcases v with⟨j,k,h⟩|⟨n,j,k,h⟩|⟨n,j,k,h⟩|⟨n,m,j,k,h⟩
   ·unfold Si at d;rw[h]at d;simp only[aeX,uS,bU,iF,dQ,cZ,kX,bg,aW]at e d⊢;rw[i,b.a.1,b.a.2.1,b.a.2.2.1,b.a.2.2.2,b.b.1,b.b.2.1,b.b.2.2.1,b.b.2.2.2,j,k]at d;rw[j,k]at e;simp only[jU]at e d;refine aB ?_;simp -implicitDefEqProofs[c,e,d]
   ·rw[RZ h,h]at d;obtain⟨p,q⟩:=Au j;have g:¬(E.k0.h.length:Int)=0:=ah;simp only[Zi,bU,iF,dQ,cZ,kX,bg,aW]at e d⊢;rw[i,b.a.1,b.a.2.1,b.a.2.2.1,b.a.2.2.2,b.b.1,b.b.2.1,b.b.2.2.1,b.b.2.2.2,k]at d;rw[k]at e;simp only[jU]at e d;generalize at_ E.k0.h 0=z,E.k0.h.map dF=B,(E.k0.h.length:Int)=D at *;refine aB ?_;simp -implicitDefEqProofs[-jQ,-dA,c,e,A,g,p,q,d]
   ·rw[RZ h,h]at d;obtain⟨p,q⟩:=Au k;have g:¬(E.k1.h.length:Int)=0:=ah;simp only[Zi,bU,iF,dQ,cZ,kX,bg,aW]at e d⊢;rw[i,b.a.1,b.a.2.1,b.a.2.2.1,b.a.2.2.2,b.b.1,b.b.2.1,b.b.2.2.1,b.b.2.2.2,j]at d;rw[j]at e;simp only[jU]at e d;generalize at_ E.k1.h 0=z,E.k1.h.map dF=B,(E.k1.h.length:Int)=D at *;refine aB ?_;simp -implicitDefEqProofs[-jQ,-dA,c,e,o,g,p,q,d]
   ·rw[RZ h,h]at d;obtain⟨p,q⟩:=Au j;obtain⟨H,I⟩:=Au k;have g:¬(E.k0.h.length:Int)=0:=ah;have r:¬(E.k1.h.length:Int)=0:=ah;simp only[Zi,bU,iF,dQ,cZ,kX,bg,aW]at e d⊢;rw[i,b.a.1,b.a.2.1,b.a.2.2.1,b.a.2.2.2,b.b.1,b.b.2.1,b.b.2.2.1,b.b.2.2.2]at d;generalize at_ E.k0.h 0=z,E.k0.h.map dF=B,(E.k0.h.length:Int)=D,at_ E.k1.h 0=y,E.k1.h.map dF=L,(E.k1.h.length:Int)=M at *;refine aB ?_;simp -implicitDefEqProofs[-jQ,-dA,c,e,A,o,g,r,p,q,H,I,d]
set_option maxHeartbeats 8000000 in
def ahT:∀(f:Nat)(last:Int)(x:Pr),gI x->x.now<=last->last<=800000000000->dS x<=80000->(last-x.now).toNat<f->
 TT.lim 150 (.zu last::bU x)=some (.zq 0::iF (wG f last x))\/
 TT.lim 150 (.zu last::bU x)=some (.zq 1::.zu last::iF (wG f last x))
 |0,last,x,A,N,R,S,U=>ah
 |f+1,last,x,A,N,R,S,U=>by
  unfold wG;by_cases c:x.now<last;rotate_left
  ·rw[aj c];have e:x.now=last:=ah;refine .inr ?_;simp only[bU,iF,dQ,cZ,kX,bg,aW];rw[e];refine aB ?_;simp
  rw[au c];have w:=ajU x;have B:((x.k0.h.map dF).length:Int)=(x.k0.h.length:Int):=by rw[gG]
  have s:((x.k1.h.map dF).length:Int)=(x.k1.h.length:Int):=by rw[gG]
  cases u:oO x with
  |none=>
   simp only;have q:x.k0.h=[]/\x.k1.h=[]:=by
    rcases w with⟨i,j,g⟩|⟨n,i,j,g⟩|⟨n,i,j,g⟩|⟨n,m,i,j,g⟩
    ·exact⟨i,j⟩
    ·rw[u]at g;cases g
    ·rw[u]at g;cases g
    ·rw[u]at g;cases g
   refine .inl ?_;simp only[bU,iF,dQ,cZ,kX,bg,aW];rw[q.1,q.2];simp only[jU];refine aB ?_;simp -implicitDefEqProofs[c]
  |some a=>
   simp only;rw[u]at w;by_cases k:last<a
   ·rw[au k];refine .inl ?_;simp only[bU,iF,dQ,cZ,kX,bg,aW];rcases w with⟨i,j,g⟩|⟨n,i,j,g⟩|⟨n,i,j,g⟩|⟨n,m,i,j,g⟩
    ·cases g
    ·injection g with g
     obtain⟨o,p⟩:=Au i;have h:¬(x.k0.h.length:Int)=0:=ah;rw[g]at k;rw[j];simp only[jU];clear g u;generalize at_ x.k0.h 0=z,x.k0.h.map dF=H,(x.k0.h.length:Int)=D at *;refine aB ?_;simp -implicitDefEqProofs[-jQ,-dA,c,k,B,h,o,p]
    ·injection g with g
     obtain⟨o,p⟩:=Au j;have h:¬(x.k1.h.length:Int)=0:=ah;rw[g]at k;rw[i];simp only[jU];clear g u;generalize at_ x.k1.h 0=z,x.k1.h.map dF=H,(x.k1.h.length:Int)=D at *;refine aB ?_;simp -implicitDefEqProofs[-jQ,-dA,c,k,s,h,o,p]
    ·injection g with g
     obtain⟨o,p⟩:=Au i;obtain⟨L,M⟩:=Au j;have h:¬(x.k0.h.length:Int)=0:=ah;have r:¬(x.k1.h.length:Int)=0:=ah;rw[g]at k;clear g u;generalize at_ x.k0.h 0=z,x.k0.h.map dF=H,(x.k0.h.length:Int)=D,at_ x.k1.h 0=y,x.k1.h.map dF=W,(x.k1.h.length:Int)=X at *;refine aB ?_;simp -implicitDefEqProofs[-jQ,-dA,c,k,B,s,h,r,o,p,L,M]
   rw[aj k];have D:=A.now;obtain⟨Y,Z,I,-⟩:=aft (a:=a) A;have O:(uq a x).now<=last/\x.now<(uq a x).now:=by rw[I];split<;>omega
   have t:=ahT f last (uq a x) Y O.1 R ah ah;have P:gI {x with now:=if x.now+1<a then a else x.now+1}:=⟨A.s0,A.s1,A.k0,A.k1,by simp only;split<;>omega⟩
   have d:=aiA last a (dS x+1) {x with now:=if x.now+1<a then a else x.now+1} P (by simp only;split<;>omega) S (Ce _);have v:oO {x with now:=if x.now+1<a then a else x.now+1}=some a:=u;rw[RZ v,v]at d;rw[show vJ (dS x+1) {x with now:=if x.now+1<a then a else x.now+1}=uq a x from rfl]at d;have l:=afu a x;have F:=jL (x.now+1);generalize wG f last (uq a x)=G at *;generalize uq a x=E at *;have d:TT.lim 151 ([.zu last,.zu a,.b true,.zu a]++bU {x with now:=if x.now+1<a then a else x.now+1})=some (.zq 1::iF E)\/∃b,TT.lim 151 ([.zu last,.zu a,.b true,.zu a]++bU {x with now:=if x.now+1<a then a else x.now+1})=some (.zq 0::.zu b::iF E):=by
    unfold Rw at d;cases T:oO E with
    |none=>rw[T]at d;exact .inl d
    |some b=>rw[T]at d;exact .inr ⟨b,d⟩
   have J:∀Q:Q3,TT.lim 150 (.zu last::bU E)=some Q->TT.lim 150 (.zu last::bU x)=some Q:=by
    intro Q t;simp only[bU,iF,dQ,cZ,kX,bg,aW]at d t⊢;rw[I,l.a.1,l.a.2.1,l.a.2.2.1,l.a.2.2.2,l.b.1,l.b.2.1,l.b.2.2.1,l.b.2.2.2]at t;rcases w with⟨i,j,g⟩|⟨n,i,j,g⟩|⟨n,i,j,g⟩|⟨n,m,i,j,g⟩
    ·cases g
    ·injection g with g
     obtain⟨o,p⟩:=Au i;have h:¬(x.k0.h.length:Int)=0:=ah;rw[g]at k t d;rw[j]at d⊢;simp only[jU]at d⊢;clear g u v I;generalize at_ x.k0.h 0=z,x.k0.h.map dF=H,(x.k0.h.length:Int)=D at *;rcases d with d|⟨b,d⟩
     ·refine aB ?_;simp -implicitDefEqProofs[-jQ,-dA,c,k,B,h,o,p,F,d,t]
     ·refine aB ?_;simp -implicitDefEqProofs[-jQ,-dA,c,k,B,h,o,p,F,d,t]
    ·injection g with g
     obtain⟨o,p⟩:=Au j;have h:¬(x.k1.h.length:Int)=0:=ah;rw[g]at k t d;rw[i]at d⊢;simp only[jU]at d⊢;clear g u v I;generalize at_ x.k1.h 0=z,x.k1.h.map dF=H,(x.k1.h.length:Int)=D at *;rcases d with d|⟨b,d⟩
     ·refine aB ?_;simp -implicitDefEqProofs[-jQ,-dA,c,k,s,h,o,p,F,d,t]
     ·refine aB ?_;simp -implicitDefEqProofs[-jQ,-dA,c,k,s,h,o,p,F,d,t]
    ·injection g with g
     obtain⟨o,p⟩:=Au i;obtain⟨L,M⟩:=Au j;have h:¬(x.k0.h.length:Int)=0:=ah;have r:¬(x.k1.h.length:Int)=0:=ah;rw[g]at k t d;clear g u v I;generalize at_ x.k0.h 0=z,x.k0.h.map dF=H,(x.k0.h.length:Int)=D,at_ x.k1.h 0=y,x.k1.h.map dF=W,(x.k1.h.length:Int)=X at *;rcases d with d|⟨b,d⟩
     ·refine aB ?_;simp -implicitDefEqProofs[-jQ,-dA,c,k,B,s,h,r,o,p,L,M,F,d,t]
     ·refine aB ?_;simp -implicitDefEqProofs[-jQ,-dA,c,k,B,s,h,r,o,p,L,M,F,d,t]
   exact t.imp (J _) (J _)
def aEc(n:Int)(x:Pr)(h0:0<=n)(e:n<=100000)(a:gI x)(f:x.now<=700000000000)(d:dS x<=80000):
 TT.lim 149 (.zu n::bU x)=some (.zq 0::.zu (x.now+n)::iF (DU n x)):=by
 have w0:=a.now;have b:=jL (x.now+n);have h:=ahT (n.toNat+1) (x.now+n) x a ah ah d ah;have c:¬(100000:Int)<n:=ah;unfold DU;generalize wG (n.toNat+1) (x.now+n) x=E at *;simp only[bU,iF,dQ,cZ,kX,bg,aW]at h⊢;rcases h with h|h
 ·refine aB ?_;simp -implicitDefEqProofs[c,b,h]
 ·refine aB ?_;simp -implicitDefEqProofs[c,b,h]
def step_ok{n:Int}{x:Pr}(h0:0<=n)(a:gI x):gI (DU n x)/\dS (DU n x)<=dS x/\(DU n x).now=x.now+n:=by obtain⟨b,c,d⟩:=go_ok (n.toNat+1) (last:=x.now+n) a ah;exact⟨b,c,d ah⟩
def agc(h:List Fa)(b:h.length<=100000):TT.lim 29 [.l (h.map bF)]=some [.l (h.map bF)]:=by
 refine BN rfl ?_;unfold xw;have a:(h.map bF).length*32<=140737488355328/\(h.map bF).all (GV.gu 6)=true:=⟨by rw[gG];omega,by rw[List.all_map];exact List.all_eq_true.2 λx _=>rfl⟩
 simp only[a,and_self,if_true]
def aoW(h:Xs)(b:h.length<=100000):TT.lim 0 [.l (h.map oZ)]=some [.l (h.map oZ)]:=by
 refine BN rfl ?_;unfold xw;have a:(h.map oZ).length*24<=140737488355328/\(h.map oZ).all (GV.gu 3)=true:=⟨by rw[gG];omega,by rw[List.all_map];exact List.all_eq_true.2 λx _=>rfl⟩
 simp only[a,and_self,if_true]
def GU(s:bY):Q3:=[.zq 0]++([.zu s.mn,.zu s.mx,.s s.name,.b s.first,.zq s.st,.zq s.ver,.zq s.vs,.b s.sm,.zu s.h.1,.l (s.h.2.map row),.l (s.k.map sn),.zu s.b])
def jK(e:Int)(v:Sn)(x:Pr):Pr:=if e=0 then {x with s0:=E5 v x.s0}else if e=1 then {x with s1:=E5 v x.s1}else x
def zB(e:Int)(v:Sn)(x:Pr):Int:=if e=0 then(jd v x.s0.k x.s0.b).1 else if e=1 then(jd v x.s1.k x.s1.b).1 else 24
def ayQ(e:Int)(v:Sn)(x:Pr)(b:bZ v.2)(d:gI x):TT.lim 32 ([.zq e,.zu v.1,.l (v.2.map row)]++bU x)=some [.zq 0,.zq (zB e v x),.l ((jK e v x).s1.k.map sn),.zu (jK e v x).s1.b,.l ((jK e v x).s0.k.map sn),.zu (jK e v x).s0.b]:=by
 have f:=akV v x.s0 b d.s0;have g:=akV v x.s1 b d.s1;unfold jK zB E5;generalize jd v x.s0.k x.s0.b=h,jd v x.s1.k x.s1.b=i at *;simp only[bU,dQ,cZ,bg,aW]at f g⊢;by_cases c:e=0
 ·rw[au c,au c];subst c;refine aB ?_;simp -implicitDefEqProofs[f]
 rw[aj c,aj c];by_cases a:e=1
 ·rw[au a,au a];subst a;refine aB ?_;simp -implicitDefEqProofs[g]
 rw[aj a,aj a];refine aB ?_;simp -implicitDefEqProofs[c,a]
def akU{e:Int}{v:Sn}{x:Pr}(a:gI x)(b:bZ v.2)(h0:0<=v.1/\v.1<18446744073709551616):gI (jK e v x)/\dS (jK e v x)=dS x/\(jK e v x).now=x.now:=by
 unfold jK;split
 ·exact⟨⟨akT a.s0 b h0,a.s1,a.k0,a.k1,a.now⟩,rfl,rfl⟩
 split
 ·exact⟨⟨a.s0,akT a.s1 b h0,a.k0,a.k1,a.now⟩,rfl,rfl⟩
 ·exact⟨a,rfl,rfl⟩
def lD(e:Int)(x:Pr):Pr:=if e=0 then {x with s0:=qA x.s0,k0:=jH x.now (jA x.s0).1 x.k0}else if e=1 then {x with s1:=qA x.s1,k1:=jH x.now (jA x.s1).1 x.k1}else x
def akN(e:Int)(x:Pr):Int:=if e=0 then(jA x.s0).1.length else if e=1 then(jA x.s1).1.length else 0
def OA(s:bY):∀t∈(jA s).1,t.length<=65536:=by
 intro t a;have c:∀{b:aQ}{v:Int},t∈kD b v->t.length<=65536:=by
  intro b v h;unfold kD at h;split at h
  ·rw[jI.1 h];exact QM _ _ _
  ·cases h
 unfold jA at a;repeat' split at a
 all_goals first|exact c a|cases a
def XI{s:bY}(a:kS s):kS (qA s):=⟨a.mn,a.mx,a.le,a.name,a.ver,a.rc,a.kp⟩
def XJ(s:bY):wW (jA s).1<=6:=by
 have a:=ac0 s;generalize(jA s).1=b at *;match b,a with
 |[],_=>simp[wW]
 |[u],_=>have:=TM (jw u);simp only[wW];omega
def ayP(e:Int)(x:Pr)(a:gI x)(h:x.now<=800000000000)(i:dS x<=80000):TT.lim 63 (.zq e::bU x)=some ([.zq 0,.zq (akN e x)]++(dQ (lD e x).k1++(dQ (lD e x).k0++[.zq (lD e x).s1.st,.zq (lD e x).s0.st]))):=by
 unfold dS at i;unfold lD akN;by_cases c:e=0
 ·rw[au c,au c];subst c;have g:=akQ x.s0 a.s0;have j:=XJ x.s0;have k:=ac0 x.s0;have d:=Ya {x with s0:=qA x.s0} ⟨XI a.s0,a.s1,a.k0,a.k1,a.now⟩ (jA x.s0).1 ah (OA x.s0) h (by simp only;omega);unfold qA at d⊢;generalize jA x.s0=P at *;simp only[bU,dQ,cZ,bg,aW]at g d⊢;have b:((P.1.map GV.s).length:Int)=(P.1.length:Int):=by rw[gG]
  generalize jH x.now P.1 x.k0=K,P.1.map GV.s=l at *;refine aB ?_;simp -implicitDefEqProofs[g,d,b]
 rw[aj c,aj c];by_cases f:e=1
 ·rw[au f,au f];subst f;have g:=akQ x.s1 a.s1;have j:=XJ x.s1;have k:=ac0 x.s1;have d:=Yb {x with s1:=qA x.s1} ⟨a.s0,XI a.s1,a.k0,a.k1,a.now⟩ (jA x.s1).1 ah (OA x.s1) h (by simp only;omega);unfold qA at d⊢;generalize jA x.s1=P at *;simp only[bU,dQ,cZ,bg,aW]at g d⊢;have b:((P.1.map GV.s).length:Int)=(P.1.length:Int):=by rw[gG]
  generalize jH x.now P.1 x.k1=K,P.1.map GV.s=l at *;refine aB ?_;simp -implicitDefEqProofs[g,d,b]
 rw[aj f,aj f];simp only[bU,dQ,cZ,bg,aW];refine aB ?_;simp -implicitDefEqProofs[c,f]
def akO{e:Int}{x:Pr}(a:gI x):gI (lD e x)/\dS (lD e x)<=dS x+6/\(lD e x).now=x.now:=by
 unfold lD;split
 ·obtain⟨b,c,-⟩:=Tc (now:=x.now) (jA x.s0).1 a.k0 (OA x.s0);have:=XJ x.s0;refine⟨⟨XI a.s0,a.s1,b,a.k1,a.now⟩,?_,rfl⟩;unfold dS;simp only;omega
 split
 ·obtain⟨b,c,-⟩:=Tc (now:=x.now) (jA x.s1).1 a.k1 (OA x.s1);have:=XJ x.s1;refine⟨⟨a.s0,XI a.s1,a.k0,b,a.now⟩,?_,rfl⟩;unfold dS;simp only;omega
 ·exact⟨a,ah,rfl⟩
def ags(a b:List Fa)(s:a.length<=2000000000000)(t:b.length<=2000000000000):TT.lim 5 [.l [.l (a.map bF),.l (b.map bF)]]=some [.l ((a++b).map bF)]:=by
 have w1:IntKind.i64.wrap 1=1:=rfl;have d:IntKind.i64.wrap 2=2:=rfl;have g:((a.map bF).length:Int)=(a.length:Int):=by rw[gG]
 have i:((b.map bF).length:Int)=(b.length:Int):=by rw[gG]
 have j:=bI ((a.length:Int));have k:=bI ((a.length:Int)+(b.length:Int));have l:TT.lim 6 [.l [.l (a.map bF),.l (b.map bF)],.zq ((a.length:Int)+(b.length:Int)),.zq 2,.zq 2]=some [.zq 0,.zq ((a.length:Int)+(b.length:Int))]:=by refine aB ?_;simp
 have e:¬((a.length:Int)+(b.length:Int)<0):=ah;have m:¬((a.length:Int)<0):=ah;have n:TT.lim 6 [.l [.l (a.map bF),.l (b.map bF)],.zq (a.length:Int),.zq 2,.zq 1]=some [.zq 0,.zq ((a.length:Int)+(b.length:Int))]:=by generalize a.map bF=A,b.map bF=B,(a.length:Int)=x,(b.length:Int)=y at *;refine aB ?_;simp -implicitDefEqProofs[d,i,k,e,l]
 have o:TT.lim 6 [.l [.l (a.map bF),.l (b.map bF)],.zq 0,.zq 2,.zq 0]=some [.zq 0,.zq ((a.length:Int)+(b.length:Int))]:=by generalize a.map bF=A,b.map bF=B,(a.length:Int)=x,(b.length:Int)=y at *;refine aB ?_;simp -implicitDefEqProofs[w1,g,j,m,n]
 have f:∀u v:List Fa,u.length+v.length<=4398046511000->Gl 6 32 (some (.l (u.map bF))) (some (.l (v.map bF)))=some (.l ((u++v).map bF)):=by
  intro u v h;rw[nY,au]
  ·rw[nP]
  ·refine⟨?_,?_,?_⟩
   ·rw[List.all_map];exact List.all_eq_true.2 λx _=>rfl
   ·simp only[gG];omega
   ·simp only[gG];omega
 have c:∀X:List Fa,TT.lim 7 [.l (X.map bF),.l [.l (a.map bF),.l (b.map bF)],.zq 2,.zq 2]=some [.zq 0,.l (X.map bF)]:=by intro X;refine aB ?_;simp
 have p:TT.lim 7 [.l (a.map bF),.l [.l (a.map bF),.l (b.map bF)],.zq 2,.zq 1]=some [.zq 0,.l ((a++b).map bF)]:=by have h:=f a b ah;have c:=c (a++b);generalize(a++b).map bF=C,a.map bF=A,b.map bF=B at *;refine aB ?_;simp -implicitDefEqProofs[d,h,c]
 have q:TT.lim 7 [.l [],.l [.l (a.map bF),.l (b.map bF)],.zq 2,.zq 0]=some [.zq 0,.l ((a++b).map bF)]:=by have h:=f [] a (by simp;omega);rw[aW,jU]at h;generalize(a++b).map bF=C,a.map bF=A,b.map bF=B at *;refine aB ?_;simp -implicitDefEqProofs[w1,h,p]
 have r:TT.lim 1 [.zq ((a.length:Int)+(b.length:Int))]=some [.l []]:=by refine BN rfl ?_;unfold JB;dsimp only;rw[au ⟨ah,ah,ah⟩]
 have w:=bI ((a.length:Int)+(b.length:Int));generalize(a++b).map bF=C,a.map bF=A,b.map bF=B,(a.length:Int)=x,(b.length:Int)=y at *;refine aV ?_;simp -implicitDefEqProofs[o,e,r,q]
structure Ap where
 jo:Int
 en:Int
 x:Sn
 ep:Int
 tk:Int
structure uN(a:Ap):Prop where
 jo:0<=a.jo/\a.jo<256
 v:0<=a.x.1/\a.x.1<18446744073709551616
 rows:Rows a.x.2
 ep:0<=a.ep/\a.ep<18446744073709551616
 tk:0<=a.tk/\a.tk<256
def iC(a:Ap):GV:=.g [.i .u8 a.jo,.zq a.en,.zu a.x.1,.l (a.x.2.map row),.zu a.ep,.i .u8 a.tk]
@[simp] theorem aF5(a:Ap):(iC a).cells=[.i .u8 a.jo,.zq a.en,.zu a.x.1,.l (a.x.2.map row),.zu a.ep,.i .u8 a.tk]:=rfl
@[simp] theorem aF6(a:Ap):(iC a).scalar=false:=rfl
def Ag(r:Row):Bool:=decide ((100:Int)<(dN r.1).length)
def aiw(l:List Row)(f:∀r∈l,iY r.1=true)(n:l.length<=100000):∀(m i:Nat),i+m=l.length->
 ∃k,TT.lim 23 [.l (l.map row),.zq (l.length:Int),.zq (i:Int)]=some (if(l.drop i).any Ag=true then[.zq 0,.zq ((k:Nat):Int)]else[.zq 1])
 |0,i,hi=>by have c:¬((i:Int)<l.length):=ah;rw[iE];refine⟨0,?_⟩;rw[aj aA];refine aB ?_;simp -implicitDefEqProofs[c]
 |m+1,i,hi=>by
  have b:i<l.length:=ah;have c:(i:Int)<l.length:=ah;have o:IntKind.i64.wrap ((i:Int)+1)=((i+1:Nat):Int):=by rw[wrap64 ah ah];omega
  have p:l.drop i=l[i]::l.drop (i+1):=iG b;have d:at2 2 (some (.l (l.map row))) (some (.zq (i:Int)))=some (row l[i]):=by rw[dA,lM,tY,iO,bV b];rfl
  have q:=f _ (gY b);obtain⟨k,g⟩:=aiw l f n m (i+1) ah;rw[p];generalize l[i]=r at *;have e:=Dj r.1 q;have a:TT.lim 24 [row r]=some [.b (Ag r)]:=by unfold Ag;generalize dN r.1=K at *;refine aV ?_;simp -implicitDefEqProofs[e]
  have h:GV.g [.l (r.1.map ent),.zu r.2]=row r:=rfl;rw[<-o]at g;rw[aeA];cases j:Ag r with
  |true=>rw[j]at a;refine⟨i,?_⟩;rw[au aA];generalize l.map row=s,(l.length:Int)=t at *;refine aB ?_;simp -implicitDefEqProofs[-dA,c,d,h,a]
  |false=>rw[j]at a;refine⟨k,?_⟩;rw[AA];generalize(if(l.drop (i+1)).any Ag=true then[GV.zq 0,.zq ((k:Nat):Int)]else[.zq 1])=Q,l.map row=s,(l.length:Int)=t at *;refine aB ?_;simp -implicitDefEqProofs[-dA,c,d,h,a,g]
def apo(l:List Row)(d:∀r∈l,iY r.1=true)(e:l.length<=100000):TT.lim 21 [.l (l.map row)]=some [.b (l.any Ag)]:=by
 obtain⟨k,h⟩:=aiw l d e l.length 0 ah;rw[dY]at h;have a:((l.map row).length:Int)=(l.length:Int):=by rw[gG]
 have hi:TT.lim 22 [.l (l.map row)]=some [.zq (if l.any Ag=true then((k:Nat):Int)else -1)]:=by
  cases b:l.any Ag with
  |true=>rw[b,au rfl]at h;rw[au rfl];simp only[rY]at h;generalize l.map row=c at *;refine aV ?_;simp -implicitDefEqProofs[a,h]
  |false=>rw[b,aj aA]at h;rw[aj aA];simp only[rY]at h;generalize l.map row=c at *;refine aV ?_;simp -implicitDefEqProofs[a,h]
 cases b:l.any Ag with
 |true=>rw[b,au rfl]at hi;have f:(0:Int)<=(k:Int):=ah;generalize l.map row=c,(k:Int)=g at *;refine aV ?_;simp -implicitDefEqProofs[hi,f]
 |false=>rw[b,aj aA]at hi;generalize l.map row=c at *;refine aV ?_;simp -implicitDefEqProofs[hi]
def Ac(a:Ap):Bool:=decide ((a.x.2.length:Int)<=10)&&(G6 a.x.2&&(decide (a.tk<=40)&&!a.x.2.any Ag))
def aho(r s:GV)(l:List Ap)(y:l.length<=4000000000000)(t:∀a∈l,uN a):∀(m i:Nat),i+m=l.length->
 TT.lim 9 [r,s,.l (l.map iC),.zq (l.length:Int),.zq (i:Int)]=some (if(l.drop i).all Ac=true then[.zq 1]else[.zq 0])
 |0,i,hi=>by have c:¬((i:Int)<l.length):=ah;rw[iE,au aA];refine aB ?_;simp -implicitDefEqProofs[c]
 |m+1,i,hi=>by
  have h:i<l.length:=ah;have c:(i:Int)<l.length:=ah;have z:IntKind.i64.wrap ((i:Int)+1)=((i+1:Nat):Int):=by rw[wrap64 ah ah];omega
  have A:l.drop i=l[i]::l.drop (i+1):=iG h;have d:at2 6 (some (.l (l.map iC))) (some (.zq (i:Int)))=some (iC l[i]):=by rw[dA,lM,tY,iO,bV h];rfl
  have k:=t _ (gY h);have u:=aho r s l y t m (i+1) ah;rw[<-z]at u;rw[A,qZ];generalize l[i]=a at *;have j:=atN a.x.2 k.rows;have v:((a.x.2.map row).length:Int)=(a.x.2.length:Int):=by rw[gG]
  generalize(l.drop (i+1)).all Ac=B at *;unfold Ac;by_cases w:(a.x.2.length:Int)<=10;rotate_left
  ·rw[aj (by simp[w])];have b:(10:Int)<a.x.2.length:=ah;generalize l.map iC=n,(l.length:Int)=o at *;refine aB ?_;simp -implicitDefEqProofs[-dA,c,d,b]
  have b:¬(10:Int)<a.x.2.length:=ah;cases p:G6 a.x.2 with
  |false=>rw[aj (by simp[p])];rw[p]at j;generalize l.map iC=n,(l.length:Int)=o at *;refine aB ?_;simp -implicitDefEqProofs[-dA,c,d,b,j]
  |true=>
   rw[p]at j;have f:=apo a.x.2 (ahV k.rows p).few ah;by_cases x:a.tk<=40;rotate_left
   ·rw[aj (by simp[x])];have g:(40:Int)<a.tk:=ah;generalize l.map iC=n,(l.length:Int)=o at *;refine aB ?_;simp -implicitDefEqProofs[-dA,c,d,b,j,g]
   have g:¬(40:Int)<a.tk:=ah;cases q:a.x.2.any Ag with
   |true=>rw[aj (by simp[q])];rw[q]at f;generalize l.map iC=n,(l.length:Int)=o at *;refine aB ?_;simp -implicitDefEqProofs[-dA,c,d,b,j,g,f]
   |false=>
    rw[q]at f;have e:(decide ((a.x.2.length:Int)<=10)&&(true&&(decide (a.tk<=40)&&!false)))=true:=by simp[w,x]
    rw[e,FY];generalize(if B=true then[GV.zq 1]else[.zq 0])=Q,l.map iC=n,(l.length:Int)=o at *;refine aB ?_;simp -implicitDefEqProofs[-dA,c,d,b,j,g,f,u]
def NC(f:Fa):Bool:=decide ((f.c:Int)<=3)
def ahn(f g h:GV)(l:List Fa)(n:l.length<=9000000000000000):∀(m i:Nat),i+m=l.length->
 TT.lim 8 [f,g,h,.l (l.map bF),.zq (l.length:Int),.zq (i:Int)]=some (if(l.drop i).all NC=true then[.zq 1]else[.zq 0])
 |0,i,hi=>by have c:¬((i:Int)<l.length):=ah;rw[iE,au aA];refine aB ?_;simp -implicitDefEqProofs[c]
 |m+1,i,hi=>by
  have d:i<l.length:=ah;have c:(i:Int)<l.length:=ah;have o:IntKind.i64.wrap ((i:Int)+1)=((i+1:Nat):Int):=by rw[wrap64 ah ah];omega
  have p:l.drop i=l[i]::l.drop (i+1):=iG d;have e:at2 6 (some (.l (l.map bF))) (some (.zq (i:Int)))=some (bF l[i]):=by rw[dA,lM,tY,iO,bV d];rfl
  have j:=ahn f g h l n m (i+1) ah;rw[<-o]at j;rw[p,qZ];generalize l[i]=a at *;generalize s:(l.drop (i+1)).all NC=B at *;unfold NC;by_cases k:(a.c:Int)<=3
  ·have b:¬(3:Int)<a.c:=ah;rw[GL k,FY];generalize(if B=true then[GV.zq 1]else[.zq 0])=Q,l.map bF=q,(l.length:Int)=r at *;refine aB ?_;simp -implicitDefEqProofs[-dA,c,e,b,j]
  ·have b:(3:Int)<a.c:=ah;rw[Et k,Y1,aj aA];generalize l.map bF=q,(l.length:Int)=r at *;refine aB ?_;simp -implicitDefEqProofs[-dA,c,e,b]
def VQ(a b:List Fa)(l:List Ap):Bool:=(a++b).all NC&&(l.all Ac&&(decide ((a.length:Int)<=30)&&(decide ((b.length:Int)<=30)&&decide ((l.length:Int)<=30))))
def atO(a b:List Fa)(l:List Ap)(r:a.length<=2000000000000)(s:b.length<=2000000000000)(p:l.length<=4000000000000)(q:∀x∈l,uN x):TT.lim 4 [.l (a.map bF),.l (b.map bF),.l (l.map iC)]=some [.b (VQ a b l)]:=by
 have e:=ags a b ah ah;have c:=ahn (.l (a.map bF)) (.l (b.map bF)) (.l (l.map iC)) (a++b) (by rw[dM];omega) (a++b).length 0 ah;have d:=aho (.l (a.map bF)) (.l (b.map bF)) l p q l.length 0 ah;rw[dY]at c d;have h:((a.map bF).length:Int)=(a.length:Int):=by rw[gG]
 have i:((b.map bF).length:Int)=(b.length:Int):=by rw[gG]
 have g:((l.map iC).length:Int)=(l.length:Int):=by rw[gG]
 have f:(((a++b).map bF).length:Int)=((a++b).length:Int):=by rw[gG]
 simp only[rY]at c d;unfold VQ;cases k:(a++b).all NC with
 |false=>rw[k,aj aA]at c;rw[Y1];generalize(a++b).map bF=C,a.map bF=A,b.map bF=B,l.map iC=L,((a++b).length:Int)=m at *;refine aV ?_;simp -implicitDefEqProofs[e,f,c]
 |true=>
  rw[k,au rfl]at c;rw[FY];cases n:l.all Ac with
  |false=>rw[n,aj aA]at d;rw[Y1];generalize(a++b).map bF=C,a.map bF=A,b.map bF=B,l.map iC=L,((a++b).length:Int)=m at *;refine aV ?_;simp -implicitDefEqProofs[e,f,c,g,d]
  |true=>
   rw[n,au rfl]at d;rw[FY];generalize(a++b).map bF=C,a.map bF=A,b.map bF=B,l.map iC=L,((a++b).length:Int)=m at *;by_cases j:(a.length:Int)<=30
   ·by_cases o:(b.length:Int)<=30
    ·refine aV ?_;simp -implicitDefEqProofs[e,f,c,g,d,h,i,j,o]
    ·refine aV ?_;simp -implicitDefEqProofs[e,f,c,g,d,h,i,j,o]
   ·refine aV ?_;simp -implicitDefEqProofs[e,f,c,g,d,h,i,j]
def aFf:qX [102,105,114,115,116] 0 256=0:=by kernel_rfl
def aFg:qX [111,116,104,101,114] 0 256=0:=by kernel_rfl
def newP(a c x y:Int)(th bk:List Fa):Pr:=⟨newS a c [102,105,114,115,116] true,newS x y [111,116,104,101,114] false,⟨th,[],0⟩,⟨bk,[],0⟩,0,[]⟩
def ax6{a c x y:Int}{th bk:List Fa}(h1:1<=a)(d:a<=c)(e:c<=3)(g:1<=x)(h5:x<=y)(h6:y<=3)(i:∀f∈th,FZ f)(j:∀f∈bk,FZ f)(lt:th.length<=30)(l:bk.length<=30):gI (newP a c x y th bk)/\dS (newP a c x y th bk)<=1440:=by
 have b:Heap [] ([]:List It).length:=λk _ h=>by simp at h
 refine⟨⟨ajS h1 d e aA,ajS g h5 h6 aA,⟨i,b,gZ _,λy h=>by cases h⟩,⟨j,b,gZ _,λy h=>by cases h⟩,gZ _⟩,?_⟩;unfold dS oh newP;simp only[wQ,kF,Int.toNat_zero];omega
abbrev VN:WN:=[.bool,.int .u8,.int .u8,.int .i64,.int .i64,.int .u8]
abbrev ZF:WN:=[.int .u8,.int .i64,.int .u64,.list true [.list true [.str,.str],.int .u64],.int .u64,.int .u8]
def atH{cs:Q3}(h:cO.jD VN cs):∃f:Fa,(f.d<256/\f.sQ<256/\f.cu<=9223372036854775807/\f.at_<=9223372036854775807)/\GV.g cs=bF f:=by obtain⟨t,r1,rfl,a,h⟩:=qL h;obtain⟨u,r2,rfl,b,h⟩:=qL h;obtain⟨v,r3,rfl,c,h⟩:=qL h;obtain⟨w,x,rfl,d,h⟩:=qL h;obtain⟨y,z,rfl,e,h⟩:=qL h;obtain⟨A,B,rfl,g,h⟩:=qL h;have:=NV h;subst this;obtain⟨i,rfl⟩:=avi a;obtain⟨j,rfl,k⟩:=Rf b;obtain⟨l,rfl,m⟩:=Rf c;obtain⟨n,rfl,o⟩:=aaZ d;obtain⟨p,rfl,q⟩:=aaZ e;obtain⟨r,rfl,s⟩:=Rf g;refine⟨⟨i,j.toNat,l.toNat,n,p,r.toNat⟩,⟨by simp only;omega,by simp only;omega,o.2,q.2⟩,?_⟩;unfold bF;simp only;rw[IG k.1,IG m.1,IG s.1]
def anN{cs:Q3}(h:cO.jD ZF cs):∃a:Ap,uN a/\GV.g cs=iC a:=by obtain⟨t,r1,rfl,c,h⟩:=qL h;obtain⟨u,r2,rfl,d,h⟩:=qL h;obtain⟨v,r3,rfl,e,h⟩:=qL h;obtain⟨w,x,rfl,f,h⟩:=qL h;obtain⟨y,z,rfl,g,h⟩:=qL h;obtain⟨A,B,rfl,i,h⟩:=qL h;have:=NV h;subst this;obtain⟨j,rfl,k⟩:=Rf c;obtain⟨l,rfl,-⟩:=aaZ d;obtain⟨m,rfl,n⟩:=JH e;obtain⟨o,b,rfl⟩:=aAT f;obtain⟨p,rfl,q⟩:=JH g;obtain⟨r,rfl,s⟩:=Rf i;exact⟨⟨j,l,(m,o),p,r⟩,⟨k,n,b,q,s⟩,rfl⟩
def ahl{g:GV}(h:(cO.list true VN).has g):∃l:List Fa,(∀f∈l,f.d<256/\f.sQ<256/\f.cu<=9223372036854775807/\f.at_<=9223372036854775807)/\g=.l (l.map bF):=by
 obtain⟨b,rfl,-,c⟩:=Wy h;obtain⟨l,d,rfl⟩:=RH (f:=bF) (p:=λf=>f.d<256/\f.sQ<256/\f.cu<=9223372036854775807/\f.at_<=9223372036854775807) (xs:=b) λx a=>by
  obtain⟨e,i⟩:=c x a;cases x<;>simp[GV.scalar]at i
  exact atH e
 exact⟨l,d,rfl⟩
def anQ{g:GV}(h:(cO.list true ZF).has g):∃l:List Ap,(∀f∈l,uN f)/\g=.l (l.map iC):=by
 obtain⟨b,rfl,-,c⟩:=Wy h;obtain⟨l,d,rfl⟩:=RH (f:=iC) (p:=uN) (xs:=b) λx a=>by
  obtain⟨e,i⟩:=c x a;cases x<;>simp[GV.scalar]at i
  exact anN e
 exact⟨l,d,rfl⟩
