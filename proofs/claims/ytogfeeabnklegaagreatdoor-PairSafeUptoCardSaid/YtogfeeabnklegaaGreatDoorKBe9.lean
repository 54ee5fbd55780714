/- What the trees compute: plain laws. -/
import Derived.Test.YtogfeeabnklegaaGreatDoorKBe8
set_option linter.all false
namespace Go.Proofs.YtogfeeabnklegaaGreatDoor
open Go Go.aP
set_option maxRecDepth 100000
namespace B
def RF(y:Pr):Q1:=match kQ y with
 |some a=>.zq 0::.zu a::gU y
 |none=>.zq 1::gU y
def Bg{h:List It}{n:Nat}(c:h.length=n+1):at2 3 (some (.l (h.map dD))) (some (.zq 0))=some (dD (at_ h 0))/\Fj (some (.l (h.map dD))) (some (.zq 0))=some (.zq 0):=by have a:=Dq (h:=h) (k:=0) ah;have b:=BX (h:=h) (k:=0) ah;exact⟨a,b⟩
def Sr{x:Pr}{a:Int}(h:kQ x=some a):Sv x=a:=by unfold Sv;rw[h];rfl
set_option maxHeartbeats 4000000 in
def aiH(last l:Int):∀(f:Nat)(x:Pr),gG x->x.now<=800000000000->dG x<=80000->dG x<f->
 TT.lim 169 ([.zu last,.zu (Sv x),.b (kQ x).isSome,.zu l]++cO x)=some (RF (oI f x))
 |0,x,t,u,w,G=>ah
 |f+1,x,t,u,w,G=>by
  unfold oI;cases s:kQ x with
  |none=>simp only;unfold RF Sv;rw[s];simp only[ae5,xC,cO,gU,dW,dA,kU,bD,aX];refine aB ?_;simp
  |some a=>
   rw[Sr s];simp only[Zr];by_cases c:a<=x.now;rotate_left
   ·rw[aj c];unfold RF;rw[s];simp only[cO,gU,dW,dA,kU,bD,aX];refine aB ?_;simp -implicitDefEqProofs[c]
   rw[au c];obtain⟨H,g2⟩:=Vo t s c;have e:=aoF x t u w;have d:=aiH last l f (lF x) H (by rw[NK];exact u) ah ah;have b:=af0 x;have i:=NK x;generalize RF (oI f (lF x))=R at *;have v:=ajZ (lF x);generalize lF x=E at *;have A:((E.k0.h.map dD).length:Int)=(E.k0.h.length:Int):=by rw[gB]
   have o:((E.k1.h.map dD).length:Int)=(E.k1.h.length:Int):=by rw[gB]
   rcases v with⟨j,k,h⟩|⟨n,j,k,h⟩|⟨n,j,k,h⟩|⟨n,m,j,k,h⟩
   ·unfold Sv at d;rw[h]at d;simp only[ae5,xC,cO,gU,dW,dA,kU,bD,aX]at e d⊢;rw[i,b.a.1,b.a.2.1,b.a.2.2.1,b.a.2.2.2,b.b.1,b.b.2.1,b.b.2.2.1,b.b.2.2.2,j,k]at d;rw[j,k]at e;simp only[jH]at e d;refine aB ?_;simp -implicitDefEqProofs[c,e,d]
   ·rw[Sr h,h]at d;obtain⟨p,q⟩:=Bg j;have g:¬(E.k0.h.length:Int)=0:=ah;simp only[Zr,cO,gU,dW,dA,kU,bD,aX]at e d⊢;rw[i,b.a.1,b.a.2.1,b.a.2.2.1,b.a.2.2.2,b.b.1,b.b.2.1,b.b.2.2.1,b.b.2.2.2,k]at d;rw[k]at e;simp only[jH]at e d;generalize at_ E.k0.h 0=z,E.k0.h.map dD=D,(E.k0.h.length:Int)=F at *;refine aB ?_;simp -implicitDefEqProofs[-jZ,-dJ,c,e,A,g,p,q,d]
   ·rw[Sr h,h]at d;obtain⟨p,q⟩:=Bg k;have g:¬(E.k1.h.length:Int)=0:=ah;simp only[Zr,cO,gU,dW,dA,kU,bD,aX]at e d⊢;rw[i,b.a.1,b.a.2.1,b.a.2.2.1,b.a.2.2.2,b.b.1,b.b.2.1,b.b.2.2.1,b.b.2.2.2,j]at d;rw[j]at e;simp only[jH]at e d;generalize at_ E.k1.h 0=z,E.k1.h.map dD=D,(E.k1.h.length:Int)=F at *;refine aB ?_;simp -implicitDefEqProofs[-jZ,-dJ,c,e,o,g,p,q,d]
   ·rw[Sr h,h]at d;obtain⟨p,q⟩:=Bg j;obtain⟨I,J⟩:=Bg k;have g:¬(E.k0.h.length:Int)=0:=ah;have r:¬(E.k1.h.length:Int)=0:=ah;simp only[Zr,cO,gU,dW,dA,kU,bD,aX]at e d⊢;rw[i,b.a.1,b.a.2.1,b.a.2.2.1,b.a.2.2.2,b.b.1,b.b.2.1,b.b.2.2.1,b.b.2.2.2]at d;generalize at_ E.k0.h 0=z,E.k0.h.map dD=D,(E.k0.h.length:Int)=F,at_ E.k1.h 0=y,E.k1.h.map dD=L,(E.k1.h.length:Int)=M at *;refine aB ?_;simp -implicitDefEqProofs[-jZ,-dJ,c,e,A,o,g,r,p,q,I,J,d]
set_option maxHeartbeats 8000000 in
def ahW:∀(f:Nat)(last:Int)(x:Pr),gG x->x.now<=last->last<=800000000000->dG x<=80000->(last-x.now).toNat<f->
 TT.lim 168 (.zu last::cO x)=some (.zq 0::gU (qj f last x))\/
 TT.lim 168 (.zu last::cO x)=some (.zq 1::.zu last::gU (qj f last x))
 |0,last,x,A,N,R,S,U=>ah
 |f+1,last,x,A,N,R,S,U=>by
  unfold qj;by_cases c:x.now<last;rotate_left
  ·rw[aj c];have e:x.now=last:=ah;refine .inr ?_;simp only[cO,gU,dW,dA,kU,bD,aX];rw[e];refine aB ?_;simp
  rw[au c];have w:=ajZ x;have D:((x.k0.h.map dD).length:Int)=(x.k0.h.length:Int):=by rw[gB]
  have s:((x.k1.h.map dD).length:Int)=(x.k1.h.length:Int):=by rw[gB]
  cases u:kQ x with
  |none=>
   simp only;have q:x.k0.h=[]/\x.k1.h=[]:=by
    rcases w with⟨i,j,g⟩|⟨n,i,j,g⟩|⟨n,i,j,g⟩|⟨n,m,i,j,g⟩
    ·exact⟨i,j⟩
    ·rw[u]at g;cases g
    ·rw[u]at g;cases g
    ·rw[u]at g;cases g
   refine .inl ?_;simp only[cO,gU,dW,dA,kU,bD,aX];rw[q.1,q.2];simp only[jH];refine aB ?_;simp -implicitDefEqProofs[c]
  |some a=>
   simp only;rw[u]at w;by_cases k:last<a
   ·rw[au k];refine .inl ?_;simp only[cO,gU,dW,dA,kU,bD,aX];rcases w with⟨i,j,g⟩|⟨n,i,j,g⟩|⟨n,i,j,g⟩|⟨n,m,i,j,g⟩
    ·cases g
    ·injection g with g
     obtain⟨o,p⟩:=Bg i;have h:¬(x.k0.h.length:Int)=0:=ah;rw[g]at k;rw[j];simp only[jH];clear g u;generalize at_ x.k0.h 0=z,x.k0.h.map dD=I,(x.k0.h.length:Int)=F at *;refine aB ?_;simp -implicitDefEqProofs[-jZ,-dJ,c,k,D,h,o,p]
    ·injection g with g
     obtain⟨o,p⟩:=Bg j;have h:¬(x.k1.h.length:Int)=0:=ah;rw[g]at k;rw[i];simp only[jH];clear g u;generalize at_ x.k1.h 0=z,x.k1.h.map dD=I,(x.k1.h.length:Int)=F at *;refine aB ?_;simp -implicitDefEqProofs[-jZ,-dJ,c,k,s,h,o,p]
    ·injection g with g
     obtain⟨o,p⟩:=Bg i;obtain⟨L,M⟩:=Bg j;have h:¬(x.k0.h.length:Int)=0:=ah;have r:¬(x.k1.h.length:Int)=0:=ah;rw[g]at k;clear g u;generalize at_ x.k0.h 0=z,x.k0.h.map dD=I,(x.k0.h.length:Int)=F,at_ x.k1.h 0=y,x.k1.h.map dD=V,(x.k1.h.length:Int)=W at *;refine aB ?_;simp -implicitDefEqProofs[-jZ,-dJ,c,k,D,s,h,r,o,p,L,M]
   rw[aj k];have F:=A.now;obtain⟨X,g2,g3,-⟩:=afy (a:=a) A;have O:(sG a x).now<=last/\x.now<(sG a x).now:=by rw[g3];split<;>omega
   have t:=ahW f last (sG a x) X O.1 R ah ah;have P:gG {x with now:=if x.now+1<a then a else x.now+1}:=⟨A.s0,A.s1,A.k0,A.k1,by simp only;split<;>omega⟩
   have d:=aiH last a (dG x+1) {x with now:=if x.now+1<a then a else x.now+1} P (by simp only;split<;>omega) S (Ew _);have v:kQ {x with now:=if x.now+1<a then a else x.now+1}=some a:=u;rw[Sr v,v]at d;rw[show oI (dG x+1) {x with now:=if x.now+1<a then a else x.now+1}=sG a x from rfl]at d;have l:=afz a x;have H:=jV (x.now+1);generalize qj f last (sG a x)=G at *;generalize sG a x=E at *;have d:TT.lim 169 ([.zu last,.zu a,.b true,.zu a]++cO {x with now:=if x.now+1<a then a else x.now+1})=some (.zq 1::gU E)\/∃b,TT.lim 169 ([.zu last,.zu a,.b true,.zu a]++cO {x with now:=if x.now+1<a then a else x.now+1})=some (.zq 0::.zu b::gU E):=by
    unfold RF at d;cases T:kQ E with
    |none=>rw[T]at d;exact .inl d
    |some b=>rw[T]at d;exact .inr ⟨b,d⟩
   have J:∀Q:Q1,TT.lim 168 (.zu last::cO E)=some Q->TT.lim 168 (.zu last::cO x)=some Q:=by
    intro Q t;simp only[cO,gU,dW,dA,kU,bD,aX]at d t⊢;rw[g3,l.a.1,l.a.2.1,l.a.2.2.1,l.a.2.2.2,l.b.1,l.b.2.1,l.b.2.2.1,l.b.2.2.2]at t;rcases w with⟨i,j,g⟩|⟨n,i,j,g⟩|⟨n,i,j,g⟩|⟨n,m,i,j,g⟩
    ·cases g
    ·injection g with g
     obtain⟨o,p⟩:=Bg i;have h:¬(x.k0.h.length:Int)=0:=ah;rw[g]at k t d;rw[j]at d⊢;simp only[jH]at d⊢;clear g u v g3;generalize at_ x.k0.h 0=z,x.k0.h.map dD=I,(x.k0.h.length:Int)=F at *;rcases d with d|⟨b,d⟩
     ·refine aB ?_;simp -implicitDefEqProofs[-jZ,-dJ,c,k,D,h,o,p,H,d,t]
     ·refine aB ?_;simp -implicitDefEqProofs[-jZ,-dJ,c,k,D,h,o,p,H,d,t]
    ·injection g with g
     obtain⟨o,p⟩:=Bg j;have h:¬(x.k1.h.length:Int)=0:=ah;rw[g]at k t d;rw[i]at d⊢;simp only[jH]at d⊢;clear g u v g3;generalize at_ x.k1.h 0=z,x.k1.h.map dD=I,(x.k1.h.length:Int)=F at *;rcases d with d|⟨b,d⟩
     ·refine aB ?_;simp -implicitDefEqProofs[-jZ,-dJ,c,k,s,h,o,p,H,d,t]
     ·refine aB ?_;simp -implicitDefEqProofs[-jZ,-dJ,c,k,s,h,o,p,H,d,t]
    ·injection g with g
     obtain⟨o,p⟩:=Bg i;obtain⟨L,M⟩:=Bg j;have h:¬(x.k0.h.length:Int)=0:=ah;have r:¬(x.k1.h.length:Int)=0:=ah;rw[g]at k t d;clear g u v g3;generalize at_ x.k0.h 0=z,x.k0.h.map dD=I,(x.k0.h.length:Int)=F,at_ x.k1.h 0=y,x.k1.h.map dD=V,(x.k1.h.length:Int)=W at *;rcases d with d|⟨b,d⟩
     ·refine aB ?_;simp -implicitDefEqProofs[-jZ,-dJ,c,k,D,s,h,r,o,p,L,M,H,d,t]
     ·refine aB ?_;simp -implicitDefEqProofs[-jZ,-dJ,c,k,D,s,h,r,o,p,L,M,H,d,t]
   exact t.imp (J _) (J _)
def amk(n:Int)(x:Pr)(h0:0<=n)(e:n<=100000)(a:gG x)(f:x.now<=700000000000)(d:dG x<=80000):
 TT.lim 167 (.zu n::cO x)=some (.zq 0::.zu (x.now+n)::gU (zi n x)):=by
 have w0:=a.now;have b:=jV (x.now+n);have h:=ahW (n.toNat+1) (x.now+n) x a ah ah d ah;have c:¬(100000:Int)<n:=ah;unfold zi;generalize qj (n.toNat+1) (x.now+n) x=E at *;simp only[cO,gU,dW,dA,kU,bD,aX]at h⊢;rcases h with h|h
 ·refine aB ?_;simp -implicitDefEqProofs[c,b,h]
 ·refine aB ?_;simp -implicitDefEqProofs[c,b,h]
def step_ok{n:Int}{x:Pr}(h0:0<=n)(a:gG x):gG (zi n x)/\dG (zi n x)<=dG x/\(zi n x).now=x.now+n:=by obtain⟨b,g2,g3⟩:=go_ok (n.toNat+1) (last:=x.now+n) a ah;exact⟨b,g2,g3 ah⟩
def agi(h:List Fa)(b:h.length<=100000):TT.lim 30 [.l (h.map bf)]=some [.l (h.map bf)]:=by
 refine D7 rfl ?_;unfold EP;have a:(h.map bf).length*32<=140737488355328/\(h.map bf).all (GV.gQ 6)=true:=⟨by rw[gB];omega,by rw[List.all_map];exact List.all_eq_true.2 λx _=>rfl⟩
 simp only[a,and_self,if_true]
def JY(s:bC):Q1:=[.zq 0]++([.zu s.mn,.zu s.mx,.s s.name,.b s.first,.zq s.st,.zq s.ver,.zq s.vs,.b s.sm,.zu s.h.1,.l (s.h.2.map row),.l (s.k.map sn),.zu s.b])
def kR(e:Int)(v:Sn)(x:Pr):Pr:=if e=0 then {x with s0:=FU v x.s0}else if e=1 then {x with s1:=FU v x.s1}else x
def AY(e:Int)(v:Sn)(x:Pr):Int:=if e=0 then(jU v x.s0.k x.s0.b).1 else if e=1 then(jU v x.s1.k x.s1.b).1 else 24
def ay6(e:Int)(v:Sn)(x:Pr)(b:eF v.2)(d:gG x):TT.lim 60 ([.zq e,.zu v.1,.l (v.2.map row)]++cO x)=some [.zq 0,.zq (AY e v x),.l ((kR e v x).s1.k.map sn),.zu (kR e v x).s1.b,.l ((kR e v x).s0.k.map sn),.zu (kR e v x).s0.b]:=by
 have f:=ak7 v x.s0 b d.s0;have g:=ak7 v x.s1 b d.s1;unfold kR AY FU;generalize jU v x.s0.k x.s0.b=h,jU v x.s1.k x.s1.b=i at *;simp only[cO,dW,dA,bD,aX]at f g⊢;by_cases c:e=0
 ·rw[au c,au c];subst c;refine aB ?_;simp -implicitDefEqProofs[f]
 rw[aj c,aj c];by_cases a:e=1
 ·rw[au a,au a];subst a;refine aB ?_;simp -implicitDefEqProofs[g]
 rw[aj a,aj a];refine aB ?_;simp -implicitDefEqProofs[c,a]
def ak6{e:Int}{v:Sn}{x:Pr}(a:gG x)(b:eF v.2)(h0:0<=v.1/\v.1<18446744073709551616):gG (kR e v x)/\dG (kR e v x)=dG x/\(kR e v x).now=x.now:=by
 unfold kR;split
 ·exact⟨⟨ak2 a.s0 b h0,a.s1,a.k0,a.k1,a.now⟩,rfl,rfl⟩
 split
 ·exact⟨⟨a.s0,ak2 a.s1 b h0,a.k0,a.k1,a.now⟩,rfl,rfl⟩
 ·exact⟨a,rfl,rfl⟩
def iw(e:Int)(x:Pr):Pr:=if e=0 then {x with s0:=lq x.s0,k0:=iP x.now (gy x.s0).1 x.k0}else if e=1 then {x with s1:=lq x.s1,k1:=iP x.now (gy x.s1).1 x.k1}else x
def akT(e:Int)(x:Pr):Int:=if e=0 then(gy x.s0).1.length else if e=1 then(gy x.s1).1.length else 0
def IJ(s:bC):∀t∈(gy s).1,t.length<=65536:=by
 intro t a;have c:∀{b:aQ}{v:Int},t∈jr b v->t.length<=65536:=by
  intro b v h;unfold jr at h;split at h
  ·rw[jW.1 h];exact QV _ _ _
  ·cases h
 unfold gy at a;repeat' split at a
 all_goals first|exact c a|cases a
def XM{s:bC}(a:kD s):kD (lq s):=⟨a.mn,a.mx,a.le,a.name,a.ver,a.rc,a.kp⟩
def XO(s:bC):wW (gy s).1<=6:=by
 have a:=SQ s;generalize(gy s).1=b at *;match b,a with
 |[],_=>simp[wW]
 |[u],_=>have:=Ue (eX u);simp only[wW];omega
def acA(e:Int)(x:Pr)(a:gG x)(h:x.now<=800000000000)(i:dG x<=80000):TT.lim 81 (.zq e::cO x)=some ([.zq 0,.zq (akT e x)]++(dW (iw e x).k1++(dW (iw e x).k0++[.zq (iw e x).s1.st,.zq (iw e x).s0.st]))):=by
 unfold dG at i;unfold iw akT;by_cases c:e=0
 ·rw[au c,au c];subst c;have g:=akV x.s0 a.s0;have j:=XO x.s0;have k:=SQ x.s0;have d:=Yd {x with s0:=lq x.s0} ⟨XM a.s0,a.s1,a.k0,a.k1,a.now⟩ (gy x.s0).1 ah (IJ x.s0) h (by simp only;omega);unfold lq at d⊢;generalize gy x.s0=P at *;simp only[cO,dW,dA,bD,aX]at g d⊢;have b:((P.1.map GV.s).length:Int)=(P.1.length:Int):=by rw[gB]
  generalize iP x.now P.1 x.k0=K,P.1.map GV.s=l at *;refine aB ?_;simp -implicitDefEqProofs[g,d,b]
 rw[aj c,aj c];by_cases f:e=1
 ·rw[au f,au f];subst f;have g:=akV x.s1 a.s1;have j:=XO x.s1;have k:=SQ x.s1;have d:=Ye {x with s1:=lq x.s1} ⟨a.s0,XM a.s1,a.k0,a.k1,a.now⟩ (gy x.s1).1 ah (IJ x.s1) h (by simp only;omega);unfold lq at d⊢;generalize gy x.s1=P at *;simp only[cO,dW,dA,bD,aX]at g d⊢;have b:((P.1.map GV.s).length:Int)=(P.1.length:Int):=by rw[gB]
  generalize iP x.now P.1 x.k1=K,P.1.map GV.s=l at *;refine aB ?_;simp -implicitDefEqProofs[g,d,b]
 rw[aj f,aj f];simp only[cO,dW,dA,bD,aX];refine aB ?_;simp -implicitDefEqProofs[c,f]
def D6{e:Int}{x:Pr}(a:gG x):gG (iw e x)/\dG (iw e x)<=dG x+6/\(iw e x).now=x.now:=by
 unfold iw;split
 ·obtain⟨b,g2,-⟩:=TA (now:=x.now) (gy x.s0).1 a.k0 (IJ x.s0);have:=XO x.s0;refine⟨⟨XM a.s0,a.s1,b,a.k1,a.now⟩,?_,rfl⟩;unfold dG;simp only;omega
 split
 ·obtain⟨b,g2,-⟩:=TA (now:=x.now) (gy x.s1).1 a.k1 (IJ x.s1);have:=XO x.s1;refine⟨⟨a.s0,XM a.s1,a.k0,b,a.now⟩,?_,rfl⟩;unfold dG;simp only;omega
 ·exact⟨a,ah,rfl⟩
def agx(a b:List Fa)(s:a.length<=2000000000000)(t:b.length<=2000000000000):TT.lim 4 [.l [.l (a.map bf),.l (b.map bf)]]=some [.l ((a++b).map bf)]:=by
 have w1:IntKind.i64.wrap 1=1:=rfl;have d:IntKind.i64.wrap 2=2:=rfl;have g:((a.map bf).length:Int)=(a.length:Int):=by rw[gB]
 have i:((b.map bf).length:Int)=(b.length:Int):=by rw[gB]
 have j:=bH ((a.length:Int));have k:=bH ((a.length:Int)+(b.length:Int));have l:TT.lim 5 [.l [.l (a.map bf),.l (b.map bf)],.zq ((a.length:Int)+(b.length:Int)),.zq 2,.zq 2]=some [.zq 0,.zq ((a.length:Int)+(b.length:Int))]:=by refine aB ?_;simp
 have e:¬((a.length:Int)+(b.length:Int)<0):=ah;have m:¬((a.length:Int)<0):=ah;have n:TT.lim 5 [.l [.l (a.map bf),.l (b.map bf)],.zq (a.length:Int),.zq 2,.zq 1]=some [.zq 0,.zq ((a.length:Int)+(b.length:Int))]:=by generalize a.map bf=A,b.map bf=B,(a.length:Int)=x,(b.length:Int)=y at *;refine aB ?_;simp -implicitDefEqProofs[d,i,k,e,l]
 have o:TT.lim 5 [.l [.l (a.map bf),.l (b.map bf)],.zq 0,.zq 2,.zq 0]=some [.zq 0,.zq ((a.length:Int)+(b.length:Int))]:=by generalize a.map bf=A,b.map bf=B,(a.length:Int)=x,(b.length:Int)=y at *;refine aB ?_;simp -implicitDefEqProofs[w1,g,j,m,n]
 have f:∀u v:List Fa,u.length+v.length<=4398046511000->Jv 6 32 (some (.l (u.map bf))) (some (.l (v.map bf)))=some (.l ((u++v).map bf)):=by
  intro u v h;rw[GZ,au]
  ·rw[oK]
  ·refine⟨?_,?_,?_⟩
   ·rw[List.all_map];exact List.all_eq_true.2 λx _=>rfl
   ·simp only[gB];omega
   ·simp only[gB];omega
 have c:∀X:List Fa,TT.lim 6 [.l (X.map bf),.l [.l (a.map bf),.l (b.map bf)],.zq 2,.zq 2]=some [.zq 0,.l (X.map bf)]:=by intro X;refine aB ?_;simp
 have p:TT.lim 6 [.l (a.map bf),.l [.l (a.map bf),.l (b.map bf)],.zq 2,.zq 1]=some [.zq 0,.l ((a++b).map bf)]:=by have h:=f a b ah;have c:=c (a++b);generalize(a++b).map bf=C,a.map bf=A,b.map bf=B at *;refine aB ?_;simp -implicitDefEqProofs[d,h,c]
 have q:TT.lim 6 [.l [],.l [.l (a.map bf),.l (b.map bf)],.zq 2,.zq 0]=some [.zq 0,.l ((a++b).map bf)]:=by have h:=f [] a (by simp;omega);rw[aX,jH]at h;generalize(a++b).map bf=C,a.map bf=A,b.map bf=B at *;refine aB ?_;simp -implicitDefEqProofs[w1,h,p]
 have r:TT.lim 0 [.zq ((a.length:Int)+(b.length:Int))]=some [.l []]:=by refine D7 rfl ?_;unfold J5;dsimp only;rw[au ⟨ah,ah,ah⟩]
 have w:=bH ((a.length:Int)+(b.length:Int));generalize(a++b).map bf=C,a.map bf=A,b.map bf=B,(a.length:Int)=x,(b.length:Int)=y at *;refine aW ?_;simp -implicitDefEqProofs[o,e,r,q]
structure Ap where
 kY:Int
 en:Int
 x:Sn
 ep:Int
 tk:Int
structure Aj(a:Ap):Prop where
 kY:0<=a.kY/\a.kY<256
 v:0<=a.x.1/\a.x.1<18446744073709551616
 rows:Rows a.x.2
 ep:0<=a.ep/\a.ep<18446744073709551616
 tk:0<=a.tk/\a.tk<256
def kM(a:Ap):GV:=.g [.i .u8 a.kY,.zq a.en,.zu a.x.1,.l (a.x.2.map row),.zu a.ep,.i .u8 a.tk]
@[simp] theorem aGd(a:Ap):(kM a).cells=[.i .u8 a.kY,.zq a.en,.zu a.x.1,.l (a.x.2.map row),.zu a.ep,.i .u8 a.tk]:=rfl
@[simp] theorem aGe(a:Ap):(kM a).scalar=false:=rfl
def AP(r:Row):Bool:=decide ((100:Int)<(dN r.1).length)
def aiE(l:List Row)(f:∀r∈l,jf r.1=true)(n:l.length<=100000):∀(m i:Nat),i+m=l.length->
 ∃k,TT.lim 22 [.l (l.map row),.zq (l.length:Int),.zq (i:Int)]=some (if(l.drop i).any AP=true then[.zq 0,.zq ((k:Nat):Int)]else[.zq 1])
 |0,i,hi=>by have c:¬((i:Int)<l.length):=ah;rw[iK];refine⟨0,?_⟩;rw[aj aA];refine aB ?_;simp -implicitDefEqProofs[c]
 |m+1,i,hi=>by
  have b:i<l.length:=ah;have c:(i:Int)<l.length:=ah;have o:IntKind.i64.wrap ((i:Int)+1)=((i+1:Nat):Int):=by rw[wrap64 ah ah];omega
  have p:l.drop i=l[i]::l.drop (i+1):=iR b;have d:at2 2 (some (.l (l.map row))) (some (.zq (i:Int)))=some (row l[i]):=by rw[dJ,lV,zB,jy,bZ b];rfl
  have q:=f _ (iT b);obtain⟨k,g⟩:=aiE l f n m (i+1) ah;rw[p];generalize l[i]=r at *;have e:=DN r.1 q;have a:TT.lim 23 [row r]=some [.b (AP r)]:=by unfold AP;generalize dN r.1=K at *;refine aW ?_;simp -implicitDefEqProofs[e]
  have h:GV.g [.l (r.1.map ent),.zu r.2]=row r:=rfl;rw[<-o]at g;rw[aeH];cases j:AP r with
  |true=>rw[j]at a;refine⟨i,?_⟩;rw[au aA];generalize l.map row=s,(l.length:Int)=t at *;refine aB ?_;simp -implicitDefEqProofs[-dJ,c,d,h,a]
  |false=>rw[j]at a;refine⟨k,?_⟩;rw[Bl];generalize(if(l.drop (i+1)).any AP=true then[GV.zq 0,.zq ((k:Nat):Int)]else[.zq 1])=Q,l.map row=s,(l.length:Int)=t at *;refine aB ?_;simp -implicitDefEqProofs[-dJ,c,d,h,a,g]
def apw(l:List Row)(d:∀r∈l,jf r.1=true)(e:l.length<=100000):TT.lim 20 [.l (l.map row)]=some [.b (l.any AP)]:=by
 obtain⟨k,h⟩:=aiE l d e l.length 0 ah;rw[dY]at h;have a:((l.map row).length:Int)=(l.length:Int):=by rw[gB]
 have hi:TT.lim 21 [.l (l.map row)]=some [.zq (if l.any AP=true then((k:Nat):Int)else -1)]:=by
  cases b:l.any AP with
  |true=>rw[b,au rfl]at h;rw[au rfl];simp only[tJ]at h;generalize l.map row=c at *;refine aW ?_;simp -implicitDefEqProofs[a,h]
  |false=>rw[b,aj aA]at h;rw[aj aA];simp only[tJ]at h;generalize l.map row=c at *;refine aW ?_;simp -implicitDefEqProofs[a,h]
 cases b:l.any AP with
 |true=>rw[b,au rfl]at hi;have f:(0:Int)<=(k:Int):=ah;generalize l.map row=c,(k:Int)=g at *;refine aW ?_;simp -implicitDefEqProofs[hi,f]
 |false=>rw[b,aj aA]at hi;generalize l.map row=c at *;refine aW ?_;simp -implicitDefEqProofs[hi]
def Ia(a:Ap):Bool:=decide ((a.x.2.length:Int)<=10)&&(H9 a.x.2&&(decide (a.tk<=40)&&!a.x.2.any AP))
def aht(r s:GV)(l:List Ap)(y:l.length<=4000000000000)(t:∀a∈l,Aj a):∀(m i:Nat),i+m=l.length->
 TT.lim 8 [r,s,.l (l.map kM),.zq (l.length:Int),.zq (i:Int)]=some (if(l.drop i).all Ia=true then[.zq 1]else[.zq 0])
 |0,i,hi=>by have c:¬((i:Int)<l.length):=ah;rw[iK,au aA];refine aB ?_;simp -implicitDefEqProofs[c]
 |m+1,i,hi=>by
  have h:i<l.length:=ah;have c:(i:Int)<l.length:=ah;have z:IntKind.i64.wrap ((i:Int)+1)=((i+1:Nat):Int):=by rw[wrap64 ah ah];omega
  have A:l.drop i=l[i]::l.drop (i+1):=iR h;have d:at2 6 (some (.l (l.map kM))) (some (.zq (i:Int)))=some (kM l[i]):=by rw[dJ,lV,zB,jy,bZ h];rfl
  have k:=t _ (iT h);have u:=aht r s l y t m (i+1) ah;rw[<-z]at u;rw[A,uG];generalize l[i]=a at *;have j:=atZ a.x.2 k.rows;have v:((a.x.2.map row).length:Int)=(a.x.2.length:Int):=by rw[gB]
  generalize(l.drop (i+1)).all Ia=B at *;unfold Ia;by_cases w:(a.x.2.length:Int)<=10;rotate_left
  ·rw[aj (by simp[w])];have b:(10:Int)<a.x.2.length:=ah;generalize l.map kM=n,(l.length:Int)=o at *;refine aB ?_;simp -implicitDefEqProofs[-dJ,c,d,b]
  have b:¬(10:Int)<a.x.2.length:=ah;cases p:H9 a.x.2 with
  |false=>rw[aj (by simp[p])];rw[p]at j;generalize l.map kM=n,(l.length:Int)=o at *;refine aB ?_;simp -implicitDefEqProofs[-dJ,c,d,b,j]
  |true=>
   rw[p]at j;have f:=apw a.x.2 (ahY k.rows p).few ah;by_cases x:a.tk<=40;rotate_left
   ·rw[aj (by simp[x])];have g:(40:Int)<a.tk:=ah;generalize l.map kM=n,(l.length:Int)=o at *;refine aB ?_;simp -implicitDefEqProofs[-dJ,c,d,b,j,g]
   have g:¬(40:Int)<a.tk:=ah;cases q:a.x.2.any AP with
   |true=>rw[aj (by simp[q])];rw[q]at f;generalize l.map kM=n,(l.length:Int)=o at *;refine aB ?_;simp -implicitDefEqProofs[-dJ,c,d,b,j,g,f]
   |false=>
    rw[q]at f;have e:(decide ((a.x.2.length:Int)<=10)&&(true&&(decide (a.tk<=40)&&!false)))=true:=by simp[w,x]
    rw[e,Gw];generalize(if B=true then[GV.zq 1]else[.zq 0])=Q,l.map kM=n,(l.length:Int)=o at *;refine aB ?_;simp -implicitDefEqProofs[-dJ,c,d,b,j,g,f,u]
def NZ(f:Fa):Bool:=decide ((f.c:Int)<=3)
def ahs(f g h:GV)(l:List Fa)(n:l.length<=9000000000000000):∀(m i:Nat),i+m=l.length->
 TT.lim 7 [f,g,h,.l (l.map bf),.zq (l.length:Int),.zq (i:Int)]=some (if(l.drop i).all NZ=true then[.zq 1]else[.zq 0])
 |0,i,hi=>by have c:¬((i:Int)<l.length):=ah;rw[iK,au aA];refine aB ?_;simp -implicitDefEqProofs[c]
 |m+1,i,hi=>by
  have d:i<l.length:=ah;have c:(i:Int)<l.length:=ah;have o:IntKind.i64.wrap ((i:Int)+1)=((i+1:Nat):Int):=by rw[wrap64 ah ah];omega
  have p:l.drop i=l[i]::l.drop (i+1):=iR d;have e:at2 6 (some (.l (l.map bf))) (some (.zq (i:Int)))=some (bf l[i]):=by rw[dJ,lV,zB,jy,bZ d];rfl
  have j:=ahs f g h l n m (i+1) ah;rw[<-o]at j;rw[p,uG];generalize l[i]=a at *;generalize s:(l.drop (i+1)).all NZ=B at *;unfold NZ;by_cases k:(a.c:Int)<=3
  ·have b:¬(3:Int)<a.c:=ah;rw[JU k,Gw];generalize(if B=true then[GV.zq 1]else[.zq 0])=Q,l.map bf=q,(l.length:Int)=r at *;refine aB ?_;simp -implicitDefEqProofs[-dJ,c,e,b,j]
  ·have b:(3:Int)<a.c:=ah;rw[ER k,Zc,aj aA];generalize l.map bf=q,(l.length:Int)=r at *;refine aB ?_;simp -implicitDefEqProofs[-dJ,c,e,b]
def V5(a b:List Fa)(l:List Ap):Bool:=(a++b).all NZ&&(l.all Ia&&(decide ((a.length:Int)<=30)&&(decide ((b.length:Int)<=30)&&decide ((l.length:Int)<=30))))
def at1(a b:List Fa)(l:List Ap)(r:a.length<=2000000000000)(s:b.length<=2000000000000)(p:l.length<=4000000000000)(q:∀x∈l,Aj x):TT.lim 3 [.l (a.map bf),.l (b.map bf),.l (l.map kM)]=some [.b (V5 a b l)]:=by
 have e:=agx a b ah ah;have c:=ahs (.l (a.map bf)) (.l (b.map bf)) (.l (l.map kM)) (a++b) (by rw[eH];omega) (a++b).length 0 ah;have d:=aht (.l (a.map bf)) (.l (b.map bf)) l p q l.length 0 ah;rw[dY]at c d;have h:((a.map bf).length:Int)=(a.length:Int):=by rw[gB]
 have i:((b.map bf).length:Int)=(b.length:Int):=by rw[gB]
 have g:((l.map kM).length:Int)=(l.length:Int):=by rw[gB]
 have f:(((a++b).map bf).length:Int)=((a++b).length:Int):=by rw[gB]
 simp only[tJ]at c d;unfold V5;cases k:(a++b).all NZ with
 |false=>rw[k,aj aA]at c;rw[Zc];generalize(a++b).map bf=C,a.map bf=A,b.map bf=B,l.map kM=L,((a++b).length:Int)=m at *;refine aW ?_;simp -implicitDefEqProofs[e,f,c]
 |true=>
  rw[k,au rfl]at c;rw[Gw];cases n:l.all Ia with
  |false=>rw[n,aj aA]at d;rw[Zc];generalize(a++b).map bf=C,a.map bf=A,b.map bf=B,l.map kM=L,((a++b).length:Int)=m at *;refine aW ?_;simp -implicitDefEqProofs[e,f,c,g,d]
  |true=>
   rw[n,au rfl]at d;rw[Gw];generalize(a++b).map bf=C,a.map bf=A,b.map bf=B,l.map kM=L,((a++b).length:Int)=m at *;by_cases j:(a.length:Int)<=30
   ·by_cases o:(b.length:Int)<=30
    ·refine aW ?_;simp -implicitDefEqProofs[e,f,c,g,d,h,i,j,o]
    ·refine aW ?_;simp -implicitDefEqProofs[e,f,c,g,d,h,i,j,o]
   ·refine aW ?_;simp -implicitDefEqProofs[e,f,c,g,d,h,i,j]
def S9(x:Pr):Bool:=decide (x.k0.h=[])&&(decide (x.k0.f.length=0)&&(decide (x.k1.h=[])&&decide (x.k1.f.length=0)))
def aAG(x:Pr):TT.lim 233 (cO x)=some [.zq 0,.b (S9 x)]:=by
 have a:((x.k0.h.map dD).length:Int)=(x.k0.h.length:Int):=by rw[gB]
 have b:((x.k0.f.map bf).length:Int)=(x.k0.f.length:Int):=by rw[gB]
 have c:((x.k1.h.map dD).length:Int)=(x.k1.h.length:Int):=by rw[gB]
 have k:((x.k1.f.map bf).length:Int)=(x.k1.f.length:Int):=by rw[gB]
 have d:(x.k0.h=[])=((x.k0.h.length:Int)=0):=propext (by rw[<-Qa];omega);have e:(x.k0.f.length=0)=((x.k0.f.length:Int)=0):=propext ah;have f:(x.k1.h=[])=((x.k1.h.length:Int)=0):=propext (by rw[<-Qa];omega);have g:(x.k1.f.length=0)=((x.k1.f.length:Int)=0):=propext ah;unfold S9;simp only[d,e,f,g];clear d e f g;simp only[cO,dW,dA,bD,aX];generalize x.k0.h.map dD=l,x.k0.f.map bf=m,x.k1.h.map dD=n,x.k1.f.map bf=o,(x.k0.h.length:Int)=r0,(x.k0.f.length:Int)=r1,(x.k1.h.length:Int)=r2,(x.k1.f.length:Int)=r3 at *;by_cases h:r0=0;rotate_left
 ·refine aB ?_;simp -implicitDefEqProofs[a,h]
 subst h;by_cases i:r1=0;rotate_left
 ·refine aB ?_;simp -implicitDefEqProofs[a,b,i]
 subst i;by_cases j:r2=0;rotate_left
 ·refine aB ?_;simp -implicitDefEqProofs[a,b,c,j]
 subst j;refine aB ?_;simp -implicitDefEqProofs[a,b,c,k]
def aFr:pF [102,105,114,115,116] 0 256=0:=by kernel_rfl
def aFs:pF [111,116,104,101,114] 0 256=0:=by kernel_rfl
def newP(a c x y:Int)(th bk:List Fa):Pr:=⟨newS a c [102,105,114,115,116] true,newS x y [111,116,104,101,114] false,⟨th,[],0⟩,⟨bk,[],0⟩,0,[]⟩
def ayr{a c x y:Int}{th bk:List Fa}(h1:1<=a)(d:a<=c)(e:c<=3)(g:1<=x)(h5:x<=y)(h6:y<=3)(i:∀f∈th,Gx f)(j:∀f∈bk,Gx f)(lt:th.length<=30)(l:bk.length<=30):gG (newP a c x y th bk)/\dG (newP a c x y th bk)<=1440:=by
 have b:Heap [] ([]:List It).length:=λk _ h=>by simp at h
 refine⟨⟨ajX h1 d e aA,ajX g h5 h6 aA,⟨i,b,gq _,λy h=>by cases h⟩,⟨j,b,gq _,λy h=>by cases h⟩,gq _⟩,?_⟩;unfold dG oN newP;simp only[wQ,lK,Int.toNat_zero];omega
abbrev VZ:WK:=[.bool,.int .u8,.int .u8,.int .i64,.int .i64,.int .u8]
abbrev ZN:WK:=[.int .u8,.int .i64,.int .u64,.list true [.list true [.str,.str],.int .u64],.int .u64,.int .u8]
def atU{cs:Q1}(h:dh.jI VZ cs):∃f:Fa,(f.d<256/\f.tY<256/\f.cu<=9223372036854775807/\f.at_<=9223372036854775807)/\GV.g cs=bf f:=by obtain⟨t,r1,rfl,a,h⟩:=rE h;obtain⟨g2,r2,rfl,b,h⟩:=rE h;obtain⟨g3,r3,rfl,c,h⟩:=rE h;obtain⟨u,v,rfl,d,h⟩:=rE h;obtain⟨w,x,rfl,e,h⟩:=rE h;obtain⟨y,z,rfl,g,h⟩:=rE h;have:=Oo h;subst this;obtain⟨i,rfl⟩:=avw a;obtain⟨j,rfl,k⟩:=Rl b;obtain⟨l,rfl,m⟩:=Rl c;obtain⟨n,rfl,o⟩:=aa6 d;obtain⟨p,rfl,q⟩:=aa6 e;obtain⟨r,rfl,s⟩:=Rl g;refine⟨⟨i,j.toNat,l.toNat,n,p,r.toNat⟩,⟨by simp only;omega,by simp only;omega,o.2,q.2⟩,?_⟩;unfold bf;simp only;rw[Jd k.1,Jd m.1,Jd s.1]
def an2{cs:Q1}(h:dh.jI ZN cs):∃a:Ap,Aj a/\GV.g cs=kM a:=by obtain⟨t,r1,rfl,c,h⟩:=rE h;obtain⟨g2,r2,rfl,d,h⟩:=rE h;obtain⟨g3,r3,rfl,e,h⟩:=rE h;obtain⟨u,v,rfl,f,h⟩:=rE h;obtain⟨w,x,rfl,g,h⟩:=rE h;obtain⟨y,z,rfl,i,h⟩:=rE h;have:=Oo h;subst this;obtain⟨j,rfl,k⟩:=Rl c;obtain⟨l,rfl,-⟩:=aa6 d;obtain⟨m,rfl,n⟩:=Ko e;obtain⟨o,b,rfl⟩:=aBe f;obtain⟨p,rfl,q⟩:=Ko g;obtain⟨r,rfl,s⟩:=Rl i;exact⟨⟨j,l,(m,o),p,r⟩,⟨k,n,b,q,s⟩,rfl⟩
def ahq{g:GV}(h:(dh.list true VZ).has g):∃l:List Fa,(∀f∈l,f.d<256/\f.tY<256/\f.cu<=9223372036854775807/\f.at_<=9223372036854775807)/\g=.l (l.map bf):=by
 obtain⟨b,rfl,-,c⟩:=WH h;obtain⟨l,d,rfl⟩:=RS (f:=bf) (p:=λf=>f.d<256/\f.tY<256/\f.cu<=9223372036854775807/\f.at_<=9223372036854775807) (xs:=b) λx a=>by
  obtain⟨e,i⟩:=c x a;cases x<;>simp[GV.scalar]at i
  exact atU e
 exact⟨l,d,rfl⟩
def an6{g:GV}(h:(dh.list true ZN).has g):∃l:List Ap,(∀f∈l,Aj f)/\g=.l (l.map kM):=by
 obtain⟨b,rfl,-,c⟩:=WH h;obtain⟨l,d,rfl⟩:=RS (f:=kM) (p:=Aj) (xs:=b) λx a=>by
  obtain⟨e,i⟩:=c x a;cases x<;>simp[GV.scalar]at i
  exact an2 e
 exact⟨l,d,rfl⟩
