/- What the trees compute: plain laws. -/
import Derived.Test.YtmkkknckcnpljaaGreatDoorKRe9
set_option linter.all false
namespace Go.Proofs.YtmkkknckcnpljaaGreatDoor
open Go Go.aO
set_option maxRecDepth 100000
namespace R
def dG(s:dN):GV:=.g [.i .u64 s.mn,.i .u64 s.mx,.s s.name,.b s.first,.i .i64 s.st,.i .i64 s.ver,.i .i64 s.vs,.l (s.k.map sn),.i .u64 s.b,.i .i64 s.vs,.i .u64 s.h.1,.l (s.h.2.map row),.b s.sm]
@[simp] theorem tY(s:dN):(dG s).cells=[.i .u64 s.mn,.i .u64 s.mx,.s s.name,.b s.first,.i .i64 s.st,.i .i64 s.ver,.i .i64 s.vs,.l (s.k.map sn),.i .u64 s.b,.i .i64 s.vs,.i .u64 s.h.1,.l (s.h.2.map row),.b s.sm]:=rfl
@[simp] theorem aEa(s:dN):(dG s).scalar=false:=rfl
def jB(s:dN):GV.g [.i .u64 s.mn,.i .u64 s.mx,.s s.name,.b s.first,.i .i64 s.st,.i .i64 s.ver,.i .i64 s.vs,.l (s.k.map sn),.i .u64 s.b,.i .i64 s.vs,.i .u64 s.h.1,.l (s.h.2.map row),.b s.sm]=dG s:=rfl
structure tC(s:dN):Prop where
 ok:pF s
 base:0<=s.b/\s.b<18446744073709551616
 st:0<=s.st/\s.st<=3
 one:s.first=false->s.st≠1
def Qg{b:aN}(c:vV b [])(v:Int):TT.lim 170 [.i .i64 v,dU b []]=some [.l ((jE b v).map .s)]:=by
 have a:=ayi c v;have fn:aC []=[]:=by simp only[aC]
 rw[fn]at a;unfold jE;generalize wK b [] v=E at *;obtain⟨t,e⟩:=E;by_cases h:e=0
 ·rw[aj h];subst h;refine aG rfl rfl ?_ rfl;simp[eF,a]
 ·rw[ah h];refine aG rfl rfl ?_ rfl;simp[eF,a,h]
def aiV(x:Sn)(s:dN)(b:dR x.2)(c:pF s):TT.lim 114 [dG s,sn x]=some [dG (kM x s),.i .i64 (mX x s.k s.b).1]:=by have a:=ayH x s.vs s.k s.b b c.kp;have d:GV.g [.i .u64 x.1,.l (x.2.map row)]=sn x:=rfl;unfold kM;generalize mX x s.k s.b=P at *;obtain⟨e,f,g⟩:=P;unfold Af at a;refine aG rfl rfl ?_ rfl;simp[d,a,dG]
def aiU(s:dN)(h:tC s):TT.lim 169 [dG s]=some [dG (Aa s),.l ((lN s).1.map .s)]:=by
 have i:=h.ok;have j:=ayt s.vs s.k s.b i.kp h.base.1;have r:=i.mn;have t:=i.mx;have u:=i.le;have w:=i.name;have p:=h.st;have q:TT.lim 170 [.i .i64 1,.g [.i .i64 1,.i .u64 0,.i .u64 s.mn,.i .u64 s.mx,.i .u64 0,.i .u64 0,.i .u64 0,.i .u64 0,.i .u64 0,.i .u64 0,.i .u64 0,.i .u64 0,.i .u64 0,.i .u64 0,.i .u64 0,.i .u64 0,.i .i64 0,.b false,.s s.name,.s [],.s [],.l [],.l [],.l []]]=some [.l ((jE (FB s.mn s.mx s.name) 1).map .s)]:=Qg (afz (a:=s.mn) (c:=s.mx) (n:=s.name) (by omega) (by omega) (by omega)) 1;have l:=Qg (ajL (v:=s.vs) (b:=s.b) i.kp) s.ver;unfold Aa lN;unfold Af at j;generalize jY s.vs s.k s.b=M at *;have l:TT.lim 170 [.i .i64 s.ver,.g [.i .i64 M.1.1,.i .u64 0,.i .u64 0,.i .u64 0,.i .u64 0,.i .u64 0,.i .u64 0,.i .u64 0,.i .u64 0,.i .u64 0,.i .u64 M.1.2.1,.i .u64 M.1.2.2.1,.i .u64 0,.i .u64 0,.i .u64 0,.i .u64 0,.i .i64 0,.b false,.s [],.s [],.s [],.l [],.l (M.1.2.2.2.map row),.l []]]=some [.l ((jE (JE M.1) s.ver).map .s)]:=l;generalize jE (FB s.mn s.mx s.name) 1=Y at *;generalize jE (JE M.1) s.ver=W at *;by_cases k:s.st=2
 ·rw[aj k];have g:¬s.st<=1:=by omega
  have d:(s.st=2)=True:=eq_true k;by_cases e:M.2=0
  ·rw[aj e];rw[e]at j;cases f:s.first with
   |true=>refine aG rfl rfl ?_ rfl;simp[f,g,d,j,AZ,l,dG]
   |false=>refine aG rfl rfl ?_ rfl;simp[f,g,d,j,AZ,l,dG]
  ·rw[ah e];cases f:s.first with
   |true=>refine aG rfl rfl ?_ rfl;simp[f,g,d,j,e,dG]
   |false=>refine aG rfl rfl ?_ rfl;simp[f,g,d,j,e,dG]
 rw[ah k];cases f:s.first with
 |true=>
  rw[aj rfl];by_cases m:s.st=3
  ·rw[aj m];have g:¬s.st<=1:=by omega
   have o:(s.st=3)=True:=eq_true m;refine aG rfl rfl ?_ rfl;simp[f,g,k,o,dG]
  ·rw[ah m];have g:s.st<=1:=by omega
   refine aG rfl rfl ?_ rfl;simp[f,g,q,dG]
 |false=>rw[ah (by simp)];refine aG rfl rfl ?_ rfl;simp[f,k,dG]
def ain(a c x y v:Int)(j:1<=v)(i:v<=1001):TT.lim 306 [.l [.i .u64 a,.i .u64 x],.l [.i .u64 c,.i .u64 y],.i .u64 v,.b true,.i .i64 2,.i .i64 0]=some [.i .i64 0,.b (decide (a<=v-1/\v-1<=c/\x<=v-1/\v-1<=y))]:=by
 have g:IntKind.i64.wrap 1=1:=rfl;have w1:IntKind.i64.wrap 2=2:=rfl;have e:=dn (n:=v-1) (by omega) (by omega);have f:∀b:Bool,TT.lim 306 [.l [.i .u64 a,.i .u64 x],.l [.i .u64 c,.i .u64 y],.i .u64 v,.b b,.i .i64 2,.i .i64 2]=some [.i .i64 0,.b b]:=λb=>by refine au rfl rfl ?_;simp
 have h:∀b:Bool,TT.lim 306 [.l [.i .u64 a,.i .u64 x],.l [.i .u64 c,.i .u64 y],.i .u64 v,.b b,.i .i64 2,.i .i64 1]=some [.i .i64 0,.b (b&&decide (x<=v-1/\v-1<=y))]:=λb=>by
  cases b with
  |false=>refine au rfl rfl ?_;simp[w1,f]
  |true=>
   by_cases d:x<=v-1
   ·refine au rfl rfl ?_;simp[w1,e,d,f]
   ·refine au rfl rfl ?_;simp[w1,e,d,f]
 by_cases d:a<=v-1
 ·refine au rfl rfl ?_;simp[g,e,d,h]
 ·refine au rfl rfl ?_;simp[g,e,d,h]
def aio(a c x y:Int)(b:nN c y<zV a x):∀n:Nat,n<=1001->TT.lim 305 [.l [.i .u64 a,.i .u64 x],.l [.i .u64 c,.i .u64 y],.i .u64 (n:Int)]=some [.i .i64 1]
 |0,_=>by refine au rfl rfl ?_;simp
 |n+1,i=>by
  have h0:(0:Int)<((n+1:Nat):Int):=by omega
  have d:=ain a c x y ((n+1:Nat):Int) (by omega) (by omega);have e:=dn (n:=((n+1:Nat):Int)-1) (by omega) (by omega);have f:((n+1:Nat):Int)-1=(n:Int):=by omega
  rw[f]at d e;have g:¬(a<=(n:Int)/\(n:Int)<=c/\x<=(n:Int)/\(n:Int)<=y):=by unfold nN zV at b;split at b<;>split at b<;>omega
  rw[zF g]at d;have h:=aio a c x y b n (by omega);generalize j:((n+1:Nat):Int)=N at *;refine au rfl rfl ?_;simp[h0,d,f,e,h]
def ail(a c x y:Int)(j:nN c y<=1000)(g:zV a x<=nN c y)(h0:0<=nN c y):∀n:Nat,n<=1001->nN c y<n->TT.lim 305 [.l [.i .u64 a,.i .u64 x],.l [.i .u64 c,.i .u64 y],.i .u64 (n:Int)]=some [.i .i64 0,.i .u64 (nN c y)]
 |0,_,h=>by omega
 |n+1,p,h=>by
  have b:(0:Int)<((n+1:Nat):Int):=by omega
  have d:=ain a c x y ((n+1:Nat):Int) (by omega) (by omega);have e:=dn (n:=((n+1:Nat):Int)-1) (by omega) (by omega);have f:((n+1:Nat):Int)-1=(n:Int):=by omega
  rw[f]at d e;by_cases i:a<=(n:Int)/\(n:Int)<=c/\x<=(n:Int)/\(n:Int)<=y
  ·rw[Bh i]at d;have k:nN c y=(n:Int):=by unfold nN at *;split at h<;>omega
   rw[k];generalize l:((n+1:Nat):Int)=N at *;refine au rfl rfl ?_;simp[b,d,f,e]
  ·rw[zF i]at d;have m:nN c y<(n:Int):=by unfold nN zV at *;split at h<;>split at g<;>omega
   have o:=ail a c x y j g h0 n (by omega) m;generalize l:((n+1:Nat):Int)=N at *;refine au rfl rfl ?_;simp[b,d,f,e,o]
def ax2(a c x y:Int)(h0:0<=nN c y)(b:nN c y<=1000):TT.lim 304 [.l [.i .u64 a,.i .u64 x],.l [.i .u64 c,.i .u64 y]]=some [.i .u64 (kY a c x y).1,.b (kY a c x y).2]:=by
 unfold kY;by_cases h:nN c y<zV a x
 ·rw[aj h];have k:=aio a c x y h 1001 (by omega);have k:TT.lim 305 [.l [.i .u64 a,.i .u64 x],.l [.i .u64 c,.i .u64 y],.i .u64 1001]=_:=k;refine aG rfl rfl ?_ rfl;simp[k]
 ·rw[ah h];have k:=ail a c x y b (by omega) h0 1001 (by omega) (by omega);have k:TT.lim 305 [.l [.i .u64 a,.i .u64 x],.l [.i .u64 c,.i .u64 y],.i .u64 1001]=_:=k;refine aG rfl rfl ?_ rfl;simp[k]
def aqs{s:Q0}{v:Int}:(ou s v).2.2=0->fH (ou s v).1 (ou s v).2.1 v=0:=by
 unfold ou;repeat' split
 all_goals first|(intro h;exact absurd h (by decide))|(intro h;exact absurd h (by assumption))|skip
 simp only;split
 ·next c=>intro h;exact absurd h c
 ·split
  ·next c=>intro h;exact absurd h c
  ·next c=>intro _;simpa using c
def alQ{b:aN}{d:List aH}{v:Int}(h:fH b d v=0):zy b=0/\1<=b.kind/\b.kind<=8:=by
 unfold fH at h;split at h
 ·exact absurd h (by decide)
 split at h
 ·exact absurd h (by decide)
 split at h
 ·exact absurd h (by decide)
 next a=>
 have a:=Zw a;split at h
 ·exact absurd h (by decide)
 split at h
 ·next c=>exact absurd h c
 split at h
 ·exact⟨h,a⟩
 ·next c=>exact⟨by simpa using c,a⟩
def att{b:aN}(h:zy b=0)(a:b.kind=1):1<=b.min/\b.min<=b.max/\b.max<=255:=by
 unfold zy at h;rw[aj a]at h;split at h
 ·exact absurd h (by decide)
 split at h
 ·exact absurd h (by decide)
 split at h
 ·exact absurd h (by decide)
 omega
def ayn(m:aN)(r:List aH)(s:dN)(F:m.kind=1)(G:1<=m.min/\m.min<=m.max/\m.max<=255)(h:tC s):TT.lim 303 [dG s,dU m (aC r)]=some [dG (kQ m s).1,.l ((kQ m s).2.1.map .s),.i .i64 (kQ m s).2.2]:=by
 have k:=h.ok;have H:=k.mn;have I:=k.mx;have J:=k.le;have L:=k.ver;have w:=h.st;have f:=h.one;have M:=k.name;have x:0<=nN s.mx m.max/\nN s.mx m.max<=3:=by unfold nN;split<;>omega
 have g:=ax2 s.mn s.mx m.min m.max x.1 (by omega);have t:=@Ya s.mn s.mx m.min m.max;have u:TT.lim 170 [.i .i64 1,.g [.i .i64 8,.i .u64 0,.i .u64 0,.i .u64 0,.i .u64 0,.i .u64 0,.i .u64 0,.i .u64 0,.i .u64 0,.i .u64 0,.i .u64 0,.i .u64 0,.i .u64 0,.i .u64 0,.i .u64 16,.i .u64 0,.i .i64 0,.b false,.s [],.s [],.s [],.l [],.l [],.l []]]=some [.l ((jE Gs 1).map .s)]:=Qg aix 1;have i:∀v:Int,0<=v/\v<=3->TT.lim 170 [.i .i64 1,.g [.i .i64 2,.i .u64 0,.i .u64 0,.i .u64 0,.i .u64 v,.i .u64 0,.i .u64 0,.i .u64 0,.i .u64 0,.i .u64 0,.i .u64 0,.i .u64 0,.i .u64 0,.i .u64 0,.i .u64 0,.i .u64 0,.i .i64 0,.b false,.s s.name,.s [],.s [],.l [],.l [],.l []]]=some [.l ((jE (zq v s.name) 1).map .s)]:=λv h=>Qg (ac7 (v:=v) (n:=s.name) (by omega) (by omega)) 1;unfold kQ;generalize jE Gs 1=N at *;generalize aC r=R;by_cases l:s.first=true
 ·rw[aj l];refine aG rfl rfl ?_ rfl;simp[l,dG]
 rw[ah l,ah (by omega),ah (by omega),ah (by omega)];have a:s.first=false:=by simpa using l
 have f:=f a;generalize kY s.mn s.mx m.min m.max=C at *;by_cases j:s.st=2
 ·rw[aj j];have p:(s.st=2)=True:=eq_true j;by_cases b:C.2=true
  ·obtain⟨y,z,B,D⟩:=t b;have c:=wrap64 (n:=C.1) (by omega) (by omega);have i:=i C.1 (by omega);by_cases d:C.1=s.ver
   ·rw[aj ⟨b,d⟩];have O:(C.1=s.ver)=True:=eq_true d;rw[<-d];generalize jE (zq C.1 s.name) 1=A at *;rw[b]at g;refine aG rfl rfl ?_ rfl;simp[a,p,g,d,c,dG];rw[<-d];simp[c,i]
   ·rw[ah (λh=>d h.2)];refine aG rfl rfl ?_ rfl;simp[a,p,g,b,d,c,dG]
  ·rw[ah (λh=>b h.1)];have o:C.2=false:=by simpa using b
   refine aG rfl rfl ?_ rfl;simp[a,p,g,o,dG]
 rw[ah j];by_cases b:C.2=true;rotate_left
 ·have o:C.2=false:=by simpa using b
  rw[aj (.inl o)];refine aG rfl rfl ?_ rfl;simp[a,j,g,o,u,dG]
 by_cases d:s.st=3
 ·rw[aj (.inr d)];have q:¬s.st=0:=by omega
  refine aG rfl rfl ?_ rfl;simp[a,j,g,b,q,u,dG]
 rw[ah (λh=>h.elim (λe=>by rw[b]at e;cases e) d)];have q:s.st=0:=by omega
 have E:(s.st=0)=True:=eq_true q;obtain⟨y,z,B,D⟩:=t b;have c:=wrap64 (n:=C.1) (by omega) (by omega);have i:=i C.1 (by omega);generalize jE (zq C.1 s.name) 1=A at *;refine aG rfl rfl ?_ rfl;simp[a,j,g,b,E,c,i,dG]
set_option maxHeartbeats 2000000 in
def aiG(t:Q0)(s:dN)(Y:t.length<=1000000)(h:tC s):TT.lim 280 [dG s,.s t]=some [dG (mM t s).1,.l ((mM t s).2.1.map .s),.i .i64 (mM t s).2.2]:=by
 have u:=h.ok;have b:=aya t (uG s) Y;have v:=S9 t (uG s);have W:=@aqs t (uG s);unfold mM;generalize ou t (uG s)=D at *;obtain⟨m,x,e⟩:=D;simp only at b v W⊢;have Z:=u.ver;have y:=dn (n:=s.ver) Z.1 (by omega);have aa:=u.mn;have ab:=u.mx;have ac:=u.le;have ad:=h.st;unfold uG at b;have q:s.st=2\/¬s.st=2:=zh _;by_cases z:e=0;rotate_left
 ·rw[ah z];rcases q with a|a
  ·rw[aj a]at b;have d:(s.st=2)=True:=eq_true a;refine aG rfl rfl ?_ rfl;simp[d,b,z,dG]
  ·rw[ah a]at b;refine aG rfl rfl ?_ rfl;simp[a,b,z,dG]
 rw[aj z];subst z;obtain⟨DC,k1,k8⟩:=alQ (W rfl);have L:=λ(k:m.kind=1)=>ayn m x s k (att DC k) h;have M:=ayM m x s.vs s.sm s.h v.body v.t v.f8 v.len u.rc.good;have hz:=take_zero (fH m x s.vs) s.vs m.kind m.epoch m.base m.t s.sm s.h;obtain⟨hr,Q,-⟩:=aa8 u.rc (fH m x s.vs) m.kind m.epoch m.base m.t v.t v.body.epoch;have X:=axW m.epoch s.vs s.k s.b (by have:=u.kp.len;omega);generalize ae:aC x=FL at *;unfold zZ;by_cases f:m.kind=1
 ·rw[aj f];have L:=L f;have B:(m.kind=1)=True:=eq_true f;generalize kQ m s=Hx at *;rcases q with a|a
  ·rw[aj a]at b;have d:(s.st=2)=True:=eq_true a;refine aG rfl rfl ?_ rfl;simp[d,b,B,jB,eF,L]
  ·rw[ah a]at b;refine aG rfl rfl ?_ rfl;simp[a,b,B,jB,eF,L]
 rw[ah f];by_cases g:m.kind=2
 ·rw[aj g];have i:(m.kind=2)=True:=eq_true g;unfold Bz;rcases q with a|a
  ·rw[aj a]at b;rw[ah (by omega)];have d:(s.st=2)=True:=eq_true a;by_cases E:s.first=true
   ·by_cases N:m.chosen=s.ver
    ·rw[aj ⟨a,E,N⟩];have Yf:(m.chosen=s.ver)=True:=eq_true N;refine aG rfl rfl ?_ rfl;simp[d,b,f,i,E,Yf,y,dG]
    ·rw[ah (λh=>N h.2.2)];refine aG rfl rfl ?_ rfl;simp[d,b,f,i,E,N,y,dG]
   ·rw[ah (λh=>E h.2.1)];have Ir:s.first=false:=by simpa using E
    refine aG rfl rfl ?_ rfl;simp[d,b,f,i,Ir,dG]
  ·rw[ah a]at b;by_cases p:s.st=1
   ·rw[aj p];have l:(s.st=1)=True:=eq_true p;by_cases r1:s.mn<=m.chosen
    ·by_cases r2:m.chosen<=s.mx
     ·rw[aj ⟨r1,r2⟩];have S:=wrap64 (n:=m.chosen) (by omega) (by omega);refine aG rfl rfl ?_ rfl;simp[l,a,b,f,i,r1,r2,S,dG]
     ·rw[ah (λh=>r2 h.2)];refine aG rfl rfl ?_ rfl;simp[l,a,b,f,i,r1,r2,dG]
    ·rw[ah (λh=>r1 h.1)];refine aG rfl rfl ?_ rfl;simp[l,a,b,f,i,r1,dG]
   ·rw[ah p,ah (λh=>a h.1)];refine aG rfl rfl ?_ rfl;simp[p,a,b,f,i,dG]
 rw[ah g];by_cases F:m.kind=5\/m.kind=6
 ·rw[aj F];have o:¬m.kind=3:=by omega
  have r:¬m.kind=4:=by omega
  have w:¬m.kind=7:=by omega
  have j:¬m.kind=8:=by omega
  unfold kT;rcases q with a|a
  ·rw[aj a]at b;have d:(s.st=2)=True:=eq_true a;rw[aj a];unfold uy at M;generalize nM (fH m x s.vs) s.vs m.kind m.epoch m.base m.t s.sm s.h=T at *;obtain⟨⟨U,a2,a3,a4⟩,e,sm,h'⟩:=T;have hw:vV (iT (U,a2,a3,a4)) []:=Nk Q rfl xA.good (by simp[iT]) rfl rfl;have G:=Qg hw s.ver;rw[<-akY]at G;simp only at M hz⊢;by_cases c:U=0
   ·rw[aj c];have c':(U=0)=True:=eq_true c;refine aG rfl rfl ?_ rfl;simp[d,b,f,g,o,r,w,j,eF,M,c',dG]
   ·rw[ah c];refine aG rfl rfl ?_ rfl;simp[d,b,f,g,o,r,w,j,eF,M,c,akZ,G,dG]
  ·rw[ah a]at b;rw[ah a];refine aG rfl rfl ?_ rfl;simp[a,b,f,g,o,r,w,j,dG]
 rw[ah F];by_cases w:m.kind=7
 ·rw[aj w];have j:¬m.kind=8:=by omega
  have o:¬m.kind=3:=by omega
  have r:¬m.kind=4:=by omega
  have H:(m.kind=7)=True:=eq_true w;unfold oJ;rcases q with a|a
  ·rw[aj a]at b;have d:(s.st=2)=True:=eq_true a;rw[aj a];unfold Af at X;generalize rJ m.epoch s.k s.b=A at *;refine aG rfl rfl ?_ rfl;simp[d,b,f,g,j,o,r,H,X,dG]
  ·rw[ah a]at b;rw[ah a];refine aG rfl rfl ?_ rfl;simp[a,b,f,g,j,o,r,H,dG]
 rw[ah w];by_cases j:m.kind=8
 ·rw[aj j];have O:(m.kind=8)=True:=eq_true j;unfold noS;rcases q with a|a
  ·rw[aj a]at b;have d:(s.st=2)=True:=eq_true a;rw[aj a];refine aG rfl rfl ?_ rfl;simp[d,b,f,g,O,dG]
  ·rw[ah a]at b;rw[ah a];by_cases p:s.st=1
   ·have l:(s.st=1)=True:=eq_true p;by_cases P:m.code=16
    ·rw[aj ⟨p,P⟩];have V:(m.code=16)=True:=eq_true P;refine aG rfl rfl ?_ rfl;simp[l,a,b,f,g,O,V,dG]
    ·rw[ah (λh=>P h.2)];refine aG rfl rfl ?_ rfl;simp[l,a,b,f,g,O,P,dG]
   ·rw[ah (λh=>p h.1)];refine aG rfl rfl ?_ rfl;simp[p,a,b,f,g,O,dG]
 rw[ah j];by_cases o:m.kind=3
 ·have I:(m.kind=3)=True:=eq_true o;rcases q with a|a
  ·rw[aj a]at b;have d:(s.st=2)=True:=eq_true a;refine aG rfl rfl ?_ rfl;simp[d,b,f,g,j,I,dG]
  ·rw[ah a]at b;refine aG rfl rfl ?_ rfl;simp[a,b,f,g,j,I,dG]
 have r:m.kind=4:=by omega
 have J:(m.kind=4)=True:=eq_true r;rcases q with a|a
 ·rw[aj a]at b;have d:(s.st=2)=True:=eq_true a;refine aG rfl rfl ?_ rfl;simp[d,b,f,g,j,o,J,dG]
 ·rw[ah a]at b;refine aG rfl rfl ?_ rfl;simp[a,b,f,g,j,o,J,dG]
def aBf(s:dN)(a:pF s):TT.lim 320 (fE s)=some [.i .i64 0,.i .u64 (uo s.k).1,.l ((uo s.k).2.map row),.b s.k.getLast?.isSome]:=by have h:=auF (.i .i64 s.vs) (.i .u64 s.b) s.k a.kp;unfold fE;refine au rfl rfl ?_;simp[h]
def aBe(s:dN)(a:pF s):TT.lim 321 (fE s)=some [.i .i64 0,.i .u64 s.h.1,.l (s.h.2.map row),.b s.sm]:=by have h:=ati (.i .i64 s.vs) s.sm s.h a.rc.good a.rc.no;unfold fE;refine au rfl rfl ?_;simp[h]
def MX(s:dN)(f:pF s):TT.lim 319 ((dG s).cells++fE s)=some [.i .i64 0,.b true]:=by
 have a:=aBf s f;have c:=aBe s f;have G:=f.kp.len;have z:=(auD f.kp).good;have A:=f.rc.good;have g:=V9 (uo s.k) z;have h:=V9 s.h A;have i:=ai6 (uo s.k) z;have j:=ai6 s.h A;have u:=f.rc.no;have k:GV.g [.i .u64 s.h.1,.l (s.h.2.map row)]=sn s.h:=rfl;have o:GV.g [.i .u64 (uo s.k).1,.l ((uo s.k).2.map row)]=sn (uo s.k):=rfl;have r:GV.g [.i .u64 0,.l []]=sn zS:=rfl;have t:GV.g [.i .u64 zS.1,.l (zS.2.map row)]=sn zS:=rfl;have b:∀y:GV,(s.sm=false->sn s.h=sn zS):=λ_ e=>by rw[u e]
 have b:=b (.b true);cases p:s.k.getLast? with
 |none=>
  obtain v:=last_none p;have w:uo s.k=zS:=by unfold uo;rw[p];rfl
  rw[w]at a g i o;rw[p]at a;simp only[tY,fE,bJ,aW]at a c⊢;rw[v]at a c⊢;simp only[jO,acS]at a c⊢;cases d:s.sm with
  |true=>rw[d]at a c;refine au rfl rfl ?_;simp[a,c,o,k,r,t,g,h,i,j]
  |false=>rw[d]at a c;have x:=b d;rw[x]at k h j;refine au rfl rfl ?_;simp[a,c,o,k,r,t,g,h,i,j]
 |some l=>
  obtain⟨m,H,F,-⟩:=last_at p;have w:uo s.k=l:=by unfold uo;rw[p];rfl
  rw[w]at a g i o;rw[p]at a;have B:((s.k.map sn).length:Int)=(m:Int)+1:=by rw[je];omega
  have D:(0:Int)<(m:Int)+1:=by omega
  have E:=wrap64 (n:=(m:Int)) (by omega) (by omega);have q:at2 2 (some (.l (s.k.map sn))) (some (.i .i64 (m:Int)))=some (sn l):=by rw[iC,aj (by omega),CP,iw,F];rfl
  simp only[tY,fE,bJ,aW]at a c⊢;simp only[Option.isSome_some]at a;generalize s.k.map sn=I at *;cases d:s.sm with
  |true=>rw[d]at a c;refine au rfl rfl ?_;simp[-iC,B,D,E,q,a,c,o,k,r,t,g,h,i,j]
  |false=>rw[d]at a c;have x:=b d;rw[x]at k h j;refine au rfl rfl ?_;simp[-iC,B,D,E,q,a,c,o,k,r,t,g,h,i,j]
def abq{b:aN}{v:Int}{u:Q0}(h:u∈jE b v):u.length<=65536:=by
 unfold jE at h;split at h
 ·rw[yC.1 h];exact aqI _ _ _
 ·cases h
def afy{t:Q0}{s:dN}:∀u∈(mM t s).2.1,u.length<=65536:=by
 intro u a;unfold mM at a;split at a;rotate_left
 ·cases a
 unfold zZ kQ Bz kT oJ noS at a;repeat' split at a
 all_goals first|(cases a;done)|exact abq a|(simp only at a;split at a<;>first|(cases a;done)|exact abq a)
def ahZ{s:dN}:∀u∈(lN s).1,u.length<=65536:=by
 intro u a;unfold lN at a;repeat' split at a
 all_goals first|(cases a;done)|exact abq a
def ahy{x:Sn}{s:dN}(h:tC s)(a:dR x.2)(h0:0<=x.1/\x.1<18446744073709551616):tC (kM x s):=by
 refine⟨aa2 h.ok a h0,?_,h.st,h.one⟩;have c:=h.base;rcases axl (x:=x) (k:=s.k) (b:=s.b)with e|e
 ·simp only[kM];rw[e];exact c
 ·simp only[kM];rw[e];omega
def ahx{s:dN}(h:tC s):tC (Aa s):=by
 have a:=h.ok;have g:=h.st;have b:=h.one;have k:(0<=(lN s).2/\(lN s).2<=3)/\(s.first=false->(lN s).2≠1):=by
  by_cases c:s.st=2
  ·have e:(lN s).2=2:=by unfold lN;rw[aj c];split<;>rfl
   rw[e];exact⟨by omega,λ_=>by decide⟩
  by_cases d:s.first=true
  ·by_cases i:s.st=3
   ·have e:(lN s).2=3:=by unfold lN;rw[ah c,aj d,aj i]
    rw[e];exact⟨by omega,λ_=>by decide⟩
   ·have e:(lN s).2=1:=by unfold lN;rw[ah c,aj d,ah i]
    rw[e];exact⟨by omega,λf=>by rw[d]at f;cases f⟩
  ·have e:(lN s).2=s.st:=by unfold lN;rw[ah c,ah d]
   rw[e];exact⟨g,b⟩
 exact⟨⟨a.mn,a.mx,a.le,a.name,a.ver,a.rc,a.kp⟩,h.base,k.1,k.2⟩
def ahv{t:Q0}{s:dN}(h:tC s):tC (mM t s).1:=by
 have c:=h.st;have a:=h.one;have d:=h.base;have i:=(S9 t (uG s)).body.epoch;refine⟨ate h.ok,?_,?_,?_⟩
 ·have g:=akL (e:=(ou t (uG s)).1.epoch) (k:=s.k) (b:=s.b);unfold mM;split;rotate_left
  ·exact d
  unfold zZ kQ Bz kT oJ noS;repeat' split
  all_goals first|exact d|(simp only;omega)|(simp only;rcases g with e|e<;>rw[e]<;>omega)
 ·unfold mM;split;rotate_left
  ·exact c
  unfold zZ kQ Bz kT oJ noS;repeat' split
  all_goals first|exact c|(simp only;omega)
 ·rw[(YU t s).2.2.2];intro f;have a:=a f;unfold mM;split;rotate_left
  ·exact a
  unfold zZ kQ Bz kT oJ noS;repeat' split
  all_goals first|exact a|(simp only;omega)
def Hr(a:List Ac)(i:Int)(b c:Wg)(p q:dN):Prop:=
 ∃Q,(Q=[GV.i .i64 0,.b true]\/Q=[GV.i .i64 1])/\
 TT.lim 11 ([.l [dG p,dG q],.l (a.map jy),.i .i64 (a.length:Int),.i .i64 i,.l (b.map .s),.l (c.map .s)]++(fE q++fE p))=some Q
def aqC(p q:dN):at2 13 (some (.l [dG p,dG q])) (some (.i .i64 1))=some (dG q)/\BG (some (.l [dG p,dG q])) (some (.i .i64 1))=some (.i .i64 1)/\∀r:dN,JJ 13 0 (some (.l [dG p,dG q])) (some (.i .i64 1)) (some (dG r).cells)=some (.l [dG p,dG r]):=⟨rfl,rfl,λ_=>rfl⟩
def aqB(p q:dN):at2 13 (some (.l [dG p,dG q])) (some (.i .i64 0))=some (dG p)/\BG (some (.l [dG p,dG q])) (some (.i .i64 0))=some (.i .i64 0)/\∀r:dN,JJ 13 0 (some (.l [dG p,dG q])) (some (.i .i64 0)) (some (dG r).cells)=some (.l [dG r,dG q]):=⟨rfl,rfl,λ_=>rfl⟩
def Tv(T:Wg)(h:T.length<=1):TT.lim 211 [.l (T.map .s),.l (T.map .s)]=some [.b true]:=by have:=aqP T T (by omega) (by omega);rw[Bh rfl]at this;exact this
def turned(u:Q0)(a b:Int)(f:0<=a/\a<=65535)(g:0<=b/\b<256)(h:0<u.length)(o:u.length<=65536):∃(j:Int)(x y:UInt8)(c:Q0),c.length=u.length/\a.tmod (u.length:Int)=j/\
 BG (some (.l (dw u))) (some (.i .i64 j))=some (.i .i64 j)/\at2 1 (some (.l (dw u))) (some (.i .i64 j))=some (.i .u8 (x.toNat:Int))/\gG .xor .u8 (x.toNat:Int) b=some (.i .u8 (y.toNat:Int))/\
 JJ 1 0 (some (.l (dw u))) (some (.i .i64 j)) (some [.i .u8 (y.toNat:Int)])=some (.l (dw c))/\(dw c).length<=2^48/\nD (dw c)=some c:=by
 obtain⟨j,i,d⟩:=abR f.1 h;obtain⟨l,m,n⟩:=aBl (u:=u) (k:=j) d (Qz (u.getD j 0) b.toNat);have e:=aDh (u.getD j 0) b.toNat (by omega);rw[acu g.1]at e;refine⟨j,u.getD j 0,Qz (u.getD j 0) b.toNat,u.set j (Qz (u.getD j 0) b.toNat),by rw[WV],i,l,m,e,n,?_,adG _⟩;simp only[dw,je,WV];omega
set_option maxHeartbeats 8000000 in
def axb(d:List Ac)(Dz:d.length<=30)(i:Nat)(aa:i<d.length)(G E:Wg)(p q:dN)(hq:tC q)(l0:G.length<=i)(l1:E.length<=i)(t0:∀t∈G,t.length<=65536)(t1:∀t∈E,t.length<=65536)(ha:G8 (d[i]'aa))(cf:Fh (d[i]'aa)=true)(J:0<(d[i]'aa).who)(X:Prop)(L:(128<=(d[i]'aa).gK)=X)(hX:X=True\/X=False)
 (ih:∀(M:Wg)(r:dN),tC r->M.length<=i+1->(∀t∈M,t.length<=65536)->Hr d ((i:Int)+1) G M p r):Hr d (i:Int) G E p q:=by
 unfold Hr at ih⊢;have N:(i:Int)<d.length:=by omega
 have O:=wrap64 (n:=(i:Int)+1) (by omega) (by omega);have s:at2 8 (some (.l (d.map jy))) (some (.i .i64 (i:Int)))=some (jy d[i]):=by rw[iC,aj (by omega),CP,iw,bP aa];rfl
 have f:=Xv d[i] ha;rw[cf]at f;generalize d[i]=a at *;have ad:a.text.length<=2000/\dR a.x.2:=by unfold Fh at cf;simp only[aK,decide_eq_true_iff]at cf;exact⟨by omega,afm ha.rows cf.2.1⟩
 have hs:=hq.ok;have A:=ajb q hs;have v:=Vj (9223372036854775808,[]) q xA.good hs;have w:=Vf (kM (9223372036854775808,[]) q) (aa2 hs xA.good ⟨by decide,by decide⟩);obtain⟨g1,g2,g⟩:=aqC p q;have m:∀r:dN,at2 13 (some (.l [dG p,dG r])) (some (.i .i64 1))=some (dG r)/\BG (some (.l [dG p,dG r])) (some (.i .i64 1))=some (.i .i64 1):=λr=>⟨rfl,rfl⟩
 simp only[kM,jO]at v w;generalize mX (9223372036854775808,[]) q.k q.b=P0 at *;by_cases d0:a.gK.tmod 8=0
 ·have D:(a.gK.tmod 8=0)=True:=eq_true d0;have hp:=Vj a.x q ad.2 hs;have B:=aiV a.x q ad.2 hs;have af:=V9 a.x ad.2;have e1:GV.g [.i .u64 a.x.1,.l (a.x.2.map row)]=sn a.x:=rfl;have h':=ahy hq ad.2 ha.ep;obtain⟨Q,P,o⟩:=ih E _ h' (by omega) t1;have l:=MX _ h'.ok;have g:=g (kM a.x q);obtain⟨m,F⟩:=m (kM a.x q);refine⟨Q,P,?_⟩;generalize xX:[dG p,dG (kM a.x q)]=xC at *;generalize[dG p,dG q]=DG at *;simp only[kM,fE,tY,bJ,aW]at A v w hp B l o g m⊢;generalize mX a.x q.k q.b=PP at *;generalize d.map jy=AG at *;generalize G.map GV.s=G0 at *;generalize E.map GV.s=G1 at *;rcases hX with rfl|rfl
  ·refine au rfl rfl ?_;simp -implicitDefEqProofs[-iC,-jh,-jM,N,O,s,jI,f,J,L,A,v,w,D,hp,af,e1,g1,g2,jB,B,g,m,F,l,o]
  ·refine au rfl rfl ?_;simp -implicitDefEqProofs[-iC,-jh,-jM,N,O,s,jI,f,J,L,D,hp,af,e1,g1,g2,jB,B,g,m,F,l,o]
 by_cases d12:a.gK.tmod 8=1\/a.gK.tmod 8=2
 ·have hp:=Vf q hs;have B:=aiU q hq;have h':=ahx hq;have h:=RD (S:=E) (T:=(lN q).1) (by omega) (MC q);have k:=Tv _ (MC q);obtain⟨Q,P,o⟩:=ih (E++(lN q).1) _ h' (by have:=MC q;simp only[eX];omega) (λt l=>(iW.1 l).elim (t1 t) (ahZ t));have l:=MX _ h'.ok;have g:=g (Aa q);obtain⟨m,F⟩:=m (Aa q);refine⟨Q,P,?_⟩;generalize xX:[dG p,dG (Aa q)]=xC at *;generalize[dG p,dG q]=DG at *;simp only[kM,Aa,fE,tY,bJ,aW]at A v w hp B l o g m⊢;generalize ak:lN q=PP at *;generalize(E++PP.1).map GV.s=SS at *;generalize d.map jy=AG at *;generalize PP.1.map GV.s=TG at *;generalize G.map GV.s=G0 at *;generalize E.map GV.s=G1 at *;have Dk:(a.gK.tmod 8=0)=False:=eq_false d0;have Yg:a.gK.tmod 8=1/\(a.gK.tmod 8=1)=True\/a.gK.tmod 8=2/\(a.gK.tmod 8=2)=True:=d12.elim (λe=>.inl ⟨e,eq_true e⟩) (λe=>.inr ⟨e,eq_true e⟩);rcases Yg with⟨d1,ab⟩|⟨d1,ab⟩
  ·clear d1 d12 d0;rcases hX with rfl|rfl
   ·refine au rfl rfl ?_;simp -implicitDefEqProofs[-iC,-jh,-jM,N,O,s,jI,f,J,L,A,v,w,Dk,ab,hp,h,k,g1,g2,jB,B,g,m,F,l,o]
   ·refine au rfl rfl ?_;simp -implicitDefEqProofs[-iC,-jh,-jM,N,O,s,jI,f,J,L,Dk,ab,hp,h,k,g1,g2,jB,B,g,m,F,l,o]
  ·have OJ:(a.gK.tmod 8=1)=False:=eq_false (by omega);clear d1 d12 d0;rcases hX with rfl|rfl
   ·refine au rfl rfl ?_;simp -implicitDefEqProofs[-iC,-jh,-jM,N,O,s,jI,f,J,L,A,v,w,Dk,OJ,ab,hp,h,k,g1,g2,jB,B,g,m,F,l,o]
   ·refine au rfl rfl ?_;simp -implicitDefEqProofs[-iC,-jh,-jM,N,O,s,jI,f,J,L,Dk,OJ,ab,hp,h,k,g1,g2,jB,B,g,m,F,l,o]
 have d1:(a.gK.tmod 8=1)=False:=eq_false λe=>d12 (.inl e);have d2:(a.gK.tmod 8=2)=False:=eq_false λe=>d12 (.inr e);have D:(a.gK.tmod 8=0)=False:=eq_false d0;clear d12 d0
 have K:∀u:Q0,u.length<=65536->∃(R:dN×Wg×Int)(Q:Q1),(Q=[GV.i .i64 0,.b true]\/Q=[GV.i .i64 1])/\R=mM u q/\TT.lim 325 (.s u::fE q)=some (wS R)/\TT.lim 280 [dG q,.s u]=some [dG R.1,.l (R.2.1.map .s),.i .i64 R.2.2]/\
  xO 1 16 (some (.l (E.map .s))) (some (.l (R.2.1.map .s)))=some (.l ((E++R.2.1).map .s))/\TT.lim 211 [.l (R.2.1.map .s),.l (R.2.1.map .s)]=some [.b true]/\
  TT.lim 319 ((dG R.1).cells++fE R.1)=some [.i .i64 0,.b true]/\
  TT.lim 11 ([.l [dG p,dG R.1],.l (d.map jy),.i .i64 (d.length:Int),.i .i64 ((i:Int)+1),.l (G.map .s),.l ((E++R.2.1).map .s)]++(fE R.1++fE p))=some Q/\
  (R.1.mn=q.mn/\R.1.mx=q.mx/\R.1.name=q.name/\R.1.first=q.first):=λu hu=>by
  have h':=ahv (t:=u) hq;obtain⟨Q,P,o⟩:=ih (E++(mM u q).2.1) _ h' (by have:=LC u q;simp only[eX];omega) (λt l=>(iW.1 l).elim (t1 t) (afy t));exact⟨_,Q,P,rfl,afq u q (by omega) hs,aiG u q (by omega) hq,RD (by omega) (LC u q),Tv _ (LC u q),MX _ h'.ok,o,YU u q⟩
 by_cases d7:a.gK.tmod 8=7
 ·have nS:(a.gK.tmod 8=7)=True:=eq_true d7;clear d7;obtain⟨R,Q,P,hR,I,B,h,k,l,o,c⟩:=K a.text (by omega);have g:=g R.1;obtain⟨m,F⟩:=m R.1;refine⟨Q,P,?_⟩;clear hR ih K;generalize xX:[dG p,dG R.1]=xC at *;generalize[dG p,dG q]=DG at *;simp only[wS,kM,fE,tY,bJ,aW]at A v w I B l o g m⊢;simp only[c.1,c.2.1,c.2.2.1,c.2.2.2]at l o g;generalize(E++R.2.1).map GV.s=SS at *;generalize R.2.1.map GV.s=TG at *;generalize d.map jy=AG at *;generalize G.map GV.s=G0 at *;generalize E.map GV.s=G1 at *;rcases hX with rfl|rfl
  ·refine au rfl rfl ?_;simp -implicitDefEqProofs[-iC,-jh,-jM,N,O,s,jI,f,J,L,A,v,w,D,d1,d2,nS,I,h,k,g1,g2,jB,B,g,m,F,c,l,o]
  ·refine au rfl rfl ?_;simp -implicitDefEqProofs[-iC,-jh,-jM,N,O,s,jI,f,J,L,D,d1,d2,nS,I,h,k,g1,g2,jB,B,g,m,F,c,l,o]
 have nS:(a.gK.tmod 8=7)=False:=eq_false d7;clear d7;by_cases cs:G.length=0
 ·obtain rfl:=WU.1 cs;obtain⟨R,Q,P,hR,I,B,h,k,l,o,c⟩:=K a.text (by omega);have g:=g R.1;obtain⟨m,F⟩:=m R.1;refine⟨Q,P,?_⟩;clear hR ih K;generalize xX:[dG p,dG R.1]=xC at *;generalize[dG p,dG q]=DG at *;simp only[wS,kM,fE,tY,jO,bJ,aW]at A v w I B l o g m⊢;simp only[c.1,c.2.1,c.2.2.1,c.2.2.2]at l o g;generalize(E++R.2.1).map GV.s=SS at *;generalize R.2.1.map GV.s=TG at *;generalize d.map jy=AG at *;generalize E.map GV.s=G1 at *;rcases hX with rfl|rfl
  ·refine au rfl rfl ?_;simp -implicitDefEqProofs[-iC,-jh,-jM,N,O,s,jI,f,J,L,A,v,w,D,d1,d2,nS,I,h,k,g1,g2,jB,B,g,m,F,c,l,o]
  ·refine au rfl rfl ?_;simp -implicitDefEqProofs[-iC,-jh,-jM,N,O,s,jI,f,J,L,D,d1,d2,nS,I,h,k,g1,g2,jB,B,g,m,F,c,l,o]
 obtain⟨j,hj,ai⟩:=abR (p:=a.pick) (n:=G.length) ha.pick.1 (by omega);obtain⟨t,Ze,xY,H⟩:=adp ai;have ae:=t0 t Ze;have V:IntKind.i64.wrap a.pick=a.pick:=wrap64 (by have:=ha.pick;omega) (by have:=ha.pick;omega);have W:(0:Int)<G.length:=by omega
 have Y:¬(G.length:Int)=0:=by omega
 have Z:((G.map GV.s).length:Int)=(G.length:Int):=by rw[je]
 by_cases d6:a.gK.tmod 8=6
 ·have U:(a.gK.tmod 8=6)=True:=eq_true d6;clear d6;by_cases c0:0<t.length
  ·obtain⟨x,y,z,u,FD,b0,b1,b2,b3,b4,b5,b6⟩:=turned t a.at_ a.Ba ha.at_ ha.Ba c0 ae;have Pj:IntKind.i64.wrap a.at_=a.at_:=wrap64 (by have:=ha.at_;omega) (by have:=ha.at_;omega);have ac:(0<t.length)=True:=eq_true c0;have cn:¬t=[]:=λe=>by rw[e]at c0;exact absurd c0 (by decide)
   have ag:((dw t).length:Int)=(t.length:Int):=by simp -implicitDefEqProofs[dw]
   have hB:(t.map λb=>GV.i .u8 b.toNat)=dw t:=rfl;obtain⟨R,Q,P,hR,I,B,h,k,l,o,c⟩:=K u (by omega);have g:=g R.1;obtain⟨m,F⟩:=m R.1;refine⟨Q,P,?_⟩;clear hR ih K;generalize xX:[dG p,dG R.1]=xC at *;generalize[dG p,dG q]=DG at *;simp only[wS,kM,fE,tY,bJ,aW]at A v w I B l o g m⊢;simp only[c.1,c.2.1,c.2.2.1,c.2.2.2]at l o g;generalize(E++R.2.1).map GV.s=SS at *;generalize R.2.1.map GV.s=TG at *;generalize d.map jy=AG at *;generalize(G.length:Int)=n0 at *;generalize(j:Int)=jj at *;generalize O3:dw t=BT at *;generalize dw u=BU at *;generalize G.map GV.s=G0 at *;generalize E.map GV.s=G1 at *;rcases hX with rfl|rfl
   ·refine au rfl rfl ?_;simp -implicitDefEqProofs[-iC,-jh,-jM,N,O,s,jI,f,J,L,A,v,w,D,d1,d2,nS,U,Z,W,Y,V,hj,H,xY,ac,cn,O3,hB,ag,Pj,b0,b1,b2,b3,b4,b5,b6,I,h,k,g1,g2,jB,B,g,m,F,c,l,o]
   ·refine au rfl rfl ?_;simp -implicitDefEqProofs[-iC,-jh,-jM,N,O,s,jI,f,J,L,D,d1,d2,nS,U,Z,W,Y,V,hj,H,xY,ac,cn,O3,hB,ag,Pj,b0,b1,b2,b3,b4,b5,b6,I,h,k,g1,g2,jB,B,g,m,F,c,l,o]
  ·have ac:(0<t.length)=False:=eq_false c0;obtain⟨R,Q,P,hR,I,B,h,k,l,o,c⟩:=K t ae;have g:=g R.1;obtain⟨m,F⟩:=m R.1;refine⟨Q,P,?_⟩;clear hR ih K;generalize xX:[dG p,dG R.1]=xC at *;generalize[dG p,dG q]=DG at *;simp only[wS,kM,fE,tY,bJ,aW]at A v w I B l o g m⊢;simp only[c.1,c.2.1,c.2.2.1,c.2.2.2]at l o g;generalize(E++R.2.1).map GV.s=SS at *;generalize R.2.1.map GV.s=TG at *;generalize d.map jy=AG at *;generalize(G.length:Int)=n0 at *;generalize(j:Int)=jj at *;generalize G.map GV.s=G0 at *;generalize E.map GV.s=G1 at *;rcases hX with rfl|rfl
   ·refine au rfl rfl ?_;simp -implicitDefEqProofs[-iC,-jh,-jM,N,O,s,jI,f,J,L,A,v,w,D,d1,d2,nS,U,Z,W,Y,V,hj,H,xY,ac,I,h,k,g1,g2,jB,B,g,m,F,c,l,o]
   ·refine au rfl rfl ?_;simp -implicitDefEqProofs[-iC,-jh,-jM,N,O,s,jI,f,J,L,D,d1,d2,nS,U,Z,W,Y,V,hj,H,xY,ac,I,h,k,g1,g2,jB,B,g,m,F,c,l,o]
 have U:(a.gK.tmod 8=6)=False:=eq_false d6;clear d6;obtain⟨R,Q,P,hR,I,B,h,k,l,o,c⟩:=K t ae;have g:=g R.1;obtain⟨m,F⟩:=m R.1;refine⟨Q,P,?_⟩;clear hR ih K;generalize xX:[dG p,dG R.1]=xC at *;generalize[dG p,dG q]=DG at *;simp only[wS,kM,fE,tY,bJ,aW]at A v w I B l o g m⊢;simp only[c.1,c.2.1,c.2.2.1,c.2.2.2]at l o g;generalize(E++R.2.1).map GV.s=SS at *;generalize R.2.1.map GV.s=TG at *;generalize d.map jy=AG at *;generalize(G.length:Int)=n0 at *;generalize(j:Int)=jj at *;generalize G.map GV.s=G0 at *;generalize E.map GV.s=G1 at *;rcases hX with rfl|rfl
 ·refine au rfl rfl ?_;simp -implicitDefEqProofs[-iC,-jh,-jM,N,O,s,jI,f,J,L,A,v,w,D,d1,d2,nS,U,Z,W,Y,V,hj,H,xY,I,h,k,g1,g2,jB,B,g,m,F,c,l,o]
 ·refine au rfl rfl ?_;simp -implicitDefEqProofs[-iC,-jh,-jM,N,O,s,jI,f,J,L,D,d1,d2,nS,U,Z,W,Y,V,hj,H,xY,I,h,k,g1,g2,jB,B,g,m,F,c,l,o]
set_option maxHeartbeats 8000000 in
def axa(d:List Ac)(Dz:d.length<=30)(i:Nat)(aa:i<d.length)(E G:Wg)(p q:dN)(hq:tC p)(l0:E.length<=i)(l1:G.length<=i)(t0:∀t∈E,t.length<=65536)(t1:∀t∈G,t.length<=65536)(ha:G8 (d[i]'aa))(cf:Fh (d[i]'aa)=true)(J:¬0<(d[i]'aa).who)(X:Prop)(L:(128<=(d[i]'aa).gK)=X)(hX:X=True\/X=False)
 (ih:∀(M:Wg)(r:dN),tC r->M.length<=i+1->(∀t∈M,t.length<=65536)->Hr d ((i:Int)+1) M G r q):Hr d (i:Int) E G p q:=by
 unfold Hr at ih⊢;have N:(i:Int)<d.length:=by omega
 have O:=wrap64 (n:=(i:Int)+1) (by omega) (by omega);have s:at2 8 (some (.l (d.map jy))) (some (.i .i64 (i:Int)))=some (jy d[i]):=by rw[iC,aj (by omega),CP,iw,bP aa];rfl
 have f:=Xv d[i] ha;rw[cf]at f;generalize d[i]=a at *;have ad:a.text.length<=2000/\dR a.x.2:=by unfold Fh at cf;simp only[aK,decide_eq_true_iff]at cf;exact⟨by omega,afm ha.rows cf.2.1⟩
 have hs:=hq.ok;have A:=ajb p hs;have v:=Vj (9223372036854775808,[]) p xA.good hs;have w:=Vf (kM (9223372036854775808,[]) p) (aa2 hs xA.good ⟨by decide,by decide⟩);obtain⟨g1,g2,g⟩:=aqB p q;have m:∀r:dN,at2 13 (some (.l [dG r,dG q])) (some (.i .i64 0))=some (dG r)/\BG (some (.l [dG r,dG q])) (some (.i .i64 0))=some (.i .i64 0):=λr=>⟨rfl,rfl⟩
 simp only[kM,jO]at v w;generalize mX (9223372036854775808,[]) p.k p.b=P0 at *;by_cases d0:a.gK.tmod 8=0
 ·have D:(a.gK.tmod 8=0)=True:=eq_true d0;have hp:=Vj a.x p ad.2 hs;have B:=aiV a.x p ad.2 hs;have af:=V9 a.x ad.2;have e1:GV.g [.i .u64 a.x.1,.l (a.x.2.map row)]=sn a.x:=rfl;have h':=ahy hq ad.2 ha.ep;obtain⟨Q,P,o⟩:=ih E _ h' (by omega) t0;have l:=MX _ h'.ok;have g:=g (kM a.x p);obtain⟨m,F⟩:=m (kM a.x p);refine⟨Q,P,?_⟩;generalize xX:[dG (kM a.x p),dG q]=xC at *;generalize[dG p,dG q]=DG at *;simp only[kM,fE,tY,bJ,aW]at A v w hp B l o g m⊢;generalize mX a.x p.k p.b=PP at *;generalize d.map jy=AG at *;generalize E.map GV.s=G0 at *;generalize G.map GV.s=G1 at *;rcases hX with rfl|rfl
  ·refine au rfl rfl ?_;simp -implicitDefEqProofs[-iC,-jh,-jM,N,O,s,jI,f,J,L,A,v,w,D,hp,af,e1,g1,g2,jB,B,g,m,F,l,o]
  ·refine au rfl rfl ?_;simp -implicitDefEqProofs[-iC,-jh,-jM,N,O,s,jI,f,J,L,D,hp,af,e1,g1,g2,jB,B,g,m,F,l,o]
 by_cases d12:a.gK.tmod 8=1\/a.gK.tmod 8=2
 ·have hp:=Vf p hs;have B:=aiU p hq;have h':=ahx hq;have h:=RD (S:=E) (T:=(lN p).1) (by omega) (MC p);have k:=Tv _ (MC p);obtain⟨Q,P,o⟩:=ih (E++(lN p).1) _ h' (by have:=MC p;simp only[eX];omega) (λt l=>(iW.1 l).elim (t0 t) (ahZ t));have l:=MX _ h'.ok;have g:=g (Aa p);obtain⟨m,F⟩:=m (Aa p);refine⟨Q,P,?_⟩;generalize xX:[dG (Aa p),dG q]=xC at *;generalize[dG p,dG q]=DG at *;simp only[kM,Aa,fE,tY,bJ,aW]at A v w hp B l o g m⊢;generalize ak:lN p=PP at *;generalize(E++PP.1).map GV.s=SS at *;generalize d.map jy=AG at *;generalize PP.1.map GV.s=TG at *;generalize E.map GV.s=G0 at *;generalize G.map GV.s=G1 at *;have Dk:(a.gK.tmod 8=0)=False:=eq_false d0;have Yg:a.gK.tmod 8=1/\(a.gK.tmod 8=1)=True\/a.gK.tmod 8=2/\(a.gK.tmod 8=2)=True:=d12.elim (λe=>.inl ⟨e,eq_true e⟩) (λe=>.inr ⟨e,eq_true e⟩);rcases Yg with⟨d1,ab⟩|⟨d1,ab⟩
  ·clear d1 d12 d0;rcases hX with rfl|rfl
   ·refine au rfl rfl ?_;simp -implicitDefEqProofs[-iC,-jh,-jM,N,O,s,jI,f,J,L,A,v,w,Dk,ab,hp,h,k,g1,g2,jB,B,g,m,F,l,o]
   ·refine au rfl rfl ?_;simp -implicitDefEqProofs[-iC,-jh,-jM,N,O,s,jI,f,J,L,Dk,ab,hp,h,k,g1,g2,jB,B,g,m,F,l,o]
  ·have OJ:(a.gK.tmod 8=1)=False:=eq_false (by omega);clear d1 d12 d0;rcases hX with rfl|rfl
   ·refine au rfl rfl ?_;simp -implicitDefEqProofs[-iC,-jh,-jM,N,O,s,jI,f,J,L,A,v,w,Dk,OJ,ab,hp,h,k,g1,g2,jB,B,g,m,F,l,o]
   ·refine au rfl rfl ?_;simp -implicitDefEqProofs[-iC,-jh,-jM,N,O,s,jI,f,J,L,Dk,OJ,ab,hp,h,k,g1,g2,jB,B,g,m,F,l,o]
 have d1:(a.gK.tmod 8=1)=False:=eq_false λe=>d12 (.inl e);have d2:(a.gK.tmod 8=2)=False:=eq_false λe=>d12 (.inr e);have D:(a.gK.tmod 8=0)=False:=eq_false d0;clear d12 d0
 have K:∀u:Q0,u.length<=65536->∃(R:dN×Wg×Int)(Q:Q1),(Q=[GV.i .i64 0,.b true]\/Q=[GV.i .i64 1])/\R=mM u p/\TT.lim 325 (.s u::fE p)=some (wS R)/\TT.lim 280 [dG p,.s u]=some [dG R.1,.l (R.2.1.map .s),.i .i64 R.2.2]/\
  xO 1 16 (some (.l (E.map .s))) (some (.l (R.2.1.map .s)))=some (.l ((E++R.2.1).map .s))/\TT.lim 211 [.l (R.2.1.map .s),.l (R.2.1.map .s)]=some [.b true]/\
  TT.lim 319 ((dG R.1).cells++fE R.1)=some [.i .i64 0,.b true]/\
  TT.lim 11 ([.l [dG R.1,dG q],.l (d.map jy),.i .i64 (d.length:Int),.i .i64 ((i:Int)+1),.l ((E++R.2.1).map .s),.l (G.map .s)]++(fE q++fE R.1))=some Q/\
  (R.1.mn=p.mn/\R.1.mx=p.mx/\R.1.name=p.name/\R.1.first=p.first):=λu hu=>by
  have h':=ahv (t:=u) hq;obtain⟨Q,P,o⟩:=ih (E++(mM u p).2.1) _ h' (by have:=LC u p;simp only[eX];omega) (λt l=>(iW.1 l).elim (t0 t) (afy t));exact⟨_,Q,P,rfl,afq u p (by omega) hs,aiG u p (by omega) hq,RD (by omega) (LC u p),Tv _ (LC u p),MX _ h'.ok,o,YU u p⟩
 by_cases d7:a.gK.tmod 8=7
 ·have nS:(a.gK.tmod 8=7)=True:=eq_true d7;clear d7;obtain⟨R,Q,P,hR,I,B,h,k,l,o,c⟩:=K a.text (by omega);have g:=g R.1;obtain⟨m,F⟩:=m R.1;refine⟨Q,P,?_⟩;clear hR ih K;generalize xX:[dG R.1,dG q]=xC at *;generalize[dG p,dG q]=DG at *;simp only[wS,kM,fE,tY,bJ,aW]at A v w I B l o g m⊢;simp only[c.1,c.2.1,c.2.2.1,c.2.2.2]at l o g;generalize(E++R.2.1).map GV.s=SS at *;generalize R.2.1.map GV.s=TG at *;generalize d.map jy=AG at *;generalize E.map GV.s=G0 at *;generalize G.map GV.s=G1 at *;rcases hX with rfl|rfl
  ·refine au rfl rfl ?_;simp -implicitDefEqProofs[-iC,-jh,-jM,N,O,s,jI,f,J,L,A,v,w,D,d1,d2,nS,I,h,k,g1,g2,jB,B,g,m,F,c,l,o]
  ·refine au rfl rfl ?_;simp -implicitDefEqProofs[-iC,-jh,-jM,N,O,s,jI,f,J,L,D,d1,d2,nS,I,h,k,g1,g2,jB,B,g,m,F,c,l,o]
 have nS:(a.gK.tmod 8=7)=False:=eq_false d7;clear d7;by_cases cs:G.length=0
 ·obtain rfl:=WU.1 cs;obtain⟨R,Q,P,hR,I,B,h,k,l,o,c⟩:=K a.text (by omega);have g:=g R.1;obtain⟨m,F⟩:=m R.1;refine⟨Q,P,?_⟩;clear hR ih K;generalize xX:[dG R.1,dG q]=xC at *;generalize[dG p,dG q]=DG at *;simp only[wS,kM,fE,tY,jO,bJ,aW]at A v w I B l o g m⊢;simp only[c.1,c.2.1,c.2.2.1,c.2.2.2]at l o g;generalize(E++R.2.1).map GV.s=SS at *;generalize R.2.1.map GV.s=TG at *;generalize d.map jy=AG at *;generalize E.map GV.s=G0 at *;rcases hX with rfl|rfl
  ·refine au rfl rfl ?_;simp -implicitDefEqProofs[-iC,-jh,-jM,N,O,s,jI,f,J,L,A,v,w,D,d1,d2,nS,I,h,k,g1,g2,jB,B,g,m,F,c,l,o]
  ·refine au rfl rfl ?_;simp -implicitDefEqProofs[-iC,-jh,-jM,N,O,s,jI,f,J,L,D,d1,d2,nS,I,h,k,g1,g2,jB,B,g,m,F,c,l,o]
 obtain⟨j,hj,ai⟩:=abR (p:=a.pick) (n:=G.length) ha.pick.1 (by omega);obtain⟨t,Ze,xY,H⟩:=adp ai;have ae:=t1 t Ze;have V:IntKind.i64.wrap a.pick=a.pick:=wrap64 (by have:=ha.pick;omega) (by have:=ha.pick;omega);have W:(0:Int)<G.length:=by omega
 have Y:¬(G.length:Int)=0:=by omega
 have Z:((G.map GV.s).length:Int)=(G.length:Int):=by rw[je]
 by_cases d6:a.gK.tmod 8=6
 ·have U:(a.gK.tmod 8=6)=True:=eq_true d6;clear d6;by_cases c0:0<t.length
  ·obtain⟨x,y,z,u,FD,b0,b1,b2,b3,b4,b5,b6⟩:=turned t a.at_ a.Ba ha.at_ ha.Ba c0 ae;have Pj:IntKind.i64.wrap a.at_=a.at_:=wrap64 (by have:=ha.at_;omega) (by have:=ha.at_;omega);have ac:(0<t.length)=True:=eq_true c0;have cn:¬t=[]:=λe=>by rw[e]at c0;exact absurd c0 (by decide)
   have ag:((dw t).length:Int)=(t.length:Int):=by simp -implicitDefEqProofs[dw]
   have hB:(t.map λb=>GV.i .u8 b.toNat)=dw t:=rfl;obtain⟨R,Q,P,hR,I,B,h,k,l,o,c⟩:=K u (by omega);have g:=g R.1;obtain⟨m,F⟩:=m R.1;refine⟨Q,P,?_⟩;clear hR ih K;generalize xX:[dG R.1,dG q]=xC at *;generalize[dG p,dG q]=DG at *;simp only[wS,kM,fE,tY,bJ,aW]at A v w I B l o g m⊢;simp only[c.1,c.2.1,c.2.2.1,c.2.2.2]at l o g;generalize(E++R.2.1).map GV.s=SS at *;generalize R.2.1.map GV.s=TG at *;generalize d.map jy=AG at *;generalize(G.length:Int)=n0 at *;generalize(j:Int)=jj at *;generalize O3:dw t=BT at *;generalize dw u=BU at *;generalize E.map GV.s=G0 at *;generalize G.map GV.s=G1 at *;rcases hX with rfl|rfl
   ·refine au rfl rfl ?_;simp -implicitDefEqProofs[-iC,-jh,-jM,N,O,s,jI,f,J,L,A,v,w,D,d1,d2,nS,U,Z,W,Y,V,hj,H,xY,ac,cn,O3,hB,ag,Pj,b0,b1,b2,b3,b4,b5,b6,I,h,k,g1,g2,jB,B,g,m,F,c,l,o]
   ·refine au rfl rfl ?_;simp -implicitDefEqProofs[-iC,-jh,-jM,N,O,s,jI,f,J,L,D,d1,d2,nS,U,Z,W,Y,V,hj,H,xY,ac,cn,O3,hB,ag,Pj,b0,b1,b2,b3,b4,b5,b6,I,h,k,g1,g2,jB,B,g,m,F,c,l,o]
  ·have ac:(0<t.length)=False:=eq_false c0;obtain⟨R,Q,P,hR,I,B,h,k,l,o,c⟩:=K t ae;have g:=g R.1;obtain⟨m,F⟩:=m R.1;refine⟨Q,P,?_⟩;clear hR ih K;generalize xX:[dG R.1,dG q]=xC at *;generalize[dG p,dG q]=DG at *;simp only[wS,kM,fE,tY,bJ,aW]at A v w I B l o g m⊢;simp only[c.1,c.2.1,c.2.2.1,c.2.2.2]at l o g;generalize(E++R.2.1).map GV.s=SS at *;generalize R.2.1.map GV.s=TG at *;generalize d.map jy=AG at *;generalize(G.length:Int)=n0 at *;generalize(j:Int)=jj at *;generalize E.map GV.s=G0 at *;generalize G.map GV.s=G1 at *;rcases hX with rfl|rfl
   ·refine au rfl rfl ?_;simp -implicitDefEqProofs[-iC,-jh,-jM,N,O,s,jI,f,J,L,A,v,w,D,d1,d2,nS,U,Z,W,Y,V,hj,H,xY,ac,I,h,k,g1,g2,jB,B,g,m,F,c,l,o]
   ·refine au rfl rfl ?_;simp -implicitDefEqProofs[-iC,-jh,-jM,N,O,s,jI,f,J,L,D,d1,d2,nS,U,Z,W,Y,V,hj,H,xY,ac,I,h,k,g1,g2,jB,B,g,m,F,c,l,o]
 have U:(a.gK.tmod 8=6)=False:=eq_false d6;clear d6;obtain⟨R,Q,P,hR,I,B,h,k,l,o,c⟩:=K t ae;have g:=g R.1;obtain⟨m,F⟩:=m R.1;refine⟨Q,P,?_⟩;clear hR ih K;generalize xX:[dG R.1,dG q]=xC at *;generalize[dG p,dG q]=DG at *;simp only[wS,kM,fE,tY,bJ,aW]at A v w I B l o g m⊢;simp only[c.1,c.2.1,c.2.2.1,c.2.2.2]at l o g;generalize(E++R.2.1).map GV.s=SS at *;generalize R.2.1.map GV.s=TG at *;generalize d.map jy=AG at *;generalize(G.length:Int)=n0 at *;generalize(j:Int)=jj at *;generalize E.map GV.s=G0 at *;generalize G.map GV.s=G1 at *;rcases hX with rfl|rfl
 ·refine au rfl rfl ?_;simp -implicitDefEqProofs[-iC,-jh,-jM,N,O,s,jI,f,J,L,A,v,w,D,d1,d2,nS,U,Z,W,Y,V,hj,H,xY,I,h,k,g1,g2,jB,B,g,m,F,c,l,o]
 ·refine au rfl rfl ?_;simp -implicitDefEqProofs[-iC,-jh,-jM,N,O,s,jI,f,J,L,D,d1,d2,nS,U,Z,W,Y,V,hj,H,xY,I,h,k,g1,g2,jB,B,g,m,F,c,l,o]
def aaW(b:List Ac)(j:b.length<=30)(f:∀a∈b,G8 a):∀(m i:Nat)(d e:Wg)(p q:dN),i+m=b.length->d.length<=i->e.length<=i->tC p->tC q->(∀t∈d,t.length<=65536)->(∀t∈e,t.length<=65536)->Hr b (i:Int) d e p q
 |0,i,d,e,p,q,hi,_,_,_,_,_,_=>by
  have l:¬((i:Int)<b.length):=by omega
  refine⟨_,.inr rfl,?_⟩;simp only[fE,bJ,aW];refine au rfl rfl ?_;simp -implicitDefEqProofs[l]
 |m+1,i,d,e,p,q,hi,z,A,B,D,n,o=>by
  have c:i<b.length:=by omega
  have l:(i:Int)<b.length:=by omega
  have s:=f _ (dW c);have E:((i:Int)+1)=((i+1:Nat):Int):=by omega
  by_cases u:Fh b[i]=true;rotate_left
  ·have H:Fh b[i]=false:=by simpa using u
   have v:at2 8 (some (.l (b.map jy))) (some (.i .i64 (i:Int)))=some (jy b[i]):=by rw[iC,aj (by omega),CP,iw,bP c];rfl
   have g:=Xv b[i] s;generalize b[i]=a at *;refine⟨_,.inl rfl,?_⟩;generalize b.map jy=I at *;simp only[fE,bJ,aW];refine au rfl rfl ?_;simp -implicitDefEqProofs[-iC,l,v,jI,g,H]
  have k:∃X:Prop,(128<=b[i].gK)=X/\(X=True\/X=False):=⟨_,rfl,(zh _).elim (λh=>.inl (eq_true h)) (λh=>.inr (eq_false h))⟩
  obtain⟨X,F,k⟩:=k;by_cases G:0<b[i].who
  ·exact axb b j i c d e p q D z A n o s u G X F k λM r w x y=>by rw[E];exact aaW b j f m (i+1) d M p r (by omega) (by omega) x B w n y
  ·exact axa b j i c d e p q B z A n o s u G X F k λM r w x y=>by rw[E];exact aaW b j f m (i+1) M e r q (by omega) x (by omega) w D y o
def ahw{a c:Int}{n:Q0}{f:Bool}(h1:1<=a)(b:a<=c)(d:c<=3)(e:n.length<=256):tC (newS a c n f):=
 ⟨avW h1 b d e,by simp -implicitDefEqProofs[newS],by simp -implicitDefEqProofs[newS],λ_=>by simp -implicitDefEqProofs[newS]⟩
def aCC{s:Q0}(h:iV s 0 256=0):s.length<=256:=by
 unfold iV at h;split at h
 ·cases h
 ·split at h
  ·cases h
  ·omega
def newE(a c:Int)(n:Q0):Int:=if Vp a c≠0 then Vp a c else if 3<c then 16 else iV n 0 256
def ahc(a c:Int)(n:Q0):(a<1/\newE a c n=18)\/(¬a<1/\c<a/\newE a c n=18)\/(¬a<1/\¬c<a/\255<c/\newE a c n=18)\/(¬a<1/\¬c<a/\¬255<c/\3<c/\newE a c n=16)\/(¬a<1/\¬c<a/\¬255<c/\¬3<c/\newE a c n=iV n 0 256):=by
 unfold newE Vp;by_cases b:a<1
 ·exact .inl ⟨b,by simp -implicitDefEqProofs[b]⟩
 by_cases d:c<a
 ·exact .inr (.inl ⟨b,d,by simp -implicitDefEqProofs[b,d]⟩)
 by_cases e:255<c
 ·exact .inr (.inr (.inl ⟨b,d,e,by simp -implicitDefEqProofs[b,d,e]⟩))
 by_cases f:3<c
 ·exact .inr (.inr (.inr (.inl ⟨b,d,e,f,by simp -implicitDefEqProofs[b,d,e,f]⟩)))
 ·exact .inr (.inr (.inr (.inr ⟨b,d,e,f,by simp -implicitDefEqProofs[b,d,e,f]⟩)))
def JQ:GV:=.g [.i .u64 0,.i .u64 0,.s [],.b false,.i .i64 0,.i .i64 0,.i .i64 0,.l [],.i .u64 0,.i .i64 0,.i .u64 0,.l [],.b false]
def aiO(a c:Int)(n:Q0)(f:Bool)(h0:0<=a)(j:n.length<=140737488351232):TT.lim 2 [.i .u64 a,.i .u64 c,.s n,.b f]=some [if newE a c n=0 then dG (newS a c n f)else JQ,.i .i64 (newE a c n)]:=by
 have k:=Iw n 0 256 j;unfold newE Vp;generalize iV n 0 256=N at *;by_cases d:a<1
 ·have b:a=0:=by omega
  refine aG rfl rfl ?_ (by simp -implicitDefEqProofs[d];rfl);simp -implicitDefEqProofs[b,JQ]
 have b:¬a=0:=by omega
 by_cases e:c<a
 ·refine aG rfl rfl ?_ (by simp -implicitDefEqProofs[d,e];rfl);simp -implicitDefEqProofs[d,b,e,JQ]
 by_cases g:255<c
 ·refine aG rfl rfl ?_ (by simp -implicitDefEqProofs[d,e,g];rfl);simp -implicitDefEqProofs[d,b,e,g,JQ]
 by_cases h:3<c
 ·refine aG rfl rfl ?_ (by simp -implicitDefEqProofs[d,e,g,h];rfl);simp -implicitDefEqProofs[d,b,e,g,h,JQ]
 by_cases i:N=0
 ·refine aG rfl rfl ?_ (by simp -implicitDefEqProofs[d,e,g,h,i];rfl);simp -implicitDefEqProofs[d,b,e,g,h,k,i,dG,newS,zS]
 ·refine aG rfl rfl ?_ (by simp -implicitDefEqProofs[d,e,g,h,i];rfl);simp -implicitDefEqProofs[d,b,e,g,h,k,i,JQ]
set_option maxHeartbeats 4000000 in
def axc(a c x y:Int)(n:Q0)(b:List Ac)(h0:0<=a)(h1:0<=x)(v:∀u∈b,G8 u):TT.lim 1 [.g [.i .u64 a,.i .u64 c],.g [.i .u64 x,.i .u64 y],.s n,.l (b.map jy)]=some [.b true]:=by
 have i:((b.map jy).length:Int)=(b.length:Int):=by rw[je]
 by_cases P:600<n.length
 ·have d:(600:Int)<n.length:=by omega
  refine aG rfl rfl ?_ rfl;simp -implicitDefEqProofs[d]
 have d:¬(600:Int)<n.length:=by omega
 by_cases S:30<b.length
 ·have g:(30:Int)<b.length:=by omega
  refine aG rfl rfl ?_ rfl;simp -implicitDefEqProofs[d,i,g]
 have g:¬(30:Int)<b.length:=by omega
 have q:=EX n 0 256 (by omega);have r:=EX [98] 0 256 (by simp);have o:=aiO a c n true h0 (by omega);have h:=aiO x y [98] false h1 (by simp);have T:=ahc a c n;have w:=ahc x y [98];rw[aCD]at r w;have z:iV n 0 256=0->n.length<=256:=aCC;generalize iV n 0 256=N at *;generalize newE a c n=E at *;generalize newE x y [98]=U at *;by_cases f:(¬a<1/\¬c<a/\¬255<c/\¬3<c/\N=0)/\¬x<1/\¬y<x/\¬255<y/\¬3<y
 ·obtain⟨⟨A,B,D,F,G⟩,H,I,J,M⟩:=f;have j:E=0:=by omega
  have k:U=0:=by omega
  obtain⟨Q,V,l⟩:=aaW b (by omega) v b.length 0 [] [] (newS a c n true) (newS x y [98] false) (by omega) (by simp) (by simp) (ahw (by omega) (by omega) (by omega) (z G)) (ahw (by omega) (by omega) (by omega) (by simp)) (by simp) (by simp);rw[j,aj rfl]at o;rw[k,aj rfl]at h;rw[G]at q;simp only[newS,fE,zS,jO,bJ,aW,mZ]at l;simp only[newS,zS]at o h;generalize b.map jy=W at *;generalize(b.length:Int)=L at *;refine aG rfl rfl ?_ rfl;rcases V with rfl|rfl
  ·simp -implicitDefEqProofs[d,g,i,q,r,o,h,A,B,D,F,H,I,J,M,dG]at l⊢;simp -implicitDefEqProofs[l]
  ·simp -implicitDefEqProofs[d,g,i,q,r,o,h,A,B,D,F,H,I,J,M,dG]at l⊢;simp -implicitDefEqProofs[l]
 clear z v;generalize b.map jy=W at *;generalize(b.length:Int)=L at *;have s:N=0\/¬N=0:=zh _;rcases T with⟨m,j⟩|⟨m,p,j⟩|⟨m,p,t,j⟩|⟨m,p,t,O,j⟩|⟨m,p,t,O,j⟩
 all_goals rcases w with⟨d1,k⟩|⟨d1,d2,k⟩|⟨d1,d2,d3,k⟩|⟨d1,d2,d3,d4,k⟩|⟨d1,d2,d3,d4,k⟩
 all_goals rcases s with e|e
 all_goals first
  |exact(f ⟨⟨m,p,t,O,e⟩,d1,d2,d3,d4⟩).elim
  |(clear f h0 h1 P S
    refine aG rfl rfl ?_ rfl;simp -implicitDefEqProofs[*,JQ,dG,newS,zS])
def sessionPlays(gs:Q1)(h:hasArgs [(true,[.int .u64,.int .u64]),(true,[.int .u64,.int .u64]),(false,[.str]),(false,[.list true ac6])] gs):TT.lim 1 gs=some [.b true]:=by
 obtain⟨A,gs,rfl,a,h⟩:=aft h;obtain⟨B,gs,rfl,b,h⟩:=aft h;obtain⟨s,gs,rfl,j,h⟩:=afu h;obtain⟨l,gs,rfl,k,h⟩:=afu h;obtain rfl:=atg h;obtain⟨g1,r1,rfl,d,a⟩:=rZ a;obtain⟨g2,r2,rfl,e,a⟩:=rZ a;obtain rfl:=O6 a;obtain⟨m,rfl,n⟩:=Lu d;obtain⟨o,rfl,-⟩:=Lu e;obtain⟨g1,r1,rfl,d,b⟩:=rZ b;obtain⟨g2,r2,rfl,e,b⟩:=rZ b;obtain rfl:=O6 b;obtain⟨q,rfl,r⟩:=Lu d;obtain⟨u,rfl,-⟩:=Lu e;obtain⟨t,rfl,-⟩:=Uf j;obtain⟨i,rfl,-,v⟩:=YW k;obtain⟨c,w,rfl⟩:=UG (f:=jy) (p:=G8) (xs:=i) λx g=>by
  obtain⟨y,z⟩:=v x g;cases x<;>simp -implicitDefEqProofs[GV.scalar]at z
  exact akH y
 exact axc m o q u t c n.1 r.1 w
