/- What the trees compute: plain laws. -/
import Derived.Test.YtmkkknckcnpljaaGreatDoorKRe8
set_option linter.all false
namespace Go.Proofs.YtmkkknckcnpljaaGreatDoor
open Go Go.aO
set_option maxRecDepth 100000
namespace R
def YA(e:Int)(v:GV)(k:List Sn)(o:k.length<=1000):∀m i:Nat,i+m=k.length->
 TT.lim 162 [.i .u64 e,.l (k.map sn),.i .i64 k.length,.i .i64 i,v]=some (pK ((fJ e (k.drop i)).map (· +i)))
 |0,i,hi=>by
  have h0:k.drop i=[]:=cO (by omega);have h:¬((i:Int)<k.length):=by omega
  refine au rfl rfl ?_;simp[h,h0,fJ,pK]
 |m+1,i,hi=>by
  have a:i<k.length:=by omega
  have h:((i:Int)<k.length):=by omega
  have g:=wrap64 (n:=(i:Int)+1) (by omega) (by omega);have l:TT.lim 162 [.i .u64 e,.l (k.map sn),.i .i64 k.length,.i .i64 ((i:Int)+1),v]=_:=YA e v k o m (i+1) (by omega);have f:k.drop i=k[i]::k.drop (i+1):=dF a;rw[f];by_cases c:k[i].1=e
  ·have d:pK ((fJ e (k[i]::k.drop (i+1))).map (· +i))=[.i .i64 0,.i .i64 (i:Int)]:=by unfold fJ;rw[He,aj (by simpa using c)];simp[pK]
   rw[d];have b:(k[i].1=e)=True:=eq_true c;clear c l;refine au rfl rfl ?_;simp[-List.getElem_cons_drop,h,a,b,g]
  ·have d:pK ((fJ e (k[i]::k.drop (i+1))).map (· +i))=pK ((fJ e (k.drop (i+1))).map (· +(i+1))):=by
    unfold fJ;rw[He,ah (by simpa using c)];cases List.findIdx? (λs:Sn=>decide (s.1=e)) (k.drop (i+1))with
    |none=>rfl
    |some j=>simp only[gB,pK];congr 3;omega
   rw[d];generalize pK ((fJ e (k.drop (i+1))).map (· +(i+1)))=R at *;have b:(k[i].1=e)=False:=eq_false c;clear c d;refine au rfl rfl ?_;simp[-List.getElem_cons_drop,h,a,b,g,l]
def arB(e:Int)(v:GV)(k:List Sn)(b:k.length<=1000)(c:fJ e k=none):
 TT.lim 161 [.i .u64 e,v,.l (k.map sn)]=some [.i .i64 0,.i .i64 0,.b false]:=by
 have a:TT.lim 162 [.i .u64 e,.l (k.map sn),.i .i64 k.length,.i .i64 0,v]=_:=YA e v k b k.length 0 (by omega);rw[bK,c]at a;simp only[acT,pK]at a;refine au rfl rfl ?_;simp[a]
def arE(e:Int)(v:GV)(k:List Sn)(b:k.length<=1000)(j:Nat)(c:fJ e k=some j):
 TT.lim 161 [.i .u64 e,v,.l (k.map sn)]=some [.i .i64 0,.i .i64 (j:Int),.b true]:=by
 have a:TT.lim 162 [.i .u64 e,.l (k.map sn),.i .i64 k.length,.i .i64 0,v]=_:=YA e v k b k.length 0 (by omega);rw[bK,c]at a;simp only[gB,pK,lD]at a;refine au rfl rfl ?_;simp[a]
def avJ(v:Int)(k:List Sn)(b:Int)(i:Kp k):
 TT.lim 160 [.i .i64 v,.l (k.map sn),.i .u64 b]=some (FW (jY v k b)):=by
 have A:=i.len;unfold jY;cases r:k.getLast? with
 |none=>obtain rfl:=last_none r;have d:=af6 (.i .i64 v) (.i .u64 b);refine au rfl rfl ?_;simp[d,FW]
 |some l=>
  obtain⟨m,x,y,a⟩:=last_at r;have d:=af5 (.i .i64 v) (.i .u64 b) k m l x (by omega) y (i.tb l a).good;simp only;by_cases c:l.1=b
  ·rw[aj c];have o:(l.1=b)=True:=eq_true c;clear c;refine au rfl rfl ?_;simp[d,o,FW]
  rw[ah c];cases p:fJ b k with
  |none=>have e:=arB b (.i .i64 v) k (by omega) p;refine au rfl rfl ?_;simp[d,c,e,FW,full]
  |some j=>
   have e:=arE b (.i .i64 v) k (by omega) j p;obtain⟨s,n,-,B⟩:=Lc p;have q:s∈k:=qp n;simp only[n];have f:(j:Int)<k.length:=by omega
   by_cases g:2<=v
   ·rw[aj g];have t:=aqv s l (i.tb s q).good (i.tb l a).good;have u:GV.g [.i .u64 s.1,.l (s.2.map row)]=sn s:=rfl;have w:GV.g [.i .u64 l.1,.l (l.2.map row)]=sn l:=rfl;generalize jV s l=D at *;obtain⟨⟨d1,d2,d3⟩,d4⟩:=D;by_cases h:d4=0
    ·rw[ah (by simpa using h)];have z:(d4=0)=True:=eq_true h;subst h;refine au rfl rfl ?_;simp[d,c,e,g,n,f,u,w,t,FW]
    ·rw[aj h];refine au rfl rfl ?_;simp[d,c,e,g,n,f,u,w,t,FW,h]
   ·rw[ah g];refine au rfl rfl ?_;simp[d,c,e,g,FW,full]
def YB(e:Int)(v b:GV)(k:List Sn)(p:k.length<=1000):∀m i:Nat,i+m=k.length->
 TT.lim 279 [.i .u64 e,.l (k.map sn),.i .i64 k.length,.i .i64 i,v,b]=some (pK ((fJ e (k.drop i)).map (· +i)))
 |0,i,hi=>by
  have h0:k.drop i=[]:=cO (by omega);have h:¬((i:Int)<k.length):=by omega
  refine au rfl rfl ?_;simp[h,h0,fJ,pK]
 |m+1,i,hi=>by
  have a:i<k.length:=by omega
  have h:((i:Int)<k.length):=by omega
  have l:=wrap64 (n:=(i:Int)+1) (by omega) (by omega);have o:TT.lim 279 [.i .u64 e,.l (k.map sn),.i .i64 k.length,.i .i64 ((i:Int)+1),v,b]=_:=YB e v b k p m (i+1) (by omega);have g:k.drop i=k[i]::k.drop (i+1):=dF a;rw[g];by_cases d:k[i].1=e
  ·have f:pK ((fJ e (k[i]::k.drop (i+1))).map (· +i))=[.i .i64 0,.i .i64 (i:Int)]:=by unfold fJ;rw[He,aj (by simpa using d)];simp[pK]
   rw[f];have c:(k[i].1=e)=True:=eq_true d;clear d o;refine au rfl rfl ?_;simp[-List.getElem_cons_drop,h,a,c,l]
  ·have f:pK ((fJ e (k[i]::k.drop (i+1))).map (· +i))=pK ((fJ e (k.drop (i+1))).map (· +(i+1))):=by
    unfold fJ;rw[He,ah (by simpa using d)];cases List.findIdx? (λs:Sn=>decide (s.1=e)) (k.drop (i+1))with
    |none=>rfl
    |some j=>simp only[gB,pK];congr 3;omega
   rw[f];generalize pK ((fJ e (k.drop (i+1))).map (· +(i+1)))=R at *;have c:(k[i].1=e)=False:=eq_false d;clear d f;refine au rfl rfl ?_;simp[-List.getElem_cons_drop,h,a,c,l,o]
def arC(e:Int)(v b:GV)(k:List Sn)(c:k.length<=1000)(d:fJ e k=none):
 TT.lim 278 [.i .u64 e,v,.l (k.map sn),b]=some [.i .i64 0,.i .i64 0,.b false]:=by
 have a:TT.lim 279 [.i .u64 e,.l (k.map sn),.i .i64 k.length,.i .i64 0,v,b]=_:=YB e v b k c k.length 0 (by omega);rw[bK,d]at a;simp only[acT,pK]at a;refine au rfl rfl ?_;simp[a]
def arF(e:Int)(v b:GV)(k:List Sn)(c:k.length<=1000)(j:Nat)(d:fJ e k=some j):
 TT.lim 278 [.i .u64 e,v,.l (k.map sn),b]=some [.i .i64 0,.i .i64 (j:Int),.b true]:=by
 have a:TT.lim 279 [.i .u64 e,.l (k.map sn),.i .i64 k.length,.i .i64 0,v,b]=_:=YB e v b k c k.length 0 (by omega);rw[bK,d]at a;simp only[gB,pK,lD]at a;refine au rfl rfl ?_;simp[a]
def akM(e:Int)(v:GV)(k:List Sn)(b:Int)(f:k.length<=1000):
 TT.lim 277 [.i .u64 e,v,.l (k.map sn),.i .u64 b]=some [.i .i64 0,.b (rJ e k b).1,.l ((rJ e k b).2.1.map sn),.i .u64 (rJ e k b).2.2]:=by
 unfold rJ;by_cases a:e<=b
 ·rw[aj a];refine au rfl rfl ?_;simp[a]
 ·rw[ah a];cases c:fJ e k with
  |none=>have d:=arC e v (.i .u64 b) k f c;refine au rfl rfl ?_;simp[a,d]
  |some j=>
   have d:=arF e v (.i .u64 b) k f j c;obtain⟨x,-,-,m⟩:=Lc c;have g:=UM (k:=k) (i:=j) (by omega);have h:=aby (k.drop j)
   have l:2*(k.drop j).length*32<=281474976710656/\(k.drop j).length<=281474976710656:=by rw[dH];omega
   show _=some [_,_,GV.l ((k.drop j).map sn),_]
   generalize k.drop j=R at *;refine au rfl rfl ?_;simp[-nI,-List.all_eq_true,-List.all_map,a,d,g,h,l]
def zV(a x:Int):Int:=if a<x then x else a
def nN(c y:Int):Int:=if y<c then y else c
def kY(a c x y:Int):Int×Bool:=if nN c y<zV a x then(0,false)else(nN c y,true)
def amc(a c x y:Int):TT.lim 254 [.g [.i .u64 a,.i .u64 c],.g [.i .u64 x,.i .u64 y]]=some [.i .u64 (kY a c x y).1,.b (kY a c x y).2]:=by
 have e:∀p q:Int,TT.lim 256 [.l [.g [.i .u64 x,.i .u64 y]],.i .i64 1,.i .i64 1,.i .u64 p,.i .u64 q]=some [.i .i64 0,.i .u64 p,.i .u64 q]:=by intro p q;refine au rfl rfl ?_;simp
 have d:TT.lim 256 [.l [.g [.i .u64 x,.i .u64 y]],.i .i64 1,.i .i64 0,.i .u64 a,.i .u64 c]=some [.i .i64 0,.i .u64 (zV a x),.i .u64 (nN c y)]:=by have h:=e (zV a x) (nN c y);have w:IntKind.i64.wrap 1=1:=rfl;refine au rfl rfl ?_;simp[w];exact h
 have f:TT.lim 255 [.l [.g [.i .u64 a,.i .u64 c],.g [.i .u64 x,.i .u64 y]]]=some [.i .u64 (kY a c x y).1,.b (kY a c x y).2]:=by
  unfold kY;by_cases b:nN c y<zV a x
  ·rw[aj b];refine aG rfl rfl ?_ rfl;simp[d,b]
  ·rw[ah b];refine aG rfl rfl ?_ rfl;simp[d,b]
 refine aG rfl rfl ?_ rfl;simp[f]
def jE(b:aN)(v:Int):Wg:=if(wK b [] v).2=0 then[(wK b [] v).1]else[]
def Qi{b:aN}(c:vV b [])(v:Int):TT.lim 43 [dU b [],.i .i64 v]=some [.l ((jE b v).map .s)]:=by
 have a:=awF c v;have a:TT.lim 44 [dU b [],.i .i64 v]=some [.s (wK b [] v).1,.i .i64 (wK b [] v).2]:=a;unfold jE;generalize wK b [] v=E at *;obtain⟨t,e⟩:=E;by_cases h:e=0
 ·rw[aj h];subst h;refine aG rfl rfl ?_ rfl;simp[eF,a]
 ·rw[ah h];refine aG rfl rfl ?_ rfl;simp[eF,a,h]
def ai2(b:aN)(v:Int):(jE b v).length<=1:=by unfold jE;split<;>simp
structure dN where
 mn:Int
 mx:Int
 name:Q0
 first:Bool
 st:Int
 ver:Int
 vs:Int
 sm:Bool
 h:Sn
 k:List Sn
 b:Int
structure pF(s:dN):Prop where
 mn:1<=s.mn
 mx:s.mx<=3
 le:s.mn<=s.mx
 name:s.name.length<=256
 ver:0<=s.ver/\s.ver<=3
 rc:Rec s.vs s.sm s.h
 kp:Kp s.k
def fE(s:dN):Q1:=[.i .u64 s.mn,.i .u64 s.mx,.s s.name,.b s.first,.i .i64 s.st,.i .i64 s.ver,.i .i64 s.vs,.b s.sm,.i .u64 s.h.1,.l (s.h.2.map row),.l (s.k.map sn),.i .u64 s.b]
def Nk{b:aN}(a:lC b)(c:b.d=[])(d:dR b.t)(h1:b.name.length<=600)(e:b.region=[])(f:b.note=[]):vV b []:=
 ⟨⟨a,by rw[c];rfl,d,by simp only[dO],by simp⟩,⟨h1,by rw[e];simp,by rw[f];simp⟩,by simp[cZ],by simp[wL]⟩
def JE(m:Tm):aN:=RH m.1 m.2.1 m.2.2.1 m.2.2.2
def lN(s:dN):Wg×Int:=
 if s.st=2 then(if(jY s.vs s.k s.b).2=0 then(jE (JE (jY s.vs s.k s.b).1) s.ver,2)else([],2))
 else if s.first=true then(if s.st=3 then([],3)else(jE (FB s.mn s.mx s.name) 1,1))else([],s.st)
def afz{a c:Int}{n:Q0}(b:0<=a/\a<18446744073709551616)(d:0<=c/\c<18446744073709551616)(e:n.length<=600):vV (FB a c n) []:=by refine Nk ?_ rfl xA.good e rfl rfl;refine⟨?_,?_,b,d,?_,?_,?_,?_,?_,?_,?_,?_,?_,?_,?_,?_,?_,?_,?_,?_,?_,?_⟩<;>first|(simp only[FB];omega)|simp[FB,lU,Rows]
def ajL{v:Int}{k:List Sn}{b:Int}(c:Kp k):vV (JE (jY v k b).1) []:=by obtain⟨d,e,f,a⟩:=avK (v:=v) (b:=b) c;exact Nk (alc d e f a.rows) rfl a (by simp[JE,RH]) rfl rfl
def Vf(s:dN)(d:pF s):TT.lim 324 (fE s)=some [.i .i64 0,.l ((lN s).1.map .s),.i .i64 (lN s).2]:=by
 have i:=avJ s.vs s.k s.b d.kp;have p:=d.mn;have q:=d.mx;have r:=d.le;have t:=d.name;have m:TT.lim 43 [.g [.i .i64 1,.i .u64 0,.i .u64 s.mn,.i .u64 s.mx,.i .u64 0,.i .u64 0,.i .u64 0,.i .u64 0,.i .u64 0,.i .u64 0,.i .u64 0,.i .u64 0,.i .u64 0,.i .u64 0,.i .u64 0,.i .u64 0,.i .i64 0,.b false,.s s.name,.s [],.s [],.l [],.l [],.l []],.i .i64 1]=some [.l ((jE (FB s.mn s.mx s.name) 1).map .s)]:=Qi (afz (a:=s.mn) (c:=s.mx) (n:=s.name) (by omega) (by omega) (by omega)) 1;have k:=Qi (ajL (v:=s.vs) (b:=s.b) d.kp) s.ver;unfold lN;unfold fE;generalize jY s.vs s.k s.b=M at *;have k:TT.lim 43 [.g [.i .i64 M.1.1,.i .u64 0,.i .u64 0,.i .u64 0,.i .u64 0,.i .u64 0,.i .u64 0,.i .u64 0,.i .u64 0,.i .u64 0,.i .u64 M.1.2.1,.i .u64 M.1.2.2.1,.i .u64 0,.i .u64 0,.i .u64 0,.i .u64 0,.i .i64 0,.b false,.s [],.s [],.s [],.l [],.l (M.1.2.2.2.map row),.l []],.i .i64 s.ver]=some [.l ((jE (JE M.1) s.ver).map .s)]:=k;generalize jE (FB s.mn s.mx s.name) 1=Y at *;generalize jE (JE M.1) s.ver=W at *;simp only[FW]at i;by_cases f:s.st=2
 ·rw[aj f];have g:(s.st=2)=True:=eq_true f;by_cases e:M.2=0
  ·rw[aj e];have u:(M.2=0)=True:=eq_true e;rw[e]at i;refine au rfl rfl ?_;simp[g,i,k]
  ·rw[ah e];refine au rfl rfl ?_;simp[g,i,e]
 rw[ah f];by_cases h:s.first=true
 ·rw[aj h];by_cases j:s.st=3
  ·rw[aj j];have l:(s.st=3)=True:=eq_true j;refine au rfl rfl ?_;simp[f,h,l]
  ·rw[ah j];refine au rfl rfl ?_;simp[f,h,j,m]
 ·rw[ah h];have o:s.first=false:=by simpa using h
  refine au rfl rfl ?_;simp[f,o]
def Vj(x:Sn)(s:dN)(a:dR x.2)(b:pF s):TT.lim 323 (.i .u64 x.1::.l (x.2.map row)::fE s)=some [.i .i64 0,.i .i64 (mX x s.k s.b).1,.l ((mX x s.k s.b).2.1.map sn),.i .u64 (mX x s.k s.b).2.2]:=by have c:=axm x (.i .i64 s.vs) s.k s.b a b.kp;unfold fE;generalize mX x s.k s.b=P at *;refine au rfl rfl ?_;simp[c]
def zq(v:Int)(n:Q0):aN:={gU with kind:=2,chosen:=v,name:=n}
def Gs:aN:={gU with kind:=8,code:=16}
def ac7{v:Int}{n:Q0}(a:0<=v/\v<18446744073709551616)(b:n.length<=600):vV (zq v n) []:=by refine Nk ?_ rfl xA.good b rfl rfl;refine⟨?_,?_,?_,?_,a,?_,?_,?_,?_,?_,?_,?_,?_,?_,?_,?_,?_,?_,?_,?_,?_,?_⟩<;>first|(simp only[zq];omega)|simp[zq,gU,lU,Rows]
def aix:vV Gs []:=by refine Nk ?_ rfl xA.good (by simp[Gs,gU]) rfl rfl;refine⟨?_,?_,?_,?_,?_,?_,?_,?_,?_,?_,?_,?_,?_,?_,?_,?_,?_,?_,?_,?_,?_,?_⟩<;>simp[Gs,gU,lU,Rows]
def ac8(s:dN)(a:pF s)(b:0<=s.ver/\s.ver<=3):TT.lim 327 (fE s)=some [.i .i64 0,.l ((jE (zq s.ver s.name) 1).map .s)]:=by have e:=a.name;have c:=dn (n:=s.ver) b.1 (by omega);have d:TT.lim 43 [.g [.i .i64 2,.i .u64 0,.i .u64 0,.i .u64 0,.i .u64 s.ver,.i .u64 0,.i .u64 0,.i .u64 0,.i .u64 0,.i .u64 0,.i .u64 0,.i .u64 0,.i .u64 0,.i .u64 0,.i .u64 0,.i .u64 0,.i .i64 0,.b false,.s s.name,.s [],.s [],.l [],.l [],.l []],.i .i64 1]=some [.l ((jE (zq s.ver s.name) 1).map .s)]:=Qi (ac7 (v:=s.ver) (n:=s.name) (by omega) (by omega)) 1;unfold fE;generalize jE (zq s.ver s.name) 1=Y at *;refine au rfl rfl ?_;simp[c,d]
def ama{a c x y:Int}(h:(kY a c x y).2=true):zV a x<=(kY a c x y).1/\(kY a c x y).1=nN c y:=by
 unfold kY at h⊢;split
 ·next b=>rw[aj b]at h;cases h
 ·exact⟨by simp only;omega,rfl⟩
def Ya{a c x y:Int}(h:(kY a c x y).2=true):a<=(kY a c x y).1/\x<=(kY a c x y).1/\(kY a c x y).1<=c/\(kY a c x y).1<=y:=by obtain⟨b,d⟩:=ama h;generalize(kY a c x y).1=z at *;unfold zV at b;unfold nN at d;split at b<;>split at d<;>omega
def kQ(m:aN)(s:dN):dN×Wg×Int:=
 if s.first=true then(s,[],22)else if m.min<1 then(s,[],18)else if m.max<m.min then(s,[],18)else if 255<m.max then(s,[],18)else
 if s.st=2 then(if(kY s.mn s.mx m.min m.max).2=true/\(kY s.mn s.mx m.min m.max).1=s.ver then(s,jE (zq s.ver s.name) 1,0)else(s,[],22))
 else if(kY s.mn s.mx m.min m.max).2=false\/s.st=3 then({s with st:=3},jE Gs 1,16)
 else({s with st:=2,ver:=(kY s.mn s.mx m.min m.max).1,vs:=(kY s.mn s.mx m.min m.max).1},jE (zq (kY s.mn s.mx m.min m.max).1 s.name) 1,0)
def atv(m:aN)(y:List aH)(s:dN)(z:m.kind=1)(a:pF s):TT.lim 326 ((dU m (aC y)).cells++fE s)=some [.i .i64 0,.l ((kQ m s).2.1.map .s),.i .i64 (kQ m s).2.2,.i .i64 (kQ m s).1.st,.i .i64 (kQ m s).1.ver,.i .i64 (kQ m s).1.vs]:=by
 have i:=amc s.mn s.mx m.min m.max;have A:=@Ya s.mn s.mx m.min m.max;have x:TT.lim 43 [.g [.i .i64 8,.i .u64 0,.i .u64 0,.i .u64 0,.i .u64 0,.i .u64 0,.i .u64 0,.i .u64 0,.i .u64 0,.i .u64 0,.i .u64 0,.i .u64 0,.i .u64 0,.i .u64 0,.i .u64 16,.i .u64 0,.i .i64 0,.b false,.s [],.s [],.s [],.l [],.l [],.l []],.i .i64 1]=some [.l ((jE Gs 1).map .s)]:=Qi aix 1;have r:=ac8 s a a.ver;have k:=λ(v:Int)(h:1<=v/\v<=3)=>ac8 {s with st:=2,ver:=v,vs:=v} ⟨a.mn,a.mx,a.le,a.name,⟨by simp only;omega,h.2⟩,⟨h.1,h.2,a.rc.good,a.rc.ep,a.rc.no⟩,a.kp⟩ ⟨by simp only;omega,h.2⟩;have E:=a.mn;have F:=a.mx;have B:=a.ver;have l:=dn (n:=s.ver) B.1 (by omega);rw[dK];unfold kQ;simp only[fE,bJ,aW]at r k⊢;generalize kY s.mn s.mx m.min m.max=C at *;generalize jE Gs 1=G at *;rw[z];by_cases p:s.first=true
 ·rw[aj p];refine au rfl rfl ?_;simp[p]
 rw[ah p];have o:s.first=false:=by simpa using p
 rw[o]at r k;simp only[o];by_cases b:m.min<1
 ·rw[aj b];refine au rfl rfl ?_;simp[b]
 rw[ah b];by_cases d:m.max<m.min
 ·rw[aj d];refine au rfl rfl ?_;simp[b,d]
 rw[ah d];by_cases f:255<m.max
 ·rw[aj f];refine au rfl rfl ?_;simp[b,d,f]
 rw[ah f];by_cases j:s.st=2
 ·rw[aj j];have t:(s.st=2)=True:=eq_true j;by_cases c:C.2=true
  ·by_cases g:C.1=s.ver
   ·rw[aj ⟨c,g⟩];have u:(C.1=s.ver)=True:=eq_true g;refine au rfl rfl ?_;simp[b,d,f,t,i,c,u,l,r]
   ·rw[ah (λh=>g h.2)];refine au rfl rfl ?_;simp[b,d,f,t,i,c,g,l]
  ·rw[ah (λh=>c h.1)];have q:C.2=false:=by simpa using c
   refine au rfl rfl ?_;simp[b,d,f,t,i,q]
 rw[ah j];by_cases c:C.2=true;rotate_left
 ·have q:C.2=false:=by simpa using c
  rw[aj (.inl q)];refine au rfl rfl ?_;simp[b,d,f,j,i,q,x]
 by_cases g:s.st=3
 ·rw[aj (.inr g)];have u:(s.st=3)=True:=eq_true g;refine au rfl rfl ?_;simp[b,d,f,j,i,c,u,x]
 rw[ah (λh=>h.elim (λe=>by rw[c]at e;cases e) g)];obtain⟨H,I,J,L⟩:=A c;have k:=k C.1 ⟨by omega,by omega⟩;have w:=wrap64 (n:=C.1) (by omega) (by omega);have g1:1<=C.1:=by omega
 have D:C.1<=3:=by omega
 refine au rfl rfl ?_;simp[b,d,f,j,i,c,g,w,g1,D,k]
def Bz(m:aN)(s:dN):dN×Wg×Int:=
 if s.st=1 then(if s.mn<=m.chosen/\m.chosen<=s.mx then({s with st:=2,ver:=m.chosen,vs:=m.chosen},[],0)else({s with st:=3},[],16))
 else if s.st=2/\s.first=true/\m.chosen=s.ver then(s,[],0)else(s,[],22)
def kT(m:aN)(a:List aH)(s:dN):dN×Wg×Int:=
 if s.st=2 then
  ({s with sm:=(nM (fH m a s.vs) s.vs m.kind m.epoch m.base m.t s.sm s.h).2.2.1,h:=(nM (fH m a s.vs) s.vs m.kind m.epoch m.base m.t s.sm s.h).2.2.2},
   if(nM (fH m a s.vs) s.vs m.kind m.epoch m.base m.t s.sm s.h).1.1=0 then[]else jE (iT (nM (fH m a s.vs) s.vs m.kind m.epoch m.base m.t s.sm s.h).1) s.ver,
   (nM (fH m a s.vs) s.vs m.kind m.epoch m.base m.t s.sm s.h).2.1)
 else(s,[],22)
def oJ(m:aN)(s:dN):dN×Wg×Int:=
 if s.st=2 then({s with k:=(rJ m.epoch s.k s.b).2.1,b:=(rJ m.epoch s.k s.b).2.2},[],0)else(s,[],22)
def noS(m:aN)(s:dN):dN×Wg×Int:=
 if s.st=2 then({s with b:=0},[],0)else if s.st=1/\m.code=16 then({s with st:=3},[],16)else(s,[],22)
def zZ(m:aN)(a:List aH)(s:dN):dN×Wg×Int:=
 if m.kind=1 then kQ m s else if m.kind=2 then Bz m s else if m.kind=5\/m.kind=6 then kT m a s else if m.kind=7 then oJ m s else if m.kind=8 then noS m s else(s,[],15)
def uG(s:dN):Int:=if s.st=2 then s.ver else 1
def mM(t:Q0)(s:dN):dN×Wg×Int:=
 if(ou t (uG s)).2.2=0 then zZ (ou t (uG s)).1 (ou t (uG s)).2.1 s else(s,[],(ou t (uG s)).2.2)
def wS(r:dN×Wg×Int):Q1:=[.i .i64 0,.l (r.2.1.map .s),.i .i64 r.2.2,.i .i64 r.1.st,.i .i64 r.1.ver,.i .i64 r.1.vs,.b r.1.sm,.i .u64 r.1.h.1,.l (r.1.h.2.map row),.l (r.1.k.map sn),.i .u64 r.1.b]
def take_zero(c v kd b d:Int)(t:List Row)(e:Bool)(h:Sn)(h0:(nM c v kd b d t e h).1.1=0):(nM c v kd b d t e h).1=(0,0,0,0):=by
 unfold nM at h0⊢;split
 ·rfl
 next f=>
 rw[ah f]at h0;split
 ·next a=>
  rw[aj a]at h0;split at h0<;>simp at h0
 next a=>
 rw[ah a]at h0;split
 ·next g=>
  rw[aj g]at h0;split at h0
  ·simp at h0
  ·split at h0<;>simp at h0
 ·rfl
def aBs(m:aN)(a:List aH)(s:dN)(f:qw m a)(q:pF s):TT.lim 328 ((dU m (aC a)).cells++fE s)=some [.i .i64 0,.l ((kT m a s).2.1.map .s),.i .i64 (kT m a s).2.2,.b (kT m a s).1.sm,.i .u64 (kT m a s).1.h.1,.l ((kT m a s).1.h.2.map row)]:=by
 have k:=aB7 m a s.vs s.sm s.h f.body f.t f.f8 f.len q.rc.good;obtain⟨y,u,z⟩:=aa8 q.rc (fH m a s.vs) m.kind m.epoch m.base m.t f.t f.body.epoch;have r:=take_zero (fH m a s.vs) s.vs m.kind m.epoch m.base m.t s.sm s.h;unfold kT;by_cases n:s.st=2;rotate_left
 ·rw[ah n,dK];simp only[fE,bJ,aW];refine au rfl rfl ?_;simp[n]
 rw[aj n];have l:(s.st=2)=True:=eq_true n;rw[dK]at k⊢;simp only[fE,bJ,aW]at k⊢;generalize nM (fH m a s.vs) s.vs m.kind m.epoch m.base m.t s.sm s.h=R at *;obtain⟨⟨b,g,i,j⟩,e,A,h⟩:=R;have t:vV (iT (b,g,i,j)) []:=Nk u rfl xA.good (by simp[iT]) rfl rfl;have p:TT.lim 43 [.g [.i .i64 b,.i .u64 0,.i .u64 0,.i .u64 0,.i .u64 0,.i .u64 0,.i .u64 0,.i .u64 0,.i .u64 0,.i .u64 0,.i .u64 g,.i .u64 0,.i .u64 0,.i .u64 0,.i .u64 i,.i .u64 j,.i .i64 0,.b false,.s [],.s [],.s [],.l [],.l [],.l []],.i .i64 s.ver]=some [.l ((jE (iT (b,g,i,j)) s.ver).map .s)]:=Qi t s.ver;have o:TT.lim 265 [.g [.i .i64 b,.i .u64 0,.i .u64 0,.i .u64 0,.i .u64 0,.i .u64 0,.i .u64 0,.i .u64 0,.i .u64 0,.i .u64 0,.i .u64 g,.i .u64 0,.i .u64 0,.i .u64 0,.i .u64 i,.i .u64 j,.i .i64 0,.b false,.s [],.s [],.s [],.l [],.l [],.l []],.g [.i .i64 0,.i .u64 0,.i .u64 0,.i .u64 0,.i .u64 0,.i .u64 0,.i .u64 0,.i .u64 0,.i .u64 0,.i .u64 0,.i .u64 0,.i .u64 0,.i .u64 0,.i .u64 0,.i .u64 0,.i .u64 0,.i .i64 0,.b false,.s [],.s [],.s [],.l [],.l [],.l []]]=some [.b (dP (iT (b,g,i,j)=gU/\([]:List aH)=[]))]:=by
  have:=t.msg.avj (fc:=[]) G6 (by simp[cZ]);have fn:aC []=[]:=by simp only[aC]
  rw[fn]at this;exact this
 generalize jE (iT (b,g,i,j)) s.ver=W at *;simp only[xw]at k;simp only at r⊢;by_cases c:b=0
 ·rw[aj c];have d:=r c;injection d with v d
  injection d with w d
  injection d with x d
  subst v w x d;rw[lK ⟨rfl,rfl⟩]at o;refine au rfl rfl ?_;simp[l,k,o]
 ·rw[ah c];rw[kH (λh=>c (tX aN.kind h.1))]at o;refine au rfl rfl ?_;simp[l,k,o,p]
def akO(m:aN)(c:List aH)(s:dN)(d:pF s):TT.lim 329 ((dU m (aC c)).cells++fE s)=some [.i .i64 0,.i .i64 (oJ m s).2.2,.l ((oJ m s).1.k.map sn),.i .u64 (oJ m s).1.b]:=by
 have e:=akM m.epoch (.i .i64 s.vs) s.k s.b (by have:=d.kp.len;omega);unfold oJ;by_cases a:s.st=2;rotate_left
 ·rw[ah a,dK];simp only[fE,bJ,aW];refine au rfl rfl ?_;simp[a]
 rw[aj a];have b:(s.st=2)=True:=eq_true a;rw[dK];simp only[fE,bJ,aW];generalize rJ m.epoch s.k s.b=A at *;refine au rfl rfl ?_;simp[b,e]
def atu(m:aN)(s:dN):(kQ m s).1.sm=s.sm/\(kQ m s).1.h=s.h/\(kQ m s).1.k=s.k/\(kQ m s).1.b=s.b/\(kQ m s).1.mn=s.mn/\(kQ m s).1.mx=s.mx/\(kQ m s).1.name=s.name/\(kQ m s).1.first=s.first:=by
 unfold kQ;repeat' split
 all_goals simp
set_option maxHeartbeats 2000000 in
def afq(t:Q0)(s:dN)(M:t.length<=140737488351232)(w:pF s):TT.lim 325 (.s t::fE s)=some (wS (mM t s)):=by
 have b:=decode_ok t (uG s) M;have L:=S9 t (uG s);unfold mM;generalize ou t (uG s)=D at *;obtain⟨m,c,e⟩:=D;simp only at b L⊢;have l:=atv m c s;have i:=aBs m c s L w;have x:=akO m c s w;have p:=atu m s;have N:=w.ver;have y:=dn (n:=s.ver) N.1 (by omega);have O:=w.mn;have P:=w.mx;rw[dK]at l i x;unfold uG at b;unfold wS;have j:s.st=2\/¬s.st=2:=zh _;by_cases z:e=0;rotate_left
 ·rw[ah z];simp only[fE];rcases j with a|a
  ·rw[aj a]at b;have q:(s.st=2)=True:=eq_true a;refine au rfl rfl ?_;simp[q,b,z]
  ·rw[ah a]at b;refine au rfl rfl ?_;simp[a,b,z]
 rw[aj z];subst z;unfold zZ;by_cases k:m.kind=1
 ·rw[aj k];have l:=l k w;obtain⟨Q,S,T,U,-⟩:=p;rw[Q,S,T,U];generalize kQ m s=H at *;simp only[fE,bJ,aW]at l⊢;rw[k]at l;have V:(m.kind=1)=True:=eq_true k;rcases j with a|a
  ·rw[aj a]at b;have q:(s.st=2)=True:=eq_true a;rw[a]at l;refine au rfl rfl ?_;simp[a,b,k,l]
  ·rw[ah a]at b;refine au rfl rfl ?_;simp[a,b,k,l]
 rw[ah k];by_cases d:m.kind=2
 ·rw[aj d];have W:(m.kind=2)=True:=eq_true d;unfold Bz;simp only[fE];rcases j with a|a
  ·rw[aj a]at b;rw[ah (by omega)];have q:(s.st=2)=True:=eq_true a;by_cases A:s.first=true
   ·by_cases B:m.chosen=s.ver
    ·rw[aj ⟨a,A,B⟩];have X:(m.chosen=s.ver)=True:=eq_true B;refine au rfl rfl ?_;simp[a,b,d,A,X,y]
    ·rw[ah (λh=>B h.2.2)];refine au rfl rfl ?_;simp[a,b,d,A,B,y]
   ·rw[ah (λh=>A h.2.1)];have Y:s.first=false:=by simpa using A
    refine au rfl rfl ?_;simp[a,b,d,Y]
  ·rw[ah a]at b;by_cases f:s.st=1
   ·rw[aj f];by_cases r1:s.mn<=m.chosen
    ·by_cases r2:m.chosen<=s.mx
     ·rw[aj ⟨r1,r2⟩];have g1:1<=m.chosen:=by omega
      have Z:m.chosen<=3:=by omega
      have I:=wrap64 (n:=m.chosen) (by omega) (by omega);refine au rfl rfl ?_;simp[f,b,d,r1,r2,I,g1,Z]
     ·rw[ah (λh=>r2 h.2)];refine au rfl rfl ?_;simp[f,b,d,r1,r2]
    ·rw[ah (λh=>r1 h.1)];refine au rfl rfl ?_;simp[f,b,d,r1]
   ·rw[ah f,ah (λh=>a h.1)];refine au rfl rfl ?_;simp[f,a,b,d]
 rw[ah d];by_cases r:m.kind=5
 ·rw[aj (.inl r)];have g:(kT m c s).1.st=s.st/\(kT m c s).1.ver=s.ver/\(kT m c s).1.vs=s.vs/\(kT m c s).1.k=s.k/\(kT m c s).1.b=s.b:=by unfold kT;split<;>simp
  rw[g.1,g.2.1,g.2.2.1,g.2.2.2.1,g.2.2.2.2];generalize kT m c s=H at *;simp only[fE,bJ,aW]at i⊢;rw[r]at i;rcases j with a|a
  ·rw[aj a]at b;rw[a]at i;refine au rfl rfl ?_;simp[a,b,r,i]
  ·rw[ah a]at b;refine au rfl rfl ?_;simp[a,b,r,i]
 by_cases u:m.kind=6
 ·rw[aj (.inr u)];have g:(kT m c s).1.st=s.st/\(kT m c s).1.ver=s.ver/\(kT m c s).1.vs=s.vs/\(kT m c s).1.k=s.k/\(kT m c s).1.b=s.b:=by unfold kT;split<;>simp
  rw[g.1,g.2.1,g.2.2.1,g.2.2.2.1,g.2.2.2.2];generalize kT m c s=H at *;simp only[fE,bJ,aW]at i⊢;rw[u]at i;rcases j with a|a
  ·rw[aj a]at b;rw[a]at i;refine au rfl rfl ?_;simp[a,b,u,i]
  ·rw[ah a]at b;refine au rfl rfl ?_;simp[a,b,u,i]
 rw[ah (λh=>h.elim r u)];by_cases v:m.kind=7
 ·rw[aj v];have g:(oJ m s).1.st=s.st/\(oJ m s).1.ver=s.ver/\(oJ m s).1.vs=s.vs/\(oJ m s).1.sm=s.sm/\(oJ m s).1.h=s.h/\(oJ m s).2.1=[]:=by unfold oJ;split<;>simp
  rw[g.1,g.2.1,g.2.2.1,g.2.2.2.1,g.2.2.2.2.1,g.2.2.2.2.2];generalize oJ m s=H at *;simp only[fE,bJ,aW]at x⊢;rw[v]at x;rcases j with a|a
  ·rw[aj a]at b;rw[a]at x;refine au rfl rfl ?_;simp[a,b,v,x]
  ·rw[ah a]at b;refine au rfl rfl ?_;simp[a,b,v,x]
 rw[ah v];by_cases o:m.kind=8
 ·rw[aj o];unfold noS;simp only[fE];rcases j with a|a
  ·rw[aj a]at b;rw[aj a];refine au rfl rfl ?_;simp[a,b,o]
  ·rw[ah a]at b;rw[ah a];by_cases f:s.st=1
   ·by_cases E:m.code=16
    ·rw[aj ⟨f,E⟩];have J:(m.code=16)=True:=eq_true E;refine au rfl rfl ?_;simp[f,b,o,J]
    ·rw[ah (λh=>E h.2)];refine au rfl rfl ?_;simp[f,b,o,E]
   ·rw[ah (λh=>f h.1)];refine au rfl rfl ?_;simp[f,a,b,o]
 ·rw[ah o];simp only[fE];by_cases F:m.kind=3
  ·rcases j with a|a
   ·rw[aj a]at b;refine au rfl rfl ?_;simp[a,b,F]
   ·rw[ah a]at b;refine au rfl rfl ?_;simp[a,b,F]
  by_cases G:m.kind=4
  ·rcases j with a|a
   ·rw[aj a]at b;refine au rfl rfl ?_;simp[a,b,G]
   ·rw[ah a]at b;refine au rfl rfl ?_;simp[a,b,G]
  rcases j with a|a
  ·rw[aj a]at b;refine au rfl rfl ?_;simp[a,b,k,d,F,G,r,u,v,o]
  ·rw[ah a]at b;refine au rfl rfl ?_;simp[a,b,k,d,F,G,r,u,v,o]
def kM(x:Sn)(s:dN):dN:={s with k:=(mX x s.k s.b).2.1,b:=(mX x s.k s.b).2.2}
def aa2{x:Sn}{s:dN}(a:pF s)(b:dR x.2)(h0:0<=x.1/\x.1<18446744073709551616):pF (kM x s):=
 ⟨a.mn,a.mx,a.le,a.name,a.ver,a.rc,axn a.kp b h0⟩
def Aa(s:dN):dN:={s with st:=(lN s).2}
def LC(t:Q0)(s:dN):(mM t s).2.1.length<=1:=by
 unfold mM;split;rotate_left
 ·simp
 unfold zZ kQ Bz kT oJ noS;repeat' split
 all_goals first|exact ai2 _ _|simp
def MC(s:dN):(lN s).1.length<=1:=by
 unfold lN;repeat' split
 all_goals first|exact ai2 _ _|simp
def YU(t:Q0)(s:dN):(mM t s).1.mn=s.mn/\(mM t s).1.mx=s.mx/\(mM t s).1.name=s.name/\(mM t s).1.first=s.first:=by
 unfold mM;split;rotate_left
 ·exact⟨rfl,rfl,rfl,rfl⟩
 unfold zZ kQ Bz kT oJ noS;repeat' split
 all_goals exact⟨rfl,rfl,rfl,rfl⟩
def newS(a c:Int)(n:Q0)(f:Bool):dN:=⟨a,c,n,f,0,0,1,false,zS,[],0⟩
def avW{a c:Int}{n:Q0}{f:Bool}(h1:1<=a)(b:a<=c)(d:c<=3)(e:n.length<=256):pF (newS a c n f):=
 ⟨h1,d,b,e,by simp[newS],⟨by simp[newS],by simp[newS],xA.good,by simp[newS,zS],λ_=>rfl⟩,Kp.nil⟩
def ajm(k:List Sn)(d:Kp k)(v b:GV):∀(m i:Nat),i+m=k.length->
 TT.lim 153 [.l (k.map sn),.i .i64 (k.length:Int),.i .i64 (i:Int),v,b,.l ((k.take i).map sn)]=some [.i .i64 0,.l (k.map sn)]
 |0,i,hi=>by
  have e:¬((i:Int)<k.length):=by omega
  rw[lW (by omega)];refine au rfl rfl ?_;simp[e]
 |m+1,i,hi=>by
  have p:=d.len;have a:i<k.length:=by omega
  have e:(i:Int)<k.length:=by omega
  have j:IntKind.i64.wrap ((i:Int)+1)=((i+1:Nat):Int):=by rw[wrap64 (by omega) (by omega)];omega
  have h:=ajm k d v b m (i+1) (by omega);have l:=(d.tb _ (dW a)).good;have n:=MK k[i] l;have f:at2 2 (some (.l (k.map sn))) (some (.i .i64 (i:Int)))=some (sn k[i]):=by rw[iC,aj (by omega),CP,iw,bP a];rfl
  have c:BG (some (.l (k.map sn))) (some (.i .i64 (i:Int)))=some (.i .i64 (i:Int)):=by rw[jh,aj ⟨by omega,by rw[je];omega⟩]
  have g:xO 2 32 (some (.l ((k.take i).map sn))) (some (.l [sn k[i]]))=some (.l ((k.take (i+1)).map sn)):=by
   rw[rU,aj]
   ·rw[QN,bP a,jG];rfl
   ·refine⟨rfl,?_,?_⟩<;>simp only[je,kN,jw,nZ]<;>omega
  rw[<-j]at h;generalize q:k[i]=x at *;have o:GV.g [.i .u64 x.1,.l (x.2.map row)]=sn x:=rfl;generalize(k.take (i+1)).map sn=r at *;generalize(k.take i).map sn=s at *;generalize k.map sn=t at *;generalize(k.length:Int)=u at *;generalize(i:Int)=w at *;refine au rfl rfl ?_;simp[-jh,-iC,e,f,c,o,n,g,h]
def aBt(k:List Sn)(c:Kp k)(v b:GV):TT.lim 152 [v,.l (k.map sn),b]=some [.i .i64 0,.l (k.map sn)]:=by
 have h:=ajm k c v b k.length 0 (by omega);have a:((k.map sn).length:Int)=(k.length:Int):=by rw[je]
 simp only[QS,jO,mZ]at h;generalize k.map sn=d at *;generalize(k.length:Int)=e at *;refine au rfl rfl ?_;simp[a,h]
def ax3(v s:GV)(h:Sn)(a:dR h.2):TT.lim 145 [v,s,.i .u64 h.1,.l (h.2.map row)]=some [.i .i64 0,.i .u64 h.1,.l (h.2.map row)]:=by have b:=MK h a;have c:GV.g [.i .u64 h.1,.l (h.2.map row)]=sn h:=rfl;refine au rfl rfl ?_;simp[c,b]
def ajb(s:dN)(a:pF s):TT.lim 322 (fE s)=some [.i .i64 0,.i .u64 s.h.1,.l (s.h.2.map row),.l (s.k.map sn)]:=by have b:=aBt s.k a.kp (.i .i64 s.vs) (.i .u64 s.b);have c:=ax3 (.i .i64 s.vs) (.b s.sm) s.h a.rc.good;unfold fE;refine au rfl rfl ?_;simp[b,c]
def awg{m:aN}{b:List aH}{s:dN}(d:qw m b)(a:pF s):pF (zZ m b s).1:=by
 unfold zZ;by_cases e:m.kind=1
 ·rw[aj e];have j:=a.mn;have k:=a.mx;have l:=@Ya s.mn s.mx m.min m.max;unfold kQ;repeat' split
  all_goals first|exact a|exact⟨a.mn,a.mx,a.le,a.name,a.ver,a.rc,a.kp⟩|skip
  next n o r t u p=>
  have c:(kY s.mn s.mx m.min m.max).2=true:=by
   cases h:(kY s.mn s.mx m.min m.max).2 with
   |true=>rfl
   |false=>exact absurd (.inl h) p
  obtain⟨v,w,x,y⟩:=l c;exact⟨a.mn,a.mx,a.le,a.name,⟨by simp only;omega,by simp only;omega⟩,⟨by simp only;omega,by simp only;omega,a.rc.good,a.rc.ep,a.rc.no⟩,a.kp⟩
 rw[ah e];by_cases f:m.kind=2
 ·rw[aj f];have j:=a.mn;have k:=a.mx;unfold Bz;repeat' split
  all_goals first|exact a|exact⟨a.mn,a.mx,a.le,a.name,a.ver,a.rc,a.kp⟩|skip
  next n o=>
  exact⟨a.mn,a.mx,a.le,a.name,⟨by simp only;omega,by simp only;omega⟩,⟨by simp only;omega,by simp only;omega,a.rc.good,a.rc.ep,a.rc.no⟩,a.kp⟩
 rw[ah f];by_cases g:m.kind=5\/m.kind=6
 ·rw[aj g];unfold kT;split
  ·obtain⟨q,-,-⟩:=aa8 a.rc (fH m b s.vs) m.kind m.epoch m.base m.t d.t d.body.epoch;exact⟨a.mn,a.mx,a.le,a.name,a.ver,q,a.kp⟩
  ·exact a
 rw[ah g];by_cases i:m.kind=7
 ·rw[aj i];unfold oJ;split
  ·exact⟨a.mn,a.mx,a.le,a.name,a.ver,a.rc,akN a.kp⟩
  ·exact a
 rw[ah i];split
 ·unfold noS;repeat' split
  all_goals first|exact a|exact⟨a.mn,a.mx,a.le,a.name,a.ver,a.rc,a.kp⟩
 ·exact a
def ate{t:Q0}{s:dN}(a:pF s):pF (mM t s).1:=by
 unfold mM;split
 ·exact awg (S9 t (uG s)) a
 ·exact a
def Qz(x:UInt8)(b:Nat):UInt8:=UInt8.ofNat (x.toNat ^^^ b)
def aDh(x:UInt8)(b:Nat)(c:b<256):gG .xor .u8 (x.toNat:Int) (b:Int)=some (.i .u8 ((Qz x b).toNat:Int)):=by
 show some (GV.i IntKind.u8 (IntKind.u8.wrap ((BitVec.ofInt 8 (x.toNat:Int) ^^^ BitVec.ofInt 8 (b:Int)).toNat:Int)))=_
 have d:=x.toNat_lt;have a:x.toNat ^^^ b<256:=Nat.xor_lt_two_pow (n:=8) d c;have o1:(BitVec.ofInt 8 (x.toNat:Int)).toNat=x.toNat:=by rw[xB];omega
 have e:(BitVec.ofInt 8 (b:Int)).toNat=b:=by rw[xB];omega
 rw[BitVec.toNat_xor,o1,e,aC4];unfold Qz;rw[UInt8.toNat_ofNat',NG a];generalize x.toNat ^^^ b=N at *;congr 2;omega
def aBl{u:Q0}{k:Nat}(b:k<u.length)(y:UInt8):BG (some (.l (dw u))) (some (.i .i64 (k:Int)))=some (.i .i64 (k:Int))/\at2 1 (some (.l (dw u))) (some (.i .i64 (k:Int)))=some (.i .u8 ((u.getD k 0).toNat:Int))/\
 JJ 1 0 (some (.l (dw u))) (some (.i .i64 (k:Int))) (some [.i .u8 (y.toNat:Int)])=some (.l (dw (u.set k y))):=by
 have c:(dw u).length=u.length:=by simp[dw]
 have a:(dw u)[k]? =some (.i .u8 ((u.getD k 0).toNat:Int)):=by
  have e:u.getD k 0=u[k]:=by simp[List.getD,bP b]
  rw[e];unfold dw;rw[iw,bP b];rfl
 refine⟨?_,?_,?_⟩
 ·rw[jh,aj ⟨by omega,by rw[c];omega⟩]
 ·rw[iC,aj (by omega),CP,a];rfl
 ·rw[jM,aj ⟨by omega,rfl⟩,CP,a];simp only[vU];rw[aj (show(GV.i IntKind.u8 ((u.getD k 0).toNat:Int)).cells.length=1 from rfl)];simp only[GV.put,gB];congr 2;unfold dw;rw[acI]
structure Ac where
 who:Int
 gK:Int
 pick:Int
 x:Sn
 at_:Int
 Ba:Int
 text:Q0
structure G8(a:Ac):Prop where
 who:0<=a.who/\a.who<256
 gK:0<=a.gK/\a.gK<256
 pick:0<=a.pick/\a.pick<256
 ep:0<=a.x.1/\a.x.1<18446744073709551616
 rows:Rows a.x.2
 at_:0<=a.at_/\a.at_<=65535
 Ba:0<=a.Ba/\a.Ba<256
def jy(a:Ac):GV:=.g [.i .u8 a.who,.i .u8 a.gK,.i .u8 a.pick,.i .u64 a.x.1,.l (a.x.2.map row),.i .u16 a.at_,.i .u8 a.Ba,.s a.text]
@[simp] theorem aDs(a:Ac):(jy a).cells=[.i .u8 a.who,.i .u8 a.gK,.i .u8 a.pick,.i .u64 a.x.1,.l (a.x.2.map row),.i .u16 a.at_,.i .u8 a.Ba,.s a.text]:=rfl
@[simp] theorem aDt(a:Ac):(jy a).scalar=false:=rfl
def jI(a:Ac):GV.g [.i .u8 a.who,.i .u8 a.gK,.i .u8 a.pick,.i .u64 a.x.1,.l (a.x.2.map row),.i .u16 a.at_,.i .u8 a.Ba,.s a.text]=jy a:=rfl
def Fh(a:Ac):Bool:=decide ((a.x.2.length:Int)<=20)&&(Fg a.x.2&&decide ((a.text.length:Int)<=2000))
def Xv(a:Ac)(e:G8 a):TT.lim 12 [jy a]=some [.b (Fh a)]:=by
 have b:=arv a.x.2 e.rows;unfold Fh;by_cases c:(a.x.2.length:Int)<=20
 ·cases d:Fg a.x.2 with
  |true=>rw[d]at b;refine aG rfl rfl ?_ rfl;simp[b,c]
  |false=>rw[d]at b;refine aG rfl rfl ?_ rfl;simp[b,c]
 ·refine aG rfl rfl ?_ rfl;simp[c]
def RD{S T:Wg}(h:S.length<=100)(a:T.length<=1):xO 1 16 (some (.l (S.map .s))) (some (.l (T.map .s)))=some (.l ((S++T).map .s)):=by
 rw[rU,aj]
 ·rw[jG]
 ·refine⟨?_,?_,?_⟩
  ·simp[GV.dZ,GV.cells,GV.scalar]
  ·simp only[je];omega
  ·simp only[je];omega
def adp{S:Wg}{j:Nat}(h:j<S.length):∃t,t∈S/\at2 1 (some (.l (S.map .s))) (some (.i .i64 (j:Int)))=some (.s t)/\BG (some (.l (S.map .s))) (some (.i .i64 (j:Int)))=some (.i .i64 (j:Int)):=by
 refine⟨S[j],dW h,?_,?_⟩
 ·rw[iC,aj (by omega),CP,iw,bP h];rfl
 ·rw[jh,aj ⟨by omega,by rw[je];omega⟩]
def aCD:iV [98] 0 256=0:=by kernel_rfl
abbrev ac6:WD:=[.int .u8,.int .u8,.int .u8,.int .u64,.list true [.list true [.str,.str],.int .u64],.int .u16,.int .u8,.str]
def akH{cs:Q1}(h:cu.iZ ac6 cs):∃a:Ac,G8 a/\GV.g cs=jy a:=by obtain⟨g1,r1,rfl,c,h⟩:=rZ h;obtain⟨g2,r2,rfl,d,h⟩:=rZ h;obtain⟨z,r3,rfl,e,h⟩:=rZ h;obtain⟨A,B,rfl,f,h⟩:=rZ h;obtain⟨D,E,rfl,g,h⟩:=rZ h;obtain⟨g6,F,rfl,i,h⟩:=rZ h;obtain⟨g7,G,rfl,j,h⟩:=rZ h;obtain⟨H,I,rfl,k,h⟩:=rZ h;have:=O6 h;subst this;obtain⟨l,rfl,m⟩:=Ug c;obtain⟨n,rfl,o⟩:=Ug d;obtain⟨p,rfl,q⟩:=Ug e;obtain⟨r,rfl,s⟩:=Lu f;obtain⟨t,b,rfl⟩:=ayB g;obtain⟨u,rfl,v⟩:=ath i;obtain⟨w,rfl,x⟩:=Ug j;obtain⟨y,rfl,-⟩:=Uf k;exact⟨⟨l,n,p,(r,t),u,w,y⟩,⟨m,o,q,s,b,v,x⟩,rfl⟩
