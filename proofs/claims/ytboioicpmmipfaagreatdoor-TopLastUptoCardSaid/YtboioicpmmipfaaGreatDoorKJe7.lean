/- What the trees compute: plain laws. -/
import Derived.Test.YtboioicpmmipfaaGreatDoorKJe6
set_option linter.all false
namespace Go.Proofs.YtboioicpmmipfaaGreatDoor
open Go Go.aP
set_option maxRecDepth 100000
namespace J
def aaP(e:Int)(v:GV)(k:List Sn)(n:k.length<=1000):∀m i:Nat,i+m=k.length->
 TT.lim 179 [.zu e,.l (k.map sn),.zq k.length,.zq i,v]=some (sJ ((jD e (k.drop i)).map (· +i)))
 |0,i,hi=>by have h0:k.drop i=[]:=iP;have h:¬((i:Int)<k.length):=ah;refine aB ?_;simp[h,h0,jD,sJ]
 |m+1,i,hi=>by
  have a:i<k.length:=ah;have h:((i:Int)<k.length):=ah;have g:=bK ((i:Int)+1);have l:TT.lim 179 [.zu e,.l (k.map sn),.zq k.length,.zq ((i:Int)+1),v]=_:=aaP e v k n m (i+1) ah;have f:k.drop i=k[i]::k.drop (i+1):=iY a;rw[f];by_cases c:k[i].1=e
  ·have d:sJ ((jD e (k[i]::k.drop (i+1))).map (· +i))=[.zq 0,.zq (i:Int)]:=by unfold jD;rw[Zd,au (by simpa using c)];simp[sJ]
   rw[d];have b:(k[i].1=e)=True:=eq_true c;clear c l;refine aB ?_;simp[-List.getElem_cons_drop,h,a,b,g]
  ·have d:sJ ((jD e (k[i]::k.drop (i+1))).map (· +i))=sJ ((jD e (k.drop (i+1))).map (· +(i+1))):=by
    unfold jD;rw[Zd,aj (by simpa using c)];cases List.findIdx? (λs:Sn=>decide (s.1=e)) (k.drop (i+1))with
    |none=>rfl
    |some j=>simp only[iO,sJ];congr 3;omega
   rw[d];generalize sJ ((jD e (k.drop (i+1))).map (· +(i+1)))=R at *;have b:(k[i].1=e)=False:=eq_false c;clear c d;refine aB ?_;simp[-List.getElem_cons_drop,h,a,b,g,l]
def auO(e:Int)(v:GV)(k:List Sn)(b:k.length<=1000)(c:jD e k=none):
 TT.lim 178 [.zu e,v,.l (k.map sn)]=some [.zq 0,.zq 0,.b false]:=by
 have a:TT.lim 179 [.zu e,.l (k.map sn),.zq k.length,.zq 0,v]=_:=aaP e v k b k.length 0 ah;rw[dY,c]at a;simp only[afj,sJ]at a;refine aB ?_;simp[a]
def auQ(e:Int)(v:GV)(k:List Sn)(b:k.length<=1000)(j:Nat)(c:jD e k=some j):
 TT.lim 178 [.zu e,v,.l (k.map sn)]=some [.zq 0,.zq (j:Int),.b true]:=by
 have a:TT.lim 179 [.zu e,.l (k.map sn),.zq k.length,.zq 0,v]=_:=aaP e v k b k.length 0 ah;rw[dY,c]at a;simp only[iO,sJ,qg]at a;refine aB ?_;simp[a]
def ayR(v:Int)(k:List Sn)(b:Int)(i:Kp k):
 TT.lim 177 [.zq v,.l (k.map sn),.zu b]=some (Iy (cZ v k b)):=by
 have A:=i.len;unfold cZ;cases r:k.getLast? with
 |none=>obtain rfl:=last_none r;have d:=ajq (.zq v) (.zu b);refine aB ?_;simp[d,Iy]
 |some l=>
  obtain⟨m,x,y,a⟩:=last_at r;have d:=ajp (.zq v) (.zu b) k m l x ah y (i.tb l a).good;simp only;by_cases c:l.1=b
  ·rw[au c];have o:(l.1=b)=True:=eq_true c;clear c;refine aB ?_;simp[d,o,Iy]
  rw[aj c];cases p:jD b k with
  |none=>have e:=auO b (.zq v) k ah p;refine aB ?_;simp[d,c,e,Iy,full]
  |some j=>
   have e:=auQ b (.zq v) k ah j p;obtain⟨s,n,-,B⟩:=EU p;have q:s∈k:=tN n;simp only[n];have f:(j:Int)<k.length:=ah;by_cases g:2<=v
   ·rw[au g];have t:=att s l (i.tb s q).good (i.tb l a).good;have u:GV.g [.zu s.1,.l (s.2.map row)]=sn s:=rfl;have w:GV.g [.zu l.1,.l (l.2.map row)]=sn l:=rfl;generalize qh s l=D at *;obtain⟨⟨d1,d2,d3⟩,d4⟩:=D;by_cases h:d4=0
    ·rw[aj (by simpa using h)];have z:(d4=0)=True:=eq_true h;subst h;refine aB ?_;simp[d,c,e,g,n,f,u,w,t,Iy]
    ·rw[au h];refine aB ?_;simp[d,c,e,g,n,f,u,w,t,Iy,h]
   ·rw[aj g];refine aB ?_;simp[d,c,e,g,Iy,full]
def aaQ(e:Int)(v b:GV)(k:List Sn)(o:k.length<=1000):∀m i:Nat,i+m=k.length->
 TT.lim 282 [.zu e,.l (k.map sn),.zq k.length,.zq i,v,b]=some (sJ ((jD e (k.drop i)).map (· +i)))
 |0,i,hi=>by have h0:k.drop i=[]:=iP;have h:¬((i:Int)<k.length):=ah;refine aB ?_;simp[h,h0,jD,sJ]
 |m+1,i,hi=>by
  have a:i<k.length:=ah;have h:((i:Int)<k.length):=ah;have l:=bK ((i:Int)+1);have n:TT.lim 282 [.zu e,.l (k.map sn),.zq k.length,.zq ((i:Int)+1),v,b]=_:=aaQ e v b k o m (i+1) ah;have g:k.drop i=k[i]::k.drop (i+1):=iY a;rw[g];by_cases d:k[i].1=e
  ·have f:sJ ((jD e (k[i]::k.drop (i+1))).map (· +i))=[.zq 0,.zq (i:Int)]:=by unfold jD;rw[Zd,au (by simpa using d)];simp[sJ]
   rw[f];have c:(k[i].1=e)=True:=eq_true d;clear d n;refine aB ?_;simp[-List.getElem_cons_drop,h,a,c,l]
  ·have f:sJ ((jD e (k[i]::k.drop (i+1))).map (· +i))=sJ ((jD e (k.drop (i+1))).map (· +(i+1))):=by
    unfold jD;rw[Zd,aj (by simpa using d)];cases List.findIdx? (λs:Sn=>decide (s.1=e)) (k.drop (i+1))with
    |none=>rfl
    |some j=>simp only[iO,sJ];congr 3;omega
   rw[f];generalize sJ ((jD e (k.drop (i+1))).map (· +(i+1)))=R at *;have c:(k[i].1=e)=False:=eq_false d;clear d f;refine aB ?_;simp[-List.getElem_cons_drop,h,a,c,l,n]
def auP(e:Int)(v b:GV)(k:List Sn)(c:k.length<=1000)(d:jD e k=none):
 TT.lim 281 [.zu e,v,.l (k.map sn),b]=some [.zq 0,.zq 0,.b false]:=by
 have a:TT.lim 282 [.zu e,.l (k.map sn),.zq k.length,.zq 0,v,b]=_:=aaQ e v b k c k.length 0 ah;rw[dY,d]at a;simp only[afj,sJ]at a;refine aB ?_;simp[a]
def auR(e:Int)(v b:GV)(k:List Sn)(c:k.length<=1000)(j:Nat)(d:jD e k=some j):
 TT.lim 281 [.zu e,v,.l (k.map sn),b]=some [.zq 0,.zq (j:Int),.b true]:=by
 have a:TT.lim 282 [.zu e,.l (k.map sn),.zq k.length,.zq 0,v,b]=_:=aaQ e v b k c k.length 0 ah;rw[dY,d]at a;simp only[iO,sJ,qg]at a;refine aB ?_;simp[a]
def an4(e:Int)(v:GV)(k:List Sn)(b:Int)(f:k.length<=1000):
 TT.lim 280 [.zu e,v,.l (k.map sn),.zu b]=some [.zq 0,.b (sD e k b).1,.l ((sD e k b).2.1.map sn),.zu (sD e k b).2.2]:=by
 unfold sD;by_cases a:e<=b
 ·rw[au a];refine aB ?_;simp[a]
 ·rw[aj a];cases c:jD e k with
  |none=>have d:=auP e v (.zu b) k f c;refine aB ?_;simp[a,d]
  |some j=>
   have d:=auR e v (.zu b) k f j c;obtain⟨x,-,-,m⟩:=EU c;have g:=ajK (k:=k) (i:=j) ah;have h:=amv (k.drop j);have l:2*(k.drop j).length*32<=281474976710656/\(k.drop j).length<=281474976710656:=by rw[fZ];omega
   show _=some [_,_,GV.l ((k.drop j).map sn),_]
   generalize k.drop j=R at *;refine aB ?_;simp[-nT,-List.all_eq_true,-List.all_map,a,d,g,h,l]
def Fz(a x:Int):Int:=if a<x then x else a
def Ef(c y:Int):Int:=if y<c then y else c
def kJ(a c x y:Int):Int×Bool:=if Ef c y<Fz a x then(0,false)else(Ef c y,true)
def agI(a c x y:Int):TT.lim 262 [.g [.zu a,.zu c],.g [.zu x,.zu y]]=some [.zu (kJ a c x y).1,.b (kJ a c x y).2]:=by
 have e:∀p q:Int,TT.lim 264 [.l [.g [.zu x,.zu y]],.zq 1,.zq 1,.zu p,.zu q]=some [.zq 0,.zu p,.zu q]:=by intro p q;refine aB ?_;simp
 have d:TT.lim 264 [.l [.g [.zu x,.zu y]],.zq 1,.zq 0,.zu a,.zu c]=some [.zq 0,.zu (Fz a x),.zu (Ef c y)]:=by have h:=e (Fz a x) (Ef c y);have w:IntKind.i64.wrap 1=1:=rfl;refine aB ?_;simp[w];exact h
 have f:TT.lim 263 [.l [.g [.zu a,.zu c],.g [.zu x,.zu y]]]=some [.zu (kJ a c x y).1,.b (kJ a c x y).2]:=by
  unfold kJ;by_cases b:Ef c y<Fz a x
  ·rw[au b];refine aW ?_;simp[d,b]
  ·rw[aj b];refine aW ?_;simp[d,b]
 refine aW ?_;simp[f]
def jw(b:aQ)(v:Int):Wa:=if(qO b [] v).2=0 then[(qO b [] v).1]else[]
def Tj{b:aQ}(c:xH b [])(v:Int):TT.lim 63 [jk b [],.zq v]=some [.l ((jw b v).map .s)]:=by
 have a:=azX c v;have a:TT.lim 64 [jk b [],.zq v]=some [.s (qO b [] v).1,.zq (qO b [] v).2]:=a;unfold jw;generalize qO b [] v=E at *;obtain⟨t,e⟩:=E;by_cases h:e=0
 ·rw[au h];subst h;refine aW ?_;simp[lW,a]
 ·rw[aj h];refine aW ?_;simp[lW,a,h]
def alY(b:aQ)(v:Int):(jw b v).length<=1:=by unfold jw;split<;>simp
structure bf where
 mn:Int
 mx:Int
 name:Q0
 first:Bool
 st:Int
 ver:Int
 vs:Int
 sm:Bool
 h:Sn
 k:List Sn
 b:Int
structure kF(s:bf):Prop where
 mn:1<=s.mn
 mx:s.mx<=3
 le:s.mn<=s.mx
 name:s.name.length<=256
 ver:0<=s.ver/\s.ver<=3
 rc:Rec s.vs s.sm s.h
 kp:Kp s.k
def dH(s:bf):Q1:=[.zu s.mn,.zu s.mx,.s s.name,.b s.first,.zq s.st,.zq s.ver,.zq s.vs,.b s.sm,.zu s.h.1,.l (s.h.2.map row),.l (s.k.map sn),.zu s.b]
def Md{b:aQ}(a:vZ b)(c:b.d=[])(d:dX b.t)(h1:b.name.length<=600)(e:b.region=[])(f:b.note=[]):xH b []:=
 ⟨⟨a,by rw[c];rfl,d,by simp only[fF],aA⟩,⟨h1,by rw[e];simp,by rw[f];simp⟩,by simp[dO],by simp[wL]⟩
def oZ(m:Tm):aQ:=jR m.1 m.2.1 m.2.2.1 m.2.2.2
def fH(s:bf):Wa×Int:=
 if s.st=2 then(if(cZ s.vs s.k s.b).2=0 then(jw (oZ (cZ s.vs s.k s.b).1) s.ver,2)else([],2))
 else if s.first=true then(if s.st=3 then([],3)else(jw (um s.mn s.mx s.name) 1,1))else([],s.st)
def awu{a c:Int}{n:Q0}(b:0<=a/\a<18446744073709551616)(d:0<=c/\c<18446744073709551616)(e:n.length<=600):xH (um a c n) []:=by refine Md ?_ rfl CU.good e rfl rfl;refine⟨?_,?_,b,d,?_,?_,?_,?_,?_,?_,?_,?_,?_,?_,?_,?_,?_,?_,?_,?_,?_,?_⟩<;>first|(simp only[um];omega)|simp[um,uG,Rows]
def aee{v:Int}{k:List Sn}{b:Int}(c:Kp k):xH (oZ (cZ v k b).1) []:=by obtain⟨d,e,f,a⟩:=ayS (v:=v) (b:=b) c;exact Md (aoy d e f a.rows) rfl a (by simp[oZ,jR]) rfl rfl
def ald(s:bf)(d:kF s):TT.lim 304 (dH s)=some [.zq 0,.l ((fH s).1.map .s),.zq (fH s).2]:=by
 have i:=ayR s.vs s.k s.b d.kp;have p:=d.mn;have q:=d.mx;have r:=d.le;have t:=d.name;have m:TT.lim 63 [.g [.zq 1,.zu 0,.zu s.mn,.zu s.mx,.zu 0,.zu 0,.zu 0,.zu 0,.zu 0,.zu 0,.zu 0,.zu 0,.zu 0,.zu 0,.zu 0,.zu 0,.zq 0,.b false,.s s.name,.s [],.s [],.l [],.l [],.l []],.zq 1]=some [.l ((jw (um s.mn s.mx s.name) 1).map .s)]:=Tj (awu (a:=s.mn) (c:=s.mx) (n:=s.name) ah ah ah) 1;have k:=Tj (aee (v:=s.vs) (b:=s.b) d.kp) s.ver;unfold fH;unfold dH;generalize cZ s.vs s.k s.b=M at *;have k:TT.lim 63 [.g [.zq M.1.1,.zu 0,.zu 0,.zu 0,.zu 0,.zu 0,.zu 0,.zu 0,.zu 0,.zu 0,.zu M.1.2.1,.zu M.1.2.2.1,.zu 0,.zu 0,.zu 0,.zu 0,.zq 0,.b false,.s [],.s [],.s [],.l [],.l (M.1.2.2.2.map row),.l []],.zq s.ver]=some [.l ((jw (oZ M.1) s.ver).map .s)]:=k;generalize jw (um s.mn s.mx s.name) 1=Y,jw (oZ M.1) s.ver=W at *;simp only[Iy]at i;by_cases f:s.st=2
 ·rw[au f];have g:(s.st=2)=True:=eq_true f;by_cases e:M.2=0
  ·rw[au e];have u:(M.2=0)=True:=eq_true e;rw[e]at i;refine aB ?_;simp[g,i,k]
  ·rw[aj e];refine aB ?_;simp[g,i,e]
 rw[aj f];by_cases h:s.first=true
 ·rw[au h];by_cases j:s.st=3
  ·rw[au j];have l:(s.st=3)=True:=eq_true j;refine aB ?_;simp[f,h,l]
  ·rw[aj j];refine aB ?_;simp[f,h,j,m]
 ·rw[aj h];have o:s.first=false:=by simpa using h
  refine aB ?_;simp[f,o]
def alk(x:Sn)(s:bf)(a:dX x.2)(b:kF s):TT.lim 299 (.zu x.1::.l (x.2.map row)::dH s)=some [.zq 0,.zq (jV x s.k s.b).1,.l ((jV x s.k s.b).2.1.map sn),.zu (jV x s.k s.b).2.2]:=by have c:=aAM x (.zq s.vs) s.k s.b a b.kp;unfold dH;generalize jV x s.k s.b=P at *;refine aB ?_;simp[c]
def qJ(v:Int)(n:Q0):aQ:={gQ with kind:=2,chosen:=v,name:=n}
def rW:aQ:={gQ with kind:=8,code:=16}
def aof{v:Int}{n:Q0}(a:0<=v/\v<18446744073709551616)(b:n.length<=600):xH (qJ v n) []:=by refine Md ?_ rfl CU.good b rfl rfl;refine⟨?_,?_,?_,?_,a,?_,?_,?_,?_,?_,?_,?_,?_,?_,?_,?_,?_,?_,?_,?_,?_,?_⟩<;>first|(simp only[qJ];omega)|simp[qJ,gQ,uG,Rows]
def aBK:xH rW []:=by refine Md ?_ rfl CU.good (by simp[rW,gQ]) rfl rfl;refine⟨?_,?_,?_,?_,?_,?_,?_,?_,?_,?_,?_,?_,?_,?_,?_,?_,?_,?_,?_,?_,?_,?_⟩<;>simp[rW,gQ,uG,Rows]
def afz(s:bf)(a:kF s)(b:0<=s.ver/\s.ver<=3):TT.lim 290 (dH s)=some [.zq 0,.l ((jw (qJ s.ver s.name) 1).map .s)]:=by have e:=a.name;have c:=Ja (n:=s.ver) b.1 ah;have d:TT.lim 63 [.g [.zq 2,.zu 0,.zu 0,.zu 0,.zu s.ver,.zu 0,.zu 0,.zu 0,.zu 0,.zu 0,.zu 0,.zu 0,.zu 0,.zu 0,.zu 0,.zu 0,.zq 0,.b false,.s s.name,.s [],.s [],.l [],.l [],.l []],.zq 1]=some [.l ((jw (qJ s.ver s.name) 1).map .s)]:=Tj (aof (v:=s.ver) (n:=s.name) ah ah) 1;unfold dH;generalize jw (qJ s.ver s.name) 1=Y at *;refine aB ?_;simp[c,d]
def apM{a c x y:Int}(h:(kJ a c x y).2=true):Fz a x<=(kJ a c x y).1/\(kJ a c x y).1=Ef c y:=by
 unfold kJ at h⊢;split
 ·next b=>rw[au b]at h;cases h
 ·exact⟨by simp only;omega,rfl⟩
def aak{a c x y:Int}(h:(kJ a c x y).2=true):a<=(kJ a c x y).1/\x<=(kJ a c x y).1/\(kJ a c x y).1<=c/\(kJ a c x y).1<=y:=by obtain⟨b,d⟩:=apM h;generalize(kJ a c x y).1=z at *;unfold Fz at b;unfold Ef at d;split at b<;>split at d<;>omega
def mX(m:aQ)(s:bf):bf×Wa×Int:=
 if s.first=true then(s,[],22)else if m.min<1 then(s,[],18)else if m.max<m.min then(s,[],18)else if 255<m.max then(s,[],18)else
 if s.st=2 then(if(kJ s.mn s.mx m.min m.max).2=true/\(kJ s.mn s.mx m.min m.max).1=s.ver then(s,jw (qJ s.ver s.name) 1,0)else(s,[],22))
 else if(kJ s.mn s.mx m.min m.max).2=false\/s.st=3 then({s with st:=3},jw rW 1,16)
 else({s with st:=2,ver:=(kJ s.mn s.mx m.min m.max).1,vs:=(kJ s.mn s.mx m.min m.max).1},jw (qJ (kJ s.mn s.mx m.min m.max).1 s.name) 1,0)
def aws(m:aQ)(y:List aK)(s:bf)(z:m.kind=1)(a:kF s):TT.lim 289 ((jk m (aI y)).cells++dH s)=some [.zq 0,.l ((mX m s).2.1.map .s),.zq (mX m s).2.2,.zq (mX m s).1.st,.zq (mX m s).1.ver,.zq (mX m s).1.vs]:=by
 have i:=agI s.mn s.mx m.min m.max;have A:=@aak s.mn s.mx m.min m.max;have x:TT.lim 63 [.g [.zq 8,.zu 0,.zu 0,.zu 0,.zu 0,.zu 0,.zu 0,.zu 0,.zu 0,.zu 0,.zu 0,.zu 0,.zu 0,.zu 0,.zu 16,.zu 0,.zq 0,.b false,.s [],.s [],.s [],.l [],.l [],.l []],.zq 1]=some [.l ((jw rW 1).map .s)]:=Tj aBK 1;have r:=afz s a a.ver;have k:=λ(v:Int)(h:1<=v/\v<=3)=>afz {s with st:=2,ver:=v,vs:=v} ⟨a.mn,a.mx,a.le,a.name,⟨by simp only;omega,h.2⟩,⟨h.1,h.2,a.rc.good,a.rc.ep,a.rc.no⟩,a.kp⟩ ⟨by simp only;omega,h.2⟩;have E:=a.mn;have F:=a.mx;have B:=a.ver;have l:=Ja (n:=s.ver) B.1 ah;rw[fG];unfold mX;simp only[dH,bG,aZ]at r k⊢;generalize kJ s.mn s.mx m.min m.max=C,jw rW 1=G at *;rw[z];by_cases p:s.first=true
 ·rw[au p];refine aB ?_;simp[p]
 rw[aj p];have o:s.first=false:=by simpa using p
 rw[o]at r k;simp only[o];by_cases b:m.min<1
 ·rw[au b];refine aB ?_;simp[b]
 rw[aj b];by_cases d:m.max<m.min
 ·rw[au d];refine aB ?_;simp[b,d]
 rw[aj d];by_cases f:255<m.max
 ·rw[au f];refine aB ?_;simp[b,d,f]
 rw[aj f];by_cases j:s.st=2
 ·rw[au j];have t:(s.st=2)=True:=eq_true j;by_cases c:C.2=true
  ·by_cases g:C.1=s.ver
   ·rw[au ⟨c,g⟩];have u:(C.1=s.ver)=True:=eq_true g;refine aB ?_;simp[b,d,f,t,i,c,u,l,r]
   ·rw[aj (λh=>g h.2)];refine aB ?_;simp[b,d,f,t,i,c,g,l]
  ·rw[aj (λh=>c h.1)];have q:C.2=false:=by simpa using c
   refine aB ?_;simp[b,d,f,t,i,q]
 rw[aj j];by_cases c:C.2=true;rotate_left
 ·have q:C.2=false:=by simpa using c
  rw[au (.inl q)];refine aB ?_;simp[b,d,f,j,i,q,x]
 by_cases g:s.st=3
 ·rw[au (.inr g)];have u:(s.st=3)=True:=eq_true g;refine aB ?_;simp[b,d,f,j,i,c,u,x]
 rw[aj (λh=>h.elim (λe=>by rw[c]at e;cases e) g)];obtain⟨H,I,L,M⟩:=A c;have k:=k C.1 ⟨ah,ah⟩;have w:=bK (C.1);have D:1<=C.1:=ah;have g3:C.1<=3:=ah;refine aB ?_;simp[b,d,f,j,i,c,g,w,D,g3,k]
def BR(m:aQ)(s:bf):bf×Wa×Int:=
 if s.st=1 then(if s.mn<=m.chosen/\m.chosen<=s.mx then({s with st:=2,ver:=m.chosen,vs:=m.chosen},[],0)else({s with st:=3},[],16))
 else if s.st=2/\s.first=true/\m.chosen=s.ver then(s,[],0)else(s,[],22)
def l9(m:aQ)(a:List aK)(s:bf):bf×Wa×Int:=
 if s.st=2 then
  ({s with sm:=(iL (fE m a s.vs) s.vs m.kind m.epoch m.base m.t s.sm s.h).2.2.1,h:=(iL (fE m a s.vs) s.vs m.kind m.epoch m.base m.t s.sm s.h).2.2.2},
   if(iL (fE m a s.vs) s.vs m.kind m.epoch m.base m.t s.sm s.h).1.1=0 then[]else jw (iF (iL (fE m a s.vs) s.vs m.kind m.epoch m.base m.t s.sm s.h).1) s.ver,
   (iL (fE m a s.vs) s.vs m.kind m.epoch m.base m.t s.sm s.h).2.1)
 else(s,[],22)
def qK(m:aQ)(s:bf):bf×Wa×Int:=
 if s.st=2 then({s with k:=(sD m.epoch s.k s.b).2.1,b:=(sD m.epoch s.k s.b).2.2},[],0)else(s,[],22)
def noS(m:aQ)(s:bf):bf×Wa×Int:=
 if s.st=2 then({s with b:=0},[],0)else if s.st=1/\m.code=16 then({s with st:=3},[],16)else(s,[],22)
def uw(m:aQ)(a:List aK)(s:bf):bf×Wa×Int:=
 if m.kind=1 then mX m s else if m.kind=2 then BR m s else if m.kind=5\/m.kind=6 then l9 m a s else if m.kind=7 then qK m s else if m.kind=8 then noS m s else(s,[],15)
def jf(s:bf):Int:=if s.st=2 then s.ver else 1
def bZ(t:Q0)(s:bf):bf×Wa×Int:=
 if(jh t (jf s)).2.2=0 then uw (jh t (jf s)).1 (jh t (jf s)).2.1 s else(s,[],(jh t (jf s)).2.2)
def WI(r:bf×Wa×Int):Q1:=[.zq 0,.l (r.2.1.map .s),.zq r.2.2,.zq r.1.st,.zq r.1.ver,.zq r.1.vs,.b r.1.sm,.zu r.1.h.1,.l (r.1.h.2.map row),.l (r.1.k.map sn),.zu r.1.b]
def take_zero(c v kd b d:Int)(t:List Row)(e:Bool)(h:Sn)(h0:(iL c v kd b d t e h).1.1=0):(iL c v kd b d t e h).1=(0,0,0,0):=by
 unfold iL at h0⊢;split
 ·rfl
 next f=>
 rw[aj f]at h0;split
 ·next a=>
  rw[au a]at h0;split at h0<;>simp at h0
 next a=>
 rw[aj a]at h0;split
 ·next g=>
  rw[au g]at h0;split at h0
  ·simp at h0
  ·split at h0<;>simp at h0
 ·rfl
def aER(m:aQ)(a:List aK)(s:bf)(f:tV m a)(q:kF s):TT.lim 291 ((jk m (aI a)).cells++dH s)=some [.zq 0,.l ((l9 m a s).2.1.map .s),.zq (l9 m a s).2.2,.b (l9 m a s).1.sm,.zu (l9 m a s).1.h.1,.l ((l9 m a s).1.h.2.map row)]:=by
 have k:=aFP m a s.vs s.sm s.h f.body f.t f.f8 f.len q.rc.good;obtain⟨y,u,z⟩:=S9 q.rc (fE m a s.vs) m.kind m.epoch m.base m.t f.t f.body.epoch;have r:=take_zero (fE m a s.vs) s.vs m.kind m.epoch m.base m.t s.sm s.h;unfold l9;by_cases n:s.st=2;rotate_left
 ·rw[aj n,fG];simp only[dH,bG,aZ];refine aB ?_;simp[n]
 rw[au n];have l:(s.st=2)=True:=eq_true n;rw[fG]at k⊢;simp only[dH,bG,aZ]at k⊢;generalize iL (fE m a s.vs) s.vs m.kind m.epoch m.base m.t s.sm s.h=R at *;obtain⟨⟨b,g,i,j⟩,e,A,h⟩:=R;have t:xH (iF (b,g,i,j)) []:=Md u rfl CU.good (by simp[iF]) rfl rfl;have p:TT.lim 63 [.g [.zq b,.zu 0,.zu 0,.zu 0,.zu 0,.zu 0,.zu 0,.zu 0,.zu 0,.zu 0,.zu g,.zu 0,.zu 0,.zu 0,.zu i,.zu j,.zq 0,.b false,.s [],.s [],.s [],.l [],.l [],.l []],.zq s.ver]=some [.l ((jw (iF (b,g,i,j)) s.ver).map .s)]:=Tj t s.ver;have o:TT.lim 268 [.g [.zq b,.zu 0,.zu 0,.zu 0,.zu 0,.zu 0,.zu 0,.zu 0,.zu 0,.zu 0,.zu g,.zu 0,.zu 0,.zu 0,.zu i,.zu j,.zq 0,.b false,.s [],.s [],.s [],.l [],.l [],.l []],.g [.zq 0,.zu 0,.zu 0,.zu 0,.zu 0,.zu 0,.zu 0,.zu 0,.zu 0,.zu 0,.zu 0,.zu 0,.zu 0,.zu 0,.zu 0,.zu 0,.zq 0,.b false,.s [],.s [],.s [],.l [],.l [],.l []]]=some [.b (eH (iF (b,g,i,j)=gQ/\([]:List aK)=[]))]:=by
  have:=t.msg.ays (fc:=[]) Jb (by simp[dO]);have fn:aI []=[]:=by simp only[aI]
  rw[fn]at this;exact this
 generalize jw (iF (b,g,i,j)) s.ver=W at *;simp only[zx]at k;simp only at r⊢;by_cases c:b=0
 ·rw[au c];have d:=r c;injection d with v d
  injection d with w d
  injection d with x d
  subst v w x d;rw[nR ⟨rfl,rfl⟩]at o;refine aB ?_;simp[l,k,o]
 ·rw[aj c];rw[lT (λh=>c (uT aQ.kind h.1))]at o;refine aB ?_;simp[l,k,o,p]
def an5(m:aQ)(c:List aK)(s:bf)(d:kF s):TT.lim 293 ((jk m (aI c)).cells++dH s)=some [.zq 0,.zq (qK m s).2.2,.l ((qK m s).1.k.map sn),.zu (qK m s).1.b]:=by
 have e:=an4 m.epoch (.zq s.vs) s.k s.b (by have:=d.kp.len;omega);unfold qK;by_cases a:s.st=2;rotate_left
 ·rw[aj a,fG];simp only[dH,bG,aZ];refine aB ?_;simp[a]
 rw[au a];have b:(s.st=2)=True:=eq_true a;rw[fG];simp only[dH,bG,aZ];generalize sD m.epoch s.k s.b=A at *;refine aB ?_;simp[b,e]
def aiJ(m:aQ)(s:bf):(mX m s).1.sm=s.sm/\(mX m s).1.h=s.h/\(mX m s).1.k=s.k/\(mX m s).1.b=s.b/\(mX m s).1.mn=s.mn/\(mX m s).1.mx=s.mx/\(mX m s).1.name=s.name/\(mX m s).1.first=s.first:=by
 unfold mX;repeat' split
 all_goals simp
set_option maxHeartbeats 2000000 in
def aiv(t:Q0)(s:bf)(P:t.length<=140737488351232)(w:kF s):TT.lim 288 (.s t::dH s)=some (WI (bZ t s)):=by
 have b:=decode_ok t (jf s) P;have O:=VF t (jf s);unfold bZ;generalize jh t (jf s)=D at *;obtain⟨m,c,e⟩:=D;simp only at b O⊢;have l:=aws m c s;have i:=aER m c s O w;have x:=an5 m c s w;have p:=aiJ m s;have H:=w.ver;have y:=Ja (n:=s.ver) H.1 ah;have Q:=w.mn;have R:=w.mx;rw[fG]at l i x;unfold jf at b;unfold WI;have j:s.st=2\/¬s.st=2:=Uh _;by_cases z:e=0;rotate_left
 ·rw[aj z];simp only[dH];rcases j with a|a
  ·rw[au a]at b;have q:(s.st=2)=True:=eq_true a;refine aB ?_;simp[q,b,z]
  ·rw[aj a]at b;refine aB ?_;simp[a,b,z]
 rw[au z];subst z;unfold uw;by_cases k:m.kind=1
 ·rw[au k];have l:=l k w;obtain⟨S,T,U,V,-⟩:=p;rw[S,T,U,V];generalize mX m s=I at *;simp only[dH,bG,aZ]at l⊢;rw[k]at l;have W:(m.kind=1)=True:=eq_true k;rcases j with a|a
  ·rw[au a]at b;have q:(s.st=2)=True:=eq_true a;rw[a]at l;refine aB ?_;simp[a,b,k,l]
  ·rw[aj a]at b;refine aB ?_;simp[a,b,k,l]
 rw[aj k];by_cases d:m.kind=2
 ·rw[au d];have X:(m.kind=2)=True:=eq_true d;unfold BR;simp only[dH];rcases j with a|a
  ·rw[au a]at b;rw[bW];have q:(s.st=2)=True:=eq_true a;by_cases A:s.first=true
   ·by_cases B:m.chosen=s.ver
    ·rw[au ⟨a,A,B⟩];have L:(m.chosen=s.ver)=True:=eq_true B;refine aB ?_;simp[a,b,d,A,L,y]
    ·rw[aj (λh=>B h.2.2)];refine aB ?_;simp[a,b,d,A,B,y]
   ·rw[aj (λh=>A h.2.1)];have Y:s.first=false:=by simpa using A
    refine aB ?_;simp[a,b,d,Y]
  ·rw[aj a]at b;by_cases f:s.st=1
   ·rw[au f];by_cases r1:s.mn<=m.chosen
    ·by_cases r2:m.chosen<=s.mx
     ·rw[au ⟨r1,r2⟩];have Z:1<=m.chosen:=ah;have g3:m.chosen<=3:=ah;have M:=bK (m.chosen);refine aB ?_;simp[f,b,d,r1,r2,M,Z,g3]
     ·rw[aj (λh=>r2 h.2)];refine aB ?_;simp[f,b,d,r1,r2]
    ·rw[aj (λh=>r1 h.1)];refine aB ?_;simp[f,b,d,r1]
   ·rw[aj f,aj (λh=>a h.1)];refine aB ?_;simp[f,a,b,d]
 rw[aj d];by_cases r:m.kind=5
 ·rw[au (.inl r)];have g:(l9 m c s).1.st=s.st/\(l9 m c s).1.ver=s.ver/\(l9 m c s).1.vs=s.vs/\(l9 m c s).1.k=s.k/\(l9 m c s).1.b=s.b:=by unfold l9;split<;>simp
  rw[g.1,g.2.1,g.2.2.1,g.2.2.2.1,g.2.2.2.2];generalize l9 m c s=I at *;simp only[dH,bG,aZ]at i⊢;rw[r]at i;rcases j with a|a
  ·rw[au a]at b;rw[a]at i;refine aB ?_;simp[a,b,r,i]
  ·rw[aj a]at b;refine aB ?_;simp[a,b,r,i]
 by_cases u:m.kind=6
 ·rw[au (.inr u)];have g:(l9 m c s).1.st=s.st/\(l9 m c s).1.ver=s.ver/\(l9 m c s).1.vs=s.vs/\(l9 m c s).1.k=s.k/\(l9 m c s).1.b=s.b:=by unfold l9;split<;>simp
  rw[g.1,g.2.1,g.2.2.1,g.2.2.2.1,g.2.2.2.2];generalize l9 m c s=I at *;simp only[dH,bG,aZ]at i⊢;rw[u]at i;rcases j with a|a
  ·rw[au a]at b;rw[a]at i;refine aB ?_;simp[a,b,u,i]
  ·rw[aj a]at b;refine aB ?_;simp[a,b,u,i]
 rw[aj (λh=>h.elim r u)];by_cases v:m.kind=7
 ·rw[au v];have g:(qK m s).1.st=s.st/\(qK m s).1.ver=s.ver/\(qK m s).1.vs=s.vs/\(qK m s).1.sm=s.sm/\(qK m s).1.h=s.h/\(qK m s).2.1=[]:=by unfold qK;split<;>simp
  rw[g.1,g.2.1,g.2.2.1,g.2.2.2.1,g.2.2.2.2.1,g.2.2.2.2.2];generalize qK m s=I at *;simp only[dH,bG,aZ]at x⊢;rw[v]at x;rcases j with a|a
  ·rw[au a]at b;rw[a]at x;refine aB ?_;simp[a,b,v,x]
  ·rw[aj a]at b;refine aB ?_;simp[a,b,v,x]
 rw[aj v];by_cases o:m.kind=8
 ·rw[au o];unfold noS;simp only[dH];rcases j with a|a
  ·rw[au a]at b;rw[au a];refine aB ?_;simp[a,b,o]
  ·rw[aj a]at b;rw[aj a];by_cases f:s.st=1
   ·by_cases E:m.code=16
    ·rw[au ⟨f,E⟩];have N:(m.code=16)=True:=eq_true E;refine aB ?_;simp[f,b,o,N]
    ·rw[aj (λh=>E h.2)];refine aB ?_;simp[f,b,o,E]
   ·rw[aj (λh=>f h.1)];refine aB ?_;simp[f,a,b,o]
 ·rw[aj o];simp only[dH];by_cases F:m.kind=3
  ·rcases j with a|a
   ·rw[au a]at b;refine aB ?_;simp[a,b,F]
   ·rw[aj a]at b;refine aB ?_;simp[a,b,F]
  by_cases G:m.kind=4
  ·rcases j with a|a
   ·rw[au a]at b;refine aB ?_;simp[a,b,G]
   ·rw[aj a]at b;refine aB ?_;simp[a,b,G]
  rcases j with a|a
  ·rw[au a]at b;refine aB ?_;simp[a,b,k,d,F,G,r,u,v,o]
  ·rw[aj a]at b;refine aB ?_;simp[a,b,k,d,F,G,r,u,v,o]
def rY(a:List Int)(t:Q0):Prop:=∀w,(jh t w).2.2=0->(jh t w).1.kind∈a
def atq{t x:Q0}{k:Nat}(a:k<18446744073709551616)(b:t=aS k++x)(w:Int)(h:(jh t w).2.2=0):(jh t w).1.kind=k:=by
 have d:(aF t).1=k:=by rw[b,Gs k x a]
 unfold jh at h⊢;split
 ·next c=>rw[au c]at h;exact absurd h aU
 next c=>
 rw[aj c]at h;split
 ·next c=>rw[au c]at h;exact absurd h aU
 next c=>
 rw[aj c]at h;split
 ·next c=>rw[au c]at h;exact absurd h aU
 next c=>
 rw[aj c]at h;split
 ·next c=>rw[au c]at h;exact absurd h c
 next c=>
 rw[aj c]at h;split
 ·next c=>rw[au c]at h;exact absurd h aU
 next c=>
 rw[aj c]at h;split
 ·next c=>rw[au c]at h;exact absurd h aU
 next c=>
 rw[aj c]at h;split
 ·next c=>rw[au c]at h;exact absurd h aU
 next c=>
 rw[aj c]at h;split
 ·next c=>rw[au c]at h;exact absurd h c
 next c=>
 rw[aj c]at h;simp only at h⊢;split
 ·next c=>rw[au c]at h;exact absurd h c
 next c=>
 rw[aj c]at h;split
 ·next c=>rw[au c]at h;exact absurd h c
 ·rw[agX _ _ _ (by simpa using c),d]
def D9{b:aQ}{v:Int}{t:Q0}(h:t∈jw b v)(h0:0<=b.kind)(i:b.kind<=8):rY [b.kind] t/\t.length<=65536:=by
 unfold jw at h;split at h;rotate_left
 ·cases h
 next e=>
 have d:=QS b [] v;obtain rfl:=jX.1 h;refine⟨λw a=>?_,d⟩;unfold qO at e a⊢;split at e;rotate_left
 ·next c=>exact absurd e c
 next c=>
 rw[au c]at a⊢;split at e
 ·exact absurd e aU
 next f=>
 rw[aj f]at a⊢;simp only at a⊢;have g:=atq (t:=bytesV b [] v) (k:=b.kind.toNat) ah rfl w a;rw[g];simp[Jf h0]
structure Mid(s:bf)(r:bf×Wa×Int):Prop where
 ok:kF r.1
 mn:r.1.mn=s.mn
 mx:r.1.mx=s.mx
 name:r.1.name=s.name
 first:r.1.first=s.first
 st:r.1.st=s.st
 ver:r.1.ver=s.ver
 said:∀u∈r.2.1,s.st=2/\(rY [7] u\/rY [8] u)/\u.length<=65536
def Xv{s:bf}(a:kF s)(e:Int):Mid s (s,[],e):=⟨a,rfl,rfl,rfl,rfl,rfl,rfl,λu h=>by cases h⟩
def aed(c v kd a b:Int)(t:List Row)(d:Bool)(h:Sn):(iL c v kd a b t d h).1.1=0\/(iL c v kd a b t d h).1.1=7\/(iL c v kd a b t d h).1.1=8:=by
 unfold iL;repeat' split
 all_goals simp
def ayq{m:aQ}{d:List aK}{s:bf}(i:tV m d)(a:kF s)(j:m.kind∈([5,6,7,8]:List Int))(h1:s.st≠1\/m.kind≠8):Mid s (uw m d s):=by
 have j:m.kind=5\/m.kind=6\/m.kind=7\/m.kind=8:=by simpa using j
 unfold uw;rw[bW,bW];by_cases c:m.kind=5\/m.kind=6
 ·rw[au c];unfold l9;split;rotate_left
  ·exact Xv a 22
  next l=>
  obtain⟨n,r,t⟩:=S9 a.rc (fE m d s.vs) m.kind m.epoch m.base m.t i.t i.body.epoch;have o:=aed (fE m d s.vs) s.vs m.kind m.epoch m.base m.t s.sm s.h;generalize iL (fE m d s.vs) s.vs m.kind m.epoch m.base m.t s.sm s.h=R at *;refine⟨⟨a.mn,a.mx,a.le,a.name,a.ver,n,a.kp⟩,rfl,rfl,rfl,rfl,rfl,rfl,?_⟩;intro u g;simp only at g;split at g
  ·cases g
  next p=>
  have b:(iF R.1).kind=R.1.1:=rfl;obtain⟨f,q⟩:=D9 g (by rw[b];omega) (by rw[b];omega);rw[b]at f;refine⟨l,?_,q⟩;rcases o with e|e|e
  ·exact absurd e p
  ·rw[e]at f;exact .inl f
  ·rw[e]at f;exact .inr f
 rw[aj c];by_cases k:m.kind=7
 ·rw[au k];unfold qK;split;rotate_left
  ·exact Xv a 22
  ·exact⟨⟨a.mn,a.mx,a.le,a.name,a.ver,a.rc,ZC a.kp⟩,rfl,rfl,rfl,rfl,rfl,rfl,λu h=>by cases h⟩
 rw[aj k,lY];unfold noS;split
 ·exact⟨⟨a.mn,a.mx,a.le,a.name,a.ver,a.rc,a.kp⟩,rfl,rfl,rfl,rfl,rfl,rfl,λu h=>by cases h⟩
 ·rw[aj (λe=>h1.elim (λh=>h e.1) (λh=>h ah))];exact Xv a 22
def aj8{t:Q0}{s:bf}(d:kF s)(a:List Int)(f:rY a t)(b:∀k∈a,k∈([5,6,7,8]:List Int))(h1:s.st≠1\/(8:Int)∉a):Mid s (bZ t s):=by
 have g:=VF t (jf s);unfold bZ;split
 ·next e=>
  have h:=f (jf s) e;exact ayq g d (b _ h) (h1.imp id λn c=>n (c▸h))
 ·exact Xv d _
abbrev CJ:Q0:=[102,105,114,115,116]
abbrev La:Q0:=[111,116,104,101,114]
def helloT(a b:Int):Q0:=(qO (um a b CJ) [] 1).1
def ED(v:Int):Q0:=(qO (qJ v La) [] 1).1
def FQ:Q0:=(qO rW [] 1).1
def alE:jw rW 1=[FQ]:=by kernel_rfl
def aBJ:jh FQ 1=(rW,[],0):=by kernel_rfl
def three{v:Int}(h1:1<=v)(a:v<=3):v=1\/v=2\/v=3:=ah
def ZE{v:Int}(h1:1<=v)(a:v<=3):jw (qJ v La) 1=[ED v]:=by
 rcases three h1 a with rfl|rfl|rfl
 ·kernel_rfl
 ·kernel_rfl
 ·kernel_rfl
def an3{v:Int}(h1:1<=v)(a:v<=3):jh (ED v) 1=(qJ v La,[],0):=by
 rcases three h1 a with rfl|rfl|rfl
 ·kernel_rfl
 ·kernel_rfl
 ·kernel_rfl
def six{a c:Int}(h1:1<=a)(b:a<=c)(d:c<=3):(a=1/\c=1)\/(a=1/\c=2)\/(a=1/\c=3)\/(a=2/\c=2)\/(a=2/\c=3)\/(a=3/\c=3):=ah
def aiK{a c:Int}(h1:1<=a)(b:a<=c)(d:c<=3):jw (um a c CJ) 1=[helloT a c]:=by
 rcases six h1 b d with⟨rfl,rfl⟩|⟨rfl,rfl⟩|⟨rfl,rfl⟩|⟨rfl,rfl⟩|⟨rfl,rfl⟩|⟨rfl,rfl⟩
 ·kernel_rfl
 ·kernel_rfl
 ·kernel_rfl
 ·kernel_rfl
 ·kernel_rfl
 ·kernel_rfl
def awr{a c w:Int}(h1:1<=a)(d:a<=c)(e:c<=3)(w1:1<=w)(b:w<=3):jh (helloT a c) w=(um a c CJ,[],0):=by
 rcases six h1 d e with⟨rfl,rfl⟩|⟨rfl,rfl⟩|⟨rfl,rfl⟩|⟨rfl,rfl⟩|⟨rfl,rfl⟩|⟨rfl,rfl⟩
 ·rcases three w1 b with rfl|rfl|rfl
  ·kernel_rfl
  ·kernel_rfl
  ·kernel_rfl
 ·rcases three w1 b with rfl|rfl|rfl
  ·kernel_rfl
  ·kernel_rfl
  ·kernel_rfl
 ·rcases three w1 b with rfl|rfl|rfl
  ·kernel_rfl
  ·kernel_rfl
  ·kernel_rfl
 ·rcases three w1 b with rfl|rfl|rfl
  ·kernel_rfl
  ·kernel_rfl
  ·kernel_rfl
 ·rcases three w1 b with rfl|rfl|rfl
  ·kernel_rfl
  ·kernel_rfl
  ·kernel_rfl
 ·rcases three w1 b with rfl|rfl|rfl
  ·kernel_rfl
  ·kernel_rfl
  ·kernel_rfl
structure pG(V:Int)(ok:Bool)(p q:bf):Prop where
 je:kF p
 oV:kF q
 pf:p.first=true
 qf:q.first=false
 pn:p.name=CJ
 qn:q.name=La
 com:kJ p.mn p.mx q.mn q.mx=(V,ok)
 ps:p.st=0\/p.st=1\/p.st=2\/p.st=3
 qs:q.st=0\/q.st=2\/q.st=3
 p2:p.st=2->ok=true/\p.ver=V/\q.st=2
 q2:q.st=2->ok=true/\q.ver=V
 pz:p.st≠2->p.ver=0
 qz:q.st≠2->q.ver=0
 p3:p.st=3->q.st=3
 q3:q.st=3->ok=false
def Ez(p:bf)(t:Q0):Prop:=t.length<=65536/\(t=helloT p.mn p.mx\/(p.st=2/\rY [5,6,7,8] t))
def Nc(V:Int)(p q:bf)(t:Q0):Prop:=t.length<=65536/\((t=ED V/\q.st=2)\/(t=FQ/\q.st=3)\/(q.st=2/\rY [5,6,7] t)\/(p.st=2/\rY [8] t))
structure og(p q p' q':bf):Prop where
 mn:p'.mn=p.mn
 mx:p'.mx=p.mx
 p2:p.st=2->p'.st=2
 p3:p.st=3->p'.st=3
 q2:q.st=2->q'.st=2
 q3:q.st=3->q'.st=3
def og.tp{p q p' q':bf}(l:og p q p' q'){t:Q0}(h:Ez p t):Ez p' t:=by unfold Ez at h⊢;rw[l.mn,l.mx];exact⟨h.1,h.2.imp id λe=>⟨l.p2 e.1,e.2⟩⟩
def og.tq{V:Int}{p q p' q':bf}(l:og p q p' q'){t:Q0}(h:Nc V p q t):Nc V p' q' t:=
 ⟨h.1,h.2.imp (λe=>⟨e.1,l.q2 e.2⟩) λh=>h.imp (λe=>⟨e.1,l.q3 e.2⟩) λh=>h.imp (λe=>⟨l.q2 e.1,e.2⟩) λe=>⟨l.p2 e.1,e.2⟩⟩
def Ky{b a:List Int}{t:Q0}(h:rY b t)(c:∀k∈b,k∈a):rY a t:=λw e=>c _ (h w e)
def apL(a c x y:Int):kJ a c x y=kJ x y a c:=by
 have b:Fz a x=Fz x a:=by unfold Fz;split<;>split<;>omega
 have d:Ef c y=Ef y c:=by unfold Ef;split<;>split<;>omega
 unfold kJ;rw[b,d]
def pG.I7{V:Int}{ok:Bool}{p q:bf}(h:pG V ok p q)(e:ok=true):p.mn<=V/\V<=p.mx/\1<=V/\V<=3:=by
 have a:=h.com;have c:(kJ p.mn p.mx q.mn q.mx).2=true:=by rw[a];exact e
 have b:=aak c;rw[a]at b;simp only at b;have:=h.je.mn;have:=h.je.mx;omega
def pG.aj9{V:Int}{ok:Bool}{p q:bf}(h:pG V ok p q){p':bf}(h0:kF p')(b:p'.mn=p.mn)(c:p'.mx=p.mx)(f:p'.name=p.name)(g:p'.first=p.first)(a:p'.st=p.st)(d:p'.ver=p.ver):pG V ok p' q/\og p q p' q:=
 ⟨⟨h0,h.oV,g▸h.pf,h.qf,f▸h.pn,h.qn,by rw[b,c];exact h.com,by rw[a];exact h.ps,h.qs,by rw[a,d];exact h.p2,h.q2,by rw[a,d];exact h.pz,h.qz,by rw[a];exact h.p3,h.q3⟩,⟨b,c,λe=>a.trans e,λe=>a.trans e,id,id⟩⟩
def pG.akb{V:Int}{ok:Bool}{p q:bf}(h:pG V ok p q){q':bf}(h0:kF q')(c:q'.mn=q.mn)(d:q'.mx=q.mx)(f:q'.name=q.name)(g:q'.first=q.first)(a:q'.st=q.st)(b:q'.ver=q.ver):pG V ok p q'/\og p q p q':=
 ⟨⟨h.je,h0,h.pf,g▸h.qf,h.pn,f▸h.qn,by rw[c,d];exact h.com,h.ps,by rw[a];exact h.qs,λe=>⟨(h.p2 e).1,(h.p2 e).2.1,a.trans (h.p2 e).2.2⟩,by rw[a,b];exact h.q2,h.pz,by rw[a,b];exact h.qz,λe=>a.trans (h.p3 e),by rw[a];exact h.q3⟩,⟨rfl,rfl,id,id,λe=>a.trans e,λe=>a.trans e⟩⟩
def og.self(p q:bf):og p q p q:=⟨rfl,rfl,id,id,id,id⟩
def og.trans{p q p' q' c d:bf}(a:og p q p' q')(b:og p' q' c d):og p q c d:=
 ⟨b.mn.trans a.mn,b.mx.trans a.mx,λe=>b.p2 (a.p2 e),λe=>b.p3 (a.p3 e),λe=>b.q2 (a.q2 e),λe=>b.q3 (a.q3 e)⟩
def FP(x:Sn)(s:bf):bf:={s with k:=(jV x s.k s.b).2.1,b:=(jV x s.k s.b).2.2}
def alg{x:Sn}{s:bf}(a:kF s)(b:dX x.2)(h0:0<=x.1/\x.1<18446744073709551616):kF (FP x s):=
 ⟨a.mn,a.mx,a.le,a.name,a.ver,a.rc,alh a.kp b h0⟩
def jU(s:bf):bf:={s with st:=(fH s).2}
def Oy{v:Int}{k:List Sn}{b:Int}(h:(cZ v k b).2=0):(cZ v k b).1.1=5\/(cZ v k b).1.1=6:=by
 unfold cZ at h⊢;cases a:k.getLast? with
 |none=>rw[a]at h;simp at h
 |some l=>
  rw[a]at h;simp only at h⊢;split
  ·next c=>rw[au c]at h;exact absurd h aU
  next c=>
  rw[aj c]at h;cases e:jD b k with
  |none=>exact .inl rfl
  |some i=>
   rw[e]at h;simp only at h⊢;split;rotate_left
   ·exact .inl rfl
   next f=>
   rw[au f]at h;cases g:k[i]? with
   |none=>exact .inl rfl
   |some s=>
    rw[g]at h;simp only at h⊢;split
    ·next d=>rw[au d]at h;exact absurd h d
    ·exact .inr rfl
def alz{V:Int}{ok:Bool}{p q:bf}(h:pG V ok p q):jU q=q/\∀t∈(fH q).1,Nc V p q t:=by
 have g:(fH q).2=q.st:=by
  unfold fH;rw[h.qf];split
  ·next c=>split<;>exact c.symm
  ·rfl
 refine⟨by unfold jU;rw[g],λt a=>?_⟩;unfold fH at a;rw[h.qf]at a;split at a;rotate_left
 ·cases a
 next c=>
 split at a;rotate_left
 ·cases a
 next i=>
 have j:=Oy (v:=q.vs) (k:=q.k) (b:=q.b) i;have e:(oZ (cZ q.vs q.k q.b).1).kind=(cZ q.vs q.k q.b).1.1:=rfl;obtain⟨f,l⟩:=D9 a (by rw[e];omega) (by rw[e];omega);rw[e]at f;exact⟨l,.inr (.inr (.inl ⟨c,Ky f λk d=>by rw[jX.1 d];rcases j with e|e<;>rw[e]<;>simp⟩))⟩
def akC{V:Int}{ok:Bool}{p q:bf}(h:pG V ok p q):pG V ok (jU p) q/\og p q (jU p) q/\∀t∈(fH p).1,Ez (jU p) t:=by
 by_cases c:p.st=2
 ·have e:fH p=(if(cZ p.vs p.k p.b).2=0 then(jw (oZ (cZ p.vs p.k p.b).1) p.ver,2)else([],2)):=by unfold fH;rw[au c]
  have j:(fH p).2=p.st:=by rw[e,c];split<;>rfl
  have d:jU p=p:=by unfold jU;rw[j]
  rw[d];refine⟨h,og.self p q,λt a=>?_⟩;rw[e]at a;split at a;rotate_left
  ·cases a
  next l=>
  have m:=Oy (v:=p.vs) (k:=p.k) (b:=p.b) l;have e:(oZ (cZ p.vs p.k p.b).1).kind=(cZ p.vs p.k p.b).1.1:=rfl;obtain⟨i,n⟩:=D9 a (by rw[e];omega) (by rw[e];omega);rw[e]at i;exact⟨n,.inr ⟨c,Ky i λk g=>by rw[jX.1 g];rcases m with e|e<;>rw[e]<;>simp⟩⟩
 by_cases f:p.st=3
 ·have e:fH p=([],3):=by unfold fH;rw[aj c,au h.pf,au f]
  have d:jU p=p:=by unfold jU;rw[e,<-f]
  rw[d,e];exact⟨h,og.self p q,λt a=>by cases a⟩
 ·have o:=aiK h.je.mn h.je.le h.je.mx;have e:fH p=([helloT p.mn p.mx],1):=by unfold fH;rw[aj c,au h.pf,aj f,h.pn,o]
  have d:jU p ={p with st:=1}:=by unfold jU;rw[e]
  rw[d,e];refine⟨⟨⟨h.je.mn,h.je.mx,h.je.le,h.je.name,h.je.ver,h.je.rc,h.je.kp⟩,h.oV,h.pf,h.qf,h.pn,h.qn,h.com,.inr (.inl rfl),h.qs,(λe=>by simp at e),h.q2,λ_=>h.pz c,h.qz,(λe=>by simp at e),h.q3⟩,⟨rfl,rfl,λe=>absurd e c,λe=>absurd e f,id,id⟩,λt a=>?_⟩;rw[jX.1 a];exact⟨QS _ _ _,.inl rfl⟩
def aly{V:Int}{ok:Bool}{p q:bf}(h:pG V ok p q):bZ (helloT p.mn p.mx) q=if ok=true then({q with st:=2,ver:=V,vs:=if q.st=2 then q.vs else V},[ED V],0)else({q with st:=3},[FQ],16):=by
 have d:1<=jf q/\jf q<=3:=by
  unfold jf;split
  ·next c=>
   obtain⟨l,o⟩:=h.q2 c;have:=h.I7 l;omega
  ·omega
 have g:=awr h.je.mn h.je.le h.je.mx d.1 d.2;have r:=h.je.mn;have s:=h.je.mx;have t:=h.je.le;have b:kJ q.mn q.mx p.mn p.mx=(V,ok):=by rw[apL];exact h.com
 unfold bZ;rw[g,au rfl];unfold uw;rw[au (show(um p.mn p.mx CJ).kind=1 from rfl)];unfold mX;have b:kJ q.mn q.mx (um p.mn p.mx CJ).min (um p.mn p.mx CJ).max=(V,ok):=b;rw[h.qf,aj aA,aj (show ¬(um p.mn p.mx CJ).min<1 from λe=>by have e:p.mn<1:=e;omega),aj (show ¬(um p.mn p.mx CJ).max<(um p.mn p.mx CJ).min from λe=>by have e:p.mx<p.mn:=e;omega),aj (show ¬255<(um p.mn p.mx CJ).max from λe=>by have e:255<p.mx:=e;omega),b];cases a:ok with
 |true=>
  subst a;obtain⟨-,-,i,j⟩:=h.I7 rfl;simp only[reduceIte];by_cases c:q.st=2
  ·rw[au c,au ⟨trivial,(h.q2 c).2.symm⟩,(h.q2 c).2,h.qn,ZE i j,au c];congr 1;have k:=(h.q2 c).2;have f:=h.qf;have n:=h.qn;clear b g d h;cases q;simp only at c k f n;subst c k f n;rfl
  ·have m:q.st≠3:=λe=>by have:=h.q3 e;cases this
   rw[aj c,aj (by simp[m]),h.qn,ZE i j,aj c]
 |false=>
  subst a;have c:q.st≠2:=λe=>by have:=(h.q2 e).1;cases this
  simp only[reduceIte,iI];rw[aj c,au (.inl trivial),alE]
def alx{V:Int}{ok:Bool}{p q:bf}(h:pG V ok p q){t:Q0}(j:Ez p t):pG V ok p (bZ t q).1/\og p q p (bZ t q).1/\∀u∈(bZ t q).2.1,Nc V p (bZ t q).1 u:=by
 rcases j.2 with l|⟨f,a⟩
 ·rw[l,aly h];cases b:ok with
  |true=>
   subst b;obtain⟨-,-,n,g⟩:=h.I7 rfl;have i:q.st≠3:=λe=>by have:=h.q3 e;cases this
   have o:p.st≠3:=λe=>i (h.p3 e);simp only[reduceIte];refine⟨⟨h.je,⟨h.oV.mn,h.oV.mx,h.oV.le,h.oV.name,⟨by simp only;omega,g⟩,?_,h.oV.kp⟩,h.pf,h.qf,h.pn,h.qn,h.com,h.ps,.inr (.inl rfl),λe=>⟨rfl,(h.p2 e).2.1,rfl⟩,λ_=>⟨rfl,rfl⟩,h.pz,λe=>absurd rfl e,λe=>absurd e o,(λe=>by simp at e)⟩,⟨rfl,rfl,id,id,λ_=>rfl,λe=>absurd e i⟩,λu d=>?_⟩
   ·simp only;split
    ·exact h.oV.rc
    ·exact⟨n,g,h.oV.rc.good,h.oV.rc.ep,h.oV.rc.no⟩
   ·rw[jX.1 d];exact⟨QS _ _ _,.inl ⟨rfl,rfl⟩⟩
  |false=>
   subst b;have c:q.st≠2:=λe=>by have:=(h.q2 e).1;cases this
   have f:p.st≠2:=λe=>by have:=(h.p2 e).1;cases this
   simp only[reduceIte,iI];refine⟨⟨h.je,⟨h.oV.mn,h.oV.mx,h.oV.le,h.oV.name,h.oV.ver,h.oV.rc,h.oV.kp⟩,h.pf,h.qf,h.pn,h.qn,h.com,h.ps,.inr (.inr rfl),λe=>absurd e f,(λe=>by simp at e),h.pz,λ_=>h.qz c,λ_=>rfl,λ_=>rfl⟩,⟨rfl,rfl,id,id,λe=>absurd e c,λ_=>rfl⟩,λu d=>?_⟩;rw[jX.1 d];exact⟨QS _ _ _,.inr (.inl ⟨rfl,rfl⟩)⟩
 ·have m:=aj8 h.oV [5,6,7,8] a (λk a=>a) (.inl (by have:=h.qs;omega));obtain⟨r,s⟩:=h.akb m.ok m.mn m.mx m.name m.first m.st m.ver;refine⟨r,s,λu d=>?_⟩;obtain⟨v,g3,g4⟩:=m.said u d;refine⟨g4,?_⟩;rw[m.st];rcases g3 with g3|g3
  ·exact .inr (.inr (.inl ⟨v,Ky g3 λk a=>by rw[jX.1 a];simp⟩))
  ·exact .inr (.inr (.inr ⟨f,g3⟩))
def akB{V:Int}{ok:Bool}{p q:bf}(h:pG V ok p q)(a:q.st=2)(h1:p.st=1):bZ (ED V) p=({p with st:=2,ver:=V,vs:=V},[],0):=by
 obtain⟨e,-⟩:=h.q2 a;obtain⟨b,c,d,f⟩:=h.I7 e;have g:=an3 d f;have i:jf p=1:=by unfold jf;rw[bW]
 unfold bZ;rw[i,g,au rfl];unfold uw;rw[aj (by simp[qJ]),au (by simp[qJ])];unfold BR;rw[au h1,au (show p.mn<=(qJ V La).chosen/\(qJ V La).chosen<=p.mx from⟨b,c⟩)];rfl
def akD{V:Int}{ok:Bool}{p q:bf}(h:pG V ok p q)(b:q.st=3)(h1:p.st=1):bZ FQ p=({p with st:=3},[],16):=by
 have a:jf p=1:=by unfold jf;rw[bW]
 unfold bZ;rw[a,aBJ,au rfl];unfold uw;rw[aj (by simp[rW]),aj (by simp[rW]),aj (by simp[rW]),aj (by simp[rW]),au (by simp[rW])];unfold noS;rw[bW,au ⟨h1,rfl⟩]
def still{t:Q0}{s:bf}(a:rY [2] t)(h1:s.st≠1):∃e,bZ t s=(s,[],e):=by
 unfold bZ;split;rotate_left
 ·exact⟨_,rfl⟩
 next e=>
 have h:=jX.1 (a _ e);unfold uw;rw[bW,au h];unfold BR;rw[aj h1];split
 ·exact⟨_,rfl⟩
 ·exact⟨_,rfl⟩
def azO{V:Int}{ok:Bool}{p q:bf}(h:pG V ok p q){t:Q0}(w:Nc V p q t):pG V ok (bZ t p).1 q/\og p q (bZ t p).1 q/\∀u∈(bZ t p).2.1,Ez (bZ t p).1 u:=by
 have none:∀e,bZ t p=(p,[],e)->pG V ok (bZ t p).1 q/\og p q (bZ t p).1 q/\∀u∈(bZ t p).2.1,Ez (bZ t p).1 u:=by intro e n;rw[n];exact⟨h,og.self p q,λu c=>by cases c⟩
 have d:∀g:List Int,rY g t->(∀k∈g,k∈([5,6,7,8]:List Int))->(p.st≠1\/(8:Int)∉g)->pG V ok (bZ t p).1 q/\og p q (bZ t p).1 q/\∀u∈(bZ t p).2.1,Ez (bZ t p).1 u:=by
  intro g a x f;have m:=aj8 h.je g a x f;obtain⟨y,z⟩:=h.aj9 m.ok m.mn m.mx m.name m.first m.st m.ver;refine⟨y,z,λu c=>?_⟩;obtain⟨s,g3,g4⟩:=m.said u c;refine⟨g4,.inr ⟨m.st.trans s,?_⟩⟩;rcases g3 with g3|g3
  ·exact Ky g3 λk a=>by rw[jX.1 a];simp
  ·exact Ky g3 λk a=>by rw[jX.1 a];simp
 rcases w.2 with⟨i,j⟩|⟨i,o⟩|⟨j,a⟩|⟨s,a⟩
 ·by_cases f:p.st=1
  ·rw[i,akB h j f];obtain⟨e,-⟩:=h.q2 j;obtain⟨A,B,r,l⟩:=h.I7 e;exact⟨⟨⟨h.je.mn,h.je.mx,h.je.le,h.je.name,⟨by simp only;omega,l⟩,⟨r,l,h.je.rc.good,h.je.rc.ep,h.je.rc.no⟩,h.je.kp⟩,h.oV,h.pf,h.qf,h.pn,h.qn,h.com,.inr (.inr (.inl rfl)),h.qs,λ_=>⟨e,rfl,j⟩,h.q2,λe=>absurd rfl e,h.qz,(λe=>by simp at e),h.q3⟩,⟨rfl,rfl,λ_=>rfl,λe=>ah,id,id⟩,λu c=>by cases c⟩
  ·have a:rY [2] (ED V):=by obtain⟨e,-⟩:=h.q2 j;obtain⟨A,B,r,l⟩:=h.I7 e;exact(D9 (b:=qJ V La) (v:=1) (by rw[ZE r l];simp) (by simp[qJ]) (by simp[qJ])).1
   obtain⟨e,n⟩:=still a f;exact none e (by rw[i];exact n)
 ·by_cases f:p.st=1
  ·rw[i,akD h o f];have e:=h.q3 o;exact⟨⟨⟨h.je.mn,h.je.mx,h.je.le,h.je.name,h.je.ver,h.je.rc,h.je.kp⟩,h.oV,h.pf,h.qf,h.pn,h.qn,h.com,.inr (.inr (.inr rfl)),h.qs,(λe=>by simp at e),h.q2,λ_=>h.pz ah,h.qz,λ_=>o,h.q3⟩,⟨rfl,rfl,λe=>ah,λ_=>rfl,id,id⟩,λu c=>by cases c⟩
  ·have a:rY [8] FQ:=(D9 (b:=rW) (v:=1) (by rw[alE];simp) (by simp[rW]) (by simp[rW])).1;rw[<-i]at a;exact d [8] a (λk a=>by rw[jX.1 a];simp) (.inl f)
 ·exact d [5,6,7] a (λk a=>by simp at a⊢;omega) (.inr aA)
 ·exact d [8] a (λk a=>by rw[jX.1 a];simp) (.inl ah)
def Fin(ok:Bool)(p q:bf):Prop:=if ok=true then p.st=2/\q.st=2 else p.st=3/\q.st=3
def og.fin{ok:Bool}{p q p' q':bf}(l:og p q p' q')(h:Fin ok p q):Fin ok p' q':=by
 unfold Fin at h⊢;split
 ·next c=>rw[au c]at h;exact⟨l.p2 h.1,l.q2 h.2⟩
 ·next c=>rw[aj c]at h;exact⟨l.p3 h.1,l.q3 h.2⟩
def aiG:Wa->bf->bf
 |[],p=>p
 |u::a,p=>aiG a (bZ u p).1
def aiH:Wa->bf->bf->bf×bf
 |[],q,p=>(q,p)
 |t::ts,q,p=>aiH ts (bZ t q).1 (aiG (bZ t q).2.1 p)
def O3(p q:bf):bf×bf:=aiH (fH p).1 q (jU p)
def Ko(t:Q0)(s:bf):(bZ t s).2.1.length<=1:=by
 unfold bZ;split;rotate_left
 ·simp
 unfold uw mX BR l9 qK noS;repeat' split
 all_goals first|exact alY _ _|simp
def SL(s:bf):(fH s).1.length<=1:=by
 unfold fH;repeat' split
 all_goals first|exact alY _ _|simp
def WE(t:Q0)(s:bf):(bZ t s).1.mn=s.mn/\(bZ t s).1.mx=s.mx/\(bZ t s).1.name=s.name/\(bZ t s).1.first=s.first:=by
 unfold bZ;split;rotate_left
 ·exact⟨rfl,rfl,rfl,rfl⟩
 unfold uw mX BR l9 qK noS;repeat' split
 all_goals exact⟨rfl,rfl,rfl,rfl⟩
def kD(s:bf):Q1:=[.zq s.st,.zq s.ver,.zq s.vs,.b s.sm,.zu s.h.1,.l (s.h.2.map row),.l (s.k.map sn),.zu s.b]
def newS(a c:Int)(n:Q0)(f:Bool):bf:=⟨a,c,n,f,0,0,1,false,zS,[],0⟩
def akk{a c:Int}{n:Q0}{f:Bool}(h1:1<=a)(b:a<=c)(d:c<=3)(e:n.length<=256):kF (newS a c n f):=
 ⟨h1,d,b,e,by simp[newS],⟨by simp[newS],by simp[newS],CU.good,by simp[newS,zS],λ_=>rfl⟩,Kp.nil⟩
def amw(k:List Sn)(d:Kp k)(v b:GV):∀(m i:Nat),i+m=k.length->
 TT.lim 170 [.l (k.map sn),.zq (k.length:Int),.zq (i:Int),v,b,.l ((k.take i).map sn)]=some [.zq 0,.l (k.map sn)]
 |0,i,hi=>by have e:¬((i:Int)<k.length):=ah;rw[mF ah];refine aB ?_;simp[e]
 |m+1,i,hi=>by
  have p:=d.len;have a:i<k.length:=ah;have e:(i:Int)<k.length:=ah;have j:IntKind.i64.wrap ((i:Int)+1)=((i+1:Nat):Int):=by rw[wrap64 ah ah];omega
  have h:=amw k d v b m (i+1) ah;have l:=(d.tb _ (iZ a)).good;have n:=O5 k[i] l;have f:at2 2 (some (.l (k.map sn))) (some (.zq (i:Int)))=some (sn k[i]):=by rw[fO,lY,zF,jA,cO a];rfl
  have c:Fe (some (.l (k.map sn))) (some (.zq (i:Int)))=some (.zq (i:Int)):=by rw[ku,au ⟨ah,by rw[gU];omega⟩]
  have g:Jy 2 32 (some (.l ((k.take i).map sn))) (some (.l [sn k[i]]))=some (.l ((k.take (i+1)).map sn)):=by
   rw[GY,au]
   ·rw[Uo,cO a,oJ];rfl
   ·refine⟨rfl,?_,?_⟩<;>simp only[gU,mQ,iE,lQ]<;>omega
  rw[<-j]at h;generalize q:k[i]=x at *;have o:GV.g [.zu x.1,.l (x.2.map row)]=sn x:=rfl;generalize(k.take (i+1)).map sn=r,(k.take i).map sn=s,k.map sn=t,(k.length:Int)=u at *;generalize(i:Int)=w at *;refine aB ?_;simp[-ku,-fO,e,f,c,o,n,g,h]
def aES(k:List Sn)(c:Kp k)(v b:GV):TT.lim 169 [v,.l (k.map sn),b]=some [.zq 0,.l (k.map sn)]:=by
 have h:=amw k c v b k.length 0 ah;have a:((k.map sn).length:Int)=(k.length:Int):=by rw[gU]
 simp only[Ut,jJ,tJ]at h;generalize k.map sn=d,(k.length:Int)=e at *;refine aB ?_;simp[a,h]
def aBx(v s:GV)(h:Sn)(a:dX h.2):TT.lim 302 [v,s,.zu h.1,.l (h.2.map row)]=some [.zq 0,.zu h.1,.l (h.2.map row)]:=by have b:=O5 h a;have c:GV.g [.zu h.1,.l (h.2.map row)]=sn h:=rfl;refine aB ?_;simp[c,b]
def amb(s:bf)(a:kF s):TT.lim 301 (dH s)=some [.zq 0,.zu s.h.1,.l (s.h.2.map row),.l (s.k.map sn)]:=by have b:=aES s.k a.kp (.zq s.vs) (.zu s.b);have c:=aBx (.zq s.vs) (.b s.sm) s.h a.rc.good;unfold dH;refine aB ?_;simp[b,c]
def azq{m:aQ}{b:List aK}{s:bf}(d:tV m b)(a:kF s):kF (uw m b s).1:=by
 unfold uw;by_cases e:m.kind=1
 ·rw[au e];have j:=a.mn;have k:=a.mx;have l:=@aak s.mn s.mx m.min m.max;unfold mX;repeat' split
  all_goals first|exact a|exact⟨a.mn,a.mx,a.le,a.name,a.ver,a.rc,a.kp⟩|skip
  next n o r t u p=>
  have c:(kJ s.mn s.mx m.min m.max).2=true:=by
   cases h:(kJ s.mn s.mx m.min m.max).2 with
   |true=>rfl
   |false=>exact absurd (.inl h) p
  obtain⟨v,w,x,y⟩:=l c;exact⟨a.mn,a.mx,a.le,a.name,⟨by simp only;omega,by simp only;omega⟩,⟨by simp only;omega,by simp only;omega,a.rc.good,a.rc.ep,a.rc.no⟩,a.kp⟩
 rw[aj e];by_cases f:m.kind=2
 ·rw[au f];have j:=a.mn;have k:=a.mx;unfold BR;repeat' split
  all_goals first|exact a|exact⟨a.mn,a.mx,a.le,a.name,a.ver,a.rc,a.kp⟩|skip
  next n o=>
  exact⟨a.mn,a.mx,a.le,a.name,⟨by simp only;omega,by simp only;omega⟩,⟨by simp only;omega,by simp only;omega,a.rc.good,a.rc.ep,a.rc.no⟩,a.kp⟩
 rw[aj f];by_cases g:m.kind=5\/m.kind=6
 ·rw[au g];unfold l9;split
  ·obtain⟨q,-,-⟩:=S9 a.rc (fE m b s.vs) m.kind m.epoch m.base m.t d.t d.body.epoch;exact⟨a.mn,a.mx,a.le,a.name,a.ver,q,a.kp⟩
  ·exact a
 rw[aj g];by_cases i:m.kind=7
 ·rw[au i];unfold qK;split
  ·exact⟨a.mn,a.mx,a.le,a.name,a.ver,a.rc,ZC a.kp⟩
  ·exact a
 rw[aj i];split
 ·unfold noS;repeat' split
  all_goals first|exact a|exact⟨a.mn,a.mx,a.le,a.name,a.ver,a.rc,a.kp⟩
 ·exact a
def Oc{t:Q0}{s:bf}(a:kF s):kF (bZ t s).1:=by
 unfold bZ;split
 ·exact azq (VF t (jf s)) a
 ·exact a
def Ah(x:UInt8)(b:Nat):UInt8:=UInt8.ofNat (x.toNat ^^^ b)
def anG(x:UInt8)(b:Nat)(c:b<256):dA .xor .u8 (x.toNat:Int) (b:Int)=some (.i .u8 ((Ah x b).toNat:Int)):=by
 show some (GV.i IntKind.u8 (IntKind.u8.wrap ((BitVec.ofInt 8 (x.toNat:Int) ^^^ BitVec.ofInt 8 (b:Int)).toNat:Int)))=_
 have d:=x.toNat_lt;have a:x.toNat ^^^ b<256:=Nat.xor_lt_two_pow (n:=8) d c;have o1:(BitVec.ofInt 8 (x.toNat:Int)).toNat=x.toNat:=by rw[wo];omega
 have e:(BitVec.ofInt 8 (b:Int)).toNat=b:=by rw[wo];omega
 rw[BitVec.toNat_xor,o1,e,Ub];unfold Ah;rw[afn,P5 a];generalize x.toNat ^^^ b=N at *;congr 2;omega
def amf{u:Q0}{k:Nat}(b:k<u.length)(y:UInt8):Fe (some (.l (dJ u))) (some (.zq (k:Int)))=some (.zq (k:Int))/\at2 1 (some (.l (dJ u))) (some (.zq (k:Int)))=some (.i .u8 ((u.getD k 0).toNat:Int))/\
 Gq 1 0 (some (.l (dJ u))) (some (.zq (k:Int))) (some [.i .u8 (y.toNat:Int)])=some (.l (dJ (u.set k y))):=by
 have c:(dJ u).length=u.length:=by simp[dJ]
 have a:(dJ u)[k]? =some (.i .u8 ((u.getD k 0).toNat:Int)):=by
  have e:u.getD k 0=u[k]:=by simp[List.getD,cO b]
  rw[e];unfold dJ;rw[jA,cO b];rfl
 refine⟨?_,?_,?_⟩
 ·rw[ku,au ⟨ah,by rw[c];omega⟩]
 ·rw[fO,lY,zF,a];rfl
 ·rw[vX,au ⟨ah,rfl⟩,zF,a];simp only[BA];rw[au (show(GV.i IntKind.u8 ((u.getD k 0).toNat:Int)).cells.length=1 from rfl)];simp only[GV.put,iO];congr 2;unfold dJ;rw[Zh]
