/- What the trees compute: plain laws. -/
import Derived.Test.YtogfeeabnklegaaGreatDoorKBe6
set_option linter.all false
namespace Go.Proofs.YtogfeeabnklegaaGreatDoor
open Go Go.aP
set_option maxRecDepth 100000
namespace B
def aaM(e:Int)(v:GV)(k:List Sn)(n:k.length<=1000):∀m i:Nat,i+m=k.length->
 TT.lim 85 [.zu e,.l (k.map sn),.zq k.length,.zq i,v]=some (sJ ((jC e (k.drop i)).map (· +i)))
 |0,i,hi=>by have h0:k.drop i=[]:=iK;have h:¬((i:Int)<k.length):=ah;refine aB ?_;simp[h,h0,jC,sJ]
 |m+1,i,hi=>by
  have a:i<k.length:=ah;have h:((i:Int)<k.length):=ah;have g:=bH ((i:Int)+1);have l:TT.lim 85 [.zu e,.l (k.map sn),.zq k.length,.zq ((i:Int)+1),v]=_:=aaM e v k n m (i+1) ah;have f:k.drop i=k[i]::k.drop (i+1):=iR a;rw[f];by_cases c:k[i].1=e
  ·have d:sJ ((jC e (k[i]::k.drop (i+1))).map (· +i))=[.zq 0,.zq (i:Int)]:=by unfold jC;rw[Zh,au (by simpa using c)];simp[sJ]
   rw[d];have b:(k[i].1=e)=True:=eq_true c;clear c l;refine aB ?_;simp[-List.getElem_cons_drop,h,a,b,g]
  ·have d:sJ ((jC e (k[i]::k.drop (i+1))).map (· +i))=sJ ((jC e (k.drop (i+1))).map (· +(i+1))):=by
    unfold jC;rw[Zh,aj (by simpa using c)];cases List.findIdx? (λs:Sn=>decide (s.1=e)) (k.drop (i+1))with
    |none=>rfl
    |some j=>simp only[iJ,sJ];congr 3;omega
   rw[d];generalize sJ ((jC e (k.drop (i+1))).map (· +(i+1)))=R at *;have b:(k[i].1=e)=False:=eq_false c;clear c d;refine aB ?_;simp[-List.getElem_cons_drop,h,a,b,g,l]
def auf(e:Int)(v:GV)(k:List Sn)(b:k.length<=1000)(c:jC e k=none):
 TT.lim 84 [.zu e,v,.l (k.map sn)]=some [.zq 0,.zq 0,.b false]:=by
 have a:TT.lim 85 [.zu e,.l (k.map sn),.zq k.length,.zq 0,v]=_:=aaM e v k b k.length 0 ah;rw[dY,c]at a;simp only[ae7,sJ]at a;refine aB ?_;simp[a]
def auh(e:Int)(v:GV)(k:List Sn)(b:k.length<=1000)(j:Nat)(c:jC e k=some j):
 TT.lim 84 [.zu e,v,.l (k.map sn)]=some [.zq 0,.zq (j:Int),.b true]:=by
 have a:TT.lim 85 [.zu e,.l (k.map sn),.zq k.length,.zq 0,v]=_:=aaM e v k b k.length 0 ah;rw[dY,c]at a;simp only[iJ,sJ,pY]at a;refine aB ?_;simp[a]
def aya(v:Int)(k:List Sn)(b:Int)(i:Kp k):
 TT.lim 83 [.zq v,.l (k.map sn),.zu b]=some (Iz (cZ v k b)):=by
 have A:=i.len;unfold cZ;cases r:k.getLast? with
 |none=>obtain rfl:=last_none r;have d:=ai8 (.zq v) (.zu b);refine aB ?_;simp[d,Iz]
 |some l=>
  obtain⟨m,x,y,a⟩:=last_at r;have d:=ai7 (.zq v) (.zu b) k m l x ah y (i.tb l a).good;simp only;by_cases c:l.1=b
  ·rw[au c];have o:(l.1=b)=True:=eq_true c;clear c;refine aB ?_;simp[d,o,Iz]
  rw[aj c];cases p:jC b k with
  |none=>have e:=auf b (.zq v) k ah p;refine aB ?_;simp[d,c,e,Iz,full]
  |some j=>
   have e:=auh b (.zq v) k ah j p;obtain⟨s,n,-,E⟩:=EY p;have q:s∈k:=tN n;simp only[n];have f:(j:Int)<k.length:=ah;by_cases g:2<=v
   ·rw[au g];have t:=asV s l (i.tb s q).good (i.tb l a).good;have u:GV.g [.zu s.1,.l (s.2.map row)]=sn s:=rfl;have w:GV.g [.zu l.1,.l (l.2.map row)]=sn l:=rfl;generalize qg s l=D at *;obtain⟨⟨d1,d2,d3⟩,d4⟩:=D;by_cases h:d4=0
    ·rw[aj (by simpa using h)];have z:(d4=0)=True:=eq_true h;subst h;refine aB ?_;simp[d,c,e,g,n,f,u,w,t,Iz]
    ·rw[au h];refine aB ?_;simp[d,c,e,g,n,f,u,w,t,Iz,h]
   ·rw[aj g];refine aB ?_;simp[d,c,e,g,Iz,full]
def aaN(e:Int)(v b:GV)(k:List Sn)(o:k.length<=1000):∀m i:Nat,i+m=k.length->
 TT.lim 231 [.zu e,.l (k.map sn),.zq k.length,.zq i,v,b]=some (sJ ((jC e (k.drop i)).map (· +i)))
 |0,i,hi=>by have h0:k.drop i=[]:=iK;have h:¬((i:Int)<k.length):=ah;refine aB ?_;simp[h,h0,jC,sJ]
 |m+1,i,hi=>by
  have a:i<k.length:=ah;have h:((i:Int)<k.length):=ah;have l:=bH ((i:Int)+1);have n:TT.lim 231 [.zu e,.l (k.map sn),.zq k.length,.zq ((i:Int)+1),v,b]=_:=aaN e v b k o m (i+1) ah;have g:k.drop i=k[i]::k.drop (i+1):=iR a;rw[g];by_cases d:k[i].1=e
  ·have f:sJ ((jC e (k[i]::k.drop (i+1))).map (· +i))=[.zq 0,.zq (i:Int)]:=by unfold jC;rw[Zh,au (by simpa using d)];simp[sJ]
   rw[f];have c:(k[i].1=e)=True:=eq_true d;clear d n;refine aB ?_;simp[-List.getElem_cons_drop,h,a,c,l]
  ·have f:sJ ((jC e (k[i]::k.drop (i+1))).map (· +i))=sJ ((jC e (k.drop (i+1))).map (· +(i+1))):=by
    unfold jC;rw[Zh,aj (by simpa using d)];cases List.findIdx? (λs:Sn=>decide (s.1=e)) (k.drop (i+1))with
    |none=>rfl
    |some j=>simp only[iJ,sJ];congr 3;omega
   rw[f];generalize sJ ((jC e (k.drop (i+1))).map (· +(i+1)))=R at *;have c:(k[i].1=e)=False:=eq_false d;clear d f;refine aB ?_;simp[-List.getElem_cons_drop,h,a,c,l,n]
def aug(e:Int)(v b:GV)(k:List Sn)(c:k.length<=1000)(d:jC e k=none):
 TT.lim 230 [.zu e,v,.l (k.map sn),b]=some [.zq 0,.zq 0,.b false]:=by
 have a:TT.lim 231 [.zu e,.l (k.map sn),.zq k.length,.zq 0,v,b]=_:=aaN e v b k c k.length 0 ah;rw[dY,d]at a;simp only[ae7,sJ]at a;refine aB ?_;simp[a]
def aui(e:Int)(v b:GV)(k:List Sn)(c:k.length<=1000)(j:Nat)(d:jC e k=some j):
 TT.lim 230 [.zu e,v,.l (k.map sn),b]=some [.zq 0,.zq (j:Int),.b true]:=by
 have a:TT.lim 231 [.zu e,.l (k.map sn),.zq k.length,.zq 0,v,b]=_:=aaN e v b k c k.length 0 ah;rw[dY,d]at a;simp only[iJ,sJ,pY]at a;refine aB ?_;simp[a]
def anL(e:Int)(v:GV)(k:List Sn)(b:Int)(f:k.length<=1000):
 TT.lim 229 [.zu e,v,.l (k.map sn),.zu b]=some [.zq 0,.b (sD e k b).1,.l ((sD e k b).2.1.map sn),.zu (sD e k b).2.2]:=by
 unfold sD;by_cases a:e<=b
 ·rw[au a];refine aB ?_;simp[a]
 ·rw[aj a];cases c:jC e k with
  |none=>have d:=aug e v (.zu b) k f c;refine aB ?_;simp[a,d]
  |some j=>
   have d:=aui e v (.zu b) k f j c;obtain⟨x,-,-,m⟩:=EY c;have g:=ajr (k:=k) (i:=j) ah;have h:=amd (k.drop j);have l:2*(k.drop j).length*32<=281474976710656/\(k.drop j).length<=281474976710656:=by rw[fU];omega
   show _=some [_,_,GV.l ((k.drop j).map sn),_]
   generalize k.drop j=R at *;refine aB ?_;simp[-nT,-List.all_eq_true,-List.all_map,a,d,g,h,l]
def FH(a x:Int):Int:=if a<x then x else a
def CX(c y:Int):Int:=if y<c then y else c
def jK(a c x y:Int):Int×Bool:=if CX c y<FH a x then(0,false)else(CX c y,true)
def agu(a c x y:Int):TT.lim 31 [.g [.zu a,.zu c],.g [.zu x,.zu y]]=some [.zu (jK a c x y).1,.b (jK a c x y).2]:=by
 have e:∀p q:Int,TT.lim 33 [.l [.g [.zu x,.zu y]],.zq 1,.zq 1,.zu p,.zu q]=some [.zq 0,.zu p,.zu q]:=by intro p q;refine aB ?_;simp
 have d:TT.lim 33 [.l [.g [.zu x,.zu y]],.zq 1,.zq 0,.zu a,.zu c]=some [.zq 0,.zu (FH a x),.zu (CX c y)]:=by have h:=e (FH a x) (CX c y);have w:IntKind.i64.wrap 1=1:=rfl;refine aB ?_;simp[w];exact h
 have f:TT.lim 32 [.l [.g [.zu a,.zu c],.g [.zu x,.zu y]]]=some [.zu (jK a c x y).1,.b (jK a c x y).2]:=by
  unfold jK;by_cases b:CX c y<FH a x
  ·rw[au b];refine aW ?_;simp[d,b]
  ·rw[aj b];refine aW ?_;simp[d,b]
 refine aW ?_;simp[f]
def jr(b:aQ)(v:Int):Wa:=if(qO b [] v).2=0 then[(qO b [] v).1]else[]
def Tt{b:aQ}(c:xH b [])(v:Int):TT.lim 88 [jh b [],.zq v]=some [.l ((jr b v).map .s)]:=by
 have a:=azd c v;have a:TT.lim 89 [jh b [],.zq v]=some [.s (qO b [] v).1,.zq (qO b [] v).2]:=a;unfold jr;generalize qO b [] v=E at *;obtain⟨t,e⟩:=E;by_cases h:e=0
 ·rw[au h];subst h;refine aW ?_;simp[lT,a]
 ·rw[aj h];refine aW ?_;simp[lT,a,h]
def alK(b:aQ)(v:Int):(jr b v).length<=1:=by unfold jr;split<;>simp
structure bC where
 mn:Int
 mx:Int
 name:Q0
 first:Bool
 st:Int
 ver:Int
 vs:Int
 sm:Bool
 h:Sn
 k:List Sn
 b:Int
structure kD(s:bC):Prop where
 mn:1<=s.mn
 mx:s.mx<=3
 le:s.mn<=s.mx
 name:s.name.length<=256
 ver:0<=s.ver/\s.ver<=3
 rc:Rec s.vs s.sm s.h
 kp:Kp s.k
def dA(s:bC):Q1:=[.zu s.mn,.zu s.mx,.s s.name,.b s.first,.zq s.st,.zq s.ver,.zq s.vs,.b s.sm,.zu s.h.1,.l (s.h.2.map row),.l (s.k.map sn),.zu s.b]
def Me{b:aQ}(a:vZ b)(c:b.d=[])(d:eF b.t)(h1:b.name.length<=600)(e:b.region=[])(f:b.note=[]):xH b []:=
 ⟨⟨a,by rw[c];rfl,d,by simp only[fD],aA⟩,⟨h1,by rw[e];simp,by rw[f];simp⟩,by simp[dO],by simp[wL]⟩
def pq(m:Tm):aQ:=jQ m.1 m.2.1 m.2.2.1 m.2.2.2
def gy(s:bC):Wa×Int:=
 if s.st=2 then(if(cZ s.vs s.k s.b).2=0 then(jr (pq (cZ s.vs s.k s.b).1) s.ver,2)else([],2))
 else if s.first=true then(if s.st=3 then([],3)else(jr (uj s.mn s.mx s.name) 1,1))else([],s.st)
def avM{a c:Int}{n:Q0}(b:0<=a/\a<18446744073709551616)(d:0<=c/\c<18446744073709551616)(e:n.length<=600):xH (uj a c n) []:=by refine Me ?_ rfl CW.good e rfl rfl;refine⟨?_,?_,b,d,?_,?_,?_,?_,?_,?_,?_,?_,?_,?_,?_,?_,?_,?_,?_,?_,?_,?_⟩<;>first|(simp only[uj];omega)|simp[uj,uF,Rows]
def ad1{v:Int}{k:List Sn}{b:Int}(c:Kp k):xH (pq (cZ v k b).1) []:=by obtain⟨d,e,f,a⟩:=ayb (v:=v) (b:=b) c;exact Me (aob d e f a.rows) rfl a (by simp[pq,jQ]) rfl rfl
def akV(s:bC)(d:kD s):TT.lim 82 (dA s)=some [.zq 0,.l ((gy s).1.map .s),.zq (gy s).2]:=by
 have i:=aya s.vs s.k s.b d.kp;have p:=d.mn;have q:=d.mx;have r:=d.le;have t:=d.name;have o:TT.lim 88 [.g [.zq 1,.zu 0,.zu s.mn,.zu s.mx,.zu 0,.zu 0,.zu 0,.zu 0,.zu 0,.zu 0,.zu 0,.zu 0,.zu 0,.zu 0,.zu 0,.zu 0,.zq 0,.b false,.s s.name,.s [],.s [],.l [],.l [],.l []],.zq 1]=some [.l ((jr (uj s.mn s.mx s.name) 1).map .s)]:=Tt (avM (a:=s.mn) (c:=s.mx) (n:=s.name) ah ah ah) 1;have k:=Tt (ad1 (v:=s.vs) (b:=s.b) d.kp) s.ver;unfold gy;unfold dA;generalize cZ s.vs s.k s.b=M at *;have k:TT.lim 88 [.g [.zq M.1.1,.zu 0,.zu 0,.zu 0,.zu 0,.zu 0,.zu 0,.zu 0,.zu 0,.zu 0,.zu M.1.2.1,.zu M.1.2.2.1,.zu 0,.zu 0,.zu 0,.zu 0,.zq 0,.b false,.s [],.s [],.s [],.l [],.l (M.1.2.2.2.map row),.l []],.zq s.ver]=some [.l ((jr (pq M.1) s.ver).map .s)]:=k;generalize jr (uj s.mn s.mx s.name) 1=Y,jr (pq M.1) s.ver=W at *;simp only[Iz]at i;by_cases f:s.st=2
 ·rw[au f];have g:(s.st=2)=True:=eq_true f;by_cases e:M.2=0
  ·rw[au e];have u:(M.2=0)=True:=eq_true e;rw[e]at i;refine aB ?_;simp[g,i,k]
  ·rw[aj e];refine aB ?_;simp[g,i,e]
 rw[aj f];by_cases h:s.first=true
 ·rw[au h];by_cases j:s.st=3
  ·rw[au j];have l:(s.st=3)=True:=eq_true j;refine aB ?_;simp[f,h,l]
  ·rw[aj j];refine aB ?_;simp[f,h,j,o]
 ·rw[aj h];have m:s.first=false:=by simpa using h
  refine aB ?_;simp[f,m]
def ak7(x:Sn)(s:bC)(a:eF x.2)(b:kD s):TT.lim 61 (.zu x.1::.l (x.2.map row)::dA s)=some [.zq 0,.zq (jU x s.k s.b).1,.l ((jU x s.k s.b).2.1.map sn),.zu (jU x s.k s.b).2.2]:=by have c:=az2 x (.zq s.vs) s.k s.b a b.kp;unfold dA;generalize jU x s.k s.b=P at *;refine aB ?_;simp[c]
def qJ(v:Int)(n:Q0):aQ:={gK with kind:=2,chosen:=v,name:=n}
def rW:aQ:={gK with kind:=8,code:=16}
def anS{v:Int}{n:Q0}(a:0<=v/\v<18446744073709551616)(b:n.length<=600):xH (qJ v n) []:=by refine Me ?_ rfl CW.good b rfl rfl;refine⟨?_,?_,?_,?_,a,?_,?_,?_,?_,?_,?_,?_,?_,?_,?_,?_,?_,?_,?_,?_,?_,?_⟩<;>first|(simp only[qJ];omega)|simp[qJ,gK,uF,Rows]
def aAZ:xH rW []:=by refine Me ?_ rfl CW.good (by simp[rW,gK]) rfl rfl;refine⟨?_,?_,?_,?_,?_,?_,?_,?_,?_,?_,?_,?_,?_,?_,?_,?_,?_,?_,?_,?_,?_,?_⟩<;>simp[rW,gK,uF,Rows]
def afm(s:bC)(a:kD s)(b:0<=s.ver/\s.ver<=3):TT.lim 220 (dA s)=some [.zq 0,.l ((jr (qJ s.ver s.name) 1).map .s)]:=by have e:=a.name;have c:=I9 (n:=s.ver) b.1 ah;have d:TT.lim 88 [.g [.zq 2,.zu 0,.zu 0,.zu 0,.zu s.ver,.zu 0,.zu 0,.zu 0,.zu 0,.zu 0,.zu 0,.zu 0,.zu 0,.zu 0,.zu 0,.zu 0,.zq 0,.b false,.s s.name,.s [],.s [],.l [],.l [],.l []],.zq 1]=some [.l ((jr (qJ s.ver s.name) 1).map .s)]:=Tt (anS (v:=s.ver) (n:=s.name) ah ah) 1;unfold dA;generalize jr (qJ s.ver s.name) 1=Y at *;refine aB ?_;simp[c,d]
def apj{a c x y:Int}(h:(jK a c x y).2=true):FH a x<=(jK a c x y).1/\(jK a c x y).1=CX c y:=by
 unfold jK at h⊢;split
 ·next b=>rw[au b]at h;cases h
 ·exact⟨by simp only;omega,rfl⟩
def aak{a c x y:Int}(h:(jK a c x y).2=true):a<=(jK a c x y).1/\x<=(jK a c x y).1/\(jK a c x y).1<=c/\(jK a c x y).1<=y:=by obtain⟨b,d⟩:=apj h;generalize(jK a c x y).1=z at *;unfold FH at b;unfold CX at d;split at b<;>split at d<;>omega
def mW(m:aQ)(s:bC):bC×Wa×Int:=
 if s.first=true then(s,[],22)else if m.min<1 then(s,[],18)else if m.max<m.min then(s,[],18)else if 255<m.max then(s,[],18)else
 if s.st=2 then(if(jK s.mn s.mx m.min m.max).2=true/\(jK s.mn s.mx m.min m.max).1=s.ver then(s,jr (qJ s.ver s.name) 1,0)else(s,[],22))
 else if(jK s.mn s.mx m.min m.max).2=false\/s.st=3 then({s with st:=3},jr rW 1,16)
 else({s with st:=2,ver:=(jK s.mn s.mx m.min m.max).1,vs:=(jK s.mn s.mx m.min m.max).1},jr (qJ (jK s.mn s.mx m.min m.max).1 s.name) 1,0)
def avK(m:aQ)(y:List aK)(s:bC)(z:m.kind=1)(a:kD s):TT.lim 219 ((jh m (aI y)).cells++dA s)=some [.zq 0,.l ((mW m s).2.1.map .s),.zq (mW m s).2.2,.zq (mW m s).1.st,.zq (mW m s).1.ver,.zq (mW m s).1.vs]:=by
 have i:=agu s.mn s.mx m.min m.max;have A:=@aak s.mn s.mx m.min m.max;have x:TT.lim 88 [.g [.zq 8,.zu 0,.zu 0,.zu 0,.zu 0,.zu 0,.zu 0,.zu 0,.zu 0,.zu 0,.zu 0,.zu 0,.zu 0,.zu 0,.zu 16,.zu 0,.zq 0,.b false,.s [],.s [],.s [],.l [],.l [],.l []],.zq 1]=some [.l ((jr rW 1).map .s)]:=Tt aAZ 1;have r:=afm s a a.ver;have k:=λ(v:Int)(h:1<=v/\v<=3)=>afm {s with st:=2,ver:=v,vs:=v} ⟨a.mn,a.mx,a.le,a.name,⟨by simp only;omega,h.2⟩,⟨h.1,h.2,a.rc.good,a.rc.ep,a.rc.no⟩,a.kp⟩ ⟨by simp only;omega,h.2⟩;have F:=a.mn;have G:=a.mx;have D:=a.ver;have l:=I9 (n:=s.ver) D.1 ah;rw[fE];unfold mW;simp only[dA,bD,aX]at r k⊢;generalize jK s.mn s.mx m.min m.max=C,jr rW 1=H at *;rw[z];by_cases p:s.first=true
 ·rw[au p];refine aB ?_;simp[p]
 rw[aj p];have o:s.first=false:=by simpa using p
 rw[o]at r k;simp only[o];by_cases b:m.min<1
 ·rw[au b];refine aB ?_;simp[b]
 rw[aj b];by_cases d:m.max<m.min
 ·rw[au d];refine aB ?_;simp[b,d]
 rw[aj d];by_cases f:255<m.max
 ·rw[au f];refine aB ?_;simp[b,d,f]
 rw[aj f];by_cases j:s.st=2
 ·rw[au j];have t:(s.st=2)=True:=eq_true j;by_cases c:C.2=true
  ·by_cases g:C.1=s.ver
   ·rw[au ⟨c,g⟩];have u:(C.1=s.ver)=True:=eq_true g;refine aB ?_;simp[b,d,f,t,i,c,u,l,r]
   ·rw[aj (λh=>g h.2)];refine aB ?_;simp[b,d,f,t,i,c,g,l]
  ·rw[aj (λh=>c h.1)];have q:C.2=false:=by simpa using c
   refine aB ?_;simp[b,d,f,t,i,q]
 rw[aj j];by_cases c:C.2=true;rotate_left
 ·have q:C.2=false:=by simpa using c
  rw[au (.inl q)];refine aB ?_;simp[b,d,f,j,i,q,x]
 by_cases g:s.st=3
 ·rw[au (.inr g)];have u:(s.st=3)=True:=eq_true g;refine aB ?_;simp[b,d,f,j,i,c,u,x]
 rw[aj (λh=>h.elim (λe=>by rw[c]at e;cases e) g)];obtain⟨I,J,L,M⟩:=A c;have k:=k C.1 ⟨ah,ah⟩;have w:=bH (C.1);have E:1<=C.1:=ah;have g3:C.1<=3:=ah;refine aB ?_;simp[b,d,f,j,i,c,g,w,E,g3,k]
def BR(m:aQ)(s:bC):bC×Wa×Int:=
 if s.st=1 then(if s.mn<=m.chosen/\m.chosen<=s.mx then({s with st:=2,ver:=m.chosen,vs:=m.chosen},[],0)else({s with st:=3},[],16))
 else if s.st=2/\s.first=true/\m.chosen=s.ver then(s,[],0)else(s,[],22)
def lY(m:aQ)(a:List aK)(s:bC):bC×Wa×Int:=
 if s.st=2 then
  ({s with sm:=(iH (fC m a s.vs) s.vs m.kind m.epoch m.base m.t s.sm s.h).2.2.1,h:=(iH (fC m a s.vs) s.vs m.kind m.epoch m.base m.t s.sm s.h).2.2.2},
   if(iH (fC m a s.vs) s.vs m.kind m.epoch m.base m.t s.sm s.h).1.1=0 then[]else jr (iE (iH (fC m a s.vs) s.vs m.kind m.epoch m.base m.t s.sm s.h).1) s.ver,
   (iH (fC m a s.vs) s.vs m.kind m.epoch m.base m.t s.sm s.h).2.1)
 else(s,[],22)
def qK(m:aQ)(s:bC):bC×Wa×Int:=
 if s.st=2 then({s with k:=(sD m.epoch s.k s.b).2.1,b:=(sD m.epoch s.k s.b).2.2},[],0)else(s,[],22)
def noS(m:aQ)(s:bC):bC×Wa×Int:=
 if s.st=2 then({s with b:=0},[],0)else if s.st=1/\m.code=16 then({s with st:=3},[],16)else(s,[],22)
def uq(m:aQ)(a:List aK)(s:bC):bC×Wa×Int:=
 if m.kind=1 then mW m s else if m.kind=2 then BR m s else if m.kind=5\/m.kind=6 then lY m a s else if m.kind=7 then qK m s else if m.kind=8 then noS m s else(s,[],15)
def iY(s:bC):Int:=if s.st=2 then s.ver else 1
def bY(t:Q0)(s:bC):bC×Wa×Int:=
 if(je t (iY s)).2.2=0 then uq (je t (iY s)).1 (je t (iY s)).2.1 s else(s,[],(je t (iY s)).2.2)
def WJ(r:bC×Wa×Int):Q1:=[.zq 0,.l (r.2.1.map .s),.zq r.2.2,.zq r.1.st,.zq r.1.ver,.zq r.1.vs,.b r.1.sm,.zu r.1.h.1,.l (r.1.h.2.map row),.l (r.1.k.map sn),.zu r.1.b]
def take_zero(c v kd b d:Int)(t:List Row)(e:Bool)(h:Sn)(h0:(iH c v kd b d t e h).1.1=0):(iH c v kd b d t e h).1=(0,0,0,0):=by
 unfold iH at h0⊢;split
 ·rfl
 next f=>
 rw[aj f]at h0;split
 ·next a=>
  rw[au a]at h0;split at h0<;>simp at h0
 next a=>
 rw[aj a]at h0;split
 ·next g=>
  rw[au g]at h0;split at h0
  ·simp at h0
  ·split at h0<;>simp at h0
 ·rfl
def aDW(m:aQ)(a:List aK)(s:bC)(f:tV m a)(q:kD s):TT.lim 221 ((jh m (aI a)).cells++dA s)=some [.zq 0,.l ((lY m a s).2.1.map .s),.zq (lY m a s).2.2,.b (lY m a s).1.sm,.zu (lY m a s).1.h.1,.l ((lY m a s).1.h.2.map row)]:=by
 have k:=aEU m a s.vs s.sm s.h f.body f.t f.f8 f.len q.rc.good;obtain⟨y,u,z⟩:=Tf q.rc (fC m a s.vs) m.kind m.epoch m.base m.t f.t f.body.epoch;have r:=take_zero (fC m a s.vs) s.vs m.kind m.epoch m.base m.t s.sm s.h;unfold lY;by_cases n:s.st=2;rotate_left
 ·rw[aj n,fE];simp only[dA,bD,aX];refine aB ?_;simp[n]
 rw[au n];have l:(s.st=2)=True:=eq_true n;rw[fE]at k⊢;simp only[dA,bD,aX]at k⊢;generalize iH (fC m a s.vs) s.vs m.kind m.epoch m.base m.t s.sm s.h=R at *;obtain⟨⟨b,g,i,j⟩,e,A,h⟩:=R;have t:xH (iE (b,g,i,j)) []:=Me u rfl CW.good (by simp[iE]) rfl rfl;have p:TT.lim 88 [.g [.zq b,.zu 0,.zu 0,.zu 0,.zu 0,.zu 0,.zu 0,.zu 0,.zu 0,.zu 0,.zu g,.zu 0,.zu 0,.zu 0,.zu i,.zu j,.zq 0,.b false,.s [],.s [],.s [],.l [],.l [],.l []],.zq s.ver]=some [.l ((jr (iE (b,g,i,j)) s.ver).map .s)]:=Tt t s.ver;have o:TT.lim 223 [.g [.zq b,.zu 0,.zu 0,.zu 0,.zu 0,.zu 0,.zu 0,.zu 0,.zu 0,.zu 0,.zu g,.zu 0,.zu 0,.zu 0,.zu i,.zu j,.zq 0,.b false,.s [],.s [],.s [],.l [],.l [],.l []],.g [.zq 0,.zu 0,.zu 0,.zu 0,.zu 0,.zu 0,.zu 0,.zu 0,.zu 0,.zu 0,.zu 0,.zu 0,.zu 0,.zu 0,.zu 0,.zu 0,.zq 0,.b false,.s [],.s [],.s [],.l [],.l [],.l []]]=some [.b (eG (iE (b,g,i,j)=gK/\([]:List aK)=[]))]:=by
  have:=t.msg.axL (fc:=[]) Ja (by simp[dO]);have fn:aI []=[]:=by simp only[aI]
  rw[fn]at this;exact this
 generalize jr (iE (b,g,i,j)) s.ver=W at *;simp only[zl]at k;simp only at r⊢;by_cases c:b=0
 ·rw[au c];have d:=r c;injection d with v d
  injection d with w d
  injection d with x d
  subst v w x d;rw[nR ⟨rfl,rfl⟩]at o;refine aB ?_;simp[l,k,o]
 ·rw[aj c];rw[lN (λh=>c (uS aQ.kind h.1))]at o;refine aB ?_;simp[l,k,o,p]
def anM(m:aQ)(c:List aK)(s:bC)(d:kD s):TT.lim 228 ((jh m (aI c)).cells++dA s)=some [.zq 0,.zq (qK m s).2.2,.l ((qK m s).1.k.map sn),.zu (qK m s).1.b]:=by
 have e:=anL m.epoch (.zq s.vs) s.k s.b (by have:=d.kp.len;omega);unfold qK;by_cases a:s.st=2;rotate_left
 ·rw[aj a,fE];simp only[dA,bD,aX];refine aB ?_;simp[a]
 rw[au a];have b:(s.st=2)=True:=eq_true a;rw[fE];simp only[dA,bD,aX];generalize sD m.epoch s.k s.b=A at *;refine aB ?_;simp[b,e]
def air(m:aQ)(s:bC):(mW m s).1.sm=s.sm/\(mW m s).1.h=s.h/\(mW m s).1.k=s.k/\(mW m s).1.b=s.b/\(mW m s).1.mn=s.mn/\(mW m s).1.mx=s.mx/\(mW m s).1.name=s.name/\(mW m s).1.first=s.first:=by
 unfold mW;repeat' split
 all_goals simp
set_option maxHeartbeats 2000000 in
def ah9(t:Q0)(s:bC)(Q:t.length<=140737488351232)(w:kD s):TT.lim 187 (.s t::dA s)=some (WJ (bY t s)):=by
 have b:=decode_ok t (iY s) Q;have P:=VH t (iY s);unfold bY;generalize je t (iY s)=D at *;obtain⟨m,c,e⟩:=D;simp only at b P⊢;have l:=avK m c s;have i:=aDW m c s P w;have x:=anM m c s w;have p:=air m s;have J:=w.ver;have y:=I9 (n:=s.ver) J.1 ah;have R:=w.mn;have S:=w.mx;rw[fE]at l i x;unfold iY at b;unfold WJ;have j:s.st=2\/¬s.st=2:=Ul _;by_cases z:e=0;rotate_left
 ·rw[aj z];simp only[dA];rcases j with a|a
  ·rw[au a]at b;have q:(s.st=2)=True:=eq_true a;refine aB ?_;simp[q,b,z]
  ·rw[aj a]at b;refine aB ?_;simp[a,b,z]
 rw[au z];subst z;unfold uq;by_cases k:m.kind=1
 ·rw[au k];have l:=l k w;obtain⟨T,U,V,W,-⟩:=p;rw[T,U,V,W];generalize mW m s=H at *;simp only[dA,bD,aX]at l⊢;rw[k]at l;have X:(m.kind=1)=True:=eq_true k;rcases j with a|a
  ·rw[au a]at b;have q:(s.st=2)=True:=eq_true a;rw[a]at l;refine aB ?_;simp[a,b,k,l]
  ·rw[aj a]at b;refine aB ?_;simp[a,b,k,l]
 rw[aj k];by_cases d:m.kind=2
 ·rw[au d];have Y:(m.kind=2)=True:=eq_true d;unfold BR;simp only[dA];rcases j with a|a
  ·rw[au a]at b;rw[bU];have q:(s.st=2)=True:=eq_true a;by_cases A:s.first=true
   ·by_cases E:m.chosen=s.ver
    ·rw[au ⟨a,A,E⟩];have L:(m.chosen=s.ver)=True:=eq_true E;refine aB ?_;simp[a,b,d,A,L,y]
    ·rw[aj (λh=>E h.2.2)];refine aB ?_;simp[a,b,d,A,E,y]
   ·rw[aj (λh=>A h.2.1)];have M:s.first=false:=by simpa using A
    refine aB ?_;simp[a,b,d,M]
  ·rw[aj a]at b;by_cases f:s.st=1
   ·rw[au f];by_cases r1:s.mn<=m.chosen
    ·by_cases r2:m.chosen<=s.mx
     ·rw[au ⟨r1,r2⟩];have Z:1<=m.chosen:=ah;have g3:m.chosen<=3:=ah;have N:=bH (m.chosen);refine aB ?_;simp[f,b,d,r1,r2,N,Z,g3]
     ·rw[aj (λh=>r2 h.2)];refine aB ?_;simp[f,b,d,r1,r2]
    ·rw[aj (λh=>r1 h.1)];refine aB ?_;simp[f,b,d,r1]
   ·rw[aj f,aj (λh=>a h.1)];refine aB ?_;simp[f,a,b,d]
 rw[aj d];by_cases r:m.kind=5
 ·rw[au (.inl r)];have g:(lY m c s).1.st=s.st/\(lY m c s).1.ver=s.ver/\(lY m c s).1.vs=s.vs/\(lY m c s).1.k=s.k/\(lY m c s).1.b=s.b:=by unfold lY;split<;>simp
  rw[g.1,g.2.1,g.2.2.1,g.2.2.2.1,g.2.2.2.2];generalize lY m c s=H at *;simp only[dA,bD,aX]at i⊢;rw[r]at i;rcases j with a|a
  ·rw[au a]at b;rw[a]at i;refine aB ?_;simp[a,b,r,i]
  ·rw[aj a]at b;refine aB ?_;simp[a,b,r,i]
 by_cases u:m.kind=6
 ·rw[au (.inr u)];have g:(lY m c s).1.st=s.st/\(lY m c s).1.ver=s.ver/\(lY m c s).1.vs=s.vs/\(lY m c s).1.k=s.k/\(lY m c s).1.b=s.b:=by unfold lY;split<;>simp
  rw[g.1,g.2.1,g.2.2.1,g.2.2.2.1,g.2.2.2.2];generalize lY m c s=H at *;simp only[dA,bD,aX]at i⊢;rw[u]at i;rcases j with a|a
  ·rw[au a]at b;rw[a]at i;refine aB ?_;simp[a,b,u,i]
  ·rw[aj a]at b;refine aB ?_;simp[a,b,u,i]
 rw[aj (λh=>h.elim r u)];by_cases v:m.kind=7
 ·rw[au v];have g:(qK m s).1.st=s.st/\(qK m s).1.ver=s.ver/\(qK m s).1.vs=s.vs/\(qK m s).1.sm=s.sm/\(qK m s).1.h=s.h/\(qK m s).2.1=[]:=by unfold qK;split<;>simp
  rw[g.1,g.2.1,g.2.2.1,g.2.2.2.1,g.2.2.2.2.1,g.2.2.2.2.2];generalize qK m s=H at *;simp only[dA,bD,aX]at x⊢;rw[v]at x;rcases j with a|a
  ·rw[au a]at b;rw[a]at x;refine aB ?_;simp[a,b,v,x]
  ·rw[aj a]at b;refine aB ?_;simp[a,b,v,x]
 rw[aj v];by_cases o:m.kind=8
 ·rw[au o];unfold noS;simp only[dA];rcases j with a|a
  ·rw[au a]at b;rw[au a];refine aB ?_;simp[a,b,o]
  ·rw[aj a]at b;rw[aj a];by_cases f:s.st=1
   ·by_cases F:m.code=16
    ·rw[au ⟨f,F⟩];have O:(m.code=16)=True:=eq_true F;refine aB ?_;simp[f,b,o,O]
    ·rw[aj (λh=>F h.2)];refine aB ?_;simp[f,b,o,F]
   ·rw[aj (λh=>f h.1)];refine aB ?_;simp[f,a,b,o]
 ·rw[aj o];simp only[dA];by_cases G:m.kind=3
  ·rcases j with a|a
   ·rw[au a]at b;refine aB ?_;simp[a,b,G]
   ·rw[aj a]at b;refine aB ?_;simp[a,b,G]
  by_cases I:m.kind=4
  ·rcases j with a|a
   ·rw[au a]at b;refine aB ?_;simp[a,b,I]
   ·rw[aj a]at b;refine aB ?_;simp[a,b,I]
  rcases j with a|a
  ·rw[au a]at b;refine aB ?_;simp[a,b,k,d,G,I,r,u,v,o]
  ·rw[aj a]at b;refine aB ?_;simp[a,b,k,d,G,I,r,u,v,o]
def rY(a:List Int)(t:Q0):Prop:=∀w,(je t w).2.2=0->(je t w).1.kind∈a
def asT{t x:Q0}{k:Nat}(a:k<18446744073709551616)(b:t=aS k++x)(w:Int)(h:(je t w).2.2=0):(je t w).1.kind=k:=by
 have d:(aF t).1=k:=by rw[b,Gt k x a]
 unfold je at h⊢;split
 ·next c=>rw[au c]at h;exact absurd h aV
 next c=>
 rw[aj c]at h;split
 ·next c=>rw[au c]at h;exact absurd h aV
 next c=>
 rw[aj c]at h;split
 ·next c=>rw[au c]at h;exact absurd h aV
 next c=>
 rw[aj c]at h;split
 ·next c=>rw[au c]at h;exact absurd h c
 next c=>
 rw[aj c]at h;split
 ·next c=>rw[au c]at h;exact absurd h aV
 next c=>
 rw[aj c]at h;split
 ·next c=>rw[au c]at h;exact absurd h aV
 next c=>
 rw[aj c]at h;split
 ·next c=>rw[au c]at h;exact absurd h aV
 next c=>
 rw[aj c]at h;split
 ·next c=>rw[au c]at h;exact absurd h c
 next c=>
 rw[aj c]at h;simp only at h⊢;split
 ·next c=>rw[au c]at h;exact absurd h c
 next c=>
 rw[aj c]at h;split
 ·next c=>rw[au c]at h;exact absurd h c
 ·rw[agH _ _ _ (by simpa using c),d]
def Eb{b:aQ}{v:Int}{t:Q0}(h:t∈jr b v)(h0:0<=b.kind)(i:b.kind<=8):rY [b.kind] t/\t.length<=65536:=by
 unfold jr at h;split at h;rotate_left
 ·cases h
 next e=>
 have d:=QV b [] v;obtain rfl:=jW.1 h;refine⟨λw a=>?_,d⟩;unfold qO at e a⊢;split at e;rotate_left
 ·next c=>exact absurd e c
 next c=>
 rw[au c]at a⊢;split at e
 ·exact absurd e aV
 next f=>
 rw[aj f]at a⊢;simp only at a⊢;have g:=asT (t:=bytesV b [] v) (k:=b.kind.toNat) ah rfl w a;rw[g];simp[Jd h0]
structure Mid(s:bC)(r:bC×Wa×Int):Prop where
 ok:kD r.1
 mn:r.1.mn=s.mn
 mx:r.1.mx=s.mx
 name:r.1.name=s.name
 first:r.1.first=s.first
 st:r.1.st=s.st
 ver:r.1.ver=s.ver
 said:∀u∈r.2.1,s.st=2/\(rY [7] u\/rY [8] u)/\u.length<=65536
def Xv{s:bC}(a:kD s)(e:Int):Mid s (s,[],e):=⟨a,rfl,rfl,rfl,rfl,rfl,rfl,λu h=>by cases h⟩
def adZ(c v kd a b:Int)(t:List Row)(d:Bool)(h:Sn):(iH c v kd a b t d h).1.1=0\/(iH c v kd a b t d h).1.1=7\/(iH c v kd a b t d h).1.1=8:=by
 unfold iH;repeat' split
 all_goals simp
def axJ{m:aQ}{d:List aK}{s:bC}(i:tV m d)(a:kD s)(j:m.kind∈([5,6,7,8]:List Int))(h1:s.st≠1\/m.kind≠8):Mid s (uq m d s):=by
 have j:m.kind=5\/m.kind=6\/m.kind=7\/m.kind=8:=by simpa using j
 unfold uq;rw[bU,bU];by_cases c:m.kind=5\/m.kind=6
 ·rw[au c];unfold lY;split;rotate_left
  ·exact Xv a 22
  next l=>
  obtain⟨n,q,r⟩:=Tf a.rc (fC m d s.vs) m.kind m.epoch m.base m.t i.t i.body.epoch;have o:=adZ (fC m d s.vs) s.vs m.kind m.epoch m.base m.t s.sm s.h;generalize iH (fC m d s.vs) s.vs m.kind m.epoch m.base m.t s.sm s.h=R at *;refine⟨⟨a.mn,a.mx,a.le,a.name,a.ver,n,a.kp⟩,rfl,rfl,rfl,rfl,rfl,rfl,?_⟩;intro u g;simp only at g;split at g
  ·cases g
  next p=>
  have b:(iE R.1).kind=R.1.1:=rfl;obtain⟨f,g2⟩:=Eb g (by rw[b];omega) (by rw[b];omega);rw[b]at f;refine⟨l,?_,g2⟩;rcases o with e|e|e
  ·exact absurd e p
  ·rw[e]at f;exact .inl f
  ·rw[e]at f;exact .inr f
 rw[aj c];by_cases k:m.kind=7
 ·rw[au k];unfold qK;split;rotate_left
  ·exact Xv a 22
  ·exact⟨⟨a.mn,a.mx,a.le,a.name,a.ver,a.rc,ZG a.kp⟩,rfl,rfl,rfl,rfl,rfl,rfl,λu h=>by cases h⟩
 rw[aj k,lV];unfold noS;split
 ·exact⟨⟨a.mn,a.mx,a.le,a.name,a.ver,a.rc,a.kp⟩,rfl,rfl,rfl,rfl,rfl,rfl,λu h=>by cases h⟩
 ·rw[aj (λe=>h1.elim (λh=>h e.1) (λh=>h ah))];exact Xv a 22
def ajM{t:Q0}{s:bC}(d:kD s)(a:List Int)(f:rY a t)(b:∀k∈a,k∈([5,6,7,8]:List Int))(h1:s.st≠1\/(8:Int)∉a):Mid s (bY t s):=by
 have g:=VH t (iY s);unfold bY;split
 ·next e=>
  have h:=f (iY s) e;exact axJ g d (b _ h) (h1.imp id λn c=>n (c▸h))
 ·exact Xv d _
abbrev CO:Q0:=[102,105,114,115,116]
abbrev Lc:Q0:=[111,116,104,101,114]
def helloT(a b:Int):Q0:=(qO (uj a b CO) [] 1).1
def EF(v:Int):Q0:=(qO (qJ v Lc) [] 1).1
def FV:Q0:=(qO rW [] 1).1
def alo:jr rW 1=[FV]:=by kernel_rfl
def aAY:je FV 1=(rW,[],0):=by kernel_rfl
def three{v:Int}(h1:1<=v)(a:v<=3):v=1\/v=2\/v=3:=ah
def ZH{v:Int}(h1:1<=v)(a:v<=3):jr (qJ v Lc) 1=[EF v]:=by
 rcases three h1 a with rfl|rfl|rfl
 ·kernel_rfl
 ·kernel_rfl
 ·kernel_rfl
def anK{v:Int}(h1:1<=v)(a:v<=3):je (EF v) 1=(qJ v Lc,[],0):=by
 rcases three h1 a with rfl|rfl|rfl
 ·kernel_rfl
 ·kernel_rfl
 ·kernel_rfl
def six{a c:Int}(h1:1<=a)(b:a<=c)(d:c<=3):(a=1/\c=1)\/(a=1/\c=2)\/(a=1/\c=3)\/(a=2/\c=2)\/(a=2/\c=3)\/(a=3/\c=3):=ah
def ais{a c:Int}(h1:1<=a)(b:a<=c)(d:c<=3):jr (uj a c CO) 1=[helloT a c]:=by
 rcases six h1 b d with⟨rfl,rfl⟩|⟨rfl,rfl⟩|⟨rfl,rfl⟩|⟨rfl,rfl⟩|⟨rfl,rfl⟩|⟨rfl,rfl⟩
 ·kernel_rfl
 ·kernel_rfl
 ·kernel_rfl
 ·kernel_rfl
 ·kernel_rfl
 ·kernel_rfl
def avJ{a c w:Int}(h1:1<=a)(d:a<=c)(e:c<=3)(w1:1<=w)(b:w<=3):je (helloT a c) w=(uj a c CO,[],0):=by
 rcases six h1 d e with⟨rfl,rfl⟩|⟨rfl,rfl⟩|⟨rfl,rfl⟩|⟨rfl,rfl⟩|⟨rfl,rfl⟩|⟨rfl,rfl⟩
 ·rcases three w1 b with rfl|rfl|rfl
  ·kernel_rfl
  ·kernel_rfl
  ·kernel_rfl
 ·rcases three w1 b with rfl|rfl|rfl
  ·kernel_rfl
  ·kernel_rfl
  ·kernel_rfl
 ·rcases three w1 b with rfl|rfl|rfl
  ·kernel_rfl
  ·kernel_rfl
  ·kernel_rfl
 ·rcases three w1 b with rfl|rfl|rfl
  ·kernel_rfl
  ·kernel_rfl
  ·kernel_rfl
 ·rcases three w1 b with rfl|rfl|rfl
  ·kernel_rfl
  ·kernel_rfl
  ·kernel_rfl
 ·rcases three w1 b with rfl|rfl|rfl
  ·kernel_rfl
  ·kernel_rfl
  ·kernel_rfl
structure pI(V:Int)(ok:Bool)(p q:bC):Prop where
 iW:kD p
 oW:kD q
 pf:p.first=true
 qf:q.first=false
 pn:p.name=CO
 qn:q.name=Lc
 com:jK p.mn p.mx q.mn q.mx=(V,ok)
 ps:p.st=0\/p.st=1\/p.st=2\/p.st=3
 qs:q.st=0\/q.st=2\/q.st=3
 p2:p.st=2->ok=true/\p.ver=V/\q.st=2
 q2:q.st=2->ok=true/\q.ver=V
 pz:p.st≠2->p.ver=0
 qz:q.st≠2->q.ver=0
 p3:p.st=3->q.st=3
 q3:q.st=3->ok=false
def EC(p:bC)(t:Q0):Prop:=t.length<=65536/\(t=helloT p.mn p.mx\/(p.st=2/\rY [5,6,7,8] t))
def Nh(V:Int)(p q:bC)(t:Q0):Prop:=t.length<=65536/\((t=EF V/\q.st=2)\/(t=FV/\q.st=3)\/(q.st=2/\rY [5,6,7] t)\/(p.st=2/\rY [8] t))
structure og(p q p' q':bC):Prop where
 mn:p'.mn=p.mn
 mx:p'.mx=p.mx
 p2:p.st=2->p'.st=2
 p3:p.st=3->p'.st=3
 q2:q.st=2->q'.st=2
 q3:q.st=3->q'.st=3
def og.tp{p q p' q':bC}(l:og p q p' q'){t:Q0}(h:EC p t):EC p' t:=by unfold EC at h⊢;rw[l.mn,l.mx];exact⟨h.1,h.2.imp id λe=>⟨l.p2 e.1,e.2⟩⟩
def og.tq{V:Int}{p q p' q':bC}(l:og p q p' q'){t:Q0}(h:Nh V p q t):Nh V p' q' t:=
 ⟨h.1,h.2.imp (λe=>⟨e.1,l.q2 e.2⟩) λh=>h.imp (λe=>⟨e.1,l.q3 e.2⟩) λh=>h.imp (λe=>⟨l.q2 e.1,e.2⟩) λe=>⟨l.p2 e.1,e.2⟩⟩
def KA{b a:List Int}{t:Q0}(h:rY b t)(c:∀k∈b,k∈a):rY a t:=λw e=>c _ (h w e)
def aph(a c x y:Int):jK a c x y=jK x y a c:=by
 have b:FH a x=FH x a:=by unfold FH;split<;>split<;>omega
 have d:CX c y=CX y c:=by unfold CX;split<;>split<;>omega
 unfold jK;rw[b,d]
def pI.I5{V:Int}{ok:Bool}{p q:bC}(h:pI V ok p q)(e:ok=true):p.mn<=V/\V<=p.mx/\1<=V/\V<=3:=by
 have a:=h.com;have c:(jK p.mn p.mx q.mn q.mx).2=true:=by rw[a];exact e
 have b:=aak c;rw[a]at b;simp only at b;have:=h.iW.mn;have:=h.iW.mx;omega
def pI.ajN{V:Int}{ok:Bool}{p q:bC}(h:pI V ok p q){p':bC}(h0:kD p')(b:p'.mn=p.mn)(c:p'.mx=p.mx)(f:p'.name=p.name)(g:p'.first=p.first)(a:p'.st=p.st)(d:p'.ver=p.ver):pI V ok p' q/\og p q p' q:=
 ⟨⟨h0,h.oW,g▸h.pf,h.qf,f▸h.pn,h.qn,by rw[b,c];exact h.com,by rw[a];exact h.ps,h.qs,by rw[a,d];exact h.p2,h.q2,by rw[a,d];exact h.pz,h.qz,by rw[a];exact h.p3,h.q3⟩,⟨b,c,λe=>a.trans e,λe=>a.trans e,id,id⟩⟩
def pI.ajO{V:Int}{ok:Bool}{p q:bC}(h:pI V ok p q){q':bC}(h0:kD q')(c:q'.mn=q.mn)(d:q'.mx=q.mx)(f:q'.name=q.name)(g:q'.first=q.first)(a:q'.st=q.st)(b:q'.ver=q.ver):pI V ok p q'/\og p q p q':=
 ⟨⟨h.iW,h0,h.pf,g▸h.qf,h.pn,f▸h.qn,by rw[c,d];exact h.com,h.ps,by rw[a];exact h.qs,λe=>⟨(h.p2 e).1,(h.p2 e).2.1,a.trans (h.p2 e).2.2⟩,by rw[a,b];exact h.q2,h.pz,by rw[a,b];exact h.qz,λe=>a.trans (h.p3 e),by rw[a];exact h.q3⟩,⟨rfl,rfl,id,id,λe=>a.trans e,λe=>a.trans e⟩⟩
def og.self(p q:bC):og p q p q:=⟨rfl,rfl,id,id,id,id⟩
def og.trans{p q p' q' c d:bC}(a:og p q p' q')(b:og p' q' c d):og p q c d:=
 ⟨b.mn.trans a.mn,b.mx.trans a.mx,λe=>b.p2 (a.p2 e),λe=>b.p3 (a.p3 e),λe=>b.q2 (a.q2 e),λe=>b.q3 (a.q3 e)⟩
def FU(x:Sn)(s:bC):bC:={s with k:=(jU x s.k s.b).2.1,b:=(jU x s.k s.b).2.2}
def ak2{x:Sn}{s:bC}(a:kD s)(b:eF x.2)(h0:0<=x.1/\x.1<18446744073709551616):kD (FU x s):=
 ⟨a.mn,a.mx,a.le,a.name,a.ver,a.rc,ak4 a.kp b h0⟩
def lq(s:bC):bC:={s with st:=(gy s).2}
def OD{v:Int}{k:List Sn}{b:Int}(h:(cZ v k b).2=0):(cZ v k b).1.1=5\/(cZ v k b).1.1=6:=by
 unfold cZ at h⊢;cases a:k.getLast? with
 |none=>rw[a]at h;simp at h
 |some l=>
  rw[a]at h;simp only at h⊢;split
  ·next c=>rw[au c]at h;exact absurd h aV
  next c=>
  rw[aj c]at h;cases e:jC b k with
  |none=>exact .inl rfl
  |some i=>
   rw[e]at h;simp only at h⊢;split;rotate_left
   ·exact .inl rfl
   next f=>
   rw[au f]at h;cases g:k[i]? with
   |none=>exact .inl rfl
   |some s=>
    rw[g]at h;simp only at h⊢;split
    ·next d=>rw[au d]at h;exact absurd h d
    ·exact .inr rfl
def alj{V:Int}{ok:Bool}{p q:bC}(h:pI V ok p q):lq q=q/\∀t∈(gy q).1,Nh V p q t:=by
 have g:(gy q).2=q.st:=by
  unfold gy;rw[h.qf];split
  ·next c=>split<;>exact c.symm
  ·rfl
 refine⟨by unfold lq;rw[g],λt a=>?_⟩;unfold gy at a;rw[h.qf]at a;split at a;rotate_left
 ·cases a
 next c=>
 split at a;rotate_left
 ·cases a
 next i=>
 have j:=OD (v:=q.vs) (k:=q.k) (b:=q.b) i;have e:(pq (cZ q.vs q.k q.b).1).kind=(cZ q.vs q.k q.b).1.1:=rfl;obtain⟨f,g2⟩:=Eb a (by rw[e];omega) (by rw[e];omega);rw[e]at f;exact⟨g2,.inr (.inr (.inl ⟨c,KA f λk d=>by rw[jW.1 d];rcases j with e|e<;>rw[e]<;>simp⟩))⟩
def akj{V:Int}{ok:Bool}{p q:bC}(h:pI V ok p q):pI V ok (lq p) q/\og p q (lq p) q/\∀t∈(gy p).1,EC (lq p) t:=by
 by_cases c:p.st=2
 ·have e:gy p=(if(cZ p.vs p.k p.b).2=0 then(jr (pq (cZ p.vs p.k p.b).1) p.ver,2)else([],2)):=by unfold gy;rw[au c]
  have j:(gy p).2=p.st:=by rw[e,c];split<;>rfl
  have d:lq p=p:=by unfold lq;rw[j]
  rw[d];refine⟨h,og.self p q,λt a=>?_⟩;rw[e]at a;split at a;rotate_left
  ·cases a
  next l=>
  have m:=OD (v:=p.vs) (k:=p.k) (b:=p.b) l;have e:(pq (cZ p.vs p.k p.b).1).kind=(cZ p.vs p.k p.b).1.1:=rfl;obtain⟨i,g2⟩:=Eb a (by rw[e];omega) (by rw[e];omega);rw[e]at i;exact⟨g2,.inr ⟨c,KA i λk g=>by rw[jW.1 g];rcases m with e|e<;>rw[e]<;>simp⟩⟩
 by_cases f:p.st=3
 ·have e:gy p=([],3):=by unfold gy;rw[aj c,au h.pf,au f]
  have d:lq p=p:=by unfold lq;rw[e,<-f]
  rw[d,e];exact⟨h,og.self p q,λt a=>by cases a⟩
 ·have n:=ais h.iW.mn h.iW.le h.iW.mx;have e:gy p=([helloT p.mn p.mx],1):=by unfold gy;rw[aj c,au h.pf,aj f,h.pn,n]
  have d:lq p ={p with st:=1}:=by unfold lq;rw[e]
  rw[d,e];refine⟨⟨⟨h.iW.mn,h.iW.mx,h.iW.le,h.iW.name,h.iW.ver,h.iW.rc,h.iW.kp⟩,h.oW,h.pf,h.qf,h.pn,h.qn,h.com,.inr (.inl rfl),h.qs,(λe=>by simp at e),h.q2,λ_=>h.pz c,h.qz,(λe=>by simp at e),h.q3⟩,⟨rfl,rfl,λe=>absurd e c,λe=>absurd e f,id,id⟩,λt a=>?_⟩;rw[jW.1 a];exact⟨QV _ _ _,.inl rfl⟩
def ali{V:Int}{ok:Bool}{p q:bC}(h:pI V ok p q):bY (helloT p.mn p.mx) q=if ok=true then({q with st:=2,ver:=V,vs:=if q.st=2 then q.vs else V},[EF V],0)else({q with st:=3},[FV],16):=by
 have d:1<=iY q/\iY q<=3:=by
  unfold iY;split
  ·next c=>
   obtain⟨l,o⟩:=h.q2 c;have:=h.I5 l;omega
  ·omega
 have g:=avJ h.iW.mn h.iW.le h.iW.mx d.1 d.2;have r:=h.iW.mn;have s:=h.iW.mx;have t:=h.iW.le;have b:jK q.mn q.mx p.mn p.mx=(V,ok):=by rw[aph];exact h.com
 unfold bY;rw[g,au rfl];unfold uq;rw[au (show(uj p.mn p.mx CO).kind=1 from rfl)];unfold mW;have b:jK q.mn q.mx (uj p.mn p.mx CO).min (uj p.mn p.mx CO).max=(V,ok):=b;rw[h.qf,aj aA,aj (show ¬(uj p.mn p.mx CO).min<1 from λe=>by have e:p.mn<1:=e;omega),aj (show ¬(uj p.mn p.mx CO).max<(uj p.mn p.mx CO).min from λe=>by have e:p.mx<p.mn:=e;omega),aj (show ¬255<(uj p.mn p.mx CO).max from λe=>by have e:255<p.mx:=e;omega),b];cases a:ok with
 |true=>
  subst a;obtain⟨-,-,i,j⟩:=h.I5 rfl;simp only[reduceIte];by_cases c:q.st=2
  ·rw[au c,au ⟨trivial,(h.q2 c).2.symm⟩,(h.q2 c).2,h.qn,ZH i j,au c];congr 1;have k:=(h.q2 c).2;have f:=h.qf;have n:=h.qn;clear b g d h;cases q;simp only at c k f n;subst c k f n;rfl
  ·have m:q.st≠3:=λe=>by have:=h.q3 e;cases this
   rw[aj c,aj (by simp[m]),h.qn,ZH i j,aj c]
 |false=>
  subst a;have c:q.st≠2:=λe=>by have:=(h.q2 e).1;cases this
  simp only[reduceIte,iZ];rw[aj c,au (.inl trivial),alo]
def alh{V:Int}{ok:Bool}{p q:bC}(h:pI V ok p q){t:Q0}(j:EC p t):pI V ok p (bY t q).1/\og p q p (bY t q).1/\∀u∈(bY t q).2.1,Nh V p (bY t q).1 u:=by
 rcases j.2 with l|⟨f,a⟩
 ·rw[l,ali h];cases b:ok with
  |true=>
   subst b;obtain⟨-,-,n,g⟩:=h.I5 rfl;have i:q.st≠3:=λe=>by have:=h.q3 e;cases this
   have o:p.st≠3:=λe=>i (h.p3 e);simp only[reduceIte];refine⟨⟨h.iW,⟨h.oW.mn,h.oW.mx,h.oW.le,h.oW.name,⟨by simp only;omega,g⟩,?_,h.oW.kp⟩,h.pf,h.qf,h.pn,h.qn,h.com,h.ps,.inr (.inl rfl),λe=>⟨rfl,(h.p2 e).2.1,rfl⟩,λ_=>⟨rfl,rfl⟩,h.pz,λe=>absurd rfl e,λe=>absurd e o,(λe=>by simp at e)⟩,⟨rfl,rfl,id,id,λ_=>rfl,λe=>absurd e i⟩,λu d=>?_⟩
   ·simp only;split
    ·exact h.oW.rc
    ·exact⟨n,g,h.oW.rc.good,h.oW.rc.ep,h.oW.rc.no⟩
   ·rw[jW.1 d];exact⟨QV _ _ _,.inl ⟨rfl,rfl⟩⟩
  |false=>
   subst b;have c:q.st≠2:=λe=>by have:=(h.q2 e).1;cases this
   have f:p.st≠2:=λe=>by have:=(h.p2 e).1;cases this
   simp only[reduceIte,iZ];refine⟨⟨h.iW,⟨h.oW.mn,h.oW.mx,h.oW.le,h.oW.name,h.oW.ver,h.oW.rc,h.oW.kp⟩,h.pf,h.qf,h.pn,h.qn,h.com,h.ps,.inr (.inr rfl),λe=>absurd e f,(λe=>by simp at e),h.pz,λ_=>h.qz c,λ_=>rfl,λ_=>rfl⟩,⟨rfl,rfl,id,id,λe=>absurd e c,λ_=>rfl⟩,λu d=>?_⟩;rw[jW.1 d];exact⟨QV _ _ _,.inr (.inl ⟨rfl,rfl⟩)⟩
 ·have m:=ajM h.oW [5,6,7,8] a (λk a=>a) (.inl (by have:=h.qs;omega));obtain⟨r,g2⟩:=h.ajO m.ok m.mn m.mx m.name m.first m.st m.ver;refine⟨r,g2,λu d=>?_⟩;obtain⟨s,g3,v⟩:=m.said u d;refine⟨v,?_⟩;rw[m.st];rcases g3 with g3|g3
  ·exact .inr (.inr (.inl ⟨s,KA g3 λk a=>by rw[jW.1 a];simp⟩))
  ·exact .inr (.inr (.inr ⟨f,g3⟩))
def aki{V:Int}{ok:Bool}{p q:bC}(h:pI V ok p q)(a:q.st=2)(h1:p.st=1):bY (EF V) p=({p with st:=2,ver:=V,vs:=V},[],0):=by
 obtain⟨e,-⟩:=h.q2 a;obtain⟨b,c,d,f⟩:=h.I5 e;have g:=anK d f;have i:iY p=1:=by unfold iY;rw[bU]
 unfold bY;rw[i,g,au rfl];unfold uq;rw[aj (by simp[qJ]),au (by simp[qJ])];unfold BR;rw[au h1,au (show p.mn<=(qJ V Lc).chosen/\(qJ V Lc).chosen<=p.mx from⟨b,c⟩)];rfl
def akk{V:Int}{ok:Bool}{p q:bC}(h:pI V ok p q)(b:q.st=3)(h1:p.st=1):bY FV p=({p with st:=3},[],16):=by
 have a:iY p=1:=by unfold iY;rw[bU]
 unfold bY;rw[a,aAY,au rfl];unfold uq;rw[aj (by simp[rW]),aj (by simp[rW]),aj (by simp[rW]),aj (by simp[rW]),au (by simp[rW])];unfold noS;rw[bU,au ⟨h1,rfl⟩]
def still{t:Q0}{s:bC}(a:rY [2] t)(h1:s.st≠1):∃e,bY t s=(s,[],e):=by
 unfold bY;split;rotate_left
 ·exact⟨_,rfl⟩
 next e=>
 have h:=jW.1 (a _ e);unfold uq;rw[bU,au h];unfold BR;rw[aj h1];split
 ·exact⟨_,rfl⟩
 ·exact⟨_,rfl⟩
def ay4{V:Int}{ok:Bool}{p q:bC}(h:pI V ok p q){t:Q0}(w:Nh V p q t):pI V ok (bY t p).1 q/\og p q (bY t p).1 q/\∀u∈(bY t p).2.1,EC (bY t p).1 u:=by
 have none:∀e,bY t p=(p,[],e)->pI V ok (bY t p).1 q/\og p q (bY t p).1 q/\∀u∈(bY t p).2.1,EC (bY t p).1 u:=by intro e n;rw[n];exact⟨h,og.self p q,λu c=>by cases c⟩
 have d:∀g:List Int,rY g t->(∀k∈g,k∈([5,6,7,8]:List Int))->(p.st≠1\/(8:Int)∉g)->pI V ok (bY t p).1 q/\og p q (bY t p).1 q/\∀u∈(bY t p).2.1,EC (bY t p).1 u:=by
  intro g a x f;have m:=ajM h.iW g a x f;obtain⟨y,g2⟩:=h.ajN m.ok m.mn m.mx m.name m.first m.st m.ver;refine⟨y,g2,λu c=>?_⟩;obtain⟨s,g3,z⟩:=m.said u c;refine⟨z,.inr ⟨m.st.trans s,?_⟩⟩;rcases g3 with g3|g3
  ·exact KA g3 λk a=>by rw[jW.1 a];simp
  ·exact KA g3 λk a=>by rw[jW.1 a];simp
 rcases w.2 with⟨i,j⟩|⟨i,o⟩|⟨j,a⟩|⟨s,a⟩
 ·by_cases f:p.st=1
  ·rw[i,aki h j f];obtain⟨e,-⟩:=h.q2 j;obtain⟨A,D,r,l⟩:=h.I5 e;exact⟨⟨⟨h.iW.mn,h.iW.mx,h.iW.le,h.iW.name,⟨by simp only;omega,l⟩,⟨r,l,h.iW.rc.good,h.iW.rc.ep,h.iW.rc.no⟩,h.iW.kp⟩,h.oW,h.pf,h.qf,h.pn,h.qn,h.com,.inr (.inr (.inl rfl)),h.qs,λ_=>⟨e,rfl,j⟩,h.q2,λe=>absurd rfl e,h.qz,(λe=>by simp at e),h.q3⟩,⟨rfl,rfl,λ_=>rfl,λe=>ah,id,id⟩,λu c=>by cases c⟩
  ·have a:rY [2] (EF V):=by obtain⟨e,-⟩:=h.q2 j;obtain⟨A,D,r,l⟩:=h.I5 e;exact(Eb (b:=qJ V Lc) (v:=1) (by rw[ZH r l];simp) (by simp[qJ]) (by simp[qJ])).1
   obtain⟨e,n⟩:=still a f;exact none e (by rw[i];exact n)
 ·by_cases f:p.st=1
  ·rw[i,akk h o f];have e:=h.q3 o;exact⟨⟨⟨h.iW.mn,h.iW.mx,h.iW.le,h.iW.name,h.iW.ver,h.iW.rc,h.iW.kp⟩,h.oW,h.pf,h.qf,h.pn,h.qn,h.com,.inr (.inr (.inr rfl)),h.qs,(λe=>by simp at e),h.q2,λ_=>h.pz ah,h.qz,λ_=>o,h.q3⟩,⟨rfl,rfl,λe=>ah,λ_=>rfl,id,id⟩,λu c=>by cases c⟩
  ·have a:rY [8] FV:=(Eb (b:=rW) (v:=1) (by rw[alo];simp) (by simp[rW]) (by simp[rW])).1;rw[<-i]at a;exact d [8] a (λk a=>by rw[jW.1 a];simp) (.inl f)
 ·exact d [5,6,7] a (λk a=>by simp at a⊢;omega) (.inr aA)
 ·exact d [8] a (λk a=>by rw[jW.1 a];simp) (.inl ah)
def Fin(ok:Bool)(p q:bC):Prop:=if ok=true then p.st=2/\q.st=2 else p.st=3/\q.st=3
def og.fin{ok:Bool}{p q p' q':bC}(l:og p q p' q')(h:Fin ok p q):Fin ok p' q':=by
 unfold Fin at h⊢;split
 ·next c=>rw[au c]at h;exact⟨l.p2 h.1,l.q2 h.2⟩
 ·next c=>rw[aj c]at h;exact⟨l.p3 h.1,l.q3 h.2⟩
def aio:Wa->bC->bC
 |[],p=>p
 |u::a,p=>aio a (bY u p).1
def aip:Wa->bC->bC->bC×bC
 |[],q,p=>(q,p)
 |t::ts,q,p=>aip ts (bY t q).1 (aio (bY t q).2.1 p)
def Pe(p q:bC):bC×bC:=aip (gy p).1 q (lq p)
def Kr(t:Q0)(s:bC):(bY t s).2.1.length<=1:=by
 unfold bY;split;rotate_left
 ·simp
 unfold uq mW BR lY qK noS;repeat' split
 all_goals first|exact alK _ _|simp
def SQ(s:bC):(gy s).1.length<=1:=by
 unfold gy;repeat' split
 all_goals first|exact alK _ _|simp
def WG(t:Q0)(s:bC):(bY t s).1.mn=s.mn/\(bY t s).1.mx=s.mx/\(bY t s).1.name=s.name/\(bY t s).1.first=s.first:=by
 unfold bY;split;rotate_left
 ·exact⟨rfl,rfl,rfl,rfl⟩
 unfold uq mW BR lY qK noS;repeat' split
 all_goals exact⟨rfl,rfl,rfl,rfl⟩
def kU(s:bC):Q1:=[.zq s.st,.zq s.ver,.zq s.vs,.b s.sm,.zu s.h.1,.l (s.h.2.map row),.l (s.k.map sn),.zu s.b]
def newS(a c:Int)(n:Q0)(f:Bool):bC:=⟨a,c,n,f,0,0,1,false,zS,[],0⟩
def ajX{a c:Int}{n:Q0}{f:Bool}(h1:1<=a)(b:a<=c)(d:c<=3)(e:n.length<=256):kD (newS a c n f):=
 ⟨h1,d,b,e,by simp[newS],⟨by simp[newS],by simp[newS],CW.good,by simp[newS,zS],λ_=>rfl⟩,Kp.nil⟩
def ame(k:List Sn)(d:Kp k)(v b:GV):∀(m i:Nat),i+m=k.length->
 TT.lim 38 [.l (k.map sn),.zq (k.length:Int),.zq (i:Int),v,b,.l ((k.take i).map sn)]=some [.zq 0,.l (k.map sn)]
 |0,i,hi=>by have e:¬((i:Int)<k.length):=ah;rw[mg ah];refine aB ?_;simp[e]
 |m+1,i,hi=>by
  have p:=d.len;have a:i<k.length:=ah;have e:(i:Int)<k.length:=ah;have j:IntKind.i64.wrap ((i:Int)+1)=((i+1:Nat):Int):=by rw[wrap64 ah ah];omega
  have h:=ame k d v b m (i+1) ah;have l:=(d.tb _ (iT a)).good;have n:=Ph k[i] l;have f:at2 2 (some (.l (k.map sn))) (some (.zq (i:Int)))=some (sn k[i]):=by rw[dJ,lV,zB,jy,bZ a];rfl
  have c:Fj (some (.l (k.map sn))) (some (.zq (i:Int)))=some (.zq (i:Int)):=by rw[jZ,au ⟨ah,by rw[gB];omega⟩]
  have g:Jv 2 32 (some (.l ((k.take i).map sn))) (some (.l [sn k[i]]))=some (.l ((k.take (i+1)).map sn)):=by
   rw[GZ,au]
   ·rw[Uu,bZ a,oK];rfl
   ·refine⟨rfl,?_,?_⟩<;>simp only[gB,mP,iD,lK]<;>omega
  rw[<-j]at h;generalize q:k[i]=x at *;have o:GV.g [.zu x.1,.l (x.2.map row)]=sn x:=rfl;generalize(k.take (i+1)).map sn=r,(k.take i).map sn=s,k.map sn=t,(k.length:Int)=u at *;generalize(i:Int)=w at *;refine aB ?_;simp[-jZ,-dJ,e,f,c,o,n,g,h]
def aDX(k:List Sn)(c:Kp k)(v b:GV):TT.lim 37 [v,.l (k.map sn),b]=some [.zq 0,.l (k.map sn)]:=by
 have h:=ame k c v b k.length 0 ah;have a:((k.map sn).length:Int)=(k.length:Int):=by rw[gB]
 simp only[Uy,jH,tJ]at h;generalize k.map sn=d,(k.length:Int)=e at *;refine aB ?_;simp[a,h]
def aAM(v s:GV)(h:Sn)(a:eF h.2):TT.lim 42 [v,s,.zu h.1,.l (h.2.map row)]=some [.zq 0,.zu h.1,.l (h.2.map row)]:=by have b:=Ph h a;have c:GV.g [.zu h.1,.l (h.2.map row)]=sn h:=rfl;refine aB ?_;simp[c,b]
def Yg(s:bC)(a:kD s):TT.lim 36 (dA s)=some [.zq 0,.zu s.h.1,.l (s.h.2.map row),.l (s.k.map sn)]:=by have b:=aDX s.k a.kp (.zq s.vs) (.zu s.b);have c:=aAM (.zq s.vs) (.b s.sm) s.h a.rc.good;unfold dA;refine aB ?_;simp[b,c]
def ayJ{m:aQ}{b:List aK}{s:bC}(d:tV m b)(a:kD s):kD (uq m b s).1:=by
 unfold uq;by_cases e:m.kind=1
 ·rw[au e];have j:=a.mn;have k:=a.mx;have l:=@aak s.mn s.mx m.min m.max;unfold mW;repeat' split
  all_goals first|exact a|exact⟨a.mn,a.mx,a.le,a.name,a.ver,a.rc,a.kp⟩|skip
  next n o r t u p=>
  have c:(jK s.mn s.mx m.min m.max).2=true:=by
   cases h:(jK s.mn s.mx m.min m.max).2 with
   |true=>rfl
   |false=>exact absurd (.inl h) p
  obtain⟨v,w,x,y⟩:=l c;exact⟨a.mn,a.mx,a.le,a.name,⟨by simp only;omega,by simp only;omega⟩,⟨by simp only;omega,by simp only;omega,a.rc.good,a.rc.ep,a.rc.no⟩,a.kp⟩
 rw[aj e];by_cases f:m.kind=2
 ·rw[au f];have j:=a.mn;have k:=a.mx;unfold BR;repeat' split
  all_goals first|exact a|exact⟨a.mn,a.mx,a.le,a.name,a.ver,a.rc,a.kp⟩|skip
  next n o=>
  exact⟨a.mn,a.mx,a.le,a.name,⟨by simp only;omega,by simp only;omega⟩,⟨by simp only;omega,by simp only;omega,a.rc.good,a.rc.ep,a.rc.no⟩,a.kp⟩
 rw[aj f];by_cases g:m.kind=5\/m.kind=6
 ·rw[au g];unfold lY;split
  ·obtain⟨q,-,-⟩:=Tf a.rc (fC m b s.vs) m.kind m.epoch m.base m.t d.t d.body.epoch;exact⟨a.mn,a.mx,a.le,a.name,a.ver,q,a.kp⟩
  ·exact a
 rw[aj g];by_cases i:m.kind=7
 ·rw[au i];unfold qK;split
  ·exact⟨a.mn,a.mx,a.le,a.name,a.ver,a.rc,ZG a.kp⟩
  ·exact a
 rw[aj i];split
 ·unfold noS;repeat' split
  all_goals first|exact a|exact⟨a.mn,a.mx,a.le,a.name,a.ver,a.rc,a.kp⟩
 ·exact a
def Ol{t:Q0}{s:bC}(a:kD s):kD (bY t s).1:=by
 unfold bY;split
 ·exact ayJ (VH t (iY s)) a
 ·exact a
def Ai(x:UInt8)(b:Nat):UInt8:=UInt8.ofNat (x.toNat ^^^ b)
def ank(x:UInt8)(b:Nat)(c:b<256):dw .xor .u8 (x.toNat:Int) (b:Int)=some (.i .u8 ((Ai x b).toNat:Int)):=by
 show some (GV.i IntKind.u8 (IntKind.u8.wrap ((BitVec.ofInt 8 (x.toNat:Int) ^^^ BitVec.ofInt 8 (b:Int)).toNat:Int)))=_
 have d:=x.toNat_lt;have a:x.toNat ^^^ b<256:=Nat.xor_lt_two_pow (n:=8) d c;have o1:(BitVec.ofInt 8 (x.toNat:Int)).toNat=x.toNat:=by rw[wo];omega
 have e:(BitVec.ofInt 8 (b:Int)).toNat=b:=by rw[wo];omega
 rw[BitVec.toNat_xor,o1,e,Uf];unfold Ai;rw[afb,Qc a];generalize x.toNat ^^^ b=N at *;congr 2;omega
def alZ{u:Q0}{k:Nat}(b:k<u.length)(y:UInt8):Fj (some (.l (dK u))) (some (.zq (k:Int)))=some (.zq (k:Int))/\at2 1 (some (.l (dK u))) (some (.zq (k:Int)))=some (.i .u8 ((u.getD k 0).toNat:Int))/\
 Gs 1 0 (some (.l (dK u))) (some (.zq (k:Int))) (some [.i .u8 (y.toNat:Int)])=some (.l (dK (u.set k y))):=by
 have c:(dK u).length=u.length:=by simp[dK]
 have a:(dK u)[k]? =some (.i .u8 ((u.getD k 0).toNat:Int)):=by
  have e:u.getD k 0=u[k]:=by simp[List.getD,bZ b]
  rw[e];unfold dK;rw[jy,bZ b];rfl
 refine⟨?_,?_,?_⟩
 ·rw[jZ,au ⟨ah,by rw[c];omega⟩]
 ·rw[dJ,lV,zB,a];rfl
 ·rw[vX,au ⟨ah,rfl⟩,zB,a];simp only[BD];rw[au (show(GV.i IntKind.u8 ((u.getD k 0).toNat:Int)).cells.length=1 from rfl)];simp only[GV.put,iJ];congr 2;unfold dK;rw[Zl]
