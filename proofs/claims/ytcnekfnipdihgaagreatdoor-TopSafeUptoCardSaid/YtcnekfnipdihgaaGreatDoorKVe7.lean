/- What the trees compute: plain laws. -/
import Derived.Test.YtcnekfnipdihgaaGreatDoorKVe6
set_option linter.all false
namespace Go.Proofs.YtcnekfnipdihgaaGreatDoor
open Go Go.aP
set_option maxRecDepth 100000
namespace V
def aaI(e:Int)(v:GV)(k:List Sn)(n:k.length<=1000):∀m i:Nat,i+m=k.length->
 TT.lim 67 [.zu e,.l (k.map sn),.zq k.length,.zq i,v]=some (rG ((jZ e (k.drop i)).map (· +i)))
 |0,i,hi=>by have h0:k.drop i=[]:=iE;have h:¬((i:Int)<k.length):=ah;refine aB ?_;simp[h,h0,jZ,rG]
 |m+1,i,hi=>by
  have a:i<k.length:=ah;have h:((i:Int)<k.length):=ah;have g:=bI ((i:Int)+1);have l:TT.lim 67 [.zu e,.l (k.map sn),.zq k.length,.zq ((i:Int)+1),v]=_:=aaI e v k n m (i+1) ah;have f:k.drop i=k[i]::k.drop (i+1):=iG a;rw[f];by_cases c:k[i].1=e
  ·have d:rG ((jZ e (k[i]::k.drop (i+1))).map (· +i))=[.zq 0,.zq (i:Int)]:=by unfold jZ;rw[Y7,au (by simpa using c)];simp[rG]
   rw[d];have b:(k[i].1=e)=True:=eq_true c;clear c l;refine aB ?_;simp[-List.getElem_cons_drop,h,a,b,g]
  ·have d:rG ((jZ e (k[i]::k.drop (i+1))).map (· +i))=rG ((jZ e (k.drop (i+1))).map (· +(i+1))):=by
    unfold jZ;rw[Y7,aj (by simpa using c)];cases List.findIdx? (λs:Sn=>decide (s.1=e)) (k.drop (i+1))with
    |none=>rfl
    |some j=>simp only[iH,rG];congr 3;omega
   rw[d];generalize rG ((jZ e (k.drop (i+1))).map (· +(i+1)))=R at *;have b:(k[i].1=e)=False:=eq_false c;clear c d;refine aB ?_;simp[-List.getElem_cons_drop,h,a,b,g,l]
def atU(e:Int)(v:GV)(k:List Sn)(b:k.length<=1000)(c:jZ e k=none):
 TT.lim 66 [.zu e,v,.l (k.map sn)]=some [.zq 0,.zq 0,.b false]:=by
 have a:TT.lim 67 [.zu e,.l (k.map sn),.zq k.length,.zq 0,v]=_:=aaI e v k b k.length 0 ah;rw[dY,c]at a;simp only[aeZ,rG]at a;refine aB ?_;simp[a]
def atW(e:Int)(v:GV)(k:List Sn)(b:k.length<=1000)(j:Nat)(c:jZ e k=some j):
 TT.lim 66 [.zu e,v,.l (k.map sn)]=some [.zq 0,.zq (j:Int),.b true]:=by
 have a:TT.lim 67 [.zu e,.l (k.map sn),.zq k.length,.zq 0,v]=_:=aaI e v k b k.length 0 ah;rw[dY,c]at a;simp only[iH,rG,oW]at a;refine aB ?_;simp[a]
def axQ(v:Int)(k:List Sn)(b:Int)(i:Kp k):
 TT.lim 65 [.zq v,.l (k.map sn),.zu b]=some (H7 (ku v k b)):=by
 have A:=i.len;unfold ku;cases r:k.getLast? with
 |none=>obtain rfl:=last_none r;have d:=ai2 (.zq v) (.zu b);refine aB ?_;simp[d,H7]
 |some l=>
  obtain⟨m,x,y,a⟩:=last_at r;have d:=ai1 (.zq v) (.zu b) k m l x ah y (i.tb l a).good;simp only;by_cases c:l.1=b
  ·rw[au c];have o:(l.1=b)=True:=eq_true c;clear c;refine aB ?_;simp[d,o,H7]
  rw[aj c];cases p:jZ b k with
  |none=>have e:=atU b (.zq v) k ah p;refine aB ?_;simp[d,c,e,H7,full]
  |some j=>
   have e:=atW b (.zq v) k ah j p;obtain⟨s,n,-,B⟩:=Jz p;have q:s∈k:=sD n;simp only[n];have f:(j:Int)<k.length:=ah;by_cases g:2<=v
   ·rw[au g];have t:=asH s l (i.tb s q).good (i.tb l a).good;have u:GV.g [.zu s.1,.l (s.2.map row)]=sn s:=rfl;have w:GV.g [.zu l.1,.l (l.2.map row)]=sn l:=rfl;generalize qI s l=D at *;obtain⟨⟨d1,d2,d3⟩,d4⟩:=D;by_cases h:d4=0
    ·rw[aj (by simpa using h)];have z:(d4=0)=True:=eq_true h;subst h;refine aB ?_;simp[d,c,e,g,n,f,u,w,t,H7]
    ·rw[au h];refine aB ?_;simp[d,c,e,g,n,f,u,w,t,H7,h]
   ·rw[aj g];refine aB ?_;simp[d,c,e,g,H7,full]
def aaJ(e:Int)(v b:GV)(k:List Sn)(o:k.length<=1000):∀m i:Nat,i+m=k.length->
 TT.lim 222 [.zu e,.l (k.map sn),.zq k.length,.zq i,v,b]=some (rG ((jZ e (k.drop i)).map (· +i)))
 |0,i,hi=>by have h0:k.drop i=[]:=iE;have h:¬((i:Int)<k.length):=ah;refine aB ?_;simp[h,h0,jZ,rG]
 |m+1,i,hi=>by
  have a:i<k.length:=ah;have h:((i:Int)<k.length):=ah;have l:=bI ((i:Int)+1);have n:TT.lim 222 [.zu e,.l (k.map sn),.zq k.length,.zq ((i:Int)+1),v,b]=_:=aaJ e v b k o m (i+1) ah;have g:k.drop i=k[i]::k.drop (i+1):=iG a;rw[g];by_cases d:k[i].1=e
  ·have f:rG ((jZ e (k[i]::k.drop (i+1))).map (· +i))=[.zq 0,.zq (i:Int)]:=by unfold jZ;rw[Y7,au (by simpa using d)];simp[rG]
   rw[f];have c:(k[i].1=e)=True:=eq_true d;clear d n;refine aB ?_;simp[-List.getElem_cons_drop,h,a,c,l]
  ·have f:rG ((jZ e (k[i]::k.drop (i+1))).map (· +i))=rG ((jZ e (k.drop (i+1))).map (· +(i+1))):=by
    unfold jZ;rw[Y7,aj (by simpa using d)];cases List.findIdx? (λs:Sn=>decide (s.1=e)) (k.drop (i+1))with
    |none=>rfl
    |some j=>simp only[iH,rG];congr 3;omega
   rw[f];generalize rG ((jZ e (k.drop (i+1))).map (· +(i+1)))=R at *;have c:(k[i].1=e)=False:=eq_false d;clear d f;refine aB ?_;simp[-List.getElem_cons_drop,h,a,c,l,n]
def atV(e:Int)(v b:GV)(k:List Sn)(c:k.length<=1000)(d:jZ e k=none):
 TT.lim 221 [.zu e,v,.l (k.map sn),b]=some [.zq 0,.zq 0,.b false]:=by
 have a:TT.lim 222 [.zu e,.l (k.map sn),.zq k.length,.zq 0,v,b]=_:=aaJ e v b k c k.length 0 ah;rw[dY,d]at a;simp only[aeZ,rG]at a;refine aB ?_;simp[a]
def atX(e:Int)(v b:GV)(k:List Sn)(c:k.length<=1000)(j:Nat)(d:jZ e k=some j):
 TT.lim 221 [.zu e,v,.l (k.map sn),b]=some [.zq 0,.zq (j:Int),.b true]:=by
 have a:TT.lim 222 [.zu e,.l (k.map sn),.zq k.length,.zq 0,v,b]=_:=aaJ e v b k c k.length 0 ah;rw[dY,d]at a;simp only[iH,rG,oW]at a;refine aB ?_;simp[a]
def anx(e:Int)(v:GV)(k:List Sn)(b:Int)(f:k.length<=1000):
 TT.lim 220 [.zu e,v,.l (k.map sn),.zu b]=some [.zq 0,.b (sJ e k b).1,.l ((sJ e k b).2.1.map sn),.zu (sJ e k b).2.2]:=by
 unfold sJ;by_cases a:e<=b
 ·rw[au a];refine aB ?_;simp[a]
 ·rw[aj a];cases c:jZ e k with
  |none=>have d:=atV e v (.zu b) k f c;refine aB ?_;simp[a,d]
  |some j=>
   have d:=atX e v (.zu b) k f j c;obtain⟨x,-,-,m⟩:=Jz c;have g:=ajl (k:=k) (i:=j) ah;have h:=alY (k.drop j);have l:2*(k.drop j).length*32<=281474976710656/\(k.drop j).length<=281474976710656:=by rw[fP];omega
   show _=some [_,_,GV.l ((k.drop j).map sn),_]
   generalize k.drop j=R at *;refine aB ?_;simp[-nI,-List.all_eq_true,-List.all_map,a,d,g,h,l]
def ER(a x:Int):Int:=if a<x then x else a
def DX(c y:Int):Int:=if y<c then y else c
def kG(a c x y:Int):Int×Bool:=if DX c y<ER a x then(0,false)else(DX c y,true)
def aph(a c x y:Int):TT.lim 202 [.g [.zu a,.zu c],.g [.zu x,.zu y]]=some [.zu (kG a c x y).1,.b (kG a c x y).2]:=by
 have e:∀p q:Int,TT.lim 204 [.l [.g [.zu x,.zu y]],.zq 1,.zq 1,.zu p,.zu q]=some [.zq 0,.zu p,.zu q]:=by intro p q;refine aB ?_;simp
 have d:TT.lim 204 [.l [.g [.zu x,.zu y]],.zq 1,.zq 0,.zu a,.zu c]=some [.zq 0,.zu (ER a x),.zu (DX c y)]:=by have h:=e (ER a x) (DX c y);have w:IntKind.i64.wrap 1=1:=rfl;refine aB ?_;simp[w];exact h
 have f:TT.lim 203 [.l [.g [.zu a,.zu c],.g [.zu x,.zu y]]]=some [.zu (kG a c x y).1,.b (kG a c x y).2]:=by
  unfold kG;by_cases b:DX c y<ER a x
  ·rw[au b];refine aV ?_;simp[d,b]
  ·rw[aj b];refine aV ?_;simp[d,b]
 refine aV ?_;simp[f]
def kD(b:aQ)(v:Int):We:=if(xB b [] v).2=0 then[(xB b [] v).1]else[]
def SY{b:aQ}(c:y7 b [])(v:Int):TT.lim 70 [jc b [],.zq v]=some [.l ((kD b v).map .s)]:=by
 have a:=ayX c v;have a:TT.lim 71 [jc b [],.zq v]=some [.s (xB b [] v).1,.zq (xB b [] v).2]:=a;unfold kD;generalize xB b [] v=E at *;obtain⟨t,e⟩:=E;by_cases h:e=0
 ·rw[au h];subst h;refine aV ?_;simp[lJ,a]
 ·rw[aj h];refine aV ?_;simp[lJ,a,h]
def alv(b:aQ)(v:Int):(kD b v).length<=1:=by unfold kD;split<;>simp
structure bY where
 mn:Int
 mx:Int
 name:Q2
 first:Bool
 st:Int
 ver:Int
 vs:Int
 sm:Bool
 h:Sn
 k:List Sn
 b:Int
structure kS(s:bY):Prop where
 mn:1<=s.mn
 mx:s.mx<=3
 le:s.mn<=s.mx
 name:s.name.length<=256
 ver:0<=s.ver/\s.ver<=3
 rc:Rec s.vs s.sm s.h
 kp:Kp s.k
def cZ(s:bY):Q3:=[.zu s.mn,.zu s.mx,.s s.name,.b s.first,.zq s.st,.zq s.ver,.zq s.vs,.b s.sm,.zu s.h.1,.l (s.h.2.map row),.l (s.k.map sn),.zu s.b]
def Po{b:aQ}(a:vP b)(c:b.d=[])(d:bZ b.t)(h1:b.name.length<=600)(e:b.region=[])(f:b.note=[]):y7 b []:=
 ⟨⟨a,by rw[c];rfl,d,by simp only[fB],aA⟩,⟨h1,by rw[e];simp,by rw[f];simp⟩,by simp[dO],by simp[wL]⟩
def FP(m:Tm):aQ:=U0 m.1 m.2.1 m.2.2.1 m.2.2.2
def jA(s:bY):We×Int:=
 if s.st=2 then(if(ku s.vs s.k s.b).2=0 then(kD (FP (ku s.vs s.k s.b).1) s.ver,2)else([],2))
 else if s.first=true then(if s.st=3 then([],3)else(kD (tu s.mn s.mx s.name) 1,1))else([],s.st)
def avx{a c:Int}{n:Q2}(b:0<=a/\a<18446744073709551616)(d:0<=c/\c<18446744073709551616)(e:n.length<=600):y7 (tu a c n) []:=by refine Po ?_ rfl DW.good e rfl rfl;refine⟨?_,?_,b,d,?_,?_,?_,?_,?_,?_,?_,?_,?_,?_,?_,?_,?_,?_,?_,?_,?_,?_⟩<;>first|(simp only[tu];omega)|simp[tu,tX,Rows]
def amn{v:Int}{k:List Sn}{b:Int}(c:Kp k):y7 (FP (ku v k b).1) []:=by obtain⟨d,e,f,a⟩:=axS (v:=v) (b:=b) c;exact Po (anV d e f a.rows) rfl a (by simp[FP,U0]) rfl rfl
def akQ(s:bY)(d:kS s):TT.lim 64 (cZ s)=some [.zq 0,.l ((jA s).1.map .s),.zq (jA s).2]:=by
 have i:=axQ s.vs s.k s.b d.kp;have p:=d.mn;have q:=d.mx;have r:=d.le;have t:=d.name;have m:TT.lim 70 [.g [.zq 1,.zu 0,.zu s.mn,.zu s.mx,.zu 0,.zu 0,.zu 0,.zu 0,.zu 0,.zu 0,.zu 0,.zu 0,.zu 0,.zu 0,.zu 0,.zu 0,.zq 0,.b false,.s s.name,.s [],.s [],.l [],.l [],.l []],.zq 1]=some [.l ((kD (tu s.mn s.mx s.name) 1).map .s)]:=SY (avx (a:=s.mn) (c:=s.mx) (n:=s.name) ah ah ah) 1;have k:=SY (amn (v:=s.vs) (b:=s.b) d.kp) s.ver;unfold jA;unfold cZ;generalize ku s.vs s.k s.b=M at *;have k:TT.lim 70 [.g [.zq M.1.1,.zu 0,.zu 0,.zu 0,.zu 0,.zu 0,.zu 0,.zu 0,.zu 0,.zu 0,.zu M.1.2.1,.zu M.1.2.2.1,.zu 0,.zu 0,.zu 0,.zu 0,.zq 0,.b false,.s [],.s [],.s [],.l [],.l (M.1.2.2.2.map row),.l []],.zq s.ver]=some [.l ((kD (FP M.1) s.ver).map .s)]:=k;generalize kD (tu s.mn s.mx s.name) 1=Y,kD (FP M.1) s.ver=W at *;simp only[H7]at i;by_cases f:s.st=2
 ·rw[au f];have g:(s.st=2)=True:=eq_true f;by_cases e:M.2=0
  ·rw[au e];have u:(M.2=0)=True:=eq_true e;rw[e]at i;refine aB ?_;simp[g,i,k]
  ·rw[aj e];refine aB ?_;simp[g,i,e]
 rw[aj f];by_cases h:s.first=true
 ·rw[au h];by_cases j:s.st=3
  ·rw[au j];have l:(s.st=3)=True:=eq_true j;refine aB ?_;simp[f,h,l]
  ·rw[aj j];refine aB ?_;simp[f,h,j,m]
 ·rw[aj h];have o:s.first=false:=by simpa using h
  refine aB ?_;simp[f,o]
def akV(x:Sn)(s:bY)(a:bZ x.2)(b:kS s):TT.lim 33 (.zu x.1::.l (x.2.map row)::cZ s)=some [.zq 0,.zq (jd x s.k s.b).1,.l ((jd x s.k s.b).2.1.map sn),.zu (jd x s.k s.b).2.2]:=by have c:=azN x (.zq s.vs) s.k s.b a b.kp;unfold cZ;generalize jd x s.k s.b=P at *;refine aB ?_;simp[c]
def pW(v:Int)(n:Q2):aQ:={gJ with kind:=2,chosen:=v,name:=n}
def qV:aQ:={gJ with kind:=8,code:=16}
def anF{v:Int}{n:Q2}(a:0<=v/\v<18446744073709551616)(b:n.length<=600):y7 (pW v n) []:=by refine Po ?_ rfl DW.good b rfl rfl;refine⟨?_,?_,?_,?_,a,?_,?_,?_,?_,?_,?_,?_,?_,?_,?_,?_,?_,?_,?_,?_,?_,?_⟩<;>first|(simp only[pW];omega)|simp[pW,gJ,tX,Rows]
def aAJ:y7 qV []:=by refine Po ?_ rfl DW.good (by simp[qV,gJ]) rfl rfl;refine⟨?_,?_,?_,?_,?_,?_,?_,?_,?_,?_,?_,?_,?_,?_,?_,?_,?_,?_,?_,?_,?_,?_⟩<;>simp[qV,gJ,tX,Rows]
def afd(s:bY)(a:kS s)(b:0<=s.ver/\s.ver<=3):TT.lim 205 (cZ s)=some [.zq 0,.l ((kD (pW s.ver s.name) 1).map .s)]:=by have e:=a.name;have c:=Iw (n:=s.ver) b.1 ah;have d:TT.lim 70 [.g [.zq 2,.zu 0,.zu 0,.zu 0,.zu s.ver,.zu 0,.zu 0,.zu 0,.zu 0,.zu 0,.zu 0,.zu 0,.zu 0,.zu 0,.zu 0,.zu 0,.zq 0,.b false,.s s.name,.s [],.s [],.l [],.l [],.l []],.zq 1]=some [.l ((kD (pW s.ver s.name) 1).map .s)]:=SY (anF (v:=s.ver) (n:=s.name) ah ah) 1;unfold cZ;generalize kD (pW s.ver s.name) 1=Y at *;refine aB ?_;simp[c,d]
def apb{a c x y:Int}(h:(kG a c x y).2=true):ER a x<=(kG a c x y).1/\(kG a c x y).1=DX c y:=by
 unfold kG at h⊢;split
 ·next b=>rw[au b]at h;cases h
 ·exact⟨by simp only;omega,rfl⟩
def aaf{a c x y:Int}(h:(kG a c x y).2=true):a<=(kG a c x y).1/\x<=(kG a c x y).1/\(kG a c x y).1<=c/\(kG a c x y).1<=y:=by obtain⟨b,d⟩:=apb h;generalize(kG a c x y).1=z at *;unfold ER at b;unfold DX at d;split at b<;>split at d<;>omega
def mg(m:aQ)(s:bY):bY×We×Int:=
 if s.first=true then(s,[],22)else if m.min<1 then(s,[],18)else if m.max<m.min then(s,[],18)else if 255<m.max then(s,[],18)else
 if s.st=2 then(if(kG s.mn s.mx m.min m.max).2=true/\(kG s.mn s.mx m.min m.max).1=s.ver then(s,kD (pW s.ver s.name) 1,0)else(s,[],22))
 else if(kG s.mn s.mx m.min m.max).2=false\/s.st=3 then({s with st:=3},kD qV 1,16)
 else({s with st:=2,ver:=(kG s.mn s.mx m.min m.max).1,vs:=(kG s.mn s.mx m.min m.max).1},kD (pW (kG s.mn s.mx m.min m.max).1 s.name) 1,0)
def avu(m:aQ)(y:List aK)(s:bY)(z:m.kind=1)(a:kS s):TT.lim 201 ((jc m (aI y)).cells++cZ s)=some [.zq 0,.l ((mg m s).2.1.map .s),.zq (mg m s).2.2,.zq (mg m s).1.st,.zq (mg m s).1.ver,.zq (mg m s).1.vs]:=by
 have i:=aph s.mn s.mx m.min m.max;have A:=@aaf s.mn s.mx m.min m.max;have x:TT.lim 70 [.g [.zq 8,.zu 0,.zu 0,.zu 0,.zu 0,.zu 0,.zu 0,.zu 0,.zu 0,.zu 0,.zu 0,.zu 0,.zu 0,.zu 0,.zu 16,.zu 0,.zq 0,.b false,.s [],.s [],.s [],.l [],.l [],.l []],.zq 1]=some [.l ((kD qV 1).map .s)]:=SY aAJ 1;have r:=afd s a a.ver;have k:=λ(v:Int)(h:1<=v/\v<=3)=>afd {s with st:=2,ver:=v,vs:=v} ⟨a.mn,a.mx,a.le,a.name,⟨by simp only;omega,h.2⟩,⟨h.1,h.2,a.rc.good,a.rc.ep,a.rc.no⟩,a.kp⟩ ⟨by simp only;omega,h.2⟩;have F:=a.mn;have G:=a.mx;have B:=a.ver;have l:=Iw (n:=s.ver) B.1 ah;rw[fD];unfold mg;simp only[cZ,bg,aW]at r k⊢;generalize kG s.mn s.mx m.min m.max=C,kD qV 1=H at *;rw[z];by_cases p:s.first=true
 ·rw[au p];refine aB ?_;simp[p]
 rw[aj p];have o:s.first=false:=by simpa using p
 rw[o]at r k;simp only[o];by_cases b:m.min<1
 ·rw[au b];refine aB ?_;simp[b]
 rw[aj b];by_cases d:m.max<m.min
 ·rw[au d];refine aB ?_;simp[b,d]
 rw[aj d];by_cases f:255<m.max
 ·rw[au f];refine aB ?_;simp[b,d,f]
 rw[aj f];by_cases j:s.st=2
 ·rw[au j];have t:(s.st=2)=True:=eq_true j;by_cases c:C.2=true
  ·by_cases g:C.1=s.ver
   ·rw[au ⟨c,g⟩];have u:(C.1=s.ver)=True:=eq_true g;refine aB ?_;simp[b,d,f,t,i,c,u,l,r]
   ·rw[aj (λh=>g h.2)];refine aB ?_;simp[b,d,f,t,i,c,g,l]
  ·rw[aj (λh=>c h.1)];have q:C.2=false:=by simpa using c
   refine aB ?_;simp[b,d,f,t,i,q]
 rw[aj j];by_cases c:C.2=true;rotate_left
 ·have q:C.2=false:=by simpa using c
  rw[au (.inl q)];refine aB ?_;simp[b,d,f,j,i,q,x]
 by_cases g:s.st=3
 ·rw[au (.inr g)];have u:(s.st=3)=True:=eq_true g;refine aB ?_;simp[b,d,f,j,i,c,u,x]
 rw[aj (λh=>h.elim (λe=>by rw[c]at e;cases e) g)];obtain⟨I,J,L,M⟩:=A c;have k:=k C.1 ⟨ah,ah⟩;have w:=bI (C.1);have D:1<=C.1:=ah;have E:C.1<=3:=ah;refine aB ?_;simp[b,d,f,j,i,c,g,w,D,E,k]
def Bl(m:aQ)(s:bY):bY×We×Int:=
 if s.st=1 then(if s.mn<=m.chosen/\m.chosen<=s.mx then({s with st:=2,ver:=m.chosen,vs:=m.chosen},[],0)else({s with st:=3},[],16))
 else if s.st=2/\s.first=true/\m.chosen=s.ver then(s,[],0)else(s,[],22)
def mM(m:aQ)(a:List aK)(s:bY):bY×We×Int:=
 if s.st=2 then
  ({s with sm:=(lF (gK m a s.vs) s.vs m.kind m.epoch m.base m.t s.sm s.h).2.2.1,h:=(lF (gK m a s.vs) s.vs m.kind m.epoch m.base m.t s.sm s.h).2.2.2},
   if(lF (gK m a s.vs) s.vs m.kind m.epoch m.base m.t s.sm s.h).1.1=0 then[]else kD (jv (lF (gK m a s.vs) s.vs m.kind m.epoch m.base m.t s.sm s.h).1) s.ver,
   (lF (gK m a s.vs) s.vs m.kind m.epoch m.base m.t s.sm s.h).2.1)
 else(s,[],22)
def qH(m:aQ)(s:bY):bY×We×Int:=
 if s.st=2 then({s with k:=(sJ m.epoch s.k s.b).2.1,b:=(sJ m.epoch s.k s.b).2.2},[],0)else(s,[],22)
def noS(m:aQ)(s:bY):bY×We×Int:=
 if s.st=2 then({s with b:=0},[],0)else if s.st=1/\m.code=16 then({s with st:=3},[],16)else(s,[],22)
def wJ(m:aQ)(a:List aK)(s:bY):bY×We×Int:=
 if m.kind=1 then mg m s else if m.kind=2 then Bl m s else if m.kind=5\/m.kind=6 then mM m a s else if m.kind=7 then qH m s else if m.kind=8 then noS m s else(s,[],15)
def jr(s:bY):Int:=if s.st=2 then s.ver else 1
def fC(t:Q2)(s:bY):bY×We×Int:=
 if(iW t (jr s)).2.2=0 then wJ (iW t (jr s)).1 (iW t (jr s)).2.1 s else(s,[],(iW t (jr s)).2.2)
def WB(r:bY×We×Int):Q3:=[.zq 0,.l (r.2.1.map .s),.zq r.2.2,.zq r.1.st,.zq r.1.ver,.zq r.1.vs,.b r.1.sm,.zu r.1.h.1,.l (r.1.h.2.map row),.l (r.1.k.map sn),.zu r.1.b]
def take_zero(c v kd b d:Int)(t:List Row)(e:Bool)(h:Sn)(h0:(lF c v kd b d t e h).1.1=0):(lF c v kd b d t e h).1=(0,0,0,0):=by
 unfold lF at h0⊢;split
 ·rfl
 next f=>
 rw[aj f]at h0;split
 ·next a=>
  rw[au a]at h0;split at h0<;>simp at h0
 next a=>
 rw[aj a]at h0;split
 ·next g=>
  rw[au g]at h0;split at h0
  ·simp at h0
  ·split at h0<;>simp at h0
 ·rfl
def aDD(m:aQ)(a:List aK)(s:bY)(f:sF m a)(q:kS s):TT.lim 206 ((jc m (aI a)).cells++cZ s)=some [.zq 0,.l ((mM m a s).2.1.map .s),.zq (mM m a s).2.2,.b (mM m a s).1.sm,.zu (mM m a s).1.h.1,.l ((mM m a s).1.h.2.map row)]:=by
 have k:=aEC m a s.vs s.sm s.h f.body f.t f.f8 f.len q.rc.good;obtain⟨y,u,z⟩:=XR q.rc (gK m a s.vs) m.kind m.epoch m.base m.t f.t f.body.epoch;have r:=take_zero (gK m a s.vs) s.vs m.kind m.epoch m.base m.t s.sm s.h;unfold mM;by_cases n:s.st=2;rotate_left
 ·rw[aj n,fD];simp only[cZ,bg,aW];refine aB ?_;simp[n]
 rw[au n];have l:(s.st=2)=True:=eq_true n;rw[fD]at k⊢;simp only[cZ,bg,aW]at k⊢;generalize lF (gK m a s.vs) s.vs m.kind m.epoch m.base m.t s.sm s.h=R at *;obtain⟨⟨b,g,i,j⟩,e,A,h⟩:=R;have t:y7 (jv (b,g,i,j)) []:=Po u rfl DW.good (by simp[jv]) rfl rfl;have p:TT.lim 70 [.g [.zq b,.zu 0,.zu 0,.zu 0,.zu 0,.zu 0,.zu 0,.zu 0,.zu 0,.zu 0,.zu g,.zu 0,.zu 0,.zu 0,.zu i,.zu j,.zq 0,.b false,.s [],.s [],.s [],.l [],.l [],.l []],.zq s.ver]=some [.l ((kD (jv (b,g,i,j)) s.ver).map .s)]:=SY t s.ver;have o:TT.lim 208 [.g [.zq b,.zu 0,.zu 0,.zu 0,.zu 0,.zu 0,.zu 0,.zu 0,.zu 0,.zu 0,.zu g,.zu 0,.zu 0,.zu 0,.zu i,.zu j,.zq 0,.b false,.s [],.s [],.s [],.l [],.l [],.l []],.g [.zq 0,.zu 0,.zu 0,.zu 0,.zu 0,.zu 0,.zu 0,.zu 0,.zu 0,.zu 0,.zu 0,.zu 0,.zu 0,.zu 0,.zu 0,.zu 0,.zq 0,.b false,.s [],.s [],.s [],.l [],.l [],.l []]]=some [.b (eG (jv (b,g,i,j)=gJ/\([]:List aK)=[]))]:=by
  have:=t.msg.axq (fc:=[]) Iy (by simp[dO]);have fn:aI []=[]:=by simp only[aI]
  rw[fn]at this;exact this
 generalize kD (jv (b,g,i,j)) s.ver=W at *;simp only[yP]at k;simp only at r⊢;by_cases c:b=0
 ·rw[au c];have d:=r c;injection d with v d
  injection d with w d
  injection d with x d
  subst v w x d;rw[nD ⟨rfl,rfl⟩]at o;refine aB ?_;simp[l,k,o]
 ·rw[aj c];rw[lG (λh=>c (uD aQ.kind h.1))]at o;refine aB ?_;simp[l,k,o,p]
def anz(m:aQ)(c:List aK)(s:bY)(d:kS s):TT.lim 219 ((jc m (aI c)).cells++cZ s)=some [.zq 0,.zq (qH m s).2.2,.l ((qH m s).1.k.map sn),.zu (qH m s).1.b]:=by
 have e:=anx m.epoch (.zq s.vs) s.k s.b (by have:=d.kp.len;omega);unfold qH;by_cases a:s.st=2;rotate_left
 ·rw[aj a,fD];simp only[cZ,bg,aW];refine aB ?_;simp[a]
 rw[au a];have b:(s.st=2)=True:=eq_true a;rw[fD];simp only[cZ,bg,aW];generalize sJ m.epoch s.k s.b=A at *;refine aB ?_;simp[b,e]
def ail(m:aQ)(s:bY):(mg m s).1.sm=s.sm/\(mg m s).1.h=s.h/\(mg m s).1.k=s.k/\(mg m s).1.b=s.b/\(mg m s).1.mn=s.mn/\(mg m s).1.mx=s.mx/\(mg m s).1.name=s.name/\(mg m s).1.first=s.first:=by
 unfold mg;repeat' split
 all_goals simp
set_option maxHeartbeats 2000000 in
def ah6(t:Q2)(s:bY)(O:t.length<=140737488351232)(w:kS s):TT.lim 169 (.s t::cZ s)=some (WB (fC t s)):=by
 have b:=decode_ok t (jr s) O;have N:=Vw t (jr s);unfold fC;generalize iW t (jr s)=D at *;obtain⟨m,c,e⟩:=D;simp only at b N⊢;have l:=avu m c s;have i:=aDD m c s N w;have x:=anz m c s w;have p:=ail m s;have I:=w.ver;have y:=Iw (n:=s.ver) I.1 ah;have P:=w.mn;have Q:=w.mx;rw[fD]at l i x;unfold jr at b;unfold WB;have j:s.st=2\/¬s.st=2:=TV _;by_cases z:e=0;rotate_left
 ·rw[aj z];simp only[cZ];rcases j with a|a
  ·rw[au a]at b;have q:(s.st=2)=True:=eq_true a;refine aB ?_;simp[q,b,z]
  ·rw[aj a]at b;refine aB ?_;simp[a,b,z]
 rw[au z];subst z;unfold wJ;by_cases k:m.kind=1
 ·rw[au k];have l:=l k w;obtain⟨R,S,T,U,-⟩:=p;rw[R,S,T,U];generalize mg m s=H at *;simp only[cZ,bg,aW]at l⊢;rw[k]at l;have W:(m.kind=1)=True:=eq_true k;rcases j with a|a
  ·rw[au a]at b;have q:(s.st=2)=True:=eq_true a;rw[a]at l;refine aB ?_;simp[a,b,k,l]
  ·rw[aj a]at b;refine aB ?_;simp[a,b,k,l]
 rw[aj k];by_cases d:m.kind=2
 ·rw[au d];have X:(m.kind=2)=True:=eq_true d;unfold Bl;simp only[cZ];rcases j with a|a
  ·rw[au a]at b;rw[dL];have q:(s.st=2)=True:=eq_true a;by_cases A:s.first=true
   ·by_cases B:m.chosen=s.ver
    ·rw[au ⟨a,A,B⟩];have J:(m.chosen=s.ver)=True:=eq_true B;refine aB ?_;simp[a,b,d,A,J,y]
    ·rw[aj (λh=>B h.2.2)];refine aB ?_;simp[a,b,d,A,B,y]
   ·rw[aj (λh=>A h.2.1)];have Y:s.first=false:=by simpa using A
    refine aB ?_;simp[a,b,d,Y]
  ·rw[aj a]at b;by_cases f:s.st=1
   ·rw[au f];by_cases r1:s.mn<=m.chosen
    ·by_cases r2:m.chosen<=s.mx
     ·rw[au ⟨r1,r2⟩];have Z:1<=m.chosen:=ah;have g3:m.chosen<=3:=ah;have L:=bI (m.chosen);refine aB ?_;simp[f,b,d,r1,r2,L,Z,g3]
     ·rw[aj (λh=>r2 h.2)];refine aB ?_;simp[f,b,d,r1,r2]
    ·rw[aj (λh=>r1 h.1)];refine aB ?_;simp[f,b,d,r1]
   ·rw[aj f,aj (λh=>a h.1)];refine aB ?_;simp[f,a,b,d]
 rw[aj d];by_cases r:m.kind=5
 ·rw[au (.inl r)];have g:(mM m c s).1.st=s.st/\(mM m c s).1.ver=s.ver/\(mM m c s).1.vs=s.vs/\(mM m c s).1.k=s.k/\(mM m c s).1.b=s.b:=by unfold mM;split<;>simp
  rw[g.1,g.2.1,g.2.2.1,g.2.2.2.1,g.2.2.2.2];generalize mM m c s=H at *;simp only[cZ,bg,aW]at i⊢;rw[r]at i;rcases j with a|a
  ·rw[au a]at b;rw[a]at i;refine aB ?_;simp[a,b,r,i]
  ·rw[aj a]at b;refine aB ?_;simp[a,b,r,i]
 by_cases u:m.kind=6
 ·rw[au (.inr u)];have g:(mM m c s).1.st=s.st/\(mM m c s).1.ver=s.ver/\(mM m c s).1.vs=s.vs/\(mM m c s).1.k=s.k/\(mM m c s).1.b=s.b:=by unfold mM;split<;>simp
  rw[g.1,g.2.1,g.2.2.1,g.2.2.2.1,g.2.2.2.2];generalize mM m c s=H at *;simp only[cZ,bg,aW]at i⊢;rw[u]at i;rcases j with a|a
  ·rw[au a]at b;rw[a]at i;refine aB ?_;simp[a,b,u,i]
  ·rw[aj a]at b;refine aB ?_;simp[a,b,u,i]
 rw[aj (λh=>h.elim r u)];by_cases v:m.kind=7
 ·rw[au v];have g:(qH m s).1.st=s.st/\(qH m s).1.ver=s.ver/\(qH m s).1.vs=s.vs/\(qH m s).1.sm=s.sm/\(qH m s).1.h=s.h/\(qH m s).2.1=[]:=by unfold qH;split<;>simp
  rw[g.1,g.2.1,g.2.2.1,g.2.2.2.1,g.2.2.2.2.1,g.2.2.2.2.2];generalize qH m s=H at *;simp only[cZ,bg,aW]at x⊢;rw[v]at x;rcases j with a|a
  ·rw[au a]at b;rw[a]at x;refine aB ?_;simp[a,b,v,x]
  ·rw[aj a]at b;refine aB ?_;simp[a,b,v,x]
 rw[aj v];by_cases o:m.kind=8
 ·rw[au o];unfold noS;simp only[cZ];rcases j with a|a
  ·rw[au a]at b;rw[au a];refine aB ?_;simp[a,b,o]
  ·rw[aj a]at b;rw[aj a];by_cases f:s.st=1
   ·by_cases E:m.code=16
    ·rw[au ⟨f,E⟩];have M:(m.code=16)=True:=eq_true E;refine aB ?_;simp[f,b,o,M]
    ·rw[aj (λh=>E h.2)];refine aB ?_;simp[f,b,o,E]
   ·rw[aj (λh=>f h.1)];refine aB ?_;simp[f,a,b,o]
 ·rw[aj o];simp only[cZ];by_cases F:m.kind=3
  ·rcases j with a|a
   ·rw[au a]at b;refine aB ?_;simp[a,b,F]
   ·rw[aj a]at b;refine aB ?_;simp[a,b,F]
  by_cases G:m.kind=4
  ·rcases j with a|a
   ·rw[au a]at b;refine aB ?_;simp[a,b,G]
   ·rw[aj a]at b;refine aB ?_;simp[a,b,G]
  rcases j with a|a
  ·rw[au a]at b;refine aB ?_;simp[a,b,k,d,F,G,r,u,v,o]
  ·rw[aj a]at b;refine aB ?_;simp[a,b,k,d,F,G,r,u,v,o]
def tZ(a:List Int)(t:Q2):Prop:=∀w,(iW t w).2.2=0->(iW t w).1.kind∈a
def asF{t x:Q2}{k:Nat}(a:k<18446744073709551616)(b:t=aS k++x)(w:Int)(h:(iW t w).2.2=0):(iW t w).1.kind=k:=by
 have d:(aF t).1=k:=by rw[b,FV k x a]
 unfold iW at h⊢;split
 ·next c=>rw[au c]at h;exact absurd h aU
 next c=>
 rw[aj c]at h;split
 ·next c=>rw[au c]at h;exact absurd h aU
 next c=>
 rw[aj c]at h;split
 ·next c=>rw[au c]at h;exact absurd h aU
 next c=>
 rw[aj c]at h;split
 ·next c=>rw[au c]at h;exact absurd h c
 next c=>
 rw[aj c]at h;split
 ·next c=>rw[au c]at h;exact absurd h aU
 next c=>
 rw[aj c]at h;split
 ·next c=>rw[au c]at h;exact absurd h aU
 next c=>
 rw[aj c]at h;split
 ·next c=>rw[au c]at h;exact absurd h aU
 next c=>
 rw[aj c]at h;split
 ·next c=>rw[au c]at h;exact absurd h c
 next c=>
 rw[aj c]at h;simp only at h⊢;split
 ·next c=>rw[au c]at h;exact absurd h c
 next c=>
 rw[aj c]at h;split
 ·next c=>rw[au c]at h;exact absurd h c
 ·rw[agE _ _ _ (by simpa using c),d]
def Fg{b:aQ}{v:Int}{t:Q2}(h:t∈kD b v)(h0:0<=b.kind)(i:b.kind<=8):tZ [b.kind] t/\t.length<=65536:=by
 unfold kD at h;split at h;rotate_left
 ·cases h
 next e=>
 have d:=QM b [] v;obtain rfl:=jI.1 h;refine⟨λw a=>?_,d⟩;unfold xB at e a⊢;split at e;rotate_left
 ·next c=>exact absurd e c
 next c=>
 rw[au c]at a⊢;split at e
 ·exact absurd e aU
 next f=>
 rw[aj f]at a⊢;simp only at a⊢;have g:=asF (t:=bytesV b [] v) (k:=b.kind.toNat) ah rfl w a;rw[g];simp[IG h0]
structure Mid(s:bY)(r:bY×We×Int):Prop where
 ok:kS r.1
 mn:r.1.mn=s.mn
 mx:r.1.mx=s.mx
 name:r.1.name=s.name
 first:r.1.first=s.first
 st:r.1.st=s.st
 ver:r.1.ver=s.ver
 said:∀u∈r.2.1,s.st=2/\(tZ [7] u\/tZ [8] u)/\u.length<=65536
def Xp{s:bY}(a:kS s)(e:Int):Mid s (s,[],e):=⟨a,rfl,rfl,rfl,rfl,rfl,rfl,λu h=>by cases h⟩
def adT(c v kd a b:Int)(t:List Row)(d:Bool)(h:Sn):(lF c v kd a b t d h).1.1=0\/(lF c v kd a b t d h).1.1=7\/(lF c v kd a b t d h).1.1=8:=by
 unfold lF;repeat' split
 all_goals simp
def axo{m:aQ}{d:List aK}{s:bY}(i:sF m d)(a:kS s)(j:m.kind∈([5,6,7,8]:List Int))(h1:s.st≠1\/m.kind≠8):Mid s (wJ m d s):=by
 have j:m.kind=5\/m.kind=6\/m.kind=7\/m.kind=8:=by simpa using j
 unfold wJ;rw[dL,dL];by_cases c:m.kind=5\/m.kind=6
 ·rw[au c];unfold mM;split;rotate_left
  ·exact Xp a 22
  next l=>
  obtain⟨n,r,t⟩:=XR a.rc (gK m d s.vs) m.kind m.epoch m.base m.t i.t i.body.epoch;have o:=adT (gK m d s.vs) s.vs m.kind m.epoch m.base m.t s.sm s.h;generalize lF (gK m d s.vs) s.vs m.kind m.epoch m.base m.t s.sm s.h=R at *;refine⟨⟨a.mn,a.mx,a.le,a.name,a.ver,n,a.kp⟩,rfl,rfl,rfl,rfl,rfl,rfl,?_⟩;intro u g;simp only at g;split at g
  ·cases g
  next p=>
  have b:(jv R.1).kind=R.1.1:=rfl;obtain⟨f,q⟩:=Fg g (by rw[b];omega) (by rw[b];omega);rw[b]at f;refine⟨l,?_,q⟩;rcases o with e|e|e
  ·exact absurd e p
  ·rw[e]at f;exact .inl f
  ·rw[e]at f;exact .inr f
 rw[aj c];by_cases k:m.kind=7
 ·rw[au k];unfold qH;split;rotate_left
  ·exact Xp a 22
  ·exact⟨⟨a.mn,a.mx,a.le,a.name,a.ver,a.rc,Zx a.kp⟩,rfl,rfl,rfl,rfl,rfl,rfl,λu h=>by cases h⟩
 rw[aj k,lM];unfold noS;split
 ·exact⟨⟨a.mn,a.mx,a.le,a.name,a.ver,a.rc,a.kp⟩,rfl,rfl,rfl,rfl,rfl,rfl,λu h=>by cases h⟩
 ·rw[aj (λe=>h1.elim (λh=>h e.1) (λh=>h ah))];exact Xp a 22
def ajG{t:Q2}{s:bY}(d:kS s)(a:List Int)(f:tZ a t)(b:∀k∈a,k∈([5,6,7,8]:List Int))(h1:s.st≠1\/(8:Int)∉a):Mid s (fC t s):=by
 have g:=Vw t (jr s);unfold fC;split
 ·next e=>
  have h:=f (jr s) e;exact axo g d (b _ h) (h1.imp id λn c=>n (c▸h))
 ·exact Xp d _
abbrev BL:Q2:=[102,105,114,115,116]
abbrev KD:Q2:=[111,116,104,101,114]
def helloT(a b:Int):Q2:=(xB (tu a b BL) [] 1).1
def MK(v:Int):Q2:=(xB (pW v KD) [] 1).1
def OH:Q2:=(xB qV [] 1).1
def ak7:kD qV 1=[OH]:=by kernel_rfl
def aAI:iW OH 1=(qV,[],0):=by kernel_rfl
def three{v:Int}(h1:1<=v)(a:v<=3):v=1\/v=2\/v=3:=ah
def Zy{v:Int}(h1:1<=v)(a:v<=3):kD (pW v KD) 1=[MK v]:=by
 rcases three h1 a with rfl|rfl|rfl
 ·kernel_rfl
 ·kernel_rfl
 ·kernel_rfl
def anw{v:Int}(h1:1<=v)(a:v<=3):iW (MK v) 1=(pW v KD,[],0):=by
 rcases three h1 a with rfl|rfl|rfl
 ·kernel_rfl
 ·kernel_rfl
 ·kernel_rfl
def six{a c:Int}(h1:1<=a)(b:a<=c)(d:c<=3):(a=1/\c=1)\/(a=1/\c=2)\/(a=1/\c=3)\/(a=2/\c=2)\/(a=2/\c=3)\/(a=3/\c=3):=ah
def avv{a c:Int}(h1:1<=a)(b:a<=c)(d:c<=3):kD (tu a c BL) 1=[helloT a c]:=by
 rcases six h1 b d with⟨rfl,rfl⟩|⟨rfl,rfl⟩|⟨rfl,rfl⟩|⟨rfl,rfl⟩|⟨rfl,rfl⟩|⟨rfl,rfl⟩
 ·kernel_rfl
 ·kernel_rfl
 ·kernel_rfl
 ·kernel_rfl
 ·kernel_rfl
 ·kernel_rfl
def avt{a c w:Int}(h1:1<=a)(d:a<=c)(e:c<=3)(w1:1<=w)(b:w<=3):iW (helloT a c) w=(tu a c BL,[],0):=by
 rcases six h1 d e with⟨rfl,rfl⟩|⟨rfl,rfl⟩|⟨rfl,rfl⟩|⟨rfl,rfl⟩|⟨rfl,rfl⟩|⟨rfl,rfl⟩
 ·rcases three w1 b with rfl|rfl|rfl
  ·kernel_rfl
  ·kernel_rfl
  ·kernel_rfl
 ·rcases three w1 b with rfl|rfl|rfl
  ·kernel_rfl
  ·kernel_rfl
  ·kernel_rfl
 ·rcases three w1 b with rfl|rfl|rfl
  ·kernel_rfl
  ·kernel_rfl
  ·kernel_rfl
 ·rcases three w1 b with rfl|rfl|rfl
  ·kernel_rfl
  ·kernel_rfl
  ·kernel_rfl
 ·rcases three w1 b with rfl|rfl|rfl
  ·kernel_rfl
  ·kernel_rfl
  ·kernel_rfl
 ·rcases three w1 b with rfl|rfl|rfl
  ·kernel_rfl
  ·kernel_rfl
  ·kernel_rfl
structure pV(V:Int)(ok:Bool)(p q:bY):Prop where
 iT:kS p
 mF:kS q
 pf:p.first=true
 qf:q.first=false
 pn:p.name=BL
 qn:q.name=KD
 com:kG p.mn p.mx q.mn q.mx=(V,ok)
 ps:p.st=0\/p.st=1\/p.st=2\/p.st=3
 qs:q.st=0\/q.st=2\/q.st=3
 p2:p.st=2->ok=true/\p.ver=V/\q.st=2
 q2:q.st=2->ok=true/\q.ver=V
 pz:p.st≠2->p.ver=0
 qz:q.st≠2->q.ver=0
 p3:p.st=3->q.st=3
 q3:q.st=3->ok=false
def Ef(p:bY)(t:Q2):Prop:=t.length<=65536/\(t=helloT p.mn p.mx\/(p.st=2/\tZ [5,6,7,8] t))
def MF(V:Int)(p q:bY)(t:Q2):Prop:=t.length<=65536/\((t=MK V/\q.st=2)\/(t=OH/\q.st=3)\/(q.st=2/\tZ [5,6,7] t)\/(p.st=2/\tZ [8] t))
structure nO(p q p' q':bY):Prop where
 mn:p'.mn=p.mn
 mx:p'.mx=p.mx
 p2:p.st=2->p'.st=2
 p3:p.st=3->p'.st=3
 q2:q.st=2->q'.st=2
 q3:q.st=3->q'.st=3
def nO.tp{p q p' q':bY}(l:nO p q p' q'){t:Q2}(h:Ef p t):Ef p' t:=by unfold Ef at h⊢;rw[l.mn,l.mx];exact⟨h.1,h.2.imp id λe=>⟨l.p2 e.1,e.2⟩⟩
def nO.tq{V:Int}{p q p' q':bY}(l:nO p q p' q'){t:Q2}(h:MF V p q t):MF V p' q' t:=
 ⟨h.1,h.2.imp (λe=>⟨e.1,l.q2 e.2⟩) λh=>h.imp (λe=>⟨e.1,l.q3 e.2⟩) λh=>h.imp (λe=>⟨l.q2 e.1,e.2⟩) λe=>⟨l.p2 e.1,e.2⟩⟩
def Oa{b a:List Int}{t:Q2}(h:tZ b t)(c:∀k∈b,k∈a):tZ a t:=λw e=>c _ (h w e)
def apa(a c x y:Int):kG a c x y=kG x y a c:=by
 have b:ER a x=ER x a:=by unfold ER;split<;>split<;>omega
 have d:DX c y=DX y c:=by unfold DX;split<;>split<;>omega
 unfold kG;rw[b,d]
def pV.Ph{V:Int}{ok:Bool}{p q:bY}(h:pV V ok p q)(e:ok=true):p.mn<=V/\V<=p.mx/\1<=V/\V<=3:=by
 have a:=h.com;have c:(kG p.mn p.mx q.mn q.mx).2=true:=by rw[a];exact e
 have b:=aaf c;rw[a]at b;simp only at b;have:=h.iT.mn;have:=h.iT.mx;omega
def pV.ajH{V:Int}{ok:Bool}{p q:bY}(h:pV V ok p q){p':bY}(h0:kS p')(b:p'.mn=p.mn)(c:p'.mx=p.mx)(f:p'.name=p.name)(g:p'.first=p.first)(a:p'.st=p.st)(d:p'.ver=p.ver):pV V ok p' q/\nO p q p' q:=
 ⟨⟨h0,h.mF,g▸h.pf,h.qf,f▸h.pn,h.qn,by rw[b,c];exact h.com,by rw[a];exact h.ps,h.qs,by rw[a,d];exact h.p2,h.q2,by rw[a,d];exact h.pz,h.qz,by rw[a];exact h.p3,h.q3⟩,⟨b,c,λe=>a.trans e,λe=>a.trans e,id,id⟩⟩
def pV.ajI{V:Int}{ok:Bool}{p q:bY}(h:pV V ok p q){q':bY}(h0:kS q')(c:q'.mn=q.mn)(d:q'.mx=q.mx)(f:q'.name=q.name)(g:q'.first=q.first)(a:q'.st=q.st)(b:q'.ver=q.ver):pV V ok p q'/\nO p q p q':=
 ⟨⟨h.iT,h0,h.pf,g▸h.qf,h.pn,f▸h.qn,by rw[c,d];exact h.com,h.ps,by rw[a];exact h.qs,λe=>⟨(h.p2 e).1,(h.p2 e).2.1,a.trans (h.p2 e).2.2⟩,by rw[a,b];exact h.q2,h.pz,by rw[a,b];exact h.qz,λe=>a.trans (h.p3 e),by rw[a];exact h.q3⟩,⟨rfl,rfl,id,id,λe=>a.trans e,λe=>a.trans e⟩⟩
def nO.self(p q:bY):nO p q p q:=⟨rfl,rfl,id,id,id,id⟩
def nO.trans{p q p' q' c d:bY}(a:nO p q p' q')(b:nO p' q' c d):nO p q c d:=
 ⟨b.mn.trans a.mn,b.mx.trans a.mx,λe=>b.p2 (a.p2 e),λe=>b.p3 (a.p3 e),λe=>b.q2 (a.q2 e),λe=>b.q3 (a.q3 e)⟩
def E5(x:Sn)(s:bY):bY:={s with k:=(jd x s.k s.b).2.1,b:=(jd x s.k s.b).2.2}
def akT{x:Sn}{s:bY}(a:kS s)(b:bZ x.2)(h0:0<=x.1/\x.1<18446744073709551616):kS (E5 x s):=
 ⟨a.mn,a.mx,a.le,a.name,a.ver,a.rc,ac5 a.kp b h0⟩
def qA(s:bY):bY:={s with st:=(jA s).2}
def abR{v:Int}{k:List Sn}{b:Int}(h:(ku v k b).2=0):(ku v k b).1.1=5\/(ku v k b).1.1=6:=by
 unfold ku at h⊢;cases a:k.getLast? with
 |none=>rw[a]at h;simp at h
 |some l=>
  rw[a]at h;simp only at h⊢;split
  ·next c=>rw[au c]at h;exact absurd h aU
  next c=>
  rw[aj c]at h;cases e:jZ b k with
  |none=>exact .inl rfl
  |some i=>
   rw[e]at h;simp only at h⊢;split;rotate_left
   ·exact .inl rfl
   next f=>
   rw[au f]at h;cases g:k[i]? with
   |none=>exact .inl rfl
   |some s=>
    rw[g]at h;simp only at h⊢;split
    ·next d=>rw[au d]at h;exact absurd h d
    ·exact .inr rfl
def aAk{V:Int}{ok:Bool}{p q:bY}(h:pV V ok p q):qA q=q/\∀t∈(jA q).1,MF V p q t:=by
 have g:(jA q).2=q.st:=by
  unfold jA;rw[h.qf];split
  ·next c=>split<;>exact c.symm
  ·rfl
 refine⟨by unfold qA;rw[g],λt a=>?_⟩;unfold jA at a;rw[h.qf]at a;split at a;rotate_left
 ·cases a
 next c=>
 split at a;rotate_left
 ·cases a
 next i=>
 have j:=abR (v:=q.vs) (k:=q.k) (b:=q.b) i;have e:(FP (ku q.vs q.k q.b).1).kind=(ku q.vs q.k q.b).1.1:=rfl;obtain⟨f,l⟩:=Fg a (by rw[e];omega) (by rw[e];omega);rw[e]at f;exact⟨l,.inr (.inr (.inl ⟨c,Oa f λk d=>by rw[jI.1 d];rcases j with e|e<;>rw[e]<;>simp⟩))⟩
def ayN{V:Int}{ok:Bool}{p q:bY}(h:pV V ok p q):pV V ok (qA p) q/\nO p q (qA p) q/\∀t∈(jA p).1,Ef (qA p) t:=by
 by_cases c:p.st=2
 ·have e:jA p=(if(ku p.vs p.k p.b).2=0 then(kD (FP (ku p.vs p.k p.b).1) p.ver,2)else([],2)):=by unfold jA;rw[au c]
  have j:(jA p).2=p.st:=by rw[e,c];split<;>rfl
  have d:qA p=p:=by unfold qA;rw[j]
  rw[d];refine⟨h,nO.self p q,λt a=>?_⟩;rw[e]at a;split at a;rotate_left
  ·cases a
  next l=>
  have m:=abR (v:=p.vs) (k:=p.k) (b:=p.b) l;have e:(FP (ku p.vs p.k p.b).1).kind=(ku p.vs p.k p.b).1.1:=rfl;obtain⟨i,n⟩:=Fg a (by rw[e];omega) (by rw[e];omega);rw[e]at i;exact⟨n,.inr ⟨c,Oa i λk g=>by rw[jI.1 g];rcases m with e|e<;>rw[e]<;>simp⟩⟩
 by_cases f:p.st=3
 ·have e:jA p=([],3):=by unfold jA;rw[aj c,au h.pf,au f]
  have d:qA p=p:=by unfold qA;rw[e,<-f]
  rw[d,e];exact⟨h,nO.self p q,λt a=>by cases a⟩
 ·have o:=avv h.iT.mn h.iT.le h.iT.mx;have e:jA p=([helloT p.mn p.mx],1):=by unfold jA;rw[aj c,au h.pf,aj f,h.pn,o]
  have d:qA p ={p with st:=1}:=by unfold qA;rw[e]
  rw[d,e];refine⟨⟨⟨h.iT.mn,h.iT.mx,h.iT.le,h.iT.name,h.iT.ver,h.iT.rc,h.iT.kp⟩,h.mF,h.pf,h.qf,h.pn,h.qn,h.com,.inr (.inl rfl),h.qs,(λe=>by simp at e),h.q2,λ_=>h.pz c,h.qz,(λe=>by simp at e),h.q3⟩,⟨rfl,rfl,λe=>absurd e c,λe=>absurd e f,id,id⟩,λt a=>?_⟩;rw[jI.1 a];exact⟨QM _ _ _,.inl rfl⟩
def aAd{V:Int}{ok:Bool}{p q:bY}(h:pV V ok p q):fC (helloT p.mn p.mx) q=if ok=true then({q with st:=2,ver:=V,vs:=if q.st=2 then q.vs else V},[MK V],0)else({q with st:=3},[OH],16):=by
 have d:1<=jr q/\jr q<=3:=by
  unfold jr;split
  ·next c=>
   obtain⟨l,o⟩:=h.q2 c;have:=h.Ph l;omega
  ·omega
 have g:=avt h.iT.mn h.iT.le h.iT.mx d.1 d.2;have r:=h.iT.mn;have s:=h.iT.mx;have t:=h.iT.le;have b:kG q.mn q.mx p.mn p.mx=(V,ok):=by rw[apa];exact h.com
 unfold fC;rw[g,au rfl];unfold wJ;rw[au (show(tu p.mn p.mx BL).kind=1 from rfl)];unfold mg;have b:kG q.mn q.mx (tu p.mn p.mx BL).min (tu p.mn p.mx BL).max=(V,ok):=b;rw[h.qf,aj aA,aj (show ¬(tu p.mn p.mx BL).min<1 from λe=>by have e:p.mn<1:=e;omega),aj (show ¬(tu p.mn p.mx BL).max<(tu p.mn p.mx BL).min from λe=>by have e:p.mx<p.mn:=e;omega),aj (show ¬255<(tu p.mn p.mx BL).max from λe=>by have e:255<p.mx:=e;omega),b];cases a:ok with
 |true=>
  subst a;obtain⟨-,-,i,j⟩:=h.Ph rfl;simp only[reduceIte];by_cases c:q.st=2
  ·rw[au c,au ⟨trivial,(h.q2 c).2.symm⟩,(h.q2 c).2,h.qn,Zy i j,au c];congr 1;have k:=(h.q2 c).2;have f:=h.qf;have n:=h.qn;clear b g d h;cases q;simp only at c k f n;subst c k f n;rfl
  ·have m:q.st≠3:=λe=>by have:=h.q3 e;cases this
   rw[aj c,aj (by simp[m]),h.qn,Zy i j,aj c]
 |false=>
  subst a;have c:q.st≠2:=λe=>by have:=(h.q2 e).1;cases this
  simp only[reduceIte,iJ];rw[aj c,au (.inl trivial),ak7]
def aAc{V:Int}{ok:Bool}{p q:bY}(h:pV V ok p q){t:Q2}(j:Ef p t):pV V ok p (fC t q).1/\nO p q p (fC t q).1/\∀u∈(fC t q).2.1,MF V p (fC t q).1 u:=by
 rcases j.2 with l|⟨f,a⟩
 ·rw[l,aAd h];cases b:ok with
  |true=>
   subst b;obtain⟨-,-,n,g⟩:=h.Ph rfl;have i:q.st≠3:=λe=>by have:=h.q3 e;cases this
   have o:p.st≠3:=λe=>i (h.p3 e);simp only[reduceIte];refine⟨⟨h.iT,⟨h.mF.mn,h.mF.mx,h.mF.le,h.mF.name,⟨by simp only;omega,g⟩,?_,h.mF.kp⟩,h.pf,h.qf,h.pn,h.qn,h.com,h.ps,.inr (.inl rfl),λe=>⟨rfl,(h.p2 e).2.1,rfl⟩,λ_=>⟨rfl,rfl⟩,h.pz,λe=>absurd rfl e,λe=>absurd e o,(λe=>by simp at e)⟩,⟨rfl,rfl,id,id,λ_=>rfl,λe=>absurd e i⟩,λu d=>?_⟩
   ·simp only;split
    ·exact h.mF.rc
    ·exact⟨n,g,h.mF.rc.good,h.mF.rc.ep,h.mF.rc.no⟩
   ·rw[jI.1 d];exact⟨QM _ _ _,.inl ⟨rfl,rfl⟩⟩
  |false=>
   subst b;have c:q.st≠2:=λe=>by have:=(h.q2 e).1;cases this
   have f:p.st≠2:=λe=>by have:=(h.p2 e).1;cases this
   simp only[reduceIte,iJ];refine⟨⟨h.iT,⟨h.mF.mn,h.mF.mx,h.mF.le,h.mF.name,h.mF.ver,h.mF.rc,h.mF.kp⟩,h.pf,h.qf,h.pn,h.qn,h.com,h.ps,.inr (.inr rfl),λe=>absurd e f,(λe=>by simp at e),h.pz,λ_=>h.qz c,λ_=>rfl,λ_=>rfl⟩,⟨rfl,rfl,id,id,λe=>absurd e c,λ_=>rfl⟩,λu d=>?_⟩;rw[jI.1 d];exact⟨QM _ _ _,.inr (.inl ⟨rfl,rfl⟩)⟩
 ·have m:=ajG h.mF [5,6,7,8] a (λk a=>a) (.inl (by have:=h.qs;omega));obtain⟨r,s⟩:=h.ajI m.ok m.mn m.mx m.name m.first m.st m.ver;refine⟨r,s,λu d=>?_⟩;obtain⟨v,g3,w⟩:=m.said u d;refine⟨w,?_⟩;rw[m.st];rcases g3 with g3|g3
  ·exact .inr (.inr (.inl ⟨v,Oa g3 λk a=>by rw[jI.1 a];simp⟩))
  ·exact .inr (.inr (.inr ⟨f,g3⟩))
def ayL{V:Int}{ok:Bool}{p q:bY}(h:pV V ok p q)(a:q.st=2)(h1:p.st=1):fC (MK V) p=({p with st:=2,ver:=V,vs:=V},[],0):=by
 obtain⟨e,-⟩:=h.q2 a;obtain⟨b,c,d,f⟩:=h.Ph e;have g:=anw d f;have i:jr p=1:=by unfold jr;rw[dL]
 unfold fC;rw[i,g,au rfl];unfold wJ;rw[aj (by simp[pW]),au (by simp[pW])];unfold Bl;rw[au h1,au (show p.mn<=(pW V KD).chosen/\(pW V KD).chosen<=p.mx from⟨b,c⟩)];rfl
def ayO{V:Int}{ok:Bool}{p q:bY}(h:pV V ok p q)(b:q.st=3)(h1:p.st=1):fC OH p=({p with st:=3},[],16):=by
 have a:jr p=1:=by unfold jr;rw[dL]
 unfold fC;rw[a,aAI,au rfl];unfold wJ;rw[aj (by simp[qV]),aj (by simp[qV]),aj (by simp[qV]),aj (by simp[qV]),au (by simp[qV])];unfold noS;rw[dL,au ⟨h1,rfl⟩]
def still{t:Q2}{s:bY}(a:tZ [2] t)(h1:s.st≠1):∃e,fC t s=(s,[],e):=by
 unfold fC;split;rotate_left
 ·exact⟨_,rfl⟩
 next e=>
 have h:=jI.1 (a _ e);unfold wJ;rw[dL,au h];unfold Bl;rw[aj h1];split
 ·exact⟨_,rfl⟩
 ·exact⟨_,rfl⟩
def ayM{V:Int}{ok:Bool}{p q:bY}(h:pV V ok p q){t:Q2}(w:MF V p q t):pV V ok (fC t p).1 q/\nO p q (fC t p).1 q/\∀u∈(fC t p).2.1,Ef (fC t p).1 u:=by
 have none:∀e,fC t p=(p,[],e)->pV V ok (fC t p).1 q/\nO p q (fC t p).1 q/\∀u∈(fC t p).2.1,Ef (fC t p).1 u:=by intro e n;rw[n];exact⟨h,nO.self p q,λu c=>by cases c⟩
 have d:∀g:List Int,tZ g t->(∀k∈g,k∈([5,6,7,8]:List Int))->(p.st≠1\/(8:Int)∉g)->pV V ok (fC t p).1 q/\nO p q (fC t p).1 q/\∀u∈(fC t p).2.1,Ef (fC t p).1 u:=by
  intro g a x f;have m:=ajG h.iT g a x f;obtain⟨y,z⟩:=h.ajH m.ok m.mn m.mx m.name m.first m.st m.ver;refine⟨y,z,λu c=>?_⟩;obtain⟨s,g3,A⟩:=m.said u c;refine⟨A,.inr ⟨m.st.trans s,?_⟩⟩;rcases g3 with g3|g3
  ·exact Oa g3 λk a=>by rw[jI.1 a];simp
  ·exact Oa g3 λk a=>by rw[jI.1 a];simp
 rcases w.2 with⟨i,j⟩|⟨i,o⟩|⟨j,a⟩|⟨s,a⟩
 ·by_cases f:p.st=1
  ·rw[i,ayL h j f];obtain⟨e,-⟩:=h.q2 j;obtain⟨B,D,r,l⟩:=h.Ph e;exact⟨⟨⟨h.iT.mn,h.iT.mx,h.iT.le,h.iT.name,⟨by simp only;omega,l⟩,⟨r,l,h.iT.rc.good,h.iT.rc.ep,h.iT.rc.no⟩,h.iT.kp⟩,h.mF,h.pf,h.qf,h.pn,h.qn,h.com,.inr (.inr (.inl rfl)),h.qs,λ_=>⟨e,rfl,j⟩,h.q2,λe=>absurd rfl e,h.qz,(λe=>by simp at e),h.q3⟩,⟨rfl,rfl,λ_=>rfl,λe=>ah,id,id⟩,λu c=>by cases c⟩
  ·have a:tZ [2] (MK V):=by obtain⟨e,-⟩:=h.q2 j;obtain⟨B,D,r,l⟩:=h.Ph e;exact(Fg (b:=pW V KD) (v:=1) (by rw[Zy r l];simp) (by simp[pW]) (by simp[pW])).1
   obtain⟨e,n⟩:=still a f;exact none e (by rw[i];exact n)
 ·by_cases f:p.st=1
  ·rw[i,ayO h o f];have e:=h.q3 o;exact⟨⟨⟨h.iT.mn,h.iT.mx,h.iT.le,h.iT.name,h.iT.ver,h.iT.rc,h.iT.kp⟩,h.mF,h.pf,h.qf,h.pn,h.qn,h.com,.inr (.inr (.inr rfl)),h.qs,(λe=>by simp at e),h.q2,λ_=>h.pz ah,h.qz,λ_=>o,h.q3⟩,⟨rfl,rfl,λe=>ah,λ_=>rfl,id,id⟩,λu c=>by cases c⟩
  ·have a:tZ [8] OH:=(Fg (b:=qV) (v:=1) (by rw[ak7];simp) (by simp[qV]) (by simp[qV])).1;rw[<-i]at a;exact d [8] a (λk a=>by rw[jI.1 a];simp) (.inl f)
 ·exact d [5,6,7] a (λk a=>by simp at a⊢;omega) (.inr aA)
 ·exact d [8] a (λk a=>by rw[jI.1 a];simp) (.inl ah)
def Fin(ok:Bool)(p q:bY):Prop:=if ok=true then p.st=2/\q.st=2 else p.st=3/\q.st=3
def nO.fin{ok:Bool}{p q p' q':bY}(l:nO p q p' q')(h:Fin ok p q):Fin ok p' q':=by
 unfold Fin at h⊢;split
 ·next c=>rw[au c]at h;exact⟨l.p2 h.1,l.q2 h.2⟩
 ·next c=>rw[aj c]at h;exact⟨l.p3 h.1,l.q3 h.2⟩
def aa3(t:Q2)(s:bY):(fC t s).2.1.length<=1:=by
 unfold fC;split;rotate_left
 ·simp
 unfold wJ mg Bl mM qH noS;repeat' split
 all_goals first|exact alv _ _|simp
def ac0(s:bY):(jA s).1.length<=1:=by
 unfold jA;repeat' split
 all_goals first|exact alv _ _|simp
def Wx(t:Q2)(s:bY):(fC t s).1.mn=s.mn/\(fC t s).1.mx=s.mx/\(fC t s).1.name=s.name/\(fC t s).1.first=s.first:=by
 unfold fC;split;rotate_left
 ·exact⟨rfl,rfl,rfl,rfl⟩
 unfold wJ mg Bl mM qH noS;repeat' split
 all_goals exact⟨rfl,rfl,rfl,rfl⟩
def kX(s:bY):Q3:=[.zq s.st,.zq s.ver,.zq s.vs,.b s.sm,.zu s.h.1,.l (s.h.2.map row),.l (s.k.map sn),.zu s.b]
def newS(a c:Int)(n:Q2)(f:Bool):bY:=⟨a,c,n,f,0,0,1,false,zS,[],0⟩
def ajS{a c:Int}{n:Q2}{f:Bool}(h1:1<=a)(b:a<=c)(d:c<=3)(e:n.length<=256):kS (newS a c n f):=
 ⟨h1,d,b,e,by simp[newS],⟨by simp[newS],by simp[newS],DW.good,by simp[newS,zS],λ_=>rfl⟩,Kp.nil⟩
def alZ(k:List Sn)(d:Kp k)(v b:GV):∀(m i:Nat),i+m=k.length->
 TT.lim 51 [.l (k.map sn),.zq (k.length:Int),.zq (i:Int),v,b,.l ((k.take i).map sn)]=some [.zq 0,.l (k.map sn)]
 |0,i,hi=>by have e:¬((i:Int)<k.length):=ah;rw[lS ah];refine aB ?_;simp[e]
 |m+1,i,hi=>by
  have p:=d.len;have a:i<k.length:=ah;have e:(i:Int)<k.length:=ah;have j:IntKind.i64.wrap ((i:Int)+1)=((i+1:Nat):Int):=by rw[wrap64 ah ah];omega
  have h:=alZ k d v b m (i+1) ah;have l:=(d.tb _ (gY a)).good;have n:=OO k[i] l;have f:at2 2 (some (.l (k.map sn))) (some (.zq (i:Int)))=some (sn k[i]):=by rw[dA,lM,tY,iO,bV a];rfl
  have c:EL (some (.l (k.map sn))) (some (.zq (i:Int)))=some (.zq (i:Int)):=by rw[jQ,au ⟨ah,by rw[gG];omega⟩]
  have g:Gl 2 32 (some (.l ((k.take i).map sn))) (some (.l [sn k[i]]))=some (.l ((k.take (i+1)).map sn)):=by
   rw[nY,au]
   ·rw[Ue,bV a,nP];rfl
   ·refine⟨rfl,?_,?_⟩<;>simp only[gG,lZ,ig,kF]<;>omega
  rw[<-j]at h;generalize q:k[i]=x at *;have o:GV.g [.zu x.1,.l (x.2.map row)]=sn x:=rfl;generalize(k.take (i+1)).map sn=r,(k.take i).map sn=s,k.map sn=t,(k.length:Int)=u at *;generalize(i:Int)=w at *;refine aB ?_;simp[-jQ,-dA,e,f,c,o,n,g,h]
def aDE(k:List Sn)(c:Kp k)(v b:GV):TT.lim 50 [v,.l (k.map sn),b]=some [.zq 0,.l (k.map sn)]:=by
 have h:=alZ k c v b k.length 0 ah;have a:((k.map sn).length:Int)=(k.length:Int):=by rw[gG]
 simp only[Uh,jU,rY]at h;generalize k.map sn=d,(k.length:Int)=e at *;refine aB ?_;simp[a,h]
def aAw(v s:GV)(h:Sn)(a:bZ h.2):TT.lim 52 [v,s,.zu h.1,.l (h.2.map row)]=some [.zq 0,.zu h.1,.l (h.2.map row)]:=by have b:=OO h a;have c:GV.g [.zu h.1,.l (h.2.map row)]=sn h:=rfl;refine aB ?_;simp[c,b]
def Yd(s:bY)(a:kS s):TT.lim 49 (cZ s)=some [.zq 0,.zu s.h.1,.l (s.h.2.map row),.l (s.k.map sn)]:=by have b:=aDE s.k a.kp (.zq s.vs) (.zu s.b);have c:=aAw (.zq s.vs) (.b s.sm) s.h a.rc.good;unfold cZ;refine aB ?_;simp[b,c]
def aym{m:aQ}{b:List aK}{s:bY}(d:sF m b)(a:kS s):kS (wJ m b s).1:=by
 unfold wJ;by_cases e:m.kind=1
 ·rw[au e];have j:=a.mn;have k:=a.mx;have l:=@aaf s.mn s.mx m.min m.max;unfold mg;repeat' split
  all_goals first|exact a|exact⟨a.mn,a.mx,a.le,a.name,a.ver,a.rc,a.kp⟩|skip
  next n o r t u p=>
  have c:(kG s.mn s.mx m.min m.max).2=true:=by
   cases h:(kG s.mn s.mx m.min m.max).2 with
   |true=>rfl
   |false=>exact absurd (.inl h) p
  obtain⟨v,w,x,y⟩:=l c;exact⟨a.mn,a.mx,a.le,a.name,⟨by simp only;omega,by simp only;omega⟩,⟨by simp only;omega,by simp only;omega,a.rc.good,a.rc.ep,a.rc.no⟩,a.kp⟩
 rw[aj e];by_cases f:m.kind=2
 ·rw[au f];have j:=a.mn;have k:=a.mx;unfold Bl;repeat' split
  all_goals first|exact a|exact⟨a.mn,a.mx,a.le,a.name,a.ver,a.rc,a.kp⟩|skip
  next n o=>
  exact⟨a.mn,a.mx,a.le,a.name,⟨by simp only;omega,by simp only;omega⟩,⟨by simp only;omega,by simp only;omega,a.rc.good,a.rc.ep,a.rc.no⟩,a.kp⟩
 rw[aj f];by_cases g:m.kind=5\/m.kind=6
 ·rw[au g];unfold mM;split
  ·obtain⟨q,-,-⟩:=XR a.rc (gK m b s.vs) m.kind m.epoch m.base m.t d.t d.body.epoch;exact⟨a.mn,a.mx,a.le,a.name,a.ver,q,a.kp⟩
  ·exact a
 rw[aj g];by_cases i:m.kind=7
 ·rw[au i];unfold qH;split
  ·exact⟨a.mn,a.mx,a.le,a.name,a.ver,a.rc,Zx a.kp⟩
  ·exact a
 rw[aj i];split
 ·unfold noS;repeat' split
  all_goals first|exact a|exact⟨a.mn,a.mx,a.le,a.name,a.ver,a.rc,a.kp⟩
 ·exact a
def NT{t:Q2}{s:bY}(a:kS s):kS (fC t s).1:=by
 unfold fC;split
 ·exact aym (Vw t (jr s)) a
 ·exact a
def zL(x:UInt8)(b:Nat):UInt8:=UInt8.ofNat (x.toNat ^^^ b)
def am5(x:UInt8)(b:Nat)(c:b<256):dh .xor .u8 (x.toNat:Int) (b:Int)=some (.i .u8 ((zL x b).toNat:Int)):=by
 show some (GV.i IntKind.u8 (IntKind.u8.wrap ((BitVec.ofInt 8 (x.toNat:Int) ^^^ BitVec.ofInt 8 (b:Int)).toNat:Int)))=_
 have d:=x.toNat_lt;have a:x.toNat ^^^ b<256:=Nat.xor_lt_two_pow (n:=8) d c;have o1:(BitVec.ofInt 8 (x.toNat:Int)).toNat=x.toNat:=by rw[vS];omega
 have e:(BitVec.ofInt 8 (b:Int)).toNat=b:=by rw[vS];omega
 rw[BitVec.toNat_xor,o1,e,TN];unfold zL;rw[ae3,PN a];generalize x.toNat ^^^ b=N at *;congr 2;omega
def alK{u:Q2}{k:Nat}(b:k<u.length)(y:UInt8):EL (some (.l (dH u))) (some (.zq (k:Int)))=some (.zq (k:Int))/\at2 1 (some (.l (dH u))) (some (.zq (k:Int)))=some (.i .u8 ((u.getD k 0).toNat:Int))/\
 FU 1 0 (some (.l (dH u))) (some (.zq (k:Int))) (some [.i .u8 (y.toNat:Int)])=some (.l (dH (u.set k y))):=by
 have c:(dH u).length=u.length:=by simp[dH]
 have a:(dH u)[k]? =some (.i .u8 ((u.getD k 0).toNat:Int)):=by
  have e:u.getD k 0=u[k]:=by simp[List.getD,bV b]
  rw[e];unfold dH;rw[iO,bV b];rfl
 refine⟨?_,?_,?_⟩
 ·rw[jQ,au ⟨ah,by rw[c];omega⟩]
 ·rw[dA,lM,tY,a];rfl
 ·rw[vN,au ⟨ah,rfl⟩,tY,a];simp only[AU];rw[au (show(GV.i IntKind.u8 ((u.getD k 0).toNat:Int)).cells.length=1 from rfl)];simp only[GV.put,iH];congr 2;unfold dH;rw[Zb]
