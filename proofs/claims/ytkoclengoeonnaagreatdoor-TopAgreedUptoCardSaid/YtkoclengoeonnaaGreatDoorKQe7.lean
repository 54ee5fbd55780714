/- What the trees compute: plain laws. -/
import Derived.Test.YtkoclengoeonnaaGreatDoorKQe6
set_option linter.all false
namespace Go.Proofs.YtkoclengoeonnaaGreatDoor
open Go Go.aP
set_option maxRecDepth 100000
namespace Q
def YZ(e:Int)(v:GV)(k:List Sn)(n:k.length<=1000):∀m i:Nat,i+m=k.length->
 TT.lim 35 [.zu e,.l (k.map sn),.zq k.length,.zq i,v]=some (ql ((jK e (k.drop i)).map (· +i)))
 |0,i,hi=>by have h0:k.drop i=[]:=gJ;have h:¬((i:Int)<k.length):=ah;refine aB ?_;simp[h,h0,jK,ql]
 |m+1,i,hi=>by
  have a:i<k.length:=ah;have h:((i:Int)<k.length):=ah;have g:=bD ((i:Int)+1);have l:TT.lim 35 [.zu e,.l (k.map sn),.zq k.length,.zq ((i:Int)+1),v]=_:=YZ e v k n m (i+1) ah;have f:k.drop i=k[i]::k.drop (i+1):=gW a;rw[f];by_cases c:k[i].1=e
  ·have d:ql ((jK e (k[i]::k.drop (i+1))).map (· +i))=[.zq 0,.zq (i:Int)]:=by unfold jK;rw[Xx,au (by simpa using c)];simp[ql]
   rw[d];have b:(k[i].1=e)=True:=eq_true c;clear c l;refine aB ?_;simp[-List.getElem_cons_drop,h,a,b,g]
  ·have d:ql ((jK e (k[i]::k.drop (i+1))).map (· +i))=ql ((jK e (k.drop (i+1))).map (· +(i+1))):=by
    unfold jK;rw[Xx,aj (by simpa using c)];cases List.findIdx? (λs:Sn=>decide (s.1=e)) (k.drop (i+1))with
    |none=>rfl
    |some j=>simp only[gU,ql];congr 3;omega
   rw[d];generalize ql ((jK e (k.drop (i+1))).map (· +(i+1)))=R at *;have b:(k[i].1=e)=False:=eq_false c;clear c d;refine aB ?_;simp[-List.getElem_cons_drop,h,a,b,g,l]
def aqL(e:Int)(v:GV)(k:List Sn)(b:k.length<=1000)(c:jK e k=none):
 TT.lim 34 [.zu e,v,.l (k.map sn)]=some [.zq 0,.zq 0,.b false]:=by
 have a:TT.lim 35 [.zu e,.l (k.map sn),.zq k.length,.zq 0,v]=_:=YZ e v k b k.length 0 ah;rw[dD,c]at a;simp only[adx,ql]at a;refine aB ?_;simp[a]
def aqN(e:Int)(v:GV)(k:List Sn)(b:k.length<=1000)(j:Nat)(c:jK e k=some j):
 TT.lim 34 [.zu e,v,.l (k.map sn)]=some [.zq 0,.zq (j:Int),.b true]:=by
 have a:TT.lim 35 [.zu e,.l (k.map sn),.zq k.length,.zq 0,v]=_:=YZ e v k b k.length 0 ah;rw[dD,c]at a;simp only[gU,ql,nR]at a;refine aB ?_;simp[a]
def auS(v:Int)(k:List Sn)(b:Int)(i:Kp k):
 TT.lim 29 [.zq v,.l (k.map sn),.zu b]=some (Gp (nY v k b)):=by
 have A:=i.len;unfold nY;cases r:k.getLast? with
 |none=>obtain rfl:=last_none r;have d:=atA (.zq v) (.zu b);refine aB ?_;simp[d,Gp]
 |some l=>
  obtain⟨m,x,y,a⟩:=last_at r;have d:=atz (.zq v) (.zu b) k m l x ah y (i.tb l a).good;simp only;by_cases c:l.1=b
  ·rw[au c];have o:(l.1=b)=True:=eq_true c;clear c;refine aB ?_;simp[d,o,Gp]
  rw[aj c];cases p:jK b k with
  |none=>have e:=aqL b (.zq v) k ah p;refine aB ?_;simp[d,c,e,Gp,full]
  |some j=>
   have e:=aqN b (.zq v) k ah j p;obtain⟨s,n,-,B⟩:=Uf p;have q:s∈k:=rX n;simp only[n];have f:(j:Int)<k.length:=ah;by_cases g:2<=v
   ·rw[au g];have t:=apL s l (i.tb s q).good (i.tb l a).good;have u:GV.g [.zu s.1,.l (s.2.map row)]=sn s:=rfl;have w:GV.g [.zu l.1,.l (l.2.map row)]=sn l:=rfl;generalize oZ s l=D at *;obtain⟨⟨d1,d2,d3⟩,d4⟩:=D;by_cases h:d4=0
    ·rw[aj (by simpa using h)];have z:(d4=0)=True:=eq_true h;subst h;refine aB ?_;simp[d,c,e,g,n,f,u,w,t,Gp]
    ·rw[au h];refine aB ?_;simp[d,c,e,g,n,f,u,w,t,Gp,h]
   ·rw[aj g];refine aB ?_;simp[d,c,e,g,Gp,full]
def Y0(e:Int)(v b:GV)(k:List Sn)(o:k.length<=1000):∀m i:Nat,i+m=k.length->
 TT.lim 191 [.zu e,.l (k.map sn),.zq k.length,.zq i,v,b]=some (ql ((jK e (k.drop i)).map (· +i)))
 |0,i,hi=>by have h0:k.drop i=[]:=gJ;have h:¬((i:Int)<k.length):=ah;refine aB ?_;simp[h,h0,jK,ql]
 |m+1,i,hi=>by
  have a:i<k.length:=ah;have h:((i:Int)<k.length):=ah;have l:=bD ((i:Int)+1);have n:TT.lim 191 [.zu e,.l (k.map sn),.zq k.length,.zq ((i:Int)+1),v,b]=_:=Y0 e v b k o m (i+1) ah;have g:k.drop i=k[i]::k.drop (i+1):=gW a;rw[g];by_cases d:k[i].1=e
  ·have f:ql ((jK e (k[i]::k.drop (i+1))).map (· +i))=[.zq 0,.zq (i:Int)]:=by unfold jK;rw[Xx,au (by simpa using d)];simp[ql]
   rw[f];have c:(k[i].1=e)=True:=eq_true d;clear d n;refine aB ?_;simp[-List.getElem_cons_drop,h,a,c,l]
  ·have f:ql ((jK e (k[i]::k.drop (i+1))).map (· +i))=ql ((jK e (k.drop (i+1))).map (· +(i+1))):=by
    unfold jK;rw[Xx,aj (by simpa using d)];cases List.findIdx? (λs:Sn=>decide (s.1=e)) (k.drop (i+1))with
    |none=>rfl
    |some j=>simp only[gU,ql];congr 3;omega
   rw[f];generalize ql ((jK e (k.drop (i+1))).map (· +(i+1)))=R at *;have c:(k[i].1=e)=False:=eq_false d;clear d f;refine aB ?_;simp[-List.getElem_cons_drop,h,a,c,l,n]
def aqM(e:Int)(v b:GV)(k:List Sn)(c:k.length<=1000)(d:jK e k=none):
 TT.lim 190 [.zu e,v,.l (k.map sn),b]=some [.zq 0,.zq 0,.b false]:=by
 have a:TT.lim 191 [.zu e,.l (k.map sn),.zq k.length,.zq 0,v,b]=_:=Y0 e v b k c k.length 0 ah;rw[dD,d]at a;simp only[adx,ql]at a;refine aB ?_;simp[a]
def aqO(e:Int)(v b:GV)(k:List Sn)(c:k.length<=1000)(j:Nat)(d:jK e k=some j):
 TT.lim 190 [.zu e,v,.l (k.map sn),b]=some [.zq 0,.zq (j:Int),.b true]:=by
 have a:TT.lim 191 [.zu e,.l (k.map sn),.zq k.length,.zq 0,v,b]=_:=Y0 e v b k c k.length 0 ah;rw[dD,d]at a;simp only[gU,ql,nR]at a;refine aB ?_;simp[a]
def ak5(e:Int)(v:GV)(k:List Sn)(b:Int)(f:k.length<=1000):
 TT.lim 189 [.zu e,v,.l (k.map sn),.zu b]=some [.zq 0,.b (Dw e k b).1,.l ((Dw e k b).2.1.map sn),.zu (Dw e k b).2.2]:=by
 unfold Dw;by_cases a:e<=b
 ·rw[au a];refine aB ?_;simp[a]
 ·rw[aj a];cases c:jK e k with
  |none=>have d:=aqM e v (.zu b) k f c;refine aB ?_;simp[a,d]
  |some j=>
   have d:=aqO e v (.zu b) k f j c;obtain⟨x,-,-,m⟩:=Uf c;have g:=atU (k:=k) (i:=j) ah;have h:=aAc (k.drop j);have l:2*(k.drop j).length*32<=281474976710656/\(k.drop j).length<=281474976710656:=by rw[fF];omega
   show _=some [_,_,GV.l ((k.drop j).map sn),_]
   generalize k.drop j=R at *;refine aB ?_;simp[-nI,-List.all_eq_true,-List.all_map,a,d,g,h,l]
def Ee(a x:Int):Int:=if a<x then x else a
def yG(c y:Int):Int:=if y<c then y else c
def gY(a c x y:Int):Int×Bool:=if yG c y<Ee a x then(0,false)else(yG c y,true)
def aeP(a c x y:Int):TT.lim 166 [.g [.zu a,.zu c],.g [.zu x,.zu y]]=some [.zu (gY a c x y).1,.b (gY a c x y).2]:=by
 have e:∀p q:Int,TT.lim 168 [.l [.g [.zu x,.zu y]],.zq 1,.zq 1,.zu p,.zu q]=some [.zq 0,.zu p,.zu q]:=by intro p q;refine aB ?_;simp
 have d:TT.lim 168 [.l [.g [.zu x,.zu y]],.zq 1,.zq 0,.zu a,.zu c]=some [.zq 0,.zu (Ee a x),.zu (yG c y)]:=by have h:=e (Ee a x) (yG c y);have w:IntKind.i64.wrap 1=1:=rfl;refine aB ?_;simp[w];exact h
 have f:TT.lim 167 [.l [.g [.zu a,.zu c],.g [.zu x,.zu y]]]=some [.zu (gY a c x y).1,.b (gY a c x y).2]:=by
  unfold gY;by_cases b:yG c y<Ee a x
  ·rw[au b];refine aQ ?_;simp[d,b]
  ·rw[aj b];refine aQ ?_;simp[d,b]
 refine aQ ?_;simp[f]
def kE(b:aW)(v:Int):We:=if(xg b [] v).2=0 then[(xg b [] v).1]else[]
def QB{b:aW}(c:A8 b [])(v:Int):TT.lim 50 [iH b [],.zq v]=some [.l ((kE b v).map .s)]:=by
 have a:=av2 c v;have a:TT.lim 51 [iH b [],.zq v]=some [.s (xg b [] v).1,.zq (xg b [] v).2]:=a;unfold kE;generalize xg b [] v=E at *;obtain⟨t,e⟩:=E;by_cases h:e=0
 ·rw[au h];subst h;refine aQ ?_;simp[kM,a]
 ·rw[aj h];refine aQ ?_;simp[kM,a,h]
def ajd(b:aW)(v:Int):(kE b v).length<=1:=by unfold kE;split<;>simp
structure dh where
 mn:Int
 mx:Int
 name:Q0
 first:Bool
 st:Int
 ver:Int
 vs:Int
 sm:Bool
 h:Sn
 k:List Sn
 b:Int
structure lH(s:dh):Prop where
 mn:1<=s.mn
 mx:s.mx<=3
 le:s.mn<=s.mx
 name:s.name.length<=256
 ver:0<=s.ver/\s.ver<=3
 rc:Rec s.vs s.sm s.h
 kp:Kp s.k
def eG(s:dh):Q1:=[.zu s.mn,.zu s.mx,.s s.name,.b s.first,.zq s.st,.zq s.ver,.zq s.vs,.b s.sm,.zu s.h.1,.l (s.h.2.map row),.l (s.k.map sn),.zu s.b]
def QV{b:aW}(a:tX b)(c:b.d=[])(d:gV b.t)(h1:b.name.length<=600)(e:b.region=[])(f:b.note=[]):A8 b []:=
 ⟨⟨a,by rw[c];rfl,d,by simp only[dX],aA⟩,⟨h1,by rw[e];simp,by rw[f];simp⟩,by simp[dA],by simp[wL]⟩
def JO(m:Tm):aW:=SA m.1 m.2.1 m.2.2.1 m.2.2.2
def jr(s:dh):We×Int:=
 if s.st=2 then(if(nY s.vs s.k s.b).2=0 then(kE (JO (nY s.vs s.k s.b).1) s.ver,2)else([],2))
 else if s.first=true then(if s.st=3 then([],3)else(kE (sK s.mn s.mx s.name) 1,1))else([],s.st)
def asl{a c:Int}{n:Q0}(b:0<=a/\a<18446744073709551616)(d:0<=c/\c<18446744073709551616)(e:n.length<=600):A8 (sK a c n) []:=by refine QV ?_ rfl GX.good e rfl rfl;refine⟨?_,?_,b,d,?_,?_,?_,?_,?_,?_,?_,?_,?_,?_,?_,?_,?_,?_,?_,?_,?_,?_⟩<;>first|(simp only[sK];omega)|simp[sK,tZ,Rows]
def aBi{v:Int}{k:List Sn}{b:Int}(c:Kp k):A8 (JO (nY v k b).1) []:=by obtain⟨d,e,f,a⟩:=auU (v:=v) (b:=b) c;exact QV (alv d e f a.rows) rfl a (by simp[JO,SA]) rfl rfl
def abp(s:dh)(d:lH s):TT.lim 28 (eG s)=some [.zq 0,.l ((jr s).1.map .s),.zq (jr s).2]:=by
 have i:=auS s.vs s.k s.b d.kp;have p:=d.mn;have q:=d.mx;have r:=d.le;have t:=d.name;have m:TT.lim 50 [.g [.zq 1,.zu 0,.zu s.mn,.zu s.mx,.zu 0,.zu 0,.zu 0,.zu 0,.zu 0,.zu 0,.zu 0,.zu 0,.zu 0,.zu 0,.zu 0,.zu 0,.zq 0,.b false,.s s.name,.s [],.s [],.l [],.l [],.l []],.zq 1]=some [.l ((kE (sK s.mn s.mx s.name) 1).map .s)]:=QB (asl (a:=s.mn) (c:=s.mx) (n:=s.name) ah ah ah) 1;have k:=QB (aBi (v:=s.vs) (b:=s.b) d.kp) s.ver;unfold jr;unfold eG;generalize nY s.vs s.k s.b=M at *;have k:TT.lim 50 [.g [.zq M.1.1,.zu 0,.zu 0,.zu 0,.zu 0,.zu 0,.zu 0,.zu 0,.zu 0,.zu 0,.zu M.1.2.1,.zu M.1.2.2.1,.zu 0,.zu 0,.zu 0,.zu 0,.zq 0,.b false,.s [],.s [],.s [],.l [],.l (M.1.2.2.2.map row),.l []],.zq s.ver]=some [.l ((kE (JO M.1) s.ver).map .s)]:=k;generalize kE (sK s.mn s.mx s.name) 1=Y,kE (JO M.1) s.ver=W at *;simp only[Gp]at i;by_cases f:s.st=2
 ·rw[au f];have g:(s.st=2)=True:=eq_true f;by_cases e:M.2=0
  ·rw[au e];have u:(M.2=0)=True:=eq_true e;rw[e]at i;refine aB ?_;simp[g,i,k]
  ·rw[aj e];refine aB ?_;simp[g,i,e]
 rw[aj f];by_cases h:s.first=true
 ·rw[au h];by_cases j:s.st=3
  ·rw[au j];have l:(s.st=3)=True:=eq_true j;refine aB ?_;simp[f,h,l]
  ·rw[aj j];refine aB ?_;simp[f,h,j,m]
 ·rw[aj h];have o:s.first=false:=by simpa using h
  refine aB ?_;simp[f,o]
def oW(v:Int)(n:Q0):aW:={jl with kind:=2,chosen:=v,name:=n}
def oN:aW:={jl with kind:=8,code:=16}
def alb{v:Int}{n:Q0}(a:0<=v/\v<18446744073709551616)(b:n.length<=600):A8 (oW v n) []:=by refine QV ?_ rfl GX.good b rfl rfl;refine⟨?_,?_,?_,?_,a,?_,?_,?_,?_,?_,?_,?_,?_,?_,?_,?_,?_,?_,?_,?_,?_,?_⟩<;>first|(simp only[oW];omega)|simp[oW,jl,tZ,Rows]
def axD:A8 oN []:=by refine QV ?_ rfl GX.good (by simp[oN,jl]) rfl rfl;refine⟨?_,?_,?_,?_,?_,?_,?_,?_,?_,?_,?_,?_,?_,?_,?_,?_,?_,?_,?_,?_,?_,?_⟩<;>simp[oN,jl,tZ,Rows]
def adL(s:dh)(a:lH s)(b:0<=s.ver/\s.ver<=3):TT.lim 169 (eG s)=some [.zq 0,.l ((kE (oW s.ver s.name) 1).map .s)]:=by have e:=a.name;have c:=G7 (n:=s.ver) b.1 ah;have d:TT.lim 50 [.g [.zq 2,.zu 0,.zu 0,.zu 0,.zu s.ver,.zu 0,.zu 0,.zu 0,.zu 0,.zu 0,.zu 0,.zu 0,.zu 0,.zu 0,.zu 0,.zu 0,.zq 0,.b false,.s s.name,.s [],.s [],.l [],.l [],.l []],.zq 1]=some [.l ((kE (oW s.ver s.name) 1).map .s)]:=QB (alb (v:=s.ver) (n:=s.name) ah ah) 1;unfold eG;generalize kE (oW s.ver s.name) 1=Y at *;refine aB ?_;simp[c,d]
def amE{a c x y:Int}(h:(gY a c x y).2=true):Ee a x<=(gY a c x y).1/\(gY a c x y).1=yG c y:=by
 unfold gY at h⊢;split
 ·next b=>rw[au b]at h;cases h
 ·exact⟨by simp only;omega,rfl⟩
def Yu{a c x y:Int}(h:(gY a c x y).2=true):a<=(gY a c x y).1/\x<=(gY a c x y).1/\(gY a c x y).1<=c/\(gY a c x y).1<=y:=by obtain⟨b,d⟩:=amE h;generalize(gY a c x y).1=z at *;unfold Ee at b;unfold yG at d;split at b<;>split at d<;>omega
def oL(m:aW)(s:dh):dh×We×Int:=
 if s.first=true then(s,[],22)else if m.min<1 then(s,[],18)else if m.max<m.min then(s,[],18)else if 255<m.max then(s,[],18)else
 if s.st=2 then(if(gY s.mn s.mx m.min m.max).2=true/\(gY s.mn s.mx m.min m.max).1=s.ver then(s,kE (oW s.ver s.name) 1,0)else(s,[],22))
 else if(gY s.mn s.mx m.min m.max).2=false\/s.st=3 then({s with st:=3},kE oN 1,16)
 else({s with st:=2,ver:=(gY s.mn s.mx m.min m.max).1,vs:=(gY s.mn s.mx m.min m.max).1},kE (oW (gY s.mn s.mx m.min m.max).1 s.name) 1,0)
def asi(m:aW)(y:List aK)(s:dh)(z:m.kind=1)(a:lH s):TT.lim 165 ((iH m (aI y)).cells++eG s)=some [.zq 0,.l ((oL m s).2.1.map .s),.zq (oL m s).2.2,.zq (oL m s).1.st,.zq (oL m s).1.ver,.zq (oL m s).1.vs]:=by
 have i:=aeP s.mn s.mx m.min m.max;have A:=@Yu s.mn s.mx m.min m.max;have x:TT.lim 50 [.g [.zq 8,.zu 0,.zu 0,.zu 0,.zu 0,.zu 0,.zu 0,.zu 0,.zu 0,.zu 0,.zu 0,.zu 0,.zu 0,.zu 0,.zu 16,.zu 0,.zq 0,.b false,.s [],.s [],.s [],.l [],.l [],.l []],.zq 1]=some [.l ((kE oN 1).map .s)]:=QB axD 1;have r:=adL s a a.ver;have k:=λ(v:Int)(h:1<=v/\v<=3)=>adL {s with st:=2,ver:=v,vs:=v} ⟨a.mn,a.mx,a.le,a.name,⟨by simp only;omega,h.2⟩,⟨h.1,h.2,a.rc.good,a.rc.ep,a.rc.no⟩,a.kp⟩ ⟨by simp only;omega,h.2⟩;have E:=a.mn;have F:=a.mx;have B:=a.ver;have l:=G7 (n:=s.ver) B.1 ah;rw[dS];unfold oL;simp only[eG,bI,bf]at r k⊢;generalize gY s.mn s.mx m.min m.max=C,kE oN 1=G at *;rw[z];by_cases p:s.first=true
 ·rw[au p];refine aB ?_;simp[p]
 rw[aj p];have o:s.first=false:=by simpa using p
 rw[o]at r k;simp only[o];by_cases b:m.min<1
 ·rw[au b];refine aB ?_;simp[b]
 rw[aj b];by_cases d:m.max<m.min
 ·rw[au d];refine aB ?_;simp[b,d]
 rw[aj d];by_cases f:255<m.max
 ·rw[au f];refine aB ?_;simp[b,d,f]
 rw[aj f];by_cases j:s.st=2
 ·rw[au j];have t:(s.st=2)=True:=eq_true j;by_cases c:C.2=true
  ·by_cases g:C.1=s.ver
   ·rw[au ⟨c,g⟩];have u:(C.1=s.ver)=True:=eq_true g;refine aB ?_;simp[b,d,f,t,i,c,u,l,r]
   ·rw[aj (λh=>g h.2)];refine aB ?_;simp[b,d,f,t,i,c,g,l]
  ·rw[aj (λh=>c h.1)];have q:C.2=false:=by simpa using c
   refine aB ?_;simp[b,d,f,t,i,q]
 rw[aj j];by_cases c:C.2=true;rotate_left
 ·have q:C.2=false:=by simpa using c
  rw[au (.inl q)];refine aB ?_;simp[b,d,f,j,i,q,x]
 by_cases g:s.st=3
 ·rw[au (.inr g)];have u:(s.st=3)=True:=eq_true g;refine aB ?_;simp[b,d,f,j,i,c,u,x]
 rw[aj (λh=>h.elim (λe=>by rw[c]at e;cases e) g)];obtain⟨H,I,J,L⟩:=A c;have k:=k C.1 ⟨ah,ah⟩;have w:=bD (C.1);have D:1<=C.1:=ah;have g3:C.1<=3:=ah;refine aB ?_;simp[b,d,f,j,i,c,g,w,D,g3,k]
def D8(m:aW)(s:dh):dh×We×Int:=
 if s.st=1 then(if s.mn<=m.chosen/\m.chosen<=s.mx then({s with st:=2,ver:=m.chosen,vs:=m.chosen},[],0)else({s with st:=3},[],16))
 else if s.st=2/\s.first=true/\m.chosen=s.ver then(s,[],0)else(s,[],22)
def lZ(m:aW)(a:List aK)(s:dh):dh×We×Int:=
 if s.st=2 then
  ({s with sm:=(og (je m a s.vs) s.vs m.kind m.epoch m.base m.t s.sm s.h).2.2.1,h:=(og (je m a s.vs) s.vs m.kind m.epoch m.base m.t s.sm s.h).2.2.2},
   if(og (je m a s.vs) s.vs m.kind m.epoch m.base m.t s.sm s.h).1.1=0 then[]else kE (jo (og (je m a s.vs) s.vs m.kind m.epoch m.base m.t s.sm s.h).1) s.ver,
   (og (je m a s.vs) s.vs m.kind m.epoch m.base m.t s.sm s.h).2.1)
 else(s,[],22)
def qM(m:aW)(s:dh):dh×We×Int:=
 if s.st=2 then({s with k:=(Dw m.epoch s.k s.b).2.1,b:=(Dw m.epoch s.k s.b).2.2},[],0)else(s,[],22)
def noS(m:aW)(s:dh):dh×We×Int:=
 if s.st=2 then({s with b:=0},[],0)else if s.st=1/\m.code=16 then({s with st:=3},[],16)else(s,[],22)
def vU(m:aW)(a:List aK)(s:dh):dh×We×Int:=
 if m.kind=1 then oL m s else if m.kind=2 then D8 m s else if m.kind=5\/m.kind=6 then lZ m a s else if m.kind=7 then qM m s else if m.kind=8 then noS m s else(s,[],15)
def kW(s:dh):Int:=if s.st=2 then s.ver else 1
def dZ(t:Q0)(s:dh):dh×We×Int:=
 if(kH t (kW s)).2.2=0 then vU (kH t (kW s)).1 (kH t (kW s)).2.1 s else(s,[],(kH t (kW s)).2.2)
def Py(r:dh×We×Int):Q1:=[.zq 0,.l (r.2.1.map .s),.zq r.2.2,.zq r.1.st,.zq r.1.ver,.zq r.1.vs,.b r.1.sm,.zu r.1.h.1,.l (r.1.h.2.map row),.l (r.1.k.map sn),.zu r.1.b]
def take_zero(c v kd b d:Int)(t:List Row)(e:Bool)(h:Sn)(h0:(og c v kd b d t e h).1.1=0):(og c v kd b d t e h).1=(0,0,0,0):=by
 unfold og at h0⊢;split
 ·rfl
 next f=>
 rw[aj f]at h0;split
 ·next a=>
  rw[au a]at h0;split at h0<;>simp at h0
 next a=>
 rw[aj a]at h0;split
 ·next g=>
  rw[au g]at h0;split at h0
  ·simp at h0
  ·split at h0<;>simp at h0
 ·rfl
def aAd(m:aW)(a:List aK)(s:dh)(f:ru m a)(q:lH s):TT.lim 170 ((iH m (aI a)).cells++eG s)=some [.zq 0,.l ((lZ m a s).2.1.map .s),.zq (lZ m a s).2.2,.b (lZ m a s).1.sm,.zu (lZ m a s).1.h.1,.l ((lZ m a s).1.h.2.map row)]:=by
 have k:=aBg m a s.vs s.sm s.h f.body f.t f.f8 f.len q.rc.good;obtain⟨y,u,z⟩:=abD q.rc (je m a s.vs) m.kind m.epoch m.base m.t f.t f.body.epoch;have r:=take_zero (je m a s.vs) s.vs m.kind m.epoch m.base m.t s.sm s.h;unfold lZ;by_cases n:s.st=2;rotate_left
 ·rw[aj n,dS];simp only[eG,bI,bf];refine aB ?_;simp[n]
 rw[au n];have l:(s.st=2)=True:=eq_true n;rw[dS]at k⊢;simp only[eG,bI,bf]at k⊢;generalize og (je m a s.vs) s.vs m.kind m.epoch m.base m.t s.sm s.h=R at *;obtain⟨⟨b,g,i,j⟩,e,A,h⟩:=R;have t:A8 (jo (b,g,i,j)) []:=QV u rfl GX.good (by simp[jo]) rfl rfl;have p:TT.lim 50 [.g [.zq b,.zu 0,.zu 0,.zu 0,.zu 0,.zu 0,.zu 0,.zu 0,.zu 0,.zu 0,.zu g,.zu 0,.zu 0,.zu 0,.zu i,.zu j,.zq 0,.b false,.s [],.s [],.s [],.l [],.l [],.l []],.zq s.ver]=some [.l ((kE (jo (b,g,i,j)) s.ver).map .s)]:=QB t s.ver;have o:TT.lim 177 [.g [.zq b,.zu 0,.zu 0,.zu 0,.zu 0,.zu 0,.zu 0,.zu 0,.zu 0,.zu 0,.zu g,.zu 0,.zu 0,.zu 0,.zu i,.zu j,.zq 0,.b false,.s [],.s [],.s [],.l [],.l [],.l []],.g [.zq 0,.zu 0,.zu 0,.zu 0,.zu 0,.zu 0,.zu 0,.zu 0,.zu 0,.zu 0,.zu 0,.zu 0,.zu 0,.zu 0,.zu 0,.zu 0,.zq 0,.b false,.s [],.s [],.s [],.l [],.l [],.l []]]=some [.b (dL (jo (b,g,i,j)=jl/\([]:List aK)=[]))]:=by
  have:=t.msg.aus (fc:=[]) G8 (by simp[dA]);have fn:aI []=[]:=by simp only[aI]
  rw[fn]at this;exact this
 generalize kE (jo (b,g,i,j)) s.ver=W at *;simp only[xH]at k;simp only at r⊢;by_cases c:b=0
 ·rw[au c];have d:=r c;injection d with v d
  injection d with w d
  injection d with x d
  subst v w x d;rw[lK ⟨rfl,rfl⟩]at o;refine aB ?_;simp[l,k,o]
 ·rw[aj c];rw[kJ (λh=>c (uH aW.kind h.1))]at o;refine aB ?_;simp[l,k,o,p]
def ak6(m:aW)(c:List aK)(s:dh)(d:lH s):TT.lim 188 ((iH m (aI c)).cells++eG s)=some [.zq 0,.zq (qM m s).2.2,.l ((qM m s).1.k.map sn),.zu (qM m s).1.b]:=by
 have e:=ak5 m.epoch (.zq s.vs) s.k s.b (by have:=d.kp.len;omega);unfold qM;by_cases a:s.st=2;rotate_left
 ·rw[aj a,dS];simp only[eG,bI,bf];refine aB ?_;simp[a]
 rw[au a];have b:(s.st=2)=True:=eq_true a;rw[dS];simp only[eG,bI,bf];generalize Dw m.epoch s.k s.b=A at *;refine aB ?_;simp[b,e]
def ash(m:aW)(s:dh):(oL m s).1.sm=s.sm/\(oL m s).1.h=s.h/\(oL m s).1.k=s.k/\(oL m s).1.b=s.b/\(oL m s).1.mn=s.mn/\(oL m s).1.mx=s.mx/\(oL m s).1.name=s.name/\(oL m s).1.first=s.first:=by
 unfold oL;repeat' split
 all_goals simp
set_option maxHeartbeats 2000000 in
def Zg(t:Q0)(s:dh)(O:t.length<=140737488351232)(w:lH s):TT.lim 133 (.s t::eG s)=some (Py (dZ t s)):=by
 have b:=decode_ok t (kW s) O;have N:=YG t (kW s);unfold dZ;generalize kH t (kW s)=D at *;obtain⟨m,c,e⟩:=D;simp only at b N⊢;have l:=asi m c s;have i:=aAd m c s N w;have x:=ak6 m c s w;have p:=ash m s;have I:=w.ver;have y:=G7 (n:=s.ver) I.1 ah;have P:=w.mn;have R:=w.mx;rw[dS]at l i x;unfold kW at b;unfold Py;have j:s.st=2\/¬s.st=2:=Q7 _;by_cases z:e=0;rotate_left
 ·rw[aj z];simp only[eG];rcases j with a|a
  ·rw[au a]at b;have q:(s.st=2)=True:=eq_true a;refine aB ?_;simp[q,b,z]
  ·rw[aj a]at b;refine aB ?_;simp[a,b,z]
 rw[au z];subst z;unfold vU;by_cases k:m.kind=1
 ·rw[au k];have l:=l k w;obtain⟨S,T,U,V,-⟩:=p;rw[S,T,U,V];generalize oL m s=H at *;simp only[eG,bI,bf]at l⊢;rw[k]at l;have W:(m.kind=1)=True:=eq_true k;rcases j with a|a
  ·rw[au a]at b;have q:(s.st=2)=True:=eq_true a;rw[a]at l;refine aB ?_;simp[a,b,k,l]
  ·rw[aj a]at b;refine aB ?_;simp[a,b,k,l]
 rw[aj k];by_cases d:m.kind=2
 ·rw[au d];have X:(m.kind=2)=True:=eq_true d;unfold D8;simp only[eG];rcases j with a|a
  ·rw[au a]at b;rw[eX];have q:(s.st=2)=True:=eq_true a;by_cases A:s.first=true
   ·by_cases B:m.chosen=s.ver
    ·rw[au ⟨a,A,B⟩];have J:(m.chosen=s.ver)=True:=eq_true B;refine aB ?_;simp[a,b,d,A,J,y]
    ·rw[aj (λh=>B h.2.2)];refine aB ?_;simp[a,b,d,A,B,y]
   ·rw[aj (λh=>A h.2.1)];have Y:s.first=false:=by simpa using A
    refine aB ?_;simp[a,b,d,Y]
  ·rw[aj a]at b;by_cases f:s.st=1
   ·rw[au f];by_cases r1:s.mn<=m.chosen
    ·by_cases r2:m.chosen<=s.mx
     ·rw[au ⟨r1,r2⟩];have Z:1<=m.chosen:=ah;have g3:m.chosen<=3:=ah;have L:=bD (m.chosen);refine aB ?_;simp[f,b,d,r1,r2,L,Z,g3]
     ·rw[aj (λh=>r2 h.2)];refine aB ?_;simp[f,b,d,r1,r2]
    ·rw[aj (λh=>r1 h.1)];refine aB ?_;simp[f,b,d,r1]
   ·rw[aj f,aj (λh=>a h.1)];refine aB ?_;simp[f,a,b,d]
 rw[aj d];by_cases r:m.kind=5
 ·rw[au (.inl r)];have g:(lZ m c s).1.st=s.st/\(lZ m c s).1.ver=s.ver/\(lZ m c s).1.vs=s.vs/\(lZ m c s).1.k=s.k/\(lZ m c s).1.b=s.b:=by unfold lZ;split<;>simp
  rw[g.1,g.2.1,g.2.2.1,g.2.2.2.1,g.2.2.2.2];generalize lZ m c s=H at *;simp only[eG,bI,bf]at i⊢;rw[r]at i;rcases j with a|a
  ·rw[au a]at b;rw[a]at i;refine aB ?_;simp[a,b,r,i]
  ·rw[aj a]at b;refine aB ?_;simp[a,b,r,i]
 by_cases u:m.kind=6
 ·rw[au (.inr u)];have g:(lZ m c s).1.st=s.st/\(lZ m c s).1.ver=s.ver/\(lZ m c s).1.vs=s.vs/\(lZ m c s).1.k=s.k/\(lZ m c s).1.b=s.b:=by unfold lZ;split<;>simp
  rw[g.1,g.2.1,g.2.2.1,g.2.2.2.1,g.2.2.2.2];generalize lZ m c s=H at *;simp only[eG,bI,bf]at i⊢;rw[u]at i;rcases j with a|a
  ·rw[au a]at b;rw[a]at i;refine aB ?_;simp[a,b,u,i]
  ·rw[aj a]at b;refine aB ?_;simp[a,b,u,i]
 rw[aj (λh=>h.elim r u)];by_cases v:m.kind=7
 ·rw[au v];have g:(qM m s).1.st=s.st/\(qM m s).1.ver=s.ver/\(qM m s).1.vs=s.vs/\(qM m s).1.sm=s.sm/\(qM m s).1.h=s.h/\(qM m s).2.1=[]:=by unfold qM;split<;>simp
  rw[g.1,g.2.1,g.2.2.1,g.2.2.2.1,g.2.2.2.2.1,g.2.2.2.2.2];generalize qM m s=H at *;simp only[eG,bI,bf]at x⊢;rw[v]at x;rcases j with a|a
  ·rw[au a]at b;rw[a]at x;refine aB ?_;simp[a,b,v,x]
  ·rw[aj a]at b;refine aB ?_;simp[a,b,v,x]
 rw[aj v];by_cases o:m.kind=8
 ·rw[au o];unfold noS;simp only[eG];rcases j with a|a
  ·rw[au a]at b;rw[au a];refine aB ?_;simp[a,b,o]
  ·rw[aj a]at b;rw[aj a];by_cases f:s.st=1
   ·by_cases E:m.code=16
    ·rw[au ⟨f,E⟩];have M:(m.code=16)=True:=eq_true E;refine aB ?_;simp[f,b,o,M]
    ·rw[aj (λh=>E h.2)];refine aB ?_;simp[f,b,o,E]
   ·rw[aj (λh=>f h.1)];refine aB ?_;simp[f,a,b,o]
 ·rw[aj o];simp only[eG];by_cases F:m.kind=3
  ·rcases j with a|a
   ·rw[au a]at b;refine aB ?_;simp[a,b,F]
   ·rw[aj a]at b;refine aB ?_;simp[a,b,F]
  by_cases G:m.kind=4
  ·rcases j with a|a
   ·rw[au a]at b;refine aB ?_;simp[a,b,G]
   ·rw[aj a]at b;refine aB ?_;simp[a,b,G]
  rcases j with a|a
  ·rw[au a]at b;refine aB ?_;simp[a,b,k,d,F,G,r,u,v,o]
  ·rw[aj a]at b;refine aB ?_;simp[a,b,k,d,F,G,r,u,v,o]
def qY(a:List Int)(t:Q0):Prop:=∀w,(kH t w).2.2=0->(kH t w).1.kind∈a
def apJ{t x:Q0}{k:Nat}(a:k<18446744073709551616)(b:t=bg k++x)(w:Int)(h:(kH t w).2.2=0):(kH t w).1.kind=k:=by
 have d:(aF t).1=k:=by rw[b,aku k x a]
 unfold kH at h⊢;split
 ·next c=>rw[au c]at h;exact absurd h aX
 next c=>
 rw[aj c]at h;split
 ·next c=>rw[au c]at h;exact absurd h aX
 next c=>
 rw[aj c]at h;split
 ·next c=>rw[au c]at h;exact absurd h aX
 next c=>
 rw[aj c]at h;split
 ·next c=>rw[au c]at h;exact absurd h c
 next c=>
 rw[aj c]at h;split
 ·next c=>rw[au c]at h;exact absurd h aX
 next c=>
 rw[aj c]at h;split
 ·next c=>rw[au c]at h;exact absurd h aX
 next c=>
 rw[aj c]at h;split
 ·next c=>rw[au c]at h;exact absurd h aX
 next c=>
 rw[aj c]at h;split
 ·next c=>rw[au c]at h;exact absurd h c
 next c=>
 rw[aj c]at h;simp only at h⊢;split
 ·next c=>rw[au c]at h;exact absurd h c
 next c=>
 rw[aj c]at h;split
 ·next c=>rw[au c]at h;exact absurd h c
 ·rw[ae2 _ _ _ (by simpa using c),d]
def Nh{b:aW}{v:Int}{t:Q0}(h:t∈kE b v)(h0:0<=b.kind)(i:b.kind<=8):qY [b.kind] t/\t.length<=65536:=by
 unfold kE at h;split at h;rotate_left
 ·cases h
 next e=>
 have d:=FQ b [] v;obtain rfl:=oz.1 h;refine⟨λw a=>?_,d⟩;unfold xg at e a⊢;split at e;rotate_left
 ·next c=>exact absurd e c
 next c=>
 rw[au c]at a⊢;split at e
 ·exact absurd e aX
 next f=>
 rw[aj f]at a⊢;simp only at a⊢;have g:=apJ (t:=bytesV b [] v) (k:=b.kind.toNat) ah rfl w a;rw[g];simp[Dj h0]
structure Mid(s:dh)(r:dh×We×Int):Prop where
 ok:lH r.1
 mn:r.1.mn=s.mn
 mx:r.1.mx=s.mx
 name:r.1.name=s.name
 first:r.1.first=s.first
 st:r.1.st=s.st
 ver:r.1.ver=s.ver
 said:∀u∈r.2.1,s.st=2/\(qY [7] u\/qY [8] u)/\u.length<=65536
def Vm{s:dh}(a:lH s)(e:Int):Mid s (s,[],e):=⟨a,rfl,rfl,rfl,rfl,rfl,rfl,λu h=>by cases h⟩
def aj3(c v kd a b:Int)(t:List Row)(d:Bool)(h:Sn):(og c v kd a b t d h).1.1=0\/(og c v kd a b t d h).1.1=7\/(og c v kd a b t d h).1.1=8:=by
 unfold og;repeat' split
 all_goals simp
def auo{m:aW}{d:List aK}{s:dh}(i:ru m d)(a:lH s)(j:m.kind∈([5,6,7,8]:List Int))(h1:s.st≠1\/m.kind≠8):Mid s (vU m d s):=by
 have j:m.kind=5\/m.kind=6\/m.kind=7\/m.kind=8:=by simpa using j
 unfold vU;rw[eX,eX];by_cases c:m.kind=5\/m.kind=6
 ·rw[au c];unfold lZ;split;rotate_left
  ·exact Vm a 22
  next l=>
  obtain⟨n,r,t⟩:=abD a.rc (je m d s.vs) m.kind m.epoch m.base m.t i.t i.body.epoch;have o:=aj3 (je m d s.vs) s.vs m.kind m.epoch m.base m.t s.sm s.h;generalize og (je m d s.vs) s.vs m.kind m.epoch m.base m.t s.sm s.h=R at *;refine⟨⟨a.mn,a.mx,a.le,a.name,a.ver,n,a.kp⟩,rfl,rfl,rfl,rfl,rfl,rfl,?_⟩;intro u g;simp only at g;split at g
  ·cases g
  next p=>
  have b:(jo R.1).kind=R.1.1:=rfl;obtain⟨f,q⟩:=Nh g (by rw[b];omega) (by rw[b];omega);rw[b]at f;refine⟨l,?_,q⟩;rcases o with e|e|e
  ·exact absurd e p
  ·rw[e]at f;exact .inl f
  ·rw[e]at f;exact .inr f
 rw[aj c];by_cases k:m.kind=7
 ·rw[au k];unfold qM;split;rotate_left
  ·exact Vm a 22
  ·exact⟨⟨a.mn,a.mx,a.le,a.name,a.ver,a.rc,adJ a.kp⟩,rfl,rfl,rfl,rfl,rfl,rfl,λu h=>by cases h⟩
 rw[aj k,mW];unfold noS;split
 ·exact⟨⟨a.mn,a.mx,a.le,a.name,a.ver,a.rc,a.kp⟩,rfl,rfl,rfl,rfl,rfl,rfl,λu h=>by cases h⟩
 ·rw[aj (λe=>h1.elim (λh=>h e.1) (λh=>h ah))];exact Vm a 22
def ahL{t:Q0}{s:dh}(d:lH s)(a:List Int)(f:qY a t)(b:∀k∈a,k∈([5,6,7,8]:List Int))(h1:s.st≠1\/(8:Int)∉a):Mid s (dZ t s):=by
 have g:=YG t (kW s);unfold dZ;split
 ·next e=>
  have h:=f (kW s) e;exact auo g d (b _ h) (h1.imp id λn c=>n (c▸h))
 ·exact Vm d _
abbrev zh:Q0:=[102,105,114,115,116]
abbrev Gt:Q0:=[111,116,104,101,114]
def helloT(a b:Int):Q0:=(xg (sK a b zh) [] 1).1
def Dx(v:Int):Q0:=(xg (oW v Gt) [] 1).1
def Gw:Q0:=(xg oN [] 1).1
def aiX:kE oN 1=[Gw]:=by kernel_rfl
def aiW:kH Gw 1=(oN,[],0):=by kernel_rfl
def three{v:Int}(h1:1<=v)(a:v<=3):v=1\/v=2\/v=3:=ah
def RZ{v:Int}(h1:1<=v)(a:v<=3):kE (oW v Gt) 1=[Dx v]:=by
 rcases three h1 a with rfl|rfl|rfl
 ·kernel_rfl
 ·kernel_rfl
 ·kernel_rfl
def ak4{v:Int}(h1:1<=v)(a:v<=3):kH (Dx v) 1=(oW v Gt,[],0):=by
 rcases three h1 a with rfl|rfl|rfl
 ·kernel_rfl
 ·kernel_rfl
 ·kernel_rfl
def six{a c:Int}(h1:1<=a)(b:a<=c)(d:c<=3):(a=1/\c=1)\/(a=1/\c=2)\/(a=1/\c=3)\/(a=2/\c=2)\/(a=2/\c=3)\/(a=3/\c=3):=ah
def Zn{a c:Int}(h1:1<=a)(b:a<=c)(d:c<=3):kE (sK a c zh) 1=[helloT a c]:=by
 rcases six h1 b d with⟨rfl,rfl⟩|⟨rfl,rfl⟩|⟨rfl,rfl⟩|⟨rfl,rfl⟩|⟨rfl,rfl⟩|⟨rfl,rfl⟩
 ·kernel_rfl
 ·kernel_rfl
 ·kernel_rfl
 ·kernel_rfl
 ·kernel_rfl
 ·kernel_rfl
def asg{a c w:Int}(h1:1<=a)(d:a<=c)(e:c<=3)(w1:1<=w)(b:w<=3):kH (helloT a c) w=(sK a c zh,[],0):=by
 rcases six h1 d e with⟨rfl,rfl⟩|⟨rfl,rfl⟩|⟨rfl,rfl⟩|⟨rfl,rfl⟩|⟨rfl,rfl⟩|⟨rfl,rfl⟩
 ·rcases three w1 b with rfl|rfl|rfl
  ·kernel_rfl
  ·kernel_rfl
  ·kernel_rfl
 ·rcases three w1 b with rfl|rfl|rfl
  ·kernel_rfl
  ·kernel_rfl
  ·kernel_rfl
 ·rcases three w1 b with rfl|rfl|rfl
  ·kernel_rfl
  ·kernel_rfl
  ·kernel_rfl
 ·rcases three w1 b with rfl|rfl|rfl
  ·kernel_rfl
  ·kernel_rfl
  ·kernel_rfl
 ·rcases three w1 b with rfl|rfl|rfl
  ·kernel_rfl
  ·kernel_rfl
  ·kernel_rfl
 ·rcases three w1 b with rfl|rfl|rfl
  ·kernel_rfl
  ·kernel_rfl
  ·kernel_rfl
structure nC(V:Int)(ok:Bool)(p q:dh):Prop where
 iU:lH p
 pU:lH q
 pf:p.first=true
 qf:q.first=false
 pn:p.name=zh
 qn:q.name=Gt
 com:gY p.mn p.mx q.mn q.mx=(V,ok)
 ps:p.st=0\/p.st=1\/p.st=2\/p.st=3
 qs:q.st=0\/q.st=2\/q.st=3
 p2:p.st=2->ok=true/\p.ver=V/\q.st=2
 q2:q.st=2->ok=true/\q.ver=V
 pz:p.st≠2->p.ver=0
 qz:q.st≠2->q.ver=0
 p3:p.st=3->q.st=3
 q3:q.st=3->ok=false
def AZ(p:dh)(t:Q0):Prop:=t.length<=65536/\(t=helloT p.mn p.mx\/(p.st=2/\qY [5,6,7,8] t))
def Hy(V:Int)(p q:dh)(t:Q0):Prop:=t.length<=65536/\((t=Dx V/\q.st=2)\/(t=Gw/\q.st=3)\/(q.st=2/\qY [5,6,7] t)\/(p.st=2/\qY [8] t))
structure nP(p q p' q':dh):Prop where
 mn:p'.mn=p.mn
 mx:p'.mx=p.mx
 p2:p.st=2->p'.st=2
 p3:p.st=3->p'.st=3
 q2:q.st=2->q'.st=2
 q3:q.st=3->q'.st=3
def nP.tp{p q a q':dh}(l:nP p q a q'){t:Q0}(h:AZ p t):AZ a t:=by unfold AZ at h⊢;rw[l.mn,l.mx];exact⟨h.1,h.2.imp id λe=>⟨l.p2 e.1,e.2⟩⟩
def nP.tq{V:Int}{p q a q':dh}(l:nP p q a q'){t:Q0}(h:Hy V p q t):Hy V a q' t:=
 ⟨h.1,h.2.imp (λe=>⟨e.1,l.q2 e.2⟩) λh=>h.imp (λe=>⟨e.1,l.q3 e.2⟩) λh=>h.imp (λe=>⟨l.q2 e.1,e.2⟩) λe=>⟨l.p2 e.1,e.2⟩⟩
def PY{b a:List Int}{t:Q0}(h:qY b t)(c:∀k∈b,k∈a):qY a t:=λw e=>c _ (h w e)
def amD(a c x y:Int):gY a c x y=gY x y a c:=by
 have b:Ee a x=Ee x a:=by unfold Ee;split<;>split<;>omega
 have d:yG c y=yG y c:=by unfold yG;split<;>split<;>omega
 unfold gY;rw[b,d]
def nC.JY{V:Int}{ok:Bool}{p q:dh}(h:nC V ok p q)(e:ok=true):p.mn<=V/\V<=p.mx/\1<=V/\V<=3:=by
 have a:=h.com;have c:(gY p.mn p.mx q.mn q.mx).2=true:=by rw[a];exact e
 have b:=Yu c;rw[a]at b;simp only at b;have:=h.iU.mn;have:=h.iU.mx;omega
def nC.auq{V:Int}{ok:Bool}{p q:dh}(h:nC V ok p q){a:dh}(h0:lH a)(c:a.mn=p.mn)(d:a.mx=p.mx)(g:a.name=p.name)(i:a.first=p.first)(b:a.st=p.st)(f:a.ver=p.ver):nC V ok a q/\nP p q a q:=
 ⟨⟨h0,h.pU,i▸h.pf,h.qf,g▸h.pn,h.qn,by rw[c,d];exact h.com,by rw[b];exact h.ps,h.qs,by rw[b,f];exact h.p2,h.q2,by rw[b,f];exact h.pz,h.qz,by rw[b];exact h.p3,h.q3⟩,⟨c,d,λe=>b.trans e,λe=>b.trans e,id,id⟩⟩
def nC.aur{V:Int}{ok:Bool}{p q:dh}(h:nC V ok p q){q':dh}(h0:lH q')(c:q'.mn=q.mn)(d:q'.mx=q.mx)(f:q'.name=q.name)(g:q'.first=q.first)(a:q'.st=q.st)(b:q'.ver=q.ver):nC V ok p q'/\nP p q p q':=
 ⟨⟨h.iU,h0,h.pf,g▸h.qf,h.pn,f▸h.qn,by rw[c,d];exact h.com,h.ps,by rw[a];exact h.qs,λe=>⟨(h.p2 e).1,(h.p2 e).2.1,a.trans (h.p2 e).2.2⟩,by rw[a,b];exact h.q2,h.pz,by rw[a,b];exact h.qz,λe=>a.trans (h.p3 e),by rw[a];exact h.q3⟩,⟨rfl,rfl,id,id,λe=>a.trans e,λe=>a.trans e⟩⟩
def nP.self(p q:dh):nP p q p q:=⟨rfl,rfl,id,id,id,id⟩
def nP.trans{p q f q' c d:dh}(a:nP p q f q')(b:nP f q' c d):nP p q c d:=
 ⟨b.mn.trans a.mn,b.mx.trans a.mx,λe=>b.p2 (a.p2 e),λe=>b.p3 (a.p3 e),λe=>b.q2 (a.q2 e),λe=>b.q3 (a.q3 e)⟩
def tu(s:dh):dh:={s with st:=(jr s).2}
def auT{v:Int}{k:List Sn}{b:Int}(h:(nY v k b).2=0):(nY v k b).1.1=5\/(nY v k b).1.1=6:=by
 unfold nY at h⊢;cases a:k.getLast? with
 |none=>rw[a]at h;simp at h
 |some l=>
  rw[a]at h;simp only at h⊢;split
  ·next c=>rw[au c]at h;exact absurd h aX
  next c=>
  rw[aj c]at h;cases e:jK b k with
  |none=>exact .inl rfl
  |some i=>
   rw[e]at h;simp only at h⊢;split;rotate_left
   ·exact .inl rfl
   next f=>
   rw[au f]at h;cases g:k[i]? with
   |none=>exact .inl rfl
   |some s=>
    rw[g]at h;simp only at h⊢;split
    ·next d=>rw[au d]at h;exact absurd h d
    ·exact .inr rfl
def avS{V:Int}{ok:Bool}{p q:dh}(h:nC V ok p q):nC V ok (tu p) q/\nP p q (tu p) q/\∀t∈(jr p).1,AZ (tu p) t:=by
 by_cases c:p.st=2
 ·have e:jr p=(if(nY p.vs p.k p.b).2=0 then(kE (JO (nY p.vs p.k p.b).1) p.ver,2)else([],2)):=by unfold jr;rw[au c]
  have j:(jr p).2=p.st:=by rw[e,c];split<;>rfl
  have d:tu p=p:=by unfold tu;rw[j]
  rw[d];refine⟨h,nP.self p q,λt a=>?_⟩;rw[e]at a;split at a;rotate_left
  ·cases a
  next l=>
  have m:=auT (v:=p.vs) (k:=p.k) (b:=p.b) l;have e:(JO (nY p.vs p.k p.b).1).kind=(nY p.vs p.k p.b).1.1:=rfl;obtain⟨i,n⟩:=Nh a (by rw[e];omega) (by rw[e];omega);rw[e]at i;exact⟨n,.inr ⟨c,PY i λk g=>by rw[oz.1 g];rcases m with e|e<;>rw[e]<;>simp⟩⟩
 by_cases f:p.st=3
 ·have e:jr p=([],3):=by unfold jr;rw[aj c,au h.pf,au f]
  have d:tu p=p:=by unfold tu;rw[e,<-f]
  rw[d,e];exact⟨h,nP.self p q,λt a=>by cases a⟩
 ·have o:=Zn h.iU.mn h.iU.le h.iU.mx;have e:jr p=([helloT p.mn p.mx],1):=by unfold jr;rw[aj c,au h.pf,aj f,h.pn,o]
  have d:tu p ={p with st:=1}:=by unfold tu;rw[e]
  rw[d,e];refine⟨⟨⟨h.iU.mn,h.iU.mx,h.iU.le,h.iU.name,h.iU.ver,h.iU.rc,h.iU.kp⟩,h.pU,h.pf,h.qf,h.pn,h.qn,h.com,.inr (.inl rfl),h.qs,(λe=>by simp at e),h.q2,λ_=>h.pz c,h.qz,(λe=>by simp at e),h.q3⟩,⟨rfl,rfl,λe=>absurd e c,λe=>absurd e f,id,id⟩,λt a=>?_⟩;rw[oz.1 a];exact⟨FQ _ _ _,.inl rfl⟩
def aby{V:Int}{ok:Bool}{p q:dh}(h:nC V ok p q):dZ (helloT p.mn p.mx) q=if ok=true then({q with st:=2,ver:=V,vs:=if q.st=2 then q.vs else V},[Dx V],0)else({q with st:=3},[Gw],16):=by
 have d:1<=kW q/\kW q<=3:=by
  unfold kW;split
  ·next c=>
   obtain⟨l,o⟩:=h.q2 c;have:=h.JY l;omega
  ·omega
 have g:=asg h.iU.mn h.iU.le h.iU.mx d.1 d.2;have r:=h.iU.mn;have s:=h.iU.mx;have t:=h.iU.le;have b:gY q.mn q.mx p.mn p.mx=(V,ok):=by rw[amD];exact h.com
 unfold dZ;rw[g,au rfl];unfold vU;rw[au (show(sK p.mn p.mx zh).kind=1 from rfl)];unfold oL;have b:gY q.mn q.mx (sK p.mn p.mx zh).min (sK p.mn p.mx zh).max=(V,ok):=b;rw[h.qf,aj aA,aj (show ¬(sK p.mn p.mx zh).min<1 from λe=>by have e:p.mn<1:=e;omega),aj (show ¬(sK p.mn p.mx zh).max<(sK p.mn p.mx zh).min from λe=>by have e:p.mx<p.mn:=e;omega),aj (show ¬255<(sK p.mn p.mx zh).max from λe=>by have e:255<p.mx:=e;omega),b];cases a:ok with
 |true=>
  subst a;obtain⟨-,-,i,j⟩:=h.JY rfl;simp only[reduceIte];by_cases c:q.st=2
  ·rw[au c,au ⟨trivial,(h.q2 c).2.symm⟩,(h.q2 c).2,h.qn,RZ i j,au c];congr 1;have k:=(h.q2 c).2;have f:=h.qf;have n:=h.qn;clear b g d h;cases q;simp only at c k f n;subst c k f n;rfl
  ·have m:q.st≠3:=λe=>by have:=h.q3 e;cases this
   rw[aj c,aj (by simp[m]),h.qn,RZ i j,aj c]
 |false=>
  subst a;have c:q.st≠2:=λe=>by have:=(h.q2 e).1;cases this
  simp only[reduceIte,ig];rw[aj c,au (.inl trivial),aiX]
def axa{V:Int}{ok:Bool}{p q:dh}(h:nC V ok p q){t:Q0}(j:AZ p t):nC V ok p (dZ t q).1/\nP p q p (dZ t q).1/\∀u∈(dZ t q).2.1,Hy V p (dZ t q).1 u:=by
 rcases j.2 with l|⟨f,a⟩
 ·rw[l,aby h];cases b:ok with
  |true=>
   subst b;obtain⟨-,-,n,g⟩:=h.JY rfl;have i:q.st≠3:=λe=>by have:=h.q3 e;cases this
   have o:p.st≠3:=λe=>i (h.p3 e);simp only[reduceIte];refine⟨⟨h.iU,⟨h.pU.mn,h.pU.mx,h.pU.le,h.pU.name,⟨by simp only;omega,g⟩,?_,h.pU.kp⟩,h.pf,h.qf,h.pn,h.qn,h.com,h.ps,.inr (.inl rfl),λe=>⟨rfl,(h.p2 e).2.1,rfl⟩,λ_=>⟨rfl,rfl⟩,h.pz,λe=>absurd rfl e,λe=>absurd e o,(λe=>by simp at e)⟩,⟨rfl,rfl,id,id,λ_=>rfl,λe=>absurd e i⟩,λu d=>?_⟩
   ·simp only;split
    ·exact h.pU.rc
    ·exact⟨n,g,h.pU.rc.good,h.pU.rc.ep,h.pU.rc.no⟩
   ·rw[oz.1 d];exact⟨FQ _ _ _,.inl ⟨rfl,rfl⟩⟩
  |false=>
   subst b;have c:q.st≠2:=λe=>by have:=(h.q2 e).1;cases this
   have f:p.st≠2:=λe=>by have:=(h.p2 e).1;cases this
   simp only[reduceIte,ig];refine⟨⟨h.iU,⟨h.pU.mn,h.pU.mx,h.pU.le,h.pU.name,h.pU.ver,h.pU.rc,h.pU.kp⟩,h.pf,h.qf,h.pn,h.qn,h.com,h.ps,.inr (.inr rfl),λe=>absurd e f,(λe=>by simp at e),h.pz,λ_=>h.qz c,λ_=>rfl,λ_=>rfl⟩,⟨rfl,rfl,id,id,λe=>absurd e c,λ_=>rfl⟩,λu d=>?_⟩;rw[oz.1 d];exact⟨FQ _ _ _,.inr (.inl ⟨rfl,rfl⟩)⟩
 ·have m:=ahL h.pU [5,6,7,8] a (λk a=>a) (.inl (by have:=h.qs;omega));obtain⟨r,s⟩:=h.aur m.ok m.mn m.mx m.name m.first m.st m.ver;refine⟨r,s,λu d=>?_⟩;obtain⟨v,g3,g4⟩:=m.said u d;refine⟨g4,?_⟩;rw[m.st];rcases g3 with g3|g3
  ·exact .inr (.inr (.inl ⟨v,PY g3 λk a=>by rw[oz.1 a];simp⟩))
  ·exact .inr (.inr (.inr ⟨f,g3⟩))
def ah9{V:Int}{ok:Bool}{p q:dh}(h:nC V ok p q)(a:q.st=2)(h1:p.st=1):dZ (Dx V) p=({p with st:=2,ver:=V,vs:=V},[],0):=by
 obtain⟨e,-⟩:=h.q2 a;obtain⟨b,c,d,f⟩:=h.JY e;have g:=ak4 d f;have i:kW p=1:=by unfold kW;rw[eX]
 unfold dZ;rw[i,g,au rfl];unfold vU;rw[aj (by simp[oW]),au (by simp[oW])];unfold D8;rw[au h1,au (show p.mn<=(oW V Gt).chosen/\(oW V Gt).chosen<=p.mx from⟨b,c⟩)];rfl
def aia{V:Int}{ok:Bool}{p q:dh}(h:nC V ok p q)(b:q.st=3)(h1:p.st=1):dZ Gw p=({p with st:=3},[],16):=by
 have a:kW p=1:=by unfold kW;rw[eX]
 unfold dZ;rw[a,aiW,au rfl];unfold vU;rw[aj (by simp[oN]),aj (by simp[oN]),aj (by simp[oN]),aj (by simp[oN]),au (by simp[oN])];unfold noS;rw[eX,au ⟨h1,rfl⟩]
def still{t:Q0}{s:dh}(a:qY [2] t)(h1:s.st≠1):∃e,dZ t s=(s,[],e):=by
 unfold dZ;split;rotate_left
 ·exact⟨_,rfl⟩
 next e=>
 have h:=oz.1 (a _ e);unfold vU;rw[eX,au h];unfold D8;rw[aj h1];split
 ·exact⟨_,rfl⟩
 ·exact⟨_,rfl⟩
def avQ{V:Int}{ok:Bool}{p q:dh}(h:nC V ok p q){t:Q0}(w:Hy V p q t):nC V ok (dZ t p).1 q/\nP p q (dZ t p).1 q/\∀u∈(dZ t p).2.1,AZ (dZ t p).1 u:=by
 have none:∀e,dZ t p=(p,[],e)->nC V ok (dZ t p).1 q/\nP p q (dZ t p).1 q/\∀u∈(dZ t p).2.1,AZ (dZ t p).1 u:=by intro e n;rw[n];exact⟨h,nP.self p q,λu c=>by cases c⟩
 have d:∀g:List Int,qY g t->(∀k∈g,k∈([5,6,7,8]:List Int))->(p.st≠1\/(8:Int)∉g)->nC V ok (dZ t p).1 q/\nP p q (dZ t p).1 q/\∀u∈(dZ t p).2.1,AZ (dZ t p).1 u:=by
  intro g a x f;have m:=ahL h.iU g a x f;obtain⟨y,z⟩:=h.auq m.ok m.mn m.mx m.name m.first m.st m.ver;refine⟨y,z,λu c=>?_⟩;obtain⟨s,g3,g4⟩:=m.said u c;refine⟨g4,.inr ⟨m.st.trans s,?_⟩⟩;rcases g3 with g3|g3
  ·exact PY g3 λk a=>by rw[oz.1 a];simp
  ·exact PY g3 λk a=>by rw[oz.1 a];simp
 rcases w.2 with⟨i,j⟩|⟨i,o⟩|⟨j,a⟩|⟨s,a⟩
 ·by_cases f:p.st=1
  ·rw[i,ah9 h j f];obtain⟨e,-⟩:=h.q2 j;obtain⟨A,B,r,l⟩:=h.JY e;exact⟨⟨⟨h.iU.mn,h.iU.mx,h.iU.le,h.iU.name,⟨by simp only;omega,l⟩,⟨r,l,h.iU.rc.good,h.iU.rc.ep,h.iU.rc.no⟩,h.iU.kp⟩,h.pU,h.pf,h.qf,h.pn,h.qn,h.com,.inr (.inr (.inl rfl)),h.qs,λ_=>⟨e,rfl,j⟩,h.q2,λe=>absurd rfl e,h.qz,(λe=>by simp at e),h.q3⟩,⟨rfl,rfl,λ_=>rfl,λe=>ah,id,id⟩,λu c=>by cases c⟩
  ·have a:qY [2] (Dx V):=by obtain⟨e,-⟩:=h.q2 j;obtain⟨A,B,r,l⟩:=h.JY e;exact(Nh (b:=oW V Gt) (v:=1) (by rw[RZ r l];simp) (by simp[oW]) (by simp[oW])).1
   obtain⟨e,n⟩:=still a f;exact none e (by rw[i];exact n)
 ·by_cases f:p.st=1
  ·rw[i,aia h o f];have e:=h.q3 o;exact⟨⟨⟨h.iU.mn,h.iU.mx,h.iU.le,h.iU.name,h.iU.ver,h.iU.rc,h.iU.kp⟩,h.pU,h.pf,h.qf,h.pn,h.qn,h.com,.inr (.inr (.inr rfl)),h.qs,(λe=>by simp at e),h.q2,λ_=>h.pz ah,h.qz,λ_=>o,h.q3⟩,⟨rfl,rfl,λe=>ah,λ_=>rfl,id,id⟩,λu c=>by cases c⟩
  ·have a:qY [8] Gw:=(Nh (b:=oN) (v:=1) (by rw[aiX];simp) (by simp[oN]) (by simp[oN])).1;rw[<-i]at a;exact d [8] a (λk a=>by rw[oz.1 a];simp) (.inl f)
 ·exact d [5,6,7] a (λk a=>by simp at a⊢;omega) (.inr aA)
 ·exact d [8] a (λk a=>by rw[oz.1 a];simp) (.inl ah)
def Fin(ok:Bool)(p q:dh):Prop:=if ok=true then p.st=2/\q.st=2 else p.st=3/\q.st=3
def nP.fin{ok:Bool}{p q a q':dh}(l:nP p q a q')(h:Fin ok p q):Fin ok a q':=by
 unfold Fin at h⊢;split
 ·next c=>rw[au c]at h;exact⟨l.p2 h.1,l.q2 h.2⟩
 ·next c=>rw[aj c]at h;exact⟨l.p3 h.1,l.q3 h.2⟩
def Zm(t:Q0)(s:dh):(dZ t s).2.1.length<=1:=by
 unfold dZ;split;rotate_left
 ·simp
 unfold vU oL D8 lZ qM noS;repeat' split
 all_goals first|exact ajd _ _|simp
def abo(s:dh):(jr s).1.length<=1:=by
 unfold jr;repeat' split
 all_goals first|exact ajd _ _|simp
def UA(t:Q0)(s:dh):(dZ t s).1.mn=s.mn/\(dZ t s).1.mx=s.mx/\(dZ t s).1.name=s.name/\(dZ t s).1.first=s.first:=by
 unfold dZ;split;rotate_left
 ·exact⟨rfl,rfl,rfl,rfl⟩
 unfold vU oL D8 lZ qM noS;repeat' split
 all_goals exact⟨rfl,rfl,rfl,rfl⟩
def nM(s:dh):Q1:=[.zq s.st,.zq s.ver,.zq s.vs,.b s.sm,.zu s.h.1,.l (s.h.2.map row),.l (s.k.map sn),.zu s.b]
def newS(a c:Int)(n:Q0)(f:Bool):dh:=⟨a,c,n,f,0,0,1,false,zS,[],0⟩
def Vr{a c:Int}{n:Q0}{f:Bool}(h1:1<=a)(b:a<=c)(d:c<=3)(e:n.length<=256):lH (newS a c n f):=
 ⟨h1,d,b,e,by simp[newS],⟨by simp[newS],by simp[newS],GX.good,by simp[newS,zS],λ_=>rfl⟩,Kp.nil⟩
def ajD(k:List Sn)(d:Kp k)(v b:GV):∀(m i:Nat),i+m=k.length->
 TT.lim 226 [.l (k.map sn),.zq (k.length:Int),.zq (i:Int),v,b,.l ((k.take i).map sn)]=some [.zq 0,.l (k.map sn)]
 |0,i,hi=>by have e:¬((i:Int)<k.length):=ah;rw[kQ ah];refine aB ?_;simp[e]
 |m+1,i,hi=>by
  have p:=d.len;have a:i<k.length:=ah;have e:(i:Int)<k.length:=ah;have j:IntKind.i64.wrap ((i:Int)+1)=((i+1:Nat):Int):=by rw[wrap64 ah ah];omega
  have h:=ajD k d v b m (i+1) ah;have l:=(d.tb _ (iq a)).good;have n:=V7 k[i] l;have f:at2 2 (some (.l (k.map sn))) (some (.zq (i:Int)))=some (sn k[i]):=by rw[dw,mW,xO,jf,bT a];rfl
  have c:BO (some (.l (k.map sn))) (some (.zq (i:Int)))=some (.zq (i:Int)):=by rw[iT,au ⟨ah,by rw[iw];omega⟩]
  have g:Oo 2 32 (some (.l ((k.take i).map sn))) (some (.l [sn k[i]]))=some (.l ((k.take (i+1)).map sn)):=by
   rw[X4,au]
   ·rw[Rj,bT a,ng];rfl
   ·refine⟨rfl,?_,?_⟩<;>simp only[iw,kG,iF,mZ]<;>omega
  rw[<-j]at h;generalize q:k[i]=x at *;have o:GV.g [.zu x.1,.l (x.2.map row)]=sn x:=rfl;generalize(k.take (i+1)).map sn=r,(k.take i).map sn=s,k.map sn=t,(k.length:Int)=u at *;generalize(i:Int)=w at *;refine aB ?_;simp[-iT,-dw,e,f,c,o,n,g,h]
def aAe(k:List Sn)(c:Kp k)(v b:GV):TT.lim 225 [v,.l (k.map sn),b]=some [.zq 0,.l (k.map sn)]:=by
 have h:=ajD k c v b k.length 0 ah;have a:((k.map sn).length:Int)=(k.length:Int):=by rw[iw]
 simp only[Rl,jg,qX]at h;generalize k.map sn=d,(k.length:Int)=e at *;refine aB ?_;simp[a,h]
def axt(v s:GV)(h:Sn)(a:gV h.2):TT.lim 227 [v,s,.zu h.1,.l (h.2.map row)]=some [.zq 0,.zu h.1,.l (h.2.map row)]:=by have b:=V7 h a;have c:GV.g [.zu h.1,.l (h.2.map row)]=sn h:=rfl;refine aB ?_;simp[c,b]
def ajo(s:dh)(a:lH s):TT.lim 224 (eG s)=some [.zq 0,.zu s.h.1,.l (s.h.2.map row),.l (s.k.map sn)]:=by have b:=aAe s.k a.kp (.zq s.vs) (.zu s.b);have c:=axt (.zq s.vs) (.b s.sm) s.h a.rc.good;unfold eG;refine aB ?_;simp[b,c]
def avq{m:aW}{b:List aK}{s:dh}(d:ru m b)(a:lH s):lH (vU m b s).1:=by
 unfold vU;by_cases e:m.kind=1
 ·rw[au e];have j:=a.mn;have k:=a.mx;have l:=@Yu s.mn s.mx m.min m.max;unfold oL;repeat' split
  all_goals first|exact a|exact⟨a.mn,a.mx,a.le,a.name,a.ver,a.rc,a.kp⟩|skip
  next n o r t u p=>
  have c:(gY s.mn s.mx m.min m.max).2=true:=by
   cases h:(gY s.mn s.mx m.min m.max).2 with
   |true=>rfl
   |false=>exact absurd (.inl h) p
  obtain⟨v,w,x,y⟩:=l c;exact⟨a.mn,a.mx,a.le,a.name,⟨by simp only;omega,by simp only;omega⟩,⟨by simp only;omega,by simp only;omega,a.rc.good,a.rc.ep,a.rc.no⟩,a.kp⟩
 rw[aj e];by_cases f:m.kind=2
 ·rw[au f];have j:=a.mn;have k:=a.mx;unfold D8;repeat' split
  all_goals first|exact a|exact⟨a.mn,a.mx,a.le,a.name,a.ver,a.rc,a.kp⟩|skip
  next n o=>
  exact⟨a.mn,a.mx,a.le,a.name,⟨by simp only;omega,by simp only;omega⟩,⟨by simp only;omega,by simp only;omega,a.rc.good,a.rc.ep,a.rc.no⟩,a.kp⟩
 rw[aj f];by_cases g:m.kind=5\/m.kind=6
 ·rw[au g];unfold lZ;split
  ·obtain⟨q,-,-⟩:=abD a.rc (je m b s.vs) m.kind m.epoch m.base m.t d.t d.body.epoch;exact⟨a.mn,a.mx,a.le,a.name,a.ver,q,a.kp⟩
  ·exact a
 rw[aj g];by_cases i:m.kind=7
 ·rw[au i];unfold qM;split
  ·exact⟨a.mn,a.mx,a.le,a.name,a.ver,a.rc,adJ a.kp⟩
  ·exact a
 rw[aj i];split
 ·unfold noS;repeat' split
  all_goals first|exact a|exact⟨a.mn,a.mx,a.le,a.name,a.ver,a.rc,a.kp⟩
 ·exact a
def LY{t:Q0}{s:dh}(a:lH s):lH (dZ t s).1:=by
 unfold dZ;split
 ·exact avq (YG t (kW s)) a
 ·exact a
def vg(x:UInt8)(b:Nat):UInt8:=UInt8.ofNat (x.toNat ^^^ b)
def acJ(x:UInt8)(b:Nat)(c:b<256):bV .xor .u8 (x.toNat:Int) (b:Int)=some (.i .u8 ((vg x b).toNat:Int)):=by
 show some (GV.i IntKind.u8 (IntKind.u8.wrap ((BitVec.ofInt 8 (x.toNat:Int) ^^^ BitVec.ofInt 8 (b:Int)).toNat:Int)))=_
 have d:=x.toNat_lt;have a:x.toNat ^^^ b<256:=Nat.xor_lt_two_pow (n:=8) d c;have o1:(BitVec.ofInt 8 (x.toNat:Int)).toNat=x.toNat:=by rw[tY];omega
 have e:(BitVec.ofInt 8 (b:Int)).toNat=b:=by rw[tY];omega
 rw[BitVec.toNat_xor,o1,e,QW];unfold vg;rw[adB,N9 a];generalize x.toNat ^^^ b=N at *;congr 2;omega
def abQ{u:Q0}{k:Nat}(b:k<u.length)(y:UInt8):BO (some (.l (bQ u))) (some (.zq (k:Int)))=some (.zq (k:Int))/\at2 1 (some (.l (bQ u))) (some (.zq (k:Int)))=some (.i .u8 ((u.getD k 0).toNat:Int))/\
 CX 1 0 (some (.l (bQ u))) (some (.zq (k:Int))) (some [.i .u8 (y.toNat:Int)])=some (.l (bQ (u.set k y))):=by
 have c:(bQ u).length=u.length:=by simp[bQ]
 have a:(bQ u)[k]? =some (.i .u8 ((u.getD k 0).toNat:Int)):=by
  have e:u.getD k 0=u[k]:=by simp[List.getD,bT b]
  rw[e];unfold bQ;rw[jf,bT b];rfl
 refine⟨?_,?_,?_⟩
 ·rw[iT,au ⟨ah,by rw[c];omega⟩]
 ·rw[dw,mW,xO,a];rfl
 ·rw[oh,au ⟨ah,rfl⟩,xO,a];simp only[zN];rw[au (show(GV.i IntKind.u8 ((u.getD k 0).toNat:Int)).cells.length=1 from rfl)];simp only[GV.put,gU];congr 2;unfold bQ;rw[XB]
