/- What the trees compute: plain laws. -/
import Derived.Test.YthchhlenbkefnaaGreatDoorKUe6
set_option linter.all false
namespace Go.Proofs.YthchhlenbkefnaaGreatDoor
open Go Go.aN
set_option maxRecDepth 100000
namespace U
def aac(e:Int)(v:GV)(k:List Sn)(n:k.length<=1000):∀m i:Nat,i+m=k.length->
 TT.lim 215 [.zu e,.l (k.map sn),.zq k.length,.zq i,v]=some (qX ((jR e (k.drop i)).map (· +i)))
 |0,i,hi=>by
  have h0:k.drop i=[]:=ig;have h:¬((i:Int)<k.length):=by omega
  refine au ?_;simp[h,h0,jR,qX]
 |m+1,i,hi=>by
  have a:i<k.length:=by omega
  have h:((i:Int)<k.length):=by omega
  have g:=bF ((i:Int)+1);have l:TT.lim 215 [.zu e,.l (k.map sn),.zq k.length,.zq ((i:Int)+1),v]=_:=aac e v k n m (i+1) (by omega);have f:k.drop i=k[i]::k.drop (i+1):=iC a;rw[f];by_cases c:k[i].1=e
  ·have d:qX ((jR e (k[i]::k.drop (i+1))).map (· +i))=[.zq 0,.zq (i:Int)]:=by unfold jR;rw[Yv,aj (by simpa using c)];simp[qX]
   rw[d];have b:(k[i].1=e)=True:=eq_true c;clear c l;refine au ?_;simp[-List.getElem_cons_drop,h,a,b,g]
  ·have d:qX ((jR e (k[i]::k.drop (i+1))).map (· +i))=qX ((jR e (k.drop (i+1))).map (· +(i+1))):=by
    unfold jR;rw[Yv,ah (by simpa using c)];cases List.findIdx? (λs:Sn=>decide (s.1=e)) (k.drop (i+1))with
    |none=>rfl
    |some j=>simp only[gZ,qX];congr 3;omega
   rw[d];generalize qX ((jR e (k.drop (i+1))).map (· +(i+1)))=R at *;have b:(k[i].1=e)=False:=eq_false c;clear c d;refine au ?_;simp[-List.getElem_cons_drop,h,a,b,g,l]
def atG(e:Int)(v:GV)(k:List Sn)(b:k.length<=1000)(c:jR e k=none):
 TT.lim 214 [.zu e,v,.l (k.map sn)]=some [.zq 0,.zq 0,.b false]:=by
 have a:TT.lim 215 [.zu e,.l (k.map sn),.zq k.length,.zq 0,v]=_:=aac e v k b k.length 0 (by omega);rw[dN,c]at a;simp only[aex,qX]at a;refine au ?_;simp[a]
def atI(e:Int)(v:GV)(k:List Sn)(b:k.length<=1000)(j:Nat)(c:jR e k=some j):
 TT.lim 214 [.zu e,v,.l (k.map sn)]=some [.zq 0,.zq (j:Int),.b true]:=by
 have a:TT.lim 215 [.zu e,.l (k.map sn),.zq k.length,.zq 0,v]=_:=aac e v k b k.length 0 (by omega);rw[dN,c]at a;simp only[gZ,qX,oL]at a;refine au ?_;simp[a]
def axS(v:Int)(k:List Sn)(b:Int)(i:Kp k):
 TT.lim 213 [.zq v,.l (k.map sn),.zu b]=some (Hg (jT v k b)):=by
 have A:=i.len;unfold jT;cases r:k.getLast? with
 |none=>obtain rfl:=last_none r;have d:=aiw (.zq v) (.zu b);refine au ?_;simp[d,Hg]
 |some l=>
  obtain⟨m,x,y,a⟩:=last_at r;have d:=aiv (.zq v) (.zu b) k m l x (by omega) y (i.tb l a).good;simp only;by_cases c:l.1=b
  ·rw[aj c];have o:(l.1=b)=True:=eq_true c;clear c;refine au ?_;simp[d,o,Hg]
  rw[ah c];cases p:jR b k with
  |none=>have e:=atG b (.zq v) k (by omega) p;refine au ?_;simp[d,c,e,Hg,full]
  |some j=>
   have e:=atI b (.zq v) k (by omega) j p;obtain⟨s,n,-,B⟩:=Jm p;have q:s∈k:=rQ n;simp only[n];have f:(j:Int)<k.length:=by omega
   by_cases g:2<=v
   ·rw[aj g];have t:=asv s l (i.tb s q).good (i.tb l a).good;have u:GV.g [.zu s.1,.l (s.2.map row)]=sn s:=rfl;have w:GV.g [.zu l.1,.l (l.2.map row)]=sn l:=rfl;generalize qB s l=D at *;obtain⟨⟨d1,d2,d3⟩,d4⟩:=D;by_cases h:d4=0
    ·rw[ah (by simpa using h)];have z:(d4=0)=True:=eq_true h;subst h;refine au ?_;simp[d,c,e,g,n,f,u,w,t,Hg]
    ·rw[aj h];refine au ?_;simp[d,c,e,g,n,f,u,w,t,Hg,h]
   ·rw[ah g];refine au ?_;simp[d,c,e,g,Hg,full]
def aad(e:Int)(v b:GV)(k:List Sn)(o:k.length<=1000):∀m i:Nat,i+m=k.length->
 TT.lim 331 [.zu e,.l (k.map sn),.zq k.length,.zq i,v,b]=some (qX ((jR e (k.drop i)).map (· +i)))
 |0,i,hi=>by
  have h0:k.drop i=[]:=ig;have h:¬((i:Int)<k.length):=by omega
  refine au ?_;simp[h,h0,jR,qX]
 |m+1,i,hi=>by
  have a:i<k.length:=by omega
  have h:((i:Int)<k.length):=by omega
  have l:=bF ((i:Int)+1);have n:TT.lim 331 [.zu e,.l (k.map sn),.zq k.length,.zq ((i:Int)+1),v,b]=_:=aad e v b k o m (i+1) (by omega);have g:k.drop i=k[i]::k.drop (i+1):=iC a;rw[g];by_cases d:k[i].1=e
  ·have f:qX ((jR e (k[i]::k.drop (i+1))).map (· +i))=[.zq 0,.zq (i:Int)]:=by unfold jR;rw[Yv,aj (by simpa using d)];simp[qX]
   rw[f];have c:(k[i].1=e)=True:=eq_true d;clear d n;refine au ?_;simp[-List.getElem_cons_drop,h,a,c,l]
  ·have f:qX ((jR e (k[i]::k.drop (i+1))).map (· +i))=qX ((jR e (k.drop (i+1))).map (· +(i+1))):=by
    unfold jR;rw[Yv,ah (by simpa using d)];cases List.findIdx? (λs:Sn=>decide (s.1=e)) (k.drop (i+1))with
    |none=>rfl
    |some j=>simp only[gZ,qX];congr 3;omega
   rw[f];generalize qX ((jR e (k.drop (i+1))).map (· +(i+1)))=R at *;have c:(k[i].1=e)=False:=eq_false d;clear d f;refine au ?_;simp[-List.getElem_cons_drop,h,a,c,l,n]
def atH(e:Int)(v b:GV)(k:List Sn)(c:k.length<=1000)(d:jR e k=none):
 TT.lim 330 [.zu e,v,.l (k.map sn),b]=some [.zq 0,.zq 0,.b false]:=by
 have a:TT.lim 331 [.zu e,.l (k.map sn),.zq k.length,.zq 0,v,b]=_:=aad e v b k c k.length 0 (by omega);rw[dN,d]at a;simp only[aex,qX]at a;refine au ?_;simp[a]
def atJ(e:Int)(v b:GV)(k:List Sn)(c:k.length<=1000)(j:Nat)(d:jR e k=some j):
 TT.lim 330 [.zu e,v,.l (k.map sn),b]=some [.zq 0,.zq (j:Int),.b true]:=by
 have a:TT.lim 331 [.zu e,.l (k.map sn),.zq k.length,.zq 0,v,b]=_:=aad e v b k c k.length 0 (by omega);rw[dN,d]at a;simp only[gZ,qX,oL]at a;refine au ?_;simp[a]
def amV(e:Int)(v:GV)(k:List Sn)(b:Int)(f:k.length<=1000):
 TT.lim 329 [.zu e,v,.l (k.map sn),.zu b]=some [.zq 0,.b (rW e k b).1,.l ((rW e k b).2.1.map sn),.zu (rW e k b).2.2]:=by
 unfold rW;by_cases a:e<=b
 ·rw[aj a];refine au ?_;simp[a]
 ·rw[ah a];cases c:jR e k with
  |none=>have d:=atH e v (.zu b) k f c;refine au ?_;simp[a,d]
  |some j=>
   have d:=atJ e v (.zu b) k f j c;obtain⟨x,-,-,m⟩:=Jm c;have g:=aiR (k:=k) (i:=j) (by omega);have h:=alu (k.drop j);have l:2*(k.drop j).length*32<=281474976710656/\(k.drop j).length<=281474976710656:=by rw[fH];omega
   show _=some [_,_,GV.l ((k.drop j).map sn),_]
   generalize k.drop j=R at *;refine au ?_;simp[-mY,-List.all_eq_true,-List.all_map,a,d,g,h,l]
def EG(a x:Int):Int:=if a<x then x else a
def DC(c y:Int):Int:=if y<c then y else c
def jY(a c x y:Int):Int×Bool:=if DC c y<EG a x then(0,false)else(DC c y,true)
def aoP(a c x y:Int):TT.lim 316 [.g [.zu a,.zu c],.g [.zu x,.zu y]]=some [.zu (jY a c x y).1,.b (jY a c x y).2]:=by
 have e:∀p q:Int,TT.lim 318 [.l [.g [.zu x,.zu y]],.zq 1,.zq 1,.zu p,.zu q]=some [.zq 0,.zu p,.zu q]:=by intro p q;refine au ?_;simp
 have d:TT.lim 318 [.l [.g [.zu x,.zu y]],.zq 1,.zq 0,.zu a,.zu c]=some [.zq 0,.zu (EG a x),.zu (DC c y)]:=by have h:=e (EG a x) (DC c y);have w:IntKind.i64.wrap 1=1:=rfl;refine au ?_;simp[w];exact h
 have f:TT.lim 317 [.l [.g [.zu a,.zu c],.g [.zu x,.zu y]]]=some [.zu (jY a c x y).1,.b (jY a c x y).2]:=by
  unfold jY;by_cases b:DC c y<EG a x
  ·rw[aj b];refine aT ?_;simp[d,b]
  ·rw[ah b];refine aT ?_;simp[d,b]
 refine aT ?_;simp[f]
def jW(b:aO)(v:Int):Wc:=if(wU b [] v).2=0 then[(wU b [] v).1]else[]
def Rz{b:aO}(c:yQ b [])(v:Int):TT.lim 63 [iM b [],.zq v]=some [.l ((jW b v).map .s)]:=by
 have a:=ay0 c v;have a:TT.lim 64 [iM b [],.zq v]=some [.s (wU b [] v).1,.zq (wU b [] v).2]:=a;unfold jW;generalize wU b [] v=E at *;obtain⟨t,e⟩:=E;by_cases h:e=0
 ·rw[aj h];subst h;refine aT ?_;simp[lC,a]
 ·rw[ah h];refine aT ?_;simp[lC,a,h]
def akV(b:aO)(v:Int):(jW b v).length<=1:=by unfold jW;split<;>simp
structure bP where
 mn:Int
 mx:Int
 name:Q0
 first:Bool
 st:Int
 ver:Int
 vs:Int
 sm:Bool
 h:Sn
 k:List Sn
 b:Int
structure kG(s:bP):Prop where
 mn:1<=s.mn
 mx:s.mx<=3
 le:s.mn<=s.mx
 name:s.name.length<=256
 ver:0<=s.ver/\s.ver<=3
 rc:Rec s.vs s.sm s.h
 kp:Kp s.k
def cO(s:bP):Q1:=[.zu s.mn,.zu s.mx,.s s.name,.b s.first,.zq s.st,.zq s.ver,.zq s.vs,.b s.sm,.zu s.h.1,.l (s.h.2.map row),.l (s.k.map sn),.zu s.b]
def OT{b:aO}(a:vk b)(c:b.d=[])(d:dU b.t)(h1:b.name.length<=600)(e:b.region=[])(f:b.note=[]):yQ b []:=
 ⟨⟨a,by rw[c];rfl,d,by simp only[eU],by simp⟩,⟨h1,by rw[e];simp,by rw[f];simp⟩,by simp[dH],by simp[wL]⟩
def Fq(m:Tm):aO:=Uj m.1 m.2.1 m.2.2.1 m.2.2.2
def ji(s:bP):Wc×Int:=
 if s.st=2 then(if(jT s.vs s.k s.b).2=0 then(jW (Fq (jT s.vs s.k s.b).1) s.ver,2)else([],2))
 else if s.first=true then(if s.st=3 then([],3)else(jW (sF s.mn s.mx s.name) 1,1))else([],s.st)
def avw{a c:Int}{n:Q0}(b:0<=a/\a<18446744073709551616)(d:0<=c/\c<18446744073709551616)(e:n.length<=600):yQ (sF a c n) []:=by refine OT ?_ rfl Dz.good e rfl rfl;refine⟨?_,?_,b,d,?_,?_,?_,?_,?_,?_,?_,?_,?_,?_,?_,?_,?_,?_,?_,?_,?_,?_⟩<;>first|(simp only[sF];omega)|simp[sF,sU,Rows]
def alU{v:Int}{k:List Sn}{b:Int}(c:Kp k):yQ (Fq (jT v k b).1) []:=by obtain⟨d,e,f,a⟩:=axU (v:=v) (b:=b) c;exact OT (anq d e f a.rows) rfl a (by simp[Fq,Uj]) rfl rfl
def akj(s:bP)(d:kG s):TT.lim 374 (cO s)=some [.zq 0,.l ((ji s).1.map .s),.zq (ji s).2]:=by
 have i:=axS s.vs s.k s.b d.kp;have p:=d.mn;have q:=d.mx;have r:=d.le;have t:=d.name;have m:TT.lim 63 [.g [.zq 1,.zu 0,.zu s.mn,.zu s.mx,.zu 0,.zu 0,.zu 0,.zu 0,.zu 0,.zu 0,.zu 0,.zu 0,.zu 0,.zu 0,.zu 0,.zu 0,.zq 0,.b false,.s s.name,.s [],.s [],.l [],.l [],.l []],.zq 1]=some [.l ((jW (sF s.mn s.mx s.name) 1).map .s)]:=Rz (avw (a:=s.mn) (c:=s.mx) (n:=s.name) (by omega) (by omega) (by omega)) 1;have k:=Rz (alU (v:=s.vs) (b:=s.b) d.kp) s.ver;unfold ji;unfold cO;generalize jT s.vs s.k s.b=M at *;have k:TT.lim 63 [.g [.zq M.1.1,.zu 0,.zu 0,.zu 0,.zu 0,.zu 0,.zu 0,.zu 0,.zu 0,.zu 0,.zu M.1.2.1,.zu M.1.2.2.1,.zu 0,.zu 0,.zu 0,.zu 0,.zq 0,.b false,.s [],.s [],.s [],.l [],.l (M.1.2.2.2.map row),.l []],.zq s.ver]=some [.l ((jW (Fq M.1) s.ver).map .s)]:=k;generalize jW (sF s.mn s.mx s.name) 1=Y,jW (Fq M.1) s.ver=W at *;simp only[Hg]at i;by_cases f:s.st=2
 ·rw[aj f];have g:(s.st=2)=True:=eq_true f;by_cases e:M.2=0
  ·rw[aj e];have u:(M.2=0)=True:=eq_true e;rw[e]at i;refine au ?_;simp[g,i,k]
  ·rw[ah e];refine au ?_;simp[g,i,e]
 rw[ah f];by_cases h:s.first=true
 ·rw[aj h];by_cases j:s.st=3
  ·rw[aj j];have l:(s.st=3)=True:=eq_true j;refine au ?_;simp[f,h,l]
  ·rw[ah j];refine au ?_;simp[f,h,j,m]
 ·rw[ah h];have o:s.first=false:=by simpa using h
  refine au ?_;simp[f,o]
def ako(x:Sn)(s:bP)(a:dU x.2)(b:kG s):TT.lim 372 (.zu x.1::.l (x.2.map row)::cO s)=some [.zq 0,.zq (iW x s.k s.b).1,.l ((iW x s.k s.b).2.1.map sn),.zu (iW x s.k s.b).2.2]:=by have c:=azP x (.zq s.vs) s.k s.b a b.kp;unfold cO;generalize iW x s.k s.b=P at *;refine au ?_;simp[c]
def pI(v:Int)(n:Q0):aO:={fV with kind:=2,chosen:=v,name:=n}
def qN:aO:={fV with kind:=8,code:=16}
def am6{v:Int}{n:Q0}(a:0<=v/\v<18446744073709551616)(b:n.length<=600):yQ (pI v n) []:=by refine OT ?_ rfl Dz.good b rfl rfl;refine⟨?_,?_,?_,?_,a,?_,?_,?_,?_,?_,?_,?_,?_,?_,?_,?_,?_,?_,?_,?_,?_,?_⟩<;>first|(simp only[pI];omega)|simp[pI,fV,sU,Rows]
def aAL:yQ qN []:=by refine OT ?_ rfl Dz.good (by simp[qN,fV]) rfl rfl;refine⟨?_,?_,?_,?_,?_,?_,?_,?_,?_,?_,?_,?_,?_,?_,?_,?_,?_,?_,?_,?_,?_,?_⟩<;>simp[qN,fV,sU,Rows]
def aeL(s:bP)(a:kG s)(b:0<=s.ver/\s.ver<=3):TT.lim 341 (cO s)=some [.zq 0,.l ((jW (pI s.ver s.name) 1).map .s)]:=by have e:=a.name;have c:=Ig (n:=s.ver) b.1 (by omega);have d:TT.lim 63 [.g [.zq 2,.zu 0,.zu 0,.zu 0,.zu s.ver,.zu 0,.zu 0,.zu 0,.zu 0,.zu 0,.zu 0,.zu 0,.zu 0,.zu 0,.zu 0,.zu 0,.zq 0,.b false,.s s.name,.s [],.s [],.l [],.l [],.l []],.zq 1]=some [.l ((jW (pI s.ver s.name) 1).map .s)]:=Rz (am6 (v:=s.ver) (n:=s.name) (by omega) (by omega)) 1;unfold cO;generalize jW (pI s.ver s.name) 1=Y at *;refine au ?_;simp[c,d]
def aoJ{a c x y:Int}(h:(jY a c x y).2=true):EG a x<=(jY a c x y).1/\(jY a c x y).1=DC c y:=by
 unfold jY at h⊢;split
 ·next b=>rw[aj b]at h;cases h
 ·exact⟨by simp only;omega,rfl⟩
def Zu{a c x y:Int}(h:(jY a c x y).2=true):a<=(jY a c x y).1/\x<=(jY a c x y).1/\(jY a c x y).1<=c/\(jY a c x y).1<=y:=by obtain⟨b,d⟩:=aoJ h;generalize(jY a c x y).1=z at *;unfold EG at b;unfold DC at d;split at b<;>split at d<;>omega
def lS(m:aO)(s:bP):bP×Wc×Int:=
 if s.first=true then(s,[],22)else if m.min<1 then(s,[],18)else if m.max<m.min then(s,[],18)else if 255<m.max then(s,[],18)else
 if s.st=2 then(if(jY s.mn s.mx m.min m.max).2=true/\(jY s.mn s.mx m.min m.max).1=s.ver then(s,jW (pI s.ver s.name) 1,0)else(s,[],22))
 else if(jY s.mn s.mx m.min m.max).2=false\/s.st=3 then({s with st:=3},jW qN 1,16)
 else({s with st:=2,ver:=(jY s.mn s.mx m.min m.max).1,vs:=(jY s.mn s.mx m.min m.max).1},jW (pI (jY s.mn s.mx m.min m.max).1 s.name) 1,0)
def avt(m:aO)(y:List aI)(s:bP)(z:m.kind=1)(a:kG s):TT.lim 340 ((iM m (aG y)).cells++cO s)=some [.zq 0,.l ((lS m s).2.1.map .s),.zq (lS m s).2.2,.zq (lS m s).1.st,.zq (lS m s).1.ver,.zq (lS m s).1.vs]:=by
 have i:=aoP s.mn s.mx m.min m.max;have A:=@Zu s.mn s.mx m.min m.max;have x:TT.lim 63 [.g [.zq 8,.zu 0,.zu 0,.zu 0,.zu 0,.zu 0,.zu 0,.zu 0,.zu 0,.zu 0,.zu 0,.zu 0,.zu 0,.zu 0,.zu 16,.zu 0,.zq 0,.b false,.s [],.s [],.s [],.l [],.l [],.l []],.zq 1]=some [.l ((jW qN 1).map .s)]:=Rz aAL 1;have r:=aeL s a a.ver;have k:=λ(v:Int)(h:1<=v/\v<=3)=>aeL {s with st:=2,ver:=v,vs:=v} ⟨a.mn,a.mx,a.le,a.name,⟨by simp only;omega,h.2⟩,⟨h.1,h.2,a.rc.good,a.rc.ep,a.rc.no⟩,a.kp⟩ ⟨by simp only;omega,h.2⟩;have F:=a.mn;have G:=a.mx;have B:=a.ver;have l:=Ig (n:=s.ver) B.1 (by omega);rw[eY];unfold lS;simp only[cO,bg,aX]at r k⊢;generalize jY s.mn s.mx m.min m.max=C,jW qN 1=H at *;rw[z];by_cases p:s.first=true
 ·rw[aj p];refine au ?_;simp[p]
 rw[ah p];have o:s.first=false:=by simpa using p
 rw[o]at r k;simp only[o];by_cases b:m.min<1
 ·rw[aj b];refine au ?_;simp[b]
 rw[ah b];by_cases d:m.max<m.min
 ·rw[aj d];refine au ?_;simp[b,d]
 rw[ah d];by_cases f:255<m.max
 ·rw[aj f];refine au ?_;simp[b,d,f]
 rw[ah f];by_cases j:s.st=2
 ·rw[aj j];have t:(s.st=2)=True:=eq_true j;by_cases c:C.2=true
  ·by_cases g:C.1=s.ver
   ·rw[aj ⟨c,g⟩];have u:(C.1=s.ver)=True:=eq_true g;refine au ?_;simp[b,d,f,t,i,c,u,l,r]
   ·rw[ah (λh=>g h.2)];refine au ?_;simp[b,d,f,t,i,c,g,l]
  ·rw[ah (λh=>c h.1)];have q:C.2=false:=by simpa using c
   refine au ?_;simp[b,d,f,t,i,q]
 rw[ah j];by_cases c:C.2=true;rotate_left
 ·have q:C.2=false:=by simpa using c
  rw[aj (.inl q)];refine au ?_;simp[b,d,f,j,i,q,x]
 by_cases g:s.st=3
 ·rw[aj (.inr g)];have u:(s.st=3)=True:=eq_true g;refine au ?_;simp[b,d,f,j,i,c,u,x]
 rw[ah (λh=>h.elim (λe=>by rw[c]at e;cases e) g)];obtain⟨I,J,L,M⟩:=A c;have k:=k C.1 ⟨by omega,by omega⟩;have w:=bF (C.1);have D:1<=C.1:=by omega
 have E:C.1<=3:=by omega
 refine au ?_;simp[b,d,f,j,i,c,g,w,D,E,k]
def AZ(m:aO)(s:bP):bP×Wc×Int:=
 if s.st=1 then(if s.mn<=m.chosen/\m.chosen<=s.mx then({s with st:=2,ver:=m.chosen,vs:=m.chosen},[],0)else({s with st:=3},[],16))
 else if s.st=2/\s.first=true/\m.chosen=s.ver then(s,[],0)else(s,[],22)
def lX(m:aO)(a:List aI)(s:bP):bP×Wc×Int:=
 if s.st=2 then
  ({s with sm:=(kW (gq m a s.vs) s.vs m.kind m.epoch m.base m.t s.sm s.h).2.2.1,h:=(kW (gq m a s.vs) s.vs m.kind m.epoch m.base m.t s.sm s.h).2.2.2},
   if(kW (gq m a s.vs) s.vs m.kind m.epoch m.base m.t s.sm s.h).1.1=0 then[]else jW (je (kW (gq m a s.vs) s.vs m.kind m.epoch m.base m.t s.sm s.h).1) s.ver,
   (kW (gq m a s.vs) s.vs m.kind m.epoch m.base m.t s.sm s.h).2.1)
 else(s,[],22)
def qA(m:aO)(s:bP):bP×Wc×Int:=
 if s.st=2 then({s with k:=(rW m.epoch s.k s.b).2.1,b:=(rW m.epoch s.k s.b).2.2},[],0)else(s,[],22)
def noS(m:aO)(s:bP):bP×Wc×Int:=
 if s.st=2 then({s with b:=0},[],0)else if s.st=1/\m.code=16 then({s with st:=3},[],16)else(s,[],22)
def vW(m:aO)(a:List aI)(s:bP):bP×Wc×Int:=
 if m.kind=1 then lS m s else if m.kind=2 then AZ m s else if m.kind=5\/m.kind=6 then lX m a s else if m.kind=7 then qA m s else if m.kind=8 then noS m s else(s,[],15)
def jd(s:bP):Int:=if s.st=2 then s.ver else 1
def eX(t:Q0)(s:bP):bP×Wc×Int:=
 if(iK t (jd s)).2.2=0 then vW (iK t (jd s)).1 (iK t (jd s)).2.1 s else(s,[],(iK t (jd s)).2.2)
def VL(r:bP×Wc×Int):Q1:=[.zq 0,.l (r.2.1.map .s),.zq r.2.2,.zq r.1.st,.zq r.1.ver,.zq r.1.vs,.b r.1.sm,.zu r.1.h.1,.l (r.1.h.2.map row),.l (r.1.k.map sn),.zu r.1.b]
def take_zero(c v kd b d:Int)(t:List Row)(e:Bool)(h:Sn)(h0:(kW c v kd b d t e h).1.1=0):(kW c v kd b d t e h).1=(0,0,0,0):=by
 unfold kW at h0⊢;split
 ·rfl
 next f=>
 rw[ah f]at h0;split
 ·next a=>
  rw[aj a]at h0;split at h0<;>simp at h0
 next a=>
 rw[ah a]at h0;split
 ·next g=>
  rw[aj g]at h0;split at h0
  ·simp at h0
  ·split at h0<;>simp at h0
 ·rfl
def aDU(m:aO)(a:List aI)(s:bP)(f:rU m a)(q:kG s):TT.lim 342 ((iM m (aG a)).cells++cO s)=some [.zq 0,.l ((lX m a s).2.1.map .s),.zq (lX m a s).2.2,.b (lX m a s).1.sm,.zu (lX m a s).1.h.1,.l ((lX m a s).1.h.2.map row)]:=by
 have k:=aET m a s.vs s.sm s.h f.body f.t f.f8 f.len q.rc.good;obtain⟨y,u,z⟩:=Xh q.rc (gq m a s.vs) m.kind m.epoch m.base m.t f.t f.body.epoch;have r:=take_zero (gq m a s.vs) s.vs m.kind m.epoch m.base m.t s.sm s.h;unfold lX;by_cases n:s.st=2;rotate_left
 ·rw[ah n,eY];simp only[cO,bg,aX];refine au ?_;simp[n]
 rw[aj n];have l:(s.st=2)=True:=eq_true n;rw[eY]at k⊢;simp only[cO,bg,aX]at k⊢;generalize kW (gq m a s.vs) s.vs m.kind m.epoch m.base m.t s.sm s.h=R at *;obtain⟨⟨b,g,i,j⟩,e,A,h⟩:=R;have t:yQ (je (b,g,i,j)) []:=OT u rfl Dz.good (by simp[je]) rfl rfl;have p:TT.lim 63 [.g [.zq b,.zu 0,.zu 0,.zu 0,.zu 0,.zu 0,.zu 0,.zu 0,.zu 0,.zu 0,.zu g,.zu 0,.zu 0,.zu 0,.zu i,.zu j,.zq 0,.b false,.s [],.s [],.s [],.l [],.l [],.l []],.zq s.ver]=some [.l ((jW (je (b,g,i,j)) s.ver).map .s)]:=Rz t s.ver;have o:TT.lim 323 [.g [.zq b,.zu 0,.zu 0,.zu 0,.zu 0,.zu 0,.zu 0,.zu 0,.zu 0,.zu 0,.zu g,.zu 0,.zu 0,.zu 0,.zu i,.zu j,.zq 0,.b false,.s [],.s [],.s [],.l [],.l [],.l []],.g [.zq 0,.zu 0,.zu 0,.zu 0,.zu 0,.zu 0,.zu 0,.zu 0,.zu 0,.zu 0,.zu 0,.zu 0,.zu 0,.zu 0,.zu 0,.zu 0,.zq 0,.b false,.s [],.s [],.s [],.l [],.l [],.l []]]=some [.b (dR (je (b,g,i,j)=fV/\([]:List aI)=[]))]:=by
  have:=t.msg.axt (fc:=[]) Ih (by simp[dH]);have fn:aG []=[]:=by simp only[aG]
  rw[fn]at this;exact this
 generalize jW (je (b,g,i,j)) s.ver=W at *;simp only[yF]at k;simp only at r⊢;by_cases c:b=0
 ·rw[aj c];have d:=r c;injection d with v d
  injection d with w d
  injection d with x d
  subst v w x d;rw[mQ ⟨rfl,rfl⟩]at o;refine au ?_;simp[l,k,o]
 ·rw[ah c];rw[lg (λh=>c (uf aO.kind h.1))]at o;refine au ?_;simp[l,k,o,p]
def amW(m:aO)(c:List aI)(s:bP)(d:kG s):TT.lim 344 ((iM m (aG c)).cells++cO s)=some [.zq 0,.zq (qA m s).2.2,.l ((qA m s).1.k.map sn),.zu (qA m s).1.b]:=by
 have e:=amV m.epoch (.zq s.vs) s.k s.b (by have:=d.kp.len;omega);unfold qA;by_cases a:s.st=2;rotate_left
 ·rw[ah a,eY];simp only[cO,bg,aX];refine au ?_;simp[a]
 rw[aj a];have b:(s.st=2)=True:=eq_true a;rw[eY];simp only[cO,bg,aX];generalize rW m.epoch s.k s.b=A at *;refine au ?_;simp[b,e]
def ahM(m:aO)(s:bP):(lS m s).1.sm=s.sm/\(lS m s).1.h=s.h/\(lS m s).1.k=s.k/\(lS m s).1.b=s.b/\(lS m s).1.mn=s.mn/\(lS m s).1.mx=s.mx/\(lS m s).1.name=s.name/\(lS m s).1.first=s.first:=by
 unfold lS;repeat' split
 all_goals simp
set_option maxHeartbeats 2000000 in
def ahB(t:Q0)(s:bP)(O:t.length<=140737488351232)(w:kG s):TT.lim 339 (.s t::cO s)=some (VL (eX t s)):=by
 have b:=decode_ok t (jd s) O;have N:=U1 t (jd s);unfold eX;generalize iK t (jd s)=D at *;obtain⟨m,c,e⟩:=D;simp only at b N⊢;have l:=avt m c s;have i:=aDU m c s N w;have x:=amW m c s w;have p:=ahM m s;have I:=w.ver;have y:=Ig (n:=s.ver) I.1 (by omega);have P:=w.mn;have Q:=w.mx;rw[eY]at l i x;unfold jd at b;unfold VL;have j:s.st=2\/¬s.st=2:=SK _;by_cases z:e=0;rotate_left
 ·rw[ah z];simp only[cO];rcases j with a|a
  ·rw[aj a]at b;have q:(s.st=2)=True:=eq_true a;refine au ?_;simp[q,b,z]
  ·rw[ah a]at b;refine au ?_;simp[a,b,z]
 rw[aj z];subst z;unfold vW;by_cases k:m.kind=1
 ·rw[aj k];have l:=l k w;obtain⟨R,S,T,V,-⟩:=p;rw[R,S,T,V];generalize lS m s=H at *;simp only[cO,bg,aX]at l⊢;rw[k]at l;have W:(m.kind=1)=True:=eq_true k;rcases j with a|a
  ·rw[aj a]at b;have q:(s.st=2)=True:=eq_true a;rw[a]at l;refine au ?_;simp[a,b,k,l]
  ·rw[ah a]at b;refine au ?_;simp[a,b,k,l]
 rw[ah k];by_cases d:m.kind=2
 ·rw[aj d];have X:(m.kind=2)=True:=eq_true d;unfold AZ;simp only[cO];rcases j with a|a
  ·rw[aj a]at b;rw[dA];have q:(s.st=2)=True:=eq_true a;by_cases A:s.first=true
   ·by_cases B:m.chosen=s.ver
    ·rw[aj ⟨a,A,B⟩];have J:(m.chosen=s.ver)=True:=eq_true B;refine au ?_;simp[a,b,d,A,J,y]
    ·rw[ah (λh=>B h.2.2)];refine au ?_;simp[a,b,d,A,B,y]
   ·rw[ah (λh=>A h.2.1)];have Y:s.first=false:=by simpa using A
    refine au ?_;simp[a,b,d,Y]
  ·rw[ah a]at b;by_cases f:s.st=1
   ·rw[aj f];by_cases r1:s.mn<=m.chosen
    ·by_cases r2:m.chosen<=s.mx
     ·rw[aj ⟨r1,r2⟩];have Z:1<=m.chosen:=by omega
      have g3:m.chosen<=3:=by omega
      have L:=bF (m.chosen);refine au ?_;simp[f,b,d,r1,r2,L,Z,g3]
     ·rw[ah (λh=>r2 h.2)];refine au ?_;simp[f,b,d,r1,r2]
    ·rw[ah (λh=>r1 h.1)];refine au ?_;simp[f,b,d,r1]
   ·rw[ah f,ah (λh=>a h.1)];refine au ?_;simp[f,a,b,d]
 rw[ah d];by_cases r:m.kind=5
 ·rw[aj (.inl r)];have g:(lX m c s).1.st=s.st/\(lX m c s).1.ver=s.ver/\(lX m c s).1.vs=s.vs/\(lX m c s).1.k=s.k/\(lX m c s).1.b=s.b:=by unfold lX;split<;>simp
  rw[g.1,g.2.1,g.2.2.1,g.2.2.2.1,g.2.2.2.2];generalize lX m c s=H at *;simp only[cO,bg,aX]at i⊢;rw[r]at i;rcases j with a|a
  ·rw[aj a]at b;rw[a]at i;refine au ?_;simp[a,b,r,i]
  ·rw[ah a]at b;refine au ?_;simp[a,b,r,i]
 by_cases u:m.kind=6
 ·rw[aj (.inr u)];have g:(lX m c s).1.st=s.st/\(lX m c s).1.ver=s.ver/\(lX m c s).1.vs=s.vs/\(lX m c s).1.k=s.k/\(lX m c s).1.b=s.b:=by unfold lX;split<;>simp
  rw[g.1,g.2.1,g.2.2.1,g.2.2.2.1,g.2.2.2.2];generalize lX m c s=H at *;simp only[cO,bg,aX]at i⊢;rw[u]at i;rcases j with a|a
  ·rw[aj a]at b;rw[a]at i;refine au ?_;simp[a,b,u,i]
  ·rw[ah a]at b;refine au ?_;simp[a,b,u,i]
 rw[ah (λh=>h.elim r u)];by_cases v:m.kind=7
 ·rw[aj v];have g:(qA m s).1.st=s.st/\(qA m s).1.ver=s.ver/\(qA m s).1.vs=s.vs/\(qA m s).1.sm=s.sm/\(qA m s).1.h=s.h/\(qA m s).2.1=[]:=by unfold qA;split<;>simp
  rw[g.1,g.2.1,g.2.2.1,g.2.2.2.1,g.2.2.2.2.1,g.2.2.2.2.2];generalize qA m s=H at *;simp only[cO,bg,aX]at x⊢;rw[v]at x;rcases j with a|a
  ·rw[aj a]at b;rw[a]at x;refine au ?_;simp[a,b,v,x]
  ·rw[ah a]at b;refine au ?_;simp[a,b,v,x]
 rw[ah v];by_cases o:m.kind=8
 ·rw[aj o];unfold noS;simp only[cO];rcases j with a|a
  ·rw[aj a]at b;rw[aj a];refine au ?_;simp[a,b,o]
  ·rw[ah a]at b;rw[ah a];by_cases f:s.st=1
   ·by_cases E:m.code=16
    ·rw[aj ⟨f,E⟩];have M:(m.code=16)=True:=eq_true E;refine au ?_;simp[f,b,o,M]
    ·rw[ah (λh=>E h.2)];refine au ?_;simp[f,b,o,E]
   ·rw[ah (λh=>f h.1)];refine au ?_;simp[f,a,b,o]
 ·rw[ah o];simp only[cO];by_cases F:m.kind=3
  ·rcases j with a|a
   ·rw[aj a]at b;refine au ?_;simp[a,b,F]
   ·rw[ah a]at b;refine au ?_;simp[a,b,F]
  by_cases G:m.kind=4
  ·rcases j with a|a
   ·rw[aj a]at b;refine au ?_;simp[a,b,G]
   ·rw[ah a]at b;refine au ?_;simp[a,b,G]
  rcases j with a|a
  ·rw[aj a]at b;refine au ?_;simp[a,b,k,d,F,G,r,u,v,o]
  ·rw[ah a]at b;refine au ?_;simp[a,b,k,d,F,G,r,u,v,o]
def sZ(a:List Int)(t:Q0):Prop:=∀w,(iK t w).2.2=0->(iK t w).1.kind∈a
def asr{t x:Q0}{k:Nat}(a:k<18446744073709551616)(b:t=aQ k++x)(w:Int)(h:(iK t w).2.2=0):(iK t w).1.kind=k:=by
 have d:(aB t).1=k:=by rw[b,FD k x a]
 unfold iK at h⊢;split
 ·next c=>rw[aj c]at h;exact absurd h (by decide)
 next c=>
 rw[ah c]at h;split
 ·next c=>rw[aj c]at h;exact absurd h (by decide)
 next c=>
 rw[ah c]at h;split
 ·next c=>rw[aj c]at h;exact absurd h (by decide)
 next c=>
 rw[ah c]at h;split
 ·next c=>rw[aj c]at h;exact absurd h c
 next c=>
 rw[ah c]at h;split
 ·next c=>rw[aj c]at h;exact absurd h (by decide)
 next c=>
 rw[ah c]at h;split
 ·next c=>rw[aj c]at h;exact absurd h (by decide)
 next c=>
 rw[ah c]at h;split
 ·next c=>rw[aj c]at h;exact absurd h (by decide)
 next c=>
 rw[ah c]at h;split
 ·next c=>rw[aj c]at h;exact absurd h c
 next c=>
 rw[ah c]at h;simp only at h⊢;split
 ·next c=>rw[aj c]at h;exact absurd h c
 next c=>
 rw[ah c]at h;split
 ·next c=>rw[aj c]at h;exact absurd h c
 ·rw[af8 _ _ _ (by simpa using c),d]
def EU{b:aO}{v:Int}{t:Q0}(h:t∈jW b v)(h0:0<=b.kind)(i:b.kind<=8):sZ [b.kind] t/\t.length<=65536:=by
 unfold jW at h;split at h;rotate_left
 ·cases h
 next e=>
 have d:=Qh b [] v;obtain rfl:=jK.1 h;refine⟨λw a=>?_,d⟩;unfold wU at e a⊢;split at e;rotate_left
 ·next c=>exact absurd e c
 next c=>
 rw[aj c]at a⊢;split at e
 ·exact absurd e (by decide)
 next f=>
 rw[ah f]at a⊢;simp only at a⊢;have g:=asr (t:=bytesV b [] v) (k:=b.kind.toNat) (by omega) rfl w a;rw[g];simp[Il h0]
structure Mid(s:bP)(r:bP×Wc×Int):Prop where
 ok:kG r.1
 mn:r.1.mn=s.mn
 mx:r.1.mx=s.mx
 name:r.1.name=s.name
 first:r.1.first=s.first
 st:r.1.st=s.st
 ver:r.1.ver=s.ver
 said:∀u∈r.2.1,s.st=2/\(sZ [7] u\/sZ [8] u)/\u.length<=65536
def WG{s:bP}(a:kG s)(e:Int):Mid s (s,[],e):=⟨a,rfl,rfl,rfl,rfl,rfl,rfl,λu h=>by cases h⟩
def ado(c v kd a b:Int)(t:List Row)(d:Bool)(h:Sn):(kW c v kd a b t d h).1.1=0\/(kW c v kd a b t d h).1.1=7\/(kW c v kd a b t d h).1.1=8:=by
 unfold kW;repeat' split
 all_goals simp
def axq{m:aO}{d:List aI}{s:bP}(i:rU m d)(a:kG s)(j:m.kind∈([5,6,7,8]:List Int))(h1:s.st≠1\/m.kind≠8):Mid s (vW m d s):=by
 have j:m.kind=5\/m.kind=6\/m.kind=7\/m.kind=8:=by simpa using j
 unfold vW;rw[dA,dA];by_cases c:m.kind=5\/m.kind=6
 ·rw[aj c];unfold lX;split;rotate_left
  ·exact WG a 22
  next l=>
  obtain⟨n,r,t⟩:=Xh a.rc (gq m d s.vs) m.kind m.epoch m.base m.t i.t i.body.epoch;have o:=ado (gq m d s.vs) s.vs m.kind m.epoch m.base m.t s.sm s.h;generalize kW (gq m d s.vs) s.vs m.kind m.epoch m.base m.t s.sm s.h=R at *;refine⟨⟨a.mn,a.mx,a.le,a.name,a.ver,n,a.kp⟩,rfl,rfl,rfl,rfl,rfl,rfl,?_⟩;intro u g;simp only at g;split at g
  ·cases g
  next p=>
  have b:(je R.1).kind=R.1.1:=rfl;obtain⟨f,q⟩:=EU g (by rw[b];omega) (by rw[b];omega);rw[b]at f;refine⟨l,?_,q⟩;rcases o with e|e|e
  ·exact absurd e p
  ·rw[e]at f;exact .inl f
  ·rw[e]at f;exact .inr f
 rw[ah c];by_cases k:m.kind=7
 ·rw[aj k];unfold qA;split;rotate_left
  ·exact WG a 22
  ·exact⟨⟨a.mn,a.mx,a.le,a.name,a.ver,a.rc,YU a.kp⟩,rfl,rfl,rfl,rfl,rfl,rfl,λu h=>by cases h⟩
 rw[ah k,nI];unfold noS;split
 ·exact⟨⟨a.mn,a.mx,a.le,a.name,a.ver,a.rc,a.kp⟩,rfl,rfl,rfl,rfl,rfl,rfl,λu h=>by cases h⟩
 ·rw[ah (λe=>h1.elim (λh=>h e.1) (λh=>h (by omega)))];exact WG a 22
def ajc{t:Q0}{s:bP}(d:kG s)(a:List Int)(f:sZ a t)(b:∀k∈a,k∈([5,6,7,8]:List Int))(h1:s.st≠1\/(8:Int)∉a):Mid s (eX t s):=by
 have g:=U1 t (jd s);unfold eX;split
 ·next e=>
  have h:=f (jd s) e;exact axq g d (b _ h) (h1.imp id λn c=>n (c▸h))
 ·exact WG d _
abbrev Bo:Q0:=[102,105,114,115,116]
abbrev Ko:Q0:=[111,116,104,101,114]
def helloT(a b:Int):Q0:=(wU (sF a b Bo) [] 1).1
def LY(v:Int):Q0:=(wU (pI v Ko) [] 1).1
def Ob:Q0:=(wU qN [] 1).1
def akA:jW qN 1=[Ob]:=by kernel_rfl
def aAK:iK Ob 1=(qN,[],0):=by kernel_rfl
def three{v:Int}(h1:1<=v)(a:v<=3):v=1\/v=2\/v=3:=by omega
def YV{v:Int}(h1:1<=v)(a:v<=3):jW (pI v Ko) 1=[LY v]:=by
 rcases three h1 a with rfl|rfl|rfl
 ·kernel_rfl
 ·kernel_rfl
 ·kernel_rfl
def amU{v:Int}(h1:1<=v)(a:v<=3):iK (LY v) 1=(pI v Ko,[],0):=by
 rcases three h1 a with rfl|rfl|rfl
 ·kernel_rfl
 ·kernel_rfl
 ·kernel_rfl
def six{a c:Int}(h1:1<=a)(b:a<=c)(d:c<=3):(a=1/\c=1)\/(a=1/\c=2)\/(a=1/\c=3)\/(a=2/\c=2)\/(a=2/\c=3)\/(a=3/\c=3):=by omega
def avu{a c:Int}(h1:1<=a)(b:a<=c)(d:c<=3):jW (sF a c Bo) 1=[helloT a c]:=by
 rcases six h1 b d with⟨rfl,rfl⟩|⟨rfl,rfl⟩|⟨rfl,rfl⟩|⟨rfl,rfl⟩|⟨rfl,rfl⟩|⟨rfl,rfl⟩
 ·kernel_rfl
 ·kernel_rfl
 ·kernel_rfl
 ·kernel_rfl
 ·kernel_rfl
 ·kernel_rfl
def avs{a c w:Int}(h1:1<=a)(d:a<=c)(e:c<=3)(w1:1<=w)(b:w<=3):iK (helloT a c) w=(sF a c Bo,[],0):=by
 rcases six h1 d e with⟨rfl,rfl⟩|⟨rfl,rfl⟩|⟨rfl,rfl⟩|⟨rfl,rfl⟩|⟨rfl,rfl⟩|⟨rfl,rfl⟩
 ·rcases three w1 b with rfl|rfl|rfl
  ·kernel_rfl
  ·kernel_rfl
  ·kernel_rfl
 ·rcases three w1 b with rfl|rfl|rfl
  ·kernel_rfl
  ·kernel_rfl
  ·kernel_rfl
 ·rcases three w1 b with rfl|rfl|rfl
  ·kernel_rfl
  ·kernel_rfl
  ·kernel_rfl
 ·rcases three w1 b with rfl|rfl|rfl
  ·kernel_rfl
  ·kernel_rfl
  ·kernel_rfl
 ·rcases three w1 b with rfl|rfl|rfl
  ·kernel_rfl
  ·kernel_rfl
  ·kernel_rfl
 ·rcases three w1 b with rfl|rfl|rfl
  ·kernel_rfl
  ·kernel_rfl
  ·kernel_rfl
structure pG(V:Int)(ok:Bool)(p q:bP):Prop where
 jh:kG p
 oU:kG q
 pf:p.first=true
 qf:q.first=false
 pn:p.name=Bo
 qn:q.name=Ko
 com:jY p.mn p.mx q.mn q.mx=(V,ok)
 ps:p.st=0\/p.st=1\/p.st=2\/p.st=3
 qs:q.st=0\/q.st=2\/q.st=3
 p2:p.st=2->ok=true/\p.ver=V/\q.st=2
 q2:q.st=2->ok=true/\q.ver=V
 pz:p.st≠2->p.ver=0
 qz:q.st≠2->q.ver=0
 p3:p.st=3->q.st=3
 q3:q.st=3->ok=false
def DZ(p:bP)(t:Q0):Prop:=t.length<=65536/\(t=helloT p.mn p.mx\/(p.st=2/\sZ [5,6,7,8] t))
def LU(V:Int)(p q:bP)(t:Q0):Prop:=t.length<=65536/\((t=LY V/\q.st=2)\/(t=Ob/\q.st=3)\/(q.st=2/\sZ [5,6,7] t)\/(p.st=2/\sZ [8] t))
structure nD(p q p' q':bP):Prop where
 mn:p'.mn=p.mn
 mx:p'.mx=p.mx
 p2:p.st=2->p'.st=2
 p3:p.st=3->p'.st=3
 q2:q.st=2->q'.st=2
 q3:q.st=3->q'.st=3
def nD.tp{p q p' q':bP}(l:nD p q p' q'){t:Q0}(h:DZ p t):DZ p' t:=by unfold DZ at h⊢;rw[l.mn,l.mx];exact⟨h.1,h.2.imp id λe=>⟨l.p2 e.1,e.2⟩⟩
def nD.tq{V:Int}{p q p' q':bP}(l:nD p q p' q'){t:Q0}(h:LU V p q t):LU V p' q' t:=
 ⟨h.1,h.2.imp (λe=>⟨e.1,l.q2 e.2⟩) λh=>h.imp (λe=>⟨e.1,l.q3 e.2⟩) λh=>h.imp (λe=>⟨l.q2 e.1,e.2⟩) λe=>⟨l.p2 e.1,e.2⟩⟩
def NC{b a:List Int}{t:Q0}(h:sZ b t)(c:∀k∈b,k∈a):sZ a t:=λw e=>c _ (h w e)
def aoI(a c x y:Int):jY a c x y=jY x y a c:=by
 have b:EG a x=EG x a:=by unfold EG;split<;>split<;>omega
 have d:DC c y=DC y c:=by unfold DC;split<;>split<;>omega
 unfold jY;rw[b,d]
def pG.OM{V:Int}{ok:Bool}{p q:bP}(h:pG V ok p q)(e:ok=true):p.mn<=V/\V<=p.mx/\1<=V/\V<=3:=by
 have a:=h.com;have c:(jY p.mn p.mx q.mn q.mx).2=true:=by rw[a];exact e
 have b:=Zu c;rw[a]at b;simp only at b;have:=h.jh.mn;have:=h.jh.mx;omega
def pG.ajd{V:Int}{ok:Bool}{p q:bP}(h:pG V ok p q){p':bP}(h0:kG p')(b:p'.mn=p.mn)(c:p'.mx=p.mx)(f:p'.name=p.name)(g:p'.first=p.first)(a:p'.st=p.st)(d:p'.ver=p.ver):pG V ok p' q/\nD p q p' q:=
 ⟨⟨h0,h.oU,g▸h.pf,h.qf,f▸h.pn,h.qn,by rw[b,c];exact h.com,by rw[a];exact h.ps,h.qs,by rw[a,d];exact h.p2,h.q2,by rw[a,d];exact h.pz,h.qz,by rw[a];exact h.p3,h.q3⟩,⟨b,c,λe=>a.trans e,λe=>a.trans e,id,id⟩⟩
def pG.aje{V:Int}{ok:Bool}{p q:bP}(h:pG V ok p q){q':bP}(h0:kG q')(c:q'.mn=q.mn)(d:q'.mx=q.mx)(f:q'.name=q.name)(g:q'.first=q.first)(a:q'.st=q.st)(b:q'.ver=q.ver):pG V ok p q'/\nD p q p q':=
 ⟨⟨h.jh,h0,h.pf,g▸h.qf,h.pn,f▸h.qn,by rw[c,d];exact h.com,h.ps,by rw[a];exact h.qs,λe=>⟨(h.p2 e).1,(h.p2 e).2.1,a.trans (h.p2 e).2.2⟩,by rw[a,b];exact h.q2,h.pz,by rw[a,b];exact h.qz,λe=>a.trans (h.p3 e),by rw[a];exact h.q3⟩,⟨rfl,rfl,id,id,λe=>a.trans e,λe=>a.trans e⟩⟩
def nD.self(p q:bP):nD p q p q:=⟨rfl,rfl,id,id,id,id⟩
def nD.trans{p q p' q' c d:bP}(a:nD p q p' q')(b:nD p' q' c d):nD p q c d:=
 ⟨b.mn.trans a.mn,b.mx.trans a.mx,λe=>b.p2 (a.p2 e),λe=>b.p3 (a.p3 e),λe=>b.q2 (a.q2 e),λe=>b.q3 (a.q3 e)⟩
def EO(x:Sn)(s:bP):bP:={s with k:=(iW x s.k s.b).2.1,b:=(iW x s.k s.b).2.2}
def akm{x:Sn}{s:bP}(a:kG s)(b:dU x.2)(h0:0<=x.1/\x.1<18446744073709551616):kG (EO x s):=
 ⟨a.mn,a.mx,a.le,a.name,a.ver,a.rc,acA a.kp b h0⟩
def qg(s:bP):bP:={s with st:=(ji s).2}
def abl{v:Int}{k:List Sn}{b:Int}(h:(jT v k b).2=0):(jT v k b).1.1=5\/(jT v k b).1.1=6:=by
 unfold jT at h⊢;cases a:k.getLast? with
 |none=>rw[a]at h;simp at h
 |some l=>
  rw[a]at h;simp only at h⊢;split
  ·next c=>rw[aj c]at h;exact absurd h (by decide)
  next c=>
  rw[ah c]at h;cases e:jR b k with
  |none=>exact .inl rfl
  |some i=>
   rw[e]at h;simp only at h⊢;split;rotate_left
   ·exact .inl rfl
   next f=>
   rw[aj f]at h;cases g:k[i]? with
   |none=>exact .inl rfl
   |some s=>
    rw[g]at h;simp only at h⊢;split
    ·next d=>rw[aj d]at h;exact absurd h d
    ·exact .inr rfl
def aAm{V:Int}{ok:Bool}{p q:bP}(h:pG V ok p q):qg q=q/\∀t∈(ji q).1,LU V p q t:=by
 have g:(ji q).2=q.st:=by
  unfold ji;rw[h.qf];split
  ·next c=>split<;>exact c.symm
  ·rfl
 refine⟨by unfold qg;rw[g],λt a=>?_⟩;unfold ji at a;rw[h.qf]at a;split at a;rotate_left
 ·cases a
 next c=>
 split at a;rotate_left
 ·cases a
 next i=>
 have j:=abl (v:=q.vs) (k:=q.k) (b:=q.b) i;have e:(Fq (jT q.vs q.k q.b).1).kind=(jT q.vs q.k q.b).1.1:=rfl;obtain⟨f,l⟩:=EU a (by rw[e];omega) (by rw[e];omega);rw[e]at f;exact⟨l,.inr (.inr (.inl ⟨c,NC f λk d=>by rw[jK.1 d];rcases j with e|e<;>rw[e]<;>simp⟩))⟩
def ayQ{V:Int}{ok:Bool}{p q:bP}(h:pG V ok p q):pG V ok (qg p) q/\nD p q (qg p) q/\∀t∈(ji p).1,DZ (qg p) t:=by
 by_cases c:p.st=2
 ·have e:ji p=(if(jT p.vs p.k p.b).2=0 then(jW (Fq (jT p.vs p.k p.b).1) p.ver,2)else([],2)):=by unfold ji;rw[aj c]
  have j:(ji p).2=p.st:=by rw[e,c];split<;>rfl
  have d:qg p=p:=by unfold qg;rw[j]
  rw[d];refine⟨h,nD.self p q,λt a=>?_⟩;rw[e]at a;split at a;rotate_left
  ·cases a
  next l=>
  have m:=abl (v:=p.vs) (k:=p.k) (b:=p.b) l;have e:(Fq (jT p.vs p.k p.b).1).kind=(jT p.vs p.k p.b).1.1:=rfl;obtain⟨i,n⟩:=EU a (by rw[e];omega) (by rw[e];omega);rw[e]at i;exact⟨n,.inr ⟨c,NC i λk g=>by rw[jK.1 g];rcases m with e|e<;>rw[e]<;>simp⟩⟩
 by_cases f:p.st=3
 ·have e:ji p=([],3):=by unfold ji;rw[ah c,aj h.pf,aj f]
  have d:qg p=p:=by unfold qg;rw[e,<-f]
  rw[d,e];exact⟨h,nD.self p q,λt a=>by cases a⟩
 ·have o:=avu h.jh.mn h.jh.le h.jh.mx;have e:ji p=([helloT p.mn p.mx],1):=by unfold ji;rw[ah c,aj h.pf,ah f,h.pn,o]
  have d:qg p ={p with st:=1}:=by unfold qg;rw[e]
  rw[d,e];refine⟨⟨⟨h.jh.mn,h.jh.mx,h.jh.le,h.jh.name,h.jh.ver,h.jh.rc,h.jh.kp⟩,h.oU,h.pf,h.qf,h.pn,h.qn,h.com,.inr (.inl rfl),h.qs,(λe=>by simp at e),h.q2,λ_=>h.pz c,h.qz,(λe=>by simp at e),h.q3⟩,⟨rfl,rfl,λe=>absurd e c,λe=>absurd e f,id,id⟩,λt a=>?_⟩;rw[jK.1 a];exact⟨Qh _ _ _,.inl rfl⟩
def aAf{V:Int}{ok:Bool}{p q:bP}(h:pG V ok p q):eX (helloT p.mn p.mx) q=if ok=true then({q with st:=2,ver:=V,vs:=if q.st=2 then q.vs else V},[LY V],0)else({q with st:=3},[Ob],16):=by
 have d:1<=jd q/\jd q<=3:=by
  unfold jd;split
  ·next c=>
   obtain⟨l,o⟩:=h.q2 c;have:=h.OM l;omega
  ·omega
 have g:=avs h.jh.mn h.jh.le h.jh.mx d.1 d.2;have r:=h.jh.mn;have s:=h.jh.mx;have t:=h.jh.le;have b:jY q.mn q.mx p.mn p.mx=(V,ok):=by rw[aoI];exact h.com
 unfold eX;rw[g,aj rfl];unfold vW;rw[aj (show(sF p.mn p.mx Bo).kind=1 from rfl)];unfold lS;have b:jY q.mn q.mx (sF p.mn p.mx Bo).min (sF p.mn p.mx Bo).max=(V,ok):=b;rw[h.qf,ah (by simp),ah (show ¬(sF p.mn p.mx Bo).min<1 from λe=>by have e:p.mn<1:=e;omega),ah (show ¬(sF p.mn p.mx Bo).max<(sF p.mn p.mx Bo).min from λe=>by have e:p.mx<p.mn:=e;omega),ah (show ¬255<(sF p.mn p.mx Bo).max from λe=>by have e:255<p.mx:=e;omega),b];cases a:ok with
 |true=>
  subst a;obtain⟨-,-,i,j⟩:=h.OM rfl;simp only[reduceIte];by_cases c:q.st=2
  ·rw[aj c,aj ⟨trivial,(h.q2 c).2.symm⟩,(h.q2 c).2,h.qn,YV i j,aj c];congr 1;have k:=(h.q2 c).2;have f:=h.qf;have n:=h.qn;clear b g d h;cases q;simp only at c k f n;subst c k f n;rfl
  ·have m:q.st≠3:=λe=>by have:=h.q3 e;cases this
   rw[ah c,ah (by simp[m]),h.qn,YV i j,ah c]
 |false=>
  subst a;have c:q.st≠2:=λe=>by have:=(h.q2 e).1;cases this
  simp only[reduceIte,iw];rw[ah c,aj (.inl trivial),akA]
def aAe{V:Int}{ok:Bool}{p q:bP}(h:pG V ok p q){t:Q0}(j:DZ p t):pG V ok p (eX t q).1/\nD p q p (eX t q).1/\∀u∈(eX t q).2.1,LU V p (eX t q).1 u:=by
 rcases j.2 with l|⟨f,a⟩
 ·rw[l,aAf h];cases b:ok with
  |true=>
   subst b;obtain⟨-,-,n,g⟩:=h.OM rfl;have i:q.st≠3:=λe=>by have:=h.q3 e;cases this
   have o:p.st≠3:=λe=>i (h.p3 e);simp only[reduceIte];refine⟨⟨h.jh,⟨h.oU.mn,h.oU.mx,h.oU.le,h.oU.name,⟨by simp only;omega,g⟩,?_,h.oU.kp⟩,h.pf,h.qf,h.pn,h.qn,h.com,h.ps,.inr (.inl rfl),λe=>⟨rfl,(h.p2 e).2.1,rfl⟩,λ_=>⟨rfl,rfl⟩,h.pz,λe=>absurd rfl e,λe=>absurd e o,(λe=>by simp at e)⟩,⟨rfl,rfl,id,id,λ_=>rfl,λe=>absurd e i⟩,λu d=>?_⟩
   ·simp only;split
    ·exact h.oU.rc
    ·exact⟨n,g,h.oU.rc.good,h.oU.rc.ep,h.oU.rc.no⟩
   ·rw[jK.1 d];exact⟨Qh _ _ _,.inl ⟨rfl,rfl⟩⟩
  |false=>
   subst b;have c:q.st≠2:=λe=>by have:=(h.q2 e).1;cases this
   have f:p.st≠2:=λe=>by have:=(h.p2 e).1;cases this
   simp only[reduceIte,iw];refine⟨⟨h.jh,⟨h.oU.mn,h.oU.mx,h.oU.le,h.oU.name,h.oU.ver,h.oU.rc,h.oU.kp⟩,h.pf,h.qf,h.pn,h.qn,h.com,h.ps,.inr (.inr rfl),λe=>absurd e f,(λe=>by simp at e),h.pz,λ_=>h.qz c,λ_=>rfl,λ_=>rfl⟩,⟨rfl,rfl,id,id,λe=>absurd e c,λ_=>rfl⟩,λu d=>?_⟩;rw[jK.1 d];exact⟨Qh _ _ _,.inr (.inl ⟨rfl,rfl⟩)⟩
 ·have m:=ajc h.oU [5,6,7,8] a (λk a=>a) (.inl (by have:=h.qs;omega));obtain⟨r,s⟩:=h.aje m.ok m.mn m.mx m.name m.first m.st m.ver;refine⟨r,s,λu d=>?_⟩;obtain⟨v,g3,w⟩:=m.said u d;refine⟨w,?_⟩;rw[m.st];rcases g3 with g3|g3
  ·exact .inr (.inr (.inl ⟨v,NC g3 λk a=>by rw[jK.1 a];simp⟩))
  ·exact .inr (.inr (.inr ⟨f,g3⟩))
def ayO{V:Int}{ok:Bool}{p q:bP}(h:pG V ok p q)(a:q.st=2)(h1:p.st=1):eX (LY V) p=({p with st:=2,ver:=V,vs:=V},[],0):=by
 obtain⟨e,-⟩:=h.q2 a;obtain⟨b,c,d,f⟩:=h.OM e;have g:=amU d f;have i:jd p=1:=by unfold jd;rw[dA]
 unfold eX;rw[i,g,aj rfl];unfold vW;rw[ah (by simp[pI]),aj (by simp[pI])];unfold AZ;rw[aj h1,aj (show p.mn<=(pI V Ko).chosen/\(pI V Ko).chosen<=p.mx from⟨b,c⟩)];rfl
def ayR{V:Int}{ok:Bool}{p q:bP}(h:pG V ok p q)(b:q.st=3)(h1:p.st=1):eX Ob p=({p with st:=3},[],16):=by
 have a:jd p=1:=by unfold jd;rw[dA]
 unfold eX;rw[a,aAK,aj rfl];unfold vW;rw[ah (by simp[qN]),ah (by simp[qN]),ah (by simp[qN]),ah (by simp[qN]),aj (by simp[qN])];unfold noS;rw[dA,aj ⟨h1,rfl⟩]
def still{t:Q0}{s:bP}(a:sZ [2] t)(h1:s.st≠1):∃e,eX t s=(s,[],e):=by
 unfold eX;split;rotate_left
 ·exact⟨_,rfl⟩
 next e=>
 have h:=jK.1 (a _ e);unfold vW;rw[dA,aj h];unfold AZ;rw[ah h1];split
 ·exact⟨_,rfl⟩
 ·exact⟨_,rfl⟩
def ayP{V:Int}{ok:Bool}{p q:bP}(h:pG V ok p q){t:Q0}(w:LU V p q t):pG V ok (eX t p).1 q/\nD p q (eX t p).1 q/\∀u∈(eX t p).2.1,DZ (eX t p).1 u:=by
 have none:∀e,eX t p=(p,[],e)->pG V ok (eX t p).1 q/\nD p q (eX t p).1 q/\∀u∈(eX t p).2.1,DZ (eX t p).1 u:=by intro e n;rw[n];exact⟨h,nD.self p q,λu c=>by cases c⟩
 have d:∀g:List Int,sZ g t->(∀k∈g,k∈([5,6,7,8]:List Int))->(p.st≠1\/(8:Int)∉g)->pG V ok (eX t p).1 q/\nD p q (eX t p).1 q/\∀u∈(eX t p).2.1,DZ (eX t p).1 u:=by
  intro g a x f;have m:=ajc h.jh g a x f;obtain⟨y,z⟩:=h.ajd m.ok m.mn m.mx m.name m.first m.st m.ver;refine⟨y,z,λu c=>?_⟩;obtain⟨s,g3,A⟩:=m.said u c;refine⟨A,.inr ⟨m.st.trans s,?_⟩⟩;rcases g3 with g3|g3
  ·exact NC g3 λk a=>by rw[jK.1 a];simp
  ·exact NC g3 λk a=>by rw[jK.1 a];simp
 rcases w.2 with⟨i,j⟩|⟨i,o⟩|⟨j,a⟩|⟨s,a⟩
 ·by_cases f:p.st=1
  ·rw[i,ayO h j f];obtain⟨e,-⟩:=h.q2 j;obtain⟨B,D,r,l⟩:=h.OM e;exact⟨⟨⟨h.jh.mn,h.jh.mx,h.jh.le,h.jh.name,⟨by simp only;omega,l⟩,⟨r,l,h.jh.rc.good,h.jh.rc.ep,h.jh.rc.no⟩,h.jh.kp⟩,h.oU,h.pf,h.qf,h.pn,h.qn,h.com,.inr (.inr (.inl rfl)),h.qs,λ_=>⟨e,rfl,j⟩,h.q2,λe=>absurd rfl e,h.qz,(λe=>by simp at e),h.q3⟩,⟨rfl,rfl,λ_=>rfl,λe=>by omega,id,id⟩,λu c=>by cases c⟩
  ·have a:sZ [2] (LY V):=by obtain⟨e,-⟩:=h.q2 j;obtain⟨B,D,r,l⟩:=h.OM e;exact(EU (b:=pI V Ko) (v:=1) (by rw[YV r l];simp) (by simp[pI]) (by simp[pI])).1
   obtain⟨e,n⟩:=still a f;exact none e (by rw[i];exact n)
 ·by_cases f:p.st=1
  ·rw[i,ayR h o f];have e:=h.q3 o;exact⟨⟨⟨h.jh.mn,h.jh.mx,h.jh.le,h.jh.name,h.jh.ver,h.jh.rc,h.jh.kp⟩,h.oU,h.pf,h.qf,h.pn,h.qn,h.com,.inr (.inr (.inr rfl)),h.qs,(λe=>by simp at e),h.q2,λ_=>h.pz (by omega),h.qz,λ_=>o,h.q3⟩,⟨rfl,rfl,λe=>by omega,λ_=>rfl,id,id⟩,λu c=>by cases c⟩
  ·have a:sZ [8] Ob:=(EU (b:=qN) (v:=1) (by rw[akA];simp) (by simp[qN]) (by simp[qN])).1;rw[<-i]at a;exact d [8] a (λk a=>by rw[jK.1 a];simp) (.inl f)
 ·exact d [5,6,7] a (λk a=>by simp at a⊢;omega) (.inr (by simp))
 ·exact d [8] a (λk a=>by rw[jK.1 a];simp) (.inl (by omega))
def Fin(ok:Bool)(p q:bP):Prop:=if ok=true then p.st=2/\q.st=2 else p.st=3/\q.st=3
def nD.fin{ok:Bool}{p q p' q':bP}(l:nD p q p' q')(h:Fin ok p q):Fin ok p' q':=by
 unfold Fin at h⊢;split
 ·next c=>rw[aj c]at h;exact⟨l.p2 h.1,l.q2 h.2⟩
 ·next c=>rw[ah c]at h;exact⟨l.p3 h.1,l.q3 h.2⟩
def aay(t:Q0)(s:bP):(eX t s).2.1.length<=1:=by
 unfold eX;split;rotate_left
 ·simp
 unfold vW lS AZ lX qA noS;repeat' split
 all_goals first|exact akV _ _|simp
def acu(s:bP):(ji s).1.length<=1:=by
 unfold ji;repeat' split
 all_goals first|exact akV _ _|simp
def VI(t:Q0)(s:bP):(eX t s).1.mn=s.mn/\(eX t s).1.mx=s.mx/\(eX t s).1.name=s.name/\(eX t s).1.first=s.first:=by
 unfold eX;split;rotate_left
 ·exact⟨rfl,rfl,rfl,rfl⟩
 unfold vW lS AZ lX qA noS;repeat' split
 all_goals exact⟨rfl,rfl,rfl,rfl⟩
def lJ(s:bP):Q1:=[.zq s.st,.zq s.ver,.zq s.vs,.b s.sm,.zu s.h.1,.l (s.h.2.map row),.l (s.k.map sn),.zu s.b]
def newS(a c:Int)(n:Q0)(f:Bool):bP:=⟨a,c,n,f,0,0,1,false,zS,[],0⟩
def ajn{a c:Int}{n:Q0}{f:Bool}(h1:1<=a)(b:a<=c)(d:c<=3)(e:n.length<=256):kG (newS a c n f):=
 ⟨h1,d,b,e,by simp[newS],⟨by simp[newS],by simp[newS],Dz.good,by simp[newS,zS],λ_=>rfl⟩,Kp.nil⟩
def alv(k:List Sn)(d:Kp k)(v b:GV):∀(m i:Nat),i+m=k.length->
 TT.lim 192 [.l (k.map sn),.zq (k.length:Int),.zq (i:Int),v,b,.l ((k.take i).map sn)]=some [.zq 0,.l (k.map sn)]
 |0,i,hi=>by
  have e:¬((i:Int)<k.length):=by omega
  rw[lG (by omega)];refine au ?_;simp[e]
 |m+1,i,hi=>by
  have p:=d.len;have a:i<k.length:=by omega
  have e:(i:Int)<k.length:=by omega
  have j:IntKind.i64.wrap ((i:Int)+1)=((i+1:Nat):Int):=by rw[wrap64 (by omega) (by omega)];omega
  have h:=alv k d v b m (i+1) (by omega);have l:=(d.tb _ (gX a)).good;have n:=Oi k[i] l;have f:at2 2 (some (.l (k.map sn))) (some (.zq (i:Int)))=some (sn k[i]):=by rw[eF,nI,xG,iY,bT a];rfl
  have c:Ey (some (.l (k.map sn))) (some (.zq (i:Int)))=some (.zq (i:Int)):=by rw[jF,aj ⟨by omega,by rw[gG];omega⟩]
  have g:IQ 2 32 (some (.l ((k.take i).map sn))) (some (.l [sn k[i]]))=some (.l ((k.take (i+1)).map sn)):=by
   rw[FZ,aj]
   ·rw[SY,bT a,nM];rfl
   ·refine⟨rfl,?_,?_⟩<;>simp only[gG,lN,gV,kY]<;>omega
  rw[<-j]at h;generalize q:k[i]=x at *;have o:GV.g [.zu x.1,.l (x.2.map row)]=sn x:=rfl;generalize(k.take (i+1)).map sn=r,(k.take i).map sn=s,k.map sn=t,(k.length:Int)=u at *;generalize(i:Int)=w at *;refine au ?_;simp[-jF,-eF,e,f,c,o,n,g,h]
def aDV(k:List Sn)(c:Kp k)(v b:GV):TT.lim 191 [v,.l (k.map sn),b]=some [.zq 0,.l (k.map sn)]:=by
 have h:=alv k c v b k.length 0 (by omega);have a:((k.map sn).length:Int)=(k.length:Int):=by rw[gG]
 simp only[Td,jI,sW]at h;generalize k.map sn=d,(k.length:Int)=e at *;refine au ?_;simp[a,h]
def aAy(v s:GV)(h:Sn)(a:dU h.2):TT.lim 364 [v,s,.zu h.1,.l (h.2.map row)]=some [.zq 0,.zu h.1,.l (h.2.map row)]:=by have b:=Oi h a;have c:GV.g [.zu h.1,.l (h.2.map row)]=sn h:=rfl;refine au ?_;simp[c,b]
def ak7(s:bP)(a:kG s):TT.lim 363 (cO s)=some [.zq 0,.zu s.h.1,.l (s.h.2.map row),.l (s.k.map sn)]:=by have b:=aDV s.k a.kp (.zq s.vs) (.zu s.b);have c:=aAy (.zq s.vs) (.b s.sm) s.h a.rc.good;unfold cO;refine au ?_;simp[b,c]
def ayp{m:aO}{b:List aI}{s:bP}(d:rU m b)(a:kG s):kG (vW m b s).1:=by
 unfold vW;by_cases e:m.kind=1
 ·rw[aj e];have j:=a.mn;have k:=a.mx;have l:=@Zu s.mn s.mx m.min m.max;unfold lS;repeat' split
  all_goals first|exact a|exact⟨a.mn,a.mx,a.le,a.name,a.ver,a.rc,a.kp⟩|skip
  next n o r t u p=>
  have c:(jY s.mn s.mx m.min m.max).2=true:=by
   cases h:(jY s.mn s.mx m.min m.max).2 with
   |true=>rfl
   |false=>exact absurd (.inl h) p
  obtain⟨v,w,x,y⟩:=l c;exact⟨a.mn,a.mx,a.le,a.name,⟨by simp only;omega,by simp only;omega⟩,⟨by simp only;omega,by simp only;omega,a.rc.good,a.rc.ep,a.rc.no⟩,a.kp⟩
 rw[ah e];by_cases f:m.kind=2
 ·rw[aj f];have j:=a.mn;have k:=a.mx;unfold AZ;repeat' split
  all_goals first|exact a|exact⟨a.mn,a.mx,a.le,a.name,a.ver,a.rc,a.kp⟩|skip
  next n o=>
  exact⟨a.mn,a.mx,a.le,a.name,⟨by simp only;omega,by simp only;omega⟩,⟨by simp only;omega,by simp only;omega,a.rc.good,a.rc.ep,a.rc.no⟩,a.kp⟩
 rw[ah f];by_cases g:m.kind=5\/m.kind=6
 ·rw[aj g];unfold lX;split
  ·obtain⟨q,-,-⟩:=Xh a.rc (gq m b s.vs) m.kind m.epoch m.base m.t d.t d.body.epoch;exact⟨a.mn,a.mx,a.le,a.name,a.ver,q,a.kp⟩
  ·exact a
 rw[ah g];by_cases i:m.kind=7
 ·rw[aj i];unfold qA;split
  ·exact⟨a.mn,a.mx,a.le,a.name,a.ver,a.rc,YU a.kp⟩
  ·exact a
 rw[ah i];split
 ·unfold noS;repeat' split
  all_goals first|exact a|exact⟨a.mn,a.mx,a.le,a.name,a.ver,a.rc,a.kp⟩
 ·exact a
def Np{t:Q0}{s:bP}(a:kG s):kG (eX t s).1:=by
 unfold eX;split
 ·exact ayp (U1 t (jd s)) a
 ·exact a
def zA(x:UInt8)(b:Nat):UInt8:=UInt8.ofNat (x.toNat ^^^ b)
def amy(x:UInt8)(b:Nat)(c:b<256):bV .xor .u8 (x.toNat:Int) (b:Int)=some (.i .u8 ((zA x b).toNat:Int)):=by
 show some (GV.i IntKind.u8 (IntKind.u8.wrap ((BitVec.ofInt 8 (x.toNat:Int) ^^^ BitVec.ofInt 8 (b:Int)).toNat:Int)))=_
 have d:=x.toNat_lt;have a:x.toNat ^^^ b<256:=Nat.xor_lt_two_pow (n:=8) d c;have o1:(BitVec.ofInt 8 (x.toNat:Int)).toNat=x.toNat:=by rw[vw];omega
 have e:(BitVec.ofInt 8 (b:Int)).toNat=b:=by rw[vw];omega
 rw[BitVec.toNat_xor,o1,e,SB];unfold zA;rw[aeB,O4 a];generalize x.toNat ^^^ b=N at *;congr 2;omega
def alb{u:Q0}{k:Nat}(b:k<u.length)(y:UInt8):Ey (some (.l (dh u))) (some (.zq (k:Int)))=some (.zq (k:Int))/\at2 1 (some (.l (dh u))) (some (.zq (k:Int)))=some (.i .u8 ((u.getD k 0).toNat:Int))/\
 FB 1 0 (some (.l (dh u))) (some (.zq (k:Int))) (some [.i .u8 (y.toNat:Int)])=some (.l (dh (u.set k y))):=by
 have c:(dh u).length=u.length:=by simp[dh]
 have a:(dh u)[k]? =some (.i .u8 ((u.getD k 0).toNat:Int)):=by
  have e:u.getD k 0=u[k]:=by simp[List.getD,bT b]
  rw[e];unfold dh;rw[iY,bT b];rfl
 refine⟨?_,?_,?_⟩
 ·rw[jF,aj ⟨by omega,by rw[c];omega⟩]
 ·rw[eF,nI,xG,a];rfl
 ·rw[uZ,aj ⟨by omega,rfl⟩,xG,a];simp only[Aq];rw[aj (show(GV.i IntKind.u8 ((u.getD k 0).toNat:Int)).cells.length=1 from rfl)];simp only[GV.put,gZ];congr 2;unfold dh;rw[Yz]
