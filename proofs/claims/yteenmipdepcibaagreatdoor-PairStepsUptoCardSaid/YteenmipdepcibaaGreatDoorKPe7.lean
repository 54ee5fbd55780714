/- What the trees compute: plain laws. -/
import Derived.Test.YteenmipdepcibaaGreatDoorKPe6
set_option linter.unusedSimpArgs false
set_option linter.unusedVariables false
namespace Go.Proofs.YteenmipdepcibaaGreatDoor
open Go Go.aN
set_option maxRecDepth 100000
namespace P
theorem Yp(e:Int)(v:GV)(k:List Sn)(hk:k.length<=1000):∀m i:Nat,i+m=k.length->
 TT.lim 56 [.i .u64 e,.l (k.map sn),.i .i64 k.length,.i .i64 i,v]=some (pI ((jG e (k.drop i)).map (· +i)))
 |0,i,hi=>by
  have h0:k.drop i=[]:=fZ (by omega);have h:¬((i:Int)<k.length):=by omega
  refine au rfl rfl ?_;simp -implicitDefEqProofs[h,h0,jG,pI]
 |m+1,i,hi=>by
  have hlt:i<k.length:=by omega
  have h:((i:Int)<k.length):=by omega
  have hw:=wrap64 (n:=(i:Int)+1) (by omega) (by omega);have ih:TT.lim 56 [.i .u64 e,.l (k.map sn),.i .i64 k.length,.i .i64 ((i:Int)+1),v]=_:=Yp e v k hk m (i+1) (by omega);have hdr:k.drop i=k[i]::k.drop (i+1):=gY hlt;rw[hdr];by_cases h1:k[i].1=e
  ·have hf:pI ((jG e (k[i]::k.drop (i+1))).map (· +i))=[.i .i64 0,.i .i64 (i:Int)]:=by unfold jG;rw[WG,aj (by simpa using h1)];simp -implicitDefEqProofs[pI]
   rw[hf];have h1':(k[i].1=e)=True:=eq_true h1;clear h1 ih;refine au rfl rfl ?_;simp -implicitDefEqProofs[-List.getElem_cons_drop,h,hlt,h1',hw]
  ·have hf:pI ((jG e (k[i]::k.drop (i+1))).map (· +i))=pI ((jG e (k.drop (i+1))).map (· +(i+1))):=by
    unfold jG;rw[WG,ah (by simpa using h1)];cases List.findIdx? (λs:Sn=>decide (s.1=e)) (k.drop (i+1))with
    |none=>rfl
    |some j=>simp only[gI,pI];congr 3;omega
   rw[hf];generalize pI ((jG e (k.drop (i+1))).map (· +(i+1)))=R at *;have h1':(k[i].1=e)=False:=eq_false h1;clear h1 hf;refine au rfl rfl ?_;simp -implicitDefEqProofs[-List.getElem_cons_drop,h,hlt,h1',hw,ih]
theorem aqc(e:Int)(v:GV)(k:List Sn)(hk:k.length<=1000)(hf:jG e k=none):
 TT.lim 55 [.i .u64 e,v,.l (k.map sn)]=some [.i .i64 0,.i .i64 0,.b false]:=by
 have h0:TT.lim 56 [.i .u64 e,.l (k.map sn),.i .i64 k.length,.i .i64 0,v]=_:=Yp e v k hk k.length 0 (by omega);rw[dD,hf]at h0;simp only[acD,pI]at h0;refine au rfl rfl ?_;simp -implicitDefEqProofs[h0]
theorem aqe(e:Int)(v:GV)(k:List Sn)(hk:k.length<=1000)(j:Nat)(hf:jG e k=some j):
 TT.lim 55 [.i .u64 e,v,.l (k.map sn)]=some [.i .i64 0,.i .i64 (j:Int),.b true]:=by
 have h0:TT.lim 56 [.i .u64 e,.l (k.map sn),.i .i64 k.length,.i .i64 0,v]=_:=Yp e v k hk k.length 0 (by omega);rw[dD,hf]at h0;simp only[gI,pI,nC]at h0;refine au rfl rfl ?_;simp -implicitDefEqProofs[h0]
theorem aub(v:Int)(k:List Sn)(b:Int)(hk:Kp k):
 TT.lim 53 [.i .i64 v,.l (k.map sn),.i .u64 b]=some (Fh (wC v k b)):=by
 have h8:=hk.len;unfold wC;cases hl:k.getLast? with
 |none=>obtain rfl:=last_none hl;have h0:=asV (.i .i64 v) (.i .u64 b);refine au rfl rfl ?_;simp -implicitDefEqProofs[h0,Fh]
 |some l=>
  obtain⟨m,hm,ha,hmem⟩:=last_at hl;have h0:=asU (.i .i64 v) (.i .u64 b) k m l hm (by omega) ha (hk.tb l hmem).good;simp only;by_cases h1:l.1=b
  ·rw[aj h1];have h1':(l.1=b)=True:=eq_true h1;clear h1;refine au rfl rfl ?_;simp -implicitDefEqProofs[h0,h1',Fh]
  rw[ah h1];cases hf:jG b k with
  |none=>have h2:=aqc b (.i .i64 v) k (by omega) hf;refine au rfl rfl ?_;simp -implicitDefEqProofs[h0,h1,h2,Fh,full]
  |some j=>
   have h2:=aqe b (.i .i64 v) k (by omega) j hf;obtain⟨s,hs,-,hj⟩:=S9 hf;have hsm:s∈k:=rC hs;simp only[hs];have hj2:(j:Int)<k.length:=by omega
   by_cases h3:2<=v
   ·rw[aj h3];have kd:=ao5 s l (hk.tb s hsm).good (hk.tb l hmem).good;have e1:GV.g [.i .u64 s.1,.l (s.2.map row)]=sn s:=rfl;have e2:GV.g [.i .u64 l.1,.l (l.2.map row)]=sn l:=rfl;generalize oI s l=D at *;obtain⟨⟨d1,d2,d3⟩,d4⟩:=D;by_cases h4:d4=0
    ·rw[ah (by simpa using h4)];have h4':(d4=0)=True:=eq_true h4;subst h4;refine au rfl rfl ?_;simp -implicitDefEqProofs[h0,h1,h2,h3,hs,hj2,e1,e2,kd,Fh]
    ·rw[aj h4];refine au rfl rfl ?_;simp -implicitDefEqProofs[h0,h1,h2,h3,hs,hj2,e1,e2,kd,Fh,h4]
   ·rw[ah h3];refine au rfl rfl ?_;simp -implicitDefEqProofs[h0,h1,h2,h3,Fh,full]
theorem Yq(e:Int)(v b:GV)(k:List Sn)(hk:k.length<=1000):∀m i:Nat,i+m=k.length->
 TT.lim 234 [.i .u64 e,.l (k.map sn),.i .i64 k.length,.i .i64 i,v,b]=some (pI ((jG e (k.drop i)).map (· +i)))
 |0,i,hi=>by
  have h0:k.drop i=[]:=fZ (by omega);have h:¬((i:Int)<k.length):=by omega
  refine au rfl rfl ?_;simp -implicitDefEqProofs[h,h0,jG,pI]
 |m+1,i,hi=>by
  have hlt:i<k.length:=by omega
  have h:((i:Int)<k.length):=by omega
  have hw:=wrap64 (n:=(i:Int)+1) (by omega) (by omega);have ih:TT.lim 234 [.i .u64 e,.l (k.map sn),.i .i64 k.length,.i .i64 ((i:Int)+1),v,b]=_:=Yq e v b k hk m (i+1) (by omega);have hdr:k.drop i=k[i]::k.drop (i+1):=gY hlt;rw[hdr];by_cases h1:k[i].1=e
  ·have hf:pI ((jG e (k[i]::k.drop (i+1))).map (· +i))=[.i .i64 0,.i .i64 (i:Int)]:=by unfold jG;rw[WG,aj (by simpa using h1)];simp -implicitDefEqProofs[pI]
   rw[hf];have h1':(k[i].1=e)=True:=eq_true h1;clear h1 ih;refine au rfl rfl ?_;simp -implicitDefEqProofs[-List.getElem_cons_drop,h,hlt,h1',hw]
  ·have hf:pI ((jG e (k[i]::k.drop (i+1))).map (· +i))=pI ((jG e (k.drop (i+1))).map (· +(i+1))):=by
    unfold jG;rw[WG,ah (by simpa using h1)];cases List.findIdx? (λs:Sn=>decide (s.1=e)) (k.drop (i+1))with
    |none=>rfl
    |some j=>simp only[gI,pI];congr 3;omega
   rw[hf];generalize pI ((jG e (k.drop (i+1))).map (· +(i+1)))=R at *;have h1':(k[i].1=e)=False:=eq_false h1;clear h1 hf;refine au rfl rfl ?_;simp -implicitDefEqProofs[-List.getElem_cons_drop,h,hlt,h1',hw,ih]
theorem aqd(e:Int)(v b:GV)(k:List Sn)(hk:k.length<=1000)(hf:jG e k=none):
 TT.lim 233 [.i .u64 e,v,.l (k.map sn),b]=some [.i .i64 0,.i .i64 0,.b false]:=by
 have h0:TT.lim 234 [.i .u64 e,.l (k.map sn),.i .i64 k.length,.i .i64 0,v,b]=_:=Yq e v b k hk k.length 0 (by omega);rw[dD,hf]at h0;simp only[acD,pI]at h0;refine au rfl rfl ?_;simp -implicitDefEqProofs[h0]
theorem aqf(e:Int)(v b:GV)(k:List Sn)(hk:k.length<=1000)(j:Nat)(hf:jG e k=some j):
 TT.lim 233 [.i .u64 e,v,.l (k.map sn),b]=some [.i .i64 0,.i .i64 (j:Int),.b true]:=by
 have h0:TT.lim 234 [.i .u64 e,.l (k.map sn),.i .i64 k.length,.i .i64 0,v,b]=_:=Yq e v b k hk k.length 0 (by omega);rw[dD,hf]at h0;simp only[gI,pI,nC]at h0;refine au rfl rfl ?_;simp -implicitDefEqProofs[h0]
theorem akc(e:Int)(v:GV)(k:List Sn)(b:Int)(hk:k.length<=1000):
 TT.lim 232 [.i .u64 e,v,.l (k.map sn),.i .u64 b]=some [.i .i64 0,.b (BR e k b).1,.l ((BR e k b).2.1.map sn),.i .u64 (BR e k b).2.2]:=by
 unfold BR;by_cases h1:e<=b
 ·rw[aj h1];refine au rfl rfl ?_;simp -implicitDefEqProofs[h1]
 ·rw[ah h1];cases hf:jG e k with
  |none=>have h2:=aqd e v (.i .u64 b) k hk hf;refine au rfl rfl ?_;simp -implicitDefEqProofs[h1,h2]
  |some j=>
   have h2:=aqf e v (.i .u64 b) k hk j hf;obtain⟨x,-,-,hj⟩:=S9 hf;have hl:=agz (k:=k) (i:=j) (by omega);have ha:=aiO (k.drop j);have hb:2*(k.drop j).length*32<=281474976710656/\(k.drop j).length<=281474976710656:=by rw[eX];omega
   show _=some [_,_,GV.l ((k.drop j).map sn),_]
   generalize k.drop j=R at *;refine au rfl rfl ?_;simp -implicitDefEqProofs[-lD,-List.all_eq_true,-List.all_map,h1,h2,hl,ha,hb]
def Lh(a x:Int):Int:=if a<x then x else a
def Jk(c y:Int):Int:=if y<c then y else c
def mZ(a c x y:Int):Int×Bool:=if Jk c y<Lh a x then(0,false)else(Jk c y,true)
theorem alP(a c x y:Int):TT.lim 209 [.g [.i .u64 a,.i .u64 c],.g [.i .u64 x,.i .u64 y]]=some [.i .u64 (mZ a c x y).1,.b (mZ a c x y).2]:=by
 have h1:∀p q:Int,TT.lim 211 [.l [.g [.i .u64 x,.i .u64 y]],.i .i64 1,.i .i64 1,.i .u64 p,.i .u64 q]=some [.i .i64 0,.i .u64 p,.i .u64 q]:=by intro p q;refine au rfl rfl ?_;simp
 have h0:TT.lim 211 [.l [.g [.i .u64 x,.i .u64 y]],.i .i64 1,.i .i64 0,.i .u64 a,.i .u64 c]=some [.i .i64 0,.i .u64 (Lh a x),.i .u64 (Jk c y)]:=by have h:=h1 (Lh a x) (Jk c y);have w:IntKind.i64.wrap 1=1:=rfl;refine au rfl rfl ?_;simp -implicitDefEqProofs[w];exact h
 have h2:TT.lim 210 [.l [.g [.i .u64 a,.i .u64 c],.g [.i .u64 x,.i .u64 y]]]=some [.i .u64 (mZ a c x y).1,.b (mZ a c x y).2]:=by
  unfold mZ;by_cases hc:Jk c y<Lh a x
  ·rw[aj hc];refine aP rfl rfl ?_ rfl;simp -implicitDefEqProofs[h0,hc]
  ·rw[ah hc];refine aP rfl rfl ?_ rfl;simp -implicitDefEqProofs[h0,hc]
 refine aP rfl rfl ?_ rfl;simp -implicitDefEqProofs[h2]
def lV(b:aT)(v:Int):Wg:=if(y8 b [] v).2=0 then[(y8 b [] v).1]else[]
theorem PX{b:aT}(hm:zT b [])(v:Int):TT.lim 61 [iq b [],.i .i64 v]=some [.l ((lV b v).map .s)]:=by
 have he:=avb hm v;have he:TT.lim 62 [iq b [],.i .i64 v]=some [.s (y8 b [] v).1,.i .i64 (y8 b [] v).2]:=he;unfold lV;generalize y8 b [] v=E at *;obtain⟨t,e⟩:=E;by_cases h:e=0
 ·rw[aj h];subst h;refine aP rfl rfl ?_ rfl;simp -implicitDefEqProofs[jW,he]
 ·rw[ah h];refine aP rfl rfl ?_ rfl;simp -implicitDefEqProofs[jW,he,h]
theorem ain(b:aT)(v:Int):(lV b v).length<=1:=by unfold lV;split<;>simp
structure fK where
 mn:Int
 mx:Int
 name:Q0
 first:Bool
 st:Int
 ver:Int
 vs:Int
 sm:Bool
 h:Sn
 k:List Sn
 b:Int
structure qp(s:fK):Prop where
 mn:1<=s.mn
 mx:s.mx<=3
 le:s.mn<=s.mx
 name:s.name.length<=256
 ver:0<=s.ver/\s.ver<=3
 rc:Rec s.vs s.sm s.h
 kp:Kp s.k
def dL(s:fK):Q1:=[.i .u64 s.mn,.i .u64 s.mx,.s s.name,.b s.first,.i .i64 s.st,.i .i64 s.ver,.i .i64 s.vs,.b s.sm,.i .u64 s.h.1,.l (s.h.2.map row),.l (s.k.map sn),.i .u64 s.b]
theorem Qn{b:aT}(hb:sH b)(hd:b.d=[])(ht:fQ b.t)(h1:b.name.length<=600)(h2:b.region=[])(h3:b.note=[]):zT b []:=
 ⟨⟨hb,by rw[hd];rfl,ht,by simp only[dS],by simp⟩,⟨h1,by rw[h2];simp,by rw[h3];simp⟩,by simp[cO],by simp[wL]⟩
def Qe(m:Tm):aT:=Rk m.1 m.2.1 m.2.2.1 m.2.2.2
def pX(s:fK):Wg×Int:=
 if s.st=2 then(if(wC s.vs s.k s.b).2=0 then(lV (Qe (wC s.vs s.k s.b).1) s.ver,2)else([],2))
 else if s.first=true then(if s.st=3 then([],3)else(lV (KX s.mn s.mx s.name) 1,1))else([],s.st)
theorem arF{a c:Int}{n:Q0}(ha:0<=a/\a<18446744073709551616)(hc:0<=c/\c<18446744073709551616)(hn:n.length<=600):zT (KX a c n) []:=by refine Qn ?_ rfl FQ.good hn rfl rfl;refine⟨?_,?_,ha,hc,?_,?_,?_,?_,?_,?_,?_,?_,?_,?_,?_,?_,?_,?_,?_,?_,?_,?_⟩<;>first|(simp only[KX];omega)|simp[KX,qJ,Rows]
theorem aAk{v:Int}{k:List Sn}{b:Int}(hk:Kp k):zT (Qe (wC v k b).1) []:=by obtain⟨h1,h2,h3,h4⟩:=auc (v:=v) (b:=b) hk;exact Qn (akD h1 h2 h3 h4.rows) rfl h4 (by simp[Qe,Rk]) rfl rfl
theorem ahQ(s:fK)(hs:qp s):TT.lim 252 (dL s)=some [.i .i64 0,.l ((pX s).1.map .s),.i .i64 (pX s).2]:=by
 have hm:=aub s.vs s.k s.b hs.kp;have h1:=hs.mn;have h2:=hs.mx;have h3:=hs.le;have hn:=hs.name;have hy:TT.lim 61 [.g [.i .i64 1,.i .u64 0,.i .u64 s.mn,.i .u64 s.mx,.i .u64 0,.i .u64 0,.i .u64 0,.i .u64 0,.i .u64 0,.i .u64 0,.i .u64 0,.i .u64 0,.i .u64 0,.i .u64 0,.i .u64 0,.i .u64 0,.i .i64 0,.b false,.s s.name,.s [],.s [],.l [],.l [],.l []],.i .i64 1]=some [.l ((lV (KX s.mn s.mx s.name) 1).map .s)]:=PX (arF (a:=s.mn) (c:=s.mx) (n:=s.name) (by omega) (by omega) (by omega)) 1;have hw:=PX (aAk (v:=s.vs) (b:=s.b) hs.kp) s.ver;unfold pX;unfold dL;generalize wC s.vs s.k s.b=M at *;have hw:TT.lim 61 [.g [.i .i64 M.1.1,.i .u64 0,.i .u64 0,.i .u64 0,.i .u64 0,.i .u64 0,.i .u64 0,.i .u64 0,.i .u64 0,.i .u64 0,.i .u64 M.1.2.1,.i .u64 M.1.2.2.1,.i .u64 0,.i .u64 0,.i .u64 0,.i .u64 0,.i .i64 0,.b false,.s [],.s [],.s [],.l [],.l (M.1.2.2.2.map row),.l []],.i .i64 s.ver]=some [.l ((lV (Qe M.1) s.ver).map .s)]:=hw;generalize lV (KX s.mn s.mx s.name) 1=Y at *;generalize lV (Qe M.1) s.ver=W at *;simp only[Fh]at hm;by_cases c2:s.st=2
 ·rw[aj c2];have c2':(s.st=2)=True:=eq_true c2;by_cases e:M.2=0
  ·rw[aj e];have e':(M.2=0)=True:=eq_true e;rw[e]at hm;refine au rfl rfl ?_;simp -implicitDefEqProofs[c2',hm,hw]
  ·rw[ah e];refine au rfl rfl ?_;simp -implicitDefEqProofs[c2',hm,e]
 rw[ah c2];by_cases cf:s.first=true
 ·rw[aj cf];by_cases c3:s.st=3
  ·rw[aj c3];have c3':(s.st=3)=True:=eq_true c3;refine au rfl rfl ?_;simp -implicitDefEqProofs[c2,cf,c3']
  ·rw[ah c3];refine au rfl rfl ?_;simp -implicitDefEqProofs[c2,cf,c3,hy]
 ·rw[ah cf];have XJ:s.first=false:=by simpa using cf
  refine au rfl rfl ?_;simp -implicitDefEqProofs[c2,XJ]
theorem ahV(x:Sn)(s:fK)(hx:fQ x.2)(hs:qp s):TT.lim 250 (.i .u64 x.1::.l (x.2.map row)::dL s)=some [.i .i64 0,.i .i64 (uh x s.k s.b).1,.l ((uh x s.k s.b).2.1.map sn),.i .u64 (uh x s.k s.b).2.2]:=by have hp:=avS x (.i .i64 s.vs) s.k s.b hx hs.kp;unfold dL;generalize uh x s.k s.b=P at *;refine au rfl rfl ?_;simp -implicitDefEqProofs[hp]
def Em(v:Int)(n:Q0):aT:={iZ with kind:=2,chosen:=v,name:=n}
def L8:aT:={iZ with kind:=8,code:=16}
theorem akj{v:Int}{n:Q0}(hv:0<=v/\v<18446744073709551616)(hn:n.length<=600):zT (Em v n) []:=by refine Qn ?_ rfl FQ.good hn rfl rfl;refine⟨?_,?_,?_,?_,hv,?_,?_,?_,?_,?_,?_,?_,?_,?_,?_,?_,?_,?_,?_,?_,?_,?_⟩<;>first|(simp only[Em];omega)|simp[Em,iZ,qJ,Rows]
theorem awK:zT L8 []:=by refine Qn ?_ rfl FQ.good (by simp[L8,iZ]) rfl rfl;refine⟨?_,?_,?_,?_,?_,?_,?_,?_,?_,?_,?_,?_,?_,?_,?_,?_,?_,?_,?_,?_,?_,?_⟩<;>simp[L8,iZ,qJ,Rows]
theorem acP(s:fK)(hs:qp s)(hv:0<=s.ver/\s.ver<=3):TT.lim 242 (dL s)=some [.i .i64 0,.l ((lV (Em s.ver s.name) 1).map .s)]:=by have hn:=hs.name;have hw:=gJ (n:=s.ver) hv.1 (by omega);have hy:TT.lim 61 [.g [.i .i64 2,.i .u64 0,.i .u64 0,.i .u64 0,.i .u64 s.ver,.i .u64 0,.i .u64 0,.i .u64 0,.i .u64 0,.i .u64 0,.i .u64 0,.i .u64 0,.i .u64 0,.i .u64 0,.i .u64 0,.i .u64 0,.i .i64 0,.b false,.s s.name,.s [],.s [],.l [],.l [],.l []],.i .i64 1]=some [.l ((lV (Em s.ver s.name) 1).map .s)]:=PX (akj (v:=s.ver) (n:=s.name) (by omega) (by omega)) 1;unfold dL;generalize lV (Em s.ver s.name) 1=Y at *;refine au rfl rfl ?_;simp -implicitDefEqProofs[hw,hy]
theorem alM{a c x y:Int}(h:(mZ a c x y).2=true):Lh a x<=(mZ a c x y).1/\(mZ a c x y).1=Jk c y:=by
 unfold mZ at h⊢;split
 ·next h1=>rw[aj h1]at h;cases h
 ·exact⟨by simp only;omega,rfl⟩
theorem adT{a c x y:Int}(h:(mZ a c x y).2=true):a<=(mZ a c x y).1/\x<=(mZ a c x y).1/\(mZ a c x y).1<=c/\(mZ a c x y).1<=y:=by obtain⟨h1,h2⟩:=alM h;generalize(mZ a c x y).1=z at *;unfold Lh at h1;unfold Jk at h2;split at h1<;>split at h2<;>omega
def oM(m:aT)(s:fK):fK×Wg×Int:=
 if s.first=true then(s,[],22)else if m.min<1 then(s,[],18)else if m.max<m.min then(s,[],18)else if 255<m.max then(s,[],18)else
 if s.st=2 then(if(mZ s.mn s.mx m.min m.max).2=true/\(mZ s.mn s.mx m.min m.max).1=s.ver then(s,lV (Em s.ver s.name) 1,0)else(s,[],22))
 else if(mZ s.mn s.mx m.min m.max).2=false\/s.st=3 then({s with st:=3},lV L8 1,16)
 else({s with st:=2,ver:=(mZ s.mn s.mx m.min m.max).1,vs:=(mZ s.mn s.mx m.min m.max).1},lV (Em (mZ s.mn s.mx m.min m.max).1 s.name) 1,0)
theorem arD(m:aT)(fl:List aI)(s:fK)(hk:m.kind=1)(hs:qp s):TT.lim 241 ((iq m (aG fl)).cells++dL s)=some [.i .i64 0,.l ((oM m s).2.1.map .s),.i .i64 (oM m s).2.2,.i .i64 (oM m s).1.st,.i .i64 (oM m s).1.ver,.i .i64 (oM m s).1.vs]:=by
 have hc:=alP s.mn s.mx m.min m.max;have hl:=@adT s.mn s.mx m.min m.max;have hr:TT.lim 61 [.g [.i .i64 8,.i .u64 0,.i .u64 0,.i .u64 0,.i .u64 0,.i .u64 0,.i .u64 0,.i .u64 0,.i .u64 0,.i .u64 0,.i .u64 0,.i .u64 0,.i .u64 0,.i .u64 0,.i .u64 16,.i .u64 0,.i .i64 0,.b false,.s [],.s [],.s [],.l [],.l [],.l []],.i .i64 1]=some [.l ((lV L8 1).map .s)]:=PX awK 1;have ha:=acP s hs hs.ver;have hb:=λ(v:Int)(h:1<=v/\v<=3)=>acP {s with st:=2,ver:=v,vs:=v} ⟨hs.mn,hs.mx,hs.le,hs.name,⟨by simp only;omega,h.2⟩,⟨h.1,h.2,hs.rc.good,hs.rc.ep,hs.rc.no⟩,hs.kp⟩ ⟨by simp only;omega,h.2⟩;have h1:=hs.mn;have h2:=hs.mx;have hv:=hs.ver;have hwv:=gJ (n:=s.ver) hv.1 (by omega);rw[dO];unfold oM;simp only[dL,bC,aV]at ha hb⊢;generalize mZ s.mn s.mx m.min m.max=C at *;generalize lV L8 1=RJ at *;rw[hk];by_cases c0:s.first=true
 ·rw[aj c0];refine au rfl rfl ?_;simp -implicitDefEqProofs[c0]
 rw[ah c0];have c0':s.first=false:=by simpa using c0
 rw[c0']at ha hb;simp only[c0'];by_cases c1:m.min<1
 ·rw[aj c1];refine au rfl rfl ?_;simp -implicitDefEqProofs[c1]
 rw[ah c1];by_cases c3:m.max<m.min
 ·rw[aj c3];refine au rfl rfl ?_;simp -implicitDefEqProofs[c1,c3]
 rw[ah c3];by_cases c4:255<m.max
 ·rw[aj c4];refine au rfl rfl ?_;simp -implicitDefEqProofs[c1,c3,c4]
 rw[ah c4];by_cases c5:s.st=2
 ·rw[aj c5];have XA:(s.st=2)=True:=eq_true c5;by_cases c6:C.2=true
  ·by_cases c7:C.1=s.ver
   ·rw[aj ⟨c6,c7⟩];have XB:(C.1=s.ver)=True:=eq_true c7;refine au rfl rfl ?_;simp -implicitDefEqProofs[c1,c3,c4,XA,hc,c6,XB,hwv,ha]
   ·rw[ah (λh=>c7 h.2)];refine au rfl rfl ?_;simp -implicitDefEqProofs[c1,c3,c4,XA,hc,c6,c7,hwv]
  ·rw[ah (λh=>c6 h.1)];have Rt:C.2=false:=by simpa using c6
   refine au rfl rfl ?_;simp -implicitDefEqProofs[c1,c3,c4,XA,hc,Rt]
 rw[ah c5];by_cases c6:C.2=true;rotate_left
 ·have Rt:C.2=false:=by simpa using c6
  rw[aj (.inl Rt)];refine au rfl rfl ?_;simp -implicitDefEqProofs[c1,c3,c4,c5,hc,Rt,hr]
 by_cases c7:s.st=3
 ·rw[aj (.inr c7)];have XB:(s.st=3)=True:=eq_true c7;refine au rfl rfl ?_;simp -implicitDefEqProofs[c1,c3,c4,c5,hc,c6,XB,hr]
 rw[ah (λh=>h.elim (λe=>by rw[c6]at e;cases e) c7)];obtain⟨l1,l2,l3,l4⟩:=hl c6;have hb:=hb C.1 ⟨by omega,by omega⟩;have hwi:=wrap64 (n:=C.1) (by omega) (by omega);have g1:1<=C.1:=by omega
 have g3:C.1<=3:=by omega
 refine au rfl rfl ?_;simp -implicitDefEqProofs[c1,c3,c4,c5,hc,c6,c7,hwi,g1,g3,hb]
def Hw(m:aT)(s:fK):fK×Wg×Int:=
 if s.st=1 then(if s.mn<=m.chosen/\m.chosen<=s.mx then({s with st:=2,ver:=m.chosen,vs:=m.chosen},[],0)else({s with st:=3},[],16))
 else if s.st=2/\s.first=true/\m.chosen=s.ver then(s,[],0)else(s,[],22)
def mM(m:aT)(fl:List aI)(s:fK):fK×Wg×Int:=
 if s.st=2 then
  ({s with sm:=(oh (jg m fl s.vs) s.vs m.kind m.epoch m.base m.t s.sm s.h).2.2.1,h:=(oh (jg m fl s.vs) s.vs m.kind m.epoch m.base m.t s.sm s.h).2.2.2},
   if(oh (jg m fl s.vs) s.vs m.kind m.epoch m.base m.t s.sm s.h).1.1=0 then[]else lV (je (oh (jg m fl s.vs) s.vs m.kind m.epoch m.base m.t s.sm s.h).1) s.ver,
   (oh (jg m fl s.vs) s.vs m.kind m.epoch m.base m.t s.sm s.h).2.1)
 else(s,[],22)
def qP(m:aT)(s:fK):fK×Wg×Int:=
 if s.st=2 then({s with k:=(BR m.epoch s.k s.b).2.1,b:=(BR m.epoch s.k s.b).2.2},[],0)else(s,[],22)
def noS(m:aT)(s:fK):fK×Wg×Int:=
 if s.st=2 then({s with b:=0},[],0)else if s.st=1/\m.code=16 then({s with st:=3},[],16)else(s,[],22)
def Fz(m:aT)(fl:List aI)(s:fK):fK×Wg×Int:=
 if m.kind=1 then oM m s else if m.kind=2 then Hw m s else if m.kind=5\/m.kind=6 then mM m fl s else if m.kind=7 then qP m s else if m.kind=8 then noS m s else(s,[],15)
def qW(s:fK):Int:=if s.st=2 then s.ver else 1
def lq(t:Q0)(s:fK):fK×Wg×Int:=
 if(lK t (qW s)).2.2=0 then Fz (lK t (qW s)).1 (lK t (qW s)).2.1 s else(s,[],(lK t (qW s)).2.2)
def TN(r:fK×Wg×Int):Q1:=[.i .i64 0,.l (r.2.1.map .s),.i .i64 r.2.2,.i .i64 r.1.st,.i .i64 r.1.ver,.i .i64 r.1.vs,.b r.1.sm,.i .u64 r.1.h.1,.l (r.1.h.2.map row),.l (r.1.k.map sn),.i .u64 r.1.b]
theorem take_zero(c v kd ep ba:Int)(t:List Row)(sm:Bool)(h:Sn)(h0:(oh c v kd ep ba t sm h).1.1=0):(oh c v kd ep ba t sm h).1=(0,0,0,0):=by
 unfold oh at h0⊢;split
 ·rfl
 next h1=>
 rw[ah h1]at h0;split
 ·next h2=>
  rw[aj h2]at h0;split at h0<;>simp at h0
 next h2=>
 rw[ah h2]at h0;split
 ·next h3=>
  rw[aj h3]at h0;split at h0
  ·simp at h0
  ·split at h0<;>simp at h0
 ·rfl
theorem azi(m:aT)(fl:List aI)(s:fK)(hm:rE m fl)(hs:qp s):TT.lim 243 ((iq m (aG fl)).cells++dL s)=some [.i .i64 0,.l ((mM m fl s).2.1.map .s),.i .i64 (mM m fl s).2.2,.b (mM m fl s).1.sm,.i .u64 (mM m fl s).1.h.1,.l ((mM m fl s).1.h.2.map row)]:=by
 have ht:=aAh m fl s.vs s.sm s.h hm.body hm.t hm.f8 hm.len hs.rc.good;obtain⟨hr,hb,hz⟩:=ah4 hs.rc (jg m fl s.vs) m.kind m.epoch m.base m.t hm.t hm.body.epoch;have h0:=take_zero (jg m fl s.vs) s.vs m.kind m.epoch m.base m.t s.sm s.h;unfold mM;by_cases c2:s.st=2;rotate_left
 ·rw[ah c2,dO];simp only[dL,bC,aV];refine au rfl rfl ?_;simp -implicitDefEqProofs[c2]
 rw[aj c2];have c2':(s.st=2)=True:=eq_true c2;rw[dO]at ht⊢;simp only[dL,bC,aV]at ht⊢;generalize oh (jg m fl s.vs) s.vs m.kind m.epoch m.base m.t s.sm s.h=R at *;obtain⟨⟨a1,a2,a3,a4⟩,e,sm,h⟩:=R;have hw:zT (je (a1,a2,a3,a4)) []:=Qn hb rfl FQ.good (by simp[je]) rfl rfl;have hsd:TT.lim 61 [.g [.i .i64 a1,.i .u64 0,.i .u64 0,.i .u64 0,.i .u64 0,.i .u64 0,.i .u64 0,.i .u64 0,.i .u64 0,.i .u64 0,.i .u64 a2,.i .u64 0,.i .u64 0,.i .u64 0,.i .u64 a3,.i .u64 a4,.i .i64 0,.b false,.s [],.s [],.s [],.l [],.l [],.l []],.i .i64 s.ver]=some [.l ((lV (je (a1,a2,a3,a4)) s.ver).map .s)]:=PX hw s.ver;have hq:TT.lim 220 [.g [.i .i64 a1,.i .u64 0,.i .u64 0,.i .u64 0,.i .u64 0,.i .u64 0,.i .u64 0,.i .u64 0,.i .u64 0,.i .u64 0,.i .u64 a2,.i .u64 0,.i .u64 0,.i .u64 0,.i .u64 a3,.i .u64 a4,.i .i64 0,.b false,.s [],.s [],.s [],.l [],.l [],.l []],.g [.i .i64 0,.i .u64 0,.i .u64 0,.i .u64 0,.i .u64 0,.i .u64 0,.i .u64 0,.i .u64 0,.i .u64 0,.i .u64 0,.i .u64 0,.i .u64 0,.i .u64 0,.i .u64 0,.i .u64 0,.i .u64 0,.i .i64 0,.b false,.s [],.s [],.s [],.l [],.l [],.l []]]=some [.b (dG (je (a1,a2,a3,a4)=iZ/\([]:List aI)=[]))]:=by
  have:=hw.msg.atC (fc:=[]) FX (by simp[cO]);have fn:aG []=[]:=by simp only[aG]
  rw[fn]at this;exact this
 generalize lV (je (a1,a2,a3,a4)) s.ver=W at *;simp only[wO]at ht;simp only at h0⊢;by_cases c:a1=0
 ·rw[aj c];have e4:=h0 c;injection e4 with e1 e4
  injection e4 with e2 e4
  injection e4 with e3 e4
  subst e1 e2 e3 e4;rw[lu ⟨rfl,rfl⟩]at hq;refine au rfl rfl ?_;simp -implicitDefEqProofs[c2',ht,hq]
 ·rw[ah c];rw[jT (λh=>c (uK aT.kind h.1))]at hq;refine au rfl rfl ?_;simp -implicitDefEqProofs[c2',ht,hq,hsd]
theorem ake(m:aT)(fl:List aI)(s:fK)(hs:qp s):TT.lim 245 ((iq m (aG fl)).cells++dL s)=some [.i .i64 0,.i .i64 (qP m s).2.2,.l ((qP m s).1.k.map sn),.i .u64 (qP m s).1.b]:=by
 have ha:=akc m.epoch (.i .i64 s.vs) s.k s.b (by have:=hs.kp.len;omega);unfold qP;by_cases c2:s.st=2;rotate_left
 ·rw[ah c2,dO];simp only[dL,bC,aV];refine au rfl rfl ?_;simp -implicitDefEqProofs[c2]
 rw[aj c2];have c2':(s.st=2)=True:=eq_true c2;rw[dO];simp only[dL,bC,aV];generalize BR m.epoch s.k s.b=A at *;refine au rfl rfl ?_;simp -implicitDefEqProofs[c2',ha]
theorem arC(m:aT)(s:fK):(oM m s).1.sm=s.sm/\(oM m s).1.h=s.h/\(oM m s).1.k=s.k/\(oM m s).1.b=s.b/\(oM m s).1.mn=s.mn/\(oM m s).1.mx=s.mx/\(oM m s).1.name=s.name/\(oM m s).1.first=s.first:=by
 unfold oM;repeat' split
 all_goals simp
set_option maxHeartbeats 2000000 in
theorem afs(t:Q0)(s:fK)(ht:t.length<=140737488351232)(hs:qp s):TT.lim 240 (.s t::dL s)=some (TN (lq t s)):=by
 have hd:=decode_ok t (qW s) ht;have hm:=ad7 t (qW s);unfold lq;generalize lK t (qW s)=D at *;obtain⟨m,fl,e⟩:=D;simp only at hd hm⊢;have hh:=arD m fl s;have hp:=azi m fl s hm hs;have ha:=ake m fl s hs;have hkeep:=arC m s;have asb:=hs.ver;have hwv:=gJ (n:=s.ver) asb.1 (by omega);have hmn:=hs.mn;have hmx:=hs.mx;rw[dO]at hh hp ha;unfold qW at hd;unfold TN;have hE:s.st=2\/¬s.st=2:=Qu _;by_cases he:e=0;rotate_left
 ·rw[ah he];simp only[dL];rcases hE with c2|c2
  ·rw[aj c2]at hd;have c2':(s.st=2)=True:=eq_true c2;refine au rfl rfl ?_;simp -implicitDefEqProofs[c2',hd,he]
  ·rw[ah c2]at hd;refine au rfl rfl ?_;simp -implicitDefEqProofs[c2,hd,he]
 rw[aj he];subst he;unfold Fz;by_cases k1:m.kind=1
 ·rw[aj k1];have hh:=hh k1 hs;obtain⟨q1,q2,q3,q4,-⟩:=hkeep;rw[q1,q2,q3,q4];generalize oM m s=H at *;simp only[dL,bC,aV]at hh⊢;rw[k1]at hh;have k1':(m.kind=1)=True:=eq_true k1;rcases hE with c2|c2
  ·rw[aj c2]at hd;have c2':(s.st=2)=True:=eq_true c2;rw[c2]at hh;refine au rfl rfl ?_;simp -implicitDefEqProofs[c2,hd,k1,hh]
  ·rw[ah c2]at hd;refine au rfl rfl ?_;simp -implicitDefEqProofs[c2,hd,k1,hh]
 rw[ah k1];by_cases k2:m.kind=2
 ·rw[aj k2];have k2':(m.kind=2)=True:=eq_true k2;unfold Hw;simp only[dL];rcases hE with c2|c2
  ·rw[aj c2]at hd;rw[ah (by omega)];have c2':(s.st=2)=True:=eq_true c2;by_cases cf:s.first=true
   ·by_cases cv:m.chosen=s.ver
    ·rw[aj ⟨c2,cf,cv⟩];have cv':(m.chosen=s.ver)=True:=eq_true cv;refine au rfl rfl ?_;simp -implicitDefEqProofs[c2,hd,k2,cf,cv',hwv]
    ·rw[ah (λh=>cv h.2.2)];refine au rfl rfl ?_;simp -implicitDefEqProofs[c2,hd,k2,cf,cv,hwv]
   ·rw[ah (λh=>cf h.2.1)];have XJ:s.first=false:=by simpa using cf
    refine au rfl rfl ?_;simp -implicitDefEqProofs[c2,hd,k2,XJ]
  ·rw[ah c2]at hd;by_cases c1:s.st=1
   ·rw[aj c1];by_cases r1:s.mn<=m.chosen
    ·by_cases r2:m.chosen<=s.mx
     ·rw[aj ⟨r1,r2⟩];have g1:1<=m.chosen:=by omega
      have g3:m.chosen<=3:=by omega
      have hwi:=wrap64 (n:=m.chosen) (by omega) (by omega);refine au rfl rfl ?_;simp -implicitDefEqProofs[c1,hd,k2,r1,r2,hwi,g1,g3]
     ·rw[ah (λh=>r2 h.2)];refine au rfl rfl ?_;simp -implicitDefEqProofs[c1,hd,k2,r1,r2]
    ·rw[ah (λh=>r1 h.1)];refine au rfl rfl ?_;simp -implicitDefEqProofs[c1,hd,k2,r1]
   ·rw[ah c1,ah (λh=>c2 h.1)];refine au rfl rfl ?_;simp -implicitDefEqProofs[c1,c2,hd,k2]
 rw[ah k2];by_cases k5:m.kind=5
 ·rw[aj (.inl k5)];have g:(mM m fl s).1.st=s.st/\(mM m fl s).1.ver=s.ver/\(mM m fl s).1.vs=s.vs/\(mM m fl s).1.k=s.k/\(mM m fl s).1.b=s.b:=by unfold mM;split<;>simp
  rw[g.1,g.2.1,g.2.2.1,g.2.2.2.1,g.2.2.2.2];generalize mM m fl s=H at *;simp only[dL,bC,aV]at hp⊢;rw[k5]at hp;rcases hE with c2|c2
  ·rw[aj c2]at hd;rw[c2]at hp;refine au rfl rfl ?_;simp -implicitDefEqProofs[c2,hd,k5,hp]
  ·rw[ah c2]at hd;refine au rfl rfl ?_;simp -implicitDefEqProofs[c2,hd,k5,hp]
 by_cases k6:m.kind=6
 ·rw[aj (.inr k6)];have g:(mM m fl s).1.st=s.st/\(mM m fl s).1.ver=s.ver/\(mM m fl s).1.vs=s.vs/\(mM m fl s).1.k=s.k/\(mM m fl s).1.b=s.b:=by unfold mM;split<;>simp
  rw[g.1,g.2.1,g.2.2.1,g.2.2.2.1,g.2.2.2.2];generalize mM m fl s=H at *;simp only[dL,bC,aV]at hp⊢;rw[k6]at hp;rcases hE with c2|c2
  ·rw[aj c2]at hd;rw[c2]at hp;refine au rfl rfl ?_;simp -implicitDefEqProofs[c2,hd,k6,hp]
  ·rw[ah c2]at hd;refine au rfl rfl ?_;simp -implicitDefEqProofs[c2,hd,k6,hp]
 rw[ah (λh=>h.elim k5 k6)];by_cases k7:m.kind=7
 ·rw[aj k7];have g:(qP m s).1.st=s.st/\(qP m s).1.ver=s.ver/\(qP m s).1.vs=s.vs/\(qP m s).1.sm=s.sm/\(qP m s).1.h=s.h/\(qP m s).2.1=[]:=by unfold qP;split<;>simp
  rw[g.1,g.2.1,g.2.2.1,g.2.2.2.1,g.2.2.2.2.1,g.2.2.2.2.2];generalize qP m s=H at *;simp only[dL,bC,aV]at ha⊢;rw[k7]at ha;rcases hE with c2|c2
  ·rw[aj c2]at hd;rw[c2]at ha;refine au rfl rfl ?_;simp -implicitDefEqProofs[c2,hd,k7,ha]
  ·rw[ah c2]at hd;refine au rfl rfl ?_;simp -implicitDefEqProofs[c2,hd,k7,ha]
 rw[ah k7];by_cases k8:m.kind=8
 ·rw[aj k8];unfold noS;simp only[dL];rcases hE with c2|c2
  ·rw[aj c2]at hd;rw[aj c2];refine au rfl rfl ?_;simp -implicitDefEqProofs[c2,hd,k8]
  ·rw[ah c2]at hd;rw[ah c2];by_cases c1:s.st=1
   ·by_cases c9:m.code=16
    ·rw[aj ⟨c1,c9⟩];have c9':(m.code=16)=True:=eq_true c9;refine au rfl rfl ?_;simp -implicitDefEqProofs[c1,hd,k8,c9']
    ·rw[ah (λh=>c9 h.2)];refine au rfl rfl ?_;simp -implicitDefEqProofs[c1,hd,k8,c9]
   ·rw[ah (λh=>c1 h.1)];refine au rfl rfl ?_;simp -implicitDefEqProofs[c1,c2,hd,k8]
 ·rw[ah k8];simp only[dL];by_cases k3:m.kind=3
  ·rcases hE with c2|c2
   ·rw[aj c2]at hd;refine au rfl rfl ?_;simp -implicitDefEqProofs[c2,hd,k3]
   ·rw[ah c2]at hd;refine au rfl rfl ?_;simp -implicitDefEqProofs[c2,hd,k3]
  by_cases k4:m.kind=4
  ·rcases hE with c2|c2
   ·rw[aj c2]at hd;refine au rfl rfl ?_;simp -implicitDefEqProofs[c2,hd,k4]
   ·rw[ah c2]at hd;refine au rfl rfl ?_;simp -implicitDefEqProofs[c2,hd,k4]
  rcases hE with c2|c2
  ·rw[aj c2]at hd;refine au rfl rfl ?_;simp -implicitDefEqProofs[c2,hd,k1,k2,k3,k4,k5,k6,k7,k8]
  ·rw[ah c2]at hd;refine au rfl rfl ?_;simp -implicitDefEqProofs[c2,hd,k1,k2,k3,k4,k5,k6,k7,k8]
def F7(ks:List Int)(t:Q0):Prop:=∀w,(lK t w).2.2=0->(lK t w).1.kind∈ks
theorem ao3{t x:Q0}{k:Nat}(hk:k<18446744073709551616)(ht:t=aY k++x)(w:Int)(h:(lK t w).2.2=0):(lK t w).1.kind=k:=by
 have hv:(aB t).1=k:=by rw[ht,ajy k x hk]
 unfold lK at h⊢;split
 ·next c=>rw[aj c]at h;exact absurd h (by decide)
 next c=>
 rw[ah c]at h;split
 ·next c=>rw[aj c]at h;exact absurd h (by decide)
 next c=>
 rw[ah c]at h;split
 ·next c=>rw[aj c]at h;exact absurd h (by decide)
 next c=>
 rw[ah c]at h;split
 ·next c=>rw[aj c]at h;exact absurd h c
 next c=>
 rw[ah c]at h;split
 ·next c=>rw[aj c]at h;exact absurd h (by decide)
 next c=>
 rw[ah c]at h;split
 ·next c=>rw[aj c]at h;exact absurd h (by decide)
 next c=>
 rw[ah c]at h;split
 ·next c=>rw[aj c]at h;exact absurd h (by decide)
 next c=>
 rw[ah c]at h;split
 ·next c=>rw[aj c]at h;exact absurd h c
 next c=>
 rw[ah c]at h;simp only at h⊢;split
 ·next c=>rw[aj c]at h;exact absurd h c
 next c=>
 rw[ah c]at h;split
 ·next c=>rw[aj c]at h;exact absurd h c
 ·rw[ad8 _ _ _ (by simpa using c),hv]
theorem ayR{b:aT}{v:Int}{t:Q0}(h:t∈lV b v)(h0:0<=b.kind)(h8:b.kind<=8):F7 [b.kind] t/\t.length<=65536:=by
 unfold lV at h;split at h;rotate_left
 ·cases h
 next e=>
 have hl:=aeu b [] v;obtain rfl:=uy.1 h;refine⟨λw hw=>?_,hl⟩;unfold y8 at e hw⊢;split at e;rotate_left
 ·next c=>exact absurd e c
 next c=>
 rw[aj c]at hw⊢;split at e
 ·exact absurd e (by decide)
 next c2=>
 rw[ah c2]at hw⊢;simp only at hw⊢;have hq:=ao3 (t:=bytesV b [] v) (k:=b.kind.toNat) (by omega) rfl w hw;rw[hq];simp -implicitDefEqProofs[F6 h0]
theorem aAi(c v kd ep ba:Int)(t:List Row)(sm:Bool)(h:Sn):(oh c v kd ep ba t sm h).1.1=0\/(oh c v kd ep ba t sm h).1.1=7\/(oh c v kd ep ba t sm h).1.1=8:=by
 unfold oh;repeat' split
 all_goals simp
structure JE(p q p' q':fK):Prop where
 mn:p'.mn=p.mn
 mx:p'.mx=p.mx
 p2:p.st=2->p'.st=2
 p3:p.st=3->p'.st=3
 q2:q.st=2->q'.st=2
 q3:q.st=3->q'.st=3
theorem asI{ks ks':List Int}{t:Q0}(h:F7 ks t)(hs:∀k∈ks,k∈ks'):F7 ks' t:=λw e=>hs _ (h w e)
theorem JE.trans{p q p' q' p'' q'':fK}(a:JE p q p' q')(b:JE p' q' p'' q''):JE p q p'' q'':=
 ⟨b.mn.trans a.mn,b.mx.trans a.mx,λe=>b.p2 (a.p2 e),λe=>b.p3 (a.p3 e),λe=>b.q2 (a.q2 e),λe=>b.q3 (a.q3 e)⟩
def PE(x:Sn)(s:fK):fK:={s with k:=(uh x s.k s.b).2.1,b:=(uh x s.k s.b).2.2}
theorem ahT{x:Sn}{s:fK}(hs:qp s)(hx:fQ x.2)(h0:0<=x.1/\x.1<18446744073709551616):qp (PE x s):=
 ⟨hs.mn,hs.mx,hs.le,hs.name,hs.ver,hs.rc,avT hs.kp hx h0⟩
def FB(s:fK):fK:={s with st:=(pX s).2}
def Fin(ok:Bool)(p q:fK):Prop:=if ok=true then p.st=2/\q.st=2 else p.st=3/\q.st=3
theorem JE.fin{ok:Bool}{p q p' q':fK}(l:JE p q p' q')(h:Fin ok p q):Fin ok p' q':=by
 unfold Fin at h⊢;split
 ·next c=>rw[aj c]at h;exact⟨l.p2 h.1,l.q2 h.2⟩
 ·next c=>rw[ah c]at h;exact⟨l.p3 h.1,l.q3 h.2⟩
theorem YN(t:Q0)(s:fK):(lq t s).2.1.length<=1:=by
 unfold lq;split;rotate_left
 ·simp
 unfold Fz oM Hw mM qP noS;repeat' split
 all_goals first|exact ain _ _|simp
theorem aaE(s:fK):(pX s).1.length<=1:=by
 unfold pX;repeat' split
 all_goals first|exact ain _ _|simp
theorem TK(t:Q0)(s:fK):(lq t s).1.mn=s.mn/\(lq t s).1.mx=s.mx/\(lq t s).1.name=s.name/\(lq t s).1.first=s.first:=by
 unfold lq;split;rotate_left
 ·exact⟨rfl,rfl,rfl,rfl⟩
 unfold Fz oM Hw mM qP noS;repeat' split
 all_goals exact⟨rfl,rfl,rfl,rfl⟩
def lW(s:fK):Q1:=[.i .i64 s.st,.i .i64 s.ver,.i .i64 s.vs,.b s.sm,.i .u64 s.h.1,.l (s.h.2.map row),.l (s.k.map sn),.i .u64 s.b]
def newS(a c:Int)(n:Q0)(f:Bool):fK:=⟨a,c,n,f,0,0,1,false,zS,[],0⟩
theorem ag2{a c:Int}{n:Q0}{f:Bool}(h1:1<=a)(h2:a<=c)(h3:c<=3)(hn:n.length<=256):qp (newS a c n f):=
 ⟨h1,h3,h2,hn,by simp[newS],⟨by simp[newS],by simp[newS],FQ.good,by simp[newS,zS],λ_=>rfl⟩,Kp.nil⟩
theorem aiP(k:List Sn)(hk:Kp k)(v b:GV):∀(m i:Nat),i+m=k.length->
 TT.lim 259 [.l (k.map sn),.i .i64 (k.length:Int),.i .i64 (i:Int),v,b,.l ((k.take i).map sn)]=some [.i .i64 0,.l (k.map sn)]
 |0,i,hi=>by
  have hn:¬((i:Int)<k.length):=by omega
  rw[jZ (by omega)];refine au rfl rfl ?_;simp -implicitDefEqProofs[hn]
 |m+1,i,hi=>by
  have h8:=hk.len;have hlt:i<k.length:=by omega
  have hn:(i:Int)<k.length:=by omega
  have hw:IntKind.i64.wrap ((i:Int)+1)=((i+1:Nat):Int):=by rw[wrap64 (by omega) (by omega)];omega
  have ih:=aiP k hk v b m (i+1) (by omega);have hg:=(hk.tb _ (gK hlt)).good;have hc:=PZ k[i] hg;have hat:at2 2 (some (.l (k.map sn))) (some (.i .i64 (i:Int)))=some (sn k[i]):=by rw[dY,aj (by omega),wX,iP,bK hlt];rfl
  have hidx:Dc (some (.l (k.map sn))) (some (.i .i64 (i:Int)))=some (.i .i64 (i:Int)):=by rw[jh,aj ⟨by omega,by rw[fE];omega⟩]
  have hap:Gs 2 32 (some (.l ((k.take i).map sn))) (some (.l [sn k[i]]))=some (.l ((k.take (i+1)).map sn)):=by
   rw[Eo,aj]
   ·rw[List.take_add_one,bK hlt,lX];rfl
   ·refine⟨rfl,?_,?_⟩<;>simp only[fE,kF,gQ,kT]<;>omega
  rw[<-hw]at ih;generalize hx:k[i]=x at *;have e1:GV.g [.i .u64 x.1,.l (x.2.map row)]=sn x:=rfl;generalize(k.take (i+1)).map sn=T1 at *;generalize(k.take i).map sn=T0 at *;generalize k.map sn=KG at *;generalize(k.length:Int)=n0 at *;generalize(i:Int)=ii at *;refine au rfl rfl ?_;simp -implicitDefEqProofs[-jh,-dY,hn,hat,hidx,e1,hc,hap,ih]
theorem azj(k:List Sn)(hk:Kp k)(v b:GV):TT.lim 258 [v,.l (k.map sn),b]=some [.i .i64 0,.l (k.map sn)]:=by
 have h:=aiP k hk v b k.length 0 (by omega);have hlen:((k.map sn).length:Int)=(k.length:Int):=by rw[fE]
 simp only[QB,jl,qZ]at h;generalize k.map sn=KG at *;generalize(k.length:Int)=n0 at *;refine au rfl rfl ?_;simp -implicitDefEqProofs[hlen,h]
theorem awy(v s:GV)(h:Sn)(hh:fQ h.2):TT.lim 260 [v,s,.i .u64 h.1,.l (h.2.map row)]=some [.i .i64 0,.i .u64 h.1,.l (h.2.map row)]:=by have hc:=PZ h hh;have e1:GV.g [.i .u64 h.1,.l (h.2.map row)]=sn h:=rfl;refine au rfl rfl ?_;simp -implicitDefEqProofs[e1,hc]
theorem Vo(s:fK)(hs:qp s):TT.lim 257 (dL s)=some [.i .i64 0,.i .u64 s.h.1,.l (s.h.2.map row),.l (s.k.map sn)]:=by have h1:=azj s.k hs.kp (.i .i64 s.vs) (.i .u64 s.b);have h2:=awy (.i .i64 s.vs) (.b s.sm) s.h hs.rc.good;unfold dL;refine au rfl rfl ?_;simp -implicitDefEqProofs[h1,h2]
theorem auG{m:aT}{fl:List aI}{s:fK}(hm:rE m fl)(hs:qp s):qp (Fz m fl s).1:=by
 unfold Fz;by_cases k1:m.kind=1
 ·rw[aj k1];have h1:=hs.mn;have h2:=hs.mx;have hl:=@adT s.mn s.mx m.min m.max;unfold oM;repeat' split
  all_goals first|exact hs|exact⟨hs.mn,hs.mx,hs.le,hs.name,hs.ver,hs.rc,hs.kp⟩|skip
  next c1 c2 c3 c4 c5 c6=>
  have c:(mZ s.mn s.mx m.min m.max).2=true:=by
   cases h:(mZ s.mn s.mx m.min m.max).2 with
   |true=>rfl
   |false=>exact absurd (.inl h) c6
  obtain⟨l1,l2,l3,l4⟩:=hl c;exact⟨hs.mn,hs.mx,hs.le,hs.name,⟨by simp only;omega,by simp only;omega⟩,⟨by simp only;omega,by simp only;omega,hs.rc.good,hs.rc.ep,hs.rc.no⟩,hs.kp⟩
 rw[ah k1];by_cases k2:m.kind=2
 ·rw[aj k2];have h1:=hs.mn;have h2:=hs.mx;unfold Hw;repeat' split
  all_goals first|exact hs|exact⟨hs.mn,hs.mx,hs.le,hs.name,hs.ver,hs.rc,hs.kp⟩|skip
  next c1 c2=>
  exact⟨hs.mn,hs.mx,hs.le,hs.name,⟨by simp only;omega,by simp only;omega⟩,⟨by simp only;omega,by simp only;omega,hs.rc.good,hs.rc.ep,hs.rc.no⟩,hs.kp⟩
 rw[ah k2];by_cases k5:m.kind=5\/m.kind=6
 ·rw[aj k5];unfold mM;split
  ·obtain⟨hr,-,-⟩:=ah4 hs.rc (jg m fl s.vs) m.kind m.epoch m.base m.t hm.t hm.body.epoch;exact⟨hs.mn,hs.mx,hs.le,hs.name,hs.ver,hr,hs.kp⟩
  ·exact hs
 rw[ah k5];by_cases k7:m.kind=7
 ·rw[aj k7];unfold qP;split
  ·exact⟨hs.mn,hs.mx,hs.le,hs.name,hs.ver,hs.rc,akd hs.kp⟩
  ·exact hs
 rw[ah k7];split
 ·unfold noS;repeat' split
  all_goals first|exact hs|exact⟨hs.mn,hs.mx,hs.le,hs.name,hs.ver,hs.rc,hs.kp⟩
 ·exact hs
theorem KT{t:Q0}{s:fK}(hs:qp s):qp (lq t s).1:=by
 unfold lq;split
 ·exact auG (ad7 t (qW s)) hs
 ·exact hs
def xQ(x:UInt8)(b:Nat):UInt8:=UInt8.ofNat (x.toNat ^^^ b)
theorem ajN(x:UInt8)(b:Nat)(hb:b<256):bQ .xor .u8 (x.toNat:Int) (b:Int)=some (.i .u8 ((xQ x b).toNat:Int)):=by
 show some (GV.i IntKind.u8 (IntKind.u8.wrap ((BitVec.ofInt 8 (x.toNat:Int) ^^^ BitVec.ofInt 8 (b:Int)).toNat:Int)))=_
 have hx:=x.toNat_lt;have hlt:x.toNat ^^^ b<256:=Nat.xor_lt_two_pow (n:=8) hx hb;have o1:(BitVec.ofInt 8 (x.toNat:Int)).toNat=x.toNat:=by rw[sJ];omega
 have o2:(BitVec.ofInt 8 (b:Int)).toNat=b:=by rw[sJ];omega
 rw[BitVec.toNat_xor,o1,o2,Qo];unfold xQ;rw[acH,Nv hlt];generalize x.toNat ^^^ b=N at *;congr 2;omega
theorem aiA{u:Q0}{k:Nat}(hk:k<u.length)(y:UInt8):Dc (some (.l (bT u))) (some (.i .i64 (k:Int)))=some (.i .i64 (k:Int))/\at2 1 (some (.l (bT u))) (some (.i .i64 (k:Int)))=some (.i .u8 ((u.getD k 0).toNat:Int))/\
 D7 1 0 (some (.l (bT u))) (some (.i .i64 (k:Int))) (some [.i .u8 (y.toNat:Int)])=some (.l (bT (u.set k y))):=by
 have hl:(bT u).length=u.length:=by simp[bT]
 have hget:(bT u)[k]? =some (.i .u8 ((u.getD k 0).toNat:Int)):=by
  have e:u.getD k 0=u[k]:=by simp[List.getD,bK hk]
  rw[e];unfold bT;rw[iP,bK hk];rfl
 refine⟨?_,?_,?_⟩
 ·rw[jh,aj ⟨by omega,by rw[hl];omega⟩]
 ·rw[dY,aj (by omega),wX,hget];rfl
 ·rw[sF,aj ⟨by omega,rfl⟩,wX,hget];simp only[yQ];rw[aj (show(GV.i IntKind.u8 ((u.getD k 0).toNat:Int)).cells.length=1 from rfl)];simp only[GV.put,gI];congr 2;unfold bT;rw[WM]
