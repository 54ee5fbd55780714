/- What the trees compute: plain laws. -/
import Derived.Test.YtilkjidelblkfaaGreatDoorKMe6
namespace Go.Proofs.YtilkjidelblkfaaGreatDoor
open Go Go.aJ
set_option linter.unusedSimpArgs false
set_option linter.unusedVariables false
set_option maxRecDepth 100000
namespace M
theorem U9 (e:Int) (v:GV) (k:List Sn) (hk:k.length<=1000):∀m i:Nat,i+m=k.length->
 TT.lim 44 [.i .u64 e,.l (k.map sn),.i .i64 k.length,.i .i64 i,v]=some (nX ((je e (k.drop i)).map (· + i)))
 | 0,i,hi=>by
   have h0:k.drop i=[]:=fJ (by omega);have h:¬ ((i:Int) < k.length):=by omega
   refine aB rfl rfl ?_;simp -implicitDefEqProofs [h,h0,je,nX]
 | m+1,i,hi=>by
   have hlt:i < k.length:=by omega
   have h:((i:Int) < k.length):=by omega
   have hw:=wrap64 (n:=(i:Int)+1) (by omega) (by omega);have ih:TT.lim 44 [.i .u64 e,.l (k.map sn),.i .i64 k.length,.i .i64 ((i:Int)+1),v]=_:=U9 e v k hk m (i+1) (by omega);have hdr:k.drop i=k[i]::k.drop (i+1):=iC hlt;rw [hdr];by_cases h1:k[i].1=e
   ·have hf:nX ((je e (k[i]::k.drop (i+1))).map (· + i))=[.i .i64 0,.i .i64 (i:Int)]:=by
     unfold je;rw [TA,aj (by simpa using h1)];simp -implicitDefEqProofs [nX]
    rw [hf];have h1':(k[i].1=e)=True:=eq_true h1;clear h1 ih;refine aB rfl rfl ?_;simp -implicitDefEqProofs [-List.getElem_cons_drop,h,hlt,h1',hw]
   ·have hf:nX ((je e (k[i]::k.drop (i+1))).map (· + i))=nX ((je e (k.drop (i+1))).map (· + (i+1))):=by
     unfold je;rw [TA,ah (by simpa using h1)];cases List.findIdx? (λs:Sn=>decide (s.1=e)) (k.drop (i+1)) with
     | none=>rfl
     | some j=>
       simp only [fK,nX];congr 3;omega
    rw [hf];generalize nX ((je e (k.drop (i+1))).map (· + (i+1)))=R at *;have h1':(k[i].1=e)=False:=eq_false h1;clear h1 hf;refine aB rfl rfl ?_;simp -implicitDefEqProofs [-List.getElem_cons_drop,h,hlt,h1',hw,ih]
theorem aky (e:Int) (v:GV) (k:List Sn) (hk:k.length<=1000) (hf:je e k=none) :
 TT.lim 43 [.i .u64 e,v,.l (k.map sn)]=some [.i .i64 0,.i .i64 0,.b false]:=by
 have h0:TT.lim 44 [.i .u64 e,.l (k.map sn),.i .i64 k.length,.i .i64 0,v]=_:=U9 e v k hk k.length 0 (by omega);rw [dO,hf] at h0;simp only [ZK,nX] at h0;refine aB rfl rfl ?_;simp -implicitDefEqProofs [h0]
theorem akA (e:Int) (v:GV) (k:List Sn) (hk:k.length<=1000) (j:Nat) (hf:je e k=some j) :
 TT.lim 43 [.i .u64 e,v,.l (k.map sn)]=some [.i .i64 0,.i .i64 (j:Int),.b true]:=by
 have h0:TT.lim 44 [.i .u64 e,.l (k.map sn),.i .i64 k.length,.i .i64 0,v]=_:=U9 e v k hk k.length 0 (by omega);rw [dO,hf] at h0;simp only [fK,nX,jR] at h0;refine aB rfl rfl ?_;simp -implicitDefEqProofs [h0]
theorem anL (v:Int) (k:List Sn) (b:Int) (hk:Kp k) :
 TT.lim 41 [.i .i64 v,.l (k.map sn),.i .u64 b]=some (DI (kZ v k b)):=by
 have h8:=hk.len;unfold kZ;cases hl:k.getLast? with
 | none=>
   obtain rfl:=last_none hl;have h0:=amF (.i .i64 v) (.i .u64 b);refine aB rfl rfl ?_;simp -implicitDefEqProofs [h0,DI]
 | some l=>
   obtain ⟨m,hm,ha,hmem⟩:=last_at hl;have h0:=amE (.i .i64 v) (.i .u64 b) k m l hm (by omega) ha (hk.tb l hmem).good;simp only;by_cases h1:l.1=b
   ·rw [aj h1]
    have h1':(l.1=b)=True:=eq_true h1;clear h1;refine aB rfl rfl ?_;simp -implicitDefEqProofs [h0,h1',DI]
   rw [ah h1];cases hf:je b k with
   | none=>
     have h2:=aky b (.i .i64 v) k (by omega) hf;refine aB rfl rfl ?_;simp -implicitDefEqProofs [h0,h1,h2,DI,full]
   | some j=>
     have h2:=akA b (.i .i64 v) k (by omega) j hf;obtain ⟨s,hs, -,hj⟩:=PE hf;have hsm:s∈k:=oL hs;simp only [hs];have hj2:(j:Int) < k.length:=by omega
     by_cases h3:2<=v
     ·rw [aj h3]
      have kd:=ajE s l (hk.tb s hsm).good (hk.tb l hmem).good;have e1:GV.g [.i .u64 s.1,.l (s.2.map row)]=sn s:=rfl;have e2:GV.g [.i .u64 l.1,.l (l.2.map row)]=sn l:=rfl;generalize mZ s l=D at *;obtain ⟨⟨d1,d2,d3⟩,d4⟩:=D;by_cases h4:d4=0
      ·rw [ah (by simpa using h4)]
       have h4':(d4=0)=True:=eq_true h4;subst h4;refine aB rfl rfl ?_;simp -implicitDefEqProofs [h0,h1,h2,h3,hs,hj2,e1,e2,kd,DI]
      ·rw [aj h4]
       refine aB rfl rfl ?_;simp -implicitDefEqProofs [h0,h1,h2,h3,hs,hj2,e1,e2,kd,DI,h4]
     ·rw [ah h3]
      refine aB rfl rfl ?_;simp -implicitDefEqProofs [h0,h1,h2,h3,DI,full]
theorem Va (e:Int) (v b:GV) (k:List Sn) (hk:k.length<=1000):∀m i:Nat,i+m=k.length->
 TT.lim 173 [.i .u64 e,.l (k.map sn),.i .i64 k.length,.i .i64 i,v,b]=some (nX ((je e (k.drop i)).map (· + i)))
 | 0,i,hi=>by
   have h0:k.drop i=[]:=fJ (by omega);have h:¬ ((i:Int) < k.length):=by omega
   refine aB rfl rfl ?_;simp -implicitDefEqProofs [h,h0,je,nX]
 | m+1,i,hi=>by
   have hlt:i < k.length:=by omega
   have h:((i:Int) < k.length):=by omega
   have hw:=wrap64 (n:=(i:Int)+1) (by omega) (by omega);have ih:TT.lim 173 [.i .u64 e,.l (k.map sn),.i .i64 k.length,.i .i64 ((i:Int)+1),v,b]=_:=Va e v b k hk m (i+1) (by omega);have hdr:k.drop i=k[i]::k.drop (i+1):=iC hlt;rw [hdr];by_cases h1:k[i].1=e
   ·have hf:nX ((je e (k[i]::k.drop (i+1))).map (· + i))=[.i .i64 0,.i .i64 (i:Int)]:=by
     unfold je;rw [TA,aj (by simpa using h1)];simp -implicitDefEqProofs [nX]
    rw [hf];have h1':(k[i].1=e)=True:=eq_true h1;clear h1 ih;refine aB rfl rfl ?_;simp -implicitDefEqProofs [-List.getElem_cons_drop,h,hlt,h1',hw]
   ·have hf:nX ((je e (k[i]::k.drop (i+1))).map (· + i))=nX ((je e (k.drop (i+1))).map (· + (i+1))):=by
     unfold je;rw [TA,ah (by simpa using h1)];cases List.findIdx? (λs:Sn=>decide (s.1=e)) (k.drop (i+1)) with
     | none=>rfl
     | some j=>
       simp only [fK,nX];congr 3;omega
    rw [hf];generalize nX ((je e (k.drop (i+1))).map (· + (i+1)))=R at *;have h1':(k[i].1=e)=False:=eq_false h1;clear h1 hf;refine aB rfl rfl ?_;simp -implicitDefEqProofs [-List.getElem_cons_drop,h,hlt,h1',hw,ih]
theorem akz (e:Int) (v b:GV) (k:List Sn) (hk:k.length<=1000) (hf:je e k=none) :
 TT.lim 172 [.i .u64 e,v,.l (k.map sn),b]=some [.i .i64 0,.i .i64 0,.b false]:=by
 have h0:TT.lim 173 [.i .u64 e,.l (k.map sn),.i .i64 k.length,.i .i64 0,v,b]=_:=Va e v b k hk k.length 0 (by omega);rw [dO,hf] at h0;simp only [ZK,nX] at h0;refine aB rfl rfl ?_;simp -implicitDefEqProofs [h0]
theorem akB (e:Int) (v b:GV) (k:List Sn) (hk:k.length<=1000) (j:Nat) (hf:je e k=some j) :
 TT.lim 172 [.i .u64 e,v,.l (k.map sn),b]=some [.i .i64 0,.i .i64 (j:Int),.b true]:=by
 have h0:TT.lim 173 [.i .u64 e,.l (k.map sn),.i .i64 k.length,.i .i64 0,v,b]=_:=Va e v b k hk k.length 0 (by omega);rw [dO,hf] at h0;simp only [fK,nX,jR] at h0;refine aB rfl rfl ?_;simp -implicitDefEqProofs [h0]
theorem agM (e:Int) (v:GV) (k:List Sn) (b:Int) (hk:k.length<=1000) :
 TT.lim 171 [.i .u64 e,v,.l (k.map sn),.i .u64 b]=some [.i .i64 0,.b (Ah e k b).1,.l ((Ah e k b).2.1.map sn),.i .u64 (Ah e k b).2.2]:=by
 unfold Ah;by_cases h1:e<=b
 ·rw [aj h1]
  refine aB rfl rfl ?_;simp -implicitDefEqProofs [h1]
 ·rw [ah h1]
  cases hf:je e k with
  | none=>
    have h2:=akz e v (.i .u64 b) k hk hf;refine aB rfl rfl ?_;simp -implicitDefEqProofs [h1,h2]
  | some j=>
    have h2:=akB e v (.i .u64 b) k hk j hf;obtain ⟨x, -, -,hj⟩:=PE hf;have hl:=adk (k:=k) (i:=j) (by omega);have ha:=afr (k.drop j);have hb:2 * (k.drop j).length * 32<=281474976710656/\(k.drop j).length<=281474976710656:=by rw [eH];omega
    show _=some [_,_,GV.l ((k.drop j).map sn),_]
    generalize k.drop j=R at *;refine aB rfl rfl ?_;simp -implicitDefEqProofs [-rV, -List.all_eq_true, -List.all_map,h1,h2,hl,ha,hb]
def Bc (a x:Int):Int:=if a < x then x else a
def zK (c y:Int):Int:=if y < c then y else c
def jo (a c x y:Int):Int×Bool:=if zK c y < Bc a x then (0,false) else (zK c y,true)
theorem aaX (a c x y:Int):TT.lim 5 [.g [.i .u64 a,.i .u64 c],.g [.i .u64 x,.i .u64 y]]=some [.i .u64 (jo a c x y).1,.b (jo a c x y).2]:=by
 have h1:∀p q:Int,TT.lim 7 [.l [.g [.i .u64 x,.i .u64 y]],.i .i64 1,.i .i64 1,.i .u64 p,.i .u64 q]=some [.i .i64 0,.i .u64 p,.i .u64 q]:=by
  intro p q;refine aB rfl rfl ?_;simp
 have h0:TT.lim 7 [.l [.g [.i .u64 x,.i .u64 y]],.i .i64 1,.i .i64 0,.i .u64 a,.i .u64 c]=some [.i .i64 0,.i .u64 (Bc a x),.i .u64 (zK c y)]:=by
  have h:=h1 (Bc a x) (zK c y);have w:IntKind.i64.wrap 1=1:=rfl;refine aB rfl rfl ?_;simp -implicitDefEqProofs [w];exact h
 have h2:TT.lim 6 [.l [.g [.i .u64 a,.i .u64 c],.g [.i .u64 x,.i .u64 y]]]=some [.i .u64 (jo a c x y).1,.b (jo a c x y).2]:=by
  unfold jo;by_cases hc:zK c y < Bc a x
  ·rw [aj hc]
   refine aQ rfl rfl ?_ rfl;simp -implicitDefEqProofs [h0,hc]
  ·rw [ah hc]
   refine aQ rfl rfl ?_ rfl;simp -implicitDefEqProofs [h0,hc]
 refine aQ rfl rfl ?_ rfl;simp -implicitDefEqProofs [h2]
/-- What is said of a message. -/
def kC (b:aS) (v:Int):List (List UInt8):=if (uH b [] v).2=0 then [(uH b [] v).1] else []
theorem MQ {b:aS} (hm:yL b []) (v:Int):TT.lim 49 [gI b [],.i .i64 v]=some [.l ((kC b v).map .s)]:=by
 have he:=aox hm v;have he:TT.lim 50 [gI b [],.i .i64 v]=some [.s (uH b [] v).1,.i .i64 (uH b [] v).2]:=he;unfold kC;generalize uH b [] v=E at *;obtain ⟨t,e⟩:=E;by_cases h:e=0
 ·rw [aj h]
  subst h;refine aQ rfl rfl ?_ rfl;simp -implicitDefEqProofs [jI,he]
 ·rw [ah h]
  refine aQ rfl rfl ?_ rfl;simp -implicitDefEqProofs [jI,he,h]
theorem afa (b:aS) (v:Int):(kC b v).length<=1:=by
 unfold kC;split<;>simp
/-- A session. -/
structure bF where
 mn:Int
 mx:Int
 name:List UInt8
 first:Bool
 st:Int
 ver:Int
 vs:Int
 sm:Bool
 h:Sn
 k:List Sn
 b:Int
structure pK (s:bF):Prop where
 mn:1<=s.mn
 mx:s.mx<=3
 le:s.mn<=s.mx
 name:s.name.length<=256
 ver:0<=s.ver/\s.ver<=3
 rc:Rec s.vs s.sm s.h
 kp:Kp s.k
def dA (s:bF):List GV:=[.i .u64 s.mn,.i .u64 s.mx,.s s.name,.b s.first,.i .i64 s.st,.i .i64 s.ver,.i .i64 s.vs,.b s.sm,.i .u64 s.h.1,.l (s.h.2.map row),.l (s.k.map sn),.i .u64 s.b]
theorem Nr {b:aS} (hb:qW b) (hd:b.d=[]) (ht:fF b.t) (h1:b.name.length<=600) (h2:b.region=[]) (h3:b.note=[]):yL b []:=
 ⟨⟨hb,by rw [hd];rfl,ht,by simp only [dJ],by simp⟩,⟨h1,by rw [h2];simp,by rw [h3];simp⟩,by simp [bU],by simp [wL]⟩
/-- What it says by itself. -/
def DU (m:Tm):aS:=OA m.1 m.2.1 m.2.2.1 m.2.2.2
def iR (s:bF):List (List UInt8)×Int:=
 if s.st=2 then (if (kZ s.vs s.k s.b).2=0 then (kC (DU (kZ s.vs s.k s.b).1) s.ver,2) else ([],2))
 else if s.first=true then (if s.st=3 then ([],3) else (kC (rM s.mn s.mx s.name) 1,1)) else ([],s.st)
theorem alu {a c:Int} {n:List UInt8} (ha:0<=a/\a < 18446744073709551616) (hc:0<=c/\c < 18446744073709551616) (hn:n.length<=600):yL (rM a c n) []:=by
 refine Nr ?_ rfl DT.good hn rfl rfl;refine ⟨?_, ?_,ha,hc, ?_, ?_, ?_, ?_, ?_, ?_, ?_, ?_, ?_, ?_, ?_, ?_, ?_, ?_, ?_, ?_, ?_, ?_⟩<;>first | (simp only [rM];omega) | simp [rM,pG,Rows]
theorem asw {v:Int} {k:List Sn} {b:Int} (hk:Kp k):yL (DU (kZ v k b).1) []:=by
 obtain ⟨h1,h2,h3,h4⟩:=anM (v:=v) (b:=b) hk;exact Nr (ag9 h1 h2 h3 h4.rows) rfl h4 (by simp [DU,OA]) rfl rfl
theorem XY (s:bF) (hs:pK s):TT.lim 175 (dA s)=some [.i .i64 0,.l ((iR s).1.map .s),.i .i64 (iR s).2]:=by
 have hm:=anL s.vs s.k s.b hs.kp;have h1:=hs.mn;have h2:=hs.mx;have h3:=hs.le;have hn:=hs.name;have hy:TT.lim 49 [.g [.i .i64 1,.i .u64 0,.i .u64 s.mn,.i .u64 s.mx,.i .u64 0,.i .u64 0,.i .u64 0,.i .u64 0,.i .u64 0,.i .u64 0,.i .u64 0,.i .u64 0,.i .u64 0,.i .u64 0,.i .u64 0,.i .u64 0,.i .i64 0,.b false,.s s.name,.s [],.s [],.l [],.l [],.l []],.i .i64 1]=some [.l ((kC (rM s.mn s.mx s.name) 1).map .s)]:=MQ (alu (a:=s.mn) (c:=s.mx) (n:=s.name) (by omega) (by omega) (by omega)) 1;have hw:=MQ (asw (v:=s.vs) (b:=s.b) hs.kp) s.ver;unfold iR;unfold dA;generalize kZ s.vs s.k s.b=M at *;have hw:TT.lim 49 [.g [.i .i64 M.1.1,.i .u64 0,.i .u64 0,.i .u64 0,.i .u64 0,.i .u64 0,.i .u64 0,.i .u64 0,.i .u64 0,.i .u64 0,.i .u64 M.1.2.1,.i .u64 M.1.2.2.1,.i .u64 0,.i .u64 0,.i .u64 0,.i .u64 0,.i .i64 0,.b false,.s [],.s [],.s [],.l [],.l (M.1.2.2.2.map row),.l []],.i .i64 s.ver]=some [.l ((kC (DU M.1) s.ver).map .s)]:=hw;generalize kC (rM s.mn s.mx s.name) 1=Y at *;generalize kC (DU M.1) s.ver=W at *;simp only [DI] at hm;by_cases c2:s.st=2
 ·rw [aj c2]
  have c2':(s.st=2)=True:=eq_true c2;by_cases e:M.2=0
  ·rw [aj e]
   have e':(M.2=0)=True:=eq_true e;rw [e] at hm;refine aB rfl rfl ?_;simp -implicitDefEqProofs [c2',hm,hw]
  ·rw [ah e]
   refine aB rfl rfl ?_;simp -implicitDefEqProofs [c2',hm,e]
 rw [ah c2];by_cases cf:s.first=true
 ·rw [aj cf]
  by_cases c3:s.st=3
  ·rw [aj c3]
   have c3':(s.st=3)=True:=eq_true c3;refine aB rfl rfl ?_;simp -implicitDefEqProofs [c2,cf,c3']
  ·rw [ah c3]
   refine aB rfl rfl ?_;simp -implicitDefEqProofs [c2,cf,c3,hy]
 ·rw [ah cf]
  have KG:s.first=false:=by simpa using cf
  refine aB rfl rfl ?_;simp -implicitDefEqProofs [c2,KG]
theorem aeJ (x:Sn) (s:bF) (hx:fF x.2) (hs:pK s):TT.lim 174 (.i .u64 x.1::.l (x.2.map row)::dA s)=some [.i .i64 0,.i .i64 (uS x s.k s.b).1,.l ((uS x s.k s.b).2.1.map sn),.i .u64 (uS x s.k s.b).2.2]:=by
 have hp:=apa x (.i .i64 s.vs) s.k s.b hx hs.kp;unfold dA;generalize uS x s.k s.b=P at *;refine aB rfl rfl ?_;simp -implicitDefEqProofs [hp]
/-- What it says of its version, and of none. -/
def pR (v:Int) (n:List UInt8):aS:={ iJ with kind:=2,chosen:=v,name:=n }
def qO:aS:={ iJ with kind:=8,code:=16 }
theorem agT {v:Int} {n:List UInt8} (hv:0<=v/\v < 18446744073709551616) (hn:n.length<=600):yL (pR v n) []:=by
 refine Nr ?_ rfl DT.good hn rfl rfl;refine ⟨?_, ?_, ?_, ?_,hv, ?_, ?_, ?_, ?_, ?_, ?_, ?_, ?_, ?_, ?_, ?_, ?_, ?_, ?_, ?_, ?_, ?_⟩<;>first | (simp only [pR];omega) | simp [pR,iJ,pG,Rows]
theorem apT:yL qO []:=by
 refine Nr ?_ rfl DT.good (by simp [qO,iJ]) rfl rfl;refine ⟨?_, ?_, ?_, ?_, ?_, ?_, ?_, ?_, ?_, ?_, ?_, ?_, ?_, ?_, ?_, ?_, ?_, ?_, ?_, ?_, ?_, ?_⟩<;>simp [qO,iJ,pG,Rows]
theorem Z5 (s:bF) (hs:pK s) (hv:0<=s.ver/\s.ver<=3):TT.lim 184 (dA s)=some [.i .i64 0,.l ((kC (pR s.ver s.name) 1).map .s)]:=by
 have hn:=hs.name;have hw:=jJ (n:=s.ver) hv.1 (by omega);have hy:TT.lim 49 [.g [.i .i64 2,.i .u64 0,.i .u64 0,.i .u64 0,.i .u64 s.ver,.i .u64 0,.i .u64 0,.i .u64 0,.i .u64 0,.i .u64 0,.i .u64 0,.i .u64 0,.i .u64 0,.i .u64 0,.i .u64 0,.i .u64 0,.i .i64 0,.b false,.s s.name,.s [],.s [],.l [],.l [],.l []],.i .i64 1]=some [.l ((kC (pR s.ver s.name) 1).map .s)]:=MQ (agT (v:=s.ver) (n:=s.name) (by omega) (by omega)) 1;unfold dA;generalize kC (pR s.ver s.name) 1=Y at *;refine aB rfl rfl ?_;simp -implicitDefEqProofs [hw,hy]
theorem ah2 {a c x y:Int} (h:(jo a c x y).2=true):Bc a x<=(jo a c x y).1/\(jo a c x y).1=zK c y:=by
 unfold jo at h ⊢;split
 ·next h1=>rw [aj h1] at h;cases h
 ·exact ⟨by simp only;omega,rfl⟩
theorem aaV {a c x y:Int} (h:(jo a c x y).2=true):a<=(jo a c x y).1/\x<=(jo a c x y).1/\(jo a c x y).1<=c/\(jo a c x y).1<=y:=by
 obtain ⟨h1,h2⟩:=ah2 h;generalize (jo a c x y).1=z at *;unfold Bc at h1;unfold zK at h2;split at h1<;>split at h2<;>omega
/-- A Hello comes. -/
def nY (m:aS) (s:bF):bF×List (List UInt8)×Int:=
 if s.first=true then (s,[],22) else if m.min < 1 then (s,[],18) else if m.max < m.min then (s,[],18) else if 255 < m.max then (s,[],18) else
 if s.st=2 then (if (jo s.mn s.mx m.min m.max).2=true/\(jo s.mn s.mx m.min m.max).1=s.ver then (s,kC (pR s.ver s.name) 1,0) else (s,[],22))
 else if (jo s.mn s.mx m.min m.max).2=false\/s.st=3 then ({ s with st:=3 },kC qO 1,16)
 else ({ s with st:=2,ver:=(jo s.mn s.mx m.min m.max).1,vs:=(jo s.mn s.mx m.min m.max).1 },kC (pR (jo s.mn s.mx m.min m.max).1 s.name) 1,0)
theorem alr (m:aS) (fl:List aH) (s:bF) (hk:m.kind=1) (hs:pK s):TT.lim 183 ((gI m (aC fl)).cells++dA s)=some [.i .i64 0,.l ((nY m s).2.1.map .s),.i .i64 (nY m s).2.2,.i .i64 (nY m s).1.st,.i .i64 (nY m s).1.ver,.i .i64 (nY m s).1.vs]:=by
 have hc:=aaX s.mn s.mx m.min m.max;have hl:=@aaV s.mn s.mx m.min m.max;have hr:TT.lim 49 [.g [.i .i64 8,.i .u64 0,.i .u64 0,.i .u64 0,.i .u64 0,.i .u64 0,.i .u64 0,.i .u64 0,.i .u64 0,.i .u64 0,.i .u64 0,.i .u64 0,.i .u64 0,.i .u64 0,.i .u64 16,.i .u64 0,.i .i64 0,.b false,.s [],.s [],.s [],.l [],.l [],.l []],.i .i64 1]=some [.l ((kC qO 1).map .s)]:=MQ apT 1;have ha:=Z5 s hs hs.ver;have hb:=λ(v:Int) (h:1<=v/\v<=3)=>Z5 { s with st:=2,ver:=v,vs:=v } ⟨hs.mn,hs.mx,hs.le,hs.name,⟨by simp only;omega,h.2⟩,⟨h.1,h.2,hs.rc.good,hs.rc.ep,hs.rc.no⟩,hs.kp⟩ ⟨by simp only;omega,h.2⟩;have h1:=hs.mn;have h2:=hs.mx;have hv:=hs.ver;have hwv:=jJ (n:=s.ver) hv.1 (by omega);rw [dG];unfold nY;simp only [dA,bJ,bn] at ha hb ⊢;generalize jo s.mn s.mx m.min m.max=C at *;generalize kC qO 1=RJ at *;rw [hk];by_cases c0:s.first=true
 ·rw [aj c0]
  refine aB rfl rfl ?_;simp -implicitDefEqProofs [c0]
 rw [ah c0];have c0':s.first=false:=by simpa using c0
 rw [c0'] at ha hb;simp only [c0'];by_cases c1:m.min < 1
 ·rw [aj c1]
  refine aB rfl rfl ?_;simp -implicitDefEqProofs [c1]
 rw [ah c1];by_cases c3:m.max < m.min
 ·rw [aj c3]
  refine aB rfl rfl ?_;simp -implicitDefEqProofs [c1,c3]
 rw [ah c3];by_cases c4:255 < m.max
 ·rw [aj c4]
  refine aB rfl rfl ?_;simp -implicitDefEqProofs [c1,c3,c4]
 rw [ah c4];by_cases c5:s.st=2
 ·rw [aj c5]
  have Ut:(s.st=2)=True:=eq_true c5;by_cases c6:C.2=true
  ·by_cases c7:C.1=s.ver
   ·rw [aj ⟨c6,c7⟩]
    have Uu:(C.1=s.ver)=True:=eq_true c7;refine aB rfl rfl ?_;simp -implicitDefEqProofs [c1,c3,c4,Ut,hc,c6,Uu,hwv,ha]
   ·rw [ah (λh=>c7 h.2)]
    refine aB rfl rfl ?_;simp -implicitDefEqProofs [c1,c3,c4,Ut,hc,c6,c7,hwv]
  ·rw [ah (λh=>c6 h.1)]
   have OI:C.2=false:=by simpa using c6
   refine aB rfl rfl ?_;simp -implicitDefEqProofs [c1,c3,c4,Ut,hc,OI]
 rw [ah c5];by_cases c6:C.2=true;rotate_left
 ·have OI:C.2=false:=by simpa using c6
  rw [aj (.inl OI)];refine aB rfl rfl ?_;simp -implicitDefEqProofs [c1,c3,c4,c5,hc,OI,hr]
 by_cases c7:s.st=3
 ·rw [aj (.inr c7)]
  have Uu:(s.st=3)=True:=eq_true c7;refine aB rfl rfl ?_;simp -implicitDefEqProofs [c1,c3,c4,c5,hc,c6,Uu,hr]
 rw [ah (λh=>h.elim (λe=>by rw [c6] at e;cases e) c7)];obtain ⟨l1,l2,l3,l4⟩:=hl c6;have hb:=hb C.1 ⟨by omega,by omega⟩;have hwi:=wrap64 (n:=C.1) (by omega) (by omega);have g1:1<=C.1:=by omega
 have g3:C.1<=3:=by omega
 refine aB rfl rfl ?_;simp -implicitDefEqProofs [c1,c3,c4,c5,hc,c6,c7,hwi,g1,g3,hb]
def IE (m:aS) (s:bF):bF×List (List UInt8)×Int:=
 if s.st=1 then (if s.mn<=m.chosen/\m.chosen<=s.mx then ({ s with st:=2,ver:=m.chosen,vs:=m.chosen },[],0) else ({ s with st:=3 },[],16))
 else if s.st=2/\s.first=true/\m.chosen=s.ver then (s,[],0) else (s,[],22)
def lq (m:aS) (fl:List aH) (s:bF):bF×List (List UInt8)×Int:=
 if s.st=2 then
  ({ s with sm:=(lQ (iM m fl s.vs) s.vs m.kind m.epoch m.base m.t s.sm s.h).2.2.1,h:=(lQ (iM m fl s.vs) s.vs m.kind m.epoch m.base m.t s.sm s.h).2.2.2 },
   if (lQ (iM m fl s.vs) s.vs m.kind m.epoch m.base m.t s.sm s.h).1.1=0 then [] else kC (iL (lQ (iM m fl s.vs) s.vs m.kind m.epoch m.base m.t s.sm s.h).1) s.ver,
   (lQ (iM m fl s.vs) s.vs m.kind m.epoch m.base m.t s.sm s.h).2.1)
 else (s,[],22)
def qZ (m:aS) (s:bF):bF×List (List UInt8)×Int:=
 if s.st=2 then ({ s with k:=(Ah m.epoch s.k s.b).2.1,b:=(Ah m.epoch s.k s.b).2.2 },[],0) else (s,[],22)
def noS (m:aS) (s:bF):bF×List (List UInt8)×Int:=
 if s.st=2 then ({ s with b:=0 },[],0) else if s.st=1/\m.code=16 then ({ s with st:=3 },[],16) else (s,[],22)
def zx (m:aS) (fl:List aH) (s:bF):bF×List (List UInt8)×Int:=
 if m.kind=1 then nY m s else if m.kind=2 then IE m s else if m.kind=5\/m.kind=6 then lq m fl s else if m.kind=7 then qZ m s else if m.kind=8 then noS m s else (s,[],15)
def qV (s:bF):Int:=if s.st=2 then s.ver else 1
def dP (t:List UInt8) (s:bF):bF×List (List UInt8)×Int:=
 if (nU t (qV s)).2.2=0 then zx (nU t (qV s)).1 (nU t (qV s)).2.1 s else (s,[],(nU t (qV s)).2.2)
def IK (r:bF×List (List UInt8)×Int):List GV:=[.i .i64 0,.l (r.2.1.map .s),.i .i64 r.2.2,.i .i64 r.1.st,.i .i64 r.1.ver,.i .i64 r.1.vs,.b r.1.sm,.i .u64 r.1.h.1,.l (r.1.h.2.map row),.l (r.1.k.map sn),.i .u64 r.1.b]
theorem take_zero (c v kd ep ba:Int) (t:List Row) (sm:Bool) (h:Sn) (h0:(lQ c v kd ep ba t sm h).1.1=0):(lQ c v kd ep ba t sm h).1=(0,0,0,0):=by
 unfold lQ at h0 ⊢;split
 ·rfl
 next h1=>
 rw [ah h1] at h0;split
 ·next h2=>
  rw [aj h2] at h0;split at h0<;>simp at h0
 next h2=>
 rw [ah h2] at h0;split
 ·next h3=>
  rw [aj h3] at h0;split at h0
  ·simp at h0
  ·split at h0<;>simp at h0
 ·rfl
theorem arJ (m:aS) (fl:List aH) (s:bF) (hm:qB m fl) (hs:pK s):TT.lim 185 ((gI m (aC fl)).cells++dA s)=some [.i .i64 0,.l ((lq m fl s).2.1.map .s),.i .i64 (lq m fl s).2.2,.b (lq m fl s).1.sm,.i .u64 (lq m fl s).1.h.1,.l ((lq m fl s).1.h.2.map row)]:=by
 have ht:=asr m fl s.vs s.sm s.h hm.body hm.t hm.f8 hm.len hs.rc.good;obtain ⟨hr,hb,hz⟩:=aeW hs.rc (iM m fl s.vs) m.kind m.epoch m.base m.t hm.t hm.body.epoch;have h0:=take_zero (iM m fl s.vs) s.vs m.kind m.epoch m.base m.t s.sm s.h;unfold lq;by_cases c2:s.st=2;rotate_left
 ·rw [ah c2,dG]
  simp only [dA,bJ,bn];refine aB rfl rfl ?_;simp -implicitDefEqProofs [c2]
 rw [aj c2];have c2':(s.st=2)=True:=eq_true c2;rw [dG] at ht ⊢;simp only [dA,bJ,bn] at ht ⊢;generalize lQ (iM m fl s.vs) s.vs m.kind m.epoch m.base m.t s.sm s.h=R at *;obtain ⟨⟨a1,a2,a3,a4⟩,e,sm,h⟩:=R;have hw:yL (iL (a1,a2,a3,a4)) []:=Nr hb rfl DT.good (by simp [iL]) rfl rfl;have hsd:TT.lim 49 [.g [.i .i64 a1,.i .u64 0,.i .u64 0,.i .u64 0,.i .u64 0,.i .u64 0,.i .u64 0,.i .u64 0,.i .u64 0,.i .u64 0,.i .u64 a2,.i .u64 0,.i .u64 0,.i .u64 0,.i .u64 a3,.i .u64 a4,.i .i64 0,.b false,.s [],.s [],.s [],.l [],.l [],.l []],.i .i64 s.ver]=some [.l ((kC (iL (a1,a2,a3,a4)) s.ver).map .s)]:=MQ hw s.ver;have hq:TT.lim 159 [.g [.i .i64 a1,.i .u64 0,.i .u64 0,.i .u64 0,.i .u64 0,.i .u64 0,.i .u64 0,.i .u64 0,.i .u64 0,.i .u64 0,.i .u64 a2,.i .u64 0,.i .u64 0,.i .u64 0,.i .u64 a3,.i .u64 a4,.i .i64 0,.b false,.s [],.s [],.s [],.l [],.l [],.l []],.g [.i .i64 0,.i .u64 0,.i .u64 0,.i .u64 0,.i .u64 0,.i .u64 0,.i .u64 0,.i .u64 0,.i .u64 0,.i .u64 0,.i .u64 0,.i .u64 0,.i .u64 0,.i .u64 0,.i .u64 0,.i .u64 0,.i .i64 0,.b false,.s [],.s [],.s [],.l [],.l [],.l []]]=some [.b (cO (iL (a1,a2,a3,a4)=iJ/\([]:List aH)=[]))]:=by
  have:=hw.msg.anj (fc:=[]) DY (by simp [bU]);have fn:aC []=[]:=by simp only [aC]
  rw [fn] at this;exact this
 generalize kC (iL (a1,a2,a3,a4)) s.ver=W at *;simp only [vk] at ht;simp only at h0 ⊢;by_cases c:a1=0
 ·rw [aj c]
  have e4:=h0 c;injection e4 with e1 e4
  injection e4 with e2 e4
  injection e4 with e3 e4
  subst e1 e2 e3 e4;rw [jW ⟨rfl,rfl⟩] at hq;refine aB rfl rfl ?_;simp -implicitDefEqProofs [c2',ht,hq]
 ·rw [ah c]
  rw [jF (λh=>c (rE aS.kind h.1))] at hq;refine aB rfl rfl ?_;simp -implicitDefEqProofs [c2',ht,hq,hsd]
theorem agO (m:aS) (fl:List aH) (s:bF) (hs:pK s):TT.lim 186 ((gI m (aC fl)).cells++dA s)=some [.i .i64 0,.i .i64 (qZ m s).2.2,.l ((qZ m s).1.k.map sn),.i .u64 (qZ m s).1.b]:=by
 have ha:=agM m.epoch (.i .i64 s.vs) s.k s.b (by have:=hs.kp.len;omega);unfold qZ;by_cases c2:s.st=2;rotate_left
 ·rw [ah c2,dG]
  simp only [dA,bJ,bn];refine aB rfl rfl ?_;simp -implicitDefEqProofs [c2]
 rw [aj c2];have c2':(s.st=2)=True:=eq_true c2;rw [dG];simp only [dA,bJ,bn];generalize Ah m.epoch s.k s.b=A at *;refine aB rfl rfl ?_;simp -implicitDefEqProofs [c2',ha]
theorem alq (m:aS) (s:bF):(nY m s).1.sm=s.sm/\(nY m s).1.h=s.h/\(nY m s).1.k=s.k/\(nY m s).1.b=s.b/\(nY m s).1.mn=s.mn/\(nY m s).1.mx=s.mx/\(nY m s).1.name=s.name/\(nY m s).1.first=s.first:=by
 unfold nY;repeat' split
 all_goals simp
set_option maxHeartbeats 2000000 in
theorem P9 (t:List UInt8) (s:bF) (ht:t.length<=140737488351232) (hs:pK s):TT.lim 182 (.s t::dA s)=some (IK (dP t s)):=by
 have hd:=decode_ok t (qV s) ht;have hm:=aa7 t (qV s);unfold dP;generalize nU t (qV s)=D at *;obtain ⟨m,fl,e⟩:=D;simp only at hd hm ⊢;have hh:=alr m fl s;have hp:=arJ m fl s hm hs;have ha:=agO m fl s hs;have hkeep:=alq m s;have al2:=hs.ver;have hwv:=jJ (n:=s.ver) al2.1 (by omega);have hmn:=hs.mn;have hmx:=hs.mx;rw [dG] at hh hp ha;unfold qV at hd;unfold IK;have hE:s.st=2\/¬ s.st=2:=ND _;by_cases he:e=0;rotate_left
 ·rw [ah he]
  simp only [dA];rcases hE with c2 | c2
  ·rw [aj c2] at hd
   have c2':(s.st=2)=True:=eq_true c2;refine aB rfl rfl ?_;simp -implicitDefEqProofs [c2',hd,he]
  ·rw [ah c2] at hd
   refine aB rfl rfl ?_;simp -implicitDefEqProofs [c2,hd,he]
 rw [aj he];subst he;unfold zx;by_cases k1:m.kind=1
 ·rw [aj k1]
  have hh:=hh k1 hs;obtain ⟨q1,q2,q3,q4, -⟩:=hkeep;rw [q1,q2,q3,q4];generalize nY m s=H at *;simp only [dA,bJ,bn] at hh ⊢;rw [k1] at hh;have k1':(m.kind=1)=True:=eq_true k1;rcases hE with c2 | c2
  ·rw [aj c2] at hd
   have c2':(s.st=2)=True:=eq_true c2;rw [c2] at hh;refine aB rfl rfl ?_;simp -implicitDefEqProofs [c2,hd,k1,hh]
  ·rw [ah c2] at hd
   refine aB rfl rfl ?_;simp -implicitDefEqProofs [c2,hd,k1,hh]
 rw [ah k1];by_cases k2:m.kind=2
 ·rw [aj k2]
  have k2':(m.kind=2)=True:=eq_true k2;unfold IE;simp only [dA];rcases hE with c2 | c2
  ·rw [aj c2] at hd
   rw [ah (by omega)];have c2':(s.st=2)=True:=eq_true c2;by_cases cf:s.first=true
   ·by_cases cv:m.chosen=s.ver
    ·rw [aj ⟨c2,cf,cv⟩]
     have cv':(m.chosen=s.ver)=True:=eq_true cv;refine aB rfl rfl ?_;simp -implicitDefEqProofs [c2,hd,k2,cf,cv',hwv]
    ·rw [ah (λh=>cv h.2.2)]
     refine aB rfl rfl ?_;simp -implicitDefEqProofs [c2,hd,k2,cf,cv,hwv]
   ·rw [ah (λh=>cf h.2.1)]
    have KG:s.first=false:=by simpa using cf
    refine aB rfl rfl ?_;simp -implicitDefEqProofs [c2,hd,k2,KG]
  ·rw [ah c2] at hd
   by_cases c1:s.st=1
   ·rw [aj c1]
    by_cases r1:s.mn<=m.chosen
    ·by_cases r2:m.chosen<=s.mx
     ·rw [aj ⟨r1,r2⟩]
      have g1:1<=m.chosen:=by omega
      have g3:m.chosen<=3:=by omega
      have hwi:=wrap64 (n:=m.chosen) (by omega) (by omega);refine aB rfl rfl ?_;simp -implicitDefEqProofs [c1,hd,k2,r1,r2,hwi,g1,g3]
     ·rw [ah (λh=>r2 h.2)]
      refine aB rfl rfl ?_;simp -implicitDefEqProofs [c1,hd,k2,r1,r2]
    ·rw [ah (λh=>r1 h.1)]
     refine aB rfl rfl ?_;simp -implicitDefEqProofs [c1,hd,k2,r1]
   ·rw [ah c1,ah (λh=>c2 h.1)]
    refine aB rfl rfl ?_;simp -implicitDefEqProofs [c1,c2,hd,k2]
 rw [ah k2];by_cases k5:m.kind=5
 ·rw [aj (.inl k5)]
  have g:(lq m fl s).1.st=s.st/\(lq m fl s).1.ver=s.ver/\(lq m fl s).1.vs=s.vs/\(lq m fl s).1.k=s.k/\(lq m fl s).1.b=s.b:=by unfold lq;split<;>simp
  rw [g.1,g.2.1,g.2.2.1,g.2.2.2.1,g.2.2.2.2];generalize lq m fl s=H at *;simp only [dA,bJ,bn] at hp ⊢;rw [k5] at hp;rcases hE with c2 | c2
  ·rw [aj c2] at hd
   rw [c2] at hp;refine aB rfl rfl ?_;simp -implicitDefEqProofs [c2,hd,k5,hp]
  ·rw [ah c2] at hd
   refine aB rfl rfl ?_;simp -implicitDefEqProofs [c2,hd,k5,hp]
 by_cases k6:m.kind=6
 ·rw [aj (.inr k6)]
  have g:(lq m fl s).1.st=s.st/\(lq m fl s).1.ver=s.ver/\(lq m fl s).1.vs=s.vs/\(lq m fl s).1.k=s.k/\(lq m fl s).1.b=s.b:=by unfold lq;split<;>simp
  rw [g.1,g.2.1,g.2.2.1,g.2.2.2.1,g.2.2.2.2];generalize lq m fl s=H at *;simp only [dA,bJ,bn] at hp ⊢;rw [k6] at hp;rcases hE with c2 | c2
  ·rw [aj c2] at hd
   rw [c2] at hp;refine aB rfl rfl ?_;simp -implicitDefEqProofs [c2,hd,k6,hp]
  ·rw [ah c2] at hd
   refine aB rfl rfl ?_;simp -implicitDefEqProofs [c2,hd,k6,hp]
 rw [ah (λh=>h.elim k5 k6)];by_cases k7:m.kind=7
 ·rw [aj k7]
  have g:(qZ m s).1.st=s.st/\(qZ m s).1.ver=s.ver/\(qZ m s).1.vs=s.vs/\(qZ m s).1.sm=s.sm/\(qZ m s).1.h=s.h/\(qZ m s).2.1=[]:=by unfold qZ;split<;>simp
  rw [g.1,g.2.1,g.2.2.1,g.2.2.2.1,g.2.2.2.2.1,g.2.2.2.2.2];generalize qZ m s=H at *;simp only [dA,bJ,bn] at ha ⊢;rw [k7] at ha;rcases hE with c2 | c2
  ·rw [aj c2] at hd
   rw [c2] at ha;refine aB rfl rfl ?_;simp -implicitDefEqProofs [c2,hd,k7,ha]
  ·rw [ah c2] at hd
   refine aB rfl rfl ?_;simp -implicitDefEqProofs [c2,hd,k7,ha]
 rw [ah k7];by_cases k8:m.kind=8
 ·rw [aj k8]
  unfold noS;simp only [dA];rcases hE with c2 | c2
  ·rw [aj c2] at hd
   rw [aj c2];refine aB rfl rfl ?_;simp -implicitDefEqProofs [c2,hd,k8]
  ·rw [ah c2] at hd
   rw [ah c2];by_cases c1:s.st=1
   ·by_cases c9:m.code=16
    ·rw [aj ⟨c1,c9⟩]
     have c9':(m.code=16)=True:=eq_true c9;refine aB rfl rfl ?_;simp -implicitDefEqProofs [c1,hd,k8,c9']
    ·rw [ah (λh=>c9 h.2)]
     refine aB rfl rfl ?_;simp -implicitDefEqProofs [c1,hd,k8,c9]
   ·rw [ah (λh=>c1 h.1)]
    refine aB rfl rfl ?_;simp -implicitDefEqProofs [c1,c2,hd,k8]
 ·rw [ah k8]
  simp only [dA];by_cases k3:m.kind=3
  ·rcases hE with c2 | c2
   ·rw [aj c2] at hd
    refine aB rfl rfl ?_;simp -implicitDefEqProofs [c2,hd,k3]
   ·rw [ah c2] at hd
    refine aB rfl rfl ?_;simp -implicitDefEqProofs [c2,hd,k3]
  by_cases k4:m.kind=4
  ·rcases hE with c2 | c2
   ·rw [aj c2] at hd
    refine aB rfl rfl ?_;simp -implicitDefEqProofs [c2,hd,k4]
   ·rw [ah c2] at hd
    refine aB rfl rfl ?_;simp -implicitDefEqProofs [c2,hd,k4]
  rcases hE with c2 | c2
  ·rw [aj c2] at hd
   refine aB rfl rfl ?_;simp -implicitDefEqProofs [c2,hd,k1,k2,k3,k4,k5,k6,k7,k8]
  ·rw [ah c2] at hd
   refine aB rfl rfl ?_;simp -implicitDefEqProofs [c2,hd,k1,k2,k3,k4,k5,k6,k7,k8]
def vH (ks:List Int) (t:List UInt8):Prop:=∀w,(nU t w).2.2=0->(nU t w).1.kind∈ks
theorem ajC {t x:List UInt8} {k:Nat} (hk:k < 18446744073709551616) (ht:t=bG k++x) (w:Int) (h:(nU t w).2.2=0):(nU t w).1.kind=k:=by
 have hv:(ay t).1=k:=by rw [ht,as7 k x hk]
 unfold nU at h ⊢;split
 ·next c=>rw [aj c] at h;exact absurd h (by decide)
 next c=>
 rw [ah c] at h;split
 ·next c=>rw [aj c] at h;exact absurd h (by decide)
 next c=>
 rw [ah c] at h;split
 ·next c=>rw [aj c] at h;exact absurd h (by decide)
 next c=>
 rw [ah c] at h;split
 ·next c=>rw [aj c] at h;exact absurd h c
 next c=>
 rw [ah c] at h;split
 ·next c=>rw [aj c] at h;exact absurd h (by decide)
 next c=>
 rw [ah c] at h;split
 ·next c=>rw [aj c] at h;exact absurd h (by decide)
 next c=>
 rw [ah c] at h;split
 ·next c=>rw [aj c] at h;exact absurd h (by decide)
 next c=>
 rw [ah c] at h;split
 ·next c=>rw [aj c] at h;exact absurd h c
 next c=>
 rw [ah c] at h;simp only at h ⊢;split
 ·next c=>rw [aj c] at h;exact absurd h c
 next c=>
 rw [ah c] at h;split
 ·next c=>rw [aj c] at h;exact absurd h c
 ·rw [aa8 _ _ _ (by simpa using c),hv]
theorem MO {b:aS} {v:Int} {t:List UInt8} (h:t∈kC b v) (h0:0<=b.kind) (h8:b.kind<=8):vH [b.kind] t/\t.length<=65536:=by
 unfold kC at h;split at h;rotate_left
 ·cases h
 next e=>
 have hl:=O8 b [] v;obtain rfl:=mW.1 h;refine ⟨λw hw=>?_,hl⟩;unfold uH at e hw ⊢;split at e;rotate_left
 ·next c=>exact absurd e c
 next c=>
 rw [aj c] at hw ⊢;split at e
 ·exact absurd e (by decide)
 next c2=>
 rw [ah c2] at hw ⊢;simp only at hw ⊢;have hq:=ajC (t:=bytesV b [] v) (k:=b.kind.toNat) (by omega) rfl w hw;rw [hq];simp -implicitDefEqProofs [Zh h0]
/-- What comes of a message that is no Hello and none of its answers. -/
structure Mid (s:bF) (r:bF×List (List UInt8)×Int):Prop where
 ok:pK r.1
 mn:r.1.mn=s.mn
 mx:r.1.mx=s.mx
 name:r.1.name=s.name
 first:r.1.first=s.first
 st:r.1.st=s.st
 ver:r.1.ver=s.ver
 said:∀u∈r.2.1,s.st=2/\(vH [7] u\/vH [8] u)/\u.length<=65536
theorem QN {s:bF} (hs:pK s) (e:Int):Mid s (s,[],e):=⟨hs,rfl,rfl,rfl,rfl,rfl,rfl,λu h=>by cases h⟩
theorem asu (c v kd ep ba:Int) (t:List Row) (sm:Bool) (h:Sn):(lQ c v kd ep ba t sm h).1.1=0\/(lQ c v kd ep ba t sm h).1.1=7\/(lQ c v kd ep ba t sm h).1.1=8:=by
 unfold lQ;repeat' split
 all_goals simp
theorem anh {m:aS} {fl:List aH} {s:bF} (hm:qB m fl) (hs:pK s) (hk:m.kind∈([5,6,7,8]:List Int)) (h1:s.st≠1\/m.kind≠8):Mid s (zx m fl s):=by
 have hk:m.kind=5\/m.kind=6\/m.kind=7\/m.kind=8:=by simpa using hk
 unfold zx;rw [ah (by omega),ah (by omega)];by_cases c:m.kind=5\/m.kind=6
 ·rw [aj c]
  unfold lq;split;rotate_left
  ·exact QN hs 22
  next c2=>
  obtain ⟨hr,hb,hz⟩:=aeW hs.rc (iM m fl s.vs) m.kind m.epoch m.base m.t hm.t hm.body.epoch;have hq:=asu (iM m fl s.vs) s.vs m.kind m.epoch m.base m.t s.sm s.h;generalize lQ (iM m fl s.vs) s.vs m.kind m.epoch m.base m.t s.sm s.h=R at *;refine ⟨⟨hs.mn,hs.mx,hs.le,hs.name,hs.ver,hr,hs.kp⟩,rfl,rfl,rfl,rfl,rfl,rfl, ?_⟩;intro u hu;simp only at hu;split at hu
  ·cases hu
  next c0=>
  have hk1:(iL R.1).kind=R.1.1:=rfl;obtain ⟨g1,g2⟩:=MO hu (by rw [hk1];omega) (by rw [hk1];omega);rw [hk1] at g1;refine ⟨c2, ?_,g2⟩;rcases hq with e | e | e
  ·exact absurd e c0
  ·rw [e] at g1;exact .inl g1
  ·rw [e] at g1;exact .inr g1
 rw [ah c];by_cases c7:m.kind=7
 ·rw [aj c7]
  unfold qZ;split;rotate_left
  ·exact QN hs 22
  ·exact ⟨⟨hs.mn,hs.mx,hs.le,hs.name,hs.ver,hs.rc,agN hs.kp⟩,rfl,rfl,rfl,rfl,rfl,rfl,λu h=>by cases h⟩
 rw [ah c7,aj (by omega)];unfold noS;split
 ·exact ⟨⟨hs.mn,hs.mx,hs.le,hs.name,hs.ver,hs.rc,hs.kp⟩,rfl,rfl,rfl,rfl,rfl,rfl,λu h=>by cases h⟩
 ·rw [ah (λe=>h1.elim (λh=>h e.1) (λh=>h (by omega)))]
  exact QN hs 22
theorem adF {t:List UInt8} {s:bF} (hs:pK s) (ks:List Int) (hk:vH ks t) (hks:∀k∈ks,k∈([5,6,7,8]:List Int)) (h1:s.st≠1\/(8:Int)∉ks):Mid s (dP t s):=by
 have hm:=aa7 t (qV s);unfold dP;split
 ·next e=>
  have h:=hk (qV s) e;exact anh hm hs (hks _ h) (h1.imp id λn c=>n (c ▸ h))
 ·exact QN hs _
/-- The texts of a Hello and of its answers. -/
def helloT (mn mx:Int):List UInt8:=(uH (rM mn mx [97]) [] 1).1
def Hq (v:Int):List UInt8:=(uH (pR v [98]) [] 1).1
def Jm:List UInt8:=(uH qO [] 1).1
theorem aeX:kC qO 1=[Jm]:=by kernel_rfl
theorem apS:nU Jm 1=(qO,[],0):=by kernel_rfl
theorem three {v:Int} (h1:1<=v) (h3:v<=3):v=1\/v=2\/v=3:=by omega
theorem Ue {v:Int} (h1:1<=v) (h3:v<=3):kC (pR v [98]) 1=[Hq v]:=by
 rcases three h1 h3 with rfl | rfl | rfl
 ·kernel_rfl
 ·kernel_rfl
 ·kernel_rfl
theorem agL {v:Int} (h1:1<=v) (h3:v<=3):nU (Hq v) 1=(pR v [98],[],0):=by
 rcases three h1 h3 with rfl | rfl | rfl
 ·kernel_rfl
 ·kernel_rfl
 ·kernel_rfl
theorem six {a c:Int} (h1:1<=a) (h2:a<=c) (h3:c<=3):(a=1/\c=1)\/(a=1/\c=2)\/(a=1/\c=3)\/(a=2/\c=2)\/(a=2/\c=3)\/(a=3/\c=3):=by omega
theorem acn {a c:Int} (h1:1<=a) (h2:a<=c) (h3:c<=3):kC (rM a c [97]) 1=[helloT a c]:=by
 rcases six h1 h2 h3 with ⟨rfl,rfl⟩ | ⟨rfl,rfl⟩ | ⟨rfl,rfl⟩ | ⟨rfl,rfl⟩ | ⟨rfl,rfl⟩ | ⟨rfl,rfl⟩
 ·kernel_rfl
 ·kernel_rfl
 ·kernel_rfl
 ·kernel_rfl
 ·kernel_rfl
 ·kernel_rfl
theorem alp {a c w:Int} (h1:1<=a) (h2:a<=c) (h3:c<=3) (w1:1<=w) (w3:w<=3):nU (helloT a c) w=(rM a c [97],[],0):=by
 rcases six h1 h2 h3 with ⟨rfl,rfl⟩ | ⟨rfl,rfl⟩ | ⟨rfl,rfl⟩ | ⟨rfl,rfl⟩ | ⟨rfl,rfl⟩ | ⟨rfl,rfl⟩
 ·rcases three w1 w3 with rfl | rfl | rfl
  ·kernel_rfl
  ·kernel_rfl
  ·kernel_rfl
 ·rcases three w1 w3 with rfl | rfl | rfl
  ·kernel_rfl
  ·kernel_rfl
  ·kernel_rfl
 ·rcases three w1 w3 with rfl | rfl | rfl
  ·kernel_rfl
  ·kernel_rfl
  ·kernel_rfl
 ·rcases three w1 w3 with rfl | rfl | rfl
  ·kernel_rfl
  ·kernel_rfl
  ·kernel_rfl
 ·rcases three w1 w3 with rfl | rfl | rfl
  ·kernel_rfl
  ·kernel_rfl
  ·kernel_rfl
 ·rcases three w1 w3 with rfl | rfl | rfl
  ·kernel_rfl
  ·kernel_rfl
  ·kernel_rfl
structure iG (V:Int) (ok:Bool) (p q:bF):Prop where
 fP:pK p
 kP:pK q
 pf:p.first=true
 qf:q.first=false
 pn:p.name=[97]
 qn:q.name=[98]
 com:jo p.mn p.mx q.mn q.mx=(V,ok)
 ps:p.st=0\/p.st=1\/p.st=2\/p.st=3
 qs:q.st=0\/q.st=2\/q.st=3
 p2:p.st=2->ok=true/\p.ver=V/\q.st=2
 q2:q.st=2->ok=true/\q.ver=V
 pz:p.st≠2->p.ver=0
 qz:q.st≠2->q.ver=0
 p3:p.st=3->q.st=3
 q3:q.st=3->ok=false
def vN (p:bF) (t:List UInt8):Prop:=t.length<=65536/\(t=helloT p.mn p.mx\/(p.st=2/\vH [5,6,7,8] t))
def yK (V:Int) (p q:bF) (t:List UInt8):Prop:=t.length<=65536/\((t=Hq V/\q.st=2)\/(t=Jm/\q.st=3)\/(q.st=2/\vH [5,6,7] t)\/(p.st=2/\vH [8] t))
structure kG (p q p' q':bF):Prop where
 mn:p'.mn=p.mn
 mx:p'.mx=p.mx
 p2:p.st=2->p'.st=2
 p3:p.st=3->p'.st=3
 q2:q.st=2->q'.st=2
 q3:q.st=3->q'.st=3
theorem kG.tp {p q p' q':bF} (l:kG p q p' q') {t:List UInt8} (h:vN p t):vN p' t:=by
 unfold vN at h ⊢;rw [l.mn,l.mx];exact ⟨h.1,h.2.imp id λe=>⟨l.p2 e.1,e.2⟩⟩
theorem kG.tq {V:Int} {p q p' q':bF} (l:kG p q p' q') {t:List UInt8} (h:yK V p q t):yK V p' q' t:=
 ⟨h.1,h.2.imp (λe=>⟨e.1,l.q2 e.2⟩) λh=>h.imp (λe=>⟨e.1,l.q3 e.2⟩) λh=>h.imp (λe=>⟨l.q2 e.1,e.2⟩) λe=>⟨l.p2 e.1,e.2⟩⟩
theorem LJ {ks ks':List Int} {t:List UInt8} (h:vH ks t) (hs:∀k∈ks,k∈ks'):vH ks' t:=λw e=>hs _ (h w e)
theorem ah1 (a c x y:Int):jo a c x y=jo x y a c:=by
 have h1:Bc a x=Bc x a:=by unfold Bc;split<;>split<;>omega
 have h2:zK c y=zK y c:=by unfold zK;split<;>split<;>omega
 unfold jo;rw [h1,h2]
theorem iG.Gt {V:Int} {ok:Bool} {p q:bF} (h:iG V ok p q) (e:ok=true):p.mn<=V/\V<=p.mx/\1<=V/\V<=3:=by
 have hc:=h.com;have h2:(jo p.mn p.mx q.mn q.mx).2=true:=by rw [hc];exact e
 have hl:=aaV h2;rw [hc] at hl;simp only at hl;have:=h.fP.mn;have:=h.fP.mx;omega
/-- Other senders and receivers change nothing here. -/
theorem iG.adG {V:Int} {ok:Bool} {p q:bF} (h:iG V ok p q) {p':bF} (h0:pK p') (e1:p'.mn=p.mn) (e2:p'.mx=p.mx) (e3:p'.name=p.name) (e4:p'.first=p.first) (e5:p'.st=p.st) (e6:p'.ver=p.ver):iG V ok p' q/\kG p q p' q:=
 ⟨⟨h0,h.kP,e4 ▸ h.pf,h.qf,e3 ▸ h.pn,h.qn,by rw [e1,e2];exact h.com,by rw [e5];exact h.ps,h.qs,by rw [e5,e6];exact h.p2,h.q2,by rw [e5,e6];exact h.pz,h.qz,by rw [e5];exact h.p3,h.q3⟩,⟨e1,e2,λe=>e5.trans e,λe=>e5.trans e,id,id⟩⟩
theorem iG.adH {V:Int} {ok:Bool} {p q:bF} (h:iG V ok p q) {q':bF} (h0:pK q') (e1:q'.mn=q.mn) (e2:q'.mx=q.mx) (e3:q'.name=q.name) (e4:q'.first=q.first) (e5:q'.st=q.st) (e6:q'.ver=q.ver):iG V ok p q'/\kG p q p q':=
 ⟨⟨h.fP,h0,h.pf,e4 ▸ h.qf,h.pn,e3 ▸ h.qn,by rw [e1,e2];exact h.com,h.ps,by rw [e5];exact h.qs,λe=>⟨(h.p2 e).1,(h.p2 e).2.1,e5.trans (h.p2 e).2.2⟩,by rw [e5,e6];exact h.q2,h.pz,by rw [e5,e6];exact h.qz,λe=>e5.trans (h.p3 e),by rw [e5];exact h.q3⟩,⟨rfl,rfl,id,id,λe=>e5.trans e,λe=>e5.trans e⟩⟩
theorem kG.self (p q:bF):kG p q p q:=⟨rfl,rfl,id,id,id,id⟩
theorem kG.trans {p q p' q' p'' q'':bF} (a:kG p q p' q') (b:kG p' q' p'' q''):kG p q p'' q'':=
 ⟨b.mn.trans a.mn,b.mx.trans a.mx,λe=>b.p2 (a.p2 e),λe=>b.p3 (a.p3 e),λe=>b.q2 (a.q2 e),λe=>b.q3 (a.q3 e)⟩
def X5 (x:Sn) (s:bF):bF:={ s with k:=(uS x s.k s.b).2.1,b:=(uS x s.k s.b).2.2 }
theorem aeI {x:Sn} {s:bF} (hs:pK s) (hx:fF x.2) (h0:0<=x.1/\x.1 < 18446744073709551616):pK (X5 x s):=
 ⟨hs.mn,hs.mx,hs.le,hs.name,hs.ver,hs.rc,apb hs.kp hx h0⟩
def lN (s:bF):bF:={ s with st:=(iR s).2 }
theorem adK {v:Int} {k:List Sn} {b:Int} (h:(kZ v k b).2=0):(kZ v k b).1.1=5\/(kZ v k b).1.1=6:=by
 unfold kZ at h ⊢;cases hl:k.getLast? with
 | none=>rw [hl] at h;simp at h
 | some l=>
   rw [hl] at h;simp only at h ⊢;split
   ·next c=>rw [aj c] at h;exact absurd h (by decide)
   next c=>
   rw [ah c] at h;cases hf:je b k with
   | none=>exact .inl rfl
   | some i=>
     rw [hf] at h;simp only at h ⊢;split;rotate_left
     ·exact .inl rfl
     next c2=>
     rw [aj c2] at h;cases hs:k[i]? with
     | none=>exact .inl rfl
     | some s=>
       rw [hs] at h;simp only at h ⊢;split
       ·next c3=>rw [aj c3] at h;exact absurd h c3
       ·exact .inr rfl
theorem apy {V:Int} {ok:Bool} {p q:bF} (h:iG V ok p q):lN q=q/\∀t∈(iR q).1,yK V p q t:=by
 have h1:(iR q).2=q.st:=by
  unfold iR;rw [h.qf];split
  ·next c=>split<;>exact c.symm
  ·rfl
 refine ⟨by unfold lN;rw [h1],λt ht=>?_⟩;unfold iR at ht;rw [h.qf] at ht;split at ht;rotate_left
 ·cases ht
 next c=>
 split at ht;rotate_left
 ·cases ht
 next c0=>
 have hk:=adK (v:=q.vs) (k:=q.k) (b:=q.b) c0;have e:(DU (kZ q.vs q.k q.b).1).kind=(kZ q.vs q.k q.b).1.1:=rfl;obtain ⟨g1,g2⟩:=MO ht (by rw [e];omega) (by rw [e];omega);rw [e] at g1;exact ⟨g2,.inr (.inr (.inl ⟨c,LJ g1 λk hk'=>by rw [mW.1 hk'];rcases hk with e | e<;>rw [e]<;>simp⟩))⟩
theorem Xo {V:Int} {ok:Bool} {p q:bF} (h:iG V ok p q):iG V ok (lN p) q/\kG p q (lN p) q/\∀t∈(iR p).1,vN (lN p) t:=by
 by_cases c:p.st=2
 ·have e:iR p=(if (kZ p.vs p.k p.b).2=0 then (kC (DU (kZ p.vs p.k p.b).1) p.ver,2) else ([],2)):=by
   unfold iR;rw [aj c]
  have e2:(iR p).2=p.st:=by rw [e,c];split<;>rfl
  have e3:lN p=p:=by unfold lN;rw [e2]
  rw [e3];refine ⟨h,kG.self p q,λt ht=>?_⟩;rw [e] at ht;split at ht;rotate_left
  ·cases ht
  next c0=>
  have hk:=adK (v:=p.vs) (k:=p.k) (b:=p.b) c0;have e:(DU (kZ p.vs p.k p.b).1).kind=(kZ p.vs p.k p.b).1.1:=rfl;obtain ⟨g1,g2⟩:=MO ht (by rw [e];omega) (by rw [e];omega);rw [e] at g1;exact ⟨g2,.inr ⟨c,LJ g1 λk hk'=>by rw [mW.1 hk'];rcases hk with e | e<;>rw [e]<;>simp⟩⟩
 by_cases c3:p.st=3
 ·have e:iR p=([],3):=by unfold iR;rw [ah c,aj h.pf,aj c3]
  have e3:lN p=p:=by unfold lN;rw [e,<- c3]
  rw [e3,e];exact ⟨h,kG.self p q,λt ht=>by cases ht⟩
 ·have hs:=acn h.fP.mn h.fP.le h.fP.mx
  have e:iR p=([helloT p.mn p.mx],1):=by unfold iR;rw [ah c,aj h.pf,ah c3,h.pn,hs]
  have e3:lN p = { p with st:=1 }:=by unfold lN;rw [e]
  rw [e3,e];refine ⟨⟨⟨h.fP.mn,h.fP.mx,h.fP.le,h.fP.name,h.fP.ver,h.fP.rc,h.fP.kp⟩,h.kP,h.pf,h.qf,h.pn,h.qn,h.com,.inr (.inl rfl),h.qs,(λe=>by simp at e),h.q2,λ_=>h.pz c,h.qz,(λe=>by simp at e),h.q3⟩,⟨rfl,rfl,λe=>absurd e c,λe=>absurd e c3,id,id⟩,λt ht=>?_⟩;rw [mW.1 ht];exact ⟨O8 _ _ _,.inl rfl⟩
theorem aeS {V:Int} {ok:Bool} {p q:bF} (h:iG V ok p q):dP (helloT p.mn p.mx) q=if ok=true then ({ q with st:=2,ver:=V,vs:=if q.st=2 then q.vs else V },[Hq V],0) else ({ q with st:=3 },[Jm],16):=by
 have hw:1<=qV q/\qV q<=3:=by
  unfold qV;split
  ·next c=>
   obtain ⟨e1,e2⟩:=h.q2 c;have:=h.Gt e1;omega
  ·omega
 have hd:=alp h.fP.mn h.fP.le h.fP.mx hw.1 hw.2;have h1:=h.fP.mn;have h2:=h.fP.mx;have h3:=h.fP.le;have hc:jo q.mn q.mx p.mn p.mx=(V,ok):=by rw [ah1];exact h.com
 unfold dP;rw [hd,aj rfl];unfold zx;rw [aj (show (rM p.mn p.mx [97]).kind=1 from rfl)];unfold nY;have hc:jo q.mn q.mx (rM p.mn p.mx [97]).min (rM p.mn p.mx [97]).max=(V,ok):=hc;rw [h.qf,ah (by simp),ah (show ¬ (rM p.mn p.mx [97]).min < 1 from λe=>by have e:p.mn < 1:=e;omega),ah (show ¬ (rM p.mn p.mx [97]).max < (rM p.mn p.mx [97]).min from λe=>by have e:p.mx < p.mn:=e;omega),ah (show ¬ 255 < (rM p.mn p.mx [97]).max from λe=>by have e:255 < p.mx:=e;omega),hc];cases hok:ok with
 | true=>
   subst hok;obtain ⟨-, -,v1,v3⟩:=h.Gt rfl;simp only [reduceIte];by_cases c:q.st=2
   ·rw [aj c,aj ⟨trivial,(h.q2 c).2.symm⟩,(h.q2 c).2,h.qn,Ue v1 v3,aj c]
    congr 1;have hv:=(h.q2 c).2;have f:=h.qf;have n:=h.qn;clear hc hd hw h;cases q;simp only at c hv f n;subst c hv f n;rfl
   ·have c3:q.st≠3:=λe=>by have:=h.q3 e;cases this
    rw [ah c,ah (by simp [c3]),h.qn,Ue v1 v3,ah c]
 | false=>
   subst hok;have c:q.st≠2:=λe=>by have:=(h.q2 e).1;cases this
   simp only [reduceIte,fV];rw [ah c,aj (.inl trivial),aeX]
theorem Rl {V:Int} {ok:Bool} {p q:bF} (h:iG V ok p q) {t:List UInt8} (ht:vN p t):iG V ok p (dP t q).1/\kG p q p (dP t q).1/\∀u∈(dP t q).2.1,yK V p (dP t q).1 u:=by
 rcases ht.2 with rfl | ⟨p2,hk⟩
 ·rw [aeS h]
  cases hok:ok with
  | true=>
    subst hok;obtain ⟨-, -,v1,v3⟩:=h.Gt rfl;have c3:q.st≠3:=λe=>by have:=h.q3 e;cases this
    have p3:p.st≠3:=λe=>c3 (h.p3 e);simp only [reduceIte];refine ⟨⟨h.fP,⟨h.kP.mn,h.kP.mx,h.kP.le,h.kP.name,⟨by simp only;omega,v3⟩, ?_,h.kP.kp⟩,h.pf,h.qf,h.pn,h.qn,h.com,h.ps,.inr (.inl rfl),λe=>⟨rfl,(h.p2 e).2.1,rfl⟩,λ_=>⟨rfl,rfl⟩,h.pz,λe=>absurd rfl e,λe=>absurd e p3,(λe=>by simp at e)⟩,⟨rfl,rfl,id,id,λ_=>rfl,λe=>absurd e c3⟩,λu hu=>?_⟩
    ·simp only
     split
     ·exact h.kP.rc
     ·exact ⟨v1,v3,h.kP.rc.good,h.kP.rc.ep,h.kP.rc.no⟩
    ·rw [mW.1 hu]
     exact ⟨O8 _ _ _,.inl ⟨rfl,rfl⟩⟩
  | false=>
    subst hok;have c:q.st≠2:=λe=>by have:=(h.q2 e).1;cases this
    have p2:p.st≠2:=λe=>by have:=(h.p2 e).1;cases this
    simp only [reduceIte,fV];refine ⟨⟨h.fP,⟨h.kP.mn,h.kP.mx,h.kP.le,h.kP.name,h.kP.ver,h.kP.rc,h.kP.kp⟩,h.pf,h.qf,h.pn,h.qn,h.com,h.ps,.inr (.inr rfl),λe=>absurd e p2,(λe=>by simp at e),h.pz,λ_=>h.qz c,λ_=>rfl,λ_=>rfl⟩,⟨rfl,rfl,id,id,λe=>absurd e c,λ_=>rfl⟩,λu hu=>?_⟩;rw [mW.1 hu];exact ⟨O8 _ _ _,.inr (.inl ⟨rfl,rfl⟩)⟩
 ·have m:=adF h.kP [5,6,7,8] hk (λk hk=>hk) (.inl (by have:=h.qs;omega))
  obtain ⟨g1,g2⟩:=h.adH m.ok m.mn m.mx m.name m.first m.st m.ver;refine ⟨g1,g2,λu hu=>?_⟩;obtain ⟨q2,g3,g4⟩:=m.said u hu;refine ⟨g4, ?_⟩;rw [m.st];rcases g3 with g3 | g3
  ·exact .inr (.inr (.inl ⟨q2,LJ g3 λk hk=>by rw [mW.1 hk];simp⟩))
  ·exact .inr (.inr (.inr ⟨p2,g3⟩))
theorem ad8 {V:Int} {ok:Bool} {p q:bF} (h:iG V ok p q) (q2:q.st=2) (h1:p.st=1):dP (Hq V) p=({ p with st:=2,ver:=V,vs:=V },[],0):=by
 obtain ⟨e, -⟩:=h.q2 q2;obtain ⟨v1,v2,v3,v4⟩:=h.Gt e;have hd:=agL v3 v4;have hw:qV p=1:=by unfold qV;rw [ah (by omega)]
 unfold dP;rw [hw,hd,aj rfl];unfold zx;rw [ah (by simp [pR]),aj (by simp [pR])];unfold IE;rw [aj h1,aj (show p.mn<=(pR V [98]).chosen/\(pR V [98]).chosen<=p.mx from ⟨v1,v2⟩)];rfl
theorem ad9 {V:Int} {ok:Bool} {p q:bF} (h:iG V ok p q) (q3:q.st=3) (h1:p.st=1):dP Jm p=({ p with st:=3 },[],16):=by
 have hw:qV p=1:=by unfold qV;rw [ah (by omega)]
 unfold dP;rw [hw,apS,aj rfl];unfold zx;rw [ah (by simp [qO]),ah (by simp [qO]),ah (by simp [qO]),ah (by simp [qO]),aj (by simp [qO])];unfold noS;rw [ah (by omega),aj ⟨h1,rfl⟩]
theorem still {t:List UInt8} {s:bF} (hk:vH [2] t) (h1:s.st≠1):∃e,dP t s=(s,[],e):=by
 unfold dP;split;rotate_left
 ·exact ⟨_,rfl⟩
 next e=>
 have h:=mW.1 (hk _ e);unfold zx;rw [ah (by omega),aj h];unfold IE;rw [ah h1];split
 ·exact ⟨_,rfl⟩
 ·exact ⟨_,rfl⟩
theorem Xn {V:Int} {ok:Bool} {p q:bF} (h:iG V ok p q) {t:List UInt8} (ht:yK V p q t):iG V ok (dP t p).1 q/\kG p q (dP t p).1 q/\∀u∈(dP t p).2.1,vN (dP t p).1 u:=by
 have none:∀e,dP t p=(p,[],e)->iG V ok (dP t p).1 q/\kG p q (dP t p).1 q/\∀u∈(dP t p).2.1,vN (dP t p).1 u:=by
  intro e he;rw [he];exact ⟨h,kG.self p q,λu hu=>by cases hu⟩
 have mid:∀ks:List Int,vH ks t->(∀k∈ks,k∈([5,6,7,8]:List Int))->(p.st≠1\/(8:Int)∉ks)->iG V ok (dP t p).1 q/\kG p q (dP t p).1 q/\∀u∈(dP t p).2.1,vN (dP t p).1 u:=by
  intro ks hk hs h1;have m:=adF h.fP ks hk hs h1;obtain ⟨g1,g2⟩:=h.adG m.ok m.mn m.mx m.name m.first m.st m.ver;refine ⟨g1,g2,λu hu=>?_⟩;obtain ⟨p2,g3,g4⟩:=m.said u hu;refine ⟨g4,.inr ⟨m.st.trans p2, ?_⟩⟩;rcases g3 with g3 | g3
  ·exact LJ g3 λk hk=>by rw [mW.1 hk];simp
  ·exact LJ g3 λk hk=>by rw [mW.1 hk];simp
 rcases ht.2 with ⟨rfl,q2⟩ | ⟨rfl,q3⟩ | ⟨q2,hk⟩ | ⟨p2,hk⟩
 ·by_cases h1:p.st=1
  ·rw [ad8 h q2 h1]
   obtain ⟨e, -⟩:=h.q2 q2;obtain ⟨v1,v2,v3,v4⟩:=h.Gt e;exact ⟨⟨⟨h.fP.mn,h.fP.mx,h.fP.le,h.fP.name,⟨by simp only;omega,v4⟩,⟨v3,v4,h.fP.rc.good,h.fP.rc.ep,h.fP.rc.no⟩,h.fP.kp⟩,h.kP,h.pf,h.qf,h.pn,h.qn,h.com,.inr (.inr (.inl rfl)),h.qs,λ_=>⟨e,rfl,q2⟩,h.q2,λe=>absurd rfl e,h.qz,(λe=>by simp at e),h.q3⟩,⟨rfl,rfl,λ_=>rfl,λe=>by omega,id,id⟩,λu hu=>by cases hu⟩
  ·have hk:vH [2] (Hq V):=by
    obtain ⟨e, -⟩:=h.q2 q2;obtain ⟨v1,v2,v3,v4⟩:=h.Gt e;exact (MO (b:=pR V [98]) (v:=1) (by rw [Ue v3 v4];simp) (by simp [pR]) (by simp [pR])).1
   obtain ⟨e,he⟩:=still hk h1;exact none e he
 ·by_cases h1:p.st=1
  ·rw [ad9 h q3 h1]
   have e:=h.q3 q3;exact ⟨⟨⟨h.fP.mn,h.fP.mx,h.fP.le,h.fP.name,h.fP.ver,h.fP.rc,h.fP.kp⟩,h.kP,h.pf,h.qf,h.pn,h.qn,h.com,.inr (.inr (.inr rfl)),h.qs,(λe=>by simp at e),h.q2,λ_=>h.pz (by omega),h.qz,λ_=>q3,h.q3⟩,⟨rfl,rfl,λe=>by omega,λ_=>rfl,id,id⟩,λu hu=>by cases hu⟩
  ·have hk:vH [8] Jm:=(MO (b:=qO) (v:=1) (by rw [aeX];simp) (by simp [qO]) (by simp [qO])).1
   exact mid [8] hk (λk hk=>by rw [mW.1 hk];simp) (.inl h1)
 ·exact mid [5,6,7] hk (λk hk=>by simp at hk ⊢;omega) (.inr (by simp))
 ·exact mid [8] hk (λk hk=>by rw [mW.1 hk];simp) (.inl (by omega))
/-- Both are Open, or both Refused. -/
def Fin (ok:Bool) (p q:bF):Prop:=if ok=true then p.st=2/\q.st=2 else p.st=3/\q.st=3
theorem kG.fin {ok:Bool} {p q p' q':bF} (l:kG p q p' q') (h:Fin ok p q):Fin ok p' q':=by
 unfold Fin at h ⊢;split
 ·next c=>rw [aj c] at h;exact ⟨l.p2 h.1,l.q2 h.2⟩
 ·next c=>rw [ah c] at h;exact ⟨l.p3 h.1,l.q3 h.2⟩
def mg:List (List UInt8)->bF->bF
 | [],p=>p
 | u::us,p=>mg us (dP u p).1
def lI:List (List UInt8)->bF->bF->bF×bF
 | [],q,p=>(q,p)
 | t::ts,q,p=>lI ts (dP t q).1 (mg (dP t q).2.1 p)
theorem Vy {V:Int} {ok:Bool} {q:bF}:∀ (us:List (List UInt8)) (p:bF),iG V ok p q->(∀u∈us,yK V p q u)->iG V ok (mg us p) q/\kG p q (mg us p) q
 | [],p,h,_=>⟨h,kG.self p q⟩
 | u::us,p,h,hu=>by
   obtain ⟨h1,h2, -⟩:=Xn h (hu u (by simp));obtain ⟨g1,g2⟩:=Vy us _ h1 λx hx=>h2.tq (hu x (by simp [hx]));exact ⟨g1,h2.trans g2⟩
theorem aci {V:Int} {ok:Bool}:∀ (ts:List (List UInt8)) (q p:bF),iG V ok p q->(∀t∈ts,vN p t)->iG V ok (lI ts q p).2 (lI ts q p).1/\kG p q (lI ts q p).2 (lI ts q p).1
 | [],q,p,h,_=>⟨h,kG.self p q⟩
 | t::ts,q,p,h,ht=>by
   obtain ⟨h1,h2,h3⟩:=Rl h (ht t (by simp));obtain ⟨h4,h5⟩:=Vy _ p h1 h3;obtain ⟨g1,g2⟩:=aci ts _ _ h4 λx hx=>h5.tp (h2.tp (ht x (by simp [hx])));exact ⟨g1,(h2.trans h5).trans g2⟩
def pY (p q:bF):bF×bF:=lI (iR p).1 q (lN p)
theorem ae5 {V:Int} {ok:Bool} {p q:bF} (h:iG V ok p q):iG V ok (pY p q).2 (pY p q).1/\Fin ok (pY p q).2 (pY p q).1:=by
 obtain ⟨h1,h2,h3⟩:=Xo h;obtain ⟨h4,h5⟩:=aci _ q _ h1 h3;refine ⟨h4, ?_⟩;have far:Fin ok p q->Fin ok (pY p q).2 (pY p q).1:=λf=>(h2.trans h5).fin f;by_cases c2:p.st=2
 ·obtain ⟨e, -,q2⟩:=h.p2 c2
  exact far (by unfold Fin;rw [aj e];exact ⟨c2,q2⟩)
 by_cases c3:p.st=3
 ·have q3:=h.p3 c3
  have e:=h.q3 q3;exact far (by unfold Fin;rw [ah (by rw [e];simp)];exact ⟨c3,q3⟩)
 have hs:=acn h.fP.mn h.fP.le h.fP.mx;have e:iR p=([helloT p.mn p.mx],1):=by unfold iR;rw [ah c2,aj h.pf,ah c3,h.pn,hs]
 have e3:lN p = { p with st:=1 }:=by unfold lN;rw [e]
 obtain ⟨g1, -⟩:=Rl h1 (h3 (helloT p.mn p.mx) (by rw [e];simp));have hq:=aeS h1;rw [e3] at hq g1;simp only at hq;unfold pY;rw [e,e3];unfold lI lI;rw [hq] at g1 ⊢;cases hok:ok with
 | true=>
   subst hok;simp only [reduceIte] at g1 ⊢;have ha:=ad8 g1 rfl rfl;unfold mg mg;rw [ha];unfold Fin;rw [aj rfl];exact ⟨rfl,rfl⟩
 | false=>
   subst hok;simp only [reduceIte,fV] at g1 ⊢;have ha:=ad9 g1 rfl rfl;unfold mg mg;rw [ha];unfold Fin;rw [ah (by simp)];exact ⟨rfl,rfl⟩
theorem Vz (t:List UInt8) (s:bF):(dP t s).2.1.length<=1:=by
 unfold dP;split;rotate_left
 ·simp
 unfold zx nY IE lq qZ noS;repeat' split
 all_goals first | exact afa _ _ | simp
theorem MC (s:bF):(iR s).1.length<=1:=by
 unfold iR;repeat' split
 all_goals first | exact afa _ _ | simp
theorem IG (t:List UInt8) (s:bF):(dP t s).1.mn=s.mn/\(dP t s).1.mx=s.mx/\(dP t s).1.name=s.name/\(dP t s).1.first=s.first:=by
 unfold dP;split;rotate_left
 ·exact ⟨rfl,rfl,rfl,rfl⟩
 unfold zx nY IE lq qZ noS;repeat' split
 all_goals exact ⟨rfl,rfl,rfl,rfl⟩
theorem VA:∀ (us:List (List UInt8)) (p:bF),(mg us p).mn=p.mn/\(mg us p).mx=p.mx/\(mg us p).name=p.name/\(mg us p).first=p.first
 | [],p=>⟨rfl,rfl,rfl,rfl⟩
 | u::us,p=>by
   have h1:=VA us (dP u p).1;have h2:=IG u p;exact ⟨h1.1.trans h2.1,h1.2.1.trans h2.2.1,h1.2.2.1.trans h2.2.2.1,h1.2.2.2.trans h2.2.2.2⟩
theorem acj:∀ (ts:List (List UInt8)) (q p:bF),((lI ts q p).1.mn=q.mn/\(lI ts q p).1.mx=q.mx/\(lI ts q p).1.name=q.name/\(lI ts q p).1.first=q.first)/\((lI ts q p).2.mn=p.mn/\(lI ts q p).2.mx=p.mx/\(lI ts q p).2.name=p.name/\(lI ts q p).2.first=p.first)
 | [],q,p=>⟨⟨rfl,rfl,rfl,rfl⟩,⟨rfl,rfl,rfl,rfl⟩⟩
 | t::ts,q,p=>by
   have h1:=acj ts (dP t q).1 (mg (dP t q).2.1 p);have h2:=IG t q;have h3:=VA (dP t q).2.1 p;exact ⟨⟨h1.1.1.trans h2.1,h1.1.2.1.trans h2.2.1,h1.1.2.2.1.trans h2.2.2.1,h1.1.2.2.2.trans h2.2.2.2⟩,⟨h1.2.1.trans h3.1,h1.2.2.1.trans h3.2.1,h1.2.2.2.1.trans h3.2.2.1,h1.2.2.2.2.trans h3.2.2.2⟩⟩
structure Ac where
 who:Int
 rF:Int
 pick:Int
 x:Sn
 at_:Int
 OE:Int
 text:List UInt8
structure JC (a:Ac):Prop where
 who:0<=a.who/\a.who < 256
 rF:0<=a.rF/\a.rF < 256
 pick:0<=a.pick/\a.pick < 256
 ep:0<=a.x.1/\a.x.1 < 18446744073709551616
 rows:Rows a.x.2
def lC (a:Ac):GV:=.g [.i .u8 a.who,.i .u8 a.rF,.i .u8 a.pick,.i .u64 a.x.1,.l (a.x.2.map row),.i .u16 a.at_,.i .u8 a.OE,.s a.text]
@[simp] theorem atF (a:Ac):(lC a).cells=[.i .u8 a.who,.i .u8 a.rF,.i .u8 a.pick,.i .u64 a.x.1,.l (a.x.2.map row),.i .u16 a.at_,.i .u8 a.OE,.s a.text]:=rfl
@[simp] theorem atG (a:Ac):(lC a).scalar=false:=rfl
theorem xI (a:Ac):GV.g [.i .u8 a.who,.i .u8 a.rF,.i .u8 a.pick,.i .u64 a.x.1,.l (a.x.2.map row),.i .u16 a.at_,.i .u8 a.OE,.s a.text]=lC a:=rfl
def KR (a:Ac):Bool:=decide ((a.x.2.length:Int)<=20)&&(Dk a.x.2&&decide ((a.text.length:Int)<=2000))
theorem agQ (a:Ac) (ha:JC a):TT.lim 9 [lC a]=some [.b (KR a)]:=by
 have hf:=akt a.x.2 ha.rows;unfold KR;by_cases c1:(a.x.2.length:Int)<=20
 ·cases c2:Dk a.x.2 with
  | true=>
    rw [c2] at hf;refine aQ rfl rfl ?_ rfl;simp -implicitDefEqProofs [hf,c1]
  | false=>
    rw [c2] at hf;refine aQ rfl rfl ?_ rfl;simp -implicitDefEqProofs [hf,c1]
 ·refine aQ rfl rfl ?_ rfl
  simp -implicitDefEqProofs [c1]
theorem ahC {V:Int} {ok:Bool} {p q:bF} (h:iG V ok p q) (A N I S0 S1:GV):TT.lim 33 ([.i .u64 V,.b ok,A,N,I,.i .i64 0,S0,S1]++(dA q++dA p))=some [.i .i64 1]:=by
 have w0:IntKind.i64.wrap 1=1:=rfl;have w1:IntKind.i64.wrap 2=2:=rfl;have hw:ok=true->IntKind.i64.wrap V=V:=λe=>by
  obtain ⟨-, -,v1,v3⟩:=h.Gt e;exact wrap64 (by omega) (by omega)
 have h2:TT.lim 33 ([.i .u64 V,.b ok,A,N,I,.i .i64 2,S0,S1]++(dA q++dA p))=some [.i .i64 1]:=by
  simp only [dA,bJ,bn];refine aB rfl rfl ?_;simp
 have h1:TT.lim 33 ([.i .u64 V,.b ok,A,N,I,.i .i64 1,S0,S1]++(dA q++dA p))=some [.i .i64 1]:=by
  simp only [dA,bJ,bn] at h2 ⊢;by_cases c:q.st=2
  ·obtain ⟨e,ev⟩:=h.q2 c
   have hw:=hw e;subst e;rw [c,ev] at h2 ⊢;refine aB rfl rfl ?_;simp -implicitDefEqProofs [hw,w1,h2]
  ·have e:=h.qz c
   rw [e] at h2 ⊢;by_cases c3:q.st=3
   ·have e:=h.q3 c3
    rw [c3] at h2 ⊢;subst e;refine aB rfl rfl ?_;simp -implicitDefEqProofs [w1,h2]
   ·refine aB rfl rfl ?_
    simp -implicitDefEqProofs [c,c3,w1,h2]
 simp only [dA,bJ,bn] at h1 ⊢;by_cases c:p.st=2
 ·obtain ⟨e,ev, -⟩:=h.p2 c
  have hw:=hw e;subst e;rw [c,ev] at h1 ⊢;refine aB rfl rfl ?_;simp -implicitDefEqProofs [hw,w0,h1]
 ·have e:=h.pz c
  rw [e] at h1 ⊢;by_cases c3:p.st=3
  ·have e:=h.q3 (h.p3 c3)
   rw [c3] at h1 ⊢;subst e;refine aB rfl rfl ?_;simp -implicitDefEqProofs [w0,h1]
  ·refine aB rfl rfl ?_
   simp -implicitDefEqProofs [c,c3,w0,h1]
def pF (s:bF):List GV:=[.i .i64 s.st,.i .i64 s.ver,.i .i64 s.vs,.b s.sm,.i .u64 s.h.1,.l (s.h.2.map row),.l (s.k.map sn),.i .u64 s.b]
def Tj (V:Int) (ok:Bool) (acts:List Ac) (i:Int) (S0 S1:List (List UInt8)) (p q:bF):Prop:=
 ∃Q,(Q=[GV.i .i64 0,.b true]\/∃p' q':bF,iG V ok p' q'/\p'.mn=p.mn/\p'.mx=p.mx/\q'.mn=q.mn/\q'.mx=q.mx/\Q=GV.i .i64 1::(pF q'++pF p'))/\
 TT.lim 8 ([.i .u64 V,.b ok,.l (acts.map lC),.i .i64 (acts.length:Int),.i .i64 i,.l (S0.map .s),.l (S1.map .s)]++(dA q++dA p))=some Q
theorem Ov {S T:List (List UInt8)} (h:S.length<=100) (hT:T.length<=1):J6 1 16 (some (.l (S.map .s))) (some (.l (T.map .s)))=some (.l ((S++T).map .s)):=by
 rw [Ht,aj]
 ·rw [mQ]
 ·refine ⟨?_, ?_, ?_⟩
  ·simp -implicitDefEqProofs [GV.fA,GV.cells,GV.scalar]
  ·simp only [kR];omega
  ·simp only [kR];omega
theorem aak {S:List (List UInt8)} {j:Nat} (h:j < S.length):∃t,t∈S/\at2 1 (some (.l (S.map .s))) (some (.i .i64 (j:Int)))=some (.s t)/\VX (some (.l (S.map .s))) (some (.i .i64 (j:Int)))=some (.i .i64 (j:Int)):=by
 refine ⟨S[j],gU h, ?_, ?_⟩
 ·rw [Oy,aj (by omega),JI,iF,bM h];rfl
 ·rw [al9,aj ⟨by omega,by rw [kR];omega⟩]
theorem agR {V:Int} {ok:Bool} {acts:List Ac} {i:Nat} {S0 S1 oM oN:List (List UInt8)} {p q p' q':bF} (Ld:acts.length<=30) (hlt:i < acts.length) (h0:oM.length<=S0.length+1) (h1:oN.length<=S1.length+1) (l0:S0.length<=i) (l1:S1.length<=i)
 (ih:∀ (S0 S1:List (List UInt8)) (p q:bF),S0.length<=i+1->S1.length<=i+1->iG V ok p q->(∀t∈S0,vN p t)->(∀t∈S1,yK V p q t)->Tj V ok acts ((i+1:Nat):Int) S0 S1 p q)
 (hi:iG V ok p' q') (t0:∀t∈oM,vN p' t) (t1:∀t∈oN,yK V p' q' t) (e1:p'.mn=p.mn) (e2:p'.mx=p.mx) (e3:q'.mn=q.mn) (e4:q'.mx=q.mx) :
 ∃Q,(Q=[GV.i .i64 0,.b true]\/∃p' q':bF,iG V ok p' q'/\p'.mn=p.mn/\p'.mx=p.mx/\q'.mn=q.mn/\q'.mx=q.mx/\Q=GV.i .i64 1::(pF q'++pF p'))/\
  TT.lim 8 ([.i .u64 V,.b ok,.l (acts.map lC),.i .i64 (acts.length:Int),.i .i64 (IntKind.i64.wrap ((i:Int)+1)),.l (oM.map .s),.l (oN.map .s)]++(dA q'++dA p'))=some Q/\
  TT.lim 33 ([.i .u64 V,.b ok,.l (acts.map lC),.i .i64 (acts.length:Int),.i .i64 (i:Int),.i .i64 0,.l (oM.map .s),.l (oN.map .s)]++(dA q'++dA p'))=some [.i .i64 1]:=by
 obtain ⟨Q,hQ,h⟩:=ih oM oN p' q' (by omega) (by omega) hi t0 t1;have hw:IntKind.i64.wrap ((i:Int)+1)=((i+1:Nat):Int):=by rw [wrap64 (by omega) (by omega)];omega
 rw [hw];refine ⟨Q, ?_,h,ahC hi _ _ _ _ _⟩;rcases hQ with e | ⟨p2,q2,g,a1,a2,a3,a4,e⟩
 ·exact .inl e
 ·exact .inr ⟨p2,q2,g,a1.trans e1,a2.trans e2,a3.trans e3,a4.trans e4,e⟩
set_option maxHeartbeats 4000000 in
theorem ZX (V:Int) (ok:Bool) (acts:List Ac) (Ld:acts.length<=30) (hok:∀a∈acts,JC a):∀ (m i:Nat) (S0 S1:List (List UInt8)) (p q:bF),i+m=acts.length->S0.length<=i->S1.length<=i->iG V ok p q->(∀t∈S0,vN p t)->(∀t∈S1,yK V p q t)->Tj V ok acts (i:Int) S0 S1 p q
 | 0,i,S0,S1,p,q,hi,l0,l1,h,t0,t1=>by
   have hn:¬ ((i:Int) < acts.length):=by omega
   refine ⟨_,.inr ⟨p,q,h,rfl,rfl,rfl,rfl,rfl⟩, ?_⟩;simp only [dA,pF,bJ,bn];refine aB rfl rfl ?_;simp -implicitDefEqProofs [hn]
 | m+1,i,S0,S1,p,q,hi,l0,l1,h,t0,t1=>by
   have hlt:i < acts.length:=by omega
   have hn:(i:Int) < acts.length:=by omega
   have hat:at2 8 (some (.l (acts.map lC))) (some (.i .i64 (i:Int)))=some (lC acts[i]):=by
    rw [Oy,aj (by omega),JI,iF,bM hlt];rfl
   have ha:=hok _ (gU hlt);generalize acts[i]=a at *;have hfew:=agQ a ha;have next:=λ{oM oN:List (List UInt8)} {p' q':bF}=>@agR V ok acts i S0 S1 oM oN p q p' q' Ld hlt
   have next:=λ{oM oN:List (List UInt8)} {p' q':bF} (h0:oM.length<=S0.length+1) (h1:oN.length<=S1.length+1)=>next (oM:=oM) (oN:=oN) (p':=p') (q':=q') h0 h1 l0 l1 (ZX V ok acts Ld hok m (i+1) · · · · (by omega))
   unfold Tj;by_cases cf:KR a=true;rotate_left
   ·have KG:KR a=false:=by simpa using cf
    refine ⟨_,.inl rfl, ?_⟩;generalize acts.map lC=AG at *;simp only [dA,bJ,bn];refine aB rfl rfl ?_;simp -implicitDefEqProofs [hn,hat,xI,hfew,KG]
   have hgx:fF a.x.2:=by
    unfold KR at cf;simp only [aI] at cf;exact ala ha.rows cf.2.1
   rw [cf] at hfew;by_cases cw:0 < a.who
   ·by_cases d0:a.rF.tmod 8=0
    ·have hp:=aeJ a.x q hgx h.kP
     obtain ⟨g1,g2⟩:=h.adH (aeI (x:=a.x) h.kP hgx ha.ep) rfl rfl rfl rfl rfl rfl;obtain ⟨Q,hQ,hl,hc⟩:=next (oM:=S0) (oN:=S1) (by omega) (by omega) g1 (λt ht=>g2.tp (t0 t ht)) (λt ht=>g2.tq (t1 t ht)) rfl rfl rfl rfl
     refine ⟨Q,hQ, ?_⟩;simp only [X5,dA,bJ,bn] at hp hl hc ⊢;generalize uS a.x q.k q.b=PP at *;generalize acts.map lC=AG at *;refine aB rfl rfl ?_;simp -implicitDefEqProofs [hn,hat,xI,hfew,cw,d0,hp,hc,hl]
    by_cases d12:a.rF.tmod 8=1\/a.rF.tmod 8=2
    ·have hp:=XY q h.kP
     obtain ⟨g1,g2⟩:=apy h;have g3:(iR q).2=q.st:=rE bF.st g1;have hap:=Ov (S:=S1) (T:=(iR q).1) (by omega) (MC q);obtain ⟨Q,hQ,hl,hc⟩:=next (oM:=S0) (oN:=S1++(iR q).1) (by omega) (by have:=MC q;simp only [fG];omega) h t0 (λt ht=>(jO.1 ht).elim (t1 t) (g2 t)) rfl rfl rfl rfl
     refine ⟨Q,hQ, ?_⟩;rw [g3] at hp;simp only [dA,bJ,bn] at hp hl hc ⊢;generalize (iR q).1=PP at *;generalize (S1++PP).map GV.s=SS at *;generalize acts.map lC=AG at *;rcases d12 with d1 | d2
     ·refine aB rfl rfl ?_
      simp -implicitDefEqProofs [hn,hat,xI,hfew,cw,d1,hp,hap,hc,hl]
     ·refine aB rfl rfl ?_
      simp -implicitDefEqProofs [hn,hat,xI,hfew,cw,d2,hp,hap,hc,hl]
    have d1:¬ a.rF.tmod 8=1:=λe=>d12 (.inl e);have d2:¬ a.rF.tmod 8=2:=λe=>d12 (.inr e);by_cases cs:S0.length=0
    ·have cs':S0=[]:=Zt.1 cs
     subst cs';obtain ⟨Q,hQ,hl,hc⟩:=next (oM:=[]) (oN:=S1) (by omega) (by omega) h t0 t1 rfl rfl rfl rfl
     refine ⟨Q,hQ, ?_⟩;simp only [dA,bJ,bn,lW] at hl hc ⊢;generalize acts.map lC=AG at *;refine aB rfl rfl ?_;simp -implicitDefEqProofs [hn,hat,xI,hfew,cw,d0,d1,d2,hc,hl]
    ·obtain ⟨j,hj,hjl⟩:=afM (p:=a.pick) (n:=S0.length) ha.pick.1 (by omega)
     obtain ⟨t,ht,Vu,hidx⟩:=aak hjl;have hwp:IntKind.i64.wrap a.pick=a.pick:=wrap64 (by have:=ha.pick;omega) (by have:=ha.pick;omega);have hcs:(0:Int) < S0.length:=by omega
     have hne:¬ (S0.length:Int)=0:=by omega
     have hh:=P9 t q (by have:=(t0 t ht).1;omega) h.kP;obtain ⟨g1,g2,g3⟩:=Rl h (t0 t ht);have hle:=Vz t q;have hst:=IG t q;generalize dP t q=R at *;have hap:=Ov (S:=S1) (T:=R.2.1) (by omega) hle;obtain ⟨Q,hQ,hl,hc⟩:=next (oM:=S0) (oN:=S1++R.2.1) (by omega) (by simp only [fG];omega) g1 (λx hx=>g2.tp (t0 x hx)) (λx hx=>(jO.1 hx).elim (λe=>g2.tq (t1 x e)) (g3 x)) rfl rfl hst.1 hst.2.1
     refine ⟨Q,hQ, ?_⟩;simp only [IK,dA,bJ,bn] at hh hl hc ⊢;rw [hst.1,hst.2.1,hst.2.2.1,hst.2.2.2] at hl hc;have hsl:((S0.map GV.s).length:Int)=(S0.length:Int):=by rw [kR]
     generalize (S1++R.2.1).map GV.s=SS at *;generalize acts.map lC=AG at *;generalize S0.map GV.s=SG at *;generalize (S0.length:Int)=n0 at *;generalize (j:Int)=jj at *;refine aB rfl rfl ?_;simp -implicitDefEqProofs [hn,hat,xI,hfew,cw,d0,d1,d2,hsl,hcs,hne,hwp,hj,hidx,Vu,hh,hap,hc,hl]
   ·by_cases d0:a.rF.tmod 8=0
    ·have hp:=aeJ a.x p hgx h.fP
     obtain ⟨g1,g2⟩:=h.adG (aeI (x:=a.x) h.fP hgx ha.ep) rfl rfl rfl rfl rfl rfl;obtain ⟨Q,hQ,hl,hc⟩:=next (oM:=S0) (oN:=S1) (by omega) (by omega) g1 (λt ht=>g2.tp (t0 t ht)) (λt ht=>g2.tq (t1 t ht)) rfl rfl rfl rfl
     refine ⟨Q,hQ, ?_⟩;simp only [X5,dA,bJ,bn] at hp hl hc ⊢;generalize uS a.x p.k p.b=PP at *;generalize acts.map lC=AG at *;refine aB rfl rfl ?_;simp -implicitDefEqProofs [hn,hat,xI,hfew,cw,d0,hp,hc,hl]
    by_cases d12:a.rF.tmod 8=1\/a.rF.tmod 8=2
    ·have hp:=XY p h.fP
     obtain ⟨g1,g2,g3⟩:=Xo h;have hap:=Ov (S:=S0) (T:=(iR p).1) (by omega) (MC p);obtain ⟨Q,hQ,hl,hc⟩:=next (oM:=S0++(iR p).1) (oN:=S1) (by have:=MC p;simp only [fG];omega) (by omega) g1 (λt ht=>(jO.1 ht).elim (λe=>g2.tp (t0 t e)) (g3 t)) (λt ht=>g2.tq (t1 t ht)) rfl rfl rfl rfl
     refine ⟨Q,hQ, ?_⟩;simp only [lN,dA,bJ,bn] at hp hl hc ⊢;generalize iR p=PP at *;generalize (S0++PP.1).map GV.s=SS at *;generalize acts.map lC=AG at *;rcases d12 with d1 | d2
     ·refine aB rfl rfl ?_
      simp -implicitDefEqProofs [hn,hat,xI,hfew,cw,d1,hp,hap,hc,hl]
     ·refine aB rfl rfl ?_
      simp -implicitDefEqProofs [hn,hat,xI,hfew,cw,d2,hp,hap,hc,hl]
    have d1:¬ a.rF.tmod 8=1:=λe=>d12 (.inl e);have d2:¬ a.rF.tmod 8=2:=λe=>d12 (.inr e);by_cases cs:S1.length=0
    ·have cs':S1=[]:=Zt.1 cs
     subst cs';obtain ⟨Q,hQ,hl,hc⟩:=next (oM:=S0) (oN:=[]) (by omega) (by omega) h t0 t1 rfl rfl rfl rfl
     refine ⟨Q,hQ, ?_⟩;simp only [dA,bJ,bn,lW] at hl hc ⊢;generalize acts.map lC=AG at *;refine aB rfl rfl ?_;simp -implicitDefEqProofs [hn,hat,xI,hfew,cw,d0,d1,d2,hc,hl]
    ·obtain ⟨j,hj,hjl⟩:=afM (p:=a.pick) (n:=S1.length) ha.pick.1 (by omega)
     obtain ⟨t,ht,Vu,hidx⟩:=aak hjl;have hwp:IntKind.i64.wrap a.pick=a.pick:=wrap64 (by have:=ha.pick;omega) (by have:=ha.pick;omega);have hcs:(0:Int) < S1.length:=by omega
     have hne:¬ (S1.length:Int)=0:=by omega
     have hh:=P9 t p (by have:=(t1 t ht).1;omega) h.fP;obtain ⟨g1,g2,g3⟩:=Xn h (t1 t ht);have hle:=Vz t p;have hst:=IG t p;generalize dP t p=R at *;have hap:=Ov (S:=S0) (T:=R.2.1) (by omega) hle;obtain ⟨Q,hQ,hl,hc⟩:=next (oM:=S0++R.2.1) (oN:=S1) (by simp only [fG];omega) (by omega) g1 (λx hx=>(jO.1 hx).elim (λe=>g2.tp (t0 x e)) (g3 x)) (λx hx=>g2.tq (t1 x hx)) hst.1 hst.2.1 rfl rfl
     refine ⟨Q,hQ, ?_⟩;simp only [IK,dA,bJ,bn] at hh hl hc ⊢;rw [hst.1,hst.2.1,hst.2.2.1,hst.2.2.2] at hl hc;have hsl:((S1.map GV.s).length:Int)=(S1.length:Int):=by rw [kR]
     generalize (S0++R.2.1).map GV.s=SS at *;generalize acts.map lC=AG at *;generalize S1.map GV.s=SG at *;generalize (S1.length:Int)=n0 at *;generalize (j:Int)=jj at *;refine aB rfl rfl ?_;simp -implicitDefEqProofs [hn,hat,xI,hfew,cw,d0,d1,d2,hsl,hcs,hne,hwp,hj,hidx,Vu,hh,hap,hc,hl]
theorem acZ {V:Int} {ok:Bool} {q:bF} (x0 x1 x2 x3 x4:GV) (U:List (List UInt8)) (hU:U.length<=1000):∀ (m k:Nat) (p:bF),k+m=U.length->iG V ok p q->(∀u∈U,yK V p q u)->
 TT.lim 189 ([x0,x1,x2,x3,x4,.l (U.map .s),.i .i64 (U.length:Int),.i .i64 (k:Int)]++(dA q++dA p))=some (.i .i64 0::pF (mg (U.drop k) p))
 | 0,k,p,hk,h,hu=>by
   have hn:¬ ((k:Int) < U.length):=by omega
   rw [fJ (by omega)];simp only [mg,dA,pF,bJ,bn];refine aB rfl rfl ?_;simp -implicitDefEqProofs [hn]
 | m+1,k,p,hk,h,hu=>by
   have hlt:k < U.length:=by omega
   have hn:(k:Int) < U.length:=by omega
   have hw:IntKind.i64.wrap ((k:Int)+1)=((k+1:Nat):Int):=by rw [wrap64 (by omega) (by omega)];omega
   have hd:U.drop k=U[k]::U.drop (k+1):=iC hlt;have hat:at2 1 (some (.l (U.map .s))) (some (.i .i64 (k:Int)))=some (.s U[k]):=by
    rw [Oy,aj (by omega),JI,iF,bM hlt];rfl
   have hmem:U[k]∈U:=gU hlt;rw [hd];generalize U[k]=t at *;have hh:=P9 t p (by have:=(hu t hmem).1;omega) h.fP;obtain ⟨g1,g2, -⟩:=Xn h (hu t hmem);have ih:=acZ x0 x1 x2 x3 x4 U hU m (k+1) (dP t p).1 (by omega) g1 (λx hx=>g2.tq (hu x hx));have hst:=IG t p;rw [show mg (t::U.drop (k+1)) p=mg (U.drop (k+1)) (dP t p).1 from rfl];generalize mg (U.drop (k+1)) (dP t p).1=E at *;generalize dP t p=R at *;simp only [IK,dA,pF,bJ,bn] at hh ih ⊢;rw [hst.1,hst.2.1,hst.2.2.1,hst.2.2.2,<- hw] at ih;generalize U.map GV.s=UG at *;generalize (U.length:Int)=n0 at *;refine aB rfl rfl ?_;simp -implicitDefEqProofs [hn,hat,hh,ih]
theorem acY {V:Int} {ok:Bool} (x0 x1:GV) (T:List (List UInt8)) (hT:T.length<=1000):∀ (m k:Nat) (q p:bF),k+m=T.length->iG V ok p q->(∀t∈T,vN p t)->
 TT.lim 188 ([x0,x1,.l (T.map .s),.i .i64 (T.length:Int),.i .i64 (k:Int)]++(dA q++dA p))=some (.i .i64 0::(pF (lI (T.drop k) q p).1++pF (lI (T.drop k) q p).2))
 | 0,k,q,p,hk,h,hu=>by
   have hn:¬ ((k:Int) < T.length):=by omega
   rw [fJ (by omega)];simp only [lI,dA,pF,bJ,bn];refine aB rfl rfl ?_;simp -implicitDefEqProofs [hn]
 | m+1,k,q,p,hk,h,hu=>by
   have hlt:k < T.length:=by omega
   have hn:(k:Int) < T.length:=by omega
   have hw:IntKind.i64.wrap ((k:Int)+1)=((k+1:Nat):Int):=by rw [wrap64 (by omega) (by omega)];omega
   have hd:T.drop k=T[k]::T.drop (k+1):=iC hlt;have hat:at2 1 (some (.l (T.map .s))) (some (.i .i64 (k:Int)))=some (.s T[k]):=by
    rw [Oy,aj (by omega),JI,iF,bM hlt];rfl
   have hmem:T[k]∈T:=gU hlt;rw [hd];generalize T[k]=t at *;have hh:=P9 t q (by have:=(hu t hmem).1;omega) h.kP;obtain ⟨g1,g2,g3⟩:=Rl h (hu t hmem);have hle:=Vz t q;have hin:=acZ (V:=V) (ok:=ok) (q:=(dP t q).1) x0 x1 (.l (T.map .s)) (.i .i64 (T.length:Int)) (.i .i64 (k:Int)) (dP t q).2.1 (by omega) (dP t q).2.1.length 0 p (by omega) g1 g3;obtain ⟨g4,g5⟩:=Vy _ p g1 g3;have ih:=acY x0 x1 T hT m (k+1) (dP t q).1 (mg (dP t q).2.1 p) (by omega) g4 (λx hx=>g5.tp (g2.tp (hu x hx)));have hst:=IG t q;have hsp:=VA (dP t q).2.1 p;rw [show lI (t::T.drop (k+1)) q p=lI (T.drop (k+1)) (dP t q).1 (mg (dP t q).2.1 p) from rfl];rw [dO] at hin;generalize lI (T.drop (k+1)) (dP t q).1 (mg (dP t q).2.1 p)=E at *;generalize mg (dP t q).2.1 p=PP at *;generalize dP t q=R at *;have hlen:((R.2.1.map GV.s).length:Int)=(R.2.1.length:Int):=by rw [kR]
   simp only [IK,dA,pF,bJ,bn,Int.ofNat_zero,Int.cast_ofNat_Int,wM] at hh ih hin ⊢;rw [hst.1,hst.2.1,hst.2.2.1,hst.2.2.2] at hin ih;rw [hsp.1,hsp.2.1,hsp.2.2.1,hsp.2.2.2,<- hw] at ih;generalize T.map GV.s=UG at *;generalize (T.length:Int)=n0 at *;generalize R.2.1.map GV.s=RG at *;generalize (R.2.1.length:Int)=n1 at *;refine aB rfl rfl ?_;simp -implicitDefEqProofs [hn,hat,hh,hlen,hin,ih]
theorem amB {V:Int} {ok:Bool} {p q:bF} (h:iG V ok p q):∃p' q':bF,Fin ok p' q'/\TT.lim 187 ([.b ok,.i .i64 0]++(dA q++dA p))=some (.i .i64 0::(pF q'++pF p')):=by
 have step:∀ (j:Int) (p q:bF) (Q:List GV),iG V ok p q->j < 2->TT.lim 187 ([.b ok,.i .i64 (IntKind.i64.wrap (j+1))]++(dA (pY p q).1++dA (pY p q).2))=some Q->TT.lim 187 ([.b ok,.i .i64 j]++(dA q++dA p))=some Q:=by
  intro j p q Q h hj hQ;have hp:=XY p h.fP;obtain ⟨h1,h2,h3⟩:=Xo h;have hle:=MC p;have hin:=acY (V:=V) (ok:=ok) (.b ok) (.i .i64 j) (iR p).1 (by omega) (iR p).1.length 0 q (lN p) (by omega) h1 h3;have hsp:=acj (iR p).1 q (lN p);unfold pY at hQ;rw [dO] at hin;have hst:(lN p).mn=p.mn/\(lN p).mx=p.mx/\(lN p).name=p.name/\(lN p).first=p.first:=⟨rfl,rfl,rfl,rfl⟩
  have hlen:(((iR p).1.map GV.s).length:Int)=((iR p).1.length:Int):=by rw [kR]
  generalize lI (iR p).1 q (lN p)=E at *;simp only [lN,dA,pF,bJ,bn,wM] at hp hin hQ hsp ⊢;rw [hsp.1.1,hsp.1.2.1,hsp.1.2.2.1,hsp.1.2.2.2,hsp.2.1,hsp.2.2.1,hsp.2.2.2.1,hsp.2.2.2.2] at hQ;generalize iR p=PP at *;generalize PP.1.map GV.s=PG at *;generalize (PP.1.length:Int)=n1 at *;refine aB rfl rfl ?_;simp -implicitDefEqProofs [hj,hp,hlen,hin,hQ]
 obtain ⟨g1,f1⟩:=ae5 h;obtain ⟨g2,f2⟩:=ae5 g1;have fin:∀p q:bF,TT.lim 187 ([.b ok,.i .i64 2]++(dA q++dA p))=some (.i .i64 0::(pF q++pF p)):=by
  intro p q;simp only [dA,pF,bJ,bn];refine aB rfl rfl ?_;simp
 have e2:=fin (pY (pY p q).2 (pY p q).1).2 (pY (pY p q).2 (pY p q).1).1;have e1:=step 1 (pY p q).2 (pY p q).1 _ g1 (by omega) e2;have e0:=step 0 p q _ h (by omega) e1;exact ⟨_,_,f2,e0⟩
theorem asW:nM [97] 0 256=0:=by kernel_rfl
theorem asX:nM [98] 0 256=0:=by kernel_rfl
def newS (a c:Int) (n:List UInt8) (f:Bool):bF:=⟨a,c,n,f,0,0,1,false,zS,[],0⟩
theorem adR {a c:Int} {n:List UInt8} {f:Bool} (h1:1<=a) (h2:a<=c) (h3:c<=3) (hn:n.length<=256):pK (newS a c n f):=
 ⟨h1,h3,h2,hn,by simp [newS],⟨by simp [newS],by simp [newS],DT.good,by simp [newS,zS],λ_=>rfl⟩,Kp.nil⟩
theorem agU (a c x y:Int) (acts:List Ac) (Ld:∀u∈acts,JC u):TT.lim 1 [.g [.i .u64 a,.i .u64 c],.g [.i .u64 x,.i .u64 y],.l (acts.map lC)]=some [.b true]:=by
 have ka:=CX [97] 0 256 (by simp);have kb:=CX [98] 0 256 (by simp);rw [asW] at ka;rw [asX] at kb;have hal:((acts.map lC).length:Int)=(acts.length:Int):=by rw [kR]
 have right:∀ {P:Prop},(x < 1->P)->(1<=x->y < x->P)->(1<=x->x<=y->255 < y->P)->(1<=x->x<=y->y<=255->3 < y->P)->(1<=x->x<=y->y<=3->P)->P:=by
  intro P p1 p2 p3 p4 p5;by_cases c1:x < 1
  ·exact p1 c1
  by_cases c2:y < x
  ·exact p2 (by omega) c2
  by_cases c3:255 < y
  ·exact p3 (by omega) (by omega) c3
  by_cases c4:3 < y
  ·exact p4 (by omega) (by omega) (by omega) c4
  ·exact p5 (by omega) (by omega) (by omega)
 by_cases a1:a < 1
 ·refine right (λq1=>?_) (λq0 q1=>?_) (λq0 q1 q2=>?_) (λq0 q1 q2 q3=>?_) (λq0 q1 q2=>?_)
  ·refine aQ rfl rfl ?_ rfl
   simp -implicitDefEqProofs [a1,q1]
  ·have q0:¬ x < 1:=by omega
   refine aQ rfl rfl ?_ rfl;simp -implicitDefEqProofs [a1,q0,q1]
  ·have q0:¬ x < 1:=by omega
   have q1:¬ y < x:=by omega
   refine aQ rfl rfl ?_ rfl;simp -implicitDefEqProofs [a1,q0,q1,q2]
  ·have q0:¬ x < 1:=by omega
   have q1:¬ y < x:=by omega
   have q2:¬ 255 < y:=by omega
   refine aQ rfl rfl ?_ rfl;simp -implicitDefEqProofs [a1,q0,q1,q2,q3]
  ·have q0:¬ x < 1:=by omega
   have q1:¬ y < x:=by omega
   have q3:¬ 255 < y:=by omega
   have q2:¬ 3 < y:=by omega
   refine aQ rfl rfl ?_ rfl;simp -implicitDefEqProofs [a1,q0,q1,q2,q3,kb]
 by_cases a2:c < a
 ·refine right (λq1=>?_) (λq0 q1=>?_) (λq0 q1 q2=>?_) (λq0 q1 q2 q3=>?_) (λq0 q1 q2=>?_)
  ·refine aQ rfl rfl ?_ rfl
   simp -implicitDefEqProofs [a1,a2,q1]
  ·have q0:¬ x < 1:=by omega
   refine aQ rfl rfl ?_ rfl;simp -implicitDefEqProofs [a1,a2,q0,q1]
  ·have q0:¬ x < 1:=by omega
   have q1:¬ y < x:=by omega
   refine aQ rfl rfl ?_ rfl;simp -implicitDefEqProofs [a1,a2,q0,q1,q2]
  ·have q0:¬ x < 1:=by omega
   have q1:¬ y < x:=by omega
   have q2:¬ 255 < y:=by omega
   refine aQ rfl rfl ?_ rfl;simp -implicitDefEqProofs [a1,a2,q0,q1,q2,q3]
  ·have q0:¬ x < 1:=by omega
   have q1:¬ y < x:=by omega
   have q3:¬ 255 < y:=by omega
   have q2:¬ 3 < y:=by omega
   refine aQ rfl rfl ?_ rfl;simp -implicitDefEqProofs [a1,a2,q0,q1,q2,q3,kb]
 by_cases a3:255 < c
 ·refine right (λq1=>?_) (λq0 q1=>?_) (λq0 q1 q2=>?_) (λq0 q1 q2 q3=>?_) (λq0 q1 q2=>?_)
  ·refine aQ rfl rfl ?_ rfl
   simp -implicitDefEqProofs [a1,a2,a3,q1]
  ·have q0:¬ x < 1:=by omega
   refine aQ rfl rfl ?_ rfl;simp -implicitDefEqProofs [a1,a2,a3,q0,q1]
  ·have q0:¬ x < 1:=by omega
   have q1:¬ y < x:=by omega
   refine aQ rfl rfl ?_ rfl;simp -implicitDefEqProofs [a1,a2,a3,q0,q1,q2]
  ·have q0:¬ x < 1:=by omega
   have q1:¬ y < x:=by omega
   have q2:¬ 255 < y:=by omega
   refine aQ rfl rfl ?_ rfl;simp -implicitDefEqProofs [a1,a2,a3,q0,q1,q2,q3]
  ·have q0:¬ x < 1:=by omega
   have q1:¬ y < x:=by omega
   have q3:¬ 255 < y:=by omega
   have q2:¬ 3 < y:=by omega
   refine aQ rfl rfl ?_ rfl;simp -implicitDefEqProofs [a1,a2,a3,q0,q1,q2,q3,kb]
 by_cases a4:3 < c
 ·refine right (λq1=>?_) (λq0 q1=>?_) (λq0 q1 q2=>?_) (λq0 q1 q2 q3=>?_) (λq0 q1 q2=>?_)
  ·refine aQ rfl rfl ?_ rfl
   simp -implicitDefEqProofs [a1,a2,a3,a4,q1]
  ·have q0:¬ x < 1:=by omega
   refine aQ rfl rfl ?_ rfl;simp -implicitDefEqProofs [a1,a2,a3,a4,q0,q1]
  ·have q0:¬ x < 1:=by omega
   have q1:¬ y < x:=by omega
   refine aQ rfl rfl ?_ rfl;simp -implicitDefEqProofs [a1,a2,a3,a4,q0,q1,q2]
  ·have q0:¬ x < 1:=by omega
   have q1:¬ y < x:=by omega
   have q2:¬ 255 < y:=by omega
   refine aQ rfl rfl ?_ rfl;simp -implicitDefEqProofs [a1,a2,a3,a4,q0,q1,q2,q3]
  ·have q0:¬ x < 1:=by omega
   have q1:¬ y < x:=by omega
   have q3:¬ 255 < y:=by omega
   have q2:¬ 3 < y:=by omega
   refine aQ rfl rfl ?_ rfl;simp -implicitDefEqProofs [a1,a2,a3,a4,q0,q1,q2,q3,kb]
 refine right (λq1=>?_) (λq0 q1=>?_) (λq0 q1 q2=>?_) (λq0 q1 q2 q3=>?_) (λq0 q1 q2=>?_)
 ·refine aQ rfl rfl ?_ rfl
  simp -implicitDefEqProofs [a1,a2,a3,a4,ka,q1]
 ·have q0:¬ x < 1:=by omega
  refine aQ rfl rfl ?_ rfl;simp -implicitDefEqProofs [a1,a2,a3,a4,ka,q0,q1]
 ·have q0:¬ x < 1:=by omega
  have q1:¬ y < x:=by omega
  refine aQ rfl rfl ?_ rfl;simp -implicitDefEqProofs [a1,a2,a3,a4,ka,q0,q1,q2]
 ·have q0:¬ x < 1:=by omega
  have q1:¬ y < x:=by omega
  have q2:¬ 255 < y:=by omega
  refine aQ rfl rfl ?_ rfl;simp -implicitDefEqProofs [a1,a2,a3,a4,ka,q0,q1,q2,q3]
 have r0:¬ x < 1:=by omega
 have r1:¬ y < x:=by omega
 have r3:¬ 255 < y:=by omega
 have r2:¬ 3 < y:=by omega
 by_cases cl:30 < acts.length
 ·have cl':(30:Int) < acts.length:=by omega
  refine aQ rfl rfl ?_ rfl;simp -implicitDefEqProofs [a1,a2,a3,a4,ka,r0,r1,r2,r3,kb,hal,cl']
 have cl':¬ (30:Int) < acts.length:=by omega
 have hc:=aaX a c x y
 have hi:iG (jo a c x y).1 (jo a c x y).2 (newS a c [97] true) (newS x y [98] false):=
  ⟨adR (by omega) (by omega) (by omega) (by simp),adR q0 q1 q2 (by simp),rfl,rfl,rfl,rfl,rfl,.inl rfl,.inl rfl,λe=>by simp [newS] at e,λe=>by simp [newS] at e,λ_=>rfl,λ_=>rfl,λe=>by simp [newS] at e,λe=>by simp [newS] at e⟩
 generalize jo a c x y=C at *;obtain ⟨V,ok⟩:=C;simp only at hc hi;obtain ⟨Q,hQ,h0⟩:=ZX V ok acts (by omega) Ld acts.length 0 [] [] _ _ (by omega) (by simp) (by simp) hi (λt ht=>by cases ht) (λt ht=>by cases ht);simp only [newS,dA,zS,bJ,bn,lW,wM] at h0;generalize acts.map lC=AG at *;generalize (acts.length:Int)=n0 at *;rcases hQ with rfl | ⟨p,q,g,e1,e2,e3,e4,rfl⟩
 ·cases ok with
  | true=>
    refine aQ rfl rfl ?_ rfl;simp -implicitDefEqProofs [a1,a2,a3,a4,ka,r0,r1,r2,r3,kb,hal,cl',hc,h0]
  | false=>
    refine aQ rfl rfl ?_ rfl;simp -implicitDefEqProofs [a1,a2,a3,a4,ka,r0,r1,r2,r3,kb,hal,cl',hc,h0]
 obtain ⟨p',q',hf,h1⟩:=amB g;have gq:=g.qn;have gp:=g.pn;have fq:=g.qf;have fp:=g.pf;simp only [newS] at e1 e2 e3 e4;simp only [dA,pF,bJ,bn] at h0 h1;rw [e1,e2,e3,e4,gq,gp,fq,fp] at h1;unfold Fin at hf;cases ok with
 | true=>
   rw [aj rfl] at hf;obtain ⟨f1,f2⟩:=hf;rw [f1,f2] at h1;refine aQ rfl rfl ?_ rfl;simp -implicitDefEqProofs [a1,a2,a3,a4,ka,r0,r1,r2,r3,kb,hal,cl',hc,h0,h1]
 | false=>
   rw [ah (by simp)] at hf;obtain ⟨f1,f2⟩:=hf;rw [f1,f2] at h1;refine aQ rfl rfl ?_ rfl;simp -implicitDefEqProofs [a1,a2,a3,a4,ka,r0,r1,r2,r3,kb,hal,cl',hc,h0,h1]
abbrev ZW:List bK:=[.int .u8,.int .u8,.int .u8,.int .u64,.list true [.list true [.str,.str],.int .u64],.int .u16,.int .u8,.str]
theorem agH {cs:List GV} (h:bK.iH ZW cs):∃a:Ac,JC a/\GV.g cs=lC a:=by
 obtain ⟨g1,r1,rfl,a1,h⟩:=qH h;obtain ⟨g2,r2,rfl,a2,h⟩:=qH h;obtain ⟨g3,r3,rfl,a3,h⟩:=qH h;obtain ⟨g4,r4,rfl,a4,h⟩:=qH h;obtain ⟨g5,r5,rfl,a5,h⟩:=qH h;obtain ⟨g6,r6,rfl,a6,h⟩:=qH h;obtain ⟨g7,r7,rfl,a7,h⟩:=qH h;obtain ⟨g8,r8,rfl,a8,h⟩:=qH h;have:=Lj h;subst this;obtain ⟨n1,rfl,b1⟩:=Qa a1;obtain ⟨n2,rfl,b2⟩:=Qa a2;obtain ⟨n3,rfl,b3⟩:=Qa a3;obtain ⟨n4,rfl,b4⟩:=IJ a4;obtain ⟨rs,hrs,rfl⟩:=ap1 a5;obtain ⟨n6,rfl,b6⟩:=alh a6;obtain ⟨n7,rfl,b7⟩:=Qa a7;obtain ⟨t8,rfl, -⟩:=Vt a8;exact ⟨⟨n1,n2,n3,(n4,rs),n6,n7,t8⟩,⟨b1,b2,b3,b4,hrs⟩,rfl⟩
theorem sessionAgrees (gs:List GV) (h:hasArgs [(true,[.int .u64,.int .u64]),(true,[.int .u64,.int .u64]),(false,[.list true ZW])] gs):TT.lim 1 gs=some [.b true]:=by
 obtain ⟨c1,gs,rfl,h1,h⟩:=acf h;obtain ⟨c2,gs,rfl,h2,h⟩:=acf h;obtain ⟨l,gs,rfl,h3,h⟩:=alg h;obtain rfl:=alf h;obtain ⟨g1,r1,rfl,a1,h1⟩:=qH h1;obtain ⟨g2,r2,rfl,a2,h1⟩:=qH h1;obtain rfl:=Lj h1;obtain ⟨n1,rfl, -⟩:=IJ a1;obtain ⟨n2,rfl, -⟩:=IJ a2;obtain ⟨g1,r1,rfl,a1,h2⟩:=qH h2;obtain ⟨g2,r2,rfl,a2,h2⟩:=qH h2;obtain rfl:=Lj h2;obtain ⟨m1,rfl, -⟩:=IJ a1;obtain ⟨m2,rfl, -⟩:=IJ a2;obtain ⟨xs,rfl, -,hx⟩:=Vs h3;obtain ⟨acts,ha,rfl⟩:=Qz (f:=lC) (p:=JC) (xs:=xs) λx hx'=>by
  obtain ⟨k1,k2⟩:=hx x hx';cases x<;>simp [GV.scalar] at k2
  exact agH k1
 exact agU n1 n2 m1 m2 acts ha
end M
end Go.Proofs.YtilkjidelblkfaaGreatDoor
