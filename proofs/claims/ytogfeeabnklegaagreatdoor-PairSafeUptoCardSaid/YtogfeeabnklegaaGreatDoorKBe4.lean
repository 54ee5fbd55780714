/- What the trees compute: plain laws. -/
import Derived.Test.YtogfeeabnklegaaGreatDoorKBe3
set_option linter.all false
namespace Go.Proofs.YtogfeeabnklegaaGreatDoor
open Go Go.aP
set_option maxRecDepth 100000
namespace B
noncomputable def eG (p:Prop):Bool:=@decide p (Classical.propDecidable p)
def nR{p:Prop}(h:p):eG p=true:=@JU p (Classical.propDecidable p) h
def lN{p:Prop}(h:¬p):eG p=false:=@ER p (Classical.propDecidable p) h
def Ov{p q:Prop}(h:p↔q):eG p=eG q:=by rw[propext h]
def uh(t y n:Int)(s:Q0)(k:List aK):GV:=.g [.zu t,.zq y,.zu n,.s s,.l (aI k)]
@[simp] theorem aGZ(t y n:Int)(s:Q0)(k:List aK):(uh t y n s k).cells=[.zu t,.zq y,.zu n,.s s,.l (aI k)]:=rfl
def Ib{l:List aK}{i:Nat}(h:i<l.length):∃t y n s k,l[i]? =some (.mk t y n s k)/\(aI l)[i]? =some (uh t y n s k)/\l.drop i=.mk t y n s k::l.drop (i+1)/\aK.mk t y n s k∈l:=by
 have a:(aI l)[i]? =some (rC l[i]):=by rw[DI,jy,bZ h];rfl
 have b:=iR h;have c:=iT h;have d:=bZ h;cases e:l[i]with
 |mk t y n s k=>rw[e]at a b c d;exact⟨t,y,n,s,k,d,by rw[a];simp only[rC];rfl,b,c⟩
def vT:List aK->List aK->Option (List (List aK×List aK))
 |.mk t y n s k::a,.mk d e f g c::b=>if t=d/\y=e/\n=f/\s=g then(vT a b).map λr=>(if k.length=0/\c.length=0 then[]else[(k,c)])++r else none
 |_,_=>some []
def lI(q:List aK×List aK):GV:=.g [.l (aI q.1),.l (aI q.2)]
@[simp] theorem aIi(q:List aK×List aK):(lI q).cells=[.l (aI q.1),.l (aI q.2)]:=rfl
def vP:List (List aK×List aK)->Nat
 |[]=>0
 |q::l=>dO q.1+1+vP l
def Xx:∀(a b:List (List aK×List aK)),vP (a++b)=vP a+vP b
 |[],b=>by simp[vP]
 |q::a,b=>by simp only[bD,vP,Xx a b];omega
def ajQ:∀(a:List (List aK×List aK)),a.length<=vP a
 |[]=>by simp[vP]
 |q::a=>by have:=ajQ a;simp only[iD,vP];omega
def okP(q:List aK×List aK):Prop:=fD q.1/\fD q.2/\q.1.length<=1000000/\q.2.length<=1000000
def ak8:∀(a b:List aK),a.length=b.length->fD a->fD b->(match vT a b with
 |none=>a≠b
 |some f=>((∀q∈f,q.1=q.2)↔a=b)/\vP f<=dO a/\∀q∈f,okP q)
 |[],[],_,_,_=>by simp[vT,vP]
 |[],_::_,e,_,_=>by simp at e
 |_::_,[],e,_,_=>by simp at e
 |.mk t y n s k::a,.mk v w x z A::b,e,g,i=>by
  simp only[fD,uU]at g i;have j:=ak8 a b (by simpa using e) g.2 i.2;unfold vT;by_cases l:t=v/\y=w/\n=x/\s=z
  ·rw[au l];obtain⟨rfl,rfl,rfl,rfl⟩:=l;cases p:vT a b with
   |none=>
    rw[p]at j;simp only[ae7];intro h;injection h with c d
    exact j d
   |some f=>
    rw[p]at j;obtain⟨r,L,u⟩:=j;simp only[iJ];by_cases m:k.length=0/\A.length=0
    ·rw[au m];have D:=kK m.1;have E:=kK m.2;subst D;subst E;refine⟨by simpa using r,by simp only[aX,dO,xq];omega,by simpa using u⟩
    ·rw[aj m];refine⟨?_,by simp only[bD,aX,vP,dO,xq];omega,λq o=>?_⟩
     ·simp only[bD,aX,bI,forall_eq_or_imp,r];constructor
      ·rintro⟨c,d⟩;rw[c,d]
      ·intro h;injection h with c d
       injection c with _ _ _ _ F
       exact⟨F,d⟩
     ·simp only[bD,aX,bI]at o;rcases o with rfl|o
      ·exact⟨g.1.2,i.1.2,g.1.1.2.2.2.2.2.2.2,i.1.1.2.2.2.2.2.2.2⟩
      ·exact u q o
  ·rw[aj l];intro h;injection h with c d
   injection c with G H I J _
   exact l ⟨G,H,I,J⟩
def aaU(a b:List aK)(S:a.length=b.length)(z:a.length<=1000000)(T:fD a)(U:fD b):∀(m i:Nat)(c:List (List aK×List aK)),i+m=a.length->c.length+m<=4000000->
 TT.lim 227 [.l (c.map lI),.zq a.length,.zq i,.l (aI a),.l (aI b)]=some (match vT (a.drop i) (b.drop i)with|none=>[.zq 0]|some g=>[.zq 1,.l ((c++g).map lI)])
 |0,i,c,hi,D=>by have V:a.drop i=[]:=iK;have W:b.drop i=[]:=iK;have h:¬((i:Int)<a.length):=ah;rw[V,W];simp only[vT,pX];generalize c.map lI=A at *;refine aB ?_;simp[h]
 |m+1,i,c,hi,D=>by
  obtain⟨t,y,n,s,k,g1,g2,g3,g4⟩:=Ib (l:=a) (i:=i) ah;obtain⟨X,Y,Z,s',j,aa,f,N,ab⟩:=Ib (l:=b) (i:=i) ah;have u:=bH ((i:Int)+1);have h:((i:Int)<a.length):=ah;have o:((i+1:Nat):Int)=(i:Int)+1:=ah;have E:=qP k;have F:=qP j;rw[g3,N];unfold vT;by_cases p:t=X;rotate_left
  ·rw[aj λh=>p h.1];refine aB ?_;simp[h,g2,f,p]
  by_cases q:y=Y;rotate_left
  ·rw[aj λh=>q h.2.1];refine aB ?_;simp[h,g2,f,p,q]
  by_cases v:n=Z;rotate_left
  ·rw[aj λh=>v h.2.2.1];refine aB ?_;simp[h,g2,f,p,q,v]
  by_cases x:s=s';rotate_left
  ·rw[aj λh=>x h.2.2.2];refine aB ?_;simp[h,g2,f,p,q,v,x]
  rw[au ⟨p,q,v,x⟩];by_cases M:k.length=0/\j.length=0
  ·rw[au M];have d:=aaU a b S z T U m (i+1) c ah ah;rw[o]at d;have G:=kK M.1;have H:=kK M.2;have O:(match Option.map (λr=>[]++r) (vT (a.drop (i+1)) (b.drop (i+1)))with|none=>[GV.zq 0]|some g=>[GV.zq 1,GV.l ((c++g).map lI)])=(match vT (a.drop (i+1)) (b.drop (i+1))with|none=>[GV.zq 0]|some g=>[GV.zq 1,GV.l ((c++g).map lI)]):=by cases vT (a.drop (i+1)) (b.drop (i+1))<;>simp
   rw[O];generalize(match vT (a.drop (i+1)) (b.drop (i+1))with|none=>[GV.zq 0]|some g=>[GV.zq 1,GV.l ((c++g).map lI)])=R,c.map lI=A at *;refine aB ?_;simp[h,g2,f,p,q,v,x,G,H,aI,u,d]
  ·rw[aj M];have d:=aaU a b S z T U m (i+1) (c++[(k,j)]) ah (by simp;omega);rw[o]at d;have O:(match Option.map (λr=>[(k,j)]++r) (vT (a.drop (i+1)) (b.drop (i+1)))with|none=>[GV.zq 0]|some g=>[GV.zq 1,GV.l ((c++g).map lI)])=(match vT (a.drop (i+1)) (b.drop (i+1))with|none=>[GV.zq 0]|some g=>[GV.zq 1,GV.l ((c++[(k,j)]++g).map lI)]):=by cases vT (a.drop (i+1)) (b.drop (i+1))<;>simp
   rw[O];generalize(match vT (a.drop (i+1)) (b.drop (i+1))with|none=>[GV.zq 0]|some g=>[GV.zq 1,GV.l ((c++[(k,j)]++g).map lI)])=R at *;have I:(c++[(k,j)]).map lI=c.map lI++[.g [.l (aI k),.l (aI j)]]:=by simp[lI]
   rw[I]at d;have J:2*((c.map lI).length+1)*48<=281474976710656/\(c.map lI).length+1<=281474976710656:=by rw[gB];omega
   generalize c.map lI=A at *;have L:A.length<=281474976710655:=ah;by_cases P:k.length=0;rotate_left
   ·have G:0<k.length:=ah;have Q:k≠[]:=λe=>by rw[e]at P;exact P rfl
    have w:GV.gQ 2 (.g [.l (aI k),.l (aI j)])=true:=rfl;refine aB ?_;simp[h,g2,f,p,q,v,x,E,F,G,Q,u,d,w,J,L]
   ·have G:=kK P;have H:0<j.length:=ah;have Q:j≠[]:=λe=>by rw[e]at H;exact absurd H aA
    subst G;have w:GV.gQ 2 (.g [.l [],.l (aI j)])=true:=rfl;simp only[aI,uh]at d g2 E;refine aB ?_;simp[h,g2,f,p,q,v,x,F,H,Q,u,d,w,J,L]
def ahK:∀(N:Nat)(c:List (List aK×List aK)),vP c<N->vP c<=2000000->(∀q∈c,okP q)->TT.lim 226 [.l (c.map lI)]=some [.zq (if eG (∀q∈c,q.1=q.2)=true then 1 else 0)]
 |0,c,v,_,_=>ah
 |N+1,c,v,I,o=>by
  rcases ano c with rfl|⟨d,q,rfl⟩
  ·have O:eG (∀q∈([]:List (List aK×List aK)),q.1=q.2)=true:=nR aA;rw[O];refine aB ?_;simp
  ·rw[anm]at *;obtain⟨a,b⟩:=q;have i:=o (a,b) aA;obtain⟨w,y,J,P⟩:=i;simp only at w y J P;have L:=ajQ d;rw[Xx]at v I;simp only[vP]at v I;have j:=qP a;have k:=qP b;have p:(d++[(a,b)]).map lI=d.map lI++[lI (a,b)]:=aA;have l:(d.map lI).length=d.length:=gB ..;have e:∀x∈d.map lI,x.cells.length=2:=by intro x Q;obtain⟨r,_,rfl⟩:=rZ.1 Q;rfl
   have f:=aaU a b;have z:(0:Int)<(d.length:Int)+1:=ah;have D:(d.length:Int)+1-1=d.length:=ah;have E:(d.length:Int)<(d.length:Int)+1:=ah;have F:(d.length:Int)<=(d.length:Int)+1:=ah;have m:=bH ((d.length:Int));rw[p];by_cases G:a.length=b.length;rotate_left
   ·have n:eG (∀q∈d++[(a,b)],q.1=q.2)=false:=lN λh=>G (uS List.length (h (a,b) aA));have t:¬((a.length:Int)=(b.length:Int)):=ah;rw[n];generalize d.map lI=A at *;have s:=eq_true e;clear e;refine aB ?_;simp[l,z,D,E,F,m,lI,j,k,t,s]
   ·have g:=ak8 a b G w y;have f:=f G J w y a.length 0 d ah ah;rw[dY,dY,show((0:Nat):Int)=0 from rfl]at f;have t:b.length=a.length:=ah;cases M:vT a b with
    |none=>rw[M]at g f;have n:eG (∀q∈d++[(a,b)],q.1=q.2)=false:=lN λh=>g (h (a,b) aA);rw[n];simp only at f;generalize d.map lI=A at *;have V:A.length<281474976710656:=ah;have s:=eq_true e;clear e;refine aB ?_;simp[l,z,D,E,F,m,lI,j,k,t,f,s]
    |some u=>
     rw[M]at g f;obtain⟨S,W,T⟩:=g;have U:=ahK N (d++u) (by rw[Xx];omega) (by rw[Xx];omega) (λq i=>by
      rcases jP.1 i with i|i
      ·exact o q (by simp[i])
      ·exact T q i)
     have H:eG (∀q∈d++[(a,b)],q.1=q.2)=eG (∀q∈d++u,q.1=q.2):=Ov (by simp only[jP,or_imp,forall_and,S,jW,forall_eq])
     rw[H];generalize eG (∀q∈d++u,q.1=q.2)=R at *;simp only at f;generalize(d++u).map lI=B,d.map lI=A at *;have s:=eq_true e;clear e;refine aB ?_;simp[l,z,D,E,F,m,lI,j,k,t,f,s,U]
def auw(a b:List aK)(g:fD a)(i:fD b)(c:a.length<=1000000)(d:b.length<=1000000)(k:dO a<=1000000):TT.lim 225 [.l (aI a),.l (aI b)]=some [.b (eG (a=b))]:=by
 have h:=ahK (dO a+2) [(a,b)] (by simp[vP]) (by simp[vP];omega) (by intro q f;simp at f;subst f;exact⟨g,i,c,d⟩);have e:eG (∀q∈[(a,b)],q.1=q.2)=eG (a=b):=Ov aA;rw[e]at h;have j:[(a,b)].map lI=[.g [.l (aI a),.l (aI b)]]:=rfl;rw[j]at h;refine aW ?_;generalize eG (a=b)=r at *;cases r with
 |true=>simp at h;simp[h]
 |false=>simp at h;simp[h]
mutual
def toFt:aK->Ft
 |.mk t y n s k=>.mk [.int .u64 t,.int .i64 y,.int .u64 n,.string ⟨⟨s⟩⟩] (LW k)
def LW:List aK->List Ft
 |[]=>[]
 |f::l=>toFt f::LW l
end
mutual
def aE1:∀f:aK,Fp (toFt f) (rC f)/\cntF (toFt f)<=xq f
 |.mk t y n s k=>by have h:=ad2 k;simp only[toFt,Fp,rC,cntF,xq];exact⟨⟨_,_,_,_,_,rfl,rfl,h.1⟩,ah⟩
def ad2:∀l:List aK,sQ (LW l) (aI l)/\qM (LW l)<=dO l
 |[]=>by simp only[LW,sQ,aI,qM,dO];exact⟨trivial,dP _⟩
 |f::l=>by have h1:=aE1 f;have a:=ad2 l;simp only[LW,sQ,aI,qM,dO];exact⟨⟨_,_,rfl,h1.1,a.1⟩,ah⟩
end
def V4(l:List aK)(a:dO l<=1000000):TT.lim 145 [.l (aI l)]=some [.l (aI l)]:=by refine D7 (Ds:=Ds) (k:=145) (f:=NY) rfl ?_;have h:=ad2 l;unfold NY;exact au ⟨LW l,h.1,ah⟩
def ajI(b:aQ)(l:List aK)(t:List Row)(p:t.length<=1000)(n:∀r∈t,r.1.length<=40):∀(m i:Nat),i+m=t.length->
 TT.lim 206 [.l ((t.take i).map row),.l (t.map row),.zq t.length,.zq i,.zq b.kind,.zu b.id,.zu b.min,.zu b.max,.zu b.chosen,.zu b.flags,.zu b.cost,.zu b.priority,.zu b.deadline,.zu b.retry,.zu b.epoch,.zu b.base,.zu b.digest,.zu b.lag,.zu b.code,.zu b.want,.zq b.remaining,.b b.allowed,.s b.name,.s b.region,.s b.note,.l (b.d.map ent),.l (aI l)]=some [.zq 0,.l (t.map row)]
 |0,i,hi=>by have h0:t.take i=t:=mg ah;have h:¬((i:Int)<t.length):=ah;rw[h0];refine aB ?_;simp[h]
 |m+1,i,hi=>by
  have a:i<t.length:=ah;have o:=ajI b l t p n m (i+1) ah;have h:((i:Int)<t.length):=ah;have c:((i+1:Nat):Int)=(i:Int)+1:=ah;have e:=bH ((i:Int)+1);have q:(t.map row)[i]? =some (row t[i]):=by rw[jy,bZ a];rfl
  have s:=Hu t[i].1 (n _ (iT a));have d:GV.g [.l (t[i].1.map ent),.zu t[i].2]=row t[i]:=rfl;have f:(t.take (i+1)).map row=(t.take i).map row++[row t[i]]:=by rw[Uu,bZ a,oK];rfl
  rw[f,c]at o;have g:(row t[i]).gQ 2=true:=rfl;have j:2*(((t.take i).map row).length+1)*32<=281474976710656:=by simp;omega
  have k:((t.take i).map row).length<=281474976710655:=by simp;omega
  generalize(t.take i).map row=A,t.map row=L at *;refine aB ?_;simp[h,q,s,d,g,j,k,e,o]
def axE(b:aQ)(a:List aK)(i:b.d.length<=40)(c:eF b.t)(j:dO a<=1000000):TT.lim 205 [jh b (aI a)]=some [jh b (aI a)]:=by
 have d:∀r∈b.t,r.1.length<=40:=λr k=>by have:=c.few r k;unfold jf at this;rw[aO,decide_eq_true_iff]at this;exact this.2
 have e:=ajI b a b.t (by have:=c.len;omega) d b.t.length 0 ah;have p:=c.len;rw[Uy,show((0:Nat):Int)=0 from rfl]at e;have l:=Hu b.d i;have m:=V4 a j;have f:((b.t.map row).length:Int)=b.t.length:=aA;have g:(32:Int)*b.t.length<=281474976710656:=ah;have h:(b.t.length:Int)<=1152921504606846976:=ah;have n:b.t.length<=8796093022208:=ah;simp only[jH]at e;generalize o:b.t.map row=L at *;refine aW ?_;unfold jh;rw[o];simp[f,e,l,m,GV.gQ,g,h];try omega
def Gv(n:Int):Int:=if n%2=0 then n/2 else -(n/2)-1
def aF6(n:Int)(h0:0<=n)(h1:n<18446744073709551616):dw .and .u64 n 1=some (.zu (n%2))/\dw .xor .i64 (IntKind.i64.wrap (n/2)) (IntKind.i64.wrap (0-IntKind.i64.wrap (n%2)))=some (.zq (Gv n))/\n.fdiv 2=n/2:=by
 have a:∀y:Int,IntKind.u64.wrap y=y%18446744073709551616:=λy=>by simp[IntKind.wrap,IntKind.signed,IntKind.bits]
 have b:IntKind.u64.bits=64:=rfl;have hi:IntKind.i64.bits=64:=rfl;refine⟨?_,?_,Gy _ aV⟩
 ·simp only[dw,a,b];have e:(BitVec.ofInt 64 n &&& BitVec.ofInt 64 1).toNat=(BitVec.ofInt 64 n).toNat%2:=by rw[Zb];exact Nat.and_one_is_mod _
  show some (GV.i IntKind.u64 (((BitVec.ofInt 64 n &&& BitVec.ofInt 64 1).toNat:Int)%18446744073709551616))=_
  rw[e,wo];congr 2;omega
 ·rw[wrap64 ah ah,bH (n%2),wrap64 ah ah];simp only[dw,hi];unfold Gv;by_cases h:n%2=0
  ·rw[au h,h];have e:BitVec.ofInt 64 (0-0)=0#64:=rfl;show some (GV.i IntKind.i64 (IntKind.i64.wrap ((BitVec.ofInt 64 (n/2) ^^^ BitVec.ofInt 64 (0-0)).toNat:Int)))=_
   rw[e,BitVec.xor_zero,wo];congr 2;rw[wrap64 ah ah];omega
  ·rw[aj h,(ah:n%2=1)];have e:BitVec.ofInt 64 (0-1)=BitVec.allOnes 64:=aV;show some (GV.i IntKind.i64 (IntKind.i64.wrap ((BitVec.ofInt 64 (n/2) ^^^ BitVec.ofInt 64 (0-1)).toNat:Int)))=_
   rw[e,aes,aep,wo];congr 2;have c:∀y:Int,IntKind.i64.wrap y=if y%18446744073709551616>=9223372036854775808 then y%18446744073709551616-18446744073709551616 else y%18446744073709551616:=λy=>by simp[IntKind.wrap,IntKind.signed,IntKind.bits]
   rw[c];split<;>omega
def setB(b:aQ)(n:Int)(s:Q0):Pl->aQ
 |.rem=>{b with remaining:=Gv n}
 |.allow=>{b with allowed:=true}
 |.name=>{b with name:=s}
 |.region=>{b with region:=s}
 |.note=>{b with note:=s}
 |.d=>{b with d:=(tZ s).1}
 |.t=>{b with t:=(uy s).1}
 |.num k=>match k with
  |0=>{b with id:=n}
  |1=>{b with min:=n}
  |2=>{b with max:=n}
  |3=>{b with chosen:=n}
  |4=>{b with flags:=n}
  |5=>{b with cost:=n}
  |6=>{b with priority:=n}
  |7=>{b with deadline:=n}
  |8=>{b with retry:=n}
  |9=>{b with epoch:=n}
  |10=>{b with base:=n}
  |11=>{b with digest:=n}
  |12=>{b with lag:=n}
  |13=>{b with code:=n}
  |_=>{b with want:=n}
def vV(n:Int)(s:Q0):Pl->Int
 |.allow=>if n=1 then 0 else 18
 |.name=>pF s 0 256
 |.region=>pF s 0 256
 |.note=>pF s 0 256
 |.d=>(tZ s).2
 |.t=>if(uy s).2=0 then(if(uy s).1.length=0 then 17 else 0)else(uy s).2
 |_=>0
def nC(ty n:Int)(s:Q0)(p:Pl):Int:=if ty=dZ p then(if ty=0 then(if n=0 then 17 else vV n s p)else(if s=[]then 17 else vV n s p))else 8
def awW(u:Int):TT.lim 208 [.zq u]=some [.zq (if u=0 then 0 else if u=1 then 0 else if u=2 then 0 else if u=3 then 1 else if u=4 then 1 else if u=5 then 1 else -1)]:=by
 refine aW ?_;by_cases a:u=0
 ·simp[a]
 by_cases b:u=1
 ·simp[b]
 by_cases c:u=2
 ·simp[c]
 by_cases d:u=3
 ·simp[d]
 by_cases e:u=4
 ·simp[e]
 by_cases f:u=5
 ·simp[f]
 simp[a,b,c,d,e,f]
def um(b:aQ):Q1:=[.zu b.id,.zu b.min,.zu b.max,.zu b.chosen,.zu b.flags,.zu b.cost,.zu b.priority,.zu b.deadline,.zu b.retry,.zu b.epoch,.zu b.base,.zu b.digest,.zu b.lag,.zu b.code,.zu b.want,.zq b.remaining,.b b.allowed,.s b.name,.s b.region,.s b.note,.l (b.d.map ent),.l (b.t.map row)]
def Zu(b:aQ)(r:Q1)(tag ty n:Int)(s:Q0)(L:GV)(c:Q0)(p:Pl):Prop:=∃a:aQ,TT.lim 207 [.s c,.zu tag,.zq ty,.zu n,.s s,L,.zq b.kind,.zu b.id,.zu b.min,.zu b.max,.zu b.chosen,.zu b.flags,.zu b.cost,.zu b.priority,.zu b.deadline,.zu b.retry,.zu b.epoch,.zu b.base,.zu b.digest,.zu b.lag,.zu b.code,.zu b.want,.zq b.remaining,.b b.allowed,.s b.name,.s b.region,.s b.note,.l (b.d.map ent),.l (b.t.map row),.l r]=some ([.zq 0,.zq (nC ty n s p)]++um a)/\(nC ty n s p=0->a=setB b n s p)
set_option maxHeartbeats 8000000 in
def aDC(b:aQ)(r:Q1)(tag ty n:Int)(s:Q0)(L:GV)(w:0<=n/\n<18446744073709551616)(x:s.length<=100000000){o:Q0}{p:Pl}(q:placeOf o=some p):Zu b r tag ty n s L o p:=by
 unfold Zu;have g:=awW;have i:=WX q;have k:=(AX o p q).2.1;clear q;by_cases h1:ty=dZ p;rotate_left
 ·have e:nC ty n s p=8:=by unfold nC;rw[aj h1]
  refine⟨b,?_,λh=>by rw[e]at h;cases h⟩;rw[e];clear e;induction p,k using OW<;>(simp only[dZ]at h1;refine aB ?_;simp[i,um,g,h1])
 subst h1;by_cases f:(dZ p=0/\n=0)\/(dZ p=1/\s=[])
 ·have e:nC (dZ p) n s p=17:=by
   unfold nC;rw[au rfl];rcases f with⟨a,c⟩|⟨a,c⟩
   ·rw[au a,au c]
   ·rw[bU,au c]
  refine⟨b,?_,λh=>by rw[e]at h;cases h⟩;rw[e];clear e;induction p,k using OW<;>(simp[dZ]at f;refine aB ?_;simp[i,um,g,dZ,f])
 have e:nC (dZ p) n s p=vV n s p:=by
  unfold nC;rw[au rfl];by_cases a:dZ p=0
  ·rw[au a,aj λc=>f (.inl ⟨a,c⟩)]
  ·rw[aj a,aj λc=>f (.inr ⟨by cases p<;>simp[dZ]at a⊢,c⟩)]
 rw[e];clear e;induction p,k using OW
 case h0=>
  have f:¬n=0:=by simpa[dZ]using f
  obtain⟨z,y,A⟩:=aF6 n w.1 w.2;refine⟨{b with remaining:=Gv n},?_,λ_=>rfl⟩;show _=some ([GV.zq 0,GV.zq 0]++_)
  refine aB ?_;simp only[Int.zero_sub]at y;simp[i,um,g,dZ,f,kT,IntKind.bits,z,y,A]
 case h1=>
  have f:¬n=0:=by simpa[dZ]using f
  by_cases j:n=1
  ·have v:vV n s .allow=0:=by unfold vV;rw[au j]
   rw[v];refine⟨{b with allowed:=true},?_,λ_=>rfl⟩;refine aB ?_;simp[i,um,g,dZ,f,j]
  ·have v:vV n s .allow=18:=by unfold vV;rw[aj j]
   rw[v];refine⟨b,?_,λh=>by cases h⟩;refine aB ?_;simp[i,um,g,dZ,f,j]
 case h5=>
  have f:¬s=[]:=by simpa[dZ]using f
  have l:=agU s x;refine⟨{b with d:=(tZ s).1},?_,λ_=>rfl⟩;show _=some ([GV.zq 0,GV.zq (tZ s).2]++_)
  refine aB ?_;simp[i,um,g,dZ,f,l]
 case h6=>
  have f:¬s=[]:=by simpa[dZ]using f
  have l:=aE7 s x;refine⟨{b with t:=(uy s).1},?_,λ_=>rfl⟩;unfold vV;by_cases j:(uy s).2=0
  ·rw[au j];by_cases m:(uy s).1.length=0
   ·have h5:=kK m;rw[au m];refine aB ?_;simp[i,um,g,dZ,f,l,j,h5]
   ·have h5:(uy s).1≠[]:=λe=>m (by rw[e];rfl);rw[aj m];refine aB ?_;simp[i,um,g,dZ,f,l,j,h5]
  ·rw[aj j];refine aB ?_;simp[i,um,g,dZ,f,l,j]
 all_goals first
  |(have f:¬s=[]:=by simpa[dZ]using f
    have l:=Hr s 0 256 ah;refine⟨setB b n s _,?_,λ_=>rfl⟩;show _=some ([GV.zq 0,GV.zq (pF s 0 256)]++_)
    generalize pF s 0 256=u at *;refine aB ?_;simp[i,um,setB,g,dZ,f,l];done)
  |(have f:¬n=0:=by simpa[dZ]using f
    refine⟨setB b n s _,?_,λ_=>rfl⟩;show _=some ([GV.zq 0,GV.zq 0]++_)
    refine aB ?_;simp[i,um,setB,g,dZ,f])
def gK:aQ:={kind:=0,id:=0,min:=0,max:=0,chosen:=0,flags:=0,cost:=0,priority:=0,deadline:=0,retry:=0,epoch:=0,base:=0,digest:=0,lag:=0,code:=0,want:=0,remaining:=0,allowed:=false,name:=[],region:=[],note:=[],d:=[],t:=[]}
def aej(b:aQ)(r:Q1)(ty n:Int)(s:Q0)(p:Pl):Q1:=if nC ty n s p=0 then[jh (setB b n s p) r,.zq 0]else[jh gK [],.zq (nC ty n s p)]
def aei(b:aQ)(r:Q1)(ty n:Int)(s a:Q0):Q1:=match placeOf a with
 |some p=>aej b r ty n s p
 |none=>[jh gK [],.zq 26]
def alY(b:aQ)(n:Int)(s:Q0)(p:Pl):(setB b n s p).kind=b.kind:=by unfold setB;split<;>first|rfl|(split<;>rfl)
def aDF(b:aQ)(r:Q1)(tag ty n:Int)(s:Q0)(L:GV){a:Q0}(c:placeOf a=none):TT.lim 207 [.s a,.zu tag,.zq ty,.zu n,.s s,L,.zq b.kind,.zu b.id,.zu b.min,.zu b.max,.zu b.chosen,.zu b.flags,.zu b.cost,.zu b.priority,.zu b.deadline,.zu b.retry,.zu b.epoch,.zu b.base,.zu b.digest,.zu b.lag,.zu b.code,.zu b.want,.zq b.remaining,.b b.allowed,.s b.name,.s b.region,.s b.note,.l (b.d.map ent),.l (b.t.map row),.l r]=some ([.zq 0,.zq 26]++um b):=by have d:=aiO c;refine aB ?_;simp[um,d]
def aDB(b:aQ)(r:Q1)(tag ty n:Int)(s:Q0)(L:GV)(d:0<=n/\n<18446744073709551616)(e:s.length<=100000000)(a:Q0):(∃p,placeOf a=some p/\Zu b r tag ty n s L a p)\/(placeOf a=none/\TT.lim 207 [.s a,.zu tag,.zq ty,.zu n,.s s,L,.zq b.kind,.zu b.id,.zu b.min,.zu b.max,.zu b.chosen,.zu b.flags,.zu b.cost,.zu b.priority,.zu b.deadline,.zu b.retry,.zu b.epoch,.zu b.base,.zu b.digest,.zu b.lag,.zu b.code,.zu b.want,.zq b.remaining,.b b.allowed,.s b.name,.s b.region,.s b.note,.l (b.d.map ent),.l (b.t.map row),.l r]=some ([.zq 0,.zq 26]++um b)):=by
 cases c:placeOf a with
 |some p=>exact .inl ⟨p,rfl,aDC b r tag ty n s L d e c⟩
 |none=>exact .inr ⟨rfl,aDF b r tag ty n s L c⟩
def ayg(K:Q1)(b:aQ)(c:List aK)(k:b.d.length<=40)(l:eF b.t)(f:dO c<=1000000)(tag ty n:Int)(s:Q0)(m:0<=n/\n<18446744073709551616)(o:s.length<=100000000)(g:Q0):
 TT.lim 204 [jh b (aI c),.s g,.g [.zu tag,.zq ty,.zu n,.s s,.l K]]=some (aei b (aI c) ty n s g):=by
 have h:=axE b c k l f;have q:=aDB b (aI c) tag ty n s (.l K) m o g;generalize aI c=r at *;have j:GV.g [.zq 0,.zu 0,.zu 0,.zu 0,.zu 0,.zu 0,.zu 0,.zu 0,.zu 0,.zu 0,.zu 0,.zu 0,.zu 0,.zu 0,.zu 0,.zu 0,.zq 0,.b false,.s [],.s [],.s [],.l [],.l [],.l []]=jh gK []:=rfl;unfold aei;rcases q with⟨p,i,x,a,t⟩|⟨i,a⟩
 ·rw[i];simp only;unfold aej;have u:=alY b n s p;generalize nC ty n s p=e at *;by_cases d:e=0
  ·have v:=t d;rw[au d];rw[d,v]at a;have w:jh (setB b n s p) r=GV.g ([.zq b.kind]++um (setB b n s p)++[.l r]):=by rw[<-u];rfl
   rw[w];generalize setB b n s p=B at *;unfold um at a⊢;refine aW ?_;simp[lT,h];simp[a]
  ·rw[aj d];unfold um at a;rw[<-j];refine aW ?_;simp[lT,h];simp[a,d]
 ·rw[i];simp only;unfold um at a;rw[<-j];refine aW ?_;simp[lT,h];simp[a]
def dF(b c:aQ):Pl->Prop
 |.rem=>b.remaining=c.remaining
 |.allow=>b.allowed=c.allowed
 |.name=>b.name=c.name
 |.region=>b.region=c.region
 |.note=>b.note=c.note
 |.d=>b.d=c.d
 |.t=>b.t=c.t
 |.num k=>qV b k=qV c k
def pJ(b c:aQ)(d e:Q1)(f:Nat)(n:Q0)(p:Prop):Prop:=∀(a:Q1)(L K:Int)(i:Nat),(i:Int)<L->a[i]? =some (.s n)->IntKind.i64.wrap ((i:Int)+1)=(i:Int)+1->TT.lim f ([.l a,.zq L,.zq ((i:Int)+1)]++(jh c e).cells++(jh b d).cells)=some [.zq K]->TT.lim f ([.l a,.zq L,.zq i]++(jh c e).cells++(jh b d).cells)=some [.zq (if eG p=true then K else 0)]
def axW(b c:aQ)(j k:Q1):pJ b c j k 224 KR (dF b c (.num 0)):=by
 intro l L K i h a g f;rw[fE,fE]at f⊢;simp only[bD,aX]at f⊢;unfold KR at a;by_cases d:b.id=c.id
 ·have e:eG (dF b c (.num 0))=true:=nR d;rw[e];replace d:=eq_true d
  refine aB ?_;simp[h,a,d,g,f]
 ·have e:eG (dF b c (.num 0))=false:=lN d;rw[e];refine aB ?_;simp[h,a,d,g]
def axZ(b c:aQ)(j k:Q1):pJ b c j k 224 KW (dF b c (.num 1)):=by
 intro l L K i h a g f;rw[fE,fE]at f⊢;simp only[bD,aX]at f⊢;unfold KW at a;by_cases d:b.min=c.min
 ·have e:eG (dF b c (.num 1))=true:=nR d;rw[e];replace d:=eq_true d
  refine aB ?_;simp[h,a,d,g,f]
 ·have e:eG (dF b c (.num 1))=false:=lN d;rw[e];refine aB ?_;simp[h,a,d,g]
def axY(b c:aQ)(j k:Q1):pJ b c j k 224 KU (dF b c (.num 2)):=by
 intro l L K i h a g f;rw[fE,fE]at f⊢;simp only[bD,aX]at f⊢;unfold KU at a;by_cases d:b.max=c.max
 ·have e:eG (dF b c (.num 2))=true:=nR d;rw[e];replace d:=eq_true d
  refine aB ?_;simp[h,a,d,g,f]
 ·have e:eG (dF b c (.num 2))=false:=lN d;rw[e];refine aB ?_;simp[h,a,d,g]
def axO(b c:aQ)(j k:Q1):pJ b c j k 224 KL (dF b c (.num 3)):=by
 intro l L K i h a g f;rw[fE,fE]at f⊢;simp only[bD,aX]at f⊢;unfold KL at a;by_cases d:b.chosen=c.chosen
 ·have e:eG (dF b c (.num 3))=true:=nR d;rw[e];replace d:=eq_true d
  refine aB ?_;simp[h,a,d,g,f]
 ·have e:eG (dF b c (.num 3))=false:=lN d;rw[e];refine aB ?_;simp[h,a,d,g]
def axV(b c:aQ)(j k:Q1):pJ b c j k 224 KQ (dF b c (.num 4)):=by
 intro l L K i h a g f;rw[fE,fE]at f⊢;simp only[bD,aX]at f⊢;unfold KQ at a;by_cases d:b.flags=c.flags
 ·have e:eG (dF b c (.num 4))=true:=nR d;rw[e];replace d:=eq_true d
  refine aB ?_;simp[h,a,d,g,f]
 ·have e:eG (dF b c (.num 4))=false:=lN d;rw[e];refine aB ?_;simp[h,a,d,g]
def axQ(b c:aQ)(j k:Q1):pJ b c j k 224 KN (dF b c (.num 5)):=by
 intro l L K i h a g f;rw[fE,fE]at f⊢;simp only[bD,aX]at f⊢;unfold KN at a;by_cases d:b.cost=c.cost
 ·have e:eG (dF b c (.num 5))=true:=nR d;rw[e];replace d:=eq_true d
  refine aB ?_;simp[h,a,d,g,f]
 ·have e:eG (dF b c (.num 5))=false:=lN d;rw[e];refine aB ?_;simp[h,a,d,g]
def ax3(b c:aQ)(j k:Q1):pJ b c j k 224 KY (dF b c (.num 6)):=by
 intro l L K i h a g f;rw[fE,fE]at f⊢;simp only[bD,aX]at f⊢;unfold KY at a;by_cases d:b.priority=c.priority
 ·have e:eG (dF b c (.num 6))=true:=nR d;rw[e];replace d:=eq_true d
  refine aB ?_;simp[h,a,d,g,f]
 ·have e:eG (dF b c (.num 6))=false:=lN d;rw[e];refine aB ?_;simp[h,a,d,g]
def axR(b c:aQ)(j k:Q1):pJ b c j k 224 KO (dF b c (.num 7)):=by
 intro l L K i h a g f;rw[fE,fE]at f⊢;simp only[bD,aX]at f⊢;unfold KO at a;by_cases d:b.deadline=c.deadline
 ·have e:eG (dF b c (.num 7))=true:=nR d;rw[e];replace d:=eq_true d
  refine aB ?_;simp[h,a,d,g,f]
 ·have e:eG (dF b c (.num 7))=false:=lN d;rw[e];refine aB ?_;simp[h,a,d,g]
def ax6(b c:aQ)(j k:Q1):pJ b c j k 224 La (dF b c (.num 8)):=by
 intro l L K i h a g f;rw[fE,fE]at f⊢;simp only[bD,aX]at f⊢;unfold La at a;by_cases d:b.retry=c.retry
 ·have e:eG (dF b c (.num 8))=true:=nR d;rw[e];replace d:=eq_true d
  refine aB ?_;simp[h,a,d,g,f]
 ·have e:eG (dF b c (.num 8))=false:=lN d;rw[e];refine aB ?_;simp[h,a,d,g]
def axU(b c:aQ)(j k:Q1):pJ b c j k 224 uX (dF b c (.num 9)):=by
 intro l L K i h a g f;rw[fE,fE]at f⊢;simp only[bD,aX]at f⊢;unfold uX at a;by_cases d:b.epoch=c.epoch
 ·have e:eG (dF b c (.num 9))=true:=nR d;rw[e];replace d:=eq_true d
  refine aB ?_;simp[h,a,d,g,f]
 ·have e:eG (dF b c (.num 9))=false:=lN d;rw[e];refine aB ?_;simp[h,a,d,g]
def axN(b c:aQ)(j k:Q1):pJ b c j k 224 DV (dF b c (.num 10)):=by
 intro l L K i h a g f;rw[fE,fE]at f⊢;simp only[bD,aX]at f⊢;unfold DV at a;by_cases d:b.base=c.base
 ·have e:eG (dF b c (.num 10))=true:=nR d;rw[e];replace d:=eq_true d
  refine aB ?_;simp[h,a,d,g,f]
 ·have e:eG (dF b c (.num 10))=false:=lN d;rw[e];refine aB ?_;simp[h,a,d,g]
def axT(b c:aQ)(j k:Q1):pJ b c j k 224 Cm (dF b c (.num 11)):=by
 intro l L K i h a g f;rw[fE,fE]at f⊢;simp only[bD,aX]at f⊢;unfold Cm at a;by_cases d:b.digest=c.digest
 ·have e:eG (dF b c (.num 11))=true:=nR d;rw[e];replace d:=eq_true d
  refine aB ?_;simp[h,a,d,g,f]
 ·have e:eG (dF b c (.num 11))=false:=lN d;rw[e];refine aB ?_;simp[h,a,d,g]
def axX(b c:aQ)(j k:Q1):pJ b c j k 224 KT (dF b c (.num 12)):=by
 intro l L K i h a g f;rw[fE,fE]at f⊢;simp only[bD,aX]at f⊢;unfold KT at a;by_cases d:b.lag=c.lag
 ·have e:eG (dF b c (.num 12))=true:=nR d;rw[e];replace d:=eq_true d
  refine aB ?_;simp[h,a,d,g,f]
 ·have e:eG (dF b c (.num 12))=false:=lN d;rw[e];refine aB ?_;simp[h,a,d,g]
def axP(b c:aQ)(j k:Q1):pJ b c j k 224 Cj (dF b c (.num 13)):=by
 intro l L K i h a g f;rw[fE,fE]at f⊢;simp only[bD,aX]at f⊢;unfold Cj at a;by_cases d:b.code=c.code
 ·have e:eG (dF b c (.num 13))=true:=nR d;rw[e];replace d:=eq_true d
  refine aB ?_;simp[h,a,d,g,f]
 ·have e:eG (dF b c (.num 13))=false:=lN d;rw[e];refine aB ?_;simp[h,a,d,g]
def ax9(b c:aQ)(j k:Q1):pJ b c j k 224 DW (dF b c (.num 14)):=by
 intro l L K i h a g f;rw[fE,fE]at f⊢;simp only[bD,aX]at f⊢;unfold DW at a;by_cases d:b.want=c.want
 ·have e:eG (dF b c (.num 14))=true:=nR d;rw[e];replace d:=eq_true d
  refine aB ?_;simp[h,a,d,g,f]
 ·have e:eG (dF b c (.num 14))=false:=lN d;rw[e];refine aB ?_;simp[h,a,d,g]
def ax5(b c:aQ)(j k:Q1):pJ b c j k 224 KZ (dF b c .rem):=by
 intro l L K i h a g f;rw[fE,fE]at f⊢;simp only[bD,aX]at f⊢;unfold KZ at a;by_cases d:b.remaining=c.remaining
 ·have e:eG (dF b c .rem)=true:=nR d;rw[e];replace d:=eq_true d
  refine aB ?_;simp[h,a,d,g,f]
 ·have e:eG (dF b c .rem)=false:=lN d;rw[e];refine aB ?_;simp[h,a,d,g]
def axM(b c:aQ)(j k:Q1):pJ b c j k 224 KJ (dF b c .allow):=by
 intro l L K i h a g f;rw[fE,fE]at f⊢;simp only[bD,aX]at f⊢;unfold KJ at a;by_cases d:b.allowed=c.allowed
 ·have e:eG (dF b c .allow)=true:=nR d;rw[e];replace d:=eq_true d
  refine aB ?_;simp[h,a,d,g,f]
 ·have e:eG (dF b c .allow)=false:=lN d;rw[e];refine aB ?_;simp[h,a,d,g]
def ax0(b c:aQ)(j k:Q1):pJ b c j k 224 KX (dF b c .name):=by
 intro l L K i h a g f;rw[fE,fE]at f⊢;simp only[bD,aX]at f⊢;unfold KX at a;by_cases d:b.name=c.name
 ·have e:eG (dF b c .name)=true:=nR d;rw[e];replace d:=eq_true d
  refine aB ?_;simp[h,a,d,g,f]
 ·have e:eG (dF b c .name)=false:=lN d;rw[e];refine aB ?_;simp[h,a,d,g]
def ax4(b c:aQ)(j k:Q1):pJ b c j k 224 zW (dF b c .region):=by
 intro l L K i h a g f;rw[fE,fE]at f⊢;simp only[bD,aX]at f⊢;unfold zW at a;by_cases d:b.region=c.region
 ·have e:eG (dF b c .region)=true:=nR d;rw[e];replace d:=eq_true d
  refine aB ?_;simp[h,a,d,g,f]
 ·have e:eG (dF b c .region)=false:=lN d;rw[e];refine aB ?_;simp[h,a,d,g]
def ax1(b c:aQ)(j k:Q1):pJ b c j k 224 FK (dF b c .note):=by
 intro l L K i h a g f;rw[fE,fE]at f⊢;simp only[bD,aX]at f⊢;unfold FK at a;by_cases d:b.note=c.note
 ·have e:eG (dF b c .note)=true:=nR d;rw[e];replace d:=eq_true d
  refine aB ?_;simp[h,a,d,g,f]
 ·have e:eG (dF b c .note)=false:=lN d;rw[e];refine aB ?_;simp[h,a,d,g]
def axS(b c:aQ)(m n:Q1)(f:b.d.length<=140737488351232)(g:c.d.length<=140737488351232):pJ b c m n 224 KP (dF b c .d):=by
 intro o L K i h a l j;rw[fE,fE]at j⊢;simp only[bD,aX]at j⊢;unfold KP at a;have k:=ahn b.d c.d f g;by_cases d:b.d=c.d
 ·have e:eG (dF b c .d)=true:=nR d;rw[e];rw[JU d]at k;refine aB ?_;simp[h,a,k,l,j]
 ·have e:eG (dF b c .d)=false:=lN d;rw[e];rw[ER d]at k;refine aB ?_;simp[h,a,k,l]
def ax8(b c:aQ)(m n:Q1)(f:eF b.t)(g:eF c.t):pJ b c m n 224 yS (dF b c .t):=by
 intro o L K i h a l j;rw[fE,fE]at j⊢;simp only[bD,aX]at j⊢;unfold yS at a;have k:=alP b.t c.t f g;by_cases d:b.t=c.t
 ·have e:eG (dF b c .t)=true:=nR d;rw[e];rw[JU d]at k;refine aB ?_;simp[h,a,k,l,j]
 ·have e:eG (dF b c .t)=false:=lN d;rw[e];rw[ER d]at k;refine aB ?_;simp[h,a,k,l]
def ajU:iF=[KJ,DV,KL,Cj,KN,KO,KP,Cm,uX,KQ,KR,KT,KU,KW,KX,FK,KY,zW,KZ,La,yS,DW]:=rfl
def ax7(b c:aQ)(a d:Q1)(e:b.d.length<=140737488351232)(f:c.d.length<=140737488351232)(g:eF b.t)(h:eF c.t):∀n∈iF,∃p,placeOf n=some p/\pJ b c a d 224 n (dF b c p):=by
 intro n i;rw[ajU]at i;simp only[bI,Jh,or_false]at i;rcases i with rfl|rfl|rfl|rfl|rfl|rfl|rfl|rfl|rfl|rfl|rfl|rfl|rfl|rfl|rfl|rfl|rfl|rfl|rfl|rfl|rfl|rfl
 ·exact⟨_,aks,axM b c a d⟩
 ·exact⟨_,akt,axN b c a d⟩
 ·exact⟨_,aku,axO b c a d⟩
 ·exact⟨_,akv,axP b c a d⟩
 ·exact⟨_,akw,axQ b c a d⟩
 ·exact⟨_,akx,axR b c a d⟩
 ·exact⟨_,aky,axS b c a d e f⟩
 ·exact⟨_,akz,axT b c a d⟩
 ·exact⟨_,akA,axU b c a d⟩
 ·exact⟨_,akB,axV b c a d⟩
 ·exact⟨_,akC,axW b c a d⟩
 ·exact⟨_,akD,axX b c a d⟩
 ·exact⟨_,akE,axY b c a d⟩
 ·exact⟨_,akF,axZ b c a d⟩
 ·exact⟨_,akG,ax0 b c a d⟩
 ·exact⟨_,akH,ax1 b c a d⟩
 ·exact⟨_,akI,ax3 b c a d⟩
 ·exact⟨_,akJ,ax4 b c a d⟩
 ·exact⟨_,akK,ax5 b c a d⟩
 ·exact⟨_,akL,ax6 b c a d⟩
 ·exact⟨_,akM,ax8 b c a d g h⟩
 ·exact⟨_,akN,ax9 b c a d⟩
def alQ(b c:aQ)(k l:Q1)(f:Nat)(Q:Pl->Prop)(a:∀(w:Q1)(L:Int)(i:Nat),¬(i:Int)<L->TT.lim f ([.l w,.zq L,.zq i]++(jh c l).cells++(jh b k).cells)=some [.zq 1])(t:∀n∈iF,∃p,placeOf n=some p/\pJ b c k l f n (Q p)):∀m i:Nat,i+m=iF.length->
 TT.lim f ([.l (iF.map .s),.zq iF.length,.zq i]++(jh c l).cells++(jh b k).cells)=some [.zq (if eG (∀n∈iF.drop i,∀p,placeOf n=some p->Q p)=true then 1 else 0)]
 |0,i,hi=>by have e:eG (∀n∈iF.drop i,∀p,placeOf n=some p->Q p)=true:=nR (by rw[iK];simp);rw[e];exact a _ _ i ah
 |m+1,i,hi=>by
  have d:i<iF.length:=ah;have x:iF.length=22:=rfl;have y:=bH ((i:Int)+1);have u:=alQ b c k l f Q a t m (i+1) ah;obtain⟨p,v,r⟩:=t _ (iT d);have s:(iF.map GV.s)[i]? =some (.s iF[i]):=by rw[jy,bZ d];rfl
  have g:((i+1:Nat):Int)=(i:Int)+1:=ah;rw[g]at u;have z:=r _ _ _ i ah s y u;rw[z,iR d];have j:(∀n∈iF[i]::iF.drop (i+1),∀p,placeOf n=some p->Q p)↔(Q p/\∀n∈iF.drop (i+1),∀p,placeOf n=some p->Q p):=by
   simp only[bI,forall_eq_or_imp];constructor
   ·exact λh=>⟨h.1 p v,h.2⟩
   ·intro h;refine⟨λq j=>?_,h.2⟩;rw[v]at j;injection j with j
    rw[<-j];exact h.1
  rw[Ov j];by_cases o:Q p
  ·rw[nR o,au rfl];have:eG (Q p/\∀n∈iF.drop (i+1),∀p,placeOf n=some p->Q p)=eG (∀n∈iF.drop (i+1),∀p,placeOf n=some p->Q p):=Ov ⟨λh=>h.2,λh=>⟨o,h⟩⟩;rw[this]
  ·rw[lN o,aj aV,lN λh=>o h.1,aj aV]
def parts_all(b c:aQ)(E:b.kind=c.kind):(∀n∈iF,∀p,placeOf n=some p->dF b c p)↔b=c:=by
 constructor
 ·intro h;rw[ajU]at h;have a:∀{n:Q0}{p:Pl},n∈[KJ,DV,KL,Cj,KN,KO,KP,Cm,uX,KQ,KR,KT,KU,KW,KX,FK,KY,zW,KZ,La,yS,DW]->placeOf n=some p->dF b c p:=λF G=>h _ F _ G;have d:=a aA akK;have e:=a aA aks;have f:=a aA akG;have g:=a aA akJ;have i:=a aA akH;have j:=a aA aky;have k:=a aA akM;have l:=a aA akC;have m:=a aA akF;have o:=a aA akE;have q:=a aA aku;have r:=a aA akB;have s:=a aA akw;have t:=a aA akI;have u:=a aA akx;have v:=a aA akL;have w:=a aA akA;have x:=a aA akt;have y:=a aA akz;have z:=a aA akD;have A:=a aA akv;have D:=a aA akN;clear h a;cases b;cases c;simp only[dF,qV]at *;subst E;subst d;subst e;subst f;subst g;subst i;subst j;subst k;subst l;subst m;subst o;subst q;subst r;subst s;subst t;subst u;subst v;subst w;subst x;subst y;subst z;subst A;subst D;rfl
 ·rintro rfl n _ p _
  cases p<;>simp[dF]
def ax2(b c:aQ)(a fc:List aK)(t:b.d.length<=40)(v:c.d.length<=40)(l:eF b.t)(m:eF c.t)(n:fD a)(o:fD fc)(p:a.length<=1000000)(q:fc.length<=1000000)(r:dO a<=1000000):TT.lim 223 [jh b (aI a),jh c (aI fc)]=some [.b (eG (b=c/\a=fc))]:=by
 have w:=auw a fc n o p q r;have s:=ajR;have d:=alQ b c (aI a) (aI fc) 224 (dF b c) (λx L i h=>by rw[fE,fE];simp only[bD,aX];refine aB ?_;simp[h]) (ax7 b c (aI a) (aI fc) ah ah l m) iF.length 0 ah
 have j:((iF.map GV.s).length:Int)=(iF.length:Int):=by rw[gB]
 rw[dY]at d;rw[fE,fE]at d;simp only[bD,aX,tJ]at d;by_cases g:b.kind=c.kind;rotate_left
 ·rw[lN λh=>g (by rw[h.1])];refine aW ?_;simp[g]
 have k:=parts_all b c g;replace g:(b.kind=c.kind)=True:=eq_true g
 rw[Ov k]at d;clear k;generalize iF.map GV.s=x,(iF.length:Int)=L at *;by_cases f:b=c
 ·rw[nR f]at d;have e:eG (b=c/\a=fc)=eG (a=fc):=Ov ⟨λh=>h.2,λh=>⟨f,h⟩⟩;rw[e];generalize eG (a=fc)=u at *;simp only[if_true]at d;refine aW ?_;simp[g,s,j,d,w]
 ·rw[lN f]at d;rw[lN λh=>f h.1];simp only[iZ,if_false]at d;refine aW ?_;simp[g,s,j,d]
def aF7{n:Int}(a:0<=n/\n<18446744073709551616): -9223372036854775808<=Gv n/\Gv n<=9223372036854775807:=by unfold Gv;split<;>omega
def alX{b:aQ}{n:Int}{s:Q0}{p:Pl}{ty:Int}(a:vZ b)(c:jf b.d=true)(e:eF b.t)(i:0<=n/\n<18446744073709551616)(j:s.length<=100000000)(h:nC ty n s p=0):vZ (setB b n s p)/\jf (setB b n s p).d=true/\eF (setB b n s p).t:=by
 have l:vV n s p=0:=by
  unfold nC at h;split at h
  ·split at h<;>split at h<;>first|exact h|exact absurd h aV
  ·exact absurd h aV
 cases p with
 |rem=>exact⟨{a with remaining:=aF7 i},c,e⟩
 |allow=>exact⟨{a with},c,e⟩
 |name=>exact⟨{a with name:=by show s.length<=_;omega},c,e⟩
 |region=>exact⟨{a with region:=by show s.length<=_;omega},c,e⟩
 |note=>exact⟨{a with note:=by show s.length<=_;omega},c,e⟩
 |d=>have g:=agW (s:=s) l j;exact⟨{a with d:=g.ents},g.few,e⟩
 |t=>have g:=(aE9 (s:=s) j).1;exact⟨{a with t:=g.rows},c,g.good⟩
 |num k=>
  unfold setB;split<;>rename_i f
  ·exact absurd f aA
  ·exact absurd f aA
  ·exact absurd f aA
  ·exact absurd f aA
  ·exact absurd f aA
  ·exact absurd f aA
  ·exact absurd f aA
  ·split<;>exact⟨by constructor<;>first|exact i|exact a.kind|exact a.id|exact a.min|exact a.max|exact a.chosen|exact a.flags|exact a.cost|exact a.priority|exact a.deadline|exact a.retry|exact a.epoch|exact a.base|exact a.digest|exact a.lag|exact a.code|exact a.want|exact a.remaining|exact a.name|exact a.region|exact a.note|exact a.d|exact a.t,c,e⟩
structure tV(b:aQ)(fl:List aK):Prop where
 body:vZ b
 d:jf b.d=true
 t:eF b.t
 f8:fD fl
 len:fl.length<=1000000
def Ja:tV gK []:=⟨by constructor<;>simp[gK,uF,Rows],by simp[gK,jf],⟨by simp[gK],by intro r a;simp[gK]at a,by simp[gK,Rows]⟩,by simp only[fD],aA⟩
def tV.axL{b c:aQ}{a fc:List aK}(h:tV b a)(k:tV c fc)(e:dO a<=1000000):TT.lim 223 [jh b (aI a),jh c (aI fc)]=some [.b (eG (b=c/\a=fc))]:=ax2 b c a fc (EX h.d) (EX k.d) h.t k.t h.f8 k.f8 h.len k.len e
def ayd(b:aQ)(r:Q1)(c:vZ b)(d:jf b.d=true)(e:zy b.t)(n:Q0):(∃p,placeOf n=some p/\TT.lim 136 [jh b r,.s n]=some [.g [.zu 0,.zq (dZ p),.zu (bg b p).1,.s (bg b p).2,.l []],.b true])\/
 (placeOf n=none/\TT.lim 136 [jh b r,.s n]=some [.g [.zu 0,.zq 0,.zu 0,.s [],.l []],.b false]):=by
 cases a:placeOf n with
 |some p=>exact .inl ⟨p,rfl,ayc b r c (λ_=>d) (λ_=>e) a⟩
 |none=>exact .inr ⟨rfl,ayf b r a⟩
def aye{b:aQ}{c:List aK}(h:tV b c){n:Q0}{p:Pl}(d:placeOf n=some p):TT.lim 136 [jh b (aI c),.s n]=some [.g [.zu 0,.zq (dZ p),.zu (bg b p).1,.s (bg b p).2,.l []],.b true]:=by
 rcases ayd b (aI c) h.body h.d h.t.few n with⟨q,a,e⟩|⟨a,-⟩
 ·rw[d]at a;injection a with a
  rw[a];exact e
 ·rw[d]at a;cases a
def zZ(b c:aQ):Pl->aQ
 |.rem=>{c with remaining:=b.remaining}
 |.allow=>{c with allowed:=b.allowed}
 |.name=>{c with name:=b.name}
 |.region=>{c with region:=b.region}
 |.note=>{c with note:=b.note}
 |.d=>{c with d:=b.d}
 |.t=>{c with t:=b.t}
 |.num k=>match k with
  |0=>{c with id:=b.id}
  |1=>{c with min:=b.min}
  |2=>{c with max:=b.max}
  |3=>{c with chosen:=b.chosen}
  |4=>{c with flags:=b.flags}
  |5=>{c with cost:=b.cost}
  |6=>{c with priority:=b.priority}
  |7=>{c with deadline:=b.deadline}
  |8=>{c with retry:=b.retry}
  |9=>{c with epoch:=b.epoch}
  |10=>{c with base:=b.base}
  |11=>{c with digest:=b.digest}
  |12=>{c with lag:=b.lag}
  |13=>{c with code:=b.code}
  |_=>{c with want:=b.want}
def aAc(b c:aQ)(p:Pl):(zZ b c p).kind=c.kind:=by unfold zZ;split<;>first|rfl|(split<;>rfl)
def aAd(b c:aQ)(j k:Nat)(d:k<15)(e:j<15)(a:j≠k):qV (zZ b c (.num k)) j=qV c j:=by
 rcases k with _|_|_|_|_|_|_|_|_|_|_|_|_|_|_|k
 all_goals first|(exfalso;omega)|skip
 all_goals (rcases j with _|_|_|_|_|_|_|_|_|_|_|_|_|_|_|j)<;>first|rfl|exact absurd rfl a|(exfalso;omega)
def aF8(x:Int)(h: -9223372036854775808<=x/\x<=9223372036854775807):Gv (zz x)=x:=by unfold Gv zz;split<;>split<;>omega
def aF5(x:Int)(h: -9223372036854775808<=x/\x<=9223372036854775807):0<=zz x/\zz x<18446744073709551616:=by unfold zz;split<;>omega
def akl(t:List Row)(a:eF t):(qC t).length<=90000000:=by
 have h:=adq t [] (λr b=>⟨a.few r b,(a.rows.2 r b).2⟩);have c:=a.len;have d:(aS t.length).length<=20:=by have:=nY (n:=t.length) ah;omega
 unfold qC;rw[eH];have:40000*t.length<=40000*300:=UC _ c;omega
def aDD{b:aQ}{v:List aK}(h:tV b v)(x:b.name.length<=600/\b.region.length<=600/\b.note.length<=600)(p:Pl)(g:nU b p=0)(a:¬((bg b p).1=0/\(bg b p).2=[])):
 nC (dZ p) (bg b p).1 (bg b p).2 p=0/\(0<=(bg b p).1/\(bg b p).1<18446744073709551616)/\(bg b p).2.length<=100000000/\∀c,setB c (bg b p).1 (bg b p).2 p=zZ b c p:=by
 cases p with
 |rem=>have o:=h.body.remaining;have w:=aF8 b.remaining o;have r:=aF5 b.remaining o;simp only[bg]at a⊢;have f:¬zz b.remaining=0:=λe=>a ⟨e,trivial⟩;refine⟨by unfold nC;simp[dZ,f,vV],r,aA,λc=>?_⟩;simp only[setB,w,zZ]
 |allow=>
  simp only[bg]at a⊢;cases s:b.allowed with
  |false=>rw[s]at a;exact absurd ⟨rfl,trivial⟩ a
  |true=>refine⟨by unfold nC;simp[dZ,vV],aA,aA,λc=>?_⟩;simp only[setB,zZ,s]
 |name=>simp only[bg]at a⊢;have f:¬b.name=[]:=λe=>a ⟨trivial,e⟩;simp only[nU]at g;refine⟨by unfold nC;simp[dZ,f,vV,g],aA,ah,λc=>rfl⟩
 |region=>simp only[bg]at a⊢;have f:¬b.region=[]:=λe=>a ⟨trivial,e⟩;simp only[nU]at g;refine⟨by unfold nC;simp[dZ,f,vV,g],aA,ah,λc=>rfl⟩
 |note=>simp only[bg]at a⊢;have f:¬b.note=[]:=λe=>a ⟨trivial,e⟩;simp only[nU]at g;refine⟨by unfold nC;simp[dZ,f,vV,g],aA,ah,λc=>rfl⟩
 |d=>
  simp only[bg]at a⊢;have i:b.d≠[]:=λe=>a ⟨trivial,by rw[au e]⟩;simp only[nU,aj i]at g;have m:=agV b.d g;have u:=RI h.d;have j:dN b.d≠[]:=λe=>a ⟨trivial,by rw[aj i];exact e⟩;rw[aj i];refine⟨?_,aA,ah,λc=>?_⟩
  ·unfold nC;simp[dZ,j,vV,m]
  ·simp only[setB,zZ,m]
 |t=>
  simp only[bg]at a⊢;have l:b.t≠[]:=λe=>a ⟨trivial,by rw[au e]⟩;simp only[nU]at g;have u:AZ b.t=(qC b.t,0):=by unfold AZ;rw[aj (by simpa using g)]
  rw[aj l,u]at a⊢;have m:=aE8 b.t ⟨(vI _).1 g,h.t.few,h.t.rows⟩;have r:=akl b.t h.t;have j:qC b.t≠[]:=λe=>a ⟨trivial,e⟩;refine⟨?_,aA,by simp only;omega,λc=>?_⟩
  ·have n:¬b.t.length=0:=λe=>l (kK e);unfold nC;simp[dZ,j,vV,m,n,l]
  ·simp only[setB,zZ,m]
 |num k=>
  simp only[bg]at a⊢;have f:¬qV b k=0:=λe=>a ⟨e,trivial⟩;refine⟨by unfold nC;simp[dZ,f,vV],?_,aA,λc=>?_⟩
  ·have q:=h.body;unfold qV;split<;>first|exact q.id|exact q.min|exact q.max|exact q.chosen|exact q.flags|exact q.cost|exact q.priority|exact q.deadline|exact q.retry|exact q.epoch|exact q.base|exact q.digest|exact q.lag|exact q.code|exact q.want
  ·rcases k with _|_|_|_|_|_|_|_|_|_|_|_|_|_|k<;>rfl
def abW(b:aQ):∀(l:List dU),kP b l=0->∀s∈l,qA b s.name=0
 |[],_,s,a=>by cases a
 |x::l,h,s,a=>by
  unfold kP at h;split at h
  ·rename_i h0
   rcases bI.1 a with rfl|a
   ·exact h0
   ·exact abW b l h s a
  ·rename_i h0
   exact absurd h h0
def ayz(b:aQ)(p:Pl)(h:jq b p=true):(bg b p).1=0/\(bg b p).2=[]:=by
 cases p with
 |rem=>simp only[jq,decide_eq_true_iff]at h;simp[bg,h,zz]
 |allow=>simp only[jq,yx]at h;simp[bg,h]
 |num k=>simp only[jq,decide_eq_true_iff]at h;simp[bg,h]
 |_=>simp only[jq,decide_eq_true_iff]at h;simp[bg,h]
def aoR{b:aQ}{k:List aK}{v:Int}(h:fC b k v=0){n:Q0}{p:Pl}(f:placeOf n=some p)(g:¬((bg b p).1=0/\(bg b p).2=[])):nU b p=0:=by
 unfold fC at h;split at h;· cases h
 split at h;· cases h
 split at h;· cases h
 split at h;· cases h
 rename_i a
 split at h
 ·rename_i c;exact absurd h c
 rename_i c
 have c:kP b (aT b.kind v)=0:=by simpa using c
 have a:iF.all (λn=>rF (aT b.kind v) n ||oV b n)=true:=by rw[Zd]at a;exact a
 have d:=List.all_eq_true.1 a n (AX n p f).2.2;have l:oV b n=jq b p:=by unfold oV;rw[f]
 rw[l]at d;cases j:jq b p with
 |true=>exact absurd (ayz b p j) g
 |false=>
  rw[j,MG]at d;unfold rF at d;rw[List.any_eq_true]at d;obtain⟨s,m,e⟩:=d;have e:s.name=n:=by simpa using e
  have i:=abW b _ c s m;unfold qA at i;rw[e,f]at i;exact i
