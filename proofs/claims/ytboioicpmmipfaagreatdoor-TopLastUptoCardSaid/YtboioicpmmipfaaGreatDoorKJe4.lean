/- What the trees compute: plain laws. -/
import Derived.Test.YtboioicpmmipfaaGreatDoorKJe3
set_option linter.all false
namespace Go.Proofs.YtboioicpmmipfaaGreatDoor
open Go Go.aP
set_option maxRecDepth 100000
namespace J
noncomputable def eH (p:Prop):Bool:=@decide p (Classical.propDecidable p)
def nR{p:Prop}(h:p):eH p=true:=@EN p (Classical.propDecidable p) h
def lT{p:Prop}(h:¬p):eH p=false:=@Dx p (Classical.propDecidable p) h
def Om{p q:Prop}(h:p↔q):eH p=eH q:=by rw[propext h]
def uj(t y n:Int)(s:Q0)(k:List aK):GV:=.g [.zu t,.zq y,.zu n,.s s,.l (aI k)]
@[simp] theorem aHZ(t y n:Int)(s:Q0)(k:List aK):(uj t y n s k).cells=[.zu t,.zq y,.zu n,.s s,.l (aI k)]:=rfl
def Ib{l:List aK}{i:Nat}(h:i<l.length):∃t y n s k,l[i]? =some (.mk t y n s k)/\(aI l)[i]? =some (uj t y n s k)/\l.drop i=.mk t y n s k::l.drop (i+1)/\aK.mk t y n s k∈l:=by
 have a:(aI l)[i]? =some (rC l[i]):=by rw[DF,jA,cO h];rfl
 have b:=iY h;have c:=iZ h;have d:=cO h;cases e:l[i]with
 |mk t y n s k=>rw[e]at a b c d;exact⟨t,y,n,s,k,d,by rw[a];simp only[rC];rfl,b,c⟩
def vT:List aK->List aK->Option (List (List aK×List aK))
 |.mk t y n s k::a,.mk d e f g c::b=>if t=d/\y=e/\n=f/\s=g then(vT a b).map λr=>(if k.length=0/\c.length=0 then[]else[(k,c)])++r else none
 |_,_=>some []
def lK(q:List aK×List aK):GV:=.g [.l (aI q.1),.l (aI q.2)]
@[simp] theorem aJi(q:List aK×List aK):(lK q).cells=[.l (aI q.1),.l (aI q.2)]:=rfl
def vP:List (List aK×List aK)->Nat
 |[]=>0
 |q::l=>dO q.1+1+vP l
def Xx:∀(a b:List (List aK×List aK)),vP (a++b)=vP a+vP b
 |[],b=>by simp[vP]
 |q::a,b=>by simp only[bG,vP,Xx a b];omega
def akd:∀(a:List (List aK×List aK)),a.length<=vP a
 |[]=>by simp[vP]
 |q::a=>by have:=akd a;simp only[iE,vP];omega
def okP(q:List aK×List aK):Prop:=fF q.1/\fF q.2/\q.1.length<=1000000/\q.2.length<=1000000
def alm:∀(a b:List aK),a.length=b.length->fF a->fF b->(match vT a b with
 |none=>a≠b
 |some f=>((∀q∈f,q.1=q.2)↔a=b)/\vP f<=dO a/\∀q∈f,okP q)
 |[],[],_,_,_=>by simp[vT,vP]
 |[],_::_,e,_,_=>by simp at e
 |_::_,[],e,_,_=>by simp at e
 |.mk t y n s k::a,.mk v w x z A::b,e,g,i=>by
  simp only[fF,uX]at g i;have j:=alm a b (by simpa using e) g.2 i.2;unfold vT;by_cases l:t=v/\y=w/\n=x/\s=z
  ·rw[au l];obtain⟨rfl,rfl,rfl,rfl⟩:=l;cases p:vT a b with
   |none=>
    rw[p]at j;simp only[afj];intro h;injection h with c d
    exact j d
   |some f=>
    rw[p]at j;obtain⟨r,L,u⟩:=j;simp only[iO];by_cases m:k.length=0/\A.length=0
    ·rw[au m];have B:=kP m.1;have D:=kP m.2;subst B;subst D;refine⟨by simpa using r,by simp only[aZ,dO,xw];omega,by simpa using u⟩
    ·rw[aj m];refine⟨?_,by simp only[bG,aZ,vP,dO,xw];omega,λq o=>?_⟩
     ·simp only[bG,aZ,bH,forall_eq_or_imp,r];constructor
      ·rintro⟨c,d⟩;rw[c,d]
      ·intro h;injection h with c d
       injection c with _ _ _ _ E
       exact⟨E,d⟩
     ·simp only[bG,aZ,bH]at o;rcases o with rfl|o
      ·exact⟨g.1.2,i.1.2,g.1.1.2.2.2.2.2.2.2,i.1.1.2.2.2.2.2.2.2⟩
      ·exact u q o
  ·rw[aj l];intro h;injection h with c d
   injection c with F G H I _
   exact l ⟨F,G,H,I⟩
def aaX(a b:List aK)(T:a.length=b.length)(B:a.length<=1000000)(U:fF a)(V:fF b):∀(m i:Nat)(c:List (List aK×List aK)),i+m=a.length->c.length+m<=4000000->
 TT.lim 278 [.l (c.map lK),.zq a.length,.zq i,.l (aI a),.l (aI b)]=some (match vT (a.drop i) (b.drop i)with|none=>[.zq 0]|some g=>[.zq 1,.l ((c++g).map lK)])
 |0,i,c,hi,D=>by have W:a.drop i=[]:=iP;have X:b.drop i=[]:=iP;have h:¬((i:Int)<a.length):=ah;rw[W,X];simp only[vT,pY];generalize c.map lK=A at *;refine aB ?_;simp[h]
 |m+1,i,c,hi,D=>by
  obtain⟨t,y,n,s,k,g1,q,g3,g4⟩:=Ib (l:=a) (i:=i) ah;obtain⟨Y,Z,n',s',j,aa,f,O,ab⟩:=Ib (l:=b) (i:=i) ah;have v:=bK ((i:Int)+1);have h:((i:Int)<a.length):=ah;have o:((i+1:Nat):Int)=(i:Int)+1:=ah;have E:=qP k;have F:=qP j;rw[g3,O];unfold vT;by_cases p:t=Y;rotate_left
  ·rw[aj λh=>p h.1];refine aB ?_;simp[h,q,f,p]
  by_cases u:y=Z;rotate_left
  ·rw[aj λh=>u h.2.1];refine aB ?_;simp[h,q,f,p,u]
  by_cases w:n=n';rotate_left
  ·rw[aj λh=>w h.2.2.1];refine aB ?_;simp[h,q,f,p,u,w]
  by_cases z:s=s';rotate_left
  ·rw[aj λh=>z h.2.2.2];refine aB ?_;simp[h,q,f,p,u,w,z]
  rw[au ⟨p,u,w,z⟩];by_cases N:k.length=0/\j.length=0
  ·rw[au N];have d:=aaX a b T B U V m (i+1) c ah ah;rw[o]at d;have G:=kP N.1;have H:=kP N.2;have P:(match Option.map (λr=>[]++r) (vT (a.drop (i+1)) (b.drop (i+1)))with|none=>[GV.zq 0]|some g=>[GV.zq 1,GV.l ((c++g).map lK)])=(match vT (a.drop (i+1)) (b.drop (i+1))with|none=>[GV.zq 0]|some g=>[GV.zq 1,GV.l ((c++g).map lK)]):=by cases vT (a.drop (i+1)) (b.drop (i+1))<;>simp
   rw[P];generalize(match vT (a.drop (i+1)) (b.drop (i+1))with|none=>[GV.zq 0]|some g=>[GV.zq 1,GV.l ((c++g).map lK)])=R,c.map lK=A at *;refine aB ?_;simp[h,q,f,p,u,w,z,G,H,aI,v,d]
  ·rw[aj N];have d:=aaX a b T B U V m (i+1) (c++[(k,j)]) ah (by simp;omega);rw[o]at d;have P:(match Option.map (λr=>[(k,j)]++r) (vT (a.drop (i+1)) (b.drop (i+1)))with|none=>[GV.zq 0]|some g=>[GV.zq 1,GV.l ((c++g).map lK)])=(match vT (a.drop (i+1)) (b.drop (i+1))with|none=>[GV.zq 0]|some g=>[GV.zq 1,GV.l ((c++[(k,j)]++g).map lK)]):=by cases vT (a.drop (i+1)) (b.drop (i+1))<;>simp
   rw[P];generalize(match vT (a.drop (i+1)) (b.drop (i+1))with|none=>[GV.zq 0]|some g=>[GV.zq 1,GV.l ((c++[(k,j)]++g).map lK)])=R at *;have I:(c++[(k,j)]).map lK=c.map lK++[.g [.l (aI k),.l (aI j)]]:=by simp[lK]
   rw[I]at d;have L:2*((c.map lK).length+1)*48<=281474976710656/\(c.map lK).length+1<=281474976710656:=by rw[gU];omega
   generalize c.map lK=A at *;have M:A.length<=281474976710655:=ah;by_cases Q:k.length=0;rotate_left
   ·have G:0<k.length:=ah;have S:k≠[]:=λe=>by rw[e]at Q;exact Q rfl
    have x:GV.gV 2 (.g [.l (aI k),.l (aI j)])=true:=rfl;refine aB ?_;simp[h,q,f,p,u,w,z,E,F,G,S,v,d,x,L,M]
   ·have G:=kP Q;have H:0<j.length:=ah;have S:j≠[]:=λe=>by rw[e]at H;exact absurd H aA
    subst G;have x:GV.gV 2 (.g [.l [],.l (aI j)])=true:=rfl;simp only[aI,uj]at d q E;refine aB ?_;simp[h,q,f,p,u,w,z,F,H,S,v,d,x,L,M]
def ah0:∀(N:Nat)(c:List (List aK×List aK)),vP c<N->vP c<=2000000->(∀q∈c,okP q)->TT.lim 277 [.l (c.map lK)]=some [.zq (if eH (∀q∈c,q.1=q.2)=true then 1 else 0)]
 |0,c,v,_,_=>ah
 |N+1,c,v,I,o=>by
  rcases anJ c with rfl|⟨d,q,rfl⟩
  ·have P:eH (∀q∈([]:List (List aK×List aK)),q.1=q.2)=true:=nR aA;rw[P];refine aB ?_;simp
  ·rw[anI]at *;obtain⟨a,b⟩:=q;have i:=o (a,b) aA;obtain⟨w,y,L,Q⟩:=i;simp only at w y L Q;have M:=akd d;rw[Xx]at v I;simp only[vP]at v I;have j:=qP a;have k:=qP b;have p:(d++[(a,b)]).map lK=d.map lK++[lK (a,b)]:=aA;have l:(d.map lK).length=d.length:=gU ..;have e:∀x∈d.map lK,x.cells.length=2:=by intro x S;obtain⟨r,_,rfl⟩:=rZ.1 S;rfl
   have f:=aaX a b;have z:(0:Int)<(d.length:Int)+1:=ah;have D:(d.length:Int)+1-1=d.length:=ah;have E:(d.length:Int)<(d.length:Int)+1:=ah;have F:(d.length:Int)<=(d.length:Int)+1:=ah;have m:=bK ((d.length:Int));rw[p];by_cases G:a.length=b.length;rotate_left
   ·have n:eH (∀q∈d++[(a,b)],q.1=q.2)=false:=lT λh=>G (uT List.length (h (a,b) aA));have t:¬((a.length:Int)=(b.length:Int)):=ah;rw[n];generalize d.map lK=A at *;have s:=eq_true e;clear e;refine aB ?_;simp[l,z,D,E,F,m,lK,j,k,t,s]
   ·have g:=alm a b G w y;have f:=f G L w y a.length 0 d ah ah;rw[dY,dY,show((0:Nat):Int)=0 from rfl]at f;have t:b.length=a.length:=ah;cases O:vT a b with
    |none=>rw[O]at g f;have n:eH (∀q∈d++[(a,b)],q.1=q.2)=false:=lT λh=>g (h (a,b) aA);rw[n];simp only at f;generalize d.map lK=A at *;have W:A.length<281474976710656:=ah;have s:=eq_true e;clear e;refine aB ?_;simp[l,z,D,E,F,m,lK,j,k,t,f,s]
    |some u=>
     rw[O]at g f;obtain⟨T,X,U⟩:=g;have V:=ah0 N (d++u) (by rw[Xx];omega) (by rw[Xx];omega) (λq i=>by
      rcases jQ.1 i with i|i
      ·exact o q (by simp[i])
      ·exact U q i)
     have H:eH (∀q∈d++[(a,b)],q.1=q.2)=eH (∀q∈d++u,q.1=q.2):=Om (by simp only[jQ,or_imp,forall_and,T,jX,forall_eq])
     rw[H];generalize eH (∀q∈d++u,q.1=q.2)=R at *;simp only at f;generalize(d++u).map lK=B,d.map lK=A at *;have s:=eq_true e;clear e;refine aB ?_;simp[l,z,D,E,F,m,lK,j,k,t,f,s,V]
def au5(a b:List aK)(g:fF a)(i:fF b)(c:a.length<=1000000)(d:b.length<=1000000)(k:dO a<=1000000):TT.lim 276 [.l (aI a),.l (aI b)]=some [.b (eH (a=b))]:=by
 have h:=ah0 (dO a+2) [(a,b)] (by simp[vP]) (by simp[vP];omega) (by intro q f;simp at f;subst f;exact⟨g,i,c,d⟩);have e:eH (∀q∈[(a,b)],q.1=q.2)=eH (a=b):=Om aA;rw[e]at h;have j:[(a,b)].map lK=[.g [.l (aI a),.l (aI b)]]:=rfl;rw[j]at h;refine aW ?_;generalize eH (a=b)=r at *;cases r with
 |true=>simp at h;simp[h]
 |false=>simp at h;simp[h]
mutual
def toFt:aK->Ft
 |.mk t y n s k=>.mk [.int .u64 t,.int .i64 y,.int .u64 n,.string ⟨⟨s⟩⟩] (LV k)
def LV:List aK->List Ft
 |[]=>[]
 |f::l=>toFt f::LV l
end
mutual
def aFX:∀f:aK,Fg (toFt f) (rC f)/\cntF (toFt f)<=xw f
 |.mk t y n s k=>by have h:=aef k;simp only[toFt,Fg,rC,cntF,xw];exact⟨⟨_,_,_,_,_,rfl,rfl,h.1⟩,ah⟩
def aef:∀l:List aK,sQ (LV l) (aI l)/\qM (LV l)<=dO l
 |[]=>by simp only[LV,sQ,aI,qM,dO];exact⟨trivial,dP _⟩
 |f::l=>by have h1:=aFX f;have a:=aef l;simp only[LV,sQ,aI,qM,dO];exact⟨⟨_,_,rfl,h1.1,a.1⟩,ah⟩
end
def V3(l:List aK)(a:dO l<=1000000):TT.lim 120 [.l (aI l)]=some [.l (aI l)]:=by refine D5 (Ds:=Ds) (k:=120) (f:=NR) rfl ?_;have h:=aef l;unfold NR;exact au ⟨LV l,h.1,ah⟩
def aj2(b:aQ)(l:List aK)(t:List Row)(p:t.length<=1000)(n:∀r∈t,r.1.length<=40):∀(m i:Nat),i+m=t.length->
 TT.lim 248 [.l ((t.take i).map row),.l (t.map row),.zq t.length,.zq i,.zq b.kind,.zu b.id,.zu b.min,.zu b.max,.zu b.chosen,.zu b.flags,.zu b.cost,.zu b.priority,.zu b.deadline,.zu b.retry,.zu b.epoch,.zu b.base,.zu b.digest,.zu b.lag,.zu b.code,.zu b.want,.zq b.remaining,.b b.allowed,.s b.name,.s b.region,.s b.note,.l (b.d.map ent),.l (aI l)]=some [.zq 0,.l (t.map row)]
 |0,i,hi=>by have h0:t.take i=t:=mF ah;have h:¬((i:Int)<t.length):=ah;rw[h0];refine aB ?_;simp[h]
 |m+1,i,hi=>by
  have a:i<t.length:=ah;have o:=aj2 b l t p n m (i+1) ah;have h:((i:Int)<t.length):=ah;have c:((i+1:Nat):Int)=(i:Int)+1:=ah;have e:=bK ((i:Int)+1);have q:(t.map row)[i]? =some (row t[i]):=by rw[jA,cO a];rfl
  have s:=Ht t[i].1 (n _ (iZ a));have d:GV.g [.l (t[i].1.map ent),.zu t[i].2]=row t[i]:=rfl;have f:(t.take (i+1)).map row=(t.take i).map row++[row t[i]]:=by rw[Uo,cO a,oJ];rfl
  rw[f,c]at o;have g:(row t[i]).gV 2=true:=rfl;have j:2*(((t.take i).map row).length+1)*32<=281474976710656:=by simp;omega
  have k:((t.take i).map row).length<=281474976710655:=by simp;omega
  generalize(t.take i).map row=A,t.map row=L at *;refine aB ?_;simp[h,q,s,d,g,j,k,e,o]
def ayl(b:aQ)(a:List aK)(i:b.d.length<=40)(c:dX b.t)(j:dO a<=1000000):TT.lim 247 [jk b (aI a)]=some [jk b (aI a)]:=by
 have d:∀r∈b.t,r.1.length<=40:=λr k=>by have:=c.few r k;unfold ji at this;rw[aO,decide_eq_true_iff]at this;exact this.2
 have e:=aj2 b a b.t (by have:=c.len;omega) d b.t.length 0 ah;have p:=c.len;rw[Ut,show((0:Nat):Int)=0 from rfl]at e;have l:=Ht b.d i;have m:=V3 a j;have f:((b.t.map row).length:Int)=b.t.length:=aA;have g:(32:Int)*b.t.length<=281474976710656:=ah;have h:(b.t.length:Int)<=1152921504606846976:=ah;have n:b.t.length<=8796093022208:=ah;simp only[jJ]at e;generalize o:b.t.map row=L at *;refine aW ?_;unfold jk;rw[o];simp[f,e,l,m,GV.gV,g,h];try omega
def Gu(n:Int):Int:=if n%2=0 then n/2 else -(n/2)-1
def aG6(n:Int)(h0:0<=n)(h1:n<18446744073709551616):dA .and .u64 n 1=some (.zu (n%2))/\dA .xor .i64 (IntKind.i64.wrap (n/2)) (IntKind.i64.wrap (0-IntKind.i64.wrap (n%2)))=some (.zq (Gu n))/\n.fdiv 2=n/2:=by
 have a:∀y:Int,IntKind.u64.wrap y=y%18446744073709551616:=λy=>by simp[IntKind.wrap,IntKind.signed,IntKind.bits]
 have b:IntKind.u64.bits=64:=rfl;have hi:IntKind.i64.bits=64:=rfl;refine⟨?_,?_,Gx _ aU⟩
 ·simp only[dA,a,b];have e:(BitVec.ofInt 64 n &&& BitVec.ofInt 64 1).toNat=(BitVec.ofInt 64 n).toNat%2:=by rw[Y7];exact Nat.and_one_is_mod _
  show some (GV.i IntKind.u64 (((BitVec.ofInt 64 n &&& BitVec.ofInt 64 1).toNat:Int)%18446744073709551616))=_
  rw[e,wo];congr 2;omega
 ·rw[wrap64 ah ah,bK (n%2),wrap64 ah ah];simp only[dA,hi];unfold Gu;by_cases h:n%2=0
  ·rw[au h,h];have e:BitVec.ofInt 64 (0-0)=0#64:=rfl;show some (GV.i IntKind.i64 (IntKind.i64.wrap ((BitVec.ofInt 64 (n/2) ^^^ BitVec.ofInt 64 (0-0)).toNat:Int)))=_
   rw[e,BitVec.xor_zero,wo];congr 2;rw[wrap64 ah ah];omega
  ·rw[aj h,(ah:n%2=1)];have e:BitVec.ofInt 64 (0-1)=BitVec.allOnes 64:=aU;show some (GV.i IntKind.i64 (IntKind.i64.wrap ((BitVec.ofInt 64 (n/2) ^^^ BitVec.ofInt 64 (0-1)).toNat:Int)))=_
   rw[e,aeG,aeE,wo];congr 2;have c:∀y:Int,IntKind.i64.wrap y=if y%18446744073709551616>=9223372036854775808 then y%18446744073709551616-18446744073709551616 else y%18446744073709551616:=λy=>by simp[IntKind.wrap,IntKind.signed,IntKind.bits]
   rw[c];split<;>omega
def setB(b:aQ)(n:Int)(s:Q0):Pl->aQ
 |.rem=>{b with remaining:=Gu n}
 |.allow=>{b with allowed:=true}
 |.name=>{b with name:=s}
 |.region=>{b with region:=s}
 |.note=>{b with note:=s}
 |.d=>{b with d:=(uf s).1}
 |.t=>{b with t:=(uz s).1}
 |.num k=>match k with
  |0=>{b with id:=n}
  |1=>{b with min:=n}
  |2=>{b with max:=n}
  |3=>{b with chosen:=n}
  |4=>{b with flags:=n}
  |5=>{b with cost:=n}
  |6=>{b with priority:=n}
  |7=>{b with deadline:=n}
  |8=>{b with retry:=n}
  |9=>{b with epoch:=n}
  |10=>{b with base:=n}
  |11=>{b with digest:=n}
  |12=>{b with lag:=n}
  |13=>{b with code:=n}
  |_=>{b with want:=n}
def vV(n:Int)(s:Q0):Pl->Int
 |.allow=>if n=1 then 0 else 18
 |.name=>pq s 0 256
 |.region=>pq s 0 256
 |.note=>pq s 0 256
 |.d=>(uf s).2
 |.t=>if(uz s).2=0 then(if(uz s).1.length=0 then 17 else 0)else(uz s).2
 |_=>0
def nD(ty n:Int)(s:Q0)(p:Pl):Int:=if ty=eF p then(if ty=0 then(if n=0 then 17 else vV n s p)else(if s=[]then 17 else vV n s p))else 8
def axC(u:Int):TT.lim 250 [.zq u]=some [.zq (if u=0 then 0 else if u=1 then 0 else if u=2 then 0 else if u=3 then 1 else if u=4 then 1 else if u=5 then 1 else -1)]:=by
 refine aW ?_;by_cases a:u=0
 ·simp[a]
 by_cases b:u=1
 ·simp[b]
 by_cases c:u=2
 ·simp[c]
 by_cases d:u=3
 ·simp[d]
 by_cases e:u=4
 ·simp[e]
 by_cases f:u=5
 ·simp[f]
 simp[a,b,c,d,e,f]
def uo(b:aQ):Q1:=[.zu b.id,.zu b.min,.zu b.max,.zu b.chosen,.zu b.flags,.zu b.cost,.zu b.priority,.zu b.deadline,.zu b.retry,.zu b.epoch,.zu b.base,.zu b.digest,.zu b.lag,.zu b.code,.zu b.want,.zq b.remaining,.b b.allowed,.s b.name,.s b.region,.s b.note,.l (b.d.map ent),.l (b.t.map row)]
def Zq(b:aQ)(r:Q1)(tag ty n:Int)(s:Q0)(L:GV)(c:Q0)(p:Pl):Prop:=∃a:aQ,TT.lim 249 [.s c,.zu tag,.zq ty,.zu n,.s s,L,.zq b.kind,.zu b.id,.zu b.min,.zu b.max,.zu b.chosen,.zu b.flags,.zu b.cost,.zu b.priority,.zu b.deadline,.zu b.retry,.zu b.epoch,.zu b.base,.zu b.digest,.zu b.lag,.zu b.code,.zu b.want,.zq b.remaining,.b b.allowed,.s b.name,.s b.region,.s b.note,.l (b.d.map ent),.l (b.t.map row),.l r]=some ([.zq 0,.zq (nD ty n s p)]++uo a)/\(nD ty n s p=0->a=setB b n s p)
set_option maxHeartbeats 8000000 in
def aEy(b:aQ)(r:Q1)(tag ty n:Int)(s:Q0)(L:GV)(w:0<=n/\n<18446744073709551616)(x:s.length<=100000000){o:Q0}{p:Pl}(q:placeOf o=some p):Zq b r tag ty n s L o p:=by
 unfold Zq;have g:=axC;have i:=WW q;have k:=(AX o p q).2.1;clear q;by_cases h1:ty=eF p;rotate_left
 ·have e:nD ty n s p=8:=by unfold nD;rw[aj h1]
  refine⟨b,?_,λh=>by rw[e]at h;cases h⟩;rw[e];clear e;induction p,k using OM<;>(simp only[eF]at h1;refine aB ?_;simp[i,uo,g,h1])
 subst h1;by_cases f:(eF p=0/\n=0)\/(eF p=1/\s=[])
 ·have e:nD (eF p) n s p=17:=by
   unfold nD;rw[au rfl];rcases f with⟨a,c⟩|⟨a,c⟩
   ·rw[au a,au c]
   ·rw[bW,au c]
  refine⟨b,?_,λh=>by rw[e]at h;cases h⟩;rw[e];clear e;induction p,k using OM<;>(simp[eF]at f;refine aB ?_;simp[i,uo,g,eF,f])
 have e:nD (eF p) n s p=vV n s p:=by
  unfold nD;rw[au rfl];by_cases a:eF p=0
  ·rw[au a,aj λc=>f (.inl ⟨a,c⟩)]
  ·rw[aj a,aj λc=>f (.inr ⟨by cases p<;>simp[eF]at a⊢,c⟩)]
 rw[e];clear e;induction p,k using OM
 case h0=>
  have f:¬n=0:=by simpa[eF]using f
  obtain⟨z,y,A⟩:=aG6 n w.1 w.2;refine⟨{b with remaining:=Gu n},?_,λ_=>rfl⟩;show _=some ([GV.zq 0,GV.zq 0]++_)
  refine aB ?_;simp only[Int.zero_sub]at y;simp[i,uo,g,eF,f,kX,IntKind.bits,z,y,A]
 case h1=>
  have f:¬n=0:=by simpa[eF]using f
  by_cases j:n=1
  ·have v:vV n s .allow=0:=by unfold vV;rw[au j]
   rw[v];refine⟨{b with allowed:=true},?_,λ_=>rfl⟩;refine aB ?_;simp[i,uo,g,eF,f,j]
  ·have v:vV n s .allow=18:=by unfold vV;rw[aj j]
   rw[v];refine⟨b,?_,λh=>by cases h⟩;refine aB ?_;simp[i,uo,g,eF,f,j]
 case h5=>
  have f:¬s=[]:=by simpa[eF]using f
  have l:=ahe s x;refine⟨{b with d:=(uf s).1},?_,λ_=>rfl⟩;show _=some ([GV.zq 0,GV.zq (uf s).2]++_)
  refine aB ?_;simp[i,uo,g,eF,f,l]
 case h6=>
  have f:¬s=[]:=by simpa[eF]using f
  have l:=aF3 s x;refine⟨{b with t:=(uz s).1},?_,λ_=>rfl⟩;unfold vV;by_cases j:(uz s).2=0
  ·rw[au j];by_cases m:(uz s).1.length=0
   ·have h5:=kP m;rw[au m];refine aB ?_;simp[i,uo,g,eF,f,l,j,h5]
   ·have h5:(uz s).1≠[]:=λe=>m (by rw[e];rfl);rw[aj m];refine aB ?_;simp[i,uo,g,eF,f,l,j,h5]
  ·rw[aj j];refine aB ?_;simp[i,uo,g,eF,f,l,j]
 all_goals first
  |(have f:¬s=[]:=by simpa[eF]using f
    have l:=Hq s 0 256 ah;refine⟨setB b n s _,?_,λ_=>rfl⟩;show _=some ([GV.zq 0,GV.zq (pq s 0 256)]++_)
    generalize pq s 0 256=u at *;refine aB ?_;simp[i,uo,setB,g,eF,f,l];done)
  |(have f:¬n=0:=by simpa[eF]using f
    refine⟨setB b n s _,?_,λ_=>rfl⟩;show _=some ([GV.zq 0,GV.zq 0]++_)
    refine aB ?_;simp[i,uo,setB,g,eF,f])
def gQ:aQ:={kind:=0,id:=0,min:=0,max:=0,chosen:=0,flags:=0,cost:=0,priority:=0,deadline:=0,retry:=0,epoch:=0,base:=0,digest:=0,lag:=0,code:=0,want:=0,remaining:=0,allowed:=false,name:=[],region:=[],note:=[],d:=[],t:=[]}
def aey(b:aQ)(r:Q1)(ty n:Int)(s:Q0)(p:Pl):Q1:=if nD ty n s p=0 then[jk (setB b n s p) r,.zq 0]else[jk gQ [],.zq (nD ty n s p)]
def aex(b:aQ)(r:Q1)(ty n:Int)(s a:Q0):Q1:=match placeOf a with
 |some p=>aey b r ty n s p
 |none=>[jk gQ [],.zq 26]
def ame(b:aQ)(n:Int)(s:Q0)(p:Pl):(setB b n s p).kind=b.kind:=by unfold setB;split<;>first|rfl|(split<;>rfl)
def aEB(b:aQ)(r:Q1)(tag ty n:Int)(s:Q0)(L:GV){a:Q0}(c:placeOf a=none):TT.lim 249 [.s a,.zu tag,.zq ty,.zu n,.s s,L,.zq b.kind,.zu b.id,.zu b.min,.zu b.max,.zu b.chosen,.zu b.flags,.zu b.cost,.zu b.priority,.zu b.deadline,.zu b.retry,.zu b.epoch,.zu b.base,.zu b.digest,.zu b.lag,.zu b.code,.zu b.want,.zq b.remaining,.b b.allowed,.s b.name,.s b.region,.s b.note,.l (b.d.map ent),.l (b.t.map row),.l r]=some ([.zq 0,.zq 26]++uo b):=by have d:=ai6 c;refine aB ?_;simp[uo,d]
def aEx(b:aQ)(r:Q1)(tag ty n:Int)(s:Q0)(L:GV)(d:0<=n/\n<18446744073709551616)(e:s.length<=100000000)(a:Q0):(∃p,placeOf a=some p/\Zq b r tag ty n s L a p)\/(placeOf a=none/\TT.lim 249 [.s a,.zu tag,.zq ty,.zu n,.s s,L,.zq b.kind,.zu b.id,.zu b.min,.zu b.max,.zu b.chosen,.zu b.flags,.zu b.cost,.zu b.priority,.zu b.deadline,.zu b.retry,.zu b.epoch,.zu b.base,.zu b.digest,.zu b.lag,.zu b.code,.zu b.want,.zq b.remaining,.b b.allowed,.s b.name,.s b.region,.s b.note,.l (b.d.map ent),.l (b.t.map row),.l r]=some ([.zq 0,.zq 26]++uo b)):=by
 cases c:placeOf a with
 |some p=>exact .inl ⟨p,rfl,aEy b r tag ty n s L d e c⟩
 |none=>exact .inr ⟨rfl,aEB b r tag ty n s L c⟩
def ayX(K:Q1)(b:aQ)(c:List aK)(k:b.d.length<=40)(l:dX b.t)(f:dO c<=1000000)(tag ty n:Int)(s:Q0)(m:0<=n/\n<18446744073709551616)(o:s.length<=100000000)(g:Q0):
 TT.lim 246 [jk b (aI c),.s g,.g [.zu tag,.zq ty,.zu n,.s s,.l K]]=some (aex b (aI c) ty n s g):=by
 have h:=ayl b c k l f;have q:=aEx b (aI c) tag ty n s (.l K) m o g;generalize aI c=r at *;have j:GV.g [.zq 0,.zu 0,.zu 0,.zu 0,.zu 0,.zu 0,.zu 0,.zu 0,.zu 0,.zu 0,.zu 0,.zu 0,.zu 0,.zu 0,.zu 0,.zu 0,.zq 0,.b false,.s [],.s [],.s [],.l [],.l [],.l []]=jk gQ []:=rfl;unfold aex;rcases q with⟨p,i,x,a,t⟩|⟨i,a⟩
 ·rw[i];simp only;unfold aey;have u:=ame b n s p;generalize nD ty n s p=e at *;by_cases d:e=0
  ·have v:=t d;rw[au d];rw[d,v]at a;have w:jk (setB b n s p) r=GV.g ([.zq b.kind]++uo (setB b n s p)++[.l r]):=by rw[<-u];rfl
   rw[w];generalize setB b n s p=B at *;unfold uo at a⊢;refine aW ?_;simp[lW,h];simp[a]
  ·rw[aj d];unfold uo at a;rw[<-j];refine aW ?_;simp[lW,h];simp[a,d]
 ·rw[i];simp only;unfold uo at a;rw[<-j];refine aW ?_;simp[lW,h];simp[a]
def dF(b c:aQ):Pl->Prop
 |.rem=>b.remaining=c.remaining
 |.allow=>b.allowed=c.allowed
 |.name=>b.name=c.name
 |.region=>b.region=c.region
 |.note=>b.note=c.note
 |.d=>b.d=c.d
 |.t=>b.t=c.t
 |.num k=>qV b k=qV c k
def pI(b c:aQ)(d e:Q1)(f:Nat)(n:Q0)(p:Prop):Prop:=∀(a:Q1)(L K:Int)(i:Nat),(i:Int)<L->a[i]? =some (.s n)->IntKind.i64.wrap ((i:Int)+1)=(i:Int)+1->TT.lim f ([.l a,.zq L,.zq ((i:Int)+1)]++(jk c e).cells++(jk b d).cells)=some [.zq K]->TT.lim f ([.l a,.zq L,.zq i]++(jk c e).cells++(jk b d).cells)=some [.zq (if eH p=true then K else 0)]
def ayD(b c:aQ)(j k:Q1):pI b c j k 269 KP (dF b c (.num 0)):=by
 intro l L K i h a g f;rw[fG,fG]at f⊢;simp only[bG,aZ]at f⊢;unfold KP at a;by_cases d:b.id=c.id
 ·have e:eH (dF b c (.num 0))=true:=nR d;rw[e];replace d:=eq_true d
  refine aB ?_;simp[h,a,d,g,f]
 ·have e:eH (dF b c (.num 0))=false:=lT d;rw[e];refine aB ?_;simp[h,a,d,g]
def ayG(b c:aQ)(j k:Q1):pI b c j k 269 KT (dF b c (.num 1)):=by
 intro l L K i h a g f;rw[fG,fG]at f⊢;simp only[bG,aZ]at f⊢;unfold KT at a;by_cases d:b.min=c.min
 ·have e:eH (dF b c (.num 1))=true:=nR d;rw[e];replace d:=eq_true d
  refine aB ?_;simp[h,a,d,g,f]
 ·have e:eH (dF b c (.num 1))=false:=lT d;rw[e];refine aB ?_;simp[h,a,d,g]
def ayF(b c:aQ)(j k:Q1):pI b c j k 269 KR (dF b c (.num 2)):=by
 intro l L K i h a g f;rw[fG,fG]at f⊢;simp only[bG,aZ]at f⊢;unfold KR at a;by_cases d:b.max=c.max
 ·have e:eH (dF b c (.num 2))=true:=nR d;rw[e];replace d:=eq_true d
  refine aB ?_;simp[h,a,d,g,f]
 ·have e:eH (dF b c (.num 2))=false:=lT d;rw[e];refine aB ?_;simp[h,a,d,g]
def ayv(b c:aQ)(j k:Q1):pI b c j k 269 KI (dF b c (.num 3)):=by
 intro l L K i h a g f;rw[fG,fG]at f⊢;simp only[bG,aZ]at f⊢;unfold KI at a;by_cases d:b.chosen=c.chosen
 ·have e:eH (dF b c (.num 3))=true:=nR d;rw[e];replace d:=eq_true d
  refine aB ?_;simp[h,a,d,g,f]
 ·have e:eH (dF b c (.num 3))=false:=lT d;rw[e];refine aB ?_;simp[h,a,d,g]
def ayC(b c:aQ)(j k:Q1):pI b c j k 269 KO (dF b c (.num 4)):=by
 intro l L K i h a g f;rw[fG,fG]at f⊢;simp only[bG,aZ]at f⊢;unfold KO at a;by_cases d:b.flags=c.flags
 ·have e:eH (dF b c (.num 4))=true:=nR d;rw[e];replace d:=eq_true d
  refine aB ?_;simp[h,a,d,g,f]
 ·have e:eH (dF b c (.num 4))=false:=lT d;rw[e];refine aB ?_;simp[h,a,d,g]
def ayx(b c:aQ)(j k:Q1):pI b c j k 269 KJ (dF b c (.num 5)):=by
 intro l L K i h a g f;rw[fG,fG]at f⊢;simp only[bG,aZ]at f⊢;unfold KJ at a;by_cases d:b.cost=c.cost
 ·have e:eH (dF b c (.num 5))=true:=nR d;rw[e];replace d:=eq_true d
  refine aB ?_;simp[h,a,d,g,f]
 ·have e:eH (dF b c (.num 5))=false:=lT d;rw[e];refine aB ?_;simp[h,a,d,g]
def ayK(b c:aQ)(j k:Q1):pI b c j k 269 KW (dF b c (.num 6)):=by
 intro l L K i h a g f;rw[fG,fG]at f⊢;simp only[bG,aZ]at f⊢;unfold KW at a;by_cases d:b.priority=c.priority
 ·have e:eH (dF b c (.num 6))=true:=nR d;rw[e];replace d:=eq_true d
  refine aB ?_;simp[h,a,d,g,f]
 ·have e:eH (dF b c (.num 6))=false:=lT d;rw[e];refine aB ?_;simp[h,a,d,g]
def ayy(b c:aQ)(j k:Q1):pI b c j k 269 KL (dF b c (.num 7)):=by
 intro l L K i h a g f;rw[fG,fG]at f⊢;simp only[bG,aZ]at f⊢;unfold KL at a;by_cases d:b.deadline=c.deadline
 ·have e:eH (dF b c (.num 7))=true:=nR d;rw[e];replace d:=eq_true d
  refine aB ?_;simp[h,a,d,g,f]
 ·have e:eH (dF b c (.num 7))=false:=lT d;rw[e];refine aB ?_;simp[h,a,d,g]
def ayN(b c:aQ)(j k:Q1):pI b c j k 269 KY (dF b c (.num 8)):=by
 intro l L K i h a g f;rw[fG,fG]at f⊢;simp only[bG,aZ]at f⊢;unfold KY at a;by_cases d:b.retry=c.retry
 ·have e:eH (dF b c (.num 8))=true:=nR d;rw[e];replace d:=eq_true d
  refine aB ?_;simp[h,a,d,g,f]
 ·have e:eH (dF b c (.num 8))=false:=lT d;rw[e];refine aB ?_;simp[h,a,d,g]
def ayB(b c:aQ)(j k:Q1):pI b c j k 269 uY (dF b c (.num 9)):=by
 intro l L K i h a g f;rw[fG,fG]at f⊢;simp only[bG,aZ]at f⊢;unfold uY at a;by_cases d:b.epoch=c.epoch
 ·have e:eH (dF b c (.num 9))=true:=nR d;rw[e];replace d:=eq_true d
  refine aB ?_;simp[h,a,d,g,f]
 ·have e:eH (dF b c (.num 9))=false:=lT d;rw[e];refine aB ?_;simp[h,a,d,g]
def ayu(b c:aQ)(j k:Q1):pI b c j k 269 DU (dF b c (.num 10)):=by
 intro l L K i h a g f;rw[fG,fG]at f⊢;simp only[bG,aZ]at f⊢;unfold DU at a;by_cases d:b.base=c.base
 ·have e:eH (dF b c (.num 10))=true:=nR d;rw[e];replace d:=eq_true d
  refine aB ?_;simp[h,a,d,g,f]
 ·have e:eH (dF b c (.num 10))=false:=lT d;rw[e];refine aB ?_;simp[h,a,d,g]
def ayA(b c:aQ)(j k:Q1):pI b c j k 269 Cm (dF b c (.num 11)):=by
 intro l L K i h a g f;rw[fG,fG]at f⊢;simp only[bG,aZ]at f⊢;unfold Cm at a;by_cases d:b.digest=c.digest
 ·have e:eH (dF b c (.num 11))=true:=nR d;rw[e];replace d:=eq_true d
  refine aB ?_;simp[h,a,d,g,f]
 ·have e:eH (dF b c (.num 11))=false:=lT d;rw[e];refine aB ?_;simp[h,a,d,g]
def ayE(b c:aQ)(j k:Q1):pI b c j k 269 KQ (dF b c (.num 12)):=by
 intro l L K i h a g f;rw[fG,fG]at f⊢;simp only[bG,aZ]at f⊢;unfold KQ at a;by_cases d:b.lag=c.lag
 ·have e:eH (dF b c (.num 12))=true:=nR d;rw[e];replace d:=eq_true d
  refine aB ?_;simp[h,a,d,g,f]
 ·have e:eH (dF b c (.num 12))=false:=lT d;rw[e];refine aB ?_;simp[h,a,d,g]
def ayw(b c:aQ)(j k:Q1):pI b c j k 269 Cj (dF b c (.num 13)):=by
 intro l L K i h a g f;rw[fG,fG]at f⊢;simp only[bG,aZ]at f⊢;unfold Cj at a;by_cases d:b.code=c.code
 ·have e:eH (dF b c (.num 13))=true:=nR d;rw[e];replace d:=eq_true d
  refine aB ?_;simp[h,a,d,g,f]
 ·have e:eH (dF b c (.num 13))=false:=lT d;rw[e];refine aB ?_;simp[h,a,d,g]
def ayQ(b c:aQ)(j k:Q1):pI b c j k 269 DV (dF b c (.num 14)):=by
 intro l L K i h a g f;rw[fG,fG]at f⊢;simp only[bG,aZ]at f⊢;unfold DV at a;by_cases d:b.want=c.want
 ·have e:eH (dF b c (.num 14))=true:=nR d;rw[e];replace d:=eq_true d
  refine aB ?_;simp[h,a,d,g,f]
 ·have e:eH (dF b c (.num 14))=false:=lT d;rw[e];refine aB ?_;simp[h,a,d,g]
def ayM(b c:aQ)(j k:Q1):pI b c j k 269 KX (dF b c .rem):=by
 intro l L K i h a g f;rw[fG,fG]at f⊢;simp only[bG,aZ]at f⊢;unfold KX at a;by_cases d:b.remaining=c.remaining
 ·have e:eH (dF b c .rem)=true:=nR d;rw[e];replace d:=eq_true d
  refine aB ?_;simp[h,a,d,g,f]
 ·have e:eH (dF b c .rem)=false:=lT d;rw[e];refine aB ?_;simp[h,a,d,g]
def ayt(b c:aQ)(j k:Q1):pI b c j k 269 KH (dF b c .allow):=by
 intro l L K i h a g f;rw[fG,fG]at f⊢;simp only[bG,aZ]at f⊢;unfold KH at a;by_cases d:b.allowed=c.allowed
 ·have e:eH (dF b c .allow)=true:=nR d;rw[e];replace d:=eq_true d
  refine aB ?_;simp[h,a,d,g,f]
 ·have e:eH (dF b c .allow)=false:=lT d;rw[e];refine aB ?_;simp[h,a,d,g]
def ayH(b c:aQ)(j k:Q1):pI b c j k 269 KU (dF b c .name):=by
 intro l L K i h a g f;rw[fG,fG]at f⊢;simp only[bG,aZ]at f⊢;unfold KU at a;by_cases d:b.name=c.name
 ·have e:eH (dF b c .name)=true:=nR d;rw[e];replace d:=eq_true d
  refine aB ?_;simp[h,a,d,g,f]
 ·have e:eH (dF b c .name)=false:=lT d;rw[e];refine aB ?_;simp[h,a,d,g]
def ayL(b c:aQ)(j k:Q1):pI b c j k 269 zW (dF b c .region):=by
 intro l L K i h a g f;rw[fG,fG]at f⊢;simp only[bG,aZ]at f⊢;unfold zW at a;by_cases d:b.region=c.region
 ·have e:eH (dF b c .region)=true:=nR d;rw[e];replace d:=eq_true d
  refine aB ?_;simp[h,a,d,g,f]
 ·have e:eH (dF b c .region)=false:=lT d;rw[e];refine aB ?_;simp[h,a,d,g]
def ayI(b c:aQ)(j k:Q1):pI b c j k 269 FD (dF b c .note):=by
 intro l L K i h a g f;rw[fG,fG]at f⊢;simp only[bG,aZ]at f⊢;unfold FD at a;by_cases d:b.note=c.note
 ·have e:eH (dF b c .note)=true:=nR d;rw[e];replace d:=eq_true d
  refine aB ?_;simp[h,a,d,g,f]
 ·have e:eH (dF b c .note)=false:=lT d;rw[e];refine aB ?_;simp[h,a,d,g]
def ayz(b c:aQ)(m n:Q1)(f:b.d.length<=140737488351232)(g:c.d.length<=140737488351232):pI b c m n 269 KN (dF b c .d):=by
 intro o L K i h a l j;rw[fG,fG]at j⊢;simp only[bG,aZ]at j⊢;unfold KN at a;have k:=ahD b.d c.d f g;by_cases d:b.d=c.d
 ·have e:eH (dF b c .d)=true:=nR d;rw[e];rw[EN d]at k;refine aB ?_;simp[h,a,k,l,j]
 ·have e:eH (dF b c .d)=false:=lT d;rw[e];rw[Dx d]at k;refine aB ?_;simp[h,a,k,l]
def ayP(b c:aQ)(m n:Q1)(f:dX b.t)(g:dX c.t):pI b c m n 269 yV (dF b c .t):=by
 intro o L K i h a l j;rw[fG,fG]at j⊢;simp only[bG,aZ]at j⊢;unfold yV at a;have k:=al3 b.t c.t f g;by_cases d:b.t=c.t
 ·have e:eH (dF b c .t)=true:=nR d;rw[e];rw[EN d]at k;refine aB ?_;simp[h,a,k,l,j]
 ·have e:eH (dF b c .t)=false:=lT d;rw[e];rw[Dx d]at k;refine aB ?_;simp[h,a,k,l]
def akh:iH=[KH,DU,KI,Cj,KJ,KL,KN,Cm,uY,KO,KP,KQ,KR,KT,KU,FD,KW,zW,KX,KY,yV,DV]:=rfl
def ayO(b c:aQ)(a d:Q1)(e:b.d.length<=140737488351232)(f:c.d.length<=140737488351232)(g:dX b.t)(h:dX c.t):∀n∈iH,∃p,placeOf n=some p/\pI b c a d 269 n (dF b c p):=by
 intro n i;rw[akh]at i;simp only[bH,Jj,or_false]at i;rcases i with rfl|rfl|rfl|rfl|rfl|rfl|rfl|rfl|rfl|rfl|rfl|rfl|rfl|rfl|rfl|rfl|rfl|rfl|rfl|rfl|rfl|rfl
 ·exact⟨_,akL,ayt b c a d⟩
 ·exact⟨_,akM,ayu b c a d⟩
 ·exact⟨_,akN,ayv b c a d⟩
 ·exact⟨_,akO,ayw b c a d⟩
 ·exact⟨_,akP,ayx b c a d⟩
 ·exact⟨_,akQ,ayy b c a d⟩
 ·exact⟨_,akR,ayz b c a d e f⟩
 ·exact⟨_,akS,ayA b c a d⟩
 ·exact⟨_,akT,ayB b c a d⟩
 ·exact⟨_,akU,ayC b c a d⟩
 ·exact⟨_,akV,ayD b c a d⟩
 ·exact⟨_,akW,ayE b c a d⟩
 ·exact⟨_,akX,ayF b c a d⟩
 ·exact⟨_,akY,ayG b c a d⟩
 ·exact⟨_,akZ,ayH b c a d⟩
 ·exact⟨_,ak0,ayI b c a d⟩
 ·exact⟨_,ak1,ayK b c a d⟩
 ·exact⟨_,ak2,ayL b c a d⟩
 ·exact⟨_,ak3,ayM b c a d⟩
 ·exact⟨_,ak4,ayN b c a d⟩
 ·exact⟨_,ak5,ayP b c a d g h⟩
 ·exact⟨_,ak6,ayQ b c a d⟩
def al4(b c:aQ)(k l:Q1)(f:Nat)(Q:Pl->Prop)(a:∀(w:Q1)(L:Int)(i:Nat),¬(i:Int)<L->TT.lim f ([.l w,.zq L,.zq i]++(jk c l).cells++(jk b k).cells)=some [.zq 1])(t:∀n∈iH,∃p,placeOf n=some p/\pI b c k l f n (Q p)):∀m i:Nat,i+m=iH.length->
 TT.lim f ([.l (iH.map .s),.zq iH.length,.zq i]++(jk c l).cells++(jk b k).cells)=some [.zq (if eH (∀n∈iH.drop i,∀p,placeOf n=some p->Q p)=true then 1 else 0)]
 |0,i,hi=>by have e:eH (∀n∈iH.drop i,∀p,placeOf n=some p->Q p)=true:=nR (by rw[iP];simp);rw[e];exact a _ _ i ah
 |m+1,i,hi=>by
  have d:i<iH.length:=ah;have x:iH.length=22:=rfl;have y:=bK ((i:Int)+1);have u:=al4 b c k l f Q a t m (i+1) ah;obtain⟨p,v,r⟩:=t _ (iZ d);have s:(iH.map GV.s)[i]? =some (.s iH[i]):=by rw[jA,cO d];rfl
  have g:((i+1:Nat):Int)=(i:Int)+1:=ah;rw[g]at u;have z:=r _ _ _ i ah s y u;rw[z,iY d];have j:(∀n∈iH[i]::iH.drop (i+1),∀p,placeOf n=some p->Q p)↔(Q p/\∀n∈iH.drop (i+1),∀p,placeOf n=some p->Q p):=by
   simp only[bH,forall_eq_or_imp];constructor
   ·exact λh=>⟨h.1 p v,h.2⟩
   ·intro h;refine⟨λq j=>?_,h.2⟩;rw[v]at j;injection j with j
    rw[<-j];exact h.1
  rw[Om j];by_cases o:Q p
  ·rw[nR o,au rfl];have:eH (Q p/\∀n∈iH.drop (i+1),∀p,placeOf n=some p->Q p)=eH (∀n∈iH.drop (i+1),∀p,placeOf n=some p->Q p):=Om ⟨λh=>h.2,λh=>⟨o,h⟩⟩;rw[this]
  ·rw[lT o,aj aU,lT λh=>o h.1,aj aU]
def parts_all(b c:aQ)(D:b.kind=c.kind):(∀n∈iH,∀p,placeOf n=some p->dF b c p)↔b=c:=by
 constructor
 ·intro h;rw[akh]at h;have a:∀{n:Q0}{p:Pl},n∈[KH,DU,KI,Cj,KJ,KL,KN,Cm,uY,KO,KP,KQ,KR,KT,KU,FD,KW,zW,KX,KY,yV,DV]->placeOf n=some p->dF b c p:=λE F=>h _ E _ F;have d:=a aA ak3;have e:=a aA akL;have f:=a aA akZ;have g:=a aA ak2;have i:=a aA ak0;have j:=a aA akR;have k:=a aA ak5;have l:=a aA akV;have m:=a aA akY;have o:=a aA akX;have q:=a aA akN;have r:=a aA akU;have s:=a aA akP;have t:=a aA ak1;have u:=a aA akQ;have v:=a aA ak4;have w:=a aA akT;have x:=a aA akM;have y:=a aA akS;have z:=a aA akW;have A:=a aA akO;have B:=a aA ak6;clear h a;cases b;cases c;simp only[dF,qV]at *;subst D;subst d;subst e;subst f;subst g;subst i;subst j;subst k;subst l;subst m;subst o;subst q;subst r;subst s;subst t;subst u;subst v;subst w;subst x;subst y;subst z;subst A;subst B;rfl
 ·rintro rfl n _ p _
  cases p<;>simp[dF]
def ayJ(b c:aQ)(a fc:List aK)(t:b.d.length<=40)(v:c.d.length<=40)(l:dX b.t)(m:dX c.t)(n:fF a)(o:fF fc)(p:a.length<=1000000)(q:fc.length<=1000000)(r:dO a<=1000000):TT.lim 268 [jk b (aI a),jk c (aI fc)]=some [.b (eH (b=c/\a=fc))]:=by
 have w:=au5 a fc n o p q r;have s:=ake;have d:=al4 b c (aI a) (aI fc) 269 (dF b c) (λx L i h=>by rw[fG,fG];simp only[bG,aZ];refine aB ?_;simp[h]) (ayO b c (aI a) (aI fc) ah ah l m) iH.length 0 ah
 have j:((iH.map GV.s).length:Int)=(iH.length:Int):=by rw[gU]
 rw[dY]at d;rw[fG,fG]at d;simp only[bG,aZ,tJ]at d;by_cases g:b.kind=c.kind;rotate_left
 ·rw[lT λh=>g (by rw[h.1])];refine aW ?_;simp[g]
 have k:=parts_all b c g;replace g:(b.kind=c.kind)=True:=eq_true g
 rw[Om k]at d;clear k;generalize iH.map GV.s=x,(iH.length:Int)=L at *;by_cases f:b=c
 ·rw[nR f]at d;have e:eH (b=c/\a=fc)=eH (a=fc):=Om ⟨λh=>h.2,λh=>⟨f,h⟩⟩;rw[e];generalize eH (a=fc)=u at *;simp only[if_true]at d;refine aW ?_;simp[g,s,j,d,w]
 ·rw[lT f]at d;rw[lT λh=>f h.1];simp only[iI,if_false]at d;refine aW ?_;simp[g,s,j,d]
def aG7{n:Int}(a:0<=n/\n<18446744073709551616): -9223372036854775808<=Gu n/\Gu n<=9223372036854775807:=by unfold Gu;split<;>omega
def amd{b:aQ}{n:Int}{s:Q0}{p:Pl}{ty:Int}(a:vZ b)(c:ji b.d=true)(e:dX b.t)(i:0<=n/\n<18446744073709551616)(j:s.length<=100000000)(h:nD ty n s p=0):vZ (setB b n s p)/\ji (setB b n s p).d=true/\dX (setB b n s p).t:=by
 have l:vV n s p=0:=by
  unfold nD at h;split at h
  ·split at h<;>split at h<;>first|exact h|exact absurd h aU
  ·exact absurd h aU
 cases p with
 |rem=>exact⟨{a with remaining:=aG7 i},c,e⟩
 |allow=>exact⟨{a with},c,e⟩
 |name=>exact⟨{a with name:=by show s.length<=_;omega},c,e⟩
 |region=>exact⟨{a with region:=by show s.length<=_;omega},c,e⟩
 |note=>exact⟨{a with note:=by show s.length<=_;omega},c,e⟩
 |d=>have g:=ahg (s:=s) l j;exact⟨{a with d:=g.ents},g.few,e⟩
 |t=>have g:=(aF5 (s:=s) j).1;exact⟨{a with t:=g.rows},c,g.good⟩
 |num k=>
  unfold setB;split<;>rename_i f
  ·exact absurd f aA
  ·exact absurd f aA
  ·exact absurd f aA
  ·exact absurd f aA
  ·exact absurd f aA
  ·exact absurd f aA
  ·exact absurd f aA
  ·split<;>exact⟨by constructor<;>first|exact i|exact a.kind|exact a.id|exact a.min|exact a.max|exact a.chosen|exact a.flags|exact a.cost|exact a.priority|exact a.deadline|exact a.retry|exact a.epoch|exact a.base|exact a.digest|exact a.lag|exact a.code|exact a.want|exact a.remaining|exact a.name|exact a.region|exact a.note|exact a.d|exact a.t,c,e⟩
structure tV(b:aQ)(fl:List aK):Prop where
 body:vZ b
 d:ji b.d=true
 t:dX b.t
 f8:fF fl
 len:fl.length<=1000000
def Jb:tV gQ []:=⟨by constructor<;>simp[gQ,uG,Rows],by simp[gQ,ji],⟨by simp[gQ],by intro r a;simp[gQ]at a,by simp[gQ,Rows]⟩,by simp only[fF],aA⟩
def tV.ays{b c:aQ}{a fc:List aK}(h:tV b a)(k:tV c fc)(e:dO a<=1000000):TT.lim 268 [jk b (aI a),jk c (aI fc)]=some [.b (eH (b=c/\a=fc))]:=ayJ b c a fc (ET h.d) (ET k.d) h.t k.t h.f8 k.f8 h.len k.len e
def ayU(b:aQ)(r:Q1)(c:vZ b)(d:ji b.d=true)(e:zB b.t)(n:Q0):(∃p,placeOf n=some p/\TT.lim 111 [jk b r,.s n]=some [.g [.zu 0,.zq (eF p),.zu (bC b p).1,.s (bC b p).2,.l []],.b true])\/
 (placeOf n=none/\TT.lim 111 [jk b r,.s n]=some [.g [.zu 0,.zq 0,.zu 0,.s [],.l []],.b false]):=by
 cases a:placeOf n with
 |some p=>exact .inl ⟨p,rfl,ayT b r c (λ_=>d) (λ_=>e) a⟩
 |none=>exact .inr ⟨rfl,ayW b r a⟩
def ayV{b:aQ}{c:List aK}(h:tV b c){n:Q0}{p:Pl}(d:placeOf n=some p):TT.lim 111 [jk b (aI c),.s n]=some [.g [.zu 0,.zq (eF p),.zu (bC b p).1,.s (bC b p).2,.l []],.b true]:=by
 rcases ayU b (aI c) h.body h.d h.t.few n with⟨q,a,e⟩|⟨a,-⟩
 ·rw[d]at a;injection a with a
  rw[a];exact e
 ·rw[d]at a;cases a
def zZ(b c:aQ):Pl->aQ
 |.rem=>{c with remaining:=b.remaining}
 |.allow=>{c with allowed:=b.allowed}
 |.name=>{c with name:=b.name}
 |.region=>{c with region:=b.region}
 |.note=>{c with note:=b.note}
 |.d=>{c with d:=b.d}
 |.t=>{c with t:=b.t}
 |.num k=>match k with
  |0=>{c with id:=b.id}
  |1=>{c with min:=b.min}
  |2=>{c with max:=b.max}
  |3=>{c with chosen:=b.chosen}
  |4=>{c with flags:=b.flags}
  |5=>{c with cost:=b.cost}
  |6=>{c with priority:=b.priority}
  |7=>{c with deadline:=b.deadline}
  |8=>{c with retry:=b.retry}
  |9=>{c with epoch:=b.epoch}
  |10=>{c with base:=b.base}
  |11=>{c with digest:=b.digest}
  |12=>{c with lag:=b.lag}
  |13=>{c with code:=b.code}
  |_=>{c with want:=b.want}
def aAW(b c:aQ)(p:Pl):(zZ b c p).kind=c.kind:=by unfold zZ;split<;>first|rfl|(split<;>rfl)
def aAX(b c:aQ)(j k:Nat)(d:k<15)(e:j<15)(a:j≠k):qV (zZ b c (.num k)) j=qV c j:=by
 rcases k with _|_|_|_|_|_|_|_|_|_|_|_|_|_|_|k
 all_goals first|(exfalso;omega)|skip
 all_goals (rcases j with _|_|_|_|_|_|_|_|_|_|_|_|_|_|_|j)<;>first|rfl|exact absurd rfl a|(exfalso;omega)
def aG8(x:Int)(h: -9223372036854775808<=x/\x<=9223372036854775807):Gu (zz x)=x:=by unfold Gu zz;split<;>split<;>omega
def aG5(x:Int)(h: -9223372036854775808<=x/\x<=9223372036854775807):0<=zz x/\zz x<18446744073709551616:=by unfold zz;split<;>omega
def akE(t:List Row)(a:dX t):(qC t).length<=90000000:=by
 have h:=adz t [] (λr b=>⟨a.few r b,(a.rows.2 r b).2⟩);have c:=a.len;have d:(aS t.length).length<=20:=by have:=nY (n:=t.length) ah;omega
 unfold qC;rw[eP];have:40000*t.length<=40000*300:=Ux _ c;omega
def aEz{b:aQ}{v:List aK}(h:tV b v)(x:b.name.length<=600/\b.region.length<=600/\b.note.length<=600)(p:Pl)(g:nU b p=0)(a:¬((bC b p).1=0/\(bC b p).2=[])):
 nD (eF p) (bC b p).1 (bC b p).2 p=0/\(0<=(bC b p).1/\(bC b p).1<18446744073709551616)/\(bC b p).2.length<=100000000/\∀c,setB c (bC b p).1 (bC b p).2 p=zZ b c p:=by
 cases p with
 |rem=>have o:=h.body.remaining;have w:=aG8 b.remaining o;have r:=aG5 b.remaining o;simp only[bC]at a⊢;have f:¬zz b.remaining=0:=λe=>a ⟨e,trivial⟩;refine⟨by unfold nD;simp[eF,f,vV],r,aA,λc=>?_⟩;simp only[setB,w,zZ]
 |allow=>
  simp only[bC]at a⊢;cases s:b.allowed with
  |false=>rw[s]at a;exact absurd ⟨rfl,trivial⟩ a
  |true=>refine⟨by unfold nD;simp[eF,vV],aA,aA,λc=>?_⟩;simp only[setB,zZ,s]
 |name=>simp only[bC]at a⊢;have f:¬b.name=[]:=λe=>a ⟨trivial,e⟩;simp only[nU]at g;refine⟨by unfold nD;simp[eF,f,vV,g],aA,ah,λc=>rfl⟩
 |region=>simp only[bC]at a⊢;have f:¬b.region=[]:=λe=>a ⟨trivial,e⟩;simp only[nU]at g;refine⟨by unfold nD;simp[eF,f,vV,g],aA,ah,λc=>rfl⟩
 |note=>simp only[bC]at a⊢;have f:¬b.note=[]:=λe=>a ⟨trivial,e⟩;simp only[nU]at g;refine⟨by unfold nD;simp[eF,f,vV,g],aA,ah,λc=>rfl⟩
 |d=>
  simp only[bC]at a⊢;have i:b.d≠[]:=λe=>a ⟨trivial,by rw[au e]⟩;simp only[nU,aj i]at g;have m:=ahf b.d g;have u:=Rz h.d;have j:dN b.d≠[]:=λe=>a ⟨trivial,by rw[aj i];exact e⟩;rw[aj i];refine⟨?_,aA,ah,λc=>?_⟩
  ·unfold nD;simp[eF,j,vV,m]
  ·simp only[setB,zZ,m]
 |t=>
  simp only[bC]at a⊢;have l:b.t≠[]:=λe=>a ⟨trivial,by rw[au e]⟩;simp only[nU]at g;have u:AY b.t=(qC b.t,0):=by unfold AY;rw[aj (by simpa using g)]
  rw[aj l,u]at a⊢;have m:=aF4 b.t ⟨(vI _).1 g,h.t.few,h.t.rows⟩;have r:=akE b.t h.t;have j:qC b.t≠[]:=λe=>a ⟨trivial,e⟩;refine⟨?_,aA,by simp only;omega,λc=>?_⟩
  ·have n:¬b.t.length=0:=λe=>l (kP e);unfold nD;simp[eF,j,vV,m,n,l]
  ·simp only[setB,zZ,m]
 |num k=>
  simp only[bC]at a⊢;have f:¬qV b k=0:=λe=>a ⟨e,trivial⟩;refine⟨by unfold nD;simp[eF,f,vV],?_,aA,λc=>?_⟩
  ·have q:=h.body;unfold qV;split<;>first|exact q.id|exact q.min|exact q.max|exact q.chosen|exact q.flags|exact q.cost|exact q.priority|exact q.deadline|exact q.retry|exact q.epoch|exact q.base|exact q.digest|exact q.lag|exact q.code|exact q.want
  ·rcases k with _|_|_|_|_|_|_|_|_|_|_|_|_|_|k<;>rfl
def abY(b:aQ):∀(l:List dU),kT b l=0->∀s∈l,qA b s.name=0
 |[],_,s,a=>by cases a
 |x::l,h,s,a=>by
  unfold kT at h;split at h
  ·rename_i h0
   rcases bH.1 a with rfl|a
   ·exact h0
   ·exact abY b l h s a
  ·rename_i h0
   exact absurd h h0
def azg(b:aQ)(p:Pl)(h:jv b p=true):(bC b p).1=0/\(bC b p).2=[]:=by
 cases p with
 |rem=>simp only[jv,decide_eq_true_iff]at h;simp[bC,h,zz]
 |allow=>simp only[jv,yB]at h;simp[bC,h]
 |num k=>simp only[jv,decide_eq_true_iff]at h;simp[bC,h]
 |_=>simp only[jv,decide_eq_true_iff]at h;simp[bC,h]
def apj{b:aQ}{k:List aK}{v:Int}(h:fE b k v=0){n:Q0}{p:Pl}(f:placeOf n=some p)(g:¬((bC b p).1=0/\(bC b p).2=[])):nU b p=0:=by
 unfold fE at h;split at h;· cases h
 split at h;· cases h
 split at h;· cases h
 split at h;· cases h
 rename_i a
 split at h
 ·rename_i c;exact absurd h c
 rename_i c
 have c:kT b (aT b.kind v)=0:=by simpa using c
 have a:iH.all (λn=>rF (aT b.kind v) n ||oU b n)=true:=by rw[Y9]at a;exact a
 have d:=List.all_eq_true.1 a n (AX n p f).2.2;have l:oU b n=jv b p:=by unfold oU;rw[f]
 rw[l]at d;cases j:jv b p with
 |true=>exact absurd (azg b p j) g
 |false=>
  rw[j,MF]at d;unfold rF at d;rw[List.any_eq_true]at d;obtain⟨s,m,e⟩:=d;have e:s.name=n:=by simpa using e
  have i:=abY b _ c s m;unfold qA at i;rw[e,f]at i;exact i
