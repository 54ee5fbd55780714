/- What the trees compute: plain laws. -/
import Derived.Test.YtcnekfnipdihgaaGreatDoorKVe3
set_option linter.all false
namespace Go.Proofs.YtcnekfnipdihgaaGreatDoor
open Go Go.aP
set_option maxRecDepth 100000
namespace V
noncomputable def eG (p:Prop):Bool:=@decide p (Classical.propDecidable p)
def nD{p:Prop}(h:p):eG p=true:=@GL p (Classical.propDecidable p) h
def lG{p:Prop}(h:¬p):eG p=false:=@Et p (Classical.propDecidable p) h
def N8{p q:Prop}(h:p↔q):eG p=eG q:=by rw[propext h]
def sZ(t y n:Int)(s:Q2)(k:List aK):GV:=.g [.zu t,.zq y,.zu n,.s s,.l (aI k)]
@[simp] theorem aGR(t y n:Int)(s:Q2)(k:List aK):(sZ t y n s k).cells=[.zu t,.zq y,.zu n,.s s,.l (aI k)]:=rfl
def G7{l:List aK}{i:Nat}(h:i<l.length):∃t y n s k,l[i]? =some (.mk t y n s k)/\(aI l)[i]? =some (sZ t y n s k)/\l.drop i=.mk t y n s k::l.drop (i+1)/\aK.mk t y n s k∈l:=by
 have a:(aI l)[i]? =some (qJ l[i]):=by rw[Dc,iO,bV h];rfl
 have b:=iG h;have c:=gY h;have d:=bV h;cases e:l[i]with
 |mk t y n s k=>rw[e]at a b c d;exact⟨t,y,n,s,k,d,by rw[a];simp only[qJ];rfl,b,c⟩
def vH:List aK->List aK->Option (List (List aK×List aK))
 |.mk t y n s k::a,.mk d e f g c::b=>if t=d/\y=e/\n=f/\s=g then(vH a b).map λr=>(if k.length=0/\c.length=0 then[]else[(k,c)])++r else none
 |_,_=>some []
def lu(q:List aK×List aK):GV:=.g [.l (aI q.1),.l (aI q.2)]
@[simp] theorem aH9(q:List aK×List aK):(lu q).cells=[.l (aI q.1),.l (aI q.2)]:=rfl
def vC:List (List aK×List aK)->Nat
 |[]=>0
 |q::l=>dO q.1+1+vC l
def Xr:∀(a b:List (List aK×List aK)),vC (a++b)=vC a+vC b
 |[],b=>by simp[vC]
 |q::a,b=>by simp only[bg,vC,Xr a b];omega
def ajK:∀(a:List (List aK×List aK)),a.length<=vC a
 |[]=>by simp[vC]
 |q::a=>by have:=ajK a;simp only[ig,vC];omega
def okP(q:List aK×List aK):Prop:=fB q.1/\fB q.2/\q.1.length<=1000000/\q.2.length<=1000000
def akW:∀(a b:List aK),a.length=b.length->fB a->fB b->(match vH a b with
 |none=>a≠b
 |some f=>((∀q∈f,q.1=q.2)↔a=b)/\vC f<=dO a/\∀q∈f,okP q)
 |[],[],_,_,_=>by simp[vH,vC]
 |[],_::_,e,_,_=>by simp at e
 |_::_,[],e,_,_=>by simp at e
 |.mk t y n s k::a,.mk v w x z A::b,e,g,i=>by
  simp only[fB,uG]at g i;have j:=akW a b (by simpa using e) g.2 i.2;unfold vH;by_cases l:t=v/\y=w/\n=x/\s=z
  ·rw[au l];obtain⟨rfl,rfl,rfl,rfl⟩:=l;cases p:vH a b with
   |none=>
    rw[p]at j;simp only[aeZ];intro h;injection h with c d
    exact j d
   |some f=>
    rw[p]at j;obtain⟨r,J,u⟩:=j;simp only[iH];by_cases m:k.length=0/\A.length=0
    ·rw[au m];have B:=jT m.1;have D:=jT m.2;subst B;subst D;refine⟨by simpa using r,by simp only[aW,dO,wR];omega,by simpa using u⟩
    ·rw[aj m];refine⟨?_,by simp only[bg,aW,vC,dO,wR];omega,λq o=>?_⟩
     ·simp only[bg,aW,bJ,forall_eq_or_imp,r];constructor
      ·rintro⟨c,d⟩;rw[c,d]
      ·intro h;injection h with c d
       injection c with _ _ _ _ E
       exact⟨E,d⟩
     ·simp only[bg,aW,bJ]at o;rcases o with rfl|o
      ·exact⟨g.1.2,i.1.2,g.1.1.2.2.2.2.2.2.2,i.1.1.2.2.2.2.2.2.2⟩
      ·exact u q o
  ·rw[aj l];intro h;injection h with c d
   injection c with F G H I _
   exact l ⟨F,G,H,I⟩
def aaO(a b:List aK)(S:a.length=b.length)(B:a.length<=1000000)(T:fB a)(U:fB b):∀(m i:Nat)(c:List (List aK×List aK)),i+m=a.length->c.length+m<=4000000->
 TT.lim 218 [.l (c.map lu),.zq a.length,.zq i,.l (aI a),.l (aI b)]=some (match vH (a.drop i) (b.drop i)with|none=>[.zq 0]|some g=>[.zq 1,.l ((c++g).map lu)])
 |0,i,c,hi,D=>by have W:a.drop i=[]:=iE;have X:b.drop i=[]:=iE;have h:¬((i:Int)<a.length):=ah;rw[W,X];simp only[vH,lQ];generalize c.map lu=A at *;refine aB ?_;simp[h]
 |m+1,i,c,hi,D=>by
  obtain⟨t,y,n,s,k,g1,q,Y,g4⟩:=G7 (l:=a) (i:=i) ah;obtain⟨Z,y',n',s',j,aa,f,N,ab⟩:=G7 (l:=b) (i:=i) ah;have v:=bI ((i:Int)+1);have h:((i:Int)<a.length):=ah;have o:((i+1:Nat):Int)=(i:Int)+1:=ah;have E:=qh k;have F:=qh j;rw[Y,N];unfold vH;by_cases p:t=Z;rotate_left
  ·rw[aj λh=>p h.1];refine aB ?_;simp[h,q,f,p]
  by_cases u:y=y';rotate_left
  ·rw[aj λh=>u h.2.1];refine aB ?_;simp[h,q,f,p,u]
  by_cases w:n=n';rotate_left
  ·rw[aj λh=>w h.2.2.1];refine aB ?_;simp[h,q,f,p,u,w]
  by_cases z:s=s';rotate_left
  ·rw[aj λh=>z h.2.2.2];refine aB ?_;simp[h,q,f,p,u,w,z]
  rw[au ⟨p,u,w,z⟩];by_cases M:k.length=0/\j.length=0
  ·rw[au M];have d:=aaO a b S B T U m (i+1) c ah ah;rw[o]at d;have G:=jT M.1;have H:=jT M.2;have O:(match Option.map (λr=>[]++r) (vH (a.drop (i+1)) (b.drop (i+1)))with|none=>[GV.zq 0]|some g=>[GV.zq 1,GV.l ((c++g).map lu)])=(match vH (a.drop (i+1)) (b.drop (i+1))with|none=>[GV.zq 0]|some g=>[GV.zq 1,GV.l ((c++g).map lu)]):=by cases vH (a.drop (i+1)) (b.drop (i+1))<;>simp
   rw[O];generalize(match vH (a.drop (i+1)) (b.drop (i+1))with|none=>[GV.zq 0]|some g=>[GV.zq 1,GV.l ((c++g).map lu)])=R,c.map lu=A at *;refine aB ?_;simp[h,q,f,p,u,w,z,G,H,aI,v,d]
  ·rw[aj M];have d:=aaO a b S B T U m (i+1) (c++[(k,j)]) ah (by simp;omega);rw[o]at d;have O:(match Option.map (λr=>[(k,j)]++r) (vH (a.drop (i+1)) (b.drop (i+1)))with|none=>[GV.zq 0]|some g=>[GV.zq 1,GV.l ((c++g).map lu)])=(match vH (a.drop (i+1)) (b.drop (i+1))with|none=>[GV.zq 0]|some g=>[GV.zq 1,GV.l ((c++[(k,j)]++g).map lu)]):=by cases vH (a.drop (i+1)) (b.drop (i+1))<;>simp
   rw[O];generalize(match vH (a.drop (i+1)) (b.drop (i+1))with|none=>[GV.zq 0]|some g=>[GV.zq 1,GV.l ((c++[(k,j)]++g).map lu)])=R at *;have I:(c++[(k,j)]).map lu=c.map lu++[.g [.l (aI k),.l (aI j)]]:=by simp[lu]
   rw[I]at d;have J:2*((c.map lu).length+1)*48<=281474976710656/\(c.map lu).length+1<=281474976710656:=by rw[gG];omega
   generalize c.map lu=A at *;have L:A.length<=281474976710655:=ah;by_cases P:k.length=0;rotate_left
   ·have G:0<k.length:=ah;have Q:k≠[]:=λe=>by rw[e]at P;exact P rfl
    have x:GV.gu 2 (.g [.l (aI k),.l (aI j)])=true:=rfl;refine aB ?_;simp[h,q,f,p,u,w,z,E,F,G,Q,v,d,x,J,L]
   ·have G:=jT P;have H:0<j.length:=ah;have Q:j≠[]:=λe=>by rw[e]at H;exact absurd H aA
    subst G;have x:GV.gu 2 (.g [.l [],.l (aI j)])=true:=rfl;simp only[aI,sZ]at d q E;refine aB ?_;simp[h,q,f,p,u,w,z,F,H,Q,v,d,x,J,L]
def ahF:∀(N:Nat)(c:List (List aK×List aK)),vC c<N->vC c<=2000000->(∀q∈c,okP q)->TT.lim 217 [.l (c.map lu)]=some [.zq (if eG (∀q∈c,q.1=q.2)=true then 1 else 0)]
 |0,c,v,_,_=>ah
 |N+1,c,v,I,o=>by
  rcases am9 c with rfl|⟨d,q,rfl⟩
  ·have O:eG (∀q∈([]:List (List aK×List aK)),q.1=q.2)=true:=nD aA;rw[O];refine aB ?_;simp
  ·rw[am8]at *;obtain⟨a,b⟩:=q;have i:=o (a,b) aA;obtain⟨w,y,J,P⟩:=i;simp only at w y J P;have L:=ajK d;rw[Xr]at v I;simp only[vC]at v I;have j:=qh a;have k:=qh b;have p:(d++[(a,b)]).map lu=d.map lu++[lu (a,b)]:=aA;have l:(d.map lu).length=d.length:=gG ..;have e:∀x∈d.map lu,x.cells.length=2:=by intro x Q;obtain⟨r,_,rfl⟩:=su.1 Q;rfl
   have f:=aaO a b;have z:(0:Int)<(d.length:Int)+1:=ah;have D:(d.length:Int)+1-1=d.length:=ah;have E:(d.length:Int)<(d.length:Int)+1:=ah;have F:(d.length:Int)<=(d.length:Int)+1:=ah;have m:=bI ((d.length:Int));rw[p];by_cases G:a.length=b.length;rotate_left
   ·have n:eG (∀q∈d++[(a,b)],q.1=q.2)=false:=lG λh=>G (uD List.length (h (a,b) aA));have t:¬((a.length:Int)=(b.length:Int)):=ah;rw[n];generalize d.map lu=A at *;have s:=eq_true e;clear e;refine aB ?_;simp[l,z,D,E,F,m,lu,j,k,t,s]
   ·have g:=akW a b G w y;have f:=f G J w y a.length 0 d ah ah;rw[dY,dY,show((0:Nat):Int)=0 from rfl]at f;have t:b.length=a.length:=ah;cases M:vH a b with
    |none=>rw[M]at g f;have n:eG (∀q∈d++[(a,b)],q.1=q.2)=false:=lG λh=>g (h (a,b) aA);rw[n];simp only at f;generalize d.map lu=A at *;have W:A.length<281474976710656:=ah;have s:=eq_true e;clear e;refine aB ?_;simp[l,z,D,E,F,m,lu,j,k,t,f,s]
    |some u=>
     rw[M]at g f;obtain⟨S,X,T⟩:=g;have U:=ahF N (d++u) (by rw[Xr];omega) (by rw[Xr];omega) (λq i=>by
      rcases iP.1 i with i|i
      ·exact o q (by simp[i])
      ·exact T q i)
     have H:eG (∀q∈d++[(a,b)],q.1=q.2)=eG (∀q∈d++u,q.1=q.2):=N8 (by simp only[iP,or_imp,forall_and,S,jI,forall_eq])
     rw[H];generalize eG (∀q∈d++u,q.1=q.2)=R at *;simp only at f;generalize(d++u).map lu=B,d.map lu=A at *;have s:=eq_true e;clear e;refine aB ?_;simp[l,z,D,E,F,m,lu,j,k,t,f,s,U]
def aui(a b:List aK)(g:fB a)(i:fB b)(c:a.length<=1000000)(d:b.length<=1000000)(k:dO a<=1000000):TT.lim 216 [.l (aI a),.l (aI b)]=some [.b (eG (a=b))]:=by
 have h:=ahF (dO a+2) [(a,b)] (by simp[vC]) (by simp[vC];omega) (by intro q f;simp at f;subst f;exact⟨g,i,c,d⟩);have e:eG (∀q∈[(a,b)],q.1=q.2)=eG (a=b):=N8 aA;rw[e]at h;have j:[(a,b)].map lu=[.g [.l (aI a),.l (aI b)]]:=rfl;rw[j]at h;refine aV ?_;generalize eG (a=b)=r at *;cases r with
 |true=>simp at h;simp[h]
 |false=>simp at h;simp[h]
mutual
def toFt:aK->Ft
 |.mk t y n s k=>.mk [.int .u64 t,.int .i64 y,.int .u64 n,.string ⟨⟨s⟩⟩] (Lj k)
def Lj:List aK->List Ft
 |[]=>[]
 |f::l=>toFt f::Lj l
end
mutual
def aEH:∀f:aK,EM (toFt f) (qJ f)/\cntF (toFt f)<=wR f
 |.mk t y n s k=>by have h:=adU k;simp only[toFt,EM,qJ,cntF,wR];exact⟨⟨_,_,_,_,_,rfl,rfl,h.1⟩,ah⟩
def adU:∀l:List aK,rM (Lj l) (aI l)/\pY (Lj l)<=dO l
 |[]=>by simp only[Lj,rM,aI,pY,dO];exact⟨trivial,dK _⟩
 |f::l=>by have h1:=aEH f;have a:=adU l;simp only[Lj,rM,aI,pY,dO];exact⟨⟨_,_,rfl,h1.1,a.1⟩,ah⟩
end
def VP(l:List aK)(a:dO l<=1000000):TT.lim 127 [.l (aI l)]=some [.l (aI l)]:=by refine BN (Ds:=Ds) (k:=127) (f:=Nz) rfl ?_;have h:=adU l;unfold Nz;exact au ⟨Lj l,h.1,ah⟩
def ajC(b:aQ)(l:List aK)(t:List Row)(p:t.length<=1000)(n:∀r∈t,r.1.length<=40):∀(m i:Nat),i+m=t.length->
 TT.lim 188 [.l ((t.take i).map row),.l (t.map row),.zq t.length,.zq i,.zq b.kind,.zu b.id,.zu b.min,.zu b.max,.zu b.chosen,.zu b.flags,.zu b.cost,.zu b.priority,.zu b.deadline,.zu b.retry,.zu b.epoch,.zu b.base,.zu b.digest,.zu b.lag,.zu b.code,.zu b.want,.zq b.remaining,.b b.allowed,.s b.name,.s b.region,.s b.note,.l (b.d.map ent),.l (aI l)]=some [.zq 0,.l (t.map row)]
 |0,i,hi=>by have h0:t.take i=t:=lS ah;have h:¬((i:Int)<t.length):=ah;rw[h0];refine aB ?_;simp[h]
 |m+1,i,hi=>by
  have a:i<t.length:=ah;have o:=ajC b l t p n m (i+1) ah;have h:((i:Int)<t.length):=ah;have c:((i+1:Nat):Int)=(i:Int)+1:=ah;have e:=bI ((i:Int)+1);have q:(t.map row)[i]? =some (row t[i]):=by rw[iO,bV a];rfl
  have s:=GH t[i].1 (n _ (gY a));have d:GV.g [.l (t[i].1.map ent),.zu t[i].2]=row t[i]:=rfl;have f:(t.take (i+1)).map row=(t.take i).map row++[row t[i]]:=by rw[Ue,bV a,nP];rfl
  rw[f,c]at o;have g:(row t[i]).gu 2=true:=rfl;have j:2*(((t.take i).map row).length+1)*32<=281474976710656:=by simp;omega
  have k:((t.take i).map row).length<=281474976710655:=by simp;omega
  generalize(t.take i).map row=A,t.map row=L at *;refine aB ?_;simp[h,q,s,d,g,j,k,e,o]
def axj(b:aQ)(a:List aK)(i:b.d.length<=40)(c:bZ b.t)(j:dO a<=1000000):TT.lim 187 [jc b (aI a)]=some [jc b (aI a)]:=by
 have d:∀r∈b.t,r.1.length<=40:=λr k=>by have:=c.few r k;unfold iY at this;rw[aO,decide_eq_true_iff]at this;exact this.2
 have e:=ajC b a b.t (by have:=c.len;omega) d b.t.length 0 ah;have p:=c.len;rw[Uh,show((0:Nat):Int)=0 from rfl]at e;have l:=GH b.d i;have m:=VP a j;have f:((b.t.map row).length:Int)=b.t.length:=aA;have g:(32:Int)*b.t.length<=281474976710656:=ah;have h:(b.t.length:Int)<=1152921504606846976:=ah;have n:b.t.length<=8796093022208:=ah;simp only[jU]at e;generalize o:b.t.map row=L at *;refine aV ?_;unfold jc;rw[o];simp[f,e,l,m,GV.gu,g,h];try omega
def FX(n:Int):Int:=if n%2=0 then n/2 else -(n/2)-1
def aFY(n:Int)(h0:0<=n)(h1:n<18446744073709551616):dh .and .u64 n 1=some (.zu (n%2))/\dh .xor .i64 (IntKind.i64.wrap (n/2)) (IntKind.i64.wrap (0-IntKind.i64.wrap (n%2)))=some (.zq (FX n))/\n.fdiv 2=n/2:=by
 have a:∀y:Int,IntKind.u64.wrap y=y%18446744073709551616:=λy=>by simp[IntKind.wrap,IntKind.signed,IntKind.bits]
 have b:IntKind.u64.bits=64:=rfl;have hi:IntKind.i64.bits=64:=rfl;refine⟨?_,?_,F5 _ aU⟩
 ·simp only[dh,a,b];have e:(BitVec.ofInt 64 n &&& BitVec.ofInt 64 1).toNat=(BitVec.ofInt 64 n).toNat%2:=by rw[Y0];exact Nat.and_one_is_mod _
  show some (GV.i IntKind.u64 (((BitVec.ofInt 64 n &&& BitVec.ofInt 64 1).toNat:Int)%18446744073709551616))=_
  rw[e,vS];congr 2;omega
 ·rw[wrap64 ah ah,bI (n%2),wrap64 ah ah];simp only[dh,hi];unfold FX;by_cases h:n%2=0
  ·rw[au h,h];have e:BitVec.ofInt 64 (0-0)=0#64:=rfl;show some (GV.i IntKind.i64 (IntKind.i64.wrap ((BitVec.ofInt 64 (n/2) ^^^ BitVec.ofInt 64 (0-0)).toNat:Int)))=_
   rw[e,BitVec.xor_zero,vS];congr 2;rw[wrap64 ah ah];omega
  ·rw[aj h,(ah:n%2=1)];have e:BitVec.ofInt 64 (0-1)=BitVec.allOnes 64:=aU;show some (GV.i IntKind.i64 (IntKind.i64.wrap ((BitVec.ofInt 64 (n/2) ^^^ BitVec.ofInt 64 (0-1)).toNat:Int)))=_
   rw[e,aek,aei,vS];congr 2;have c:∀y:Int,IntKind.i64.wrap y=if y%18446744073709551616>=9223372036854775808 then y%18446744073709551616-18446744073709551616 else y%18446744073709551616:=λy=>by simp[IntKind.wrap,IntKind.signed,IntKind.bits]
   rw[c];split<;>omega
def setB(b:aQ)(n:Int)(s:Q2):Pl->aQ
 |.rem=>{b with remaining:=FX n}
 |.allow=>{b with allowed:=true}
 |.name=>{b with name:=s}
 |.region=>{b with region:=s}
 |.note=>{b with note:=s}
 |.d=>{b with d:=(sU s).1}
 |.t=>{b with t:=(tK s).1}
 |.num k=>match k with
  |0=>{b with id:=n}
  |1=>{b with min:=n}
  |2=>{b with max:=n}
  |3=>{b with chosen:=n}
  |4=>{b with flags:=n}
  |5=>{b with cost:=n}
  |6=>{b with priority:=n}
  |7=>{b with deadline:=n}
  |8=>{b with retry:=n}
  |9=>{b with epoch:=n}
  |10=>{b with base:=n}
  |11=>{b with digest:=n}
  |12=>{b with lag:=n}
  |13=>{b with code:=n}
  |_=>{b with want:=n}
def vK(n:Int)(s:Q2):Pl->Int
 |.allow=>if n=1 then 0 else 18
 |.name=>qX s 0 256
 |.region=>qX s 0 256
 |.note=>qX s 0 256
 |.d=>(sU s).2
 |.t=>if(tK s).2=0 then(if(tK s).1.length=0 then 17 else 0)else(tK s).2
 |_=>0
def mJ(ty n:Int)(s:Q2)(p:Pl):Int:=if ty=dZ p then(if ty=0 then(if n=0 then 17 else vK n s p)else(if s=[]then 17 else vK n s p))else 8
def awG(u:Int):TT.lim 190 [.zq u]=some [.zq (if u=0 then 0 else if u=1 then 0 else if u=2 then 0 else if u=3 then 1 else if u=4 then 1 else if u=5 then 1 else -1)]:=by
 refine aV ?_;by_cases a:u=0
 ·simp[a]
 by_cases b:u=1
 ·simp[b]
 by_cases c:u=2
 ·simp[c]
 by_cases d:u=3
 ·simp[d]
 by_cases e:u=4
 ·simp[e]
 by_cases f:u=5
 ·simp[f]
 simp[a,b,c,d,e,f]
def tC(b:aQ):Q3:=[.zu b.id,.zu b.min,.zu b.max,.zu b.chosen,.zu b.flags,.zu b.cost,.zu b.priority,.zu b.deadline,.zu b.retry,.zu b.epoch,.zu b.base,.zu b.digest,.zu b.lag,.zu b.code,.zu b.want,.zq b.remaining,.b b.allowed,.s b.name,.s b.region,.s b.note,.l (b.d.map ent),.l (b.t.map row)]
def Zk(b:aQ)(r:Q3)(tag ty n:Int)(s:Q2)(L:GV)(c:Q2)(p:Pl):Prop:=∃a:aQ,TT.lim 189 [.s c,.zu tag,.zq ty,.zu n,.s s,L,.zq b.kind,.zu b.id,.zu b.min,.zu b.max,.zu b.chosen,.zu b.flags,.zu b.cost,.zu b.priority,.zu b.deadline,.zu b.retry,.zu b.epoch,.zu b.base,.zu b.digest,.zu b.lag,.zu b.code,.zu b.want,.zq b.remaining,.b b.allowed,.s b.name,.s b.region,.s b.note,.l (b.d.map ent),.l (b.t.map row),.l r]=some ([.zq 0,.zq (mJ ty n s p)]++tC a)/\(mJ ty n s p=0->a=setB b n s p)
set_option maxHeartbeats 8000000 in
def aDk(b:aQ)(r:Q3)(tag ty n:Int)(s:Q2)(L:GV)(w:0<=n/\n<18446744073709551616)(x:s.length<=100000000){o:Q2}{p:Pl}(q:placeOf o=some p):Zk b r tag ty n s L o p:=by
 unfold Zk;have g:=awG;have i:=WR q;have k:=(Aj o p q).2.1;clear q;by_cases h1:ty=dZ p;rotate_left
 ·have e:mJ ty n s p=8:=by unfold mJ;rw[aj h1]
  refine⟨b,?_,λh=>by rw[e]at h;cases h⟩;rw[e];clear e;induction p,k using Ox<;>(simp only[dZ]at h1;refine aB ?_;simp[i,tC,g,h1])
 subst h1;by_cases f:(dZ p=0/\n=0)\/(dZ p=1/\s=[])
 ·have e:mJ (dZ p) n s p=17:=by
   unfold mJ;rw[au rfl];rcases f with⟨a,c⟩|⟨a,c⟩
   ·rw[au a,au c]
   ·rw[dL,au c]
  refine⟨b,?_,λh=>by rw[e]at h;cases h⟩;rw[e];clear e;induction p,k using Ox<;>(simp[dZ]at f;refine aB ?_;simp[i,tC,g,dZ,f])
 have e:mJ (dZ p) n s p=vK n s p:=by
  unfold mJ;rw[au rfl];by_cases a:dZ p=0
  ·rw[au a,aj λc=>f (.inl ⟨a,c⟩)]
  ·rw[aj a,aj λc=>f (.inr ⟨by cases p<;>simp[dZ]at a⊢,c⟩)]
 rw[e];clear e;induction p,k using Ox
 case h0=>
  have f:¬n=0:=by simpa[dZ]using f
  obtain⟨z,y,A⟩:=aFY n w.1 w.2;refine⟨{b with remaining:=FX n},?_,λ_=>rfl⟩;show _=some ([GV.zq 0,GV.zq 0]++_)
  refine aB ?_;simp only[Int.zero_sub]at y;simp[i,tC,g,dZ,f,kM,IntKind.bits,z,y,A]
 case h1=>
  have f:¬n=0:=by simpa[dZ]using f
  by_cases j:n=1
  ·have v:vK n s .allow=0:=by unfold vK;rw[au j]
   rw[v];refine⟨{b with allowed:=true},?_,λ_=>rfl⟩;refine aB ?_;simp[i,tC,g,dZ,f,j]
  ·have v:vK n s .allow=18:=by unfold vK;rw[aj j]
   rw[v];refine⟨b,?_,λh=>by cases h⟩;refine aB ?_;simp[i,tC,g,dZ,f,j]
 case h5=>
  have f:¬s=[]:=by simpa[dZ]using f
  have l:=agS s x;refine⟨{b with d:=(sU s).1},?_,λ_=>rfl⟩;show _=some ([GV.zq 0,GV.zq (sU s).2]++_)
  refine aB ?_;simp[i,tC,g,dZ,f,l]
 case h6=>
  have f:¬s=[]:=by simpa[dZ]using f
  have l:=aEN s x;refine⟨{b with t:=(tK s).1},?_,λ_=>rfl⟩;unfold vK;by_cases j:(tK s).2=0
  ·rw[au j];by_cases m:(tK s).1.length=0
   ·have h5:=jT m;rw[au m];refine aB ?_;simp[i,tC,g,dZ,f,l,j,h5]
   ·have h5:(tK s).1≠[]:=λe=>m (by rw[e];rfl);rw[aj m];refine aB ?_;simp[i,tC,g,dZ,f,l,j,h5]
  ·rw[aj j];refine aB ?_;simp[i,tC,g,dZ,f,l,j]
 all_goals first
  |(have f:¬s=[]:=by simpa[dZ]using f
    have l:=Gz s 0 256 ah;refine⟨setB b n s _,?_,λ_=>rfl⟩;show _=some ([GV.zq 0,GV.zq (qX s 0 256)]++_)
    generalize qX s 0 256=u at *;refine aB ?_;simp[i,tC,setB,g,dZ,f,l];done)
  |(have f:¬n=0:=by simpa[dZ]using f
    refine⟨setB b n s _,?_,λ_=>rfl⟩;show _=some ([GV.zq 0,GV.zq 0]++_)
    refine aB ?_;simp[i,tC,setB,g,dZ,f])
def gJ:aQ:={kind:=0,id:=0,min:=0,max:=0,chosen:=0,flags:=0,cost:=0,priority:=0,deadline:=0,retry:=0,epoch:=0,base:=0,digest:=0,lag:=0,code:=0,want:=0,remaining:=0,allowed:=false,name:=[],region:=[],note:=[],d:=[],t:=[]}
def aec(b:aQ)(r:Q3)(ty n:Int)(s:Q2)(p:Pl):Q3:=if mJ ty n s p=0 then[jc (setB b n s p) r,.zq 0]else[jc gJ [],.zq (mJ ty n s p)]
def aeb(b:aQ)(r:Q3)(ty n:Int)(s a:Q2):Q3:=match placeOf a with
 |some p=>aec b r ty n s p
 |none=>[jc gJ [],.zq 26]
def alJ(b:aQ)(n:Int)(s:Q2)(p:Pl):(setB b n s p).kind=b.kind:=by unfold setB;split<;>first|rfl|(split<;>rfl)
def aDn(b:aQ)(r:Q3)(tag ty n:Int)(s:Q2)(L:GV){a:Q2}(c:placeOf a=none):TT.lim 189 [.s a,.zu tag,.zq ty,.zu n,.s s,L,.zq b.kind,.zu b.id,.zu b.min,.zu b.max,.zu b.chosen,.zu b.flags,.zu b.cost,.zu b.priority,.zu b.deadline,.zu b.retry,.zu b.epoch,.zu b.base,.zu b.digest,.zu b.lag,.zu b.code,.zu b.want,.zq b.remaining,.b b.allowed,.s b.name,.s b.region,.s b.note,.l (b.d.map ent),.l (b.t.map row),.l r]=some ([.zq 0,.zq 26]++tC b):=by have d:=aiH c;refine aB ?_;simp[tC,d]
def aDj(b:aQ)(r:Q3)(tag ty n:Int)(s:Q2)(L:GV)(d:0<=n/\n<18446744073709551616)(e:s.length<=100000000)(a:Q2):(∃p,placeOf a=some p/\Zk b r tag ty n s L a p)\/(placeOf a=none/\TT.lim 189 [.s a,.zu tag,.zq ty,.zu n,.s s,L,.zq b.kind,.zu b.id,.zu b.min,.zu b.max,.zu b.chosen,.zu b.flags,.zu b.cost,.zu b.priority,.zu b.deadline,.zu b.retry,.zu b.epoch,.zu b.base,.zu b.digest,.zu b.lag,.zu b.code,.zu b.want,.zq b.remaining,.b b.allowed,.s b.name,.s b.region,.s b.note,.l (b.d.map ent),.l (b.t.map row),.l r]=some ([.zq 0,.zq 26]++tC b)):=by
 cases c:placeOf a with
 |some p=>exact .inl ⟨p,rfl,aDk b r tag ty n s L d e c⟩
 |none=>exact .inr ⟨rfl,aDn b r tag ty n s L c⟩
def axX(K:Q3)(b:aQ)(c:List aK)(k:b.d.length<=40)(l:bZ b.t)(f:dO c<=1000000)(tag ty n:Int)(s:Q2)(m:0<=n/\n<18446744073709551616)(o:s.length<=100000000)(g:Q2):
 TT.lim 186 [jc b (aI c),.s g,.g [.zu tag,.zq ty,.zu n,.s s,.l K]]=some (aeb b (aI c) ty n s g):=by
 have h:=axj b c k l f;have q:=aDj b (aI c) tag ty n s (.l K) m o g;generalize aI c=r at *;have j:GV.g [.zq 0,.zu 0,.zu 0,.zu 0,.zu 0,.zu 0,.zu 0,.zu 0,.zu 0,.zu 0,.zu 0,.zu 0,.zu 0,.zu 0,.zu 0,.zu 0,.zq 0,.b false,.s [],.s [],.s [],.l [],.l [],.l []]=jc gJ []:=rfl;unfold aeb;rcases q with⟨p,i,x,a,t⟩|⟨i,a⟩
 ·rw[i];simp only;unfold aec;have u:=alJ b n s p;generalize mJ ty n s p=e at *;by_cases d:e=0
  ·have v:=t d;rw[au d];rw[d,v]at a;have w:jc (setB b n s p) r=GV.g ([.zq b.kind]++tC (setB b n s p)++[.l r]):=by rw[<-u];rfl
   rw[w];generalize setB b n s p=B at *;unfold tC at a⊢;refine aV ?_;simp[lJ,h];simp[a]
  ·rw[aj d];unfold tC at a;rw[<-j];refine aV ?_;simp[lJ,h];simp[a,d]
 ·rw[i];simp only;unfold tC at a;rw[<-j];refine aV ?_;simp[lJ,h];simp[a]
def dw(b c:aQ):Pl->Prop
 |.rem=>b.remaining=c.remaining
 |.allow=>b.allowed=c.allowed
 |.name=>b.name=c.name
 |.region=>b.region=c.region
 |.note=>b.note=c.note
 |.d=>b.d=c.d
 |.t=>b.t=c.t
 |.num k=>qp b k=qp c k
def oH(b c:aQ)(d e:Q3)(f:Nat)(n:Q2)(p:Prop):Prop:=∀(a:Q3)(L K:Int)(i:Nat),(i:Int)<L->a[i]? =some (.s n)->IntKind.i64.wrap ((i:Int)+1)=(i:Int)+1->TT.lim f ([.l a,.zq L,.zq ((i:Int)+1)]++(jc c e).cells++(jc b d).cells)=some [.zq K]->TT.lim f ([.l a,.zq L,.zq i]++(jc c e).cells++(jc b d).cells)=some [.zq (if eG p=true then K else 0)]
def axC(b c:aQ)(j k:Q3):oH b c j k 209 Ko (dw b c (.num 0)):=by
 intro l L K i h a g f;rw[fD,fD]at f⊢;simp only[bg,aW]at f⊢;unfold Ko at a;by_cases d:b.id=c.id
 ·have e:eG (dw b c (.num 0))=true:=nD d;rw[e];replace d:=eq_true d
  refine aB ?_;simp[h,a,d,g,f]
 ·have e:eG (dw b c (.num 0))=false:=lG d;rw[e];refine aB ?_;simp[h,a,d,g]
def axF(b c:aQ)(j k:Q3):oH b c j k 209 Kt (dw b c (.num 1)):=by
 intro l L K i h a g f;rw[fD,fD]at f⊢;simp only[bg,aW]at f⊢;unfold Kt at a;by_cases d:b.min=c.min
 ·have e:eG (dw b c (.num 1))=true:=nD d;rw[e];replace d:=eq_true d
  refine aB ?_;simp[h,a,d,g,f]
 ·have e:eG (dw b c (.num 1))=false:=lG d;rw[e];refine aB ?_;simp[h,a,d,g]
def axE(b c:aQ)(j k:Q3):oH b c j k 209 Kr (dw b c (.num 2)):=by
 intro l L K i h a g f;rw[fD,fD]at f⊢;simp only[bg,aW]at f⊢;unfold Kr at a;by_cases d:b.max=c.max
 ·have e:eG (dw b c (.num 2))=true:=nD d;rw[e];replace d:=eq_true d
  refine aB ?_;simp[h,a,d,g,f]
 ·have e:eG (dw b c (.num 2))=false:=lG d;rw[e];refine aB ?_;simp[h,a,d,g]
def axu(b c:aQ)(j k:Q3):oH b c j k 209 J4 (dw b c (.num 3)):=by
 intro l L K i h a g f;rw[fD,fD]at f⊢;simp only[bg,aW]at f⊢;unfold J4 at a;by_cases d:b.chosen=c.chosen
 ·have e:eG (dw b c (.num 3))=true:=nD d;rw[e];replace d:=eq_true d
  refine aB ?_;simp[h,a,d,g,f]
 ·have e:eG (dw b c (.num 3))=false:=lG d;rw[e];refine aB ?_;simp[h,a,d,g]
def axB(b c:aQ)(j k:Q3):oH b c j k 209 J9 (dw b c (.num 4)):=by
 intro l L K i h a g f;rw[fD,fD]at f⊢;simp only[bg,aW]at f⊢;unfold J9 at a;by_cases d:b.flags=c.flags
 ·have e:eG (dw b c (.num 4))=true:=nD d;rw[e];replace d:=eq_true d
  refine aB ?_;simp[h,a,d,g,f]
 ·have e:eG (dw b c (.num 4))=false:=lG d;rw[e];refine aB ?_;simp[h,a,d,g]
def axw(b c:aQ)(j k:Q3):oH b c j k 209 J5 (dw b c (.num 5)):=by
 intro l L K i h a g f;rw[fD,fD]at f⊢;simp only[bg,aW]at f⊢;unfold J5 at a;by_cases d:b.cost=c.cost
 ·have e:eG (dw b c (.num 5))=true:=nD d;rw[e];replace d:=eq_true d
  refine aB ?_;simp[h,a,d,g,f]
 ·have e:eG (dw b c (.num 5))=false:=lG d;rw[e];refine aB ?_;simp[h,a,d,g]
def axJ(b c:aQ)(j k:Q3):oH b c j k 209 Kv (dw b c (.num 6)):=by
 intro l L K i h a g f;rw[fD,fD]at f⊢;simp only[bg,aW]at f⊢;unfold Kv at a;by_cases d:b.priority=c.priority
 ·have e:eG (dw b c (.num 6))=true:=nD d;rw[e];replace d:=eq_true d
  refine aB ?_;simp[h,a,d,g,f]
 ·have e:eG (dw b c (.num 6))=false:=lG d;rw[e];refine aB ?_;simp[h,a,d,g]
def axx(b c:aQ)(j k:Q3):oH b c j k 209 J6 (dw b c (.num 7)):=by
 intro l L K i h a g f;rw[fD,fD]at f⊢;simp only[bg,aW]at f⊢;unfold J6 at a;by_cases d:b.deadline=c.deadline
 ·have e:eG (dw b c (.num 7))=true:=nD d;rw[e];replace d:=eq_true d
  refine aB ?_;simp[h,a,d,g,f]
 ·have e:eG (dw b c (.num 7))=false:=lG d;rw[e];refine aB ?_;simp[h,a,d,g]
def axM(b c:aQ)(j k:Q3):oH b c j k 209 Kz (dw b c (.num 8)):=by
 intro l L K i h a g f;rw[fD,fD]at f⊢;simp only[bg,aW]at f⊢;unfold Kz at a;by_cases d:b.retry=c.retry
 ·have e:eG (dw b c (.num 8))=true:=nD d;rw[e];replace d:=eq_true d
  refine aB ?_;simp[h,a,d,g,f]
 ·have e:eG (dw b c (.num 8))=false:=lG d;rw[e];refine aB ?_;simp[h,a,d,g]
def axA(b c:aQ)(j k:Q3):oH b c j k 209 BK (dw b c (.num 9)):=by
 intro l L K i h a g f;rw[fD,fD]at f⊢;simp only[bg,aW]at f⊢;unfold BK at a;by_cases d:b.epoch=c.epoch
 ·have e:eG (dw b c (.num 9))=true:=nD d;rw[e];replace d:=eq_true d
  refine aB ?_;simp[h,a,d,g,f]
 ·have e:eG (dw b c (.num 9))=false:=lG d;rw[e];refine aB ?_;simp[h,a,d,g]
def axt(b c:aQ)(j k:Q3):oH b c j k 209 J3 (dw b c (.num 10)):=by
 intro l L K i h a g f;rw[fD,fD]at f⊢;simp only[bg,aW]at f⊢;unfold J3 at a;by_cases d:b.base=c.base
 ·have e:eG (dw b c (.num 10))=true:=nD d;rw[e];replace d:=eq_true d
  refine aB ?_;simp[h,a,d,g,f]
 ·have e:eG (dw b c (.num 10))=false:=lG d;rw[e];refine aB ?_;simp[h,a,d,g]
def axz(b c:aQ)(j k:Q3):oH b c j k 209 J8 (dw b c (.num 11)):=by
 intro l L K i h a g f;rw[fD,fD]at f⊢;simp only[bg,aW]at f⊢;unfold J8 at a;by_cases d:b.digest=c.digest
 ·have e:eG (dw b c (.num 11))=true:=nD d;rw[e];replace d:=eq_true d
  refine aB ?_;simp[h,a,d,g,f]
 ·have e:eG (dw b c (.num 11))=false:=lG d;rw[e];refine aB ?_;simp[h,a,d,g]
def axD(b c:aQ)(j k:Q3):oH b c j k 209 Kq (dw b c (.num 12)):=by
 intro l L K i h a g f;rw[fD,fD]at f⊢;simp only[bg,aW]at f⊢;unfold Kq at a;by_cases d:b.lag=c.lag
 ·have e:eG (dw b c (.num 12))=true:=nD d;rw[e];replace d:=eq_true d
  refine aB ?_;simp[h,a,d,g,f]
 ·have e:eG (dw b c (.num 12))=false:=lG d;rw[e];refine aB ?_;simp[h,a,d,g]
def axv(b c:aQ)(j k:Q3):oH b c j k 209 BJ (dw b c (.num 13)):=by
 intro l L K i h a g f;rw[fD,fD]at f⊢;simp only[bg,aW]at f⊢;unfold BJ at a;by_cases d:b.code=c.code
 ·have e:eG (dw b c (.num 13))=true:=nD d;rw[e];replace d:=eq_true d
  refine aB ?_;simp[h,a,d,g,f]
 ·have e:eG (dw b c (.num 13))=false:=lG d;rw[e];refine aB ?_;simp[h,a,d,g]
def axP(b c:aQ)(j k:Q3):oH b c j k 209 Dt (dw b c (.num 14)):=by
 intro l L K i h a g f;rw[fD,fD]at f⊢;simp only[bg,aW]at f⊢;unfold Dt at a;by_cases d:b.want=c.want
 ·have e:eG (dw b c (.num 14))=true:=nD d;rw[e];replace d:=eq_true d
  refine aB ?_;simp[h,a,d,g,f]
 ·have e:eG (dw b c (.num 14))=false:=lG d;rw[e];refine aB ?_;simp[h,a,d,g]
def axL(b c:aQ)(j k:Q3):oH b c j k 209 Ky (dw b c .rem):=by
 intro l L K i h a g f;rw[fD,fD]at f⊢;simp only[bg,aW]at f⊢;unfold Ky at a;by_cases d:b.remaining=c.remaining
 ·have e:eG (dw b c .rem)=true:=nD d;rw[e];replace d:=eq_true d
  refine aB ?_;simp[h,a,d,g,f]
 ·have e:eG (dw b c .rem)=false:=lG d;rw[e];refine aB ?_;simp[h,a,d,g]
def axr(b c:aQ)(j k:Q3):oH b c j k 209 JZ (dw b c .allow):=by
 intro l L K i h a g f;rw[fD,fD]at f⊢;simp only[bg,aW]at f⊢;unfold JZ at a;by_cases d:b.allowed=c.allowed
 ·have e:eG (dw b c .allow)=true:=nD d;rw[e];replace d:=eq_true d
  refine aB ?_;simp[h,a,d,g,f]
 ·have e:eG (dw b c .allow)=false:=lG d;rw[e];refine aB ?_;simp[h,a,d,g]
def axG(b c:aQ)(j k:Q3):oH b c j k 209 Ku (dw b c .name):=by
 intro l L K i h a g f;rw[fD,fD]at f⊢;simp only[bg,aW]at f⊢;unfold Ku at a;by_cases d:b.name=c.name
 ·have e:eG (dw b c .name)=true:=nD d;rw[e];replace d:=eq_true d
  refine aB ?_;simp[h,a,d,g,f]
 ·have e:eG (dw b c .name)=false:=lG d;rw[e];refine aB ?_;simp[h,a,d,g]
def axK(b c:aQ)(j k:Q3):oH b c j k 209 Kw (dw b c .region):=by
 intro l L K i h a g f;rw[fD,fD]at f⊢;simp only[bg,aW]at f⊢;unfold Kw at a;by_cases d:b.region=c.region
 ·have e:eG (dw b c .region)=true:=nD d;rw[e];replace d:=eq_true d
  refine aB ?_;simp[h,a,d,g,f]
 ·have e:eG (dw b c .region)=false:=lG d;rw[e];refine aB ?_;simp[h,a,d,g]
def axH(b c:aQ)(j k:Q3):oH b c j k 209 ET (dw b c .note):=by
 intro l L K i h a g f;rw[fD,fD]at f⊢;simp only[bg,aW]at f⊢;unfold ET at a;by_cases d:b.note=c.note
 ·have e:eG (dw b c .note)=true:=nD d;rw[e];replace d:=eq_true d
  refine aB ?_;simp[h,a,d,g,f]
 ·have e:eG (dw b c .note)=false:=lG d;rw[e];refine aB ?_;simp[h,a,d,g]
def axy(b c:aQ)(m n:Q3)(f:b.d.length<=140737488351232)(g:c.d.length<=140737488351232):oH b c m n 209 J7 (dw b c .d):=by
 intro o L K i h a l j;rw[fD,fD]at j⊢;simp only[bg,aW]at j⊢;unfold J7 at a;have k:=ahi b.d c.d f g;by_cases d:b.d=c.d
 ·have e:eG (dw b c .d)=true:=nD d;rw[e];rw[GL d]at k;refine aB ?_;simp[h,a,k,l,j]
 ·have e:eG (dw b c .d)=false:=lG d;rw[e];rw[Et d]at k;refine aB ?_;simp[h,a,k,l]
def axO(b c:aQ)(m n:Q3)(f:bZ b.t)(g:bZ c.t):oH b c m n 209 KA (dw b c .t):=by
 intro o L K i h a l j;rw[fD,fD]at j⊢;simp only[bg,aW]at j⊢;unfold KA at a;have k:=X9 b.t c.t f g;by_cases d:b.t=c.t
 ·have e:eG (dw b c .t)=true:=nD d;rw[e];rw[GL d]at k;refine aB ?_;simp[h,a,k,l,j]
 ·have e:eG (dw b c .t)=false:=lG d;rw[e];rw[Et d]at k;refine aB ?_;simp[h,a,k,l]
def ajO:iR=[JZ,J3,J4,BJ,J5,J6,J7,J8,BK,J9,Ko,Kq,Kr,Kt,Ku,ET,Kv,Kw,Ky,Kz,KA,Dt]:=rfl
def axN(b c:aQ)(a d:Q3)(e:b.d.length<=140737488351232)(f:c.d.length<=140737488351232)(g:bZ b.t)(h:bZ c.t):∀n∈iR,∃p,placeOf n=some p/\oH b c a d 209 n (dw b c p):=by
 intro n i;rw[ajO]at i;simp only[bJ,IQ,or_false]at i;rcases i with rfl|rfl|rfl|rfl|rfl|rfl|rfl|rfl|rfl|rfl|rfl|rfl|rfl|rfl|rfl|rfl|rfl|rfl|rfl|rfl|rfl|rfl
 ·exact⟨_,akm,axr b c a d⟩
 ·exact⟨_,akn,axt b c a d⟩
 ·exact⟨_,ako,axu b c a d⟩
 ·exact⟨_,akp,axv b c a d⟩
 ·exact⟨_,akq,axw b c a d⟩
 ·exact⟨_,akr,axx b c a d⟩
 ·exact⟨_,aks,axy b c a d e f⟩
 ·exact⟨_,akt,axz b c a d⟩
 ·exact⟨_,aku,axA b c a d⟩
 ·exact⟨_,akv,axB b c a d⟩
 ·exact⟨_,akw,axC b c a d⟩
 ·exact⟨_,akx,axD b c a d⟩
 ·exact⟨_,aky,axE b c a d⟩
 ·exact⟨_,akz,axF b c a d⟩
 ·exact⟨_,akA,axG b c a d⟩
 ·exact⟨_,akB,axH b c a d⟩
 ·exact⟨_,akC,axJ b c a d⟩
 ·exact⟨_,akD,axK b c a d⟩
 ·exact⟨_,akE,axL b c a d⟩
 ·exact⟨_,akF,axM b c a d⟩
 ·exact⟨_,akG,axO b c a d g h⟩
 ·exact⟨_,akH,axP b c a d⟩
def alB(b c:aQ)(k l:Q3)(f:Nat)(Q:Pl->Prop)(a:∀(w:Q3)(L:Int)(i:Nat),¬(i:Int)<L->TT.lim f ([.l w,.zq L,.zq i]++(jc c l).cells++(jc b k).cells)=some [.zq 1])(t:∀n∈iR,∃p,placeOf n=some p/\oH b c k l f n (Q p)):∀m i:Nat,i+m=iR.length->
 TT.lim f ([.l (iR.map .s),.zq iR.length,.zq i]++(jc c l).cells++(jc b k).cells)=some [.zq (if eG (∀n∈iR.drop i,∀p,placeOf n=some p->Q p)=true then 1 else 0)]
 |0,i,hi=>by have e:eG (∀n∈iR.drop i,∀p,placeOf n=some p->Q p)=true:=nD (by rw[iE];simp);rw[e];exact a _ _ i ah
 |m+1,i,hi=>by
  have d:i<iR.length:=ah;have x:iR.length=22:=rfl;have y:=bI ((i:Int)+1);have u:=alB b c k l f Q a t m (i+1) ah;obtain⟨p,v,r⟩:=t _ (gY d);have s:(iR.map GV.s)[i]? =some (.s iR[i]):=by rw[iO,bV d];rfl
  have g:((i+1:Nat):Int)=(i:Int)+1:=ah;rw[g]at u;have z:=r _ _ _ i ah s y u;rw[z,iG d];have j:(∀n∈iR[i]::iR.drop (i+1),∀p,placeOf n=some p->Q p)↔(Q p/\∀n∈iR.drop (i+1),∀p,placeOf n=some p->Q p):=by
   simp only[bJ,forall_eq_or_imp];constructor
   ·exact λh=>⟨h.1 p v,h.2⟩
   ·intro h;refine⟨λq j=>?_,h.2⟩;rw[v]at j;injection j with j
    rw[<-j];exact h.1
  rw[N8 j];by_cases o:Q p
  ·rw[nD o,au rfl];have:eG (Q p/\∀n∈iR.drop (i+1),∀p,placeOf n=some p->Q p)=eG (∀n∈iR.drop (i+1),∀p,placeOf n=some p->Q p):=N8 ⟨λh=>h.2,λh=>⟨o,h⟩⟩;rw[this]
  ·rw[lG o,aj aU,lG λh=>o h.1,aj aU]
def parts_all(b c:aQ)(D:b.kind=c.kind):(∀n∈iR,∀p,placeOf n=some p->dw b c p)↔b=c:=by
 constructor
 ·intro h;rw[ajO]at h;have a:∀{n:Q2}{p:Pl},n∈[JZ,J3,J4,BJ,J5,J6,J7,J8,BK,J9,Ko,Kq,Kr,Kt,Ku,ET,Kv,Kw,Ky,Kz,KA,Dt]->placeOf n=some p->dw b c p:=λE F=>h _ E _ F;have d:=a aA akE;have e:=a aA akm;have f:=a aA akA;have g:=a aA akD;have i:=a aA akB;have j:=a aA aks;have k:=a aA akG;have l:=a aA akw;have m:=a aA akz;have o:=a aA aky;have q:=a aA ako;have r:=a aA akv;have s:=a aA akq;have t:=a aA akC;have u:=a aA akr;have v:=a aA akF;have w:=a aA aku;have x:=a aA akn;have y:=a aA akt;have z:=a aA akx;have A:=a aA akp;have B:=a aA akH;clear h a;cases b;cases c;simp only[dw,qp]at *;subst D;subst d;subst e;subst f;subst g;subst i;subst j;subst k;subst l;subst m;subst o;subst q;subst r;subst s;subst t;subst u;subst v;subst w;subst x;subst y;subst z;subst A;subst B;rfl
 ·rintro rfl n _ p _
  cases p<;>simp[dw]
def axI(b c:aQ)(a fc:List aK)(t:b.d.length<=40)(v:c.d.length<=40)(l:bZ b.t)(m:bZ c.t)(n:fB a)(o:fB fc)(p:a.length<=1000000)(q:fc.length<=1000000)(r:dO a<=1000000):TT.lim 208 [jc b (aI a),jc c (aI fc)]=some [.b (eG (b=c/\a=fc))]:=by
 have w:=aui a fc n o p q r;have s:=ajL;have d:=alB b c (aI a) (aI fc) 209 (dw b c) (λx L i h=>by rw[fD,fD];simp only[bg,aW];refine aB ?_;simp[h]) (axN b c (aI a) (aI fc) ah ah l m) iR.length 0 ah
 have j:((iR.map GV.s).length:Int)=(iR.length:Int):=by rw[gG]
 rw[dY]at d;rw[fD,fD]at d;simp only[bg,aW,rY]at d;by_cases g:b.kind=c.kind;rotate_left
 ·rw[lG λh=>g (by rw[h.1])];refine aV ?_;simp[g]
 have k:=parts_all b c g;replace g:(b.kind=c.kind)=True:=eq_true g
 rw[N8 k]at d;clear k;generalize iR.map GV.s=x,(iR.length:Int)=L at *;by_cases f:b=c
 ·rw[nD f]at d;have e:eG (b=c/\a=fc)=eG (a=fc):=N8 ⟨λh=>h.2,λh=>⟨f,h⟩⟩;rw[e];generalize eG (a=fc)=u at *;simp only[if_true]at d;refine aV ?_;simp[g,s,j,d,w]
 ·rw[lG f]at d;rw[lG λh=>f h.1];simp only[iJ,if_false]at d;refine aV ?_;simp[g,s,j,d]
def aFZ{n:Int}(a:0<=n/\n<18446744073709551616): -9223372036854775808<=FX n/\FX n<=9223372036854775807:=by unfold FX;split<;>omega
def alI{b:aQ}{n:Int}{s:Q2}{p:Pl}{ty:Int}(a:vP b)(c:iY b.d=true)(e:bZ b.t)(i:0<=n/\n<18446744073709551616)(j:s.length<=100000000)(h:mJ ty n s p=0):vP (setB b n s p)/\iY (setB b n s p).d=true/\bZ (setB b n s p).t:=by
 have l:vK n s p=0:=by
  unfold mJ at h;split at h
  ·split at h<;>split at h<;>first|exact h|exact absurd h aU
  ·exact absurd h aU
 cases p with
 |rem=>exact⟨{a with remaining:=aFZ i},c,e⟩
 |allow=>exact⟨{a with},c,e⟩
 |name=>exact⟨{a with name:=by show s.length<=_;omega},c,e⟩
 |region=>exact⟨{a with region:=by show s.length<=_;omega},c,e⟩
 |note=>exact⟨{a with note:=by show s.length<=_;omega},c,e⟩
 |d=>have g:=agU (s:=s) l j;exact⟨{a with d:=g.ents},g.few,e⟩
 |t=>have g:=(aEP (s:=s) j).1;exact⟨{a with t:=g.rows},c,g.good⟩
 |num k=>
  unfold setB;split<;>rename_i f
  ·exact absurd f aA
  ·exact absurd f aA
  ·exact absurd f aA
  ·exact absurd f aA
  ·exact absurd f aA
  ·exact absurd f aA
  ·exact absurd f aA
  ·split<;>exact⟨by constructor<;>first|exact i|exact a.kind|exact a.id|exact a.min|exact a.max|exact a.chosen|exact a.flags|exact a.cost|exact a.priority|exact a.deadline|exact a.retry|exact a.epoch|exact a.base|exact a.digest|exact a.lag|exact a.code|exact a.want|exact a.remaining|exact a.name|exact a.region|exact a.note|exact a.d|exact a.t,c,e⟩
structure sF(b:aQ)(fl:List aK):Prop where
 body:vP b
 d:iY b.d=true
 t:bZ b.t
 f8:fB fl
 len:fl.length<=1000000
def Iy:sF gJ []:=⟨by constructor<;>simp[gJ,tX,Rows],by simp[gJ,iY],⟨by simp[gJ],by intro r a;simp[gJ]at a,by simp[gJ,Rows]⟩,by simp only[fB],aA⟩
def sF.axq{b c:aQ}{a fc:List aK}(h:sF b a)(k:sF c fc)(e:dO a<=1000000):TT.lim 208 [jc b (aI a),jc c (aI fc)]=some [.b (eG (b=c/\a=fc))]:=axI b c a fc (EC h.d) (EC k.d) h.t k.t h.f8 k.f8 h.len k.len e
def axU(b:aQ)(r:Q3)(c:vP b)(d:iY b.d=true)(e:yS b.t)(n:Q2):(∃p,placeOf n=some p/\TT.lim 118 [jc b r,.s n]=some [.g [.zu 0,.zq (dZ p),.zu (bC b p).1,.s (bC b p).2,.l []],.b true])\/
 (placeOf n=none/\TT.lim 118 [jc b r,.s n]=some [.g [.zu 0,.zq 0,.zu 0,.s [],.l []],.b false]):=by
 cases a:placeOf n with
 |some p=>exact .inl ⟨p,rfl,axT b r c (λ_=>d) (λ_=>e) a⟩
 |none=>exact .inr ⟨rfl,axW b r a⟩
def axV{b:aQ}{c:List aK}(h:sF b c){n:Q2}{p:Pl}(d:placeOf n=some p):TT.lim 118 [jc b (aI c),.s n]=some [.g [.zu 0,.zq (dZ p),.zu (bC b p).1,.s (bC b p).2,.l []],.b true]:=by
 rcases axU b (aI c) h.body h.d h.t.few n with⟨q,a,e⟩|⟨a,-⟩
 ·rw[d]at a;injection a with a
  rw[a];exact e
 ·rw[d]at a;cases a
def zF(b c:aQ):Pl->aQ
 |.rem=>{c with remaining:=b.remaining}
 |.allow=>{c with allowed:=b.allowed}
 |.name=>{c with name:=b.name}
 |.region=>{c with region:=b.region}
 |.note=>{c with note:=b.note}
 |.d=>{c with d:=b.d}
 |.t=>{c with t:=b.t}
 |.num k=>match k with
  |0=>{c with id:=b.id}
  |1=>{c with min:=b.min}
  |2=>{c with max:=b.max}
  |3=>{c with chosen:=b.chosen}
  |4=>{c with flags:=b.flags}
  |5=>{c with cost:=b.cost}
  |6=>{c with priority:=b.priority}
  |7=>{c with deadline:=b.deadline}
  |8=>{c with retry:=b.retry}
  |9=>{c with epoch:=b.epoch}
  |10=>{c with base:=b.base}
  |11=>{c with digest:=b.digest}
  |12=>{c with lag:=b.lag}
  |13=>{c with code:=b.code}
  |_=>{c with want:=b.want}
def azW(b c:aQ)(p:Pl):(zF b c p).kind=c.kind:=by unfold zF;split<;>first|rfl|(split<;>rfl)
def azX(b c:aQ)(j k:Nat)(d:k<15)(e:j<15)(a:j≠k):qp (zF b c (.num k)) j=qp c j:=by
 rcases k with _|_|_|_|_|_|_|_|_|_|_|_|_|_|_|k
 all_goals first|(exfalso;omega)|skip
 all_goals (rcases j with _|_|_|_|_|_|_|_|_|_|_|_|_|_|_|j)<;>first|rfl|exact absurd rfl a|(exfalso;omega)
def aF0(x:Int)(h: -9223372036854775808<=x/\x<=9223372036854775807):FX (zz x)=x:=by unfold FX zz;split<;>split<;>omega
def aFX(x:Int)(h: -9223372036854775808<=x/\x<=9223372036854775807):0<=zz x/\zz x<18446744073709551616:=by unfold zz;split<;>omega
def ake(t:List Row)(a:bZ t):(qy t).length<=90000000:=by
 have h:=adk t [] (λr b=>⟨a.few r b,(a.rows.2 r b).2⟩);have c:=a.len;have d:(aS t.length).length<=20:=by have:=oU (n:=t.length) ah;omega
 unfold qy;rw[dM];have:40000*t.length<=40000*300:=Zh _ c;omega
def aDl{b:aQ}{v:List aK}(h:sF b v)(x:b.name.length<=600/\b.region.length<=600/\b.note.length<=600)(p:Pl)(g:nJ b p=0)(a:¬((bC b p).1=0/\(bC b p).2=[])):
 mJ (dZ p) (bC b p).1 (bC b p).2 p=0/\(0<=(bC b p).1/\(bC b p).1<18446744073709551616)/\(bC b p).2.length<=100000000/\∀c,setB c (bC b p).1 (bC b p).2 p=zF b c p:=by
 cases p with
 |rem=>have o:=h.body.remaining;have w:=aF0 b.remaining o;have r:=aFX b.remaining o;simp only[bC]at a⊢;have f:¬zz b.remaining=0:=λe=>a ⟨e,trivial⟩;refine⟨by unfold mJ;simp[dZ,f,vK],r,aA,λc=>?_⟩;simp only[setB,w,zF]
 |allow=>
  simp only[bC]at a⊢;cases s:b.allowed with
  |false=>rw[s]at a;exact absurd ⟨rfl,trivial⟩ a
  |true=>refine⟨by unfold mJ;simp[dZ,vK],aA,aA,λc=>?_⟩;simp only[setB,zF,s]
 |name=>simp only[bC]at a⊢;have f:¬b.name=[]:=λe=>a ⟨trivial,e⟩;simp only[nJ]at g;refine⟨by unfold mJ;simp[dZ,f,vK,g],aA,ah,λc=>rfl⟩
 |region=>simp only[bC]at a⊢;have f:¬b.region=[]:=λe=>a ⟨trivial,e⟩;simp only[nJ]at g;refine⟨by unfold mJ;simp[dZ,f,vK,g],aA,ah,λc=>rfl⟩
 |note=>simp only[bC]at a⊢;have f:¬b.note=[]:=λe=>a ⟨trivial,e⟩;simp only[nJ]at g;refine⟨by unfold mJ;simp[dZ,f,vK,g],aA,ah,λc=>rfl⟩
 |d=>
  simp only[bC]at a⊢;have i:b.d≠[]:=λe=>a ⟨trivial,by rw[au e]⟩;simp only[nJ,aj i]at g;have m:=agT b.d g;have u:=Ry h.d;have j:dN b.d≠[]:=λe=>a ⟨trivial,by rw[aj i];exact e⟩;rw[aj i];refine⟨?_,aA,ah,λc=>?_⟩
  ·unfold mJ;simp[dZ,j,vK,m]
  ·simp only[setB,zF,m]
 |t=>
  simp only[bC]at a⊢;have l:b.t≠[]:=λe=>a ⟨trivial,by rw[au e]⟩;simp only[nJ]at g;have u:E8 b.t=(qy b.t,0):=by unfold E8;rw[aj (by simpa using g)]
  rw[aj l,u]at a⊢;have m:=aEO b.t ⟨(xu _).1 g,h.t.few,h.t.rows⟩;have r:=ake b.t h.t;have j:qy b.t≠[]:=λe=>a ⟨trivial,e⟩;refine⟨?_,aA,by simp only;omega,λc=>?_⟩
  ·have n:¬b.t.length=0:=λe=>l (jT e);unfold mJ;simp[dZ,j,vK,m,n,l]
  ·simp only[setB,zF,m]
 |num k=>
  simp only[bC]at a⊢;have f:¬qp b k=0:=λe=>a ⟨e,trivial⟩;refine⟨by unfold mJ;simp[dZ,f,vK],?_,aA,λc=>?_⟩
  ·have q:=h.body;unfold qp;split<;>first|exact q.id|exact q.min|exact q.max|exact q.chosen|exact q.flags|exact q.cost|exact q.priority|exact q.deadline|exact q.retry|exact q.epoch|exact q.base|exact q.digest|exact q.lag|exact q.code|exact q.want
  ·rcases k with _|_|_|_|_|_|_|_|_|_|_|_|_|_|k<;>rfl
def abP(b:aQ):∀(l:List eF),oN b l=0->∀s∈l,yH b s.name=0
 |[],_,s,a=>by cases a
 |x::l,h,s,a=>by
  unfold oN at h;split at h
  ·rename_i h0
   rcases bJ.1 a with rfl|a
   ·exact h0
   ·exact abP b l h s a
  ·rename_i h0
   exact absurd h h0
def aye(b:aQ)(p:Pl)(h:jk b p=true):(bC b p).1=0/\(bC b p).2=[]:=by
 cases p with
 |rem=>simp only[jk,decide_eq_true_iff]at h;simp[bC,h,zz]
 |allow=>simp only[jk,wU]at h;simp[bC,h]
 |num k=>simp only[jk,decide_eq_true_iff]at h;simp[bC,h]
 |_=>simp only[jk,decide_eq_true_iff]at h;simp[bC,h]
def aoG{b:aQ}{k:List aK}{v:Int}(h:gK b k v=0){n:Q2}{p:Pl}(f:placeOf n=some p)(g:¬((bC b p).1=0/\(bC b p).2=[])):nJ b p=0:=by
 unfold gK at h;split at h;· cases h
 split at h;· cases h
 split at h;· cases h
 split at h;· cases h
 rename_i a
 split at h
 ·rename_i c;exact absurd h c
 rename_i c
 have c:oN b (aZ b.kind v)=0:=by simpa using c
 have a:iR.all (λn=>uZ (aZ b.kind v) n ||qR b n)=true:=by rw[Y2]at a;exact a
 have d:=List.all_eq_true.1 a n (Aj n p f).2.2;have l:qR b n=jk b p:=by unfold qR;rw[f]
 rw[l]at d;cases j:jk b p with
 |true=>exact absurd (aye b p j) g
 |false=>
  rw[j,LM]at d;unfold uZ at d;rw[List.any_eq_true]at d;obtain⟨s,m,e⟩:=d;have e:s.name=n:=by simpa using e
  have i:=abP b _ c s m;unfold yH at i;rw[e,f]at i;exact i
