/- What the trees compute: plain laws. -/
import Derived.Test.YtkoclengoeonnaaGreatDoorKQe3
set_option linter.all false
namespace Go.Proofs.YtkoclengoeonnaaGreatDoor
open Go Go.aP
set_option maxRecDepth 100000
namespace Q
noncomputable def dL (p:Prop):Bool:=@decide p (Classical.propDecidable p)
def lK{p:Prop}(h:p):dL p=true:=@DN p (Classical.propDecidable p) h
def kJ{p:Prop}(h:¬p):dL p=false:=@Iy p (Classical.propDecidable p) h
def L8{p q:Prop}(h:p↔q):dL p=dL q:=by rw[propext h]
def qO(t y n:Int)(s:Q0)(k:List aK):GV:=.g [.zu t,.zq y,.zu n,.s s,.l (aI k)]
@[simp] theorem aDj(t y n:Int)(s:Q0)(k:List aK):(qO t y n s k).cells=[.zu t,.zq y,.zu n,.s s,.l (aI k)]:=rfl
def FY{l:List aK}{i:Nat}(h:i<l.length):∃t y n s k,l[i]? =some (.mk t y n s k)/\(aI l)[i]? =some (qO t y n s k)/\l.drop i=.mk t y n s k::l.drop (i+1)/\aK.mk t y n s k∈l:=by
 have a:(aI l)[i]? =some (pq l[i]):=by rw[BK,jf,bT h];rfl
 have b:=gW h;have c:=iq h;have d:=bT h;cases e:l[i]with
 |mk t y n s k=>rw[e]at a b c d;exact⟨t,y,n,s,k,d,by rw[a];simp only[pq];rfl,b,c⟩
def tH:List aK->List aK->Option (List (List aK×List aK))
 |.mk t y n s k::a,.mk d e f g c::b=>if t=d/\y=e/\n=f/\s=g then(tH a b).map λr=>(if k.length=0/\c.length=0 then[]else[(k,c)])++r else none
 |_,_=>some []
def kD(q:List aK×List aK):GV:=.g [.l (aI q.1),.l (aI q.2)]
@[simp] theorem aEC(q:List aK×List aK):(kD q).cells=[.l (aI q.1),.l (aI q.2)]:=rfl
def sW:List (List aK×List aK)->Nat
 |[]=>0
 |q::l=>dA q.1+1+sW l
def Vo:∀(a b:List (List aK×List aK)),sW (a++b)=sW a+sW b
 |[],b=>by simp[sW]
 |q::a,b=>by simp only[bI,sW,Vo a b];omega
def ahO:∀(a:List (List aK×List aK)),a.length<=sW a
 |[]=>by simp[sW]
 |q::a=>by have:=ahO a;simp only[iF,sW];omega
def okP(q:List aK×List aK):Prop:=dX q.1/\dX q.2/\q.1.length<=1000000/\q.2.length<=1000000
def aiO:∀(a b:List aK),a.length=b.length->dX a->dX b->(match tH a b with
 |none=>a≠b
 |some f=>((∀q∈f,q.1=q.2)↔a=b)/\sW f<=dA a/\∀q∈f,okP q)
 |[],[],_,_,_=>by simp[tH,sW]
 |[],_::_,e,_,_=>by simp at e
 |_::_,[],e,_,_=>by simp at e
 |.mk t y n s k::a,.mk v w x z A::b,e,g,i=>by
  simp only[dX,uK]at g i;have j:=aiO a b (by simpa using e) g.2 i.2;unfold tH;by_cases l:t=v/\y=w/\n=x/\s=z
  ·rw[au l];obtain⟨rfl,rfl,rfl,rfl⟩:=l;cases p:tH a b with
   |none=>
    rw[p]at j;simp only[adx];intro h;injection h with c d
    exact j d
   |some f=>
    rw[p]at j;obtain⟨r,J,u⟩:=j;simp only[gU];by_cases m:k.length=0/\A.length=0
    ·rw[au m];have B:=jR m.1;have D:=jR m.2;subst B;subst D;refine⟨by simpa using r,by simp only[bf,dA,uZ];omega,by simpa using u⟩
    ·rw[aj m];refine⟨?_,by simp only[bI,bf,sW,dA,uZ];omega,λq o=>?_⟩
     ·simp only[bI,bf,bJ,forall_eq_or_imp,r];constructor
      ·rintro⟨c,d⟩;rw[c,d]
      ·intro h;injection h with c d
       injection c with _ _ _ _ E
       exact⟨E,d⟩
     ·simp only[bI,bf,bJ]at o;rcases o with rfl|o
      ·exact⟨g.1.2,i.1.2,g.1.1.2.2.2.2.2.2.2,i.1.1.2.2.2.2.2.2.2⟩
      ·exact u q o
  ·rw[aj l];intro h;injection h with c d
   injection c with F G H I _
   exact l ⟨F,G,H,I⟩
def Y5(a b:List aK)(T:a.length=b.length)(B:a.length<=1000000)(U:dX a)(V:dX b):∀(m i:Nat)(c:List (List aK×List aK)),i+m=a.length->c.length+m<=4000000->
 TT.lim 187 [.l (c.map kD),.zq a.length,.zq i,.l (aI a),.l (aI b)]=some (match tH (a.drop i) (b.drop i)with|none=>[.zq 0]|some g=>[.zq 1,.l ((c++g).map kD)])
 |0,i,c,hi,D=>by have W:a.drop i=[]:=gJ;have X:b.drop i=[]:=gJ;have h:¬((i:Int)<a.length):=ah;rw[W,X];simp only[tH,qZ];generalize c.map kD=A at *;refine aB ?_;simp[h]
 |m+1,i,c,hi,D=>by
  obtain⟨t,y,n,s,k,g1,q,g3,g4⟩:=FY (l:=a) (i:=i) ah;obtain⟨Y,Z,n',s',j,aa,f,N,ab⟩:=FY (l:=b) (i:=i) ah;have v:=bD ((i:Int)+1);have h:((i:Int)<a.length):=ah;have o:((i+1:Nat):Int)=(i:Int)+1:=ah;have E:=oK k;have F:=oK j;rw[g3,N];unfold tH;by_cases p:t=Y;rotate_left
  ·rw[aj λh=>p h.1];refine aB ?_;simp[h,q,f,p]
  by_cases u:y=Z;rotate_left
  ·rw[aj λh=>u h.2.1];refine aB ?_;simp[h,q,f,p,u]
  by_cases w:n=n';rotate_left
  ·rw[aj λh=>w h.2.2.1];refine aB ?_;simp[h,q,f,p,u,w]
  by_cases z:s=s';rotate_left
  ·rw[aj λh=>z h.2.2.2];refine aB ?_;simp[h,q,f,p,u,w,z]
  rw[au ⟨p,u,w,z⟩];by_cases M:k.length=0/\j.length=0
  ·rw[au M];have d:=Y5 a b T B U V m (i+1) c ah ah;rw[o]at d;have G:=jR M.1;have H:=jR M.2;have O:(match Option.map (λr=>[]++r) (tH (a.drop (i+1)) (b.drop (i+1)))with|none=>[GV.zq 0]|some g=>[GV.zq 1,GV.l ((c++g).map kD)])=(match tH (a.drop (i+1)) (b.drop (i+1))with|none=>[GV.zq 0]|some g=>[GV.zq 1,GV.l ((c++g).map kD)]):=by cases tH (a.drop (i+1)) (b.drop (i+1))<;>simp
   rw[O];generalize(match tH (a.drop (i+1)) (b.drop (i+1))with|none=>[GV.zq 0]|some g=>[GV.zq 1,GV.l ((c++g).map kD)])=R,c.map kD=A at *;refine aB ?_;simp[h,q,f,p,u,w,z,G,H,aI,v,d]
  ·rw[aj M];have d:=Y5 a b T B U V m (i+1) (c++[(k,j)]) ah (by simp;omega);rw[o]at d;have O:(match Option.map (λr=>[(k,j)]++r) (tH (a.drop (i+1)) (b.drop (i+1)))with|none=>[GV.zq 0]|some g=>[GV.zq 1,GV.l ((c++g).map kD)])=(match tH (a.drop (i+1)) (b.drop (i+1))with|none=>[GV.zq 0]|some g=>[GV.zq 1,GV.l ((c++[(k,j)]++g).map kD)]):=by cases tH (a.drop (i+1)) (b.drop (i+1))<;>simp
   rw[O];generalize(match tH (a.drop (i+1)) (b.drop (i+1))with|none=>[GV.zq 0]|some g=>[GV.zq 1,GV.l ((c++[(k,j)]++g).map kD)])=R at *;have I:(c++[(k,j)]).map kD=c.map kD++[.g [.l (aI k),.l (aI j)]]:=by simp[kD]
   rw[I]at d;have J:2*((c.map kD).length+1)*48<=281474976710656/\(c.map kD).length+1<=281474976710656:=by rw[iw];omega
   generalize c.map kD=A at *;have L:A.length<=281474976710655:=ah;by_cases P:k.length=0;rotate_left
   ·have G:0<k.length:=ah;have S:k≠[]:=λe=>by rw[e]at P;exact P rfl
    have x:GV.fQ 2 (.g [.l (aI k),.l (aI j)])=true:=rfl;refine aB ?_;simp[h,q,f,p,u,w,z,E,F,G,S,v,d,x,J,L]
   ·have G:=jR P;have H:0<j.length:=ah;have S:j≠[]:=λe=>by rw[e]at H;exact absurd H aA
    subst G;have x:GV.fQ 2 (.g [.l [],.l (aI j)])=true:=rfl;simp only[aI,qO]at d q E;refine aB ?_;simp[h,q,f,p,u,w,z,F,H,S,v,d,x,J,L]
def afY:∀(N:Nat)(c:List (List aK×List aK)),sW c<N->sW c<=2000000->(∀q∈c,okP q)->TT.lim 186 [.l (c.map kD)]=some [.zq (if dL (∀q∈c,q.1=q.2)=true then 1 else 0)]
 |0,c,v,_,_=>ah
 |N+1,c,v,I,o=>by
  rcases akM c with rfl|⟨d,q,rfl⟩
  ·have O:dL (∀q∈([]:List (List aK×List aK)),q.1=q.2)=true:=lK aA;rw[O];refine aB ?_;simp
  ·rw[akL]at *;obtain⟨a,b⟩:=q;have i:=o (a,b) aA;obtain⟨w,y,J,P⟩:=i;simp only at w y J P;have L:=ahO d;rw[Vo]at v I;simp only[sW]at v I;have j:=oK a;have k:=oK b;have p:(d++[(a,b)]).map kD=d.map kD++[kD (a,b)]:=aA;have l:(d.map kD).length=d.length:=iw ..;have e:∀x∈d.map kD,x.cells.length=2:=by intro x S;obtain⟨r,_,rfl⟩:=qK.1 S;rfl
   have f:=Y5 a b;have z:(0:Int)<(d.length:Int)+1:=ah;have D:(d.length:Int)+1-1=d.length:=ah;have E:(d.length:Int)<(d.length:Int)+1:=ah;have F:(d.length:Int)<=(d.length:Int)+1:=ah;have m:=bD ((d.length:Int));rw[p];by_cases G:a.length=b.length;rotate_left
   ·have n:dL (∀q∈d++[(a,b)],q.1=q.2)=false:=kJ λh=>G (uH List.length (h (a,b) aA));have t:¬((a.length:Int)=(b.length:Int)):=ah;rw[n];generalize d.map kD=A at *;have s:=eq_true e;clear e;refine aB ?_;simp[l,z,D,E,F,m,kD,j,k,t,s]
   ·have g:=aiO a b G w y;have f:=f G J w y a.length 0 d ah ah;rw[dD,dD,show((0:Nat):Int)=0 from rfl]at f;have t:b.length=a.length:=ah;cases M:tH a b with
    |none=>rw[M]at g f;have n:dL (∀q∈d++[(a,b)],q.1=q.2)=false:=kJ λh=>g (h (a,b) aA);rw[n];simp only at f;generalize d.map kD=A at *;have W:A.length<281474976710656:=ah;have s:=eq_true e;clear e;refine aB ?_;simp[l,z,D,E,F,m,kD,j,k,t,f,s]
    |some u=>
     rw[M]at g f;obtain⟨T,X,U⟩:=g;have V:=afY N (d++u) (by rw[Vo];omega) (by rw[Vo];omega) (λq i=>by
      rcases ny.1 i with i|i
      ·exact o q (by simp[i])
      ·exact U q i)
     have H:dL (∀q∈d++[(a,b)],q.1=q.2)=dL (∀q∈d++u,q.1=q.2):=L8 (by simp only[ny,or_imp,forall_and,T,oz,forall_eq])
     rw[H];generalize dL (∀q∈d++u,q.1=q.2)=R at *;simp only at f;generalize(d++u).map kD=B,d.map kD=A at *;have s:=eq_true e;clear e;refine aB ?_;simp[l,z,D,E,F,m,kD,j,k,t,f,s,V]
def aq0(a b:List aK)(g:dX a)(i:dX b)(c:a.length<=1000000)(d:b.length<=1000000)(k:dA a<=1000000):TT.lim 185 [.l (aI a),.l (aI b)]=some [.b (dL (a=b))]:=by
 have h:=afY (dA a+2) [(a,b)] (by simp[sW]) (by simp[sW];omega) (by intro q f;simp at f;subst f;exact⟨g,i,c,d⟩);have e:dL (∀q∈[(a,b)],q.1=q.2)=dL (a=b):=L8 aA;rw[e]at h;have j:[(a,b)].map kD=[.g [.l (aI a),.l (aI b)]]:=rfl;rw[j]at h;refine aQ ?_;generalize dL (a=b)=r at *;cases r with
 |true=>simp at h;simp[h]
 |false=>simp at h;simp[h]
mutual
def toFt:aK->Ft
 |.mk t y n s k=>.mk [.int .u64 t,.int .i64 y,.int .u64 n,.string ⟨⟨s⟩⟩] (JQ k)
def JQ:List aK->List Ft
 |[]=>[]
 |f::l=>toFt f::JQ l
end
mutual
def aBl:∀f:aK,Ea (toFt f) (pq f)/\cntF (toFt f)<=uZ f
 |.mk t y n s k=>by have h:=acj k;simp only[toFt,Ea,pq,cntF,uZ];exact⟨⟨_,_,_,_,_,rfl,rfl,h.1⟩,ah⟩
def acj:∀l:List aK,qy (JQ l) (aI l)/\oI (JQ l)<=dA l
 |[]=>by simp only[JQ,qy,aI,oI,dA];exact⟨trivial,cO _⟩
 |f::l=>by have h1:=aBl f;have a:=acj l;simp only[JQ,qy,aI,oI,dA];exact⟨⟨_,_,rfl,h1.1,a.1⟩,ah⟩
end
def Ub(l:List aK)(a:dA l<=1000000):TT.lim 107 [.l (aI l)]=some [.l (aI l)]:=by refine CG (Ds:=Ds) (k:=107) (f:=Ls) rfl ?_;have h:=acj l;unfold Ls;exact au ⟨JQ l,h.1,ah⟩
def ahH(b:aW)(l:List aK)(t:List Row)(p:t.length<=1000)(n:∀r∈t,r.1.length<=40):∀(m i:Nat),i+m=t.length->
 TT.lim 152 [.l ((t.take i).map row),.l (t.map row),.zq t.length,.zq i,.zq b.kind,.zu b.id,.zu b.min,.zu b.max,.zu b.chosen,.zu b.flags,.zu b.cost,.zu b.priority,.zu b.deadline,.zu b.retry,.zu b.epoch,.zu b.base,.zu b.digest,.zu b.lag,.zu b.code,.zu b.want,.zq b.remaining,.b b.allowed,.s b.name,.s b.region,.s b.note,.l (b.d.map ent),.l (aI l)]=some [.zq 0,.l (t.map row)]
 |0,i,hi=>by have h0:t.take i=t:=kQ ah;have h:¬((i:Int)<t.length):=ah;rw[h0];refine aB ?_;simp[h]
 |m+1,i,hi=>by
  have a:i<t.length:=ah;have o:=ahH b l t p n m (i+1) ah;have h:((i:Int)<t.length):=ah;have c:((i+1:Nat):Int)=(i:Int)+1:=ah;have e:=bD ((i:Int)+1);have q:(t.map row)[i]? =some (row t[i]):=by rw[jf,bT a];rfl
  have s:=FK t[i].1 (n _ (iq a));have d:GV.g [.l (t[i].1.map ent),.zu t[i].2]=row t[i]:=rfl;have f:(t.take (i+1)).map row=(t.take i).map row++[row t[i]]:=by rw[Rj,bT a,ng];rfl
  rw[f,c]at o;have g:(row t[i]).fQ 2=true:=rfl;have j:2*(((t.take i).map row).length+1)*32<=281474976710656:=by simp;omega
  have k:((t.take i).map row).length<=281474976710655:=by simp;omega
  generalize(t.take i).map row=A,t.map row=L at *;refine aB ?_;simp[h,q,s,d,g,j,k,e,o]
def auj(b:aW)(a:List aK)(i:b.d.length<=40)(c:gV b.t)(j:dA a<=1000000):TT.lim 151 [iH b (aI a)]=some [iH b (aI a)]:=by
 have d:∀r∈b.t,r.1.length<=40:=λr k=>by have:=c.few r k;unfold iL at this;rw[aO,decide_eq_true_iff]at this;exact this.2
 have e:=ahH b a b.t (by have:=c.len;omega) d b.t.length 0 ah;have p:=c.len;rw[Rl,show((0:Nat):Int)=0 from rfl]at e;have l:=FK b.d i;have m:=Ub a j;have f:((b.t.map row).length:Int)=b.t.length:=aA;have g:(32:Int)*b.t.length<=281474976710656:=ah;have h:(b.t.length:Int)<=1152921504606846976:=ah;have n:b.t.length<=8796093022208:=ah;simp only[jg]at e;generalize o:b.t.map row=L at *;refine aQ ?_;unfold iH;rw[o];simp[f,e,l,m,GV.fQ,g,h];try omega
def J5(n:Int):Int:=if n%2=0 then n/2 else -(n/2)-1
def aCq(n:Int)(h0:0<=n)(h1:n<18446744073709551616):bV .and .u64 n 1=some (.zu (n%2))/\bV .xor .i64 (IntKind.i64.wrap (n/2)) (IntKind.i64.wrap (0-IntKind.i64.wrap (n%2)))=some (.zq (J5 n))/\n.fdiv 2=n/2:=by
 have a:∀y:Int,IntKind.u64.wrap y=y%18446744073709551616:=λy=>by simp[IntKind.wrap,IntKind.signed,IntKind.bits]
 have b:IntKind.u64.bits=64:=rfl;have hi:IntKind.i64.bits=64:=rfl;refine⟨?_,?_,EW _ aX⟩
 ·simp only[bV,a,b];have e:(BitVec.ofInt 64 n &&& BitVec.ofInt 64 1).toNat=(BitVec.ofInt 64 n).toNat%2:=by rw[Xq];exact Nat.and_one_is_mod _
  show some (GV.i IntKind.u64 (((BitVec.ofInt 64 n &&& BitVec.ofInt 64 1).toNat:Int)%18446744073709551616))=_
  rw[e,tY];congr 2;omega
 ·rw[wrap64 ah ah,bD (n%2),wrap64 ah ah];simp only[bV,hi];unfold J5;by_cases h:n%2=0
  ·rw[au h,h];have e:BitVec.ofInt 64 (0-0)=0#64:=rfl;show some (GV.i IntKind.i64 (IntKind.i64.wrap ((BitVec.ofInt 64 (n/2) ^^^ BitVec.ofInt 64 (0-0)).toNat:Int)))=_
   rw[e,BitVec.xor_zero,tY];congr 2;rw[wrap64 ah ah];omega
  ·rw[aj h,(ah:n%2=1)];have e:BitVec.ofInt 64 (0-1)=BitVec.allOnes 64:=aX;show some (GV.i IntKind.i64 (IntKind.i64.wrap ((BitVec.ofInt 64 (n/2) ^^^ BitVec.ofInt 64 (0-1)).toNat:Int)))=_
   rw[e,acS,acQ,tY];congr 2;have c:∀y:Int,IntKind.i64.wrap y=if y%18446744073709551616>=9223372036854775808 then y%18446744073709551616-18446744073709551616 else y%18446744073709551616:=λy=>by simp[IntKind.wrap,IntKind.signed,IntKind.bits]
   rw[c];split<;>omega
def setB(b:aW)(n:Int)(s:Q0):Pl->aW
 |.rem=>{b with remaining:=J5 n}
 |.allow=>{b with allowed:=true}
 |.name=>{b with name:=s}
 |.region=>{b with region:=s}
 |.note=>{b with note:=s}
 |.d=>{b with d:=(sG s).1}
 |.t=>{b with t:=(tN s).1}
 |.num k=>match k with
  |0=>{b with id:=n}
  |1=>{b with min:=n}
  |2=>{b with max:=n}
  |3=>{b with chosen:=n}
  |4=>{b with flags:=n}
  |5=>{b with cost:=n}
  |6=>{b with priority:=n}
  |7=>{b with deadline:=n}
  |8=>{b with retry:=n}
  |9=>{b with epoch:=n}
  |10=>{b with base:=n}
  |11=>{b with digest:=n}
  |12=>{b with lag:=n}
  |13=>{b with code:=n}
  |_=>{b with want:=n}
def Ez(n:Int)(s:Q0):Pl->Int
 |.allow=>if n=1 then 0 else 18
 |.name=>pX s 0 256
 |.region=>pX s 0 256
 |.note=>pX s 0 256
 |.d=>(sG s).2
 |.t=>if(tN s).2=0 then(if(tN s).1.length=0 then 17 else 0)else(tN s).2
 |_=>0
def qU(ty n:Int)(s:Q0)(p:Pl):Int:=if ty=fO p then(if ty=0 then(if n=0 then 17 else Ez n s p)else(if s=[]then 17 else Ez n s p))else 8
def atw(u:Int):TT.lim 154 [.zq u]=some [.zq (if u=0 then 0 else if u=1 then 0 else if u=2 then 0 else if u=3 then 1 else if u=4 then 1 else if u=5 then 1 else -1)]:=by
 refine aQ ?_;by_cases a:u=0
 ·simp[a]
 by_cases b:u=1
 ·simp[b]
 by_cases c:u=2
 ·simp[c]
 by_cases d:u=3
 ·simp[d]
 by_cases e:u=4
 ·simp[e]
 by_cases f:u=5
 ·simp[f]
 simp[a,b,c,d,e,f]
def qP(b:aW):Q1:=[.zu b.id,.zu b.min,.zu b.max,.zu b.chosen,.zu b.flags,.zu b.cost,.zu b.priority,.zu b.deadline,.zu b.retry,.zu b.epoch,.zu b.base,.zu b.digest,.zu b.lag,.zu b.code,.zu b.want,.zq b.remaining,.b b.allowed,.s b.name,.s b.region,.s b.note,.l (b.d.map ent),.l (b.t.map row)]
def XK(b:aW)(r:Q1)(tag ty n:Int)(s:Q0)(L:GV)(c:Q0)(p:Pl):Prop:=∃a:aW,TT.lim 153 [.s c,.zu tag,.zq ty,.zu n,.s s,L,.zq b.kind,.zu b.id,.zu b.min,.zu b.max,.zu b.chosen,.zu b.flags,.zu b.cost,.zu b.priority,.zu b.deadline,.zu b.retry,.zu b.epoch,.zu b.base,.zu b.digest,.zu b.lag,.zu b.code,.zu b.want,.zq b.remaining,.b b.allowed,.s b.name,.s b.region,.s b.note,.l (b.d.map ent),.l (b.t.map row),.l r]=some ([.zq 0,.zq (qU ty n s p)]++qP a)/\(qU ty n s p=0->a=setB b n s p)
set_option maxHeartbeats 8000000 in
def azX(b:aW)(r:Q1)(tag ty n:Int)(s:Q0)(L:GV)(w:0<=n/\n<18446744073709551616)(x:s.length<=100000000){o:Q0}{p:Pl}(q:placeOf o=some p):XK b r tag ty n s L o p:=by
 unfold XK;have g:=atw;have i:=UQ q;have k:=(MR o p q).2.1;clear q;by_cases h1:ty=fO p;rotate_left
 ·have e:qU ty n s p=8:=by unfold qU;rw[aj h1]
  refine⟨b,?_,λh=>by rw[e]at h;cases h⟩;rw[e];clear e;induction p,k using MO<;>(simp only[fO]at h1;refine aB ?_;simp[i,qP,g,h1])
 subst h1;by_cases f:(fO p=0/\n=0)\/(fO p=1/\s=[])
 ·have e:qU (fO p) n s p=17:=by
   unfold qU;rw[au rfl];rcases f with⟨a,c⟩|⟨a,c⟩
   ·rw[au a,au c]
   ·rw[eX,au c]
  refine⟨b,?_,λh=>by rw[e]at h;cases h⟩;rw[e];clear e;induction p,k using MO<;>(simp[fO]at f;refine aB ?_;simp[i,qP,g,fO,f])
 have e:qU (fO p) n s p=Ez n s p:=by
  unfold qU;rw[au rfl];by_cases a:fO p=0
  ·rw[au a,aj λc=>f (.inl ⟨a,c⟩)]
  ·rw[aj a,aj λc=>f (.inr ⟨by cases p<;>simp[fO]at a⊢,c⟩)]
 rw[e];clear e;induction p,k using MO
 case h0=>
  have f:¬n=0:=by simpa[fO]using f
  obtain⟨z,y,A⟩:=aCq n w.1 w.2;refine⟨{b with remaining:=J5 n},?_,λ_=>rfl⟩;show _=some ([GV.zq 0,GV.zq 0]++_)
  refine aB ?_;simp only[Int.zero_sub]at y;simp[i,qP,g,fO,f,jQ,IntKind.bits,z,y,A]
 case h1=>
  have f:¬n=0:=by simpa[fO]using f
  by_cases j:n=1
  ·have v:Ez n s .allow=0:=by unfold Ez;rw[au j]
   rw[v];refine⟨{b with allowed:=true},?_,λ_=>rfl⟩;refine aB ?_;simp[i,qP,g,fO,f,j]
  ·have v:Ez n s .allow=18:=by unfold Ez;rw[aj j]
   rw[v];refine⟨b,?_,λh=>by cases h⟩;refine aB ?_;simp[i,qP,g,fO,f,j]
 case h5=>
  have f:¬s=[]:=by simpa[fO]using f
  have l:=aff s x;refine⟨{b with d:=(sG s).1},?_,λ_=>rfl⟩;show _=some ([GV.zq 0,GV.zq (sG s).2]++_)
  refine aB ?_;simp[i,qP,g,fO,f,l]
 case h6=>
  have f:¬s=[]:=by simpa[fO]using f
  have l:=aBr s x;refine⟨{b with t:=(tN s).1},?_,λ_=>rfl⟩;unfold Ez;by_cases j:(tN s).2=0
  ·rw[au j];by_cases m:(tN s).1.length=0
   ·have h5:=jR m;rw[au m];refine aB ?_;simp[i,qP,g,fO,f,l,j,h5]
   ·have h5:(tN s).1≠[]:=λe=>m (by rw[e];rfl);rw[aj m];refine aB ?_;simp[i,qP,g,fO,f,l,j,h5]
  ·rw[aj j];refine aB ?_;simp[i,qP,g,fO,f,l,j]
 all_goals first
  |(have f:¬s=[]:=by simpa[fO]using f
    have l:=FI s 0 256 ah;refine⟨setB b n s _,?_,λ_=>rfl⟩;show _=some ([GV.zq 0,GV.zq (pX s 0 256)]++_)
    generalize pX s 0 256=u at *;refine aB ?_;simp[i,qP,setB,g,fO,f,l];done)
  |(have f:¬n=0:=by simpa[fO]using f
    refine⟨setB b n s _,?_,λ_=>rfl⟩;show _=some ([GV.zq 0,GV.zq 0]++_)
    refine aB ?_;simp[i,qP,setB,g,fO,f])
def jl:aW:={kind:=0,id:=0,min:=0,max:=0,chosen:=0,flags:=0,cost:=0,priority:=0,deadline:=0,retry:=0,epoch:=0,base:=0,digest:=0,lag:=0,code:=0,want:=0,remaining:=0,allowed:=false,name:=[],region:=[],note:=[],d:=[],t:=[]}
def acI(b:aW)(r:Q1)(ty n:Int)(s:Q0)(p:Pl):Q1:=if qU ty n s p=0 then[iH (setB b n s p) r,.zq 0]else[iH jl [],.zq (qU ty n s p)]
def acH(b:aW)(r:Q1)(ty n:Int)(s a:Q0):Q1:=match placeOf a with
 |some p=>acI b r ty n s p
 |none=>[iH jl [],.zq 26]
def ajq(b:aW)(n:Int)(s:Q0)(p:Pl):(setB b n s p).kind=b.kind:=by unfold setB;split<;>first|rfl|(split<;>rfl)
def azZ(b:aW)(r:Q1)(tag ty n:Int)(s:Q0)(L:GV){a:Q0}(c:placeOf a=none):TT.lim 153 [.s a,.zu tag,.zq ty,.zu n,.s s,L,.zq b.kind,.zu b.id,.zu b.min,.zu b.max,.zu b.chosen,.zu b.flags,.zu b.cost,.zu b.priority,.zu b.deadline,.zu b.retry,.zu b.epoch,.zu b.base,.zu b.digest,.zu b.lag,.zu b.code,.zu b.want,.zq b.remaining,.b b.allowed,.s b.name,.s b.region,.s b.note,.l (b.d.map ent),.l (b.t.map row),.l r]=some ([.zq 0,.zq 26]++qP b):=by have d:=agP c;refine aB ?_;simp[qP,d]
def azW(b:aW)(r:Q1)(tag ty n:Int)(s:Q0)(L:GV)(d:0<=n/\n<18446744073709551616)(e:s.length<=100000000)(a:Q0):(∃p,placeOf a=some p/\XK b r tag ty n s L a p)\/(placeOf a=none/\TT.lim 153 [.s a,.zu tag,.zq ty,.zu n,.s s,L,.zq b.kind,.zu b.id,.zu b.min,.zu b.max,.zu b.chosen,.zu b.flags,.zu b.cost,.zu b.priority,.zu b.deadline,.zu b.retry,.zu b.epoch,.zu b.base,.zu b.digest,.zu b.lag,.zu b.code,.zu b.want,.zq b.remaining,.b b.allowed,.s b.name,.s b.region,.s b.note,.l (b.d.map ent),.l (b.t.map row),.l r]=some ([.zq 0,.zq 26]++qP b)):=by
 cases c:placeOf a with
 |some p=>exact .inl ⟨p,rfl,azX b r tag ty n s L d e c⟩
 |none=>exact .inr ⟨rfl,azZ b r tag ty n s L c⟩
def auZ(K:Q1)(b:aW)(c:List aK)(k:b.d.length<=40)(l:gV b.t)(f:dA c<=1000000)(tag ty n:Int)(s:Q0)(m:0<=n/\n<18446744073709551616)(o:s.length<=100000000)(g:Q0):
 TT.lim 150 [iH b (aI c),.s g,.g [.zu tag,.zq ty,.zu n,.s s,.l K]]=some (acH b (aI c) ty n s g):=by
 have h:=auj b c k l f;have q:=azW b (aI c) tag ty n s (.l K) m o g;generalize aI c=r at *;have j:GV.g [.zq 0,.zu 0,.zu 0,.zu 0,.zu 0,.zu 0,.zu 0,.zu 0,.zu 0,.zu 0,.zu 0,.zu 0,.zu 0,.zu 0,.zu 0,.zu 0,.zq 0,.b false,.s [],.s [],.s [],.l [],.l [],.l []]=iH jl []:=rfl;unfold acH;rcases q with⟨p,i,x,a,t⟩|⟨i,a⟩
 ·rw[i];simp only;unfold acI;have u:=ajq b n s p;generalize qU ty n s p=e at *;by_cases d:e=0
  ·have v:=t d;rw[au d];rw[d,v]at a;have w:iH (setB b n s p) r=GV.g ([.zq b.kind]++qP (setB b n s p)++[.l r]):=by rw[<-u];rfl
   rw[w];generalize setB b n s p=B at *;unfold qP at a⊢;refine aQ ?_;simp[kM,h];simp[a]
  ·rw[aj d];unfold qP at a;rw[<-j];refine aQ ?_;simp[kM,h];simp[a,d]
 ·rw[i];simp only;unfold qP at a;rw[<-j];refine aQ ?_;simp[kM,h];simp[a]
def dG(b c:aW):Pl->Prop
 |.rem=>b.remaining=c.remaining
 |.allow=>b.allowed=c.allowed
 |.name=>b.name=c.name
 |.region=>b.region=c.region
 |.note=>b.note=c.note
 |.d=>b.d=c.d
 |.t=>b.t=c.t
 |.num k=>Gu b k=Gu c k
def nD(b c:aW)(d e:Q1)(f:Nat)(n:Q0)(p:Prop):Prop:=∀(a:Q1)(L K:Int)(i:Nat),(i:Int)<L->a[i]? =some (.s n)->IntKind.i64.wrap ((i:Int)+1)=(i:Int)+1->TT.lim f ([.l a,.zq L,.zq ((i:Int)+1)]++(iH c e).cells++(iH b d).cells)=some [.zq K]->TT.lim f ([.l a,.zq L,.zq i]++(iH c e).cells++(iH b d).cells)=some [.zq (if dL p=true then K else 0)]
def auE(b c:aW)(j k:Q1):nD b c j k 178 Ji (dG b c (.num 0)):=by
 intro l L K i h a g f;rw[dS,dS]at f⊢;simp only[bI,bf]at f⊢;unfold Ji at a;by_cases d:b.id=c.id
 ·have e:dL (dG b c (.num 0))=true:=lK d;rw[e];replace d:=eq_true d
  refine aB ?_;simp[h,a,d,g,f]
 ·have e:dL (dG b c (.num 0))=false:=kJ d;rw[e];refine aB ?_;simp[h,a,d,g]
def auH(b c:aW)(j k:Q1):nD b c j k 178 Jl (dG b c (.num 1)):=by
 intro l L K i h a g f;rw[dS,dS]at f⊢;simp only[bI,bf]at f⊢;unfold Jl at a;by_cases d:b.min=c.min
 ·have e:dL (dG b c (.num 1))=true:=lK d;rw[e];replace d:=eq_true d
  refine aB ?_;simp[h,a,d,g,f]
 ·have e:dL (dG b c (.num 1))=false:=kJ d;rw[e];refine aB ?_;simp[h,a,d,g]
def auG(b c:aW)(j k:Q1):nD b c j k 178 Jk (dG b c (.num 2)):=by
 intro l L K i h a g f;rw[dS,dS]at f⊢;simp only[bI,bf]at f⊢;unfold Jk at a;by_cases d:b.max=c.max
 ·have e:dL (dG b c (.num 2))=true:=lK d;rw[e];replace d:=eq_true d
  refine aB ?_;simp[h,a,d,g,f]
 ·have e:dL (dG b c (.num 2))=false:=kJ d;rw[e];refine aB ?_;simp[h,a,d,g]
def auv(b c:aW)(j k:Q1):nD b c j k 178 Jc (dG b c (.num 3)):=by
 intro l L K i h a g f;rw[dS,dS]at f⊢;simp only[bI,bf]at f⊢;unfold Jc at a;by_cases d:b.chosen=c.chosen
 ·have e:dL (dG b c (.num 3))=true:=lK d;rw[e];replace d:=eq_true d
  refine aB ?_;simp[h,a,d,g,f]
 ·have e:dL (dG b c (.num 3))=false:=kJ d;rw[e];refine aB ?_;simp[h,a,d,g]
def auD(b c:aW)(j k:Q1):nD b c j k 178 Jh (dG b c (.num 4)):=by
 intro l L K i h a g f;rw[dS,dS]at f⊢;simp only[bI,bf]at f⊢;unfold Jh at a;by_cases d:b.flags=c.flags
 ·have e:dL (dG b c (.num 4))=true:=lK d;rw[e];replace d:=eq_true d
  refine aB ?_;simp[h,a,d,g,f]
 ·have e:dL (dG b c (.num 4))=false:=kJ d;rw[e];refine aB ?_;simp[h,a,d,g]
def auy(b c:aW)(j k:Q1):nD b c j k 178 Jd (dG b c (.num 5)):=by
 intro l L K i h a g f;rw[dS,dS]at f⊢;simp only[bI,bf]at f⊢;unfold Jd at a;by_cases d:b.cost=c.cost
 ·have e:dL (dG b c (.num 5))=true:=lK d;rw[e];replace d:=eq_true d
  refine aB ?_;simp[h,a,d,g,f]
 ·have e:dL (dG b c (.num 5))=false:=kJ d;rw[e];refine aB ?_;simp[h,a,d,g]
def auL(b c:aW)(j k:Q1):nD b c j k 178 Jo (dG b c (.num 6)):=by
 intro l L K i h a g f;rw[dS,dS]at f⊢;simp only[bI,bf]at f⊢;unfold Jo at a;by_cases d:b.priority=c.priority
 ·have e:dL (dG b c (.num 6))=true:=lK d;rw[e];replace d:=eq_true d
  refine aB ?_;simp[h,a,d,g,f]
 ·have e:dL (dG b c (.num 6))=false:=kJ d;rw[e];refine aB ?_;simp[h,a,d,g]
def auz(b c:aW)(j k:Q1):nD b c j k 178 Je (dG b c (.num 7)):=by
 intro l L K i h a g f;rw[dS,dS]at f⊢;simp only[bI,bf]at f⊢;unfold Je at a;by_cases d:b.deadline=c.deadline
 ·have e:dL (dG b c (.num 7))=true:=lK d;rw[e];replace d:=eq_true d
  refine aB ?_;simp[h,a,d,g,f]
 ·have e:dL (dG b c (.num 7))=false:=kJ d;rw[e];refine aB ?_;simp[h,a,d,g]
def auO(b c:aW)(j k:Q1):nD b c j k 178 Jr (dG b c (.num 8)):=by
 intro l L K i h a g f;rw[dS,dS]at f⊢;simp only[bI,bf]at f⊢;unfold Jr at a;by_cases d:b.retry=c.retry
 ·have e:dL (dG b c (.num 8))=true:=lK d;rw[e];replace d:=eq_true d
  refine aB ?_;simp[h,a,d,g,f]
 ·have e:dL (dG b c (.num 8))=false:=kJ d;rw[e];refine aB ?_;simp[h,a,d,g]
def auC(b c:aW)(j k:Q1):nD b c j k 178 Ar (dG b c (.num 9)):=by
 intro l L K i h a g f;rw[dS,dS]at f⊢;simp only[bI,bf]at f⊢;unfold Ar at a;by_cases d:b.epoch=c.epoch
 ·have e:dL (dG b c (.num 9))=true:=lK d;rw[e];replace d:=eq_true d
  refine aB ?_;simp[h,a,d,g,f]
 ·have e:dL (dG b c (.num 9))=false:=kJ d;rw[e];refine aB ?_;simp[h,a,d,g]
def auu(b c:aW)(j k:Q1):nD b c j k 178 Jb (dG b c (.num 10)):=by
 intro l L K i h a g f;rw[dS,dS]at f⊢;simp only[bI,bf]at f⊢;unfold Jb at a;by_cases d:b.base=c.base
 ·have e:dL (dG b c (.num 10))=true:=lK d;rw[e];replace d:=eq_true d
  refine aB ?_;simp[h,a,d,g,f]
 ·have e:dL (dG b c (.num 10))=false:=kJ d;rw[e];refine aB ?_;simp[h,a,d,g]
def auB(b c:aW)(j k:Q1):nD b c j k 178 Jg (dG b c (.num 11)):=by
 intro l L K i h a g f;rw[dS,dS]at f⊢;simp only[bI,bf]at f⊢;unfold Jg at a;by_cases d:b.digest=c.digest
 ·have e:dL (dG b c (.num 11))=true:=lK d;rw[e];replace d:=eq_true d
  refine aB ?_;simp[h,a,d,g,f]
 ·have e:dL (dG b c (.num 11))=false:=kJ d;rw[e];refine aB ?_;simp[h,a,d,g]
def auF(b c:aW)(j k:Q1):nD b c j k 178 Jj (dG b c (.num 12)):=by
 intro l L K i h a g f;rw[dS,dS]at f⊢;simp only[bI,bf]at f⊢;unfold Jj at a;by_cases d:b.lag=c.lag
 ·have e:dL (dG b c (.num 12))=true:=lK d;rw[e];replace d:=eq_true d
  refine aB ?_;simp[h,a,d,g,f]
 ·have e:dL (dG b c (.num 12))=false:=kJ d;rw[e];refine aB ?_;simp[h,a,d,g]
def auw(b c:aW)(j k:Q1):nD b c j k 178 Aq (dG b c (.num 13)):=by
 intro l L K i h a g f;rw[dS,dS]at f⊢;simp only[bI,bf]at f⊢;unfold Aq at a;by_cases d:b.code=c.code
 ·have e:dL (dG b c (.num 13))=true:=lK d;rw[e];replace d:=eq_true d
  refine aB ?_;simp[h,a,d,g,f]
 ·have e:dL (dG b c (.num 13))=false:=kJ d;rw[e];refine aB ?_;simp[h,a,d,g]
def auR(b c:aW)(j k:Q1):nD b c j k 178 Cc (dG b c (.num 14)):=by
 intro l L K i h a g f;rw[dS,dS]at f⊢;simp only[bI,bf]at f⊢;unfold Cc at a;by_cases d:b.want=c.want
 ·have e:dL (dG b c (.num 14))=true:=lK d;rw[e];replace d:=eq_true d
  refine aB ?_;simp[h,a,d,g,f]
 ·have e:dL (dG b c (.num 14))=false:=kJ d;rw[e];refine aB ?_;simp[h,a,d,g]
def auN(b c:aW)(j k:Q1):nD b c j k 178 Jq (dG b c .rem):=by
 intro l L K i h a g f;rw[dS,dS]at f⊢;simp only[bI,bf]at f⊢;unfold Jq at a;by_cases d:b.remaining=c.remaining
 ·have e:dL (dG b c .rem)=true:=lK d;rw[e];replace d:=eq_true d
  refine aB ?_;simp[h,a,d,g,f]
 ·have e:dL (dG b c .rem)=false:=kJ d;rw[e];refine aB ?_;simp[h,a,d,g]
def aut(b c:aW)(j k:Q1):nD b c j k 178 Ja (dG b c .allow):=by
 intro l L K i h a g f;rw[dS,dS]at f⊢;simp only[bI,bf]at f⊢;unfold Ja at a;by_cases d:b.allowed=c.allowed
 ·have e:dL (dG b c .allow)=true:=lK d;rw[e];replace d:=eq_true d
  refine aB ?_;simp[h,a,d,g,f]
 ·have e:dL (dG b c .allow)=false:=kJ d;rw[e];refine aB ?_;simp[h,a,d,g]
def auI(b c:aW)(j k:Q1):nD b c j k 178 Jm (dG b c .name):=by
 intro l L K i h a g f;rw[dS,dS]at f⊢;simp only[bI,bf]at f⊢;unfold Jm at a;by_cases d:b.name=c.name
 ·have e:dL (dG b c .name)=true:=lK d;rw[e];replace d:=eq_true d
  refine aB ?_;simp[h,a,d,g,f]
 ·have e:dL (dG b c .name)=false:=kJ d;rw[e];refine aB ?_;simp[h,a,d,g]
def auM(b c:aW)(j k:Q1):nD b c j k 178 Jp (dG b c .region):=by
 intro l L K i h a g f;rw[dS,dS]at f⊢;simp only[bI,bf]at f⊢;unfold Jp at a;by_cases d:b.region=c.region
 ·have e:dL (dG b c .region)=true:=lK d;rw[e];replace d:=eq_true d
  refine aB ?_;simp[h,a,d,g,f]
 ·have e:dL (dG b c .region)=false:=kJ d;rw[e];refine aB ?_;simp[h,a,d,g]
def auJ(b c:aW)(j k:Q1):nD b c j k 178 Eh (dG b c .note):=by
 intro l L K i h a g f;rw[dS,dS]at f⊢;simp only[bI,bf]at f⊢;unfold Eh at a;by_cases d:b.note=c.note
 ·have e:dL (dG b c .note)=true:=lK d;rw[e];replace d:=eq_true d
  refine aB ?_;simp[h,a,d,g,f]
 ·have e:dL (dG b c .note)=false:=kJ d;rw[e];refine aB ?_;simp[h,a,d,g]
def auA(b c:aW)(m n:Q1)(f:b.d.length<=140737488351232)(g:c.d.length<=140737488351232):nD b c m n 178 Jf (dG b c .d):=by
 intro o L K i h a l j;rw[dS,dS]at j⊢;simp only[bI,bf]at j⊢;unfold Jf at a;have k:=afD b.d c.d f g;by_cases d:b.d=c.d
 ·have e:dL (dG b c .d)=true:=lK d;rw[e];rw[DN d]at k;refine aB ?_;simp[h,a,k,l,j]
 ·have e:dL (dG b c .d)=false:=kJ d;rw[e];rw[Iy d]at k;refine aB ?_;simp[h,a,k,l]
def auQ(b c:aW)(m n:Q1)(f:gV b.t)(g:gV c.t):nD b c m n 178 Js (dG b c .t):=by
 intro o L K i h a l j;rw[dS,dS]at j⊢;simp only[bI,bf]at j⊢;unfold Js at a;have k:=azP b.t c.t f g;by_cases d:b.t=c.t
 ·have e:dL (dG b c .t)=true:=lK d;rw[e];rw[DN d]at k;refine aB ?_;simp[h,a,k,l,j]
 ·have e:dL (dG b c .t)=false:=kJ d;rw[e];rw[Iy d]at k;refine aB ?_;simp[h,a,k,l]
def ahS:iM=[Ja,Jb,Jc,Aq,Jd,Je,Jf,Jg,Ar,Jh,Ji,Jj,Jk,Jl,Jm,Eh,Jo,Jp,Jq,Jr,Js,Cc]:=rfl
def auP(b c:aW)(a d:Q1)(e:b.d.length<=140737488351232)(f:c.d.length<=140737488351232)(g:gV b.t)(h:gV c.t):∀n∈iM,∃p,placeOf n=some p/\nD b c a d 178 n (dG b c p):=by
 intro n i;rw[ahS]at i;simp only[bJ,Hl,or_false]at i;rcases i with rfl|rfl|rfl|rfl|rfl|rfl|rfl|rfl|rfl|rfl|rfl|rfl|rfl|rfl|rfl|rfl|rfl|rfl|rfl|rfl|rfl|rfl
 ·exact⟨_,aik,aut b c a d⟩
 ·exact⟨_,ail,auu b c a d⟩
 ·exact⟨_,ain,auv b c a d⟩
 ·exact⟨_,aio,auw b c a d⟩
 ·exact⟨_,aip,auy b c a d⟩
 ·exact⟨_,aiq,auz b c a d⟩
 ·exact⟨_,air,auA b c a d e f⟩
 ·exact⟨_,ais,auB b c a d⟩
 ·exact⟨_,ait,auC b c a d⟩
 ·exact⟨_,aiu,auD b c a d⟩
 ·exact⟨_,aiv,auE b c a d⟩
 ·exact⟨_,aiw,auF b c a d⟩
 ·exact⟨_,aix,auG b c a d⟩
 ·exact⟨_,aiy,auH b c a d⟩
 ·exact⟨_,aiz,auI b c a d⟩
 ·exact⟨_,aiA,auJ b c a d⟩
 ·exact⟨_,aiB,auL b c a d⟩
 ·exact⟨_,aiC,auM b c a d⟩
 ·exact⟨_,aiD,auN b c a d⟩
 ·exact⟨_,aiE,auO b c a d⟩
 ·exact⟨_,aiF,auQ b c a d g h⟩
 ·exact⟨_,aiG,auR b c a d⟩
def ajh(b c:aW)(k l:Q1)(f:Nat)(Q:Pl->Prop)(a:∀(w:Q1)(L:Int)(i:Nat),¬(i:Int)<L->TT.lim f ([.l w,.zq L,.zq i]++(iH c l).cells++(iH b k).cells)=some [.zq 1])(t:∀n∈iM,∃p,placeOf n=some p/\nD b c k l f n (Q p)):∀m i:Nat,i+m=iM.length->
 TT.lim f ([.l (iM.map .s),.zq iM.length,.zq i]++(iH c l).cells++(iH b k).cells)=some [.zq (if dL (∀n∈iM.drop i,∀p,placeOf n=some p->Q p)=true then 1 else 0)]
 |0,i,hi=>by have e:dL (∀n∈iM.drop i,∀p,placeOf n=some p->Q p)=true:=lK (by rw[gJ];simp);rw[e];exact a _ _ i ah
 |m+1,i,hi=>by
  have d:i<iM.length:=ah;have x:iM.length=22:=rfl;have y:=bD ((i:Int)+1);have u:=ajh b c k l f Q a t m (i+1) ah;obtain⟨p,v,r⟩:=t _ (iq d);have s:(iM.map GV.s)[i]? =some (.s iM[i]):=by rw[jf,bT d];rfl
  have g:((i+1:Nat):Int)=(i:Int)+1:=ah;rw[g]at u;have z:=r _ _ _ i ah s y u;rw[z,gW d];have j:(∀n∈iM[i]::iM.drop (i+1),∀p,placeOf n=some p->Q p)↔(Q p/\∀n∈iM.drop (i+1),∀p,placeOf n=some p->Q p):=by
   simp only[bJ,forall_eq_or_imp];constructor
   ·exact λh=>⟨h.1 p v,h.2⟩
   ·intro h;refine⟨λq j=>?_,h.2⟩;rw[v]at j;injection j with j
    rw[<-j];exact h.1
  rw[L8 j];by_cases o:Q p
  ·rw[lK o,au rfl];have:dL (Q p/\∀n∈iM.drop (i+1),∀p,placeOf n=some p->Q p)=dL (∀n∈iM.drop (i+1),∀p,placeOf n=some p->Q p):=L8 ⟨λh=>h.2,λh=>⟨o,h⟩⟩;rw[this]
  ·rw[kJ o,aj aX,kJ λh=>o h.1,aj aX]
def parts_all(b c:aW)(D:b.kind=c.kind):(∀n∈iM,∀p,placeOf n=some p->dG b c p)↔b=c:=by
 constructor
 ·intro h;rw[ahS]at h;have a:∀{n:Q0}{p:Pl},n∈[Ja,Jb,Jc,Aq,Jd,Je,Jf,Jg,Ar,Jh,Ji,Jj,Jk,Jl,Jm,Eh,Jo,Jp,Jq,Jr,Js,Cc]->placeOf n=some p->dG b c p:=λE F=>h _ E _ F;have d:=a aA aiD;have e:=a aA aik;have f:=a aA aiz;have g:=a aA aiC;have i:=a aA aiA;have j:=a aA air;have k:=a aA aiF;have l:=a aA aiv;have m:=a aA aiy;have o:=a aA aix;have q:=a aA ain;have r:=a aA aiu;have s:=a aA aip;have t:=a aA aiB;have u:=a aA aiq;have v:=a aA aiE;have w:=a aA ait;have x:=a aA ail;have y:=a aA ais;have z:=a aA aiw;have A:=a aA aio;have B:=a aA aiG;clear h a;cases b;cases c;simp only[dG,Gu]at *;subst D;subst d;subst e;subst f;subst g;subst i;subst j;subst k;subst l;subst m;subst o;subst q;subst r;subst s;subst t;subst u;subst v;subst w;subst x;subst y;subst z;subst A;subst B;rfl
 ·rintro rfl n _ p _
  cases p<;>simp[dG]
def auK(b c:aW)(a fc:List aK)(t:b.d.length<=40)(v:c.d.length<=40)(l:gV b.t)(m:gV c.t)(n:dX a)(o:dX fc)(p:a.length<=1000000)(q:fc.length<=1000000)(r:dA a<=1000000):TT.lim 177 [iH b (aI a),iH c (aI fc)]=some [.b (dL (b=c/\a=fc))]:=by
 have w:=aq0 a fc n o p q r;have s:=ahP;have d:=ajh b c (aI a) (aI fc) 178 (dG b c) (λx L i h=>by rw[dS,dS];simp only[bI,bf];refine aB ?_;simp[h]) (auP b c (aI a) (aI fc) ah ah l m) iM.length 0 ah
 have j:((iM.map GV.s).length:Int)=(iM.length:Int):=by rw[iw]
 rw[dD]at d;rw[dS,dS]at d;simp only[bI,bf,qX]at d;by_cases g:b.kind=c.kind;rotate_left
 ·rw[kJ λh=>g (by rw[h.1])];refine aQ ?_;simp[g]
 have k:=parts_all b c g;replace g:(b.kind=c.kind)=True:=eq_true g
 rw[L8 k]at d;clear k;generalize iM.map GV.s=x,(iM.length:Int)=L at *;by_cases f:b=c
 ·rw[lK f]at d;have e:dL (b=c/\a=fc)=dL (a=fc):=L8 ⟨λh=>h.2,λh=>⟨f,h⟩⟩;rw[e];generalize dL (a=fc)=u at *;simp only[if_true]at d;refine aQ ?_;simp[g,s,j,d,w]
 ·rw[kJ f]at d;rw[kJ λh=>f h.1];simp only[ig,if_false]at d;refine aQ ?_;simp[g,s,j,d]
def aCr{n:Int}(a:0<=n/\n<18446744073709551616): -9223372036854775808<=J5 n/\J5 n<=9223372036854775807:=by unfold J5;split<;>omega
def ajp{b:aW}{n:Int}{s:Q0}{p:Pl}{ty:Int}(a:tX b)(c:iL b.d=true)(e:gV b.t)(i:0<=n/\n<18446744073709551616)(j:s.length<=100000000)(h:qU ty n s p=0):tX (setB b n s p)/\iL (setB b n s p).d=true/\gV (setB b n s p).t:=by
 have l:Ez n s p=0:=by
  unfold qU at h;split at h
  ·split at h<;>split at h<;>first|exact h|exact absurd h aX
  ·exact absurd h aX
 cases p with
 |rem=>exact⟨{a with remaining:=aCr i},c,e⟩
 |allow=>exact⟨{a with},c,e⟩
 |name=>exact⟨{a with name:=by show s.length<=_;omega},c,e⟩
 |region=>exact⟨{a with region:=by show s.length<=_;omega},c,e⟩
 |note=>exact⟨{a with note:=by show s.length<=_;omega},c,e⟩
 |d=>have g:=afg (s:=s) l j;exact⟨{a with d:=g.ents},g.few,e⟩
 |t=>have g:=(aBs (s:=s) j).1;exact⟨{a with t:=g.rows},c,g.good⟩
 |num k=>
  unfold setB;split<;>rename_i f
  ·exact absurd f aA
  ·exact absurd f aA
  ·exact absurd f aA
  ·exact absurd f aA
  ·exact absurd f aA
  ·exact absurd f aA
  ·exact absurd f aA
  ·split<;>exact⟨by constructor<;>first|exact i|exact a.kind|exact a.id|exact a.min|exact a.max|exact a.chosen|exact a.flags|exact a.cost|exact a.priority|exact a.deadline|exact a.retry|exact a.epoch|exact a.base|exact a.digest|exact a.lag|exact a.code|exact a.want|exact a.remaining|exact a.name|exact a.region|exact a.note|exact a.d|exact a.t,c,e⟩
structure ru(b:aW)(fl:List aK):Prop where
 body:tX b
 d:iL b.d=true
 t:gV b.t
 f8:dX fl
 len:fl.length<=1000000
def G8:ru jl []:=⟨by constructor<;>simp[jl,tZ,Rows],by simp[jl,iL],⟨by simp[jl],by intro r a;simp[jl]at a,by simp[jl,Rows]⟩,by simp only[dX],aA⟩
def ru.aus{b c:aW}{a fc:List aK}(h:ru b a)(k:ru c fc)(e:dA a<=1000000):TT.lim 177 [iH b (aI a),iH c (aI fc)]=some [.b (dL (b=c/\a=fc))]:=auK b c a fc (DW h.d) (DW k.d) h.t k.t h.f8 k.f8 h.len k.len e
def auW(b:aW)(r:Q1)(c:tX b)(d:iL b.d=true)(e:xM b.t)(n:Q0):(∃p,placeOf n=some p/\TT.lim 98 [iH b r,.s n]=some [.g [.zu 0,.zq (fO p),.zu (dH b p).1,.s (dH b p).2,.l []],.b true])\/
 (placeOf n=none/\TT.lim 98 [iH b r,.s n]=some [.g [.zu 0,.zq 0,.zu 0,.s [],.l []],.b false]):=by
 cases a:placeOf n with
 |some p=>exact .inl ⟨p,rfl,auV b r c (λ_=>d) (λ_=>e) a⟩
 |none=>exact .inr ⟨rfl,auY b r a⟩
def auX{b:aW}{c:List aK}(h:ru b c){n:Q0}{p:Pl}(d:placeOf n=some p):TT.lim 98 [iH b (aI c),.s n]=some [.g [.zu 0,.zq (fO p),.zu (dH b p).1,.s (dH b p).2,.l []],.b true]:=by
 rcases auW b (aI c) h.body h.d h.t.few n with⟨q,a,e⟩|⟨a,-⟩
 ·rw[d]at a;injection a with a
  rw[a];exact e
 ·rw[d]at a;cases a
def avT(t:List Row)(a:gV t):(zi t).length<=90000000:=by
 have h:=abH t [] (λr b=>⟨a.few r b,(a.rows.2 r b).2⟩);have c:=a.len;have d:(bg t.length).length<=20:=by have:=nN (n:=t.length) ah;omega
 unfold zi;rw[gu];have:40000*t.length<=40000*300:=XH _ c;omega
