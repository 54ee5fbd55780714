/- What the trees compute: plain laws. -/
import Derived.Test.YthchhlenbkefnaaGreatDoorKUe3
set_option linter.all false
namespace Go.Proofs.YthchhlenbkefnaaGreatDoor
open Go Go.aN
set_option maxRecDepth 100000
namespace U
noncomputable def dR (p:Prop):Bool:=@decide p (Classical.propDecidable p)
def mQ{p:Prop}(h:p):dR p=true:=@Gq p (Classical.propDecidable p) h
def lg{p:Prop}(h:¬p):dR p=false:=@Ed p (Classical.propDecidable p) h
def Ny{p q:Prop}(h:p↔q):dR p=dR q:=by rw[propext h]
def sD(t y n:Int)(s:Q0)(k:List aI):GV:=.g [.zu t,.zq y,.zu n,.s s,.l (aG k)]
@[simp] theorem aG2(t y n:Int)(s:Q0)(k:List aI):(sD t y n s k).cells=[.zu t,.zq y,.zu n,.s s,.l (aG k)]:=rfl
def GH{l:List aI}{i:Nat}(h:i<l.length):∃t y n s k,l[i]? =some (.mk t y n s k)/\(aG l)[i]? =some (sD t y n s k)/\l.drop i=.mk t y n s k::l.drop (i+1)/\aI.mk t y n s k∈l:=by
 have a:(aG l)[i]? =some (qC l[i]):=by rw[CU,iY,bT h];rfl
 have b:=iC h;have c:=gX h;have d:=bT h;cases e:l[i]with
 |mk t y n s k=>rw[e]at a b c d;exact⟨t,y,n,s,k,d,by rw[a];simp only[qC];rfl,b,c⟩
def uS:List aI->List aI->Option (List (List aI×List aI))
 |.mk t y n s k::a,.mk d e f g c::b=>if t=d/\y=e/\n=f/\s=g then(uS a b).map λr=>(if k.length=0/\c.length=0 then[]else[(k,c)])++r else none
 |_,_=>some []
def kT(q:List aI×List aI):GV:=.g [.l (aG q.1),.l (aG q.2)]
@[simp] theorem aIk(q:List aI×List aI):(kT q).cells=[.l (aG q.1),.l (aG q.2)]:=rfl
def uO:List (List aI×List aI)->Nat
 |[]=>0
 |q::l=>dH q.1+1+uO l
def WI:∀(a b:List (List aI×List aI)),uO (a++b)=uO a+uO b
 |[],b=>by simp[uO]
 |q::a,b=>by simp only[bg,uO,WI a b];omega
def ajg:∀(a:List (List aI×List aI)),a.length<=uO a
 |[]=>by simp[uO]
 |q::a=>by have:=ajg a;simp only[gV,uO];omega
def okP(q:List aI×List aI):Prop:=eU q.1/\eU q.2/\q.1.length<=1000000/\q.2.length<=1000000
def akp:∀(a b:List aI),a.length=b.length->eU a->eU b->(match uS a b with
 |none=>a≠b
 |some f=>((∀q∈f,q.1=q.2)↔a=b)/\uO f<=dH a/\∀q∈f,okP q)
 |[],[],_,_,_=>by simp[uS,uO]
 |[],_::_,e,_,_=>by simp at e
 |_::_,[],e,_,_=>by simp at e
 |.mk t y n s k::a,.mk v w x z A::b,e,g,i=>by
  simp only[eU,uj]at g i;have j:=akp a b (by simpa using e) g.2 i.2;unfold uS;by_cases l:t=v/\y=w/\n=x/\s=z
  ·rw[aj l];obtain⟨rfl,rfl,rfl,rfl⟩:=l;cases p:uS a b with
   |none=>
    rw[p]at j;simp only[aex];intro h;injection h with c d
    exact j d
   |some f=>
    rw[p]at j;obtain⟨r,J,u⟩:=j;simp only[gZ];by_cases m:k.length=0/\A.length=0
    ·rw[aj m];have B:=jH m.1;have D:=jH m.2;subst B;subst D;refine⟨by simpa using r,by simp only[aX,dH,wB];omega,by simpa using u⟩
    ·rw[ah m];refine⟨?_,by simp only[bg,aX,uO,dH,wB];omega,λq o=>?_⟩
     ·simp only[bg,aX,bH,forall_eq_or_imp,r];constructor
      ·rintro⟨c,d⟩;rw[c,d]
      ·intro h;injection h with c d
       injection c with _ _ _ _ E
       exact⟨E,d⟩
     ·simp only[bg,aX,bH]at o;rcases o with rfl|o
      ·exact⟨g.1.2,i.1.2,g.1.1.2.2.2.2.2.2.2,i.1.1.2.2.2.2.2.2.2⟩
      ·exact u q o
  ·rw[ah l];intro h;injection h with c d
   injection c with F G H I _
   exact l ⟨F,G,H,I⟩
def aaj(a b:List aI)(S:a.length=b.length)(B:a.length<=1000000)(T:eU a)(V:eU b):∀(m i:Nat)(c:List (List aI×List aI)),i+m=a.length->c.length+m<=4000000->
 TT.lim 327 [.l (c.map kT),.zq a.length,.zq i,.l (aG a),.l (aG b)]=some (match uS (a.drop i) (b.drop i)with|none=>[.zq 0]|some g=>[.zq 1,.l ((c++g).map kT)])
 |0,i,c,hi,D=>by
  have W:a.drop i=[]:=ig;have X:b.drop i=[]:=ig;have h:¬((i:Int)<a.length):=by omega
  rw[W,X];simp only[uS,qp];generalize c.map kT=A at *;refine au ?_;simp[h]
 |m+1,i,c,hi,D=>by
  obtain⟨t,y,n,s,k,g1,q,Y,g4⟩:=GH (l:=a) (i:=i) (by omega);obtain⟨Z,y',n',s',j,aa,f,N,ab⟩:=GH (l:=b) (i:=i) (by omega);have v:=bF ((i:Int)+1);have h:((i:Int)<a.length):=by omega
  have o:((i+1:Nat):Int)=(i:Int)+1:=by omega
  have E:=pR k;have F:=pR j;rw[Y,N];unfold uS;by_cases p:t=Z;rotate_left
  ·rw[ah λh=>p h.1];refine au ?_;simp[h,q,f,p]
  by_cases u:y=y';rotate_left
  ·rw[ah λh=>u h.2.1];refine au ?_;simp[h,q,f,p,u]
  by_cases w:n=n';rotate_left
  ·rw[ah λh=>w h.2.2.1];refine au ?_;simp[h,q,f,p,u,w]
  by_cases z:s=s';rotate_left
  ·rw[ah λh=>z h.2.2.2];refine au ?_;simp[h,q,f,p,u,w,z]
  rw[aj ⟨p,u,w,z⟩];by_cases M:k.length=0/\j.length=0
  ·rw[aj M];have d:=aaj a b S B T V m (i+1) c (by omega) (by omega);rw[o]at d;have G:=jH M.1;have H:=jH M.2;have O:(match Option.map (λr=>[]++r) (uS (a.drop (i+1)) (b.drop (i+1)))with|none=>[GV.zq 0]|some g=>[GV.zq 1,GV.l ((c++g).map kT)])=(match uS (a.drop (i+1)) (b.drop (i+1))with|none=>[GV.zq 0]|some g=>[GV.zq 1,GV.l ((c++g).map kT)]):=by cases uS (a.drop (i+1)) (b.drop (i+1))<;>simp
   rw[O];generalize(match uS (a.drop (i+1)) (b.drop (i+1))with|none=>[GV.zq 0]|some g=>[GV.zq 1,GV.l ((c++g).map kT)])=R,c.map kT=A at *;refine au ?_;simp[h,q,f,p,u,w,z,G,H,aG,v,d]
  ·rw[ah M];have d:=aaj a b S B T V m (i+1) (c++[(k,j)]) (by omega) (by simp;omega);rw[o]at d;have O:(match Option.map (λr=>[(k,j)]++r) (uS (a.drop (i+1)) (b.drop (i+1)))with|none=>[GV.zq 0]|some g=>[GV.zq 1,GV.l ((c++g).map kT)])=(match uS (a.drop (i+1)) (b.drop (i+1))with|none=>[GV.zq 0]|some g=>[GV.zq 1,GV.l ((c++[(k,j)]++g).map kT)]):=by cases uS (a.drop (i+1)) (b.drop (i+1))<;>simp
   rw[O];generalize(match uS (a.drop (i+1)) (b.drop (i+1))with|none=>[GV.zq 0]|some g=>[GV.zq 1,GV.l ((c++[(k,j)]++g).map kT)])=R at *;have I:(c++[(k,j)]).map kT=c.map kT++[.g [.l (aG k),.l (aG j)]]:=by simp[kT]
   rw[I]at d;have J:2*((c.map kT).length+1)*48<=281474976710656/\(c.map kT).length+1<=281474976710656:=by rw[gG];omega
   generalize c.map kT=A at *;have L:A.length<=281474976710655:=by omega
   by_cases P:k.length=0;rotate_left
   ·have G:0<k.length:=by omega
    have Q:k≠[]:=λe=>by rw[e]at P;exact P rfl
    have x:GV.fP 2 (.g [.l (aG k),.l (aG j)])=true:=rfl;refine au ?_;simp[h,q,f,p,u,w,z,E,F,G,Q,v,d,x,J,L]
   ·have G:=jH P;have H:0<j.length:=by omega
    have Q:j≠[]:=λe=>by rw[e]at H;exact absurd H (by simp)
    subst G;have x:GV.fP 2 (.g [.l [],.l (aG j)])=true:=rfl;simp only[aG,sD]at d q E;refine au ?_;simp[h,q,f,p,u,w,z,F,H,Q,v,d,x,J,L]
def aha:∀(N:Nat)(c:List (List aI×List aI)),uO c<N->uO c<=2000000->(∀q∈c,okP q)->TT.lim 326 [.l (c.map kT)]=some [.zq (if dR (∀q∈c,q.1=q.2)=true then 1 else 0)]
 |0,c,v,_,_=>by omega
 |N+1,c,v,I,o=>by
  rcases amB c with rfl|⟨d,q,rfl⟩
  ·have O:dR (∀q∈([]:List (List aI×List aI)),q.1=q.2)=true:=mQ (by simp);rw[O];refine au ?_;simp
  ·rw[amA]at *;obtain⟨a,b⟩:=q;have i:=o (a,b) (by simp);obtain⟨w,y,J,P⟩:=i;simp only at w y J P;have L:=ajg d;rw[WI]at v I;simp only[uO]at v I;have j:=pR a;have k:=pR b;have p:(d++[(a,b)]).map kT=d.map kT++[kT (a,b)]:=by simp
   have l:(d.map kT).length=d.length:=gG ..;have e:∀x∈d.map kT,x.cells.length=2:=by intro x Q;obtain⟨r,_,rfl⟩:=rM.1 Q;rfl
   have f:=aaj a b;have z:(0:Int)<(d.length:Int)+1:=by omega
   have D:(d.length:Int)+1-1=d.length:=by omega
   have E:(d.length:Int)<(d.length:Int)+1:=by omega
   have F:(d.length:Int)<=(d.length:Int)+1:=by omega
   have m:=bF ((d.length:Int));rw[p];by_cases G:a.length=b.length;rotate_left
   ·have n:dR (∀q∈d++[(a,b)],q.1=q.2)=false:=lg λh=>G (uf List.length (h (a,b) (by simp)));have t:¬((a.length:Int)=(b.length:Int)):=by omega
    rw[n];generalize d.map kT=A at *;have s:=eq_true e;clear e;refine au ?_;simp[l,z,D,E,F,m,kT,j,k,t,s]
   ·have g:=akp a b G w y;have f:=f G J w y a.length 0 d (by omega) (by omega);rw[dN,dN,show((0:Nat):Int)=0 from rfl]at f;have t:b.length=a.length:=by omega
    cases M:uS a b with
    |none=>
     rw[M]at g f;have n:dR (∀q∈d++[(a,b)],q.1=q.2)=false:=lg λh=>g (h (a,b) (by simp));rw[n];simp only at f;generalize d.map kT=A at *;have W:A.length<281474976710656:=by omega
     have s:=eq_true e;clear e;refine au ?_;simp[l,z,D,E,F,m,kT,j,k,t,f,s]
    |some u=>
     rw[M]at g f;obtain⟨S,X,T⟩:=g;have V:=aha N (d++u) (by rw[WI];omega) (by rw[WI];omega) (λq i=>by
      rcases jJ.1 i with i|i
      ·exact o q (by simp[i])
      ·exact T q i)
     have H:dR (∀q∈d++[(a,b)],q.1=q.2)=dR (∀q∈d++u,q.1=q.2):=Ny (by simp only[jJ,or_imp,forall_and,S,jK,forall_eq])
     rw[H];generalize dR (∀q∈d++u,q.1=q.2)=R at *;simp only at f;generalize(d++u).map kT=B,d.map kT=A at *;have s:=eq_true e;clear e;refine au ?_;simp[l,z,D,E,F,m,kT,j,k,t,f,s,V]
def atZ(a b:List aI)(g:eU a)(i:eU b)(c:a.length<=1000000)(d:b.length<=1000000)(k:dH a<=1000000):TT.lim 325 [.l (aG a),.l (aG b)]=some [.b (dR (a=b))]:=by
 have h:=aha (dH a+2) [(a,b)] (by simp[uO]) (by simp[uO];omega) (by intro q f;simp at f;subst f;exact⟨g,i,c,d⟩);have e:dR (∀q∈[(a,b)],q.1=q.2)=dR (a=b):=Ny (by simp);rw[e]at h;have j:[(a,b)].map kT=[.g [.l (aG a),.l (aG b)]]:=rfl;rw[j]at h;refine aT ?_;generalize dR (a=b)=r at *;cases r with
 |true=>simp at h;simp[h]
 |false=>simp at h;simp[h]
mutual
def toFt:aI->Ft
 |.mk t y n s k=>.mk [.int .u64 t,.int .i64 y,.int .u64 n,.string ⟨⟨s⟩⟩] (KP k)
def KP:List aI->List Ft
 |[]=>[]
 |f::l=>toFt f::KP l
end
mutual
def aEY:∀f:aI,Ez (toFt f) (qC f)/\cntF (toFt f)<=wB f
 |.mk t y n s k=>by have h:=adp k;simp only[toFt,Ez,qC,cntF,wB];exact⟨⟨_,_,_,_,_,rfl,rfl,h.1⟩,by omega⟩
def adp:∀l:List aI,ru (KP l) (aG l)/\pK (KP l)<=dH l
 |[]=>by simp only[KP,ru,aG,pK,dH];exact⟨trivial,dD _⟩
 |f::l=>by have h1:=aEY f;have a:=adp l;simp only[KP,ru,aG,pK,dH];exact⟨⟨_,_,rfl,h1.1,a.1⟩,by omega⟩
end
def Vh(l:List aI)(a:dH l<=1000000):TT.lim 120 [.l (aG l)]=some [.l (aG l)]:=by refine Bz (Ds:=Ds) (k:=120) (f:=MR) rfl ?_;have h:=adp l;unfold MR;exact aj ⟨KP l,h.1,by omega⟩
def ai8(b:aO)(l:List aI)(t:List Row)(p:t.length<=1000)(n:∀r∈t,r.1.length<=40):∀(m i:Nat),i+m=t.length->
 TT.lim 302 [.l ((t.take i).map row),.l (t.map row),.zq t.length,.zq i,.zq b.kind,.zu b.id,.zu b.min,.zu b.max,.zu b.chosen,.zu b.flags,.zu b.cost,.zu b.priority,.zu b.deadline,.zu b.retry,.zu b.epoch,.zu b.base,.zu b.digest,.zu b.lag,.zu b.code,.zu b.want,.zq b.remaining,.b b.allowed,.s b.name,.s b.region,.s b.note,.l (b.d.map ent),.l (aG l)]=some [.zq 0,.l (t.map row)]
 |0,i,hi=>by
  have h0:t.take i=t:=lG (by omega);have h:¬((i:Int)<t.length):=by omega
  rw[h0];refine au ?_;simp[h]
 |m+1,i,hi=>by
  have a:i<t.length:=by omega
  have o:=ai8 b l t p n m (i+1) (by omega);have h:((i:Int)<t.length):=by omega
  have c:((i+1:Nat):Int)=(i:Int)+1:=by omega
  have e:=bF ((i:Int)+1);have q:(t.map row)[i]? =some (row t[i]):=by rw[iY,bT a];rfl
  have s:=Gm t[i].1 (n _ (gX a));have d:GV.g [.l (t[i].1.map ent),.zu t[i].2]=row t[i]:=rfl;have f:(t.take (i+1)).map row=(t.take i).map row++[row t[i]]:=by rw[SY,bT a,nM];rfl
  rw[f,c]at o;have g:(row t[i]).fP 2=true:=rfl;have j:2*(((t.take i).map row).length+1)*32<=281474976710656:=by simp;omega
  have k:((t.take i).map row).length<=281474976710655:=by simp;omega
  generalize(t.take i).map row=A,t.map row=L at *;refine au ?_;simp[h,q,s,d,g,j,k,e,o]
def axl(b:aO)(a:List aI)(i:b.d.length<=40)(c:dU b.t)(j:dH a<=1000000):TT.lim 301 [iM b (aG a)]=some [iM b (aG a)]:=by
 have d:∀r∈b.t,r.1.length<=40:=λr k=>by have:=c.few r k;unfold iL at this;rw[aK,decide_eq_true_iff]at this;exact this.2
 have e:=ai8 b a b.t (by have:=c.len;omega) d b.t.length 0 (by omega);have p:=c.len;rw[Td,show((0:Nat):Int)=0 from rfl]at e;have l:=Gm b.d i;have m:=Vh a j;have f:((b.t.map row).length:Int)=b.t.length:=by simp
 have g:(32:Int)*b.t.length<=281474976710656:=by omega
 have h:(b.t.length:Int)<=1152921504606846976:=by omega
 have n:b.t.length<=8796093022208:=by omega
 simp only[jI]at e;generalize o:b.t.map row=L at *;refine aT ?_;unfold iM;rw[o];simp[f,e,l,m,GV.fP,g,h];try omega
def FI(n:Int):Int:=if n%2=0 then n/2 else -(n/2)-1
def aF9(n:Int)(h0:0<=n)(h1:n<18446744073709551616):bV .and .u64 n 1=some (.zu (n%2))/\bV .xor .i64 (IntKind.i64.wrap (n/2)) (IntKind.i64.wrap (0-IntKind.i64.wrap (n%2)))=some (.zq (FI n))/\n.fdiv 2=n/2:=by
 have a:∀y:Int,IntKind.u64.wrap y=y%18446744073709551616:=λy=>by simp[IntKind.wrap,IntKind.signed,IntKind.bits]
 have b:IntKind.u64.bits=64:=rfl;have hi:IntKind.i64.bits=64:=rfl;refine⟨?_,?_,FN _ (by decide)⟩
 ·simp only[bV,a,b];have e:(BitVec.ofInt 64 n &&& BitVec.ofInt 64 1).toNat=(BitVec.ofInt 64 n).toNat%2:=by rw[Yn];exact Nat.and_one_is_mod _
  show some (GV.i IntKind.u64 (((BitVec.ofInt 64 n &&& BitVec.ofInt 64 1).toNat:Int)%18446744073709551616))=_
  rw[e,vw];congr 2;omega
 ·rw[wrap64 (by omega) (by omega),bF (n%2),wrap64 (by omega) (by omega)];simp only[bV,hi];unfold FI;by_cases h:n%2=0
  ·rw[aj h,h];have e:BitVec.ofInt 64 (0-0)=0#64:=rfl;show some (GV.i IntKind.i64 (IntKind.i64.wrap ((BitVec.ofInt 64 (n/2) ^^^ BitVec.ofInt 64 (0-0)).toNat:Int)))=_
   rw[e,BitVec.xor_zero,vw];congr 2;rw[wrap64 (by omega) (by omega)];omega
  ·rw[ah h,show n%2=1 by omega];have e:BitVec.ofInt 64 (0-1)=BitVec.allOnes 64:=by decide
   show some (GV.i IntKind.i64 (IntKind.i64.wrap ((BitVec.ofInt 64 (n/2) ^^^ BitVec.ofInt 64 (0-1)).toNat:Int)))=_
   rw[e,adQ,adO,vw];congr 2;have c:∀y:Int,IntKind.i64.wrap y=if y%18446744073709551616>=9223372036854775808 then y%18446744073709551616-18446744073709551616 else y%18446744073709551616:=λy=>by simp[IntKind.wrap,IntKind.signed,IntKind.bits]
   rw[c];split<;>omega
def setB(b:aO)(n:Int)(s:Q0):Pl->aO
 |.rem=>{b with remaining:=FI n}
 |.allow=>{b with allowed:=true}
 |.name=>{b with name:=s}
 |.region=>{b with region:=s}
 |.note=>{b with note:=s}
 |.d=>{b with d:=(rZ s).1}
 |.t=>{b with t:=(sK s).1}
 |.num k=>match k with
  |0=>{b with id:=n}
  |1=>{b with min:=n}
  |2=>{b with max:=n}
  |3=>{b with chosen:=n}
  |4=>{b with flags:=n}
  |5=>{b with cost:=n}
  |6=>{b with priority:=n}
  |7=>{b with deadline:=n}
  |8=>{b with retry:=n}
  |9=>{b with epoch:=n}
  |10=>{b with base:=n}
  |11=>{b with digest:=n}
  |12=>{b with lag:=n}
  |13=>{b with code:=n}
  |_=>{b with want:=n}
def uX(n:Int)(s:Q0):Pl->Int
 |.allow=>if n=1 then 0 else 18
 |.name=>qP s 0 256
 |.region=>qP s 0 256
 |.note=>qP s 0 256
 |.d=>(rZ s).2
 |.t=>if(sK s).2=0 then(if(sK s).1.length=0 then 17 else 0)else(sK s).2
 |_=>0
def lW(ty n:Int)(s:Q0)(p:Pl):Int:=if ty=dP p then(if ty=0 then(if n=0 then 17 else uX n s p)else(if s=[]then 17 else uX n s p))else 8
def awG(u:Int):TT.lim 304 [.zq u]=some [.zq (if u=0 then 0 else if u=1 then 0 else if u=2 then 0 else if u=3 then 1 else if u=4 then 1 else if u=5 then 1 else -1)]:=by
 refine aT ?_;by_cases a:u=0
 ·simp[a]
 by_cases b:u=1
 ·simp[b]
 by_cases c:u=2
 ·simp[c]
 by_cases d:u=3
 ·simp[d]
 by_cases e:u=4
 ·simp[e]
 by_cases f:u=5
 ·simp[f]
 simp[a,b,c,d,e,f]
def sG(b:aO):Q1:=[.zu b.id,.zu b.min,.zu b.max,.zu b.chosen,.zu b.flags,.zu b.cost,.zu b.priority,.zu b.deadline,.zu b.retry,.zu b.epoch,.zu b.base,.zu b.digest,.zu b.lag,.zu b.code,.zu b.want,.zq b.remaining,.b b.allowed,.s b.name,.s b.region,.s b.note,.l (b.d.map ent),.l (b.t.map row)]
def YI(b:aO)(r:Q1)(tag ty n:Int)(s:Q0)(L:GV)(c:Q0)(p:Pl):Prop:=∃a:aO,TT.lim 303 [.s c,.zu tag,.zq ty,.zu n,.s s,L,.zq b.kind,.zu b.id,.zu b.min,.zu b.max,.zu b.chosen,.zu b.flags,.zu b.cost,.zu b.priority,.zu b.deadline,.zu b.retry,.zu b.epoch,.zu b.base,.zu b.digest,.zu b.lag,.zu b.code,.zu b.want,.zq b.remaining,.b b.allowed,.s b.name,.s b.region,.s b.note,.l (b.d.map ent),.l (b.t.map row),.l r]=some ([.zq 0,.zq (lW ty n s p)]++sG a)/\(lW ty n s p=0->a=setB b n s p)
set_option maxHeartbeats 8000000 in
def aDA(b:aO)(r:Q1)(tag ty n:Int)(s:Q0)(L:GV)(w:0<=n/\n<18446744073709551616)(x:s.length<=100000000){o:Q0}{p:Pl}(q:placeOf o=some p):YI b r tag ty n s L o p:=by
 unfold YI;have g:=awG;have i:=VZ q;have k:=(zX o p q).2.1;clear q;by_cases h1:ty=dP p;rotate_left
 ·have e:lW ty n s p=8:=by unfold lW;rw[ah h1]
  refine⟨b,?_,λh=>by rw[e]at h;cases h⟩;rw[e];clear e;induction p,k using NV<;>(simp only[dP]at h1;refine au ?_;simp[i,sG,g,h1])
 subst h1;by_cases f:(dP p=0/\n=0)\/(dP p=1/\s=[])
 ·have e:lW (dP p) n s p=17:=by
   unfold lW;rw[aj rfl];rcases f with⟨a,c⟩|⟨a,c⟩
   ·rw[aj a,aj c]
   ·rw[dA,aj c]
  refine⟨b,?_,λh=>by rw[e]at h;cases h⟩;rw[e];clear e;induction p,k using NV<;>(simp[dP]at f;refine au ?_;simp[i,sG,g,dP,f])
 have e:lW (dP p) n s p=uX n s p:=by
  unfold lW;rw[aj rfl];by_cases a:dP p=0
  ·rw[aj a,ah λc=>f (.inl ⟨a,c⟩)]
  ·rw[ah a,ah λc=>f (.inr ⟨by cases p<;>simp[dP]at a⊢,c⟩)]
 rw[e];clear e;induction p,k using NV
 case h0=>
  have f:¬n=0:=by simpa[dP]using f
  obtain⟨z,y,A⟩:=aF9 n w.1 w.2;refine⟨{b with remaining:=FI n},?_,λ_=>rfl⟩;show _=some ([GV.zq 0,GV.zq 0]++_)
  refine au ?_;simp only[Int.zero_sub]at y;simp[i,sG,g,dP,f,kD,IntKind.bits,z,y,A]
 case h1=>
  have f:¬n=0:=by simpa[dP]using f
  by_cases j:n=1
  ·have v:uX n s .allow=0:=by unfold uX;rw[aj j]
   rw[v];refine⟨{b with allowed:=true},?_,λ_=>rfl⟩;refine au ?_;simp[i,sG,g,dP,f,j]
  ·have v:uX n s .allow=18:=by unfold uX;rw[ah j]
   rw[v];refine⟨b,?_,λh=>by cases h⟩;refine au ?_;simp[i,sG,g,dP,f,j]
 case h5=>
  have f:¬s=[]:=by simpa[dP]using f
  have l:=agp s x;refine⟨{b with d:=(rZ s).1},?_,λ_=>rfl⟩;show _=some ([GV.zq 0,GV.zq (rZ s).2]++_)
  refine au ?_;simp[i,sG,g,dP,f,l]
 case h6=>
  have f:¬s=[]:=by simpa[dP]using f
  have l:=aE4 s x;refine⟨{b with t:=(sK s).1},?_,λ_=>rfl⟩;unfold uX;by_cases j:(sK s).2=0
  ·rw[aj j];by_cases m:(sK s).1.length=0
   ·have h5:=jH m;rw[aj m];refine au ?_;simp[i,sG,g,dP,f,l,j,h5]
   ·have h5:(sK s).1≠[]:=λe=>m (by rw[e];rfl);rw[ah m];refine au ?_;simp[i,sG,g,dP,f,l,j,h5]
  ·rw[ah j];refine au ?_;simp[i,sG,g,dP,f,l,j]
 all_goals first
  |(have f:¬s=[]:=by simpa[dP]using f
    have l:=Gl s 0 256 (by omega);refine⟨setB b n s _,?_,λ_=>rfl⟩;show _=some ([GV.zq 0,GV.zq (qP s 0 256)]++_)
    generalize qP s 0 256=u at *;refine au ?_;simp[i,sG,setB,g,dP,f,l];done)
  |(have f:¬n=0:=by simpa[dP]using f
    refine⟨setB b n s _,?_,λ_=>rfl⟩;show _=some ([GV.zq 0,GV.zq 0]++_)
    refine au ?_;simp[i,sG,setB,g,dP,f])
def fV:aO:={kind:=0,id:=0,min:=0,max:=0,chosen:=0,flags:=0,cost:=0,priority:=0,deadline:=0,retry:=0,epoch:=0,base:=0,digest:=0,lag:=0,code:=0,want:=0,remaining:=0,allowed:=false,name:=[],region:=[],note:=[],d:=[],t:=[]}
def adI(b:aO)(r:Q1)(ty n:Int)(s:Q0)(p:Pl):Q1:=if lW ty n s p=0 then[iM (setB b n s p) r,.zq 0]else[iM fV [],.zq (lW ty n s p)]
def adH(b:aO)(r:Q1)(ty n:Int)(s a:Q0):Q1:=match placeOf a with
 |some p=>adI b r ty n s p
 |none=>[iM fV [],.zq 26]
def ala(b:aO)(n:Int)(s:Q0)(p:Pl):(setB b n s p).kind=b.kind:=by unfold setB;split<;>first|rfl|(split<;>rfl)
def aDD(b:aO)(r:Q1)(tag ty n:Int)(s:Q0)(L:GV){a:Q0}(c:placeOf a=none):TT.lim 303 [.s a,.zu tag,.zq ty,.zu n,.s s,L,.zq b.kind,.zu b.id,.zu b.min,.zu b.max,.zu b.chosen,.zu b.flags,.zu b.cost,.zu b.priority,.zu b.deadline,.zu b.retry,.zu b.epoch,.zu b.base,.zu b.digest,.zu b.lag,.zu b.code,.zu b.want,.zq b.remaining,.b b.allowed,.s b.name,.s b.region,.s b.note,.l (b.d.map ent),.l (b.t.map row),.l r]=some ([.zq 0,.zq 26]++sG b):=by have d:=ah7 c;refine au ?_;simp[sG,d]
def aDz(b:aO)(r:Q1)(tag ty n:Int)(s:Q0)(L:GV)(d:0<=n/\n<18446744073709551616)(e:s.length<=100000000)(a:Q0):(∃p,placeOf a=some p/\YI b r tag ty n s L a p)\/(placeOf a=none/\TT.lim 303 [.s a,.zu tag,.zq ty,.zu n,.s s,L,.zq b.kind,.zu b.id,.zu b.min,.zu b.max,.zu b.chosen,.zu b.flags,.zu b.cost,.zu b.priority,.zu b.deadline,.zu b.retry,.zu b.epoch,.zu b.base,.zu b.digest,.zu b.lag,.zu b.code,.zu b.want,.zq b.remaining,.b b.allowed,.s b.name,.s b.region,.s b.note,.l (b.d.map ent),.l (b.t.map row),.l r]=some ([.zq 0,.zq 26]++sG b)):=by
 cases c:placeOf a with
 |some p=>exact .inl ⟨p,rfl,aDA b r tag ty n s L d e c⟩
 |none=>exact .inr ⟨rfl,aDD b r tag ty n s L c⟩
def axZ(K:Q1)(b:aO)(c:List aI)(k:b.d.length<=40)(l:dU b.t)(f:dH c<=1000000)(tag ty n:Int)(s:Q0)(m:0<=n/\n<18446744073709551616)(o:s.length<=100000000)(g:Q0):
 TT.lim 300 [iM b (aG c),.s g,.g [.zu tag,.zq ty,.zu n,.s s,.l K]]=some (adH b (aG c) ty n s g):=by
 have h:=axl b c k l f;have q:=aDz b (aG c) tag ty n s (.l K) m o g;generalize aG c=r at *;have j:GV.g [.zq 0,.zu 0,.zu 0,.zu 0,.zu 0,.zu 0,.zu 0,.zu 0,.zu 0,.zu 0,.zu 0,.zu 0,.zu 0,.zu 0,.zu 0,.zu 0,.zq 0,.b false,.s [],.s [],.s [],.l [],.l [],.l []]=iM fV []:=rfl;unfold adH;rcases q with⟨p,i,x,a,t⟩|⟨i,a⟩
 ·rw[i];simp only;unfold adI;have u:=ala b n s p;generalize lW ty n s p=e at *;by_cases d:e=0
  ·have v:=t d;rw[aj d];rw[d,v]at a;have w:iM (setB b n s p) r=GV.g ([.zq b.kind]++sG (setB b n s p)++[.l r]):=by rw[<-u];rfl
   rw[w];generalize setB b n s p=B at *;unfold sG at a⊢;refine aT ?_;simp[lC,h];simp[a]
  ·rw[ah d];unfold sG at a;rw[<-j];refine aT ?_;simp[lC,h];simp[a,d]
 ·rw[i];simp only;unfold sG at a;rw[<-j];refine aT ?_;simp[lC,h];simp[a]
def bY(b c:aO):Pl->Prop
 |.rem=>b.remaining=c.remaining
 |.allow=>b.allowed=c.allowed
 |.name=>b.name=c.name
 |.region=>b.region=c.region
 |.note=>b.note=c.note
 |.d=>b.d=c.d
 |.t=>b.t=c.t
 |.num k=>pW b k=pW c k
def oh(b c:aO)(d e:Q1)(f:Nat)(n:Q0)(p:Prop):Prop:=∀(a:Q1)(L K:Int)(i:Nat),(i:Int)<L->a[i]? =some (.s n)->IntKind.i64.wrap ((i:Int)+1)=(i:Int)+1->TT.lim f ([.l a,.zq L,.zq ((i:Int)+1)]++(iM c e).cells++(iM b d).cells)=some [.zq K]->TT.lim f ([.l a,.zq L,.zq i]++(iM c e).cells++(iM b d).cells)=some [.zq (if dR p=true then K else 0)]
def axE(b c:aO)(j k:Q1):oh b c j k 324 JW (bY b c (.num 0)):=by
 intro l L K i h a g f;rw[eY,eY]at f⊢;simp only[bg,aX]at f⊢;unfold JW at a;by_cases d:b.id=c.id
 ·have e:dR (bY b c (.num 0))=true:=mQ d;rw[e];replace d:=eq_true d
  refine au ?_;simp[h,a,d,g,f]
 ·have e:dR (bY b c (.num 0))=false:=lg d;rw[e];refine au ?_;simp[h,a,d,g]
def axH(b c:aO)(j k:Q1):oh b c j k 324 JZ (bY b c (.num 1)):=by
 intro l L K i h a g f;rw[eY,eY]at f⊢;simp only[bg,aX]at f⊢;unfold JZ at a;by_cases d:b.min=c.min
 ·have e:dR (bY b c (.num 1))=true:=mQ d;rw[e];replace d:=eq_true d
  refine au ?_;simp[h,a,d,g,f]
 ·have e:dR (bY b c (.num 1))=false:=lg d;rw[e];refine au ?_;simp[h,a,d,g]
def axG(b c:aO)(j k:Q1):oh b c j k 324 JY (bY b c (.num 2)):=by
 intro l L K i h a g f;rw[eY,eY]at f⊢;simp only[bg,aX]at f⊢;unfold JY at a;by_cases d:b.max=c.max
 ·have e:dR (bY b c (.num 2))=true:=mQ d;rw[e];replace d:=eq_true d
  refine au ?_;simp[h,a,d,g,f]
 ·have e:dR (bY b c (.num 2))=false:=lg d;rw[e];refine au ?_;simp[h,a,d,g]
def axw(b c:aO)(j k:Q1):oh b c j k 324 JM (bY b c (.num 3)):=by
 intro l L K i h a g f;rw[eY,eY]at f⊢;simp only[bg,aX]at f⊢;unfold JM at a;by_cases d:b.chosen=c.chosen
 ·have e:dR (bY b c (.num 3))=true:=mQ d;rw[e];replace d:=eq_true d
  refine au ?_;simp[h,a,d,g,f]
 ·have e:dR (bY b c (.num 3))=false:=lg d;rw[e];refine au ?_;simp[h,a,d,g]
def axD(b c:aO)(j k:Q1):oh b c j k 324 JV (bY b c (.num 4)):=by
 intro l L K i h a g f;rw[eY,eY]at f⊢;simp only[bg,aX]at f⊢;unfold JV at a;by_cases d:b.flags=c.flags
 ·have e:dR (bY b c (.num 4))=true:=mQ d;rw[e];replace d:=eq_true d
  refine au ?_;simp[h,a,d,g,f]
 ·have e:dR (bY b c (.num 4))=false:=lg d;rw[e];refine au ?_;simp[h,a,d,g]
def axy(b c:aO)(j k:Q1):oh b c j k 324 JO (bY b c (.num 5)):=by
 intro l L K i h a g f;rw[eY,eY]at f⊢;simp only[bg,aX]at f⊢;unfold JO at a;by_cases d:b.cost=c.cost
 ·have e:dR (bY b c (.num 5))=true:=mQ d;rw[e];replace d:=eq_true d
  refine au ?_;simp[h,a,d,g,f]
 ·have e:dR (bY b c (.num 5))=false:=lg d;rw[e];refine au ?_;simp[h,a,d,g]
def axL(b c:aO)(j k:Q1):oh b c j k 324 J4 (bY b c (.num 6)):=by
 intro l L K i h a g f;rw[eY,eY]at f⊢;simp only[bg,aX]at f⊢;unfold J4 at a;by_cases d:b.priority=c.priority
 ·have e:dR (bY b c (.num 6))=true:=mQ d;rw[e];replace d:=eq_true d
  refine au ?_;simp[h,a,d,g,f]
 ·have e:dR (bY b c (.num 6))=false:=lg d;rw[e];refine au ?_;simp[h,a,d,g]
def axz(b c:aO)(j k:Q1):oh b c j k 324 JQ (bY b c (.num 7)):=by
 intro l L K i h a g f;rw[eY,eY]at f⊢;simp only[bg,aX]at f⊢;unfold JQ at a;by_cases d:b.deadline=c.deadline
 ·have e:dR (bY b c (.num 7))=true:=mQ d;rw[e];replace d:=eq_true d
  refine au ?_;simp[h,a,d,g,f]
 ·have e:dR (bY b c (.num 7))=false:=lg d;rw[e];refine au ?_;simp[h,a,d,g]
def axO(b c:aO)(j k:Q1):oh b c j k 324 J7 (bY b c (.num 8)):=by
 intro l L K i h a g f;rw[eY,eY]at f⊢;simp only[bg,aX]at f⊢;unfold J7 at a;by_cases d:b.retry=c.retry
 ·have e:dR (bY b c (.num 8))=true:=mQ d;rw[e];replace d:=eq_true d
  refine au ?_;simp[h,a,d,g,f]
 ·have e:dR (bY b c (.num 8))=false:=lg d;rw[e];refine au ?_;simp[h,a,d,g]
def axC(b c:aO)(j k:Q1):oh b c j k 324 Bl (bY b c (.num 9)):=by
 intro l L K i h a g f;rw[eY,eY]at f⊢;simp only[bg,aX]at f⊢;unfold Bl at a;by_cases d:b.epoch=c.epoch
 ·have e:dR (bY b c (.num 9))=true:=mQ d;rw[e];replace d:=eq_true d
  refine au ?_;simp[h,a,d,g,f]
 ·have e:dR (bY b c (.num 9))=false:=lg d;rw[e];refine au ?_;simp[h,a,d,g]
def axv(b c:aO)(j k:Q1):oh b c j k 324 JL (bY b c (.num 10)):=by
 intro l L K i h a g f;rw[eY,eY]at f⊢;simp only[bg,aX]at f⊢;unfold JL at a;by_cases d:b.base=c.base
 ·have e:dR (bY b c (.num 10))=true:=mQ d;rw[e];replace d:=eq_true d
  refine au ?_;simp[h,a,d,g,f]
 ·have e:dR (bY b c (.num 10))=false:=lg d;rw[e];refine au ?_;simp[h,a,d,g]
def axB(b c:aO)(j k:Q1):oh b c j k 324 JU (bY b c (.num 11)):=by
 intro l L K i h a g f;rw[eY,eY]at f⊢;simp only[bg,aX]at f⊢;unfold JU at a;by_cases d:b.digest=c.digest
 ·have e:dR (bY b c (.num 11))=true:=mQ d;rw[e];replace d:=eq_true d
  refine au ?_;simp[h,a,d,g,f]
 ·have e:dR (bY b c (.num 11))=false:=lg d;rw[e];refine au ?_;simp[h,a,d,g]
def axF(b c:aO)(j k:Q1):oh b c j k 324 JX (bY b c (.num 12)):=by
 intro l L K i h a g f;rw[eY,eY]at f⊢;simp only[bg,aX]at f⊢;unfold JX at a;by_cases d:b.lag=c.lag
 ·have e:dR (bY b c (.num 12))=true:=mQ d;rw[e];replace d:=eq_true d
  refine au ?_;simp[h,a,d,g,f]
 ·have e:dR (bY b c (.num 12))=false:=lg d;rw[e];refine au ?_;simp[h,a,d,g]
def axx(b c:aO)(j k:Q1):oh b c j k 324 Bj (bY b c (.num 13)):=by
 intro l L K i h a g f;rw[eY,eY]at f⊢;simp only[bg,aX]at f⊢;unfold Bj at a;by_cases d:b.code=c.code
 ·have e:dR (bY b c (.num 13))=true:=mQ d;rw[e];replace d:=eq_true d
  refine au ?_;simp[h,a,d,g,f]
 ·have e:dR (bY b c (.num 13))=false:=lg d;rw[e];refine au ?_;simp[h,a,d,g]
def axR(b c:aO)(j k:Q1):oh b c j k 324 Df (bY b c (.num 14)):=by
 intro l L K i h a g f;rw[eY,eY]at f⊢;simp only[bg,aX]at f⊢;unfold Df at a;by_cases d:b.want=c.want
 ·have e:dR (bY b c (.num 14))=true:=mQ d;rw[e];replace d:=eq_true d
  refine au ?_;simp[h,a,d,g,f]
 ·have e:dR (bY b c (.num 14))=false:=lg d;rw[e];refine au ?_;simp[h,a,d,g]
def axN(b c:aO)(j k:Q1):oh b c j k 324 J6 (bY b c .rem):=by
 intro l L K i h a g f;rw[eY,eY]at f⊢;simp only[bg,aX]at f⊢;unfold J6 at a;by_cases d:b.remaining=c.remaining
 ·have e:dR (bY b c .rem)=true:=mQ d;rw[e];replace d:=eq_true d
  refine au ?_;simp[h,a,d,g,f]
 ·have e:dR (bY b c .rem)=false:=lg d;rw[e];refine au ?_;simp[h,a,d,g]
def axu(b c:aO)(j k:Q1):oh b c j k 324 JK (bY b c .allow):=by
 intro l L K i h a g f;rw[eY,eY]at f⊢;simp only[bg,aX]at f⊢;unfold JK at a;by_cases d:b.allowed=c.allowed
 ·have e:dR (bY b c .allow)=true:=mQ d;rw[e];replace d:=eq_true d
  refine au ?_;simp[h,a,d,g,f]
 ·have e:dR (bY b c .allow)=false:=lg d;rw[e];refine au ?_;simp[h,a,d,g]
def axI(b c:aO)(j k:Q1):oh b c j k 324 J3 (bY b c .name):=by
 intro l L K i h a g f;rw[eY,eY]at f⊢;simp only[bg,aX]at f⊢;unfold J3 at a;by_cases d:b.name=c.name
 ·have e:dR (bY b c .name)=true:=mQ d;rw[e];replace d:=eq_true d
  refine au ?_;simp[h,a,d,g,f]
 ·have e:dR (bY b c .name)=false:=lg d;rw[e];refine au ?_;simp[h,a,d,g]
def axM(b c:aO)(j k:Q1):oh b c j k 324 J5 (bY b c .region):=by
 intro l L K i h a g f;rw[eY,eY]at f⊢;simp only[bg,aX]at f⊢;unfold J5 at a;by_cases d:b.region=c.region
 ·have e:dR (bY b c .region)=true:=mQ d;rw[e];replace d:=eq_true d
  refine au ?_;simp[h,a,d,g,f]
 ·have e:dR (bY b c .region)=false:=lg d;rw[e];refine au ?_;simp[h,a,d,g]
def axJ(b c:aO)(j k:Q1):oh b c j k 324 EI (bY b c .note):=by
 intro l L K i h a g f;rw[eY,eY]at f⊢;simp only[bg,aX]at f⊢;unfold EI at a;by_cases d:b.note=c.note
 ·have e:dR (bY b c .note)=true:=mQ d;rw[e];replace d:=eq_true d
  refine au ?_;simp[h,a,d,g,f]
 ·have e:dR (bY b c .note)=false:=lg d;rw[e];refine au ?_;simp[h,a,d,g]
def axA(b c:aO)(m n:Q1)(f:b.d.length<=140737488351232)(g:c.d.length<=140737488351232):oh b c m n 324 JR (bY b c .d):=by
 intro o L K i h a l j;rw[eY,eY]at j⊢;simp only[bg,aX]at j⊢;unfold JR at a;have k:=agN b.d c.d f g;by_cases d:b.d=c.d
 ·have e:dR (bY b c .d)=true:=mQ d;rw[e];rw[Gq d]at k;refine au ?_;simp[h,a,k,l,j]
 ·have e:dR (bY b c .d)=false:=lg d;rw[e];rw[Ed d]at k;refine au ?_;simp[h,a,k,l]
def axQ(b c:aO)(m n:Q1)(f:dU b.t)(g:dU c.t):oh b c m n 324 J8 (bY b c .t):=by
 intro o L K i h a l j;rw[eY,eY]at j⊢;simp only[bg,aX]at j⊢;unfold J8 at a;have k:=akZ b.t c.t f g;by_cases d:b.t=c.t
 ·have e:dR (bY b c .t)=true:=mQ d;rw[e];rw[Gq d]at k;refine au ?_;simp[h,a,k,l,j]
 ·have e:dR (bY b c .t)=false:=lg d;rw[e];rw[Ed d]at k;refine au ?_;simp[h,a,k,l]
def ajk:iH=[JK,JL,JM,Bj,JO,JQ,JR,JU,Bl,JV,JW,JX,JY,JZ,J3,EI,J4,J5,J6,J7,J8,Df]:=rfl
def axP(b c:aO)(a d:Q1)(e:b.d.length<=140737488351232)(f:c.d.length<=140737488351232)(g:dU b.t)(h:dU c.t):∀n∈iH,∃p,placeOf n=some p/\oh b c a d 324 n (bY b c p):=by
 intro n i;rw[ajk]at i;simp only[bH,Ir,or_false]at i;rcases i with rfl|rfl|rfl|rfl|rfl|rfl|rfl|rfl|rfl|rfl|rfl|rfl|rfl|rfl|rfl|rfl|rfl|rfl|rfl|rfl|rfl|rfl
 ·exact⟨_,ajM,axu b c a d⟩
 ·exact⟨_,ajN,axv b c a d⟩
 ·exact⟨_,ajO,axw b c a d⟩
 ·exact⟨_,ajP,axx b c a d⟩
 ·exact⟨_,ajQ,axy b c a d⟩
 ·exact⟨_,ajR,axz b c a d⟩
 ·exact⟨_,ajS,axA b c a d e f⟩
 ·exact⟨_,ajT,axB b c a d⟩
 ·exact⟨_,ajU,axC b c a d⟩
 ·exact⟨_,ajV,axD b c a d⟩
 ·exact⟨_,ajW,axE b c a d⟩
 ·exact⟨_,ajX,axF b c a d⟩
 ·exact⟨_,ajY,axG b c a d⟩
 ·exact⟨_,ajZ,axH b c a d⟩
 ·exact⟨_,aj0,axI b c a d⟩
 ·exact⟨_,aj1,axJ b c a d⟩
 ·exact⟨_,aj2,axL b c a d⟩
 ·exact⟨_,aj3,axM b c a d⟩
 ·exact⟨_,aj6,axN b c a d⟩
 ·exact⟨_,aj7,axO b c a d⟩
 ·exact⟨_,aj8,axQ b c a d g h⟩
 ·exact⟨_,aj9,axR b c a d⟩
def ak0(b c:aO)(k l:Q1)(f:Nat)(Q:Pl->Prop)(a:∀(w:Q1)(L:Int)(i:Nat),¬(i:Int)<L->TT.lim f ([.l w,.zq L,.zq i]++(iM c l).cells++(iM b k).cells)=some [.zq 1])(t:∀n∈iH,∃p,placeOf n=some p/\oh b c k l f n (Q p)):∀m i:Nat,i+m=iH.length->
 TT.lim f ([.l (iH.map .s),.zq iH.length,.zq i]++(iM c l).cells++(iM b k).cells)=some [.zq (if dR (∀n∈iH.drop i,∀p,placeOf n=some p->Q p)=true then 1 else 0)]
 |0,i,hi=>by have e:dR (∀n∈iH.drop i,∀p,placeOf n=some p->Q p)=true:=mQ (by rw[ig];simp);rw[e];exact a _ _ i (by omega)
 |m+1,i,hi=>by
  have d:i<iH.length:=by omega
  have x:iH.length=22:=rfl;have y:=bF ((i:Int)+1);have u:=ak0 b c k l f Q a t m (i+1) (by omega);obtain⟨p,v,r⟩:=t _ (gX d);have s:(iH.map GV.s)[i]? =some (.s iH[i]):=by rw[iY,bT d];rfl
  have g:((i+1:Nat):Int)=(i:Int)+1:=by omega
  rw[g]at u;have z:=r _ _ _ i (by omega) s y u;rw[z,iC d];have j:(∀n∈iH[i]::iH.drop (i+1),∀p,placeOf n=some p->Q p)↔(Q p/\∀n∈iH.drop (i+1),∀p,placeOf n=some p->Q p):=by
   simp only[bH,forall_eq_or_imp];constructor
   ·exact λh=>⟨h.1 p v,h.2⟩
   ·intro h;refine⟨λq j=>?_,h.2⟩;rw[v]at j;injection j with j
    rw[<-j];exact h.1
  rw[Ny j];by_cases o:Q p
  ·rw[mQ o,aj rfl];have:dR (Q p/\∀n∈iH.drop (i+1),∀p,placeOf n=some p->Q p)=dR (∀n∈iH.drop (i+1),∀p,placeOf n=some p->Q p):=Ny ⟨λh=>h.2,λh=>⟨o,h⟩⟩;rw[this]
  ·rw[lg o,ah (by decide),lg λh=>o h.1,ah (by decide)]
def parts_all(b c:aO)(D:b.kind=c.kind):(∀n∈iH,∀p,placeOf n=some p->bY b c p)↔b=c:=by
 constructor
 ·intro h;rw[ajk]at h;have a:∀{n:Q0}{p:Pl},n∈[JK,JL,JM,Bj,JO,JQ,JR,JU,Bl,JV,JW,JX,JY,JZ,J3,EI,J4,J5,J6,J7,J8,Df]->placeOf n=some p->bY b c p:=λE F=>h _ E _ F;have d:=a (by simp) aj6;have e:=a (by simp) ajM;have f:=a (by simp) aj0;have g:=a (by simp) aj3;have i:=a (by simp) aj1;have j:=a (by simp) ajS;have k:=a (by simp) aj8;have l:=a (by simp) ajW;have m:=a (by simp) ajZ;have o:=a (by simp) ajY;have q:=a (by simp) ajO;have r:=a (by simp) ajV;have s:=a (by simp) ajQ;have t:=a (by simp) aj2;have u:=a (by simp) ajR;have v:=a (by simp) aj7;have w:=a (by simp) ajU;have x:=a (by simp) ajN;have y:=a (by simp) ajT;have z:=a (by simp) ajX;have A:=a (by simp) ajP;have B:=a (by simp) aj9;clear h a;cases b;cases c;simp only[bY,pW]at *;subst D;subst d;subst e;subst f;subst g;subst i;subst j;subst k;subst l;subst m;subst o;subst q;subst r;subst s;subst t;subst u;subst v;subst w;subst x;subst y;subst z;subst A;subst B;rfl
 ·rintro rfl n _ p _
  cases p<;>simp[bY]
def axK(b c:aO)(a fc:List aI)(t:b.d.length<=40)(v:c.d.length<=40)(l:dU b.t)(m:dU c.t)(n:eU a)(o:eU fc)(p:a.length<=1000000)(q:fc.length<=1000000)(r:dH a<=1000000):TT.lim 323 [iM b (aG a),iM c (aG fc)]=some [.b (dR (b=c/\a=fc))]:=by
 have w:=atZ a fc n o p q r;have s:=ajh;have d:=ak0 b c (aG a) (aG fc) 324 (bY b c) (λx L i h=>by rw[eY,eY];simp only[bg,aX];refine au ?_;simp[h]) (axP b c (aG a) (aG fc) (by omega) (by omega) l m) iH.length 0 (by omega)
 have j:((iH.map GV.s).length:Int)=(iH.length:Int):=by rw[gG]
 rw[dN]at d;rw[eY,eY]at d;simp only[bg,aX,sW]at d;by_cases g:b.kind=c.kind;rotate_left
 ·rw[lg λh=>g (by rw[h.1])];refine aT ?_;simp[g]
 have k:=parts_all b c g;replace g:(b.kind=c.kind)=True:=eq_true g
 rw[Ny k]at d;clear k;generalize iH.map GV.s=x,(iH.length:Int)=L at *;by_cases f:b=c
 ·rw[mQ f]at d;have e:dR (b=c/\a=fc)=dR (a=fc):=Ny ⟨λh=>h.2,λh=>⟨f,h⟩⟩;rw[e];generalize dR (a=fc)=u at *;simp only[if_true]at d;refine aT ?_;simp[g,s,j,d,w]
 ·rw[lg f]at d;rw[lg λh=>f h.1];simp only[iw,if_false]at d;refine aT ?_;simp[g,s,j,d]
def aGa{n:Int}(a:0<=n/\n<18446744073709551616): -9223372036854775808<=FI n/\FI n<=9223372036854775807:=by unfold FI;split<;>omega
def ak9{b:aO}{n:Int}{s:Q0}{p:Pl}{ty:Int}(a:vk b)(c:iL b.d=true)(e:dU b.t)(i:0<=n/\n<18446744073709551616)(j:s.length<=100000000)(h:lW ty n s p=0):vk (setB b n s p)/\iL (setB b n s p).d=true/\dU (setB b n s p).t:=by
 have l:uX n s p=0:=by
  unfold lW at h;split at h
  ·split at h<;>split at h<;>first|exact h|exact absurd h (by decide)
  ·exact absurd h (by decide)
 cases p with
 |rem=>exact⟨{a with remaining:=aGa i},c,e⟩
 |allow=>exact⟨{a with},c,e⟩
 |name=>exact⟨{a with name:=by show s.length<=_;omega},c,e⟩
 |region=>exact⟨{a with region:=by show s.length<=_;omega},c,e⟩
 |note=>exact⟨{a with note:=by show s.length<=_;omega},c,e⟩
 |d=>have g:=agr (s:=s) l j;exact⟨{a with d:=g.ents},g.few,e⟩
 |t=>have g:=(aE6 (s:=s) j).1;exact⟨{a with t:=g.rows},c,g.good⟩
 |num k=>
  unfold setB;split<;>rename_i f
  ·exact absurd f (by simp)
  ·exact absurd f (by simp)
  ·exact absurd f (by simp)
  ·exact absurd f (by simp)
  ·exact absurd f (by simp)
  ·exact absurd f (by simp)
  ·exact absurd f (by simp)
  ·split<;>exact⟨by constructor<;>first|exact i|exact a.kind|exact a.id|exact a.min|exact a.max|exact a.chosen|exact a.flags|exact a.cost|exact a.priority|exact a.deadline|exact a.retry|exact a.epoch|exact a.base|exact a.digest|exact a.lag|exact a.code|exact a.want|exact a.remaining|exact a.name|exact a.region|exact a.note|exact a.d|exact a.t,c,e⟩
structure rU(b:aO)(fl:List aI):Prop where
 body:vk b
 d:iL b.d=true
 t:dU b.t
 f8:eU fl
 len:fl.length<=1000000
def Ih:rU fV []:=⟨by constructor<;>simp[fV,sU,Rows],by simp[fV,iL],⟨by simp[fV],by intro r a;simp[fV]at a,by simp[fV,Rows]⟩,by simp only[eU],by simp⟩
def rU.axt{b c:aO}{a fc:List aI}(h:rU b a)(k:rU c fc)(e:dH a<=1000000):TT.lim 323 [iM b (aG a),iM c (aG fc)]=some [.b (dR (b=c/\a=fc))]:=axK b c a fc (Ej h.d) (Ej k.d) h.t k.t h.f8 k.f8 h.len k.len e
def axW(b:aO)(r:Q1)(c:vk b)(d:iL b.d=true)(e:yJ b.t)(n:Q0):(∃p,placeOf n=some p/\TT.lim 111 [iM b r,.s n]=some [.g [.zu 0,.zq (dP p),.zu (aZ b p).1,.s (aZ b p).2,.l []],.b true])\/
 (placeOf n=none/\TT.lim 111 [iM b r,.s n]=some [.g [.zu 0,.zq 0,.zu 0,.s [],.l []],.b false]):=by
 cases a:placeOf n with
 |some p=>exact .inl ⟨p,rfl,axV b r c (λ_=>d) (λ_=>e) a⟩
 |none=>exact .inr ⟨rfl,axY b r a⟩
def axX{b:aO}{c:List aI}(h:rU b c){n:Q0}{p:Pl}(d:placeOf n=some p):TT.lim 111 [iM b (aG c),.s n]=some [.g [.zu 0,.zq (dP p),.zu (aZ b p).1,.s (aZ b p).2,.l []],.b true]:=by
 rcases axW b (aG c) h.body h.d h.t.few n with⟨q,a,e⟩|⟨a,-⟩
 ·rw[d]at a;injection a with a
  rw[a];exact e
 ·rw[d]at a;cases a
def zh(b c:aO):Pl->aO
 |.rem=>{c with remaining:=b.remaining}
 |.allow=>{c with allowed:=b.allowed}
 |.name=>{c with name:=b.name}
 |.region=>{c with region:=b.region}
 |.note=>{c with note:=b.note}
 |.d=>{c with d:=b.d}
 |.t=>{c with t:=b.t}
 |.num k=>match k with
  |0=>{c with id:=b.id}
  |1=>{c with min:=b.min}
  |2=>{c with max:=b.max}
  |3=>{c with chosen:=b.chosen}
  |4=>{c with flags:=b.flags}
  |5=>{c with cost:=b.cost}
  |6=>{c with priority:=b.priority}
  |7=>{c with deadline:=b.deadline}
  |8=>{c with retry:=b.retry}
  |9=>{c with epoch:=b.epoch}
  |10=>{c with base:=b.base}
  |11=>{c with digest:=b.digest}
  |12=>{c with lag:=b.lag}
  |13=>{c with code:=b.code}
  |_=>{c with want:=b.want}
def azY(b c:aO)(p:Pl):(zh b c p).kind=c.kind:=by unfold zh;split<;>first|rfl|(split<;>rfl)
def azZ(b c:aO)(j k:Nat)(d:k<15)(e:j<15)(a:j≠k):pW (zh b c (.num k)) j=pW c j:=by
 rcases k with _|_|_|_|_|_|_|_|_|_|_|_|_|_|_|k
 all_goals first|(exfalso;omega)|skip
 all_goals (rcases j with _|_|_|_|_|_|_|_|_|_|_|_|_|_|_|j)<;>first|rfl|exact absurd rfl a|(exfalso;omega)
def aGb(x:Int)(h: -9223372036854775808<=x/\x<=9223372036854775807):FI (zz x)=x:=by unfold FI zz;split<;>split<;>omega
def aF8(x:Int)(h: -9223372036854775808<=x/\x<=9223372036854775807):0<=zz x/\zz x<18446744073709551616:=by unfold zz;split<;>omega
def ajE(t:List Row)(a:dU t):(pY t).length<=90000000:=by
 have h:=acN t [] (λr b=>⟨a.few r b,(a.rows.2 r b).2⟩);have c:=a.len;have d:(aQ t.length).length<=20:=by have:=oJ (n:=t.length) (by omega);omega
 unfold pY;rw[eP];have:40000*t.length<=40000*300:=YF _ c;omega
def aDB{b:aO}{v:List aI}(h:rU b v)(x:b.name.length<=600/\b.region.length<=600/\b.note.length<=600)(p:Pl)(g:mZ b p=0)(a:¬((aZ b p).1=0/\(aZ b p).2=[])):
 lW (dP p) (aZ b p).1 (aZ b p).2 p=0/\(0<=(aZ b p).1/\(aZ b p).1<18446744073709551616)/\(aZ b p).2.length<=100000000/\∀c,setB c (aZ b p).1 (aZ b p).2 p=zh b c p:=by
 cases p with
 |rem=>have o:=h.body.remaining;have w:=aGb b.remaining o;have r:=aF8 b.remaining o;simp only[aZ]at a⊢;have f:¬zz b.remaining=0:=λe=>a ⟨e,trivial⟩;refine⟨by unfold lW;simp[dP,f,uX],r,by simp,λc=>?_⟩;simp only[setB,w,zh]
 |allow=>
  simp only[aZ]at a⊢;cases s:b.allowed with
  |false=>rw[s]at a;exact absurd ⟨rfl,trivial⟩ a
  |true=>refine⟨by unfold lW;simp[dP,uX],by simp,by simp,λc=>?_⟩;simp only[setB,zh,s]
 |name=>simp only[aZ]at a⊢;have f:¬b.name=[]:=λe=>a ⟨trivial,e⟩;simp only[mZ]at g;refine⟨by unfold lW;simp[dP,f,uX,g],by simp,by omega,λc=>rfl⟩
 |region=>simp only[aZ]at a⊢;have f:¬b.region=[]:=λe=>a ⟨trivial,e⟩;simp only[mZ]at g;refine⟨by unfold lW;simp[dP,f,uX,g],by simp,by omega,λc=>rfl⟩
 |note=>simp only[aZ]at a⊢;have f:¬b.note=[]:=λe=>a ⟨trivial,e⟩;simp only[mZ]at g;refine⟨by unfold lW;simp[dP,f,uX,g],by simp,by omega,λc=>rfl⟩
 |d=>
  simp only[aZ]at a⊢;have i:b.d≠[]:=λe=>a ⟨trivial,by rw[aj e]⟩;simp only[mZ,ah i]at g;have m:=agq b.d g;have u:=QH h.d;have j:dG b.d≠[]:=λe=>a ⟨trivial,by rw[ah i];exact e⟩;rw[ah i];refine⟨?_,by simp,by omega,λc=>?_⟩
  ·unfold lW;simp[dP,j,uX,m]
  ·simp only[setB,zh,m]
 |t=>
  simp only[aZ]at a⊢;have l:b.t≠[]:=λe=>a ⟨trivial,by rw[aj e]⟩;simp only[mZ]at g;have u:EP b.t=(pY b.t,0):=by unfold EP;rw[ah (by simpa using g)]
  rw[ah l,u]at a⊢;have m:=aE5 b.t ⟨(wO _).1 g,h.t.few,h.t.rows⟩;have r:=ajE b.t h.t;have j:pY b.t≠[]:=λe=>a ⟨trivial,e⟩;refine⟨?_,by simp,by simp only;omega,λc=>?_⟩
  ·have n:¬b.t.length=0:=λe=>l (jH e);unfold lW;simp[dP,j,uX,m,n,l]
  ·simp only[setB,zh,m]
 |num k=>
  simp only[aZ]at a⊢;have f:¬pW b k=0:=λe=>a ⟨e,trivial⟩;refine⟨by unfold lW;simp[dP,f,uX],?_,by simp,λc=>?_⟩
  ·have q:=h.body;unfold pW;split<;>first|exact q.id|exact q.min|exact q.max|exact q.chosen|exact q.flags|exact q.cost|exact q.priority|exact q.deadline|exact q.retry|exact q.epoch|exact q.base|exact q.digest|exact q.lag|exact q.code|exact q.want
  ·rcases k with _|_|_|_|_|_|_|_|_|_|_|_|_|_|k<;>rfl
def abj(b:aO):∀(l:List dQ),oG b l=0->∀s∈l,yu b s.name=0
 |[],_,s,a=>by cases a
 |x::l,h,s,a=>by
  unfold oG at h;split at h
  ·rename_i h0
   rcases bH.1 a with rfl|a
   ·exact h0
   ·exact abj b l h s a
  ·rename_i h0
   exact absurd h h0
def ayg(b:aO)(p:Pl)(h:iV b p=true):(aZ b p).1=0/\(aZ b p).2=[]:=by
 cases p with
 |rem=>simp only[iV,decide_eq_true_iff]at h;simp[aZ,h,zz]
 |allow=>simp only[iV,wC]at h;simp[aZ,h]
 |num k=>simp only[iV,decide_eq_true_iff]at h;simp[aZ,h]
 |_=>simp only[iV,decide_eq_true_iff]at h;simp[aZ,h]
def aoe{b:aO}{k:List aI}{v:Int}(h:gq b k v=0){n:Q0}{p:Pl}(f:placeOf n=some p)(g:¬((aZ b p).1=0/\(aZ b p).2=[])):mZ b p=0:=by
 unfold gq at h;split at h;· cases h
 split at h;· cases h
 split at h;· cases h
 split at h;· cases h
 rename_i a
 split at h
 ·rename_i c;exact absurd h c
 rename_i c
 have c:oG b (aW b.kind v)=0:=by simpa using c
 have a:iH.all (λn=>uJ (aW b.kind v) n ||qL b n)=true:=by rw[Yp]at a;exact a
 have d:=List.all_eq_true.1 a n (zX n p f).2.2;have l:qL b n=iV b p:=by unfold qL;rw[f]
 rw[l]at d;cases j:iV b p with
 |true=>exact absurd (ayg b p j) g
 |false=>
  rw[j,Le]at d;unfold uJ at d;rw[List.any_eq_true]at d;obtain⟨s,m,e⟩:=d;have e:s.name=n:=by simpa using e
  have i:=abj b _ c s m;unfold yu at i;rw[e,f]at i;exact i
