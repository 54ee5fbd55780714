/- What the trees compute: plain laws. -/
import Derived.Test.YtmkkknckcnpljaaGreatDoorKRe5
set_option linter.all false
namespace Go.Proofs.YtmkkknckcnpljaaGreatDoor
open Go Go.aO
set_option maxRecDepth 100000
namespace R
noncomputable def dP (p:Prop):Bool:=@decide p (Classical.propDecidable p)
def lK{p:Prop}(h:p):dP p=true:=@Bh p (Classical.propDecidable p) h
def kH{p:Prop}(h:¬p):dP p=false:=@zF p (Classical.propDecidable p) h
def LG{p q:Prop}(h:p↔q):dP p=dP q:=by rw[propext h]
def ig(t y n:Int)(s:Q0)(k:List aH):GV:=.g [.i .u64 t,.i .i64 y,.i .u64 n,.s s,.l (aC k)]
@[simp] theorem YD(t y n:Int)(s:Q0)(k:List aH):(ig t y n s k).cells=[.i .u64 t,.i .i64 y,.i .u64 n,.s s,.l (aC k)]:=rfl
def yK{l:List aH}{i:Nat}(h:i<l.length):∃t y n s k,l[i]? =some (.mk t y n s k)/\(aC l)[i]? =some (ig t y n s k)/\l.drop i=.mk t y n s k::l.drop (i+1)/\aH.mk t y n s k∈l:=by
 have a:(aC l)[i]? =some (iE l[i]):=by rw[rW,iw,bP h];rfl
 have b:=dF h;have c:=dW h;have d:=bP h;cases e:l[i]with
 |mk t y n s k=>rw[e]at a b c d;exact⟨t,y,n,s,k,d,by rw[a];simp only[iE];rfl,b,c⟩
def sJ:List aH->List aH->Option (List (List aH×List aH))
 |.mk t y n s k::a,.mk d e f g c::b=>if t=d/\y=e/\n=f/\s=g then(sJ a b).map λr=>(if k.length=0/\c.length=0 then[]else[(k,c)])++r else none
 |_,_=>some []
def ku(q:List aH×List aH):GV:=.g [.l (aC q.1),.l (aC q.2)]
@[simp] theorem aFB(q:List aH×List aH):(ku q).cells=[.l (aC q.1),.l (aC q.2)]:=rfl
def sG:List (List aH×List aH)->Nat
 |[]=>0
 |q::l=>cZ q.1+1+sG l
def UW:∀(a b:List (List aH×List aH)),sG (a++b)=sG a+sG b
 |[],b=>by simp[sG]
 |q::a,b=>by simp only[bJ,sG,UW a b];omega
def ag3:∀(a:List (List aH×List aH)),a.length<=sG a
 |[]=>by simp[sG]
 |q::a=>by have:=ag3 a;simp only[jw,sG];omega
def okP(q:List aH×List aH):Prop:=dO q.1/\dO q.2/\q.1.length<=1000000/\q.2.length<=1000000
def ah2:∀(a b:List aH),a.length=b.length->dO a->dO b->(match sJ a b with
 |none=>a≠b
 |some f=>((∀q∈f,q.1=q.2)↔a=b)/\sG f<=cZ a/\∀q∈f,okP q)
 |[],[],_,_,_=>by simp[sJ,sG]
 |[],_::_,e,_,_=>by simp at e
 |_::_,[],e,_,_=>by simp at e
 |.mk t y n s k::a,.mk v w x z A::b,e,g,i=>by
  simp only[dO,qF]at g i;have j:=ah2 a b (by simpa using e) g.2 i.2;unfold sJ;by_cases l:t=v/\y=w/\n=x/\s=z
  ·rw[aj l];obtain⟨rfl,rfl,rfl,rfl⟩:=l;cases p:sJ a b with
   |none=>
    rw[p]at j;simp only[acT];intro h;injection h with c d
    exact j d
   |some f=>
    rw[p]at j;obtain⟨r,J,u⟩:=j;simp only[gB];by_cases m:k.length=0/\A.length=0
    ·rw[aj m];have B:=jl m.1;have D:=jl m.2;subst B;subst D;refine⟨by simpa using r,by simp only[aW,cZ,qZ];omega,by simpa using u⟩
    ·rw[ah m];refine⟨?_,by simp only[bJ,aW,sG,cZ,qZ];omega,λq o=>?_⟩
     ·simp only[bJ,aW,bD,forall_eq_or_imp,r];constructor
      ·rintro⟨c,d⟩;rw[c,d]
      ·intro h;injection h with c d
       injection c with _ _ _ _ E
       exact⟨E,d⟩
     ·simp only[bJ,aW,bD]at o;rcases o with rfl|o
      ·exact⟨g.1.2,i.1.2,g.1.1.2.2.2.2.2.2.2,i.1.1.2.2.2.2.2.2.2⟩
      ·exact u q o
  ·rw[ah l];intro h;injection h with c d
   injection c with F G H I _
   exact l ⟨F,G,H,I⟩
def YH(a b:List aH)(Q:a.length=b.length)(z:a.length<=1000000)(S:dO a)(T:dO b):∀(m i:Nat)(c:List (List aH×List aH)),i+m=a.length->c.length+m<=4000000->
 TT.lim 275 [.l (c.map ku),.i .i64 a.length,.i .i64 i,.l (aC a),.l (aC b)]=some (match sJ (a.drop i) (b.drop i)with|none=>[.i .i64 0]|some g=>[.i .i64 1,.l ((c++g).map ku)])
 |0,i,c,hi,B=>by
  have U:a.drop i=[]:=cO (by omega);have V:b.drop i=[]:=cO (by omega);have h:¬((i:Int)<a.length):=by omega
  rw[U,V];simp only[sJ,ng];generalize c.map ku=A at *;refine au rfl rfl ?_;simp[h]
 |m+1,i,c,hi,B=>by
  obtain⟨t,y,n,s,k,g1,g2,W,g4⟩:=yK (l:=a) (i:=i) (by omega);obtain⟨X,Y,Z,s',j,aa,f,M,ab⟩:=yK (l:=b) (i:=i) (by omega);have u:=wrap64 (n:=(i:Int)+1) (by omega) (by omega);have h:((i:Int)<a.length):=by omega
  have o:((i+1:Nat):Int)=(i:Int)+1:=by omega
  have D:=jg k;have E:=jg j;rw[W,M];unfold sJ;by_cases p:t=X;rotate_left
  ·rw[ah λh=>p h.1];refine au rfl rfl ?_;simp[h,g2,f,p]
  by_cases q:y=Y;rotate_left
  ·rw[ah λh=>q h.2.1];refine au rfl rfl ?_;simp[h,g2,f,p,q]
  by_cases v:n=Z;rotate_left
  ·rw[ah λh=>v h.2.2.1];refine au rfl rfl ?_;simp[h,g2,f,p,q,v]
  by_cases x:s=s';rotate_left
  ·rw[ah λh=>x h.2.2.2];refine au rfl rfl ?_;simp[h,g2,f,p,q,v,x]
  rw[aj ⟨p,q,v,x⟩];by_cases L:k.length=0/\j.length=0
  ·rw[aj L];have d:=YH a b Q z S T m (i+1) c (by omega) (by omega);rw[o]at d;have F:=jl L.1;have G:=jl L.2;have N:(match Option.map (λr=>[]++r) (sJ (a.drop (i+1)) (b.drop (i+1)))with|none=>[GV.i .i64 0]|some g=>[GV.i .i64 1,GV.l ((c++g).map ku)])=(match sJ (a.drop (i+1)) (b.drop (i+1))with|none=>[GV.i .i64 0]|some g=>[GV.i .i64 1,GV.l ((c++g).map ku)]):=by cases sJ (a.drop (i+1)) (b.drop (i+1))<;>simp
   rw[N];generalize(match sJ (a.drop (i+1)) (b.drop (i+1))with|none=>[GV.i .i64 0]|some g=>[GV.i .i64 1,GV.l ((c++g).map ku)])=R at *;generalize c.map ku=A at *;refine au rfl rfl ?_;simp[h,g2,f,p,q,v,x,F,G,aC,u,d]
  ·rw[ah L];have d:=YH a b Q z S T m (i+1) (c++[(k,j)]) (by omega) (by simp;omega);rw[o]at d;have N:(match Option.map (λr=>[(k,j)]++r) (sJ (a.drop (i+1)) (b.drop (i+1)))with|none=>[GV.i .i64 0]|some g=>[GV.i .i64 1,GV.l ((c++g).map ku)])=(match sJ (a.drop (i+1)) (b.drop (i+1))with|none=>[GV.i .i64 0]|some g=>[GV.i .i64 1,GV.l ((c++[(k,j)]++g).map ku)]):=by cases sJ (a.drop (i+1)) (b.drop (i+1))<;>simp
   rw[N];generalize(match sJ (a.drop (i+1)) (b.drop (i+1))with|none=>[GV.i .i64 0]|some g=>[GV.i .i64 1,GV.l ((c++[(k,j)]++g).map ku)])=R at *;have H:(c++[(k,j)]).map ku=c.map ku++[.g [.l (aC k),.l (aC j)]]:=by simp[ku]
   rw[H]at d;have I:2*((c.map ku).length+1)*48<=281474976710656/\(c.map ku).length+1<=281474976710656:=by rw[je];omega
   generalize c.map ku=A at *;have J:A.length<=281474976710655:=by omega
   by_cases O:k.length=0;rotate_left
   ·have F:0<k.length:=by omega
    have P:k≠[]:=λe=>by rw[e]at O;exact O rfl
    have w:GV.dZ 2 (.g [.l (aC k),.l (aC j)])=true:=rfl;refine au rfl rfl ?_;simp[h,g2,f,p,q,v,x,D,E,F,P,u,d,w,I,J]
   ·have F:=jl O;have G:0<j.length:=by omega
    have P:j≠[]:=λe=>by rw[e]at G;exact absurd G (by simp)
    subst F;have w:GV.dZ 2 (.g [.l [],.l (aC j)])=true:=rfl;simp only[aC,ig]at d g2 D;refine au rfl rfl ?_;simp[h,g2,f,p,q,v,x,E,G,P,u,d,w,I,J]
def afe:∀(N:Nat)(c:List (List aH×List aH)),sG c<N->sG c<=2000000->(∀q∈c,okP q)->TT.lim 274 [.l (c.map ku)]=some [.i .i64 (if dP (∀q∈c,q.1=q.2)=true then 1 else 0)]
 |0,c,w,_,_=>by omega
 |N+1,c,w,J,p=>by
  rcases akt c with rfl|⟨d,q,rfl⟩
  ·have P:dP (∀q∈([]:List (List aH×List aH)),q.1=q.2)=true:=lK (by simp);rw[P];refine au rfl rfl ?_;simp
  ·rw[aks]at *;obtain⟨a,b⟩:=q;have i:=p (a,b) (by simp);obtain⟨y,z,L,Q⟩:=i;simp only at y z L Q;have M:=ag3 d;rw[UW]at w J;simp only[sG]at w J;have j:=jg a;have k:=jg b;have s:(d++[(a,b)]).map ku=d.map ku++[ku (a,b)]:=by simp
   have l:(d.map ku).length=d.length:=je ..;have e:∀x∈d.map ku,x.cells.length=2:=by intro x S;obtain⟨r,_,rfl⟩:=nR.1 S;rfl
   have f:=YH a b;have D:(0:Int)<(d.length:Int)+1:=by omega
   have E:(d.length:Int)+1-1=d.length:=by omega
   have F:(d.length:Int)<(d.length:Int)+1:=by omega
   have G:(d.length:Int)<=(d.length:Int)+1:=by omega
   have m:=wrap64 (n:=(d.length:Int)) (by omega) (by omega);rw[s];by_cases H:a.length=b.length;rotate_left
   ·have o:dP (∀q∈d++[(a,b)],q.1=q.2)=false:=kH λh=>H (tX List.length (h (a,b) (by simp)));have u:¬((a.length:Int)=(b.length:Int)):=by omega
    rw[o];generalize d.map ku=A at *;have t:=eq_true e;clear e;refine au rfl rfl ?_;simp[l,D,E,F,G,m,ku,j,k,u,t]
   ·have g:=ah2 a b H y z;have f:=f H L y z a.length 0 d (by omega) (by omega);rw[bK,bK,show((0:Nat):Int)=0 from rfl]at f;have u:b.length=a.length:=by omega
    cases O:sJ a b with
    |none=>
     rw[O]at g f;have o:dP (∀q∈d++[(a,b)],q.1=q.2)=false:=kH λh=>g (h (a,b) (by simp));rw[o];simp only at f;generalize d.map ku=A at *;have W:A.length<281474976710656:=by omega
     have t:=eq_true e;clear e;refine au rfl rfl ?_;simp[l,D,E,F,G,m,ku,j,k,u,f,t]
    |some v=>
     rw[O]at g f;obtain⟨T,X,U⟩:=g;have V:=afe N (d++v) (by rw[UW];omega) (by rw[UW];omega) (λq i=>by
      rcases iW.1 i with i|i
      ·exact p q (by simp[i])
      ·exact U q i)
     have I:dP (∀q∈d++[(a,b)],q.1=q.2)=dP (∀q∈d++v,q.1=q.2):=LG (by simp only[iW,or_imp,forall_and,T,yC,forall_eq])
     rw[I];generalize dP (∀q∈d++v,q.1=q.2)=R at *;simp only at f;generalize(d++v).map ku=B at *;generalize d.map ku=A at *;have t:=eq_true e;clear e;refine au rfl rfl ?_;simp[l,D,E,F,G,m,ku,j,k,u,f,t,V]
def arW(a b:List aH)(g:dO a)(i:dO b)(c:a.length<=1000000)(d:b.length<=1000000)(k:cZ a<=1000000):TT.lim 273 [.l (aC a),.l (aC b)]=some [.b (dP (a=b))]:=by
 have h:=afe (cZ a+2) [(a,b)] (by simp[sG]) (by simp[sG];omega) (by intro q f;simp at f;subst f;exact⟨g,i,c,d⟩);have e:dP (∀q∈[(a,b)],q.1=q.2)=dP (a=b):=LG (by simp);rw[e]at h;have j:[(a,b)].map ku=[.g [.l (aC a),.l (aC b)]]:=rfl;rw[j]at h;refine aG rfl rfl ?_ rfl;generalize dP (a=b)=r at *;cases r with
 |true=>simp at h;simp[h]
 |false=>simp at h;simp[h]
mutual
def toFt:aH->Ft
 |.mk t y n s k=>.mk [.int .u64 t,.int .i64 y,.int .u64 n,.string ⟨⟨s⟩⟩] (JF k)
def JF:List aH->List Ft
 |[]=>[]
 |f::l=>toFt f::JF l
end
mutual
def aCf:∀f:aH,DJ (toFt f) (iE f)/\cntF (toFt f)<=qZ f
 |.mk t y n s k=>by have h:=abS k;simp only[toFt,DJ,iE,cntF,qZ];exact⟨⟨_,_,_,_,_,rfl,rfl,h.1⟩,by omega⟩
def abS:∀l:List aH,pU (JF l) (aC l)/\oq (JF l)<=cZ l
 |[]=>by simp only[JF,pU,aC,oq,cZ];exact⟨trivial,dY _⟩
 |f::l=>by have h1:=aCf f;have a:=abS l;simp only[JF,pU,aC,oq,cZ];exact⟨⟨_,_,rfl,h1.1,a.1⟩,by omega⟩
end
def TB(l:List aH)(a:cZ l<=1000000):TT.lim 100 [.l (aC l)]=some [.l (aC l)]:=by refine Jr (Ds:=Ds) (k:=100) (f:=KY) rfl ?_;have h:=abS l;unfold KY;exact aj ⟨JF l,h.1,by omega⟩
def agW(b:aN)(l:List aH)(t:List Row)(q:t.length<=1000)(o:∀r∈t,r.1.length<=40):∀(m i:Nat),i+m=t.length->
 TT.lim 240 [.l ((t.take i).map row),.l (t.map row),.i .i64 t.length,.i .i64 i,.i .i64 b.kind,.i .u64 b.id,.i .u64 b.min,.i .u64 b.max,.i .u64 b.chosen,.i .u64 b.flags,.i .u64 b.cost,.i .u64 b.priority,.i .u64 b.deadline,.i .u64 b.retry,.i .u64 b.epoch,.i .u64 b.base,.i .u64 b.digest,.i .u64 b.lag,.i .u64 b.code,.i .u64 b.want,.i .i64 b.remaining,.b b.allowed,.s b.name,.s b.region,.s b.note,.l (b.d.map ent),.l (aC l)]=some [.i .i64 0,.l (t.map row)]
 |0,i,hi=>by
  have h0:t.take i=t:=lW (by omega);have h:¬((i:Int)<t.length):=by omega
  rw[h0];refine au rfl rfl ?_;simp[h]
 |m+1,i,hi=>by
  have a:i<t.length:=by omega
  have p:=agW b l t q o m (i+1) (by omega);have h:((i:Int)<t.length):=by omega
  have c:((i+1:Nat):Int)=(i:Int)+1:=by omega
  have e:=wrap64 (n:=(i:Int)+1) (by omega) (by omega);have s:(t.map row)[i]? =some (row t[i]):=by rw[iw,bP a];rfl
  have u:=EY t[i].1 (o _ (dW a));have d:GV.g [.l (t[i].1.map ent),.i .u64 t[i].2]=row t[i]:=rfl;have f:(t.take (i+1)).map row=(t.take i).map row++[row t[i]]:=by rw[QN,bP a,jG];rfl
  rw[f,c]at p;have g:(row t[i]).dZ 2=true:=rfl;have j:2*(((t.take i).map row).length+1)*32<=281474976710656:=by simp;omega
  have k:((t.take i).map row).length<=281474976710655:=by simp;omega
  generalize(t.take i).map row=A at *;generalize t.map row=L at *;refine au rfl rfl ?_;simp[h,s,u,d,g,j,k,e,p]
def ave(b:aN)(a:List aH)(i:b.d.length<=40)(c:dR b.t)(j:cZ a<=1000000):TT.lim 239 [dU b (aC a)]=some [dU b (aC a)]:=by
 have d:∀r∈b.t,r.1.length<=40:=λr k=>by have:=c.few r k;unfold gq at this;rw[aK,decide_eq_true_iff]at this;exact this.2
 have e:=agW b a b.t (by have:=c.len;omega) d b.t.length 0 (by omega);have p:=c.len;rw[QS,show((0:Nat):Int)=0 from rfl]at e;have l:=EY b.d i;have m:=TB a j;have f:((b.t.map row).length:Int)=b.t.length:=by simp
 have g:(32:Int)*b.t.length<=281474976710656:=by omega
 have h:(b.t.length:Int)<=1152921504606846976:=by omega
 have n:b.t.length<=8796093022208:=by omega
 simp only[jO]at e;generalize o:b.t.map row=L at *;refine aG rfl rfl ?_ rfl;unfold dU;rw[o];simp[f,e,l,m,GV.dZ,g,h];try omega
def G7(n:Int):Int:=if n%2=0 then n/2 else -(n/2)-1
def aDm(n:Int)(h0:0<=n)(h1:n<18446744073709551616):gG .and .u64 n 1=some (.i .u64 (n%2))/\gG .xor .i64 (IntKind.i64.wrap (n/2)) (IntKind.i64.wrap (0-IntKind.i64.wrap (n%2)))=some (.i .i64 (G7 n))/\n.fdiv 2=n/2:=by
 have a:∀y:Int,IntKind.u64.wrap y=y%18446744073709551616:=λy=>by simp[IntKind.wrap,IntKind.signed,IntKind.bits]
 have b:IntKind.u64.bits=64:=rfl;have hi:IntKind.i64.bits=64:=rfl;refine⟨?_,?_,QG _ (by decide)⟩
 ·simp only[gG,a,b];have e:(BitVec.ofInt 64 n &&& BitVec.ofInt 64 1).toNat=(BitVec.ofInt 64 n).toNat%2:=by rw[ach];exact Nat.and_one_is_mod _
  show some (GV.i IntKind.u64 (((BitVec.ofInt 64 n &&& BitVec.ofInt 64 1).toNat:Int)%18446744073709551616))=_
  rw[e,xB];congr 2;omega
 ·rw[wrap64 (by omega) (by omega),wrap64 (n:=n%2) (by omega) (by omega),wrap64 (by omega) (by omega)];simp only[gG,hi];unfold G7;by_cases h:n%2=0
  ·rw[aj h,h];have e:BitVec.ofInt 64 (0-0)=0#64:=rfl;show some (GV.i IntKind.i64 (IntKind.i64.wrap ((BitVec.ofInt 64 (n/2) ^^^ BitVec.ofInt 64 (0-0)).toNat:Int)))=_
   rw[e,BitVec.xor_zero,xB];congr 2;rw[wrap64 (by omega) (by omega)];omega
  ·rw[ah h,show n%2=1 by omega];have e:BitVec.ofInt 64 (0-1)=BitVec.allOnes 64:=by decide
   show some (GV.i IntKind.i64 (IntKind.i64.wrap ((BitVec.ofInt 64 (n/2) ^^^ BitVec.ofInt 64 (0-1)).toNat:Int)))=_
   rw[e,BitVec.xor_allOnes,BitVec.toNat_not,xB];congr 2;have c:∀y:Int,IntKind.i64.wrap y=if y%18446744073709551616>=9223372036854775808 then y%18446744073709551616-18446744073709551616 else y%18446744073709551616:=λy=>by simp[IntKind.wrap,IntKind.signed,IntKind.bits]
   rw[c];split<;>omega
def setB(b:aN)(n:Int)(s:Q0):Pl->aN
 |.rem=>{b with remaining:=G7 n}
 |.allow=>{b with allowed:=true}
 |.name=>{b with name:=s}
 |.region=>{b with region:=s}
 |.note=>{b with note:=s}
 |.d=>{b with d:=(jS s).1}
 |.t=>{b with t:=(nO s).1}
 |.num k=>match k with
  |0=>{b with id:=n}
  |1=>{b with min:=n}
  |2=>{b with max:=n}
  |3=>{b with chosen:=n}
  |4=>{b with flags:=n}
  |5=>{b with cost:=n}
  |6=>{b with priority:=n}
  |7=>{b with deadline:=n}
  |8=>{b with retry:=n}
  |9=>{b with epoch:=n}
  |10=>{b with base:=n}
  |11=>{b with digest:=n}
  |12=>{b with lag:=n}
  |13=>{b with code:=n}
  |_=>{b with want:=n}
def qY(n:Int)(s:Q0):Pl->Int
 |.allow=>if n=1 then 0 else 18
 |.name=>iV s 0 256
 |.region=>iV s 0 256
 |.note=>iV s 0 256
 |.d=>(jS s).2
 |.t=>if(nO s).2=0 then(if(nO s).1.length=0 then 17 else 0)else(nO s).2
 |_=>0
def fF(ty n:Int)(s:Q0)(p:Pl):Int:=if ty=bQ p then(if ty=0 then(if n=0 then 17 else qY n s p)else(if s=[]then 17 else qY n s p))else 8
def auC(u:Int):TT.lim 242 [.i .i64 u]=some [.i .i64 (if u=0 then 0 else if u=1 then 0 else if u=2 then 0 else if u=3 then 1 else if u=4 then 1 else if u=5 then 1 else -1)]:=by
 refine aG rfl rfl ?_ rfl;by_cases a:u=0
 ·simp[a]
 by_cases b:u=1
 ·simp[b]
 by_cases c:u=2
 ·simp[c]
 by_cases d:u=3
 ·simp[d]
 by_cases e:u=4
 ·simp[e]
 by_cases f:u=5
 ·simp[f]
 simp[a,b,c,d,e,f]
def fP(b:aN):Q1:=[.i .u64 b.id,.i .u64 b.min,.i .u64 b.max,.i .u64 b.chosen,.i .u64 b.flags,.i .u64 b.cost,.i .u64 b.priority,.i .u64 b.deadline,.i .u64 b.retry,.i .u64 b.epoch,.i .u64 b.base,.i .u64 b.digest,.i .u64 b.lag,.i .u64 b.code,.i .u64 b.want,.i .i64 b.remaining,.b b.allowed,.s b.name,.s b.region,.s b.note,.l (b.d.map ent),.l (b.t.map row)]
def Xj(b:aN)(r:Q1)(tag ty n:Int)(s:Q0)(L:GV)(c:Q0)(p:Pl):Prop:=∃a:aN,TT.lim 241 [.s c,.i .u64 tag,.i .i64 ty,.i .u64 n,.s s,L,.i .i64 b.kind,.i .u64 b.id,.i .u64 b.min,.i .u64 b.max,.i .u64 b.chosen,.i .u64 b.flags,.i .u64 b.cost,.i .u64 b.priority,.i .u64 b.deadline,.i .u64 b.retry,.i .u64 b.epoch,.i .u64 b.base,.i .u64 b.digest,.i .u64 b.lag,.i .u64 b.code,.i .u64 b.want,.i .i64 b.remaining,.b b.allowed,.s b.name,.s b.region,.s b.note,.l (b.d.map ent),.l (b.t.map row),.l r]=some ([.i .i64 0,.i .i64 (fF ty n s p)]++fP a)/\(fF ty n s p=0->a=setB b n s p)
set_option maxHeartbeats 8000000 in
def aBk(b:aN)(r:Q1)(tag ty n:Int)(s:Q0)(L:GV)(w:0<=n/\n<18446744073709551616)(x:s.length<=100000000){o:Q0}{p:Pl}(q:placeOf o=some p):Xj b r tag ty n s L o p:=by
 unfold Xj;have g:=auC;have i:=I5 q;have k:=(D7 o p q).2.1;clear q;by_cases h1:ty=bQ p;rotate_left
 ·have e:fF ty n s p=8:=by unfold fF;rw[ah h1]
  refine⟨b,?_,λh=>by rw[e]at h;cases h⟩;rw[e];clear e;induction p,k using D6<;>(simp only[bQ]at h1;refine au rfl rfl ?_;simp[i,fP,g,h1])
 subst h1;by_cases f:(bQ p=0/\n=0)\/(bQ p=1/\s=[])
 ·have e:fF (bQ p) n s p=17:=by
   unfold fF;rw[aj rfl];rcases f with⟨a,c⟩|⟨a,c⟩
   ·rw[aj a,aj c]
   ·rw[ah (by omega),aj c]
  refine⟨b,?_,λh=>by rw[e]at h;cases h⟩;rw[e];clear e;induction p,k using D6<;>(simp[bQ]at f;refine au rfl rfl ?_;simp[i,fP,g,bQ,f])
 have e:fF (bQ p) n s p=qY n s p:=by
  unfold fF;rw[aj rfl];by_cases a:bQ p=0
  ·rw[aj a,ah λc=>f (.inl ⟨a,c⟩)]
  ·rw[ah a,ah λc=>f (.inr ⟨by cases p<;>simp[bQ]at a⊢,c⟩)]
 rw[e];clear e;induction p,k using D6
 case h0=>
  have f:¬n=0:=by simpa[bQ]using f
  obtain⟨z,y,A⟩:=aDm n w.1 w.2;refine⟨{b with remaining:=G7 n},?_,λ_=>rfl⟩;show _=some ([GV.i .i64 0,GV.i .i64 0]++_)
  refine au rfl rfl ?_;simp only[Int.zero_sub]at y;simp[i,fP,g,bQ,f,oW,IntKind.bits,z,y,A]
 case h1=>
  have f:¬n=0:=by simpa[bQ]using f
  by_cases j:n=1
  ·have v:qY n s .allow=0:=by unfold qY;rw[aj j]
   rw[v];refine⟨{b with allowed:=true},?_,λ_=>rfl⟩;refine au rfl rfl ?_;simp[i,fP,g,bQ,f,j]
  ·have v:qY n s .allow=18:=by unfold qY;rw[ah j]
   rw[v];refine⟨b,?_,λh=>by cases h⟩;refine au rfl rfl ?_;simp[i,fP,g,bQ,f,j]
 case h5=>
  have f:¬s=[]:=by simpa[bQ]using f
  have l:=aeC s x;refine⟨{b with d:=(jS s).1},?_,λ_=>rfl⟩;show _=some ([GV.i .i64 0,GV.i .i64 (jS s).2]++_)
  refine au rfl rfl ?_;simp[i,fP,g,bQ,f,l]
 case h6=>
  have f:¬s=[]:=by simpa[bQ]using f
  have l:=aCl s x;refine⟨{b with t:=(nO s).1},?_,λ_=>rfl⟩;unfold qY;by_cases j:(nO s).2=0
  ·rw[aj j];by_cases m:(nO s).1.length=0
   ·have h5:=jl m;rw[aj m];refine au rfl rfl ?_;simp[i,fP,g,bQ,f,l,j,h5]
   ·have h5:(nO s).1≠[]:=λe=>m (by rw[e];rfl);rw[ah m];refine au rfl rfl ?_;simp[i,fP,g,bQ,f,l,j,h5]
  ·rw[ah j];refine au rfl rfl ?_;simp[i,fP,g,bQ,f,l,j]
 all_goals first
  |(have f:¬s=[]:=by simpa[bQ]using f
    have l:=EX s 0 256 (by omega);refine⟨setB b n s _,?_,λ_=>rfl⟩;show _=some ([GV.i .i64 0,GV.i .i64 (iV s 0 256)]++_)
    generalize iV s 0 256=u at *;refine au rfl rfl ?_;simp[i,fP,setB,g,bQ,f,l];done)
  |(have f:¬n=0:=by simpa[bQ]using f
    refine⟨setB b n s _,?_,λ_=>rfl⟩;show _=some ([GV.i .i64 0,GV.i .i64 0]++_)
    refine au rfl rfl ?_;simp[i,fP,setB,g,bQ,f])
def gU:aN:={kind:=0,id:=0,min:=0,max:=0,chosen:=0,flags:=0,cost:=0,priority:=0,deadline:=0,retry:=0,epoch:=0,base:=0,digest:=0,lag:=0,code:=0,want:=0,remaining:=0,allowed:=false,name:=[],region:=[],note:=[],d:=[],t:=[]}
def kE:IntKind.i64.wrap 0=0:=wrap64 (by decide) (by decide)
def kF:IntKind.i64.wrap 1=1:=wrap64 (by decide) (by decide)
def ab8(b:aN)(r:Q1)(ty n:Int)(s:Q0)(p:Pl):Q1:=if fF ty n s p=0 then[dU (setB b n s p) r,.i .i64 0]else[dU gU [],.i .i64 (fF ty n s p)]
def ab7(b:aN)(r:Q1)(ty n:Int)(s a:Q0):Q1:=match placeOf a with
 |some p=>ab8 b r ty n s p
 |none=>[dU gU [],.i .i64 26]
def VB(b:aN)(n:Int)(s:Q0)(p:Pl):(setB b n s p).kind=b.kind:=by unfold setB;split<;>first|rfl|(split<;>rfl)
def aBm(b:aN)(r:Q1)(tag ty n:Int)(s:Q0)(L:GV){a:Q0}(c:placeOf a=none):TT.lim 241 [.s a,.i .u64 tag,.i .i64 ty,.i .u64 n,.s s,L,.i .i64 b.kind,.i .u64 b.id,.i .u64 b.min,.i .u64 b.max,.i .u64 b.chosen,.i .u64 b.flags,.i .u64 b.cost,.i .u64 b.priority,.i .u64 b.deadline,.i .u64 b.retry,.i .u64 b.epoch,.i .u64 b.base,.i .u64 b.digest,.i .u64 b.lag,.i .u64 b.code,.i .u64 b.want,.i .i64 b.remaining,.b b.allowed,.s b.name,.s b.region,.s b.note,.l (b.d.map ent),.l (b.t.map row),.l r]=some ([.i .i64 0,.i .i64 26]++fP b):=by have d:=afQ c;refine au rfl rfl ?_;simp[fP,d]
def aBj(b:aN)(r:Q1)(tag ty n:Int)(s:Q0)(L:GV)(d:0<=n/\n<18446744073709551616)(e:s.length<=100000000)(a:Q0):(∃p,placeOf a=some p/\Xj b r tag ty n s L a p)\/(placeOf a=none/\TT.lim 241 [.s a,.i .u64 tag,.i .i64 ty,.i .u64 n,.s s,L,.i .i64 b.kind,.i .u64 b.id,.i .u64 b.min,.i .u64 b.max,.i .u64 b.chosen,.i .u64 b.flags,.i .u64 b.cost,.i .u64 b.priority,.i .u64 b.deadline,.i .u64 b.retry,.i .u64 b.epoch,.i .u64 b.base,.i .u64 b.digest,.i .u64 b.lag,.i .u64 b.code,.i .u64 b.want,.i .i64 b.remaining,.b b.allowed,.s b.name,.s b.region,.s b.note,.l (b.d.map ent),.l (b.t.map row),.l r]=some ([.i .i64 0,.i .i64 26]++fP b)):=by
 cases c:placeOf a with
 |some p=>exact .inl ⟨p,rfl,aBk b r tag ty n s L d e c⟩
 |none=>exact .inr ⟨rfl,aBm b r tag ty n s L c⟩
def avN(K:Q1)(b:aN)(c:List aH)(k:b.d.length<=40)(l:dR b.t)(f:cZ c<=1000000)(tag ty n:Int)(s:Q0)(m:0<=n/\n<18446744073709551616)(o:s.length<=100000000)(g:Q0):
 TT.lim 238 [dU b (aC c),.s g,.g [.i .u64 tag,.i .i64 ty,.i .u64 n,.s s,.l K]]=some (ab7 b (aC c) ty n s g):=by
 have h:=ave b c k l f;have q:=aBj b (aC c) tag ty n s (.l K) m o g;generalize aC c=r at *;have j:GV.g [.i .i64 0,.i .u64 0,.i .u64 0,.i .u64 0,.i .u64 0,.i .u64 0,.i .u64 0,.i .u64 0,.i .u64 0,.i .u64 0,.i .u64 0,.i .u64 0,.i .u64 0,.i .u64 0,.i .u64 0,.i .u64 0,.i .i64 0,.b false,.s [],.s [],.s [],.l [],.l [],.l []]=dU gU []:=rfl;unfold ab7;rcases q with⟨p,i,x,a,t⟩|⟨i,a⟩
 ·rw[i];simp only;unfold ab8;have u:=VB b n s p;generalize fF ty n s p=e at *;by_cases d:e=0
  ·have v:=t d;rw[aj d];rw[d,v]at a;have w:dU (setB b n s p) r=GV.g ([.i .i64 b.kind]++fP (setB b n s p)++[.l r]):=by rw[<-u];rfl
   rw[w];generalize setB b n s p=B at *;unfold fP at a⊢;refine aG rfl rfl ?_ rfl;simp[eF,h];simp[a]
  ·rw[ah d];unfold fP at a;rw[<-j];refine aG rfl rfl ?_ rfl;simp[eF,h];simp[a,d]
 ·rw[i];simp only;unfold fP at a;rw[<-j];refine aG rfl rfl ?_ rfl;simp[eF,h];simp[a]
def dL(b c:aN):Pl->Prop
 |.rem=>b.remaining=c.remaining
 |.allow=>b.allowed=c.allowed
 |.name=>b.name=c.name
 |.region=>b.region=c.region
 |.note=>b.note=c.note
 |.d=>b.d=c.d
 |.t=>b.t=c.t
 |.num k=>DW b k=DW c k
def nC(b c:aN)(d e:Q1)(f:Nat)(n:Q0)(p:Prop):Prop:=∀(a:Q1)(L K:Int)(i:Nat),(i:Int)<L->a[i]? =some (.s n)->IntKind.i64.wrap ((i:Int)+1)=(i:Int)+1->TT.lim f ([.l a,.i .i64 L,.i .i64 ((i:Int)+1)]++(dU c e).cells++(dU b d).cells)=some [.i .i64 K]->TT.lim f ([.l a,.i .i64 L,.i .i64 i]++(dU c e).cells++(dU b d).cells)=some [.i .i64 (if dP p=true then K else 0)]
def avu(b c:aN)(j k:Q1):nC b c j k 266 F8 (dL b c (.num 0)):=by
 intro l L K i h a g f;rw[dK,dK]at f⊢;simp only[bJ,aW]at f⊢;unfold F8 at a;by_cases d:b.id=c.id
 ·have e:dP (dL b c (.num 0))=true:=lK d;rw[e];replace d:=eq_true d
  refine au rfl rfl ?_;simp[h,a,d,g,f]
 ·have e:dP (dL b c (.num 0))=false:=kH d;rw[e];refine au rfl rfl ?_;simp[h,a,d,g]
def avx(b c:aN)(j k:Q1):nC b c j k 266 Gg (dL b c (.num 1)):=by
 intro l L K i h a g f;rw[dK,dK]at f⊢;simp only[bJ,aW]at f⊢;unfold Gg at a;by_cases d:b.min=c.min
 ·have e:dP (dL b c (.num 1))=true:=lK d;rw[e];replace d:=eq_true d
  refine au rfl rfl ?_;simp[h,a,d,g,f]
 ·have e:dP (dL b c (.num 1))=false:=kH d;rw[e];refine au rfl rfl ?_;simp[h,a,d,g]
def avw(b c:aN)(j k:Q1):nC b c j k 266 Gf (dL b c (.num 2)):=by
 intro l L K i h a g f;rw[dK,dK]at f⊢;simp only[bJ,aW]at f⊢;unfold Gf at a;by_cases d:b.max=c.max
 ·have e:dP (dL b c (.num 2))=true:=lK d;rw[e];replace d:=eq_true d
  refine au rfl rfl ?_;simp[h,a,d,g,f]
 ·have e:dP (dL b c (.num 2))=false:=kH d;rw[e];refine au rfl rfl ?_;simp[h,a,d,g]
def avm(b c:aN)(j k:Q1):nC b c j k 266 FY (dL b c (.num 3)):=by
 intro l L K i h a g f;rw[dK,dK]at f⊢;simp only[bJ,aW]at f⊢;unfold FY at a;by_cases d:b.chosen=c.chosen
 ·have e:dP (dL b c (.num 3))=true:=lK d;rw[e];replace d:=eq_true d
  refine au rfl rfl ?_;simp[h,a,d,g,f]
 ·have e:dP (dL b c (.num 3))=false:=kH d;rw[e];refine au rfl rfl ?_;simp[h,a,d,g]
def avt(b c:aN)(j k:Q1):nC b c j k 266 F7 (dL b c (.num 4)):=by
 intro l L K i h a g f;rw[dK,dK]at f⊢;simp only[bJ,aW]at f⊢;unfold F7 at a;by_cases d:b.flags=c.flags
 ·have e:dP (dL b c (.num 4))=true:=lK d;rw[e];replace d:=eq_true d
  refine au rfl rfl ?_;simp[h,a,d,g,f]
 ·have e:dP (dL b c (.num 4))=false:=kH d;rw[e];refine au rfl rfl ?_;simp[h,a,d,g]
def avo(b c:aN)(j k:Q1):nC b c j k 266 FZ (dL b c (.num 5)):=by
 intro l L K i h a g f;rw[dK,dK]at f⊢;simp only[bJ,aW]at f⊢;unfold FZ at a;by_cases d:b.cost=c.cost
 ·have e:dP (dL b c (.num 5))=true:=lK d;rw[e];replace d:=eq_true d
  refine au rfl rfl ?_;simp[h,a,d,g,f]
 ·have e:dP (dL b c (.num 5))=false:=kH d;rw[e];refine au rfl rfl ?_;simp[h,a,d,g]
def avC(b c:aN)(j k:Q1):nC b c j k 266 Gi (dL b c (.num 6)):=by
 intro l L K i h a g f;rw[dK,dK]at f⊢;simp only[bJ,aW]at f⊢;unfold Gi at a;by_cases d:b.priority=c.priority
 ·have e:dP (dL b c (.num 6))=true:=lK d;rw[e];replace d:=eq_true d
  refine au rfl rfl ?_;simp[h,a,d,g,f]
 ·have e:dP (dL b c (.num 6))=false:=kH d;rw[e];refine au rfl rfl ?_;simp[h,a,d,g]
def avp(b c:aN)(j k:Q1):nC b c j k 266 F5 (dL b c (.num 7)):=by
 intro l L K i h a g f;rw[dK,dK]at f⊢;simp only[bJ,aW]at f⊢;unfold F5 at a;by_cases d:b.deadline=c.deadline
 ·have e:dP (dL b c (.num 7))=true:=lK d;rw[e];replace d:=eq_true d
  refine au rfl rfl ?_;simp[h,a,d,g,f]
 ·have e:dP (dL b c (.num 7))=false:=kH d;rw[e];refine au rfl rfl ?_;simp[h,a,d,g]
def avF(b c:aN)(j k:Q1):nC b c j k 266 Gl (dL b c (.num 8)):=by
 intro l L K i h a g f;rw[dK,dK]at f⊢;simp only[bJ,aW]at f⊢;unfold Gl at a;by_cases d:b.retry=c.retry
 ·have e:dP (dL b c (.num 8))=true:=lK d;rw[e];replace d:=eq_true d
  refine au rfl rfl ?_;simp[h,a,d,g,f]
 ·have e:dP (dL b c (.num 8))=false:=kH d;rw[e];refine au rfl rfl ?_;simp[h,a,d,g]
def avs(b c:aN)(j k:Q1):nC b c j k 266 yQ (dL b c (.num 9)):=by
 intro l L K i h a g f;rw[dK,dK]at f⊢;simp only[bJ,aW]at f⊢;unfold yQ at a;by_cases d:b.epoch=c.epoch
 ·have e:dP (dL b c (.num 9))=true:=lK d;rw[e];replace d:=eq_true d
  refine au rfl rfl ?_;simp[h,a,d,g,f]
 ·have e:dP (dL b c (.num 9))=false:=kH d;rw[e];refine au rfl rfl ?_;simp[h,a,d,g]
def avl(b c:aN)(j k:Q1):nC b c j k 266 FX (dL b c (.num 10)):=by
 intro l L K i h a g f;rw[dK,dK]at f⊢;simp only[bJ,aW]at f⊢;unfold FX at a;by_cases d:b.base=c.base
 ·have e:dP (dL b c (.num 10))=true:=lK d;rw[e];replace d:=eq_true d
  refine au rfl rfl ?_;simp[h,a,d,g,f]
 ·have e:dP (dL b c (.num 10))=false:=kH d;rw[e];refine au rfl rfl ?_;simp[h,a,d,g]
def avr(b c:aN)(j k:Q1):nC b c j k 266 F6 (dL b c (.num 11)):=by
 intro l L K i h a g f;rw[dK,dK]at f⊢;simp only[bJ,aW]at f⊢;unfold F6 at a;by_cases d:b.digest=c.digest
 ·have e:dP (dL b c (.num 11))=true:=lK d;rw[e];replace d:=eq_true d
  refine au rfl rfl ?_;simp[h,a,d,g,f]
 ·have e:dP (dL b c (.num 11))=false:=kH d;rw[e];refine au rfl rfl ?_;simp[h,a,d,g]
def avv(b c:aN)(j k:Q1):nC b c j k 266 F9 (dL b c (.num 12)):=by
 intro l L K i h a g f;rw[dK,dK]at f⊢;simp only[bJ,aW]at f⊢;unfold F9 at a;by_cases d:b.lag=c.lag
 ·have e:dP (dL b c (.num 12))=true:=lK d;rw[e];replace d:=eq_true d
  refine au rfl rfl ?_;simp[h,a,d,g,f]
 ·have e:dP (dL b c (.num 12))=false:=kH d;rw[e];refine au rfl rfl ?_;simp[h,a,d,g]
def avn(b c:aN)(j k:Q1):nC b c j k 266 yP (dL b c (.num 13)):=by
 intro l L K i h a g f;rw[dK,dK]at f⊢;simp only[bJ,aW]at f⊢;unfold yP at a;by_cases d:b.code=c.code
 ·have e:dP (dL b c (.num 13))=true:=lK d;rw[e];replace d:=eq_true d
  refine au rfl rfl ?_;simp[h,a,d,g,f]
 ·have e:dP (dL b c (.num 13))=false:=kH d;rw[e];refine au rfl rfl ?_;simp[h,a,d,g]
def avI(b c:aN)(j k:Q1):nC b c j k 266 zX (dL b c (.num 14)):=by
 intro l L K i h a g f;rw[dK,dK]at f⊢;simp only[bJ,aW]at f⊢;unfold zX at a;by_cases d:b.want=c.want
 ·have e:dP (dL b c (.num 14))=true:=lK d;rw[e];replace d:=eq_true d
  refine au rfl rfl ?_;simp[h,a,d,g,f]
 ·have e:dP (dL b c (.num 14))=false:=kH d;rw[e];refine au rfl rfl ?_;simp[h,a,d,g]
def avE(b c:aN)(j k:Q1):nC b c j k 266 Je (dL b c .rem):=by
 intro l L K i h a g f;rw[dK,dK]at f⊢;simp only[bJ,aW]at f⊢;unfold Je at a;by_cases d:b.remaining=c.remaining
 ·have e:dP (dL b c .rem)=true:=lK d;rw[e];replace d:=eq_true d
  refine au rfl rfl ?_;simp[h,a,d,g,f]
 ·have e:dP (dL b c .rem)=false:=kH d;rw[e];refine au rfl rfl ?_;simp[h,a,d,g]
def avk(b c:aN)(j k:Q1):nC b c j k 266 Jc (dL b c .allow):=by
 intro l L K i h a g f;rw[dK,dK]at f⊢;simp only[bJ,aW]at f⊢;unfold Jc at a;by_cases d:b.allowed=c.allowed
 ·have e:dP (dL b c .allow)=true:=lK d;rw[e];replace d:=eq_true d
  refine au rfl rfl ?_;simp[h,a,d,g,f]
 ·have e:dP (dL b c .allow)=false:=kH d;rw[e];refine au rfl rfl ?_;simp[h,a,d,g]
def avy(b c:aN)(j k:Q1):nC b c j k 266 Gh (dL b c .name):=by
 intro l L K i h a g f;rw[dK,dK]at f⊢;simp only[bJ,aW]at f⊢;unfold Gh at a;by_cases d:b.name=c.name
 ·have e:dP (dL b c .name)=true:=lK d;rw[e];replace d:=eq_true d
  refine au rfl rfl ?_;simp[h,a,d,g,f]
 ·have e:dP (dL b c .name)=false:=kH d;rw[e];refine au rfl rfl ?_;simp[h,a,d,g]
def avD(b c:aN)(j k:Q1):nC b c j k 266 Gj (dL b c .region):=by
 intro l L K i h a g f;rw[dK,dK]at f⊢;simp only[bJ,aW]at f⊢;unfold Gj at a;by_cases d:b.region=c.region
 ·have e:dP (dL b c .region)=true:=lK d;rw[e];replace d:=eq_true d
  refine au rfl rfl ?_;simp[h,a,d,g,f]
 ·have e:dP (dL b c .region)=false:=kH d;rw[e];refine au rfl rfl ?_;simp[h,a,d,g]
def avz(b c:aN)(j k:Q1):nC b c j k 266 BL (dL b c .note):=by
 intro l L K i h a g f;rw[dK,dK]at f⊢;simp only[bJ,aW]at f⊢;unfold BL at a;by_cases d:b.note=c.note
 ·have e:dP (dL b c .note)=true:=lK d;rw[e];replace d:=eq_true d
  refine au rfl rfl ?_;simp[h,a,d,g,f]
 ·have e:dP (dL b c .note)=false:=kH d;rw[e];refine au rfl rfl ?_;simp[h,a,d,g]
def avq(b c:aN)(m n:Q1)(f:b.d.length<=140737488351232)(g:c.d.length<=140737488351232):nC b c m n 266 Jd (dL b c .d):=by
 intro o L K i h a l j;rw[dK,dK]at j⊢;simp only[bJ,aW]at j⊢;unfold Jd at a;have k:=aeY b.d c.d f g;by_cases d:b.d=c.d
 ·have e:dP (dL b c .d)=true:=lK d;rw[e];rw[Bh d]at k;refine au rfl rfl ?_;simp[h,a,k,l,j]
 ·have e:dP (dL b c .d)=false:=kH d;rw[e];rw[zF d]at k;refine au rfl rfl ?_;simp[h,a,k,l]
def avH(b c:aN)(m n:Q1)(f:dR b.t)(g:dR c.t):nC b c m n 266 Jf (dL b c .t):=by
 intro o L K i h a l j;rw[dK,dK]at j⊢;simp only[bJ,aW]at j⊢;unfold Jf at a;have k:=aBa b.t c.t f g;by_cases d:b.t=c.t
 ·have e:dP (dL b c .t)=true:=lK d;rw[e];rw[Bh d]at k;refine au rfl rfl ?_;simp[h,a,k,l,j]
 ·have e:dP (dL b c .t)=false:=kH d;rw[e];rw[zF d]at k;refine au rfl rfl ?_;simp[h,a,k,l]
def ag9:fZ=[Jc,FX,FY,yP,FZ,F5,Jd,F6,yQ,F7,F8,F9,Gf,Gg,Gh,BL,Gi,Gj,Je,Gl,Jf,zX]:=rfl
def avG(b c:aN)(a d:Q1)(e:b.d.length<=140737488351232)(f:c.d.length<=140737488351232)(g:dR b.t)(h:dR c.t):∀n∈fZ,∃p,placeOf n=some p/\nC b c a d 266 n (dL b c p):=by
 intro n i;rw[ag9]at i;simp only[bD,Hf,or_false]at i;rcases i with rfl|rfl|rfl|rfl|rfl|rfl|rfl|rfl|rfl|rfl|rfl|rfl|rfl|rfl|rfl|rfl|rfl|rfl|rfl|rfl|rfl|rfl
 ·exact⟨_,ahA,avk b c a d⟩
 ·exact⟨_,ahB,avl b c a d⟩
 ·exact⟨_,ahC,avm b c a d⟩
 ·exact⟨_,ahD,avn b c a d⟩
 ·exact⟨_,ahE,avo b c a d⟩
 ·exact⟨_,ahF,avp b c a d⟩
 ·exact⟨_,ahG,avq b c a d e f⟩
 ·exact⟨_,ahH,avr b c a d⟩
 ·exact⟨_,ahI,avs b c a d⟩
 ·exact⟨_,ahJ,avt b c a d⟩
 ·exact⟨_,ahK,avu b c a d⟩
 ·exact⟨_,ahL,avv b c a d⟩
 ·exact⟨_,ahM,avw b c a d⟩
 ·exact⟨_,ahN,avx b c a d⟩
 ·exact⟨_,ahO,avy b c a d⟩
 ·exact⟨_,ahP,avz b c a d⟩
 ·exact⟨_,ahQ,avC b c a d⟩
 ·exact⟨_,ahR,avD b c a d⟩
 ·exact⟨_,ahS,avE b c a d⟩
 ·exact⟨_,ahT,avF b c a d⟩
 ·exact⟨_,ahU,avH b c a d g h⟩
 ·exact⟨_,ahV,avI b c a d⟩
def ai7(b c:aN)(k l:Q1)(f:Nat)(Q:Pl->Prop)(a:∀(w:Q1)(L:Int)(i:Nat),¬(i:Int)<L->TT.lim f ([.l w,.i .i64 L,.i .i64 i]++(dU c l).cells++(dU b k).cells)=some [.i .i64 1])(t:∀n∈fZ,∃p,placeOf n=some p/\nC b c k l f n (Q p)):∀m i:Nat,i+m=fZ.length->
 TT.lim f ([.l (fZ.map .s),.i .i64 fZ.length,.i .i64 i]++(dU c l).cells++(dU b k).cells)=some [.i .i64 (if dP (∀n∈fZ.drop i,∀p,placeOf n=some p->Q p)=true then 1 else 0)]
 |0,i,hi=>by have e:dP (∀n∈fZ.drop i,∀p,placeOf n=some p->Q p)=true:=lK (by rw[cO (by omega)];simp);rw[e];exact a _ _ i (by omega)
 |m+1,i,hi=>by
  have d:i<fZ.length:=by omega
  have x:fZ.length=22:=rfl;have y:=wrap64 (n:=(i:Int)+1) (by omega) (by omega);have u:=ai7 b c k l f Q a t m (i+1) (by omega);obtain⟨p,v,r⟩:=t _ (dW d);have s:(fZ.map GV.s)[i]? =some (.s fZ[i]):=by rw[iw,bP d];rfl
  have g:((i+1:Nat):Int)=(i:Int)+1:=by omega
  rw[g]at u;have z:=r _ _ _ i (by omega) s y u;rw[z,dF d];have j:(∀n∈fZ[i]::fZ.drop (i+1),∀p,placeOf n=some p->Q p)↔(Q p/\∀n∈fZ.drop (i+1),∀p,placeOf n=some p->Q p):=by
   simp only[bD,forall_eq_or_imp];constructor
   ·exact λh=>⟨h.1 p v,h.2⟩
   ·intro h;refine⟨λq j=>?_,h.2⟩;rw[v]at j;injection j with j
    rw[<-j];exact h.1
  rw[LG j];by_cases o:Q p
  ·rw[lK o,aj rfl];have:dP (Q p/\∀n∈fZ.drop (i+1),∀p,placeOf n=some p->Q p)=dP (∀n∈fZ.drop (i+1),∀p,placeOf n=some p->Q p):=LG ⟨λh=>h.2,λh=>⟨o,h⟩⟩;rw[this]
  ·rw[kH o,ah (by decide),kH λh=>o h.1,ah (by decide)]
def parts_all(b c:aN)(D:b.kind=c.kind):(∀n∈fZ,∀p,placeOf n=some p->dL b c p)↔b=c:=by
 constructor
 ·intro h;rw[ag9]at h;have a:∀{n:Q0}{p:Pl},n∈[Jc,FX,FY,yP,FZ,F5,Jd,F6,yQ,F7,F8,F9,Gf,Gg,Gh,BL,Gi,Gj,Je,Gl,Jf,zX]->placeOf n=some p->dL b c p:=λE F=>h _ E _ F;have d:=a (by simp) ahS;have e:=a (by simp) ahA;have f:=a (by simp) ahO;have g:=a (by simp) ahR;have i:=a (by simp) ahP;have j:=a (by simp) ahG;have k:=a (by simp) ahU;have l:=a (by simp) ahK;have m:=a (by simp) ahN;have o:=a (by simp) ahM;have q:=a (by simp) ahC;have r:=a (by simp) ahJ;have s:=a (by simp) ahE;have t:=a (by simp) ahQ;have u:=a (by simp) ahF;have v:=a (by simp) ahT;have w:=a (by simp) ahI;have x:=a (by simp) ahB;have y:=a (by simp) ahH;have z:=a (by simp) ahL;have A:=a (by simp) ahD;have B:=a (by simp) ahV;clear h a;cases b;cases c;simp only[dL,DW]at *;subst D;subst d;subst e;subst f;subst g;subst i;subst j;subst k;subst l;subst m;subst o;subst q;subst r;subst s;subst t;subst u;subst v;subst w;subst x;subst y;subst z;subst A;subst B;rfl
 ·rintro rfl n _ p _
  cases p<;>simp[dL]
def avA(b c:aN)(a fc:List aH)(t:b.d.length<=40)(v:c.d.length<=40)(l:dR b.t)(m:dR c.t)(n:dO a)(o:dO fc)(p:a.length<=1000000)(q:fc.length<=1000000)(r:cZ a<=1000000):TT.lim 265 [dU b (aC a),dU c (aC fc)]=some [.b (dP (b=c/\a=fc))]:=by
 have w:=arW a fc n o p q r;have s:=ag6;have d:=ai7 b c (aC a) (aC fc) 266 (dL b c) (λx L i h=>by rw[dK,dK];simp only[bJ,aW];refine au rfl rfl ?_;simp[h]) (avG b c (aC a) (aC fc) (by omega) (by omega) l m) fZ.length 0 (by omega)
 have j:((fZ.map GV.s).length:Int)=(fZ.length:Int):=by rw[je]
 rw[bK]at d;rw[dK,dK]at d;simp only[bJ,aW,mZ]at d;by_cases g:b.kind=c.kind;rotate_left
 ·rw[kH λh=>g (by rw[h.1])];refine aG rfl rfl ?_ rfl;simp[g]
 have k:=parts_all b c g;replace g:(b.kind=c.kind)=True:=eq_true g
 rw[LG k]at d;clear k;generalize fZ.map GV.s=x at *;generalize(fZ.length:Int)=L at *;by_cases f:b=c
 ·rw[lK f]at d;have e:dP (b=c/\a=fc)=dP (a=fc):=LG ⟨λh=>h.2,λh=>⟨f,h⟩⟩;rw[e];generalize dP (a=fc)=u at *;simp only[if_true]at d;refine aG rfl rfl ?_ rfl;simp[g,s,j,d,w]
 ·rw[kH f]at d;rw[kH λh=>f h.1];simp only[gy,if_false]at d;refine aG rfl rfl ?_ rfl;simp[g,s,j,d]
def aDn{n:Int}(a:0<=n/\n<18446744073709551616): -9223372036854775808<=G7 n/\G7 n<=9223372036854775807:=by unfold G7;split<;>omega
def ajc{b:aN}{n:Int}{s:Q0}{p:Pl}{ty:Int}(a:lC b)(c:gq b.d=true)(e:dR b.t)(i:0<=n/\n<18446744073709551616)(j:s.length<=100000000)(h:fF ty n s p=0):lC (setB b n s p)/\gq (setB b n s p).d=true/\dR (setB b n s p).t:=by
 have l:qY n s p=0:=by
  unfold fF at h;split at h
  ·split at h<;>split at h<;>first|exact h|exact absurd h (by decide)
  ·exact absurd h (by decide)
 cases p with
 |rem=>exact⟨{a with remaining:=aDn i},c,e⟩
 |allow=>exact⟨{a with},c,e⟩
 |name=>exact⟨{a with name:=by show s.length<=_;omega},c,e⟩
 |region=>exact⟨{a with region:=by show s.length<=_;omega},c,e⟩
 |note=>exact⟨{a with note:=by show s.length<=_;omega},c,e⟩
 |d=>have g:=aeD (s:=s) l j;exact⟨{a with d:=g.ents},g.few,e⟩
 |t=>have g:=(aCm (s:=s) j).1;exact⟨{a with t:=g.rows},c,g.good⟩
 |num k=>
  unfold setB;split<;>rename_i f
  ·exact absurd f (by simp)
  ·exact absurd f (by simp)
  ·exact absurd f (by simp)
  ·exact absurd f (by simp)
  ·exact absurd f (by simp)
  ·exact absurd f (by simp)
  ·exact absurd f (by simp)
  ·split<;>exact⟨by constructor<;>first|exact i|exact a.kind|exact a.id|exact a.min|exact a.max|exact a.chosen|exact a.flags|exact a.cost|exact a.priority|exact a.deadline|exact a.retry|exact a.epoch|exact a.base|exact a.digest|exact a.lag|exact a.code|exact a.want|exact a.remaining|exact a.name|exact a.region|exact a.note|exact a.d|exact a.t,c,e⟩
structure qw(b:aN)(fl:List aH):Prop where
 body:lC b
 d:gq b.d=true
 t:dR b.t
 f8:dO fl
 len:fl.length<=1000000
def G6:qw gU []:=⟨by constructor<;>simp[gU,lU,Rows],by simp[gU,gq],⟨by simp[gU],by intro r a;simp[gU]at a,by simp[gU,Rows]⟩,by simp only[dO],by simp⟩
def qw.avj{b c:aN}{a fc:List aH}(h:qw b a)(k:qw c fc)(e:cZ a<=1000000):TT.lim 265 [dU b (aC a),dU c (aC fc)]=some [.b (dP (b=c/\a=fc))]:=avA b c a fc (zI h.d) (zI k.d) h.t k.t h.f8 k.f8 h.len k.len e
def avL(b:aN)(r:Q1)(c:lC b)(d:gq b.d=true)(e:iF b.t)(n:Q0):(∃p,placeOf n=some p/\TT.lim 91 [dU b r,.s n]=some [.g [.i .u64 0,.i .i64 (bQ p),.i .u64 (aX b p).1,.s (aX b p).2,.l []],.b true])\/
 (placeOf n=none/\TT.lim 91 [dU b r,.s n]=some [.g [.i .u64 0,.i .i64 0,.i .u64 0,.s [],.l []],.b false]):=by
 cases a:placeOf n with
 |some p=>exact .inl ⟨p,rfl,ag4 b r c (λ_=>d) (λ_=>e) a⟩
 |none=>exact .inr ⟨rfl,ag5 b r a⟩
def avM{b:aN}{c:List aH}(h:qw b c){n:Q0}{p:Pl}(d:placeOf n=some p):TT.lim 91 [dU b (aC c),.s n]=some [.g [.i .u64 0,.i .i64 (bQ p),.i .u64 (aX b p).1,.s (aX b p).2,.l []],.b true]:=by
 rcases avL b (aC c) h.body h.d h.t.few n with⟨q,a,e⟩|⟨a,-⟩
 ·rw[d]at a;injection a with a
  rw[a];exact e
 ·rw[d]at a;cases a
def awC(t:List Row)(a:dR t):(wY t).length<=90000000:=by
 have h:=abh t [] (λr b=>⟨a.few r b,(a.rows.2 r b).2⟩);have c:=a.len;have d:(aV t.length).length<=20:=by have:=jk (n:=t.length) (by omega);omega
 unfold wY;rw[eX];have:40000*t.length<=40000*300:=NH _ c;omega
