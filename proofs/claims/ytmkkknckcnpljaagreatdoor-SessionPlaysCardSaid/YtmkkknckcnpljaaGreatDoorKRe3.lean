/- What the trees compute: plain laws. -/
import Derived.Test.YtmkkknckcnpljaaGreatDoorKRe2
set_option linter.all false
namespace Go.Proofs.YtmkkknckcnpljaaGreatDoor
open Go Go.aO
set_option maxRecDepth 100000
namespace R
def bZ(s:Q0):Q0×Nat×Int:=
 if(ay s).2.2≠0 then([],0,(ay s).2.2)else
 if s.length-(ay s).2.1<(ay s).1 then([],0,1)else
 ((s.drop (ay s).2.1).take (ay s).1,(ay s).2.1+(ay s).1,0)
def MW{s:Q0}(h:(bZ s).2.2=0):1<=(bZ s).2.1/\(bZ s).2.1<=s.length/\(bZ s).1.length<=s.length:=by
 unfold bZ at h⊢;by_cases a:(ay s).2.2=0;rotate_left
 ·rw[aj a]at h;exact absurd h a
 rw[ah (λe=>e a)]at h⊢;obtain⟨c,d,f,g,i⟩:=iQ a;by_cases b:s.length-(ay s).2.1<(ay s).1
 ·rw[aj b]at h;cases h
 rw[ah b];simp only[kN,dH];omega
def ajJ(t:Q0)(a:Nat)(h:a<=t.length)(v:t.length<=100000000):
 ∃at2:Nat,TT.lim 247 [.s t,.i .i64 a]=some [.i .i64 0,.s (bZ (t.drop a)).1,.i .i64 (bZ (t.drop a)).2.2,.s t,.i .i64 at2]/\((bZ (t.drop a)).2.2=0->at2=a+(bZ (t.drop a)).2.1):=by
 have d:=Ci t a h (by omega);unfold bZ;by_cases b:(ay (t.drop a)).2.2=0;rotate_left
 ·obtain⟨j,k⟩:=GZ b;rw[j,k]at d;rw[aj b];generalize(ay (t.drop a)).2.2=e at *;refine⟨a,au rfl rfl ?_,λh=>absurd h b⟩;simp[d,b]
 obtain⟨w,x,l,y,_⟩:=iQ b;rw[ah (λe=>e b)];rw[b]at d;rw[dH]at l⊢;rw[nP];generalize(ay (t.drop a)).1=n at *;generalize(ay (t.drop a)).2.1=i at *;have w1:=wrap64 (n:=(t.length:Int)-((a:Int)+(i:Int))) (by omega) (by omega);have f:=dn (n:=(t.length:Int)-((a:Int)+(i:Int))) (by omega) (by omega);simp only[Int.natCast_add]at d;by_cases g:t.length-a-i<n
 ·have c:(t.length:Int)-((a:Int)+(i:Int))<(n:Int):=by omega
  rw[aj g];refine⟨a+i,au rfl rfl ?_,λh=>by cases h⟩;simp[d,w1,f,c]
 ·have c:¬(t.length:Int)-((a:Int)+(i:Int))<(n:Int):=by omega
  rw[ah g];have m:=wrap64 (n:=(n:Int)) (by omega) (by omega);have o:=wrap64 (n:=(a:Int)+(i:Int)+(n:Int)) (by omega) (by omega);have p:((t.take (a+i+n)).drop (a+i))=(t.drop (a+i)).take n:=by rw[Aw];congr 1;omega
  have q:(a:Int)+(i:Int)<=(a:Int)+(i:Int)+(n:Int)/\(a:Int)+(i:Int)+(n:Int)<=t.length:=by omega
  have r:(0:Int)<=(a:Int)+(i:Int):=by omega
  have s:((a:Int)+(i:Int)+(n:Int)).toNat=a+i+n:=by omega
  have u:((a:Int)+(i:Int)).toNat=a+i:=by omega
  generalize(t.drop (a+i)).take n=X at *;refine⟨a+i+n,au rfl rfl ?_,λ_=>by simp only;omega⟩;simp[d,w1,f,m,o,c,q,r,s,u,p]
def aiX(s:Q0)(r:s.length<=100000000):TT.lim 296 [.s s]=some [.s (bZ s).1,.s (if(bZ s).2.2=0 then s.drop (bZ s).2.1 else[]),.i .i64 (bZ s).2.2]:=by
 have c:=Eb s (by omega);unfold bZ;by_cases b:(ay s).2.2=0;rotate_left
 ·rw[aj b];generalize(ay s).2.2=e at *;refine aG rfl rfl ?_ (by rfl);simp[c,b]
 obtain⟨t,u,v,w,_⟩:=iQ b;rw[ah (λe=>e b)];rw[b]at c;generalize(ay s).1=n at *;generalize(ay s).2.1=i at *;have w1:=wrap64 (n:=(s.length:Int)-(i:Int)) (by omega) (by omega);have d:=dn (n:=(s.length:Int)-(i:Int)) (by omega) (by omega);by_cases f:s.length-i<n
 ·have a:(s.length:Int)-(i:Int)<(n:Int):=by omega
  rw[aj f];refine aG rfl rfl ?_ rfl;simp[c,w1,d,a]
 ·have a:¬(s.length:Int)-(i:Int)<(n:Int):=by omega
  rw[ah f];have g:=wrap64 (n:=(n:Int)) (by omega) (by omega);have h:=wrap64 (n:=(i:Int)+(n:Int)) (by omega) (by omega);have j:((s.take (i+n)).drop i)=(s.drop i).take n:=by rw[Aw];congr 1;omega
  have k:(s.take s.length).drop (i+n)=s.drop (i+n):=by rw[pq]
  have l:(i:Int)<=(i:Int)+(n:Int)/\(i:Int)+(n:Int)<=s.length:=by omega
  have m:(0:Int)<=(i:Int)+(n:Int):=by omega
  have x:i<=i+n:=by omega
  have o:(i:Int)+(n:Int)<=s.length:=by omega
  have p:((i:Int)+(n:Int)).toNat=i+n:=by omega
  generalize(s.drop i).take n=X at *;generalize q:s.drop (i+n)=Y at *;refine aG rfl rfl ?_ rfl;simp[c,w1,d,g,h,a,l,m,o,p,j,k,q]
def bV(s:Q0):bT×Nat×Int:=
 if(bZ s).2.2≠0 then(([],[]),0,(bZ s).2.2)else
 if(bZ (s.drop (bZ s).2.1)).2.2≠0 then(([],[]),0,(bZ (s.drop (bZ s).2.1)).2.2)else
 if pJ ((bZ s).1,(bZ (s.drop (bZ s).2.1)).1)≠0 then(([],[]),0,pJ ((bZ s).1,(bZ (s.drop (bZ s).2.1)).1))else
 (((bZ s).1,(bZ (s.drop (bZ s).2.1)).1),(bZ s).2.1+(bZ (s.drop (bZ s).2.1)).2.1,0)
def OU{s:Q0}(h:(bV s).2.2=0):2<=(bV s).2.1/\(bV s).2.1<=s.length/\pJ (bV s).1=0/\(bV s).1.1.length<=s.length/\(bV s).1.2.length<=s.length/\
 (bZ s).2.2=0/\(bZ (s.drop (bZ s).2.1)).2.2=0/\(bV s).1=((bZ s).1,(bZ (s.drop (bZ s).2.1)).1)/\(bV s).2.1=(bZ s).2.1+(bZ (s.drop (bZ s).2.1)).2.1:=by
 unfold bV at h⊢;by_cases a:(bZ s).2.2=0;rotate_left
 ·rw[aj a]at h;exact absurd h a
 rw[ah (λe=>e a)]at h⊢;by_cases b:(bZ (s.drop (bZ s).2.1)).2.2=0;rotate_left
 ·rw[aj b]at h;exact absurd h b
 rw[ah (λe=>e b)]at h⊢;by_cases c:pJ ((bZ s).1,(bZ (s.drop (bZ s).2.1)).1)=0;rotate_left
 ·rw[aj c]at h;exact absurd h c
 rw[ah (λe=>e c)];obtain⟨i,j,d⟩:=MW a;obtain⟨k,f,g⟩:=MW b;rw[dH]at f g;exact⟨by simp only;omega,by simp only;omega,c,d,by simp only;omega,a,b,rfl,rfl⟩
def aqK(t:Q0)(a:Nat)(h:a<=t.length)(l:t.length<=100000000):
 ∃at2:Nat,TT.lim 246 [.s t,.i .i64 a]=some [.i .i64 0,.s (bV (t.drop a)).1.1,.s (bV (t.drop a)).1.2,.i .i64 (bV (t.drop a)).2.2,.s t,.i .i64 at2]/\((bV (t.drop a)).2.2=0->at2=a+(bV (t.drop a)).2.1):=by
 obtain⟨p,d,i⟩:=ajJ t a h l;unfold bV;by_cases b:(bZ (t.drop a)).2.2=0;rotate_left
 ·rw[aj b];generalize bZ (t.drop a)=A at *;refine⟨p,au rfl rfl ?_,λh=>absurd h b⟩;simp[d,b]
 have i:=i b;obtain⟨u,n,o⟩:=MW b;rw[dH]at n o;have j:(t.drop a).drop (bZ (t.drop a)).2.1=t.drop p:=by rw[nP,i]
 obtain⟨q,g,m⟩:=ajJ t p (by omega) l;rw[ah (λe=>e b),j];rw[b]at d;by_cases c:(bZ (t.drop p)).2.2=0;rotate_left
 ·rw[aj c];generalize bZ (t.drop a)=A at *;generalize bZ (t.drop p)=B at *;refine⟨q,au rfl rfl ?_,λh=>absurd h c⟩;simp[d,g,c]
 have m:=m c;obtain⟨v,r,s⟩:=MW c;rw[dH]at r s;rw[ah (λe=>e c)];rw[c]at g;have kc:=aeL ((bZ (t.drop a)).1,(bZ (t.drop p)).1) (by simp only;omega) (by simp only;omega);have k:TT.lim 39 [.g [.s (bZ (t.drop a)).1,.s (bZ (t.drop p)).1]]=_:=kc;generalize bZ (t.drop a)=A at *;generalize bZ (t.drop p)=B at *;by_cases f:pJ (A.1,B.1)=0;rotate_left
 ·rw[aj f];refine⟨q,au rfl rfl ?_,λh=>absurd h f⟩;generalize pJ (A.1,B.1)=E at *;simp[d,g,k,f]
 ·rw[ah (λe=>e f)];rw[f]at k;refine⟨q,au rfl rfl ?_,λ_=>by simp only;omega⟩;simp[d,g,k]
def ayj(s:Q0)(h:s.length<=100000000):TT.lim 295 [.s s]=some [ent (bV s).1,.s (if(bV s).2.2=0 then s.drop (bV s).2.1 else[]),.i .i64 (bV s).2.2]:=by
 have c:=aiX s h;unfold bV;by_cases a:(bZ s).2.2=0;rotate_left
 ·rw[aj a];generalize bZ s=A at *;refine aG rfl rfl ?_ (by rfl);simp[c,a];rfl
 obtain⟨k,l,m⟩:=MW a;rw[aj a,a]at c;have d:=aiX (s.drop (bZ s).2.1) (by rw[dH];omega);rw[ah (λe=>e a)];by_cases b:(bZ (s.drop (bZ s).2.1)).2.2=0;rotate_left
 ·rw[aj b];generalize bZ (s.drop (bZ s).2.1)=B at *;generalize s.drop (bZ s).2.1=Y at *;generalize bZ s=A at *;refine aG rfl rfl ?_ (by rfl);simp[c,d,b];rfl
 obtain⟨n,i,j⟩:=MW b;rw[dH]at i j;rw[aj b,b,nP]at d;rw[ah (λe=>e b)];have kc:=aeM ((bZ s).1,(bZ (s.drop (bZ s).2.1)).1) (by simp only;omega) (by simp only;omega);have g:TT.lim 121 [.g [.s (bZ s).1,.s (bZ (s.drop (bZ s).2.1)).1]]=_:=kc;generalize bZ (s.drop (bZ s).2.1)=B at *;generalize s.drop (bZ s).2.1=Y at *;generalize bZ s=A at *;by_cases f:pJ (A.1,B.1)=0;rotate_left
 ·rw[aj f];generalize pJ (A.1,B.1)=E at *;refine aG rfl rfl ?_ (by rfl);simp[c,d,g,f];rfl
 ·rw[ah (λe=>e f)];rw[f]at g;refine aG rfl rfl ?_ (by rfl);simp[c,d,g];rfl
def wz(p:Option bT)(x:bT):Int:=match p with
 |none=>0
 |some k=>qA k.1 x.1
def fD:Nat->Option bT->List UInt8->List bT×Nat×Int
 |0,_,_=>([],0,0)
 |m+1,p,s=>if(bV s).2.2≠0 then([],0,(bV s).2.2)else
  if wz p (bV s).1≠0 then([],0,wz p (bV s).1)else
  if(fD m (some (bV s).1) (s.drop (bV s).2.1)).2.2≠0 then([],0,(fD m (some (bV s).1) (s.drop (bV s).2.1)).2.2)else
  ((bV s).1::(fD m (some (bV s).1) (s.drop (bV s).2.1)).1,(bV s).2.1+(fD m (some (bV s).1) (s.drop (bV s).2.1)).2.1,0)
def Tf(m:Nat)(p:Option bT)(s:Q0):fD (m+1) p s=if(bV s).2.2≠0 then([],0,(bV s).2.2)else
 if wz p (bV s).1≠0 then([],0,wz p (bV s).1)else
 if(fD m (some (bV s).1) (s.drop (bV s).2.1)).2.2≠0 then([],0,(fD m (some (bV s).1) (s.drop (bV s).2.1)).2.2)else
 ((bV s).1::(fD m (some (bV s).1) (s.drop (bV s).2.1)).1,(bV s).2.1+(fD m (some (bV s).1) (s.drop (bV s).2.1)).2.1,0):=rfl
def BM(a:List bT)(t:Q0)(at2:Nat)(r:List bT×Nat×Int):Q1:=if r.2.2≠0 then[.i .i64 0,.i .i64 r.2.2,.s t,.i .i64 at2]else[.i .i64 1,.l ((a++r.1).map ent),.s t,.i .i64 at2]
def aqG(L:Q1)(n i a at2:Int)(t:Q0)(x:bT)(e:Int)(h:i<n)(b:¬e=0)
 (k:TT.lim 246 [.s t,.i .i64 a]=some [.i .i64 0,.s x.1,.s x.2,.i .i64 e,.s t,.i .i64 at2]):
 TT.lim 245 [.l L,.i .i64 n,.i .i64 i,.s t,.i .i64 a]=some [.i .i64 0,.i .i64 e,.s t,.i .i64 at2]:=by
 refine au rfl rfl ?_;simp[h,k,b]
def aqE(L:Q1)(n a at2:Int)(t:Q0)(x:bT)(R:Q1)(h:0<n)(b:2*(L.length+1)*32<=281474976710656/\L.length+1<=281474976710656)
 (k:TT.lim 246 [.s t,.i .i64 a]=some [.i .i64 0,.s x.1,.s x.2,.i .i64 0,.s t,.i .i64 at2])
 (c:TT.lim 245 [.l (L++[ent x]),.i .i64 n,.i .i64 1,.s t,.i .i64 at2]=some R):
 TT.lim 245 [.l L,.i .i64 n,.i .i64 0,.s t,.i .i64 a]=some R:=by
 have d:GV.g [.s x.1,.s x.2]=ent x:=rfl;have w1:=wrap64 (n:=1) (by omega) (by omega);refine au rfl rfl ?_;simp[h,k,d,GV.dZ,b,w1,c]
def aqF(L:Q1)(n:Int)(i:Nat)(a at2:Int)(t:Q0)(p x:bT)(h:(i:Int)+1<n)(hi:i+1<=100000000)(g:L.length=i+1)(e:L[i]? =some (ent p))(j:¬qA p.1 x.1=0)
 (k:TT.lim 246 [.s t,.i .i64 a]=some [.i .i64 0,.s x.1,.s x.2,.i .i64 0,.s t,.i .i64 at2]):
 TT.lim 245 [.l L,.i .i64 n,.i .i64 ((i:Int)+1),.s t,.i .i64 a]=some [.i .i64 0,.i .i64 (qA p.1 x.1),.s t,.i .i64 at2]:=by
 have l:(0:Int)<(i:Int)+1:=by omega
 have b:(i:Int)<(i:Int)+1:=by omega
 have w:=wrap64 (n:=(i:Int)) (by omega) (by omega);have c:L[i]'(by omega)=ent p:=by have:=e;rw[bP (by omega)]at this;exact CU this
 unfold qA at j⊢;by_cases d:x.1=p.1
 ·have f:(x.1=p.1)=True:=eq_true d;clear d;refine au rfl rfl ?_;simp[h,k,l,b,w,g,e,c,f]
 ·by_cases m:Op.bytesLess x.1 p.1=true
  ·refine au rfl rfl ?_;simp[h,k,l,b,w,g,e,c,d,m]
  ·simp[d,m]at j
def aqH(L:Q1)(n:Int)(i:Nat)(b at2:Int)(t:Q0)(p x:bT)(R:Q1)(h:(i:Int)+1<n)(hi:i+1<=100000000)(o:(i:Int)<L.length)(q:L.length<=100000000)(l:L[i]? =some (ent p))(a:qA p.1 x.1=0)
 (k:TT.lim 246 [.s t,.i .i64 b]=some [.i .i64 0,.s x.1,.s x.2,.i .i64 0,.s t,.i .i64 at2])
 (r:TT.lim 245 [.l (L++[ent x]),.i .i64 n,.i .i64 ((i:Int)+1+1),.s t,.i .i64 at2]=some R):
 TT.lim 245 [.l L,.i .i64 n,.i .i64 ((i:Int)+1),.s t,.i .i64 b]=some R:=by
 have s:(0:Int)<(i:Int)+1:=by omega
 have d:(i:Int)<(i:Int)+1:=by omega
 have w:=wrap64 (n:=(i:Int)) (by omega) (by omega);have u:=wrap64 (n:=(i:Int)+1+1) (by omega) (by omega);have c:i<L.length:=by omega
 have f:L[i]=ent p:=by have:=l;rw[bP c]at this;exact CU this
 have v:GV.g [.s x.1,.s x.2]=ent x:=rfl;have g:2*(L.length+1)*32<=281474976710656/\L.length+1<=281474976710656:=by omega
 unfold qA at a;have m:¬x.1=p.1:=by intro e;rw[aj e]at a;exact absurd a (by decide)
 rw[ah m]at a;have j:¬Op.bytesLess x.1 p.1=true:=by intro e;rw[aj e]at a;exact absurd a (by decide)
 have j:Op.bytesLess x.1 p.1=false:=by simpa using j
 refine au rfl rfl ?_;simp[h,k,s,d,w,u,o,c,l,f,m,j,v,GV.dZ,g,r]
def af4(b:List bT)(p:Option bT):Prop:=(b=[]/\p=none)\/∃a x,b=a++[x]/\p=some x
def aez(t:Q0)(B:t.length<=100000000)(n:Nat)(E:n<=1000):∀(m:Nat)(c:List bT)(p:Option bT)(b:Nat),c.length+m=n->af4 c p->b<=t.length->
 ∃at2:Nat,TT.lim 245 [.l (c.map ent),.i .i64 n,.i .i64 c.length,.s t,.i .i64 b]=some (BM c t at2 (fD m p (t.drop b)))/\((fD m p (t.drop b)).2.2=0->at2=b+(fD m p (t.drop b)).2.1)
 |0,c,p,b,hi,D,h=>by
  have s:¬((c.length:Int)<(n:Int)):=by omega
  refine⟨b,?_,λ_=>by simp[fD]⟩;have q:(c.map ent).length=c.length:=by simp
  unfold fD BM;simp only[ne_eq,not_true_eq_false,if_false,ng];generalize c.map ent=L at *;refine au rfl rfl ?_;simp[s]
 |m+1,c,p,b,hi,D,h=>by
  obtain⟨at2,k,u⟩:=aqK t b h B;rw[Tf];by_cases g:(bV (t.drop b)).2.2=0;rotate_left
  ·rw[aj g];refine⟨at2,?_,λh=>absurd h g⟩;have:BM c t at2 ([],0,(bV (t.drop b)).2.2)=[.i .i64 0,.i .i64 (bV (t.drop b)).2.2,.s t,.i .i64 at2]:=by unfold BM;rw[aj g]
   rw[this];exact aqG _ _ _ _ _ _ _ _ (by omega) g k
  rw[ah (λe=>e g)];rw[g]at k;have u:=u g;obtain⟨H,F,_⟩:=OU g;rw[dH]at F;have v:(t.drop b).drop (bV (t.drop b)).2.1=t.drop at2:=by rw[nP,u]
  rw[v];have w:at2<=t.length:=by omega
  generalize I:(bV (t.drop b)).1=x at *;obtain⟨d,r,G⟩:=aez t B n E m (c++[x]) (some x) at2 (by rw[eX,uI];omega) (.inr ⟨c,x,rfl,rfl⟩) w;have i:BM c t d (if(fD m (some x) (t.drop at2)).2.2≠0 then([],0,(fD m (some x) (t.drop at2)).2.2)else(x::(fD m (some x) (t.drop at2)).1,(bV (t.drop b)).2.1+(fD m (some x) (t.drop at2)).2.1,0))=BM (c++[x]) t d (fD m (some x) (t.drop at2)):=by
   unfold BM;by_cases l:(fD m (some x) (t.drop at2)).2.2=0
   ·simp[l]
   ·simp[l]
  have j:((if(fD m (some x) (t.drop at2)).2.2≠0 then(([]:List bT),0,(fD m (some x) (t.drop at2)).2.2)else(x::(fD m (some x) (t.drop at2)).1,(bV (t.drop b)).2.1+(fD m (some x) (t.drop at2)).2.1,0)).2.2=0->d=b+(if(fD m (some x) (t.drop at2)).2.2≠0 then(([]:List bT),0,(fD m (some x) (t.drop at2)).2.2)else(x::(fD m (some x) (t.drop at2)).1,(bV (t.drop b)).2.1+(fD m (some x) (t.drop at2)).2.1,0)).2.1):=by
   by_cases l:(fD m (some x) (t.drop at2)).2.2=0
   ·rw[ah (λe=>e l)];intro _;have:=G l;simp only;omega
   ·rw[aj l];intro h;exact absurd h l
  rw[jG]at r;rcases D with⟨rfl,rfl⟩|⟨a,y,rfl,rfl⟩
  ·have z:wz none x=0:=rfl;rw[z,ah (by simp)];refine⟨d,?_,j⟩;rw[i];exact aqE [] n b at2 t x _ (by simp at hi;omega) (by simp) k r
  ·by_cases o:qA y.1 x.1=0;rotate_left
   ·have f:wz (some y) x≠0:=o;rw[aj f];refine⟨at2,?_,λh=>absurd h o⟩;have:BM (a++[y]) t at2 ([],0,wz (some y) x)=[.i .i64 0,.i .i64 (qA y.1 x.1),.s t,.i .i64 at2]:=by unfold BM;rw[aj f];rfl
    rw[this];have q:((a++[y]).length:Int)=(a.length:Int)+1:=by simp
    rw[q];rw[eX,uI]at hi;exact aqF _ n a.length b at2 t y x (by omega) (by omega) (by simp) (by simp) o k
   ·have f:¬wz (some y) x≠0:=λe=>e o;rw[ah f];refine⟨d,?_,j⟩;rw[i];have q:((a++[y]).length:Int)=(a.length:Int)+1:=by simp
    have A:((a++[y]++[x]).length:Int)=(a.length:Int)+1+1:=by simp;omega
    rw[q];rw[A]at r;rw[eX,uI]at hi;exact aqH _ n a.length b at2 t y x _ (by omega) (by omega) (by simp;omega) (by simp;omega) (by simp) o k r
def wI(e:Int):List bT×Nat×Int:=([],0,e)
def jJ(s:Q0):List bT×Nat×Int:=
 if(ay s).2.2≠0 then wI (ay s).2.2 else
 if(ay s).1=0 then wI 12 else
 if 16<(ay s).1 then wI 13 else
 if(fD (ay s).1 none (s.drop (ay s).2.1)).2.2≠0 then wI (fD (ay s).1 none (s.drop (ay s).2.1)).2.2 else
 ((fD (ay s).1 none (s.drop (ay s).2.1)).1,(ay s).2.1+(fD (ay s).1 none (s.drop (ay s).2.1)).2.1,0)
def aqz(t:Q0)(a:Nat)(h:a<=t.length)(p:t.length<=100000000):
 ∃at2:Nat,TT.lim 244 [.s t,.i .i64 a]=some [.i .i64 0,.l ((jJ (t.drop a)).1.map ent),.i .i64 (jJ (t.drop a)).2.2,.s t,.i .i64 at2]/\((jJ (t.drop a)).2.2=0->at2=a+(jJ (t.drop a)).2.1):=by
 have d:=Ci t a h (by omega);unfold jJ;by_cases g:(ay (t.drop a)).2.2=0;rotate_left
 ·obtain⟨q,l⟩:=GZ g;rw[q,l]at d;rw[aj g];generalize(ay (t.drop a)).2.2=e at *;refine⟨a,au rfl rfl ?_,λh=>absurd h g⟩;simp[d,g,wI]
 obtain⟨x,y,s,z,_⟩:=iQ g;rw[ah (λe=>e g)];rw[g]at d;rw[dH]at s;rw[nP];by_cases b:16<(ay (t.drop a)).1
 ·have f:¬(ay (t.drop a)).1=0:=by omega
  have k:(16:Int)<((ay (t.drop a)).1:Nat):=by omega
  rw[ah f,aj b];generalize(ay (t.drop a)).1=n at *;generalize(ay (t.drop a)).2.1=i at *;refine⟨a+i,au rfl rfl ?_,λh=>by cases h⟩;simp only[Int.natCast_add]at d;simp[d,f,b,k,wI]
 obtain⟨at2,u,l⟩:=aez t p (ay (t.drop a)).1 (by omega) (ay (t.drop a)).1 [] none (a+(ay (t.drop a)).2.1) (by simp) (.inl ⟨rfl,rfl⟩) (by omega);generalize(ay (t.drop a)).1=n at *;generalize(ay (t.drop a)).2.1=i at *;by_cases f:n=0
 ·rw[aj f];have m:((n:Int)=0)=True:=eq_true (by omega);refine⟨a+i,au rfl rfl ?_,λh=>by cases h⟩;simp only[Int.natCast_add]at d;simp[d,f,m,wI]
 rw[ah f,ah b];have k:¬(16:Int)<(n:Int):=by omega
 have w:=wrap64 (n:=(n:Int)) (by omega) (by omega);have o:(0:Int)<=(n:Int)/\32*(n:Int)<=281474976710656/\(n:Int)<=1152921504606846976:=by omega
 have c:TT.lim 245 [.l [],.i .i64 n,.i .i64 0,.s t,.i .i64 ((a:Int)+(i:Int))]=_:=u;generalize v:fD n none (t.drop (a+i))=r at *;refine⟨at2,au rfl rfl ?_,λh=>?_⟩
 ·simp only[Int.natCast_add]at d;unfold BM at c;by_cases j:r.2.2=0
  ·simp only[j,ne_eq,not_true_eq_false,if_false,aW]at c⊢;simp[d,f,b,k,w,o,c,GV.dZ]
  ·simp only[j,ne_eq,not_false_eq_true,if_true]at c⊢;simp[d,f,b,k,w,o,c,GV.dZ,wI]
 ·by_cases j:r.2.2=0
  ·rw[ah (λe=>e j)];have:=l j;simp only;omega
  ·rw[aj j]at h;exact absurd h j
def BP(a:List bT)(s:Q0)(r:List bT×Nat×Int):Q1:=if r.2.2≠0 then[.i .i64 0,.i .i64 r.2.2]else[.i .i64 1,.s (s.drop r.2.1),.l ((a++r.1).map ent)]
def aye(L:Q1)(n i:Int)(s Y:Q0)(x:bT)(e:Int)(h:i<n)(a:¬e=0)
 (k:TT.lim 295 [.s s]=some [ent x,.s Y,.i .i64 e]):
 TT.lim 294 [.s s,.i .u64 n,.l L,.i .u64 i]=some [.i .i64 0,.i .i64 e]:=by
 refine au rfl rfl ?_;simp[h,k,a]
def ayc(L:Q1)(n:Int)(s Y:Q0)(x:bT)(R:Q1)(h:0<n)(a:2*(L.length+1)*32<=281474976710656/\L.length+1<=281474976710656)
 (k:TT.lim 295 [.s s]=some [ent x,.s Y,.i .i64 0])
 (b:TT.lim 294 [.s Y,.i .u64 n,.l (L++[ent x]),.i .u64 1]=some R):
 TT.lim 294 [.s s,.i .u64 n,.l L,.i .u64 0]=some R:=by
 have c:GV.g [.s x.1,.s x.2]=ent x:=rfl;have w1:=dn (n:=1) (by omega) (by omega);refine au rfl rfl ?_;simp[h,k,c,GV.dZ,a,w1,b]
def ayd(L:Q1)(n:Int)(i:Nat)(s Y:Q0)(p x:bT)(b:Int)(h:(i:Int)+1<n)(hi:i+1<=100000000)(f:(i:Int)<L.length)(e:L[i]? =some (ent p))(g:¬b=0)
 (j:TT.lim 122 [ent p,ent x]=some [.i .i64 b]) (k:TT.lim 295 [.s s]=some [ent x,.s Y,.i .i64 0]):
 TT.lim 294 [.s s,.i .u64 n,.l L,.i .u64 ((i:Int)+1)]=some [.i .i64 0,.i .i64 b]:=by
 have l:(0:Int)<(i:Int)+1:=by omega
 have w:=dn (n:=(i:Int)) (by omega) (by omega);have a:i<L.length:=by omega
 have c:L[i]=ent p:=by have:=e;rw[bP a]at this;exact CU this
 have m:GV.g [.s x.1,.s x.2]=ent x:=rfl;have d:GV.g [.s p.1,.s p.2]=ent p:=rfl;refine au rfl rfl ?_;simp[h,k,l,w,f,a,e,c,m,d,j,g]
def ayf(L:Q1)(n:Int)(i:Nat)(s Y:Q0)(p x:bT)(R:Q1)(h:(i:Int)+1<n)(hi:i+1<=100000000)(f:(i:Int)<L.length)(g:L.length<=100000000)(e:L[i]? =some (ent p))
 (j:TT.lim 122 [ent p,ent x]=some [.i .i64 0]) (k:TT.lim 295 [.s s]=some [ent x,.s Y,.i .i64 0])
 (l:TT.lim 294 [.s Y,.i .u64 n,.l (L++[ent x]),.i .u64 ((i:Int)+1+1)]=some R):
 TT.lim 294 [.s s,.i .u64 n,.l L,.i .u64 ((i:Int)+1)]=some R:=by
 have m:(0:Int)<(i:Int)+1:=by omega
 have w:=dn (n:=(i:Int)) (by omega) (by omega);have o:=dn (n:=(i:Int)+1+1) (by omega) (by omega);have a:i<L.length:=by omega
 have b:L[i]=ent p:=by have:=e;rw[bP a]at this;exact CU this
 have q:GV.g [.s x.1,.s x.2]=ent x:=rfl;have c:GV.g [.s p.1,.s p.2]=ent p:=rfl;have d:2*(L.length+1)*32<=281474976710656/\L.length+1<=281474976710656:=by omega
 refine au rfl rfl ?_;simp[h,k,m,w,o,f,a,e,b,q,c,j,GV.dZ,d,l]
def aiu(n:Nat)(z:n<=1000):∀(m:Nat)(b:List bT)(p:Option bT)(s:Q0),b.length+m=n->af4 b p->s.length<=100000000->(∀x,p=some x->Hu x)->
 TT.lim 294 [.s s,.i .u64 n,.l (b.map ent),.i .u64 b.length]=some (BP b s (fD m p s))
 |0,b,p,s,hi,u,h,_=>by
  have l:¬((b.length:Int)<(n:Int)):=by omega
  unfold fD BP;simp only[ne_eq,not_true_eq_false,if_false,ng,bK];generalize b.map ent=L at *;refine au rfl rfl ?_;simp[l]
 |m+1,b,p,s,hi,u,h,o=>by
  have k:=ayj s h;rw[Tf];by_cases f:(bV s).2.2=0;rotate_left
  ·rw[aj f];have:BP b s ([],0,(bV s).2.2)=[.i .i64 0,.i .i64 (bV s).2.2]:=by unfold BP;rw[aj f]
   rw[this];exact aye _ _ _ _ _ _ _ (by omega) f k
  rw[ah (λe=>e f)];rw[aj f,f]at k;obtain⟨B,D,_,E,F,_⟩:=OU f;have g:Hu (bV s).1:=⟨by omega,by omega⟩
  generalize G:(bV s).1=x at *;have i:=aiu n z m (b++[x]) (some x) (s.drop (bV s).2.1) (by rw[eX,uI];omega) (.inr ⟨b,x,rfl,rfl⟩) (by rw[dH];omega) (λy A=>by cases A;exact g);have d:BP b s (if(fD m (some x) (s.drop (bV s).2.1)).2.2≠0 then([],0,(fD m (some x) (s.drop (bV s).2.1)).2.2)else(x::(fD m (some x) (s.drop (bV s).2.1)).1,(bV s).2.1+(fD m (some x) (s.drop (bV s).2.1)).2.1,0))=BP (b++[x]) (s.drop (bV s).2.1) (fD m (some x) (s.drop (bV s).2.1)):=by
   unfold BP;by_cases v:(fD m (some x) (s.drop (bV s).2.1)).2.2=0
   ·simp[v]
   ·simp[v]
  rw[jG]at i;rcases u with⟨rfl,rfl⟩|⟨a,y,rfl,rfl⟩
  ·have q:wz none x=0:=rfl;rw[q,ah (by simp),d];exact ayc [] n s _ x _ (by simp at hi;omega) (by simp) k i
  ·have r:=adr y x (o y rfl) g;have w:((a++[y]).length:Int)=(a.length:Int)+1:=by simp
   rw[eX,uI]at hi;by_cases j:qA y.1 x.1=0;rotate_left
   ·have c:wz (some y) x≠0:=j;rw[aj c];have:BP (a++[y]) s ([],0,wz (some y) x)=[.i .i64 0,.i .i64 (qA y.1 x.1)]:=by unfold BP;rw[aj c];rfl
    rw[this,w];exact ayd _ n a.length s _ y x _ (by omega) (by omega) (by simp;omega) (by simp) j r k
   ·have c:¬wz (some y) x≠0:=λe=>e j;rw[ah c,d];have t:((a++[y]++[x]).length:Int)=(a.length:Int)+1+1:=by simp;omega
    rw[w];rw[t]at i;rw[j]at r;exact ayf _ n a.length s _ y x _ (by omega) (by omega) (by simp;omega) (by simp;omega) (by simp) r k i
def ayb(s:Q0)(p:s.length<=100000000):TT.lim 293 [.s s]=some [.l ((jJ s).1.map ent),.s (if(jJ s).2.2=0 then s.drop (jJ s).2.1 else[]),.i .i64 (jJ s).2.2]:=by
 have d:=Eb s (by omega);unfold jJ;by_cases f:(ay s).2.2=0;rotate_left
 ·rw[aj f];generalize(ay s).2.2=e at *;refine aG rfl rfl ?_ (by rfl);simp[d,f,wI]
 obtain⟨q,t,u,v,_⟩:=iQ f;rw[ah (λe=>e f)];rw[f]at d;by_cases b:16<(ay s).1
 ·have c:¬(ay s).1=0:=by omega
  have g:(16:Int)<((ay s).1:Nat):=by omega
  rw[ah c,aj b];generalize(ay s).1=n at *;generalize(ay s).2.1=i at *;refine aG rfl rfl ?_ rfl;simp[d,c,b,g,wI]
 have m:=aiu (ay s).1 (by omega) (ay s).1 [] none (s.drop (ay s).2.1) (by simp) (.inl ⟨rfl,rfl⟩) (by rw[dH];omega) (λx o=>by cases o);have k:(s.take s.length).drop (ay s).2.1=s.drop (ay s).2.1:=by rw[pq]
 generalize(ay s).1=n at *;generalize(ay s).2.1=i at *;by_cases c:n=0
 ·rw[aj c];have h:((n:Int)=0)=True:=eq_true (by omega);refine aG rfl rfl ?_ rfl;simp[d,c,h,wI]
 rw[ah c,ah b];have g:¬(16:Int)<(n:Int):=by omega
 have hi:(i:Int)<=s.length:=by omega
 have a:TT.lim 294 [.s (s.drop i),.i .u64 n,.l [],.i .u64 0]=_:=m;unfold BP at a;rw[nP]at a;generalize fD n none (s.drop i)=r at *;generalize l:s.drop i=Y at *;by_cases j:r.2.2=0
 ·simp only[j,ne_eq,not_true_eq_false,if_false,aW]at a⊢;generalize s.drop (i+r.2.1)=Z at *;refine aG rfl rfl ?_ (by rfl);simp[d,c,b,g,hi,k,l,a]
 ·simp only[j,ne_eq,not_false_eq_true,if_true]at a⊢;refine aG rfl rfl ?_ (by rfl);simp[d,c,b,g,hi,k,l,a,wI,j]
def jS(s:Q0):List bT×Int:=
 if(jJ s).2.2≠0 then([],(jJ s).2.2)else if(jJ s).2.1<s.length then([],10)else((jJ s).1,0)
def Yj:∀(m:Nat)(p:Option bT)(s:Q0),(fD m p s).2.2=0->(fD m p s).2.1<=s.length/\(fD m p s).1.length=m/\∀x∈(fD m p s).1,pJ x=0/\x.1.length<=s.length/\x.2.length<=s.length
 |0,p,s,_=>by simp[fD]
 |m+1,p,s,h=>by
  rw[Tf]at h⊢;by_cases h1:(bV s).2.2=0;rotate_left
  ·rw[aj h1]at h;exact absurd h h1
  rw[ah (λe=>e h1)]at h⊢;by_cases b:wz p (bV s).1=0;rotate_left
  ·rw[aj b]at h;exact absurd h b
  rw[ah (λe=>e b)]at h⊢;by_cases a:(fD m (some (bV s).1) (s.drop (bV s).2.1)).2.2=0;rotate_left
  ·rw[aj a]at h;exact absurd h a
  rw[ah (λe=>e a)];obtain⟨q,r,d,f,g,_⟩:=OU h1;obtain⟨i,j,k⟩:=Yj m (some (bV s).1) _ a;rw[dH]at i;refine⟨by simp only;omega,by simp[j],λx c=>?_⟩;rcases bD.1 c with rfl|c
  ·exact⟨d,f,g⟩
  ·obtain⟨l,n,o⟩:=k x c;rw[dH]at n o;exact⟨l,by omega,by omega⟩
def aeB{s:Q0}(h:(jJ s).2.2=0):(ay s).2.2=0/\0<(ay s).1/\(ay s).1<=16/\(fD (ay s).1 none (s.drop (ay s).2.1)).2.2=0/\(jJ s).1=(fD (ay s).1 none (s.drop (ay s).2.1)).1/\
 (jJ s).2.1=(ay s).2.1+(fD (ay s).1 none (s.drop (ay s).2.1)).2.1/\(jJ s).2.1<=s.length:=by
 unfold jJ at h⊢;by_cases a:(ay s).2.2=0;rotate_left
 ·rw[aj a]at h;exact absurd h a
 rw[ah (λe=>e a)]at h⊢;by_cases c:(ay s).1=0
 ·rw[aj c]at h;exact absurd h (by simp[wI])
 rw[ah c]at h⊢;by_cases d:16<(ay s).1
 ·rw[aj d]at h;exact absurd h (by simp[wI])
 rw[ah d]at h⊢;by_cases b:(fD (ay s).1 none (s.drop (ay s).2.1)).2.2=0;rotate_left
 ·rw[aj b]at h;exact absurd h b
 rw[ah (λe=>e b)];obtain⟨f,g,i,_,_⟩:=iQ a;obtain⟨d1,_,_⟩:=Yj _ _ _ b;rw[dH]at d1;exact⟨a,by omega,by omega,b,rfl,rfl,by simp only;omega⟩
def aeC(s:Q0)(d:s.length<=100000000):TT.lim 243 [.s s]=some [.l ((jS s).1.map ent),.i .i64 (jS s).2]:=by
 obtain⟨at2,k,b⟩:=aqz s 0 (by omega) d;rw[bK,show((0:Nat):Int)=0 from rfl]at k;rw[bK]at b;unfold jS;by_cases a:(jJ s).2.2=0;rotate_left
 ·rw[aj a];generalize jJ s=r at *;refine aG rfl rfl ?_ (by rfl);simp[k,a]
 have b:=b a;obtain⟨_,_,_,_,_,_,f⟩:=aeB a;rw[ah (λe=>e a)];rw[a]at k;rw[jQ]at b;have w:=wrap64 (n:=(s.length:Int)-(at2:Int)) (by omega) (by omega);rw[<-b]at f⊢;generalize jJ s=r at *;by_cases c:at2<s.length
 ·rw[aj c];refine aG rfl rfl ?_ rfl;simp[k,w,c]
 ·rw[ah c];refine aG rfl rfl ?_ rfl;simp[k,w,c]
def aiv(s:Q0)(f:s.length<=100000000):TT.lim 292 [.s s]=some [.l ((jS s).1.map ent),.i .i64 (jS s).2]:=by
 have k:=ayb s f;unfold jS;by_cases b:(jJ s).2.2=0;rotate_left
 ·rw[aj b];generalize jJ s=r at *;refine aG rfl rfl ?_ (by rfl);simp[k,b]
 rw[ah (λe=>e b)];rw[aj b,b]at k;have c:(s.drop (jJ s).2.1=[])=¬((jJ s).2.1<s.length):=by apply propext;rw[List.drop_eq_nil_iff];omega
 generalize g:s.drop (jJ s).2.1=Y at *;generalize jJ s=r at *;by_cases d:r.2.1<s.length
 ·rw[aj d];have a:(Y=[])=False:=by rw[c];simp[d]
  clear c;refine aG rfl rfl ?_ rfl;simp[k,a]
 ·rw[ah d];have a:(Y=[])=True:=by rw[c];simp[d]
  clear c;refine aG rfl rfl ?_ rfl;simp[k,a]
def yj(e:Int):Row×Nat×Int:=(([],0),0,e)
def fV(a s:Q0):Row×Nat×Int:=
 if(jS a).2≠0 then yj (jS a).2 else
 if(ay s).2.2≠0 then yj (ay s).2.2 else
 if(ay s).1=0 then yj 17 else(((jS a).1,((ay s).1:Nat)),(ay s).2.1,0)
def aa4{a s:Q0}(h:(fV a s).2.2=0):(jS a).2=0/\(ay s).2.2=0/\(ay s).1≠0/\(fV a s).1=((jS a).1,(((ay s).1:Nat):Int))/\(fV a s).2.1=(ay s).2.1:=by
 unfold fV at h⊢;by_cases b:(jS a).2=0;rotate_left
 ·rw[aj b]at h;exact absurd h b
 rw[ah (λe=>e b)]at h⊢;by_cases c:(ay s).2.2=0;rotate_left
 ·rw[aj c]at h;exact absurd h c
 rw[ah (λe=>e c)]at h⊢;by_cases d:(ay s).1=0
 ·rw[aj d]at h;exact absurd h (by simp[yj])
 rw[ah d];exact⟨b,c,d,rfl,rfl⟩
def rowP(b t:Q0)(a:Nat)(h:a<=t.length)(m:t.length<=100000000)(j:b.length<=100000000):
 ∃at2:Nat,TT.lim 252 [.s b,.s t,.i .i64 a]=some [.i .i64 0,.l ((fV b (t.drop a)).1.1.map ent),.i .u64 (fV b (t.drop a)).1.2,.i .i64 (fV b (t.drop a)).2.2,.s t,.i .i64 at2]/\
  ((fV b (t.drop a)).2.2=0->at2=a+(fV b (t.drop a)).2.1):=by
 have g:=aeC b j;have c:=Ci t a h (by omega);unfold fV;generalize jS b=D at *;by_cases d:D.2=0;rotate_left
 ·rw[aj d];refine⟨a,au rfl rfl ?_,λh=>absurd h d⟩;simp[g,d,yj]
 rw[ah (λe=>e d)];by_cases f:(ay (t.drop a)).2.2=0;rotate_left
 ·obtain⟨k,l⟩:=GZ f;rw[k,l]at c;rw[aj f];generalize ay (t.drop a)=V at *;refine⟨a,au rfl rfl ?_,λh=>absurd h f⟩;simp[g,c,d,f,yj]
 rw[ah (λe=>e f)];rw[f]at c;simp only[Int.natCast_add]at c;generalize ay (t.drop a)=V at *;by_cases i:V.1=0
 ·rw[aj i];rw[i]at c;refine⟨a+V.2.1,au rfl rfl ?_,λh=>by cases h⟩;simp[g,c,d,yj]
 ·rw[ah i];refine⟨a+V.2.1,au rfl rfl ?_,λ_=>rfl⟩;simp[g,c,d,i]
def fQ:Nat->List UInt8->Bool->List UInt8->List Row×Nat×Int
 |0,_,_,_=>([],0,0)
 |m+1,a,first,s=>if(aY s a first).2.2≠0 then([],0,(aY s a first).2.2)else
  if(fV (aY s a first).1 (s.drop (aY s a first).2.1)).2.2≠0 then([],0,(fV (aY s a first).1 (s.drop (aY s a first).2.1)).2.2)else
  if(fQ m (aY s a first).1 false (s.drop ((aY s a first).2.1+(fV (aY s a first).1 (s.drop (aY s a first).2.1)).2.1))).2.2≠0 then([],0,(fQ m (aY s a first).1 false (s.drop ((aY s a first).2.1+(fV (aY s a first).1 (s.drop (aY s a first).2.1)).2.1))).2.2)else
  ((fV (aY s a first).1 (s.drop (aY s a first).2.1)).1::(fQ m (aY s a first).1 false (s.drop ((aY s a first).2.1+(fV (aY s a first).1 (s.drop (aY s a first).2.1)).2.1))).1,
   (aY s a first).2.1+(fV (aY s a first).1 (s.drop (aY s a first).2.1)).2.1+(fQ m (aY s a first).1 false (s.drop ((aY s a first).2.1+(fV (aY s a first).1 (s.drop (aY s a first).2.1)).2.1))).2.1,0)
def Vd(m:Nat)(a:Q0)(first:Bool)(s:Q0):fQ (m+1) a first s=if(aY s a first).2.2≠0 then([],0,(aY s a first).2.2)else
 if(fV (aY s a first).1 (s.drop (aY s a first).2.1)).2.2≠0 then([],0,(fV (aY s a first).1 (s.drop (aY s a first).2.1)).2.2)else
 if(fQ m (aY s a first).1 false (s.drop ((aY s a first).2.1+(fV (aY s a first).1 (s.drop (aY s a first).2.1)).2.1))).2.2≠0 then([],0,(fQ m (aY s a first).1 false (s.drop ((aY s a first).2.1+(fV (aY s a first).1 (s.drop (aY s a first).2.1)).2.1))).2.2)else
 ((fV (aY s a first).1 (s.drop (aY s a first).2.1)).1::(fQ m (aY s a first).1 false (s.drop ((aY s a first).2.1+(fV (aY s a first).1 (s.drop (aY s a first).2.1)).2.1))).1,
  (aY s a first).2.1+(fV (aY s a first).1 (s.drop (aY s a first).2.1)).2.1+(fQ m (aY s a first).1 false (s.drop ((aY s a first).2.1+(fV (aY s a first).1 (s.drop (aY s a first).2.1)).2.1))).2.1,0):=rfl
def BO(a:List Row)(t:Q0)(at2:Nat)(r:List Row×Nat×Int):Q1:=if r.2.2≠0 then[.i .i64 0,.i .i64 r.2.2,.s t,.i .i64 at2]else[.i .i64 1,.l ((a++r.1).map row),.s t,.i .i64 at2]
def axi(L:Q1)(a t X:Q0)(n i b at2:Int)(first:Bool)(e:Int)(h:i<n)(c:decide (i=0)=first)(d:¬e=0)
 (k:TT.lim 251 [.s t,.i .i64 b,.s a,.b first]=some [.i .i64 0,.s X,.i .i64 e,.s t,.i .i64 at2]):
 TT.lim 250 [.l L,.s a,.i .i64 n,.i .i64 i,.s t,.i .i64 b]=some [.i .i64 0,.i .i64 e,.s t,.i .i64 at2]:=by
 refine au rfl rfl ?_;simp[h,c,k,d]
def axk(L:Q1)(a t X:Q0)(D:Q1)(N:Int)(n i b at2 c:Int)(first:Bool)(e:Int)(h:i<n)(d:decide (i=0)=first)(f:¬e=0)
 (k:TT.lim 251 [.s t,.i .i64 b,.s a,.b first]=some [.i .i64 0,.s X,.i .i64 0,.s t,.i .i64 at2])
 (g:TT.lim 252 [.s X,.s t,.i .i64 at2]=some [.i .i64 0,.l D,.i .u64 N,.i .i64 e,.s t,.i .i64 c]):
 TT.lim 250 [.l L,.s a,.i .i64 n,.i .i64 i,.s t,.i .i64 b]=some [.i .i64 0,.i .i64 e,.s t,.i .i64 c]:=by
 refine au rfl rfl ?_;simp[h,d,k,g,f]
def axj(L:Q1)(a t X:Q0)(D:Q1)(N:Int)(n i b at2 c:Int)(first:Bool)(R:Q1)(h:i<n)(e:decide (i=0)=first)(f:IntKind.i64.wrap (i+1)=i+1)(l:L.length<=100000000)
 (k:TT.lim 251 [.s t,.i .i64 b,.s a,.b first]=some [.i .i64 0,.s X,.i .i64 0,.s t,.i .i64 at2])
 (g:TT.lim 252 [.s X,.s t,.i .i64 at2]=some [.i .i64 0,.l D,.i .u64 N,.i .i64 0,.s t,.i .i64 c])
 (j:TT.lim 250 [.l (L++[.g [.l D,.i .u64 N]]),.s X,.i .i64 n,.i .i64 (i+1),.s t,.i .i64 c]=some R):
 TT.lim 250 [.l L,.s a,.i .i64 n,.i .i64 i,.s t,.i .i64 b]=some R:=by
 have d:2*(L.length+1)*32<=281474976710656/\L.length+1<=281474976710656:=by omega
 refine au rfl rfl ?_;simp[h,e,k,g,f,GV.dZ,d,j]
def ahW(t:Q0)(s:t.length<=100000000)(n:Nat)(E:n<=1000):∀(m:Nat)(b:List Row)(a:Q0)(c:Nat),b.length+m=n->c<=t.length->a.length<=c->
 ∃at2:Nat,TT.lim 250 [.l (b.map row),.s a,.i .i64 n,.i .i64 b.length,.s t,.i .i64 c]=some (BO b t at2 (fQ m a (decide ((b.length:Int)=0)) (t.drop c)))/\
  ((fQ m a (decide ((b.length:Int)=0)) (t.drop c)).2.2=0->at2=c+(fQ m a (decide ((b.length:Int)=0)) (t.drop c)).2.1)
 |0,b,a,c,hi,h,F=>by
  have u:¬((b.length:Int)<(n:Int)):=by omega
  refine⟨c,?_,λ_=>by simp[fQ]⟩;unfold fQ BO;simp only[ne_eq,not_true_eq_false,if_false,ng];generalize b.map row=L at *;refine au rfl rfl ?_;simp[u]
 |m+1,b,a,c,hi,h,F=>by
  obtain⟨at2,k,r⟩:=axe t a (decide ((b.length:Int)=0)) c h s (by omega);rw[Vd];generalize v:decide ((b.length:Int)=0)=first at *
  by_cases g:(aY (t.drop c) a first).2.2=0;rotate_left
  ·rw[aj g];refine⟨at2,?_,λh=>absurd h g⟩;have:BO b t at2 ([],0,(aY (t.drop c) a first).2.2)=[.i .i64 0,.i .i64 (aY (t.drop c) a first).2.2,.s t,.i .i64 at2]:=by unfold BO;rw[aj g]
   rw[this];exact axi _ _ _ _ _ _ _ _ _ _ (by omega) v g k
  rw[ah (λe=>e g)];rw[g]at k;have r:=r g;obtain⟨S,G,H⟩:=Ve g;rw[dH]at G;have w:∀j,(t.drop c).drop ((aY (t.drop c) a first).2.1+j)=t.drop (at2+j):=by intro j;rw[nP,r,jH]
  have x:(t.drop c).drop (aY (t.drop c) a first).2.1=t.drop at2:=by rw[nP,r]
  have I:(aY (t.drop c) a first).1.length<=at2:=by split at H<;>omega
  rw[w,x];generalize(aY (t.drop c) a first).1=X at *;generalize(aY (t.drop c) a first).2.1=J at *;obtain⟨d,y,z⟩:=rowP X t at2 (by omega) s (by omega);by_cases i:(fV X (t.drop at2)).2.2=0;rotate_left
  ·rw[aj i];refine⟨d,?_,λh=>absurd h i⟩;have:BO b t d ([],0,(fV X (t.drop at2)).2.2)=[.i .i64 0,.i .i64 (fV X (t.drop at2)).2.2,.s t,.i .i64 d]:=by unfold BO;rw[aj i]
   rw[this];exact axk _ _ _ _ _ _ _ _ _ _ _ _ _ (by omega) v i k y
  rw[ah (λe=>e i)];rw[i]at y;have z:=z i;obtain⟨_,M,_,_,T⟩:=aa4 i;obtain⟨U,V,N,_,_⟩:=iQ M;rw[dH]at N;have A:at2+(fV X (t.drop at2)).2.1=d:=z.symm;rw[A];have p:GV.g [.l ((fV X (t.drop at2)).1.1.map ent),.i .u64 (fV X (t.drop at2)).1.2]=row (fV X (t.drop at2)).1:=rfl;obtain⟨l,B,D⟩:=ahW t s n E m (b++[(fV X (t.drop at2)).1]) X d (by rw[eX,uI];omega) (by omega) (by omega);have f:decide (((b++[(fV X (t.drop at2)).1]).length:Int)=0)=false:=by simp;omega
  have O:((b++[(fV X (t.drop at2)).1]).length:Int)=(b.length:Int)+1:=by simp
  rw[f]at B D;rw[O,jG]at B;generalize(fV X (t.drop at2)).1=Q at *;generalize(fV X (t.drop at2)).2.1=P at *;have q:BO b t l (if(fQ m X false (t.drop d)).2.2≠0 then([],0,(fQ m X false (t.drop d)).2.2)else(Q::(fQ m X false (t.drop d)).1,J+P+(fQ m X false (t.drop d)).2.1,0))=BO (b++[Q]) t l (fQ m X false (t.drop d)):=by
   unfold BO;by_cases o:(fQ m X false (t.drop d)).2.2=0
   ·simp[o]
   ·simp[o]
  refine⟨l,?_,?_⟩
  ·rw[q];exact axj _ _ _ _ _ _ _ _ _ _ _ _ _ (by omega) v (wrap64 (by omega) (by omega)) (by simp;omega) k y (by rw[p];exact B)
  ·by_cases o:(fQ m X false (t.drop d)).2.2=0
   ·rw[ah (λe=>e o)];intro _;have:=D o;simp only;omega
   ·rw[aj o];intro h;exact absurd h o
def BI(e:Int):List Row×Nat×Int:=([],0,e)
def jC(s:Q0):List Row×Nat×Int:=
 if(ay s).2.2≠0 then BI (ay s).2.2 else
 if 256<(ay s).1 then BI 13 else
 if(fQ (ay s).1 [] true (s.drop (ay s).2.1)).2.2≠0 then BI (fQ (ay s).1 [] true (s.drop (ay s).2.1)).2.2 else
 ((fQ (ay s).1 [] true (s.drop (ay s).2.1)).1,(ay s).2.1+(fQ (ay s).1 [] true (s.drop (ay s).2.1)).2.1,0)
def auw(t:Q0)(a:Nat)(h:a<=t.length)(o:t.length<=100000000):
 ∃at2:Nat,TT.lim 249 [.s t,.i .i64 a]=some [.i .i64 0,.l ((jC (t.drop a)).1.map row),.i .i64 (jC (t.drop a)).2.2,.s t,.i .i64 at2]/\((jC (t.drop a)).2.2=0->at2=a+(jC (t.drop a)).2.1):=by
 have d:=Ci t a h (by omega);unfold jC;by_cases f:(ay (t.drop a)).2.2=0;rotate_left
 ·obtain⟨p,j⟩:=GZ f;rw[p,j]at d;rw[aj f];generalize(ay (t.drop a)).2.2=e at *;refine⟨a,au rfl rfl ?_,λh=>absurd h f⟩;simp[d,f,BI]
 obtain⟨s,u,q,v,_⟩:=iQ f;rw[ah (λe=>e f)];rw[f]at d;rw[dH]at q;rw[nP];by_cases b:256<(ay (t.drop a)).1
 ·have k:(256:Int)<((ay (t.drop a)).1:Nat):=by omega
  rw[aj b];generalize(ay (t.drop a)).1=n at *;generalize(ay (t.drop a)).2.1=i at *;refine⟨a+i,au rfl rfl ?_,λh=>by cases h⟩;simp only[Int.natCast_add]at d;simp[d,b,k,BI]
 obtain⟨at2,l,j⟩:=ahW t o (ay (t.drop a)).1 (by omega) (ay (t.drop a)).1 [] [] (a+(ay (t.drop a)).2.1) (by simp) (by omega) (by simp);generalize(ay (t.drop a)).1=n at *;generalize(ay (t.drop a)).2.1=i at *;rw[ah b];have k:¬(256:Int)<(n:Int):=by omega
 have w:=wrap64 (n:=(n:Int)) (by omega) (by omega);have m:(0:Int)<=(n:Int)/\32*(n:Int)<=281474976710656/\(n:Int)<=1152921504606846976:=by omega
 rw[show decide ((([]:List Row).length:Int)=0)=true from rfl]at l j;have c:TT.lim 250 [.l [],.s [],.i .i64 n,.i .i64 0,.s t,.i .i64 ((a:Int)+(i:Int))]=_:=l;generalize fQ n [] true (t.drop (a+i))=r at *;refine⟨at2,au rfl rfl ?_,λh=>?_⟩
 ·simp only[Int.natCast_add]at d;unfold BO at c;by_cases g:r.2.2=0
  ·simp only[g,ne_eq,not_true_eq_false,if_false,aW]at c⊢;simp[d,b,k,w,m,c,GV.dZ]
  ·simp only[g,ne_eq,not_false_eq_true,if_true]at c⊢;simp[d,b,k,w,m,c,GV.dZ,BI]
 ·by_cases g:r.2.2=0
  ·rw[ah (λe=>e g)];have:=j g;simp only;omega
  ·rw[aj g]at h;exact absurd h g
def yh(a:List Row)(s:Q0)(r:List Row×Nat×Int):Q1:=if r.2.2≠0 then[.i .i64 0,.i .i64 r.2.2]else[.i .i64 1,.s (s.drop r.2.1),.l ((a++r.1).map row)]
def ayD(L:Q1)(a s X Y:Q0)(n i:Int)(first:Bool)(e:Int)(h:i<n)(b:decide (i=0)=first)(c:¬e=0)
 (k:TT.lim 300 [.s s,.s a,.b first]=some [.s X,.s Y,.i .i64 e]):
 TT.lim 299 [.s s,.i .u64 n,.l L,.s a,.i .u64 i]=some [.i .i64 0,.i .i64 e]:=by
 refine au rfl rfl ?_;simp[h,b,k,c]
def ayC(L:Q1)(a s X Y:Q0)(D:Q1)(n i:Int)(first:Bool)(e:Int)(h:i<n)(b:decide (i=0)=first)(c:¬e=0)
 (k:TT.lim 300 [.s s,.s a,.b first]=some [.s X,.s Y,.i .i64 0]) (d:TT.lim 292 [.s X]=some [.l D,.i .i64 e]):
 TT.lim 299 [.s s,.i .u64 n,.l L,.s a,.i .u64 i]=some [.i .i64 0,.i .i64 e]:=by
 refine au rfl rfl ?_;simp[h,b,k,d,c]
def ayF(L:Q1)(a s X Y:Q0)(D:Q1)(n i N j:Int)(first:Bool)(e:Int)(h:i<n)(b:decide (i=0)=first)(c:¬e=0)
 (k:TT.lim 300 [.s s,.s a,.b first]=some [.s X,.s Y,.i .i64 0]) (d:TT.lim 292 [.s X]=some [.l D,.i .i64 0])
 (f:TT.lim 282 [.s Y]=some [.i .u64 N,.i .i64 j,.i .i64 e]):
 TT.lim 299 [.s s,.i .u64 n,.l L,.s a,.i .u64 i]=some [.i .i64 0,.i .i64 e]:=by
 refine au rfl rfl ?_;simp[h,b,k,d,f,c]
def ayG(L:Q1)(a s X Y:Q0)(D:Q1)(n i j:Int)(first:Bool)(h:i<n)(b:decide (i=0)=first)
 (k:TT.lim 300 [.s s,.s a,.b first]=some [.s X,.s Y,.i .i64 0]) (c:TT.lim 292 [.s X]=some [.l D,.i .i64 0])
 (d:TT.lim 282 [.s Y]=some [.i .u64 0,.i .i64 j,.i .i64 0]):
 TT.lim 299 [.s s,.i .u64 n,.l L,.s a,.i .u64 i]=some [.i .i64 0,.i .i64 17]:=by
 refine au rfl rfl ?_;simp[h,b,k,c,d]
def ayE(L:Q1)(a s X Y:Q0)(D:Q1)(n i N:Int)(j:Nat)(first:Bool)(R:Q1)(h:i<n)(d:decide (i=0)=first)(e:¬N=0)(f:IntKind.u64.wrap (i+1)=i+1)(q:L.length<=100000000)(r:j<=Y.length)
 (k:TT.lim 300 [.s s,.s a,.b first]=some [.s X,.s Y,.i .i64 0]) (g:TT.lim 292 [.s X]=some [.l D,.i .i64 0])
 (l:TT.lim 282 [.s Y]=some [.i .u64 N,.i .i64 j,.i .i64 0])
 (m:TT.lim 299 [.s (Y.drop j),.i .u64 n,.l (L++[.g [.l D,.i .u64 N]]),.s X,.i .u64 (i+1)]=some R):
 TT.lim 299 [.s s,.i .u64 n,.l L,.s a,.i .u64 i]=some R:=by
 have b:2*(L.length+1)*32<=281474976710656/\L.length+1<=281474976710656:=by omega
 have c:(j:Int)<=Y.length:=by omega
 have o:(Y.take Y.length).drop j=Y.drop j:=by rw[pq]
 generalize p:Y.drop j=Z at *;refine au rfl rfl ?_;simp[h,d,k,g,l,e,f,GV.dZ,b,c,o,p,m]
def aiT(n:Nat)(A:n<=1000):∀(m:Nat)(b:List Row)(a s:Q0),b.length+m=n->a.length+s.length<=100000000->
 TT.lim 299 [.s s,.i .u64 n,.l (b.map row),.s a,.i .u64 b.length]=some (yh b s (fQ m a (decide ((b.length:Int)=0)) s))
 |0,b,a,s,hi,h=>by
  have r:¬((b.length:Int)<(n:Int)):=by omega
  unfold fQ yh;simp only[ne_eq,not_true_eq_false,if_false,ng,bK];generalize b.map row=L at *;refine au rfl rfl ?_;simp[r]
 |m+1,b,a,s,hi,h=>by
  have k:=ayv s a (decide ((b.length:Int)=0)) (by omega) (by omega);rw[Vd];generalize l:decide ((b.length:Int)=0)=first at *
  by_cases g:(aY s a first).2.2=0;rotate_left
  ·rw[aj g];have:yh b s ([],0,(aY s a first).2.2)=[.i .i64 0,.i .i64 (aY s a first).2.2]:=by unfold yh;rw[aj g]
   rw[this];exact ayD _ _ _ _ _ _ _ _ _ (by omega) l g k
  rw[ah (λe=>e g)];rw[aj g,g]at k;obtain⟨M,N,B⟩:=Ve g;have D:(aY s a first).1.length+(s.length-(aY s a first).2.1)<=a.length+s.length:=by split at B<;>omega
  have t:∀j,s.drop ((aY s a first).2.1+j)=(s.drop (aY s a first).2.1).drop j:=by intro j;rw[nP]
  rw[t];have E:(s.drop (aY s a first).2.1).length=s.length-(aY s a first).2.1:=dH;generalize O:(aY s a first).1=X at *;generalize F:(aY s a first).2.1=u at *;generalize G:s.drop u=Y at *;have i:=aiv X (by omega);have o:=Eb Y (by omega);have v:∀e,e≠0->yh b s ([],0,e)=[.i .i64 0,.i .i64 e]:=by intro e H;unfold yh;rw[aj H]
  by_cases c:(jS X).2=0;rotate_left
  ·have:fV X Y=yj (jS X).2:=by unfold fV;rw[aj c]
   rw[this,aj (show(yj (jS X).2).2.2≠0 from c)];show _=some (yh b s ([],0,(jS X).2))
   rw[v _ c];exact ayC _ _ _ _ _ _ _ _ _ _ (by omega) l c k i
  by_cases d:(ay Y).2.2=0;rotate_left
  ·have:fV X Y=yj (ay Y).2.2:=by unfold fV;rw[ah (λe=>e c),aj d]
   rw[this,aj (show(yj (ay Y).2.2).2.2≠0 from d)];show _=some (yh b s ([],0,(ay Y).2.2))
   rw[v _ d];rw[c]at i;exact ayF _ _ _ _ _ _ _ _ _ _ _ _ (by omega) l d k i o
  by_cases w:(ay Y).1=0
  ·have:fV X Y=yj 17:=by unfold fV;rw[ah (λe=>e c),ah (λe=>e d),aj w]
   rw[this,aj (by simp[yj])];show _=some (yh b s ([],0,17))
   rw[v _ (by decide)];rw[c]at i;rw[d,w]at o;exact ayG _ _ _ _ _ _ _ _ _ _ (by omega) l k i o
  have q:fV X Y=(((jS X).1,(((ay Y).1:Nat):Int)),(ay Y).2.1,0):=by unfold fV;rw[ah (λe=>e c),ah (λe=>e d),ah w]
  obtain⟨P,Q,I,_,_⟩:=iQ d;rw[q,ah (by simp)];simp only;rw[c]at i;rw[d]at o;have y:=aiT n A m (b++[((jS X).1,(((ay Y).1:Nat):Int))]) X (Y.drop (ay Y).2.1) (by rw[eX,uI];omega) (by rw[dH];omega);have f:decide (((b++[((jS X).1,(((ay Y).1:Nat):Int))]).length:Int)=0)=false:=by simp;omega
  have J:((b++[((jS X).1,(((ay Y).1:Nat):Int))]).length:Int)=(b.length:Int)+1:=by simp
  rw[f,J,jG]at y;have x:∀z,s.drop (u+(ay Y).2.1+z)=(Y.drop (ay Y).2.1).drop z:=by intro z;rw[<-G,nP,nP];congr 1;omega
  have p:yh b s (if(fQ m X false (Y.drop (ay Y).2.1)).2.2≠0 then([],0,(fQ m X false (Y.drop (ay Y).2.1)).2.2)else(((jS X).1,(((ay Y).1:Nat):Int))::(fQ m X false (Y.drop (ay Y).2.1)).1,u+(ay Y).2.1+(fQ m X false (Y.drop (ay Y).2.1)).2.1,0)) =
   yh (b++[((jS X).1,(((ay Y).1:Nat):Int))]) (Y.drop (ay Y).2.1) (fQ m X false (Y.drop (ay Y).2.1)):=by
   unfold yh;by_cases q:(fQ m X false (Y.drop (ay Y).2.1)).2.2=0
   ·simp only[q,ne_eq,not_true_eq_false,if_false,x];simp
   ·simp[q]
  rw[p];exact ayE _ _ _ _ _ _ _ _ _ _ _ _ (by omega) l (by omega) (dn (by omega) (by omega)) (by simp;omega) I k i o y
def ayo(s:Q0)(l:s.length<=100000000):TT.lim 298 [.s s]=some [.l ((jC s).1.map row),.s (if(jC s).2.2=0 then s.drop (jC s).2.1 else[]),.i .i64 (jC s).2.2]:=by
 have c:=Eb s (by omega);unfold jC;by_cases d:(ay s).2.2=0;rotate_left
 ·rw[aj d];generalize(ay s).2.2=e at *;refine aG rfl rfl ?_ (by rfl);simp[c,d,BI]
 obtain⟨m,o,p,q,_⟩:=iQ d;rw[ah (λe=>e d)];rw[d]at c;by_cases b:256<(ay s).1
 ·have f:(256:Int)<((ay s).1:Nat):=by omega
  rw[aj b];generalize(ay s).1=n at *;generalize(ay s).2.1=i at *;refine aG rfl rfl ?_ rfl;simp[c,b,f,BI]
 have h:=aiT (ay s).1 (by omega) (ay s).1 [] [] (s.drop (ay s).2.1) (by simp) (by rw[dH];simp;omega);have j:(s.take s.length).drop (ay s).2.1=s.drop (ay s).2.1:=by rw[pq]
 generalize(ay s).1=n at *;generalize(ay s).2.1=i at *;rw[ah b];have f:¬(256:Int)<(n:Int):=by omega
 have hi:(i:Int)<=s.length:=by omega
 rw[show decide ((([]:List Row).length:Int)=0)=true from rfl]at h;have a:TT.lim 299 [.s (s.drop i),.i .u64 n,.l [],.s [],.i .u64 0]=_:=h;unfold yh at a;rw[nP]at a;generalize fQ n [] true (s.drop i)=r at *;generalize k:s.drop i=Y at *;by_cases g:r.2.2=0
 ·simp only[g,ne_eq,not_true_eq_false,if_false,aW]at a⊢;generalize s.drop (i+r.2.1)=Z at *;refine aG rfl rfl ?_ (by rfl);simp[c,b,f,hi,j,k,a]
 ·simp only[g,ne_eq,not_false_eq_true,if_true]at a⊢;refine aG rfl rfl ?_ (by rfl);simp[c,b,f,hi,j,k,a,BI,g]
def nO(s:Q0):List Row×Int:=
 if(jC s).2.2≠0 then([],(jC s).2.2)else if(jC s).2.1<s.length then([],10)else((jC s).1,0)
def aaX:∀(m:Nat)(a:Q0)(first:Bool)(s:Q0),(fQ m a first s).2.2=0->(fQ m a first s).2.1<=s.length/\(fQ m a first s).1.length=m
 |0,a,first,s,_=>by simp[fQ]
 |m+1,a,first,s,h=>by
  rw[Vd]at h⊢;by_cases h1:(aY s a first).2.2=0;rotate_left
  ·rw[aj h1]at h;exact absurd h h1
  rw[ah (λe=>e h1)]at h⊢;by_cases b:(fV (aY s a first).1 (s.drop (aY s a first).2.1)).2.2=0;rotate_left
  ·rw[aj b]at h;exact absurd h b
  rw[ah (λe=>e b)]at h⊢;by_cases c:(fQ m (aY s a first).1 false (s.drop ((aY s a first).2.1+(fV (aY s a first).1 (s.drop (aY s a first).2.1)).2.1))).2.2=0;rotate_left
  ·rw[aj c]at h;exact absurd h c
  rw[ah (λe=>e c)];obtain⟨j,k,_⟩:=Ve h1;obtain⟨_,d,_,_,l⟩:=aa4 b;obtain⟨n,o,f,_,_⟩:=iQ d;rw[dH]at f;obtain⟨g,i⟩:=aaX m _ _ _ c;rw[dH]at g;exact⟨by simp only;omega,by simp[i]⟩
def afU{s:Q0}(h:(jC s).2.2=0):(ay s).2.2=0/\(ay s).1<=256/\(fQ (ay s).1 [] true (s.drop (ay s).2.1)).2.2=0/\(jC s).1=(fQ (ay s).1 [] true (s.drop (ay s).2.1)).1/\
 (jC s).2.1=(ay s).2.1+(fQ (ay s).1 [] true (s.drop (ay s).2.1)).2.1/\(jC s).2.1<=s.length:=by
 unfold jC at h⊢;by_cases a:(ay s).2.2=0;rotate_left
 ·rw[aj a]at h;exact absurd h a
 rw[ah (λe=>e a)]at h⊢;by_cases c:256<(ay s).1
 ·rw[aj c]at h;exact absurd h (by simp[BI])
 rw[ah c]at h⊢;by_cases b:(fQ (ay s).1 [] true (s.drop (ay s).2.1)).2.2=0;rotate_left
 ·rw[aj b]at h;exact absurd h b
 rw[ah (λe=>e b)];obtain⟨d,f,g,_,_⟩:=iQ a;obtain⟨d1,_⟩:=aaX _ _ _ _ b;rw[dH]at d1;exact⟨a,by omega,b,rfl,rfl,by simp only;omega⟩
def aCl(s:Q0)(d:s.length<=100000000):TT.lim 248 [.s s]=some [.l ((nO s).1.map row),.i .i64 (nO s).2]:=by
 obtain⟨at2,k,b⟩:=auw s 0 (by omega) d;rw[bK,show((0:Nat):Int)=0 from rfl]at k;rw[bK]at b;unfold nO;by_cases a:(jC s).2.2=0;rotate_left
 ·rw[aj a];generalize jC s=r at *;refine aG rfl rfl ?_ (by rfl);simp[k,a]
 have b:=b a;obtain⟨_,_,_,_,_,f⟩:=afU a;rw[ah (λe=>e a)];rw[a]at k;rw[jQ]at b;have w:=wrap64 (n:=(s.length:Int)-(at2:Int)) (by omega) (by omega);rw[<-b]at f⊢;generalize jC s=r at *;by_cases c:at2<s.length
 ·rw[aj c];refine aG rfl rfl ?_ rfl;simp[k,w,c]
 ·rw[ah c];refine aG rfl rfl ?_ rfl;simp[k,w,c]
def ayN(s:Q0)(f:s.length<=100000000):TT.lim 297 [.s s]=some [.l ((nO s).1.map row),.i .i64 (nO s).2]:=by
 have k:=ayo s f;unfold nO;by_cases b:(jC s).2.2=0;rotate_left
 ·rw[aj b];generalize jC s=r at *;refine aG rfl rfl ?_ (by rfl);simp[k,b]
 rw[ah (λe=>e b)];rw[aj b,b]at k;have c:(s.drop (jC s).2.1=[])=¬((jC s).2.1<s.length):=by apply propext;rw[List.drop_eq_nil_iff];omega
 generalize g:s.drop (jC s).2.1=Y at *;generalize jC s=r at *;by_cases d:r.2.1<s.length
 ·rw[aj d];have a:(Y=[])=False:=by rw[c];simp[d]
  clear c;refine aG rfl rfl ?_ rfl;simp[k,a]
 ·rw[ah d];have a:(Y=[])=True:=by rw[c];simp[d]
  clear c;refine aG rfl rfl ?_ rfl;simp[k,a]
def qX:Q0->List Row->List UInt8
 |_,[]=>[]
 |a,r::t=>uY a (aU r.1)++(aV r.2.toNat++qX (aU r.1) t)
def wY(t:List Row):Q0:=aV t.length++qX [] t
def Gq(t:List Row):Q0×Int:=if jR t≠0 then([],jR t)else(wY t,0)
def abh:∀(t:List Row)(a:Q0),(∀r∈t,gq r.1=true/\0<=r.2/\r.2<18446744073709551616)->(qX a t).length<=40000*t.length
 |[],a,_=>by simp[qX]
 |r::t,a,h=>by obtain⟨h1,c,d⟩:=h r (by simp);have e:=DL h1;have f:=U5 a (aU r.1) (by omega);have g:=jk (n:=r.2.toNat) (by omega);have i:=abh t (aU r.1) λq b=>h q (by simp[b]);simp only[qX,eX,jw];omega
def auA(L:Q1)(n i:Int)(D:List bT)(N:Int)(a k O V b:Q0)(R:Q1)(j:Nat)(hi:i=j)(h:i<n)(g:L[j]? =some (row (D,N)))(l:IntKind.i64.wrap (i+1)=i+1)(m:TT.lim 17 [.l (D.map ent)]=some [.s k])(o:TT.lim 94 [.s a,.s k]=some [.s O])
 (p:TT.lim 18 [.i .u64 N]=some [.s V]) (c:2*(b.length+O.length)<=281474976710656/\b.length+O.length<=281474976710656) (d:2*(b.length+(O.length+V.length))<=281474976710656/\b.length+(O.length+V.length)<=281474976710656)
 (q:TT.lim 93 [.s k,.l L,.i .i64 n,.i .i64 (i+1),.l (dw b++(dw O++dw V))]=some R):
 TT.lim 93 [.s a,.l L,.i .i64 n,.i .i64 i,.l (dw b)]=some R:=by
 subst hi;have e:=Oc O;have f:=Oc V;refine au rfl rfl ?_;simp[-List.all_eq_true,h,g,l,m,o,p,e,f,c,d,jH,q]
def afZ(l:List Row)(k:l.length<=1000)(f:∀r∈l,gq r.1=true/\0<=r.2/\r.2<18446744073709551616):∀(m i:Nat)(a b:Q0),i+m=l.length->a.length<=100000->b.length<=10+40000*i->
 TT.lim 93 [.s a,.l (l.map row),.i .i64 l.length,.i .i64 i,.l (dw b)]=some [.i .i64 0,.l (dw (b++qX a (l.drop i)))]
 |0,i,a,b,hi,o,d=>by
  have p:l.drop i=[]:=cO (by omega);have h:¬((i:Int)<l.length):=by omega
  rw[p];refine au rfl rfl ?_;simp[h,qX]
 |m+1,i,a,b,hi,o,d=>by
  have c:i<l.length:=by omega
  obtain⟨g,u,v⟩:=f l[i] (dW c);have w:=DL g;have q:=DK l[i].1 g;have s:=awi a (aU l[i].1) (by omega) (by omega);have x:=U5 a (aU l[i].1) (by omega);have j:=yS l[i].2.toNat (by omega);rw[show((l[i].2.toNat:Nat):Int)=l[i].2 by omega]at j;have y:=jk (n:=l[i].2.toNat) (by omega);have e:=afZ l k f m (i+1) (aU l[i].1) (b++(uY a (aU l[i].1)++aV l[i].2.toNat)) (by omega) (by omega) (by simp only[eX];omega);have t:b++qX a (l.drop i)=b++(uY a (aU l[i].1)++aV l[i].2.toNat)++qX (aU l[i].1) (l.drop (i+1)):=by rw[dF c];simp[qX]
  rw[t];rw[XJ b,XJ]at e;rw[show((i+1:Nat):Int)=(i:Int)+1 by omega]at e;exact auA _ _ _ l[i].1 l[i].2 a _ _ _ b _ i rfl (by omega) (by simp[c]) (wrap64 (by omega) (by omega)) q s j (by omega) (by omega) e
def auz(t:List Row)(c:Rows t)(l:iF t):TT.lim 92 [.l (t.map row)]=some [.s (Gq t).1,.i .i64 (Gq t).2]:=by
 have d:=SA t c l;unfold Gq;by_cases a:jR t=0;rotate_left
 ·rw[aj a];refine aG rfl rfl ?_ (by rfl);simp[d,a]
 rw[ah (λe=>e a)];rw[a]at d;have m:=((qB t).1 a).1;have o:∀r∈t,gq r.1=true/\0<=r.2/\r.2<18446744073709551616:=λr f=>⟨l r f,(c.2 r f).2.1,(c.2 r f).2.2⟩
 have u:=yS t.length (by omega);have x:=jk (n:=t.length) (by omega);have p:=afZ t (by omega) o t.length 0 [] (aV t.length) (by omega) (by simp) (by omega);rw[bK,show((0:Nat):Int)=0 from rfl]at p;have q:=abh t [] o;have w:=dn (n:=(t.length:Int)) (by omega) (by omega);have ok:=Oc (aV t.length);have s:2*(aV t.length).length<=281474976710656/\(aV t.length).length<=281474976710656:=by omega
 have g:=XL (wY t);have h:(dw (wY t)).length<=281474976710656:=by rw[adE];unfold wY;rw[eX];omega
 have i:TT.lim 93 [.s [],.l (t.map row),.i .i64 t.length,.i .i64 0,.l (dw (aV t.length))]=some [.i .i64 0,.l (dw (wY t))]:=p;generalize dw (wY t)=y at *;generalize wY t=P at *;generalize b:dw (aV t.length)=v at *;have j:v.length=(aV t.length).length:=by rw[<-b,adE]
 rw[<-j]at s;have k:(t.map row).length=t.length:=by simp
 generalize t.map row=L at *;refine aG rfl rfl ?_ rfl;simp[-List.all_eq_true,d,k,w,u,b,ok,s,i,g,h]
def ayr(L:Q1)(n:Int)(D:List bT)(N:Int)(k O V a:Q0)(R:Q1)(h:0<n)(d:L[0]? =some (row (D,N)))(e:TT.lim 126 [.l (D.map ent)]=some [.s k])(f:TT.lim 189 [.s [],.s k]=some [.s O])
 (g:TT.lim 127 [.i .u64 N]=some [.s V]) (b:(a.length:Int)+(O.length:Int)<=9223372036854775807) (c:(a.length:Int)+(O.length:Int)+(V.length:Int)<=9223372036854775807)
 (i:TT.lim 188 [.l L,.s (a++(O++V)),.i .i64 n,.i .i64 1]=some R):
 TT.lim 188 [.l L,.s a,.i .i64 n,.i .i64 0]=some R:=by
 have w1:=wrap64 (n:=1) (by omega) (by omega);refine au rfl rfl ?_;simp[h,d,w1,e,f,g,b,c,i]
def ayq(L:Q1)(n i:Int)(D E:List bT)(N M:Int)(k q O V a:Q0)(R:Q1)(j:Nat)(hi:i=(j:Int)+1)(h:i<n)(h0:(0:Int)<i)(r:L[j+1]? =some (row (D,N)))(b:L[j]? =some (row (E,M)))(s:IntKind.i64.wrap (i+1)=i+1)(c:IntKind.i64.wrap (i-1)=i-1)(d:(i-1).toNat=j)(e:i.toNat=j+1)(f:(0:Int)<=i-1)(g:(1:Int)<=i)(l:(0:Int)<=i)
 (t:TT.lim 126 [.l (D.map ent)]=some [.s k]) (m:TT.lim 126 [.l (E.map ent)]=some [.s q]) (u:TT.lim 189 [.s q,.s k]=some [.s O])
 (v:TT.lim 127 [.i .u64 N]=some [.s V]) (o:(a.length:Int)+(O.length:Int)<=9223372036854775807) (p:(a.length:Int)+(O.length:Int)+(V.length:Int)<=9223372036854775807)
 (w:TT.lim 188 [.l L,.s (a++(O++V)),.i .i64 n,.i .i64 (i+1)]=some R):
 TT.lim 188 [.l L,.s a,.i .i64 n,.i .i64 i]=some R:=by
 clear hi;refine au rfl rfl ?_;simp[h,h0,r,b,s,c,f,d,e,g,l,t,m,u,v,o,p,w]
def aiL(l:List Row)(w:l.length<=1000)(e:∀r∈l,gq r.1=true/\0<=r.2/\r.2<18446744073709551616):∀(m i:Nat)(b:Q0),i+m=l.length->b.length<=10+40000*i->
 TT.lim 188 [.l (l.map row),.s b,.i .i64 l.length,.i .i64 i]=some [.i .i64 0,.s (b++qX (if 0<i then((l[i-1]?).map K).getD []else[]) (l.drop i))]
 |0,i,b,hi,d=>by
  have x:l.drop i=[]:=cO (by omega);have h:¬((i:Int)<l.length):=by omega
  rw[x];refine au rfl rfl ?_;simp[h,qX]
 |m+1,i,b,hi,d=>by
  have c:i<l.length:=by omega
  obtain⟨t,A,B⟩:=e l[i] (dW c);have D:=DL t;have u:=zT l[i].1 t;have f:=yT l[i].2.toNat (by omega);rw[show((l[i].2.toNat:Nat):Int)=l[i].2 by omega]at f;have E:=jk (n:=l[i].2.toNat) (by omega);have v:∀a,b++qX a (l.drop i)=b++(uY a (aU l[i].1)++aV l[i].2.toNat)++qX (aU l[i].1) (l.drop (i+1)):=by intro a;rw[dF c];simp[qX]
  have g:=λa (F:(uY a (aU l[i].1)).length<=20+(aU l[i].1).length)=>aiL l w e m (i+1) (b++(uY a (aU l[i].1)++aV l[i].2.toNat)) (by omega) (by simp only[eX];omega);have k:(if 0<i+1 then((l[i+1-1]?).map K).getD []else[])=aU l[i].1:=by simp[c]
  rw[k,show((i+1:Nat):Int)=(i:Int)+1 by omega]at g;by_cases y:i=0
  ·subst y;rw[ah (by omega),v];have o:=aiR [] (aU l[0].1) (by simp) (by omega);have p:=U5 [] (aU l[0].1) (by omega);exact ayr _ _ l[0].1 l[0].2 _ _ _ b _ (by omega) (by simp[c]) u o f (by omega) (by omega) (g [] p)
  ·obtain⟨j,rfl⟩:∃j,i=j+1:=⟨i-1,by omega⟩
   have q:j<l.length:=by omega
   obtain⟨g1,_,_⟩:=e l[j] (dW q);have s:=zT l[j].1 g1;have z:=DL g1;rw[aj (by omega),show((l[j+1-1]?).map K).getD []=aU l[j].1 by simp[q],v];have o:=aiR (aU l[j].1) (aU l[j+1].1) (by omega) (by omega);have p:=U5 (aU l[j].1) (aU l[j+1].1) (by omega);exact ayq _ _ _ l[j+1].1 l[j].1 l[j+1].2 l[j].2 _ _ _ _ b _ j (by omega) (by omega) (by omega) (by simp[c]) (by simp[q]) (wrap64 (by omega) (by omega)) (wrap64 (by omega) (by omega)) (by omega) (by omega) (by omega) (by omega) (by omega) u s o f (by omega) (by omega) (g _ p)
def ayp(t:List Row)(b:Rows t)(h:iF t):TT.lim 186 [.l (t.map row)]=some [.s (Gq t).1,.i .i64 (Gq t).2]:=by
 have c:=Iu t b h;unfold Gq;by_cases a:jR t=0;rotate_left
 ·rw[aj a];refine aG rfl rfl ?_ (by rfl);simp[c,a]
 rw[ah (λe=>e a)];rw[a]at c;have i:=((qB t).1 a).1;have k:∀r∈t,gq r.1=true/\0<=r.2/\r.2<18446744073709551616:=λr d=>⟨h r d,(b.2 r d).2.1,(b.2 r d).2.2⟩
 have l:=yT t.length (by omega);have o:=jk (n:=t.length) (by omega);have j:=aiL t (by omega) k t.length 0 (aV t.length) (by omega) (by omega);rw[bK,ah (by omega),show((0:Nat):Int)=0 from rfl]at j;have f:TT.lim 188 [.l (t.map row),.s (aV t.length),.i .i64 t.length,.i .i64 0]=some [.i .i64 0,.s (wY t)]:=j;have w:=dn (n:=(t.length:Int)) (by omega) (by omega);have g:(t.map row).length=t.length:=by simp
 generalize wY t=P at *;generalize aV t.length=V at *;generalize t.map row=L at *;have m:TT.lim 187 [.l L]=some [.s P]:=by refine aG rfl rfl ?_ rfl;simp[g,w,l,f]
 refine aG rfl rfl ?_ rfl;simp[c,m]
def aeK{x:bT}(h:pJ x=0):x.1.length<=64/\x.2.length<=256:=by
 have d:∀(s:Q0)(lo hi:Int),iV s lo hi=0->(s.length:Int)<=hi:=by
  intro s lo hi h;unfold iV at h;split at h
  ·cases h
  ·split at h
   ·cases h
   ·omega
 unfold pJ at h;by_cases c:iV x.1 1 64=0
 ·rw[ah (λe=>e c)]at h;have a:=d _ _ _ c;have b:=d _ _ _ h;omega
 ·rw[aj c]at h;exact absurd h c
def ajM{s:Q0}(h:(bZ s).2.2=0):aV (bZ s).1.length++(bZ s).1=s.take (bZ s).2.1:=by
 unfold bZ at h⊢;by_cases a:(ay s).2.2=0;rotate_left
 ·rw[aj a]at h;exact absurd h a
 rw[ah (λe=>e a)]at h⊢;obtain⟨d,f,g,i,c⟩:=iQ a;by_cases b:s.length-(ay s).2.1<(ay s).1
 ·rw[aj b]at h;cases h
 rw[ah b];simp only[kN,dH];rw[Ho (by omega),c,CQ]
def aqJ{s:Q0}(h:(bV s).2.2=0):jf (bV s).1=s.take (bV s).2.1:=by obtain⟨_,_,_,_,_,a,b,c,d⟩:=OU h;rw[c,d];unfold jf;simp only;have e:=ajM a;have f:=ajM b;rw[e,List.append_assoc,f,CQ]
def aeA:∀(m:Nat)(p:Option bT)(s:Q0),(fD m p s).2.2=0->(fD m p s).1.flatMap jf=s.take (fD m p s).2.1/\lZ (p.map (·.1)) (fD m p s).1=0
 |0,p,s,_=>by simp[fD,lZ]
 |m+1,p,s,h=>by
  rw[Tf]at h⊢;by_cases h1:(bV s).2.2=0;rotate_left
  ·rw[aj h1]at h;exact absurd h h1
  rw[ah (λe=>e h1)]at h⊢;by_cases b:wz p (bV s).1=0;rotate_left
  ·rw[aj b]at h;exact absurd h b
  rw[ah (λe=>e b)]at h⊢;by_cases c:(fD m (some (bV s).1) (s.drop (bV s).2.1)).2.2=0;rotate_left
  ·rw[aj c]at h;exact absurd h c
  rw[ah (λe=>e c)];obtain⟨i,d⟩:=aeA m (some (bV s).1) _ c;obtain⟨_,_,j,_⟩:=OU h1;have l:=aqJ h1;refine⟨by simp only[jF,i,l,CQ],?_⟩;unfold lZ;rw[ah (λe=>e j)];cases p with
  |none=>exact d
  |some k=>
   have a:qA k.1 (bV s).1.1=0:=b;unfold qA at a;simp only[gB];by_cases f:(bV s).1.1=k.1
   ·rw[aj f]at a;exact absurd a (by decide)
   rw[ah f]at a⊢;by_cases g:Op.bytesLess (bV s).1.1 k.1=true
   ·rw[aj g]at a;exact absurd a (by decide)
   rw[ah g];exact d
structure DOk(d:List bT)(key:Q0):Prop where
 chk:tZ d=0
 few:gq d=true
 ents:lU d
 put:aU d=key
def aqA{s:Q0}(h:(jJ s).2.2=0)(n:s.length<=100000000):DOk (jJ s).1 (s.take (jJ s).2.1):=by
 obtain⟨d,o,p,b,e,f,q⟩:=aeB h;obtain⟨r,g,c⟩:=Yj _ _ _ b;obtain⟨i,j⟩:=aeA _ _ _ b;obtain⟨t,u,v,w,k⟩:=iQ d;rw[e,f];refine⟨?_,?_,⟨by omega,λx a=>?_⟩,?_⟩
 ·unfold tZ;rw[ah (by omega),ah (by omega)];exact j
 ·unfold gq;rw[aK,decide_eq_true_iff,List.all_eq_true];refine⟨λx a=>?_,by omega⟩;obtain⟨l,m⟩:=aeK (c x a).1;unfold qV;rw[decide_eq_true_iff];omega
 ·obtain⟨l,m⟩:=aeK (c x a).1;omega
 ·unfold aU;rw[g,k,i,CQ]
def aeD{s:Q0}(h:(jS s).2=0)(c:s.length<=100000000):DOk (jS s).1 s:=by
 unfold jS at h⊢;by_cases a:(jJ s).2.2=0;rotate_left
 ·rw[aj a]at h;exact absurd h a
 rw[ah (λe=>e a)]at h⊢;by_cases b:(jJ s).2.1<s.length
 ·rw[aj b]at h;exact absurd h (by simp)
 rw[ah b];have:=aqA a c;rw[lW (by omega)]at this;exact this
def axf{s a:Q0}{first:Bool}(h:(aY s a first).2.2=0)(f:first=true->a=[]):uY a (aY s a first).1=s.take (aY s a first).2.1/\(first=false->a<(aY s a first).1):=by
 have k:(if first=true then[]else a)=a:=by
  cases first with
  |true=>rw[aj rfl,f rfl]
  |false=>rfl
 unfold aY at h⊢;simp only[k]at h⊢;by_cases b:(ay s).2.2=0;rotate_left
 ·rw[aj b]at h;exact absurd h b
 rw[ah (λe=>e b)]at h⊢;by_cases g:a.length<(ay s).1
 ·rw[aj g]at h;exact absurd h (by simp[iM])
 rw[ah g]at h⊢;by_cases c:(ay (s.drop (ay s).2.1)).2.2=0;rotate_left
 ·rw[aj c]at h;exact absurd h c
 rw[ah (λe=>e c)]at h⊢;by_cases i:s.length-((ay s).2.1+(ay (s.drop (ay s).2.1)).2.1)<(ay (s.drop (ay s).2.1)).1
 ·rw[aj i]at h;exact absurd h (by simp[iM])
 rw[ah i]at h⊢;obtain⟨u,v,w,x,l⟩:=iQ b;obtain⟨y,z,A,B,m⟩:=iQ c;have n:((s.drop ((ay s).2.1+(ay (s.drop (ay s).2.1)).2.1)).take (ay (s.drop (ay s).2.1)).1).length=(ay (s.drop (ay s).2.1)).1:=by rw[kN,dH];omega
 generalize o:(s.drop ((ay s).2.1+(ay (s.drop (ay s).2.1)).2.1)).take (ay (s.drop (ay s).2.1)).1=X at *;by_cases d:first=false/\Op.bytesLess a (a.take (ay s).1++X)=false
 ·rw[aj d]at h;exact absurd h (by simp[iM])
 rw[ah d]at h⊢;by_cases j:(ay s).1<common a (a.take (ay s).1++X)
 ·rw[aj j]at h;exact absurd h (by simp[iM])
 rw[ah j];have p:=Yb (ay s).1 a X (by omega);have q:common a (a.take (ay s).1++X)=(ay s).1:=by omega
 refine⟨?_,λf=>?_⟩
 ·unfold uY;simp only[q];have r:(a.take (ay s).1++X).length-(ay s).1=(ay (s.drop (ay s).2.1)).1:=by rw[eX,kN,n];omega
  have t:(a.take (ay s).1++X).drop (ay s).1=X:=by rw[WI (by rw[kN];omega)];rw[cO (by rw[kN];omega)];rfl
  rw[r,t,l,m,<-o];rw[CQ,CQ,<-nP]
 ·simp only[f,true_and]at d;rw[<-wB];simpa using d
def ahX:∀(m:Nat)(a:Q0)(first:Bool)(s:Q0),(fQ m a first s).2.2=0->(first=true->a=[])->a.length+s.length<=100000000->
 qX a (fQ m a first s).1=s.take (fQ m a first s).2.1/\iH (fQ m a first s).1/\(first=false->∀r∈(fQ m a first s).1,a<K r)/\(∀r∈(fQ m a first s).1,oG r=0/\gq r.1=true/\lU r.1/\0<=r.2/\r.2<18446744073709551616)
 |0,a,first,s,_,_,_=>by simp[fQ,qX,iH]
 |m+1,a,first,s,h,n,B=>by
  rw[Vd]at h⊢;by_cases h1:(aY s a first).2.2=0;rotate_left
  ·rw[aj h1]at h;exact absurd h h1
  rw[ah (λe=>e h1)]at h⊢;by_cases c:(fV (aY s a first).1 (s.drop (aY s a first).2.1)).2.2=0;rotate_left
  ·rw[aj c]at h;exact absurd h c
  rw[ah (λe=>e c)]at h⊢;by_cases d:(fQ m (aY s a first).1 false (s.drop ((aY s a first).2.1+(fV (aY s a first).1 (s.drop (aY s a first).2.1)).2.1))).2.2=0;rotate_left
  ·rw[aj d]at h;exact absurd h d
  rw[ah (λe=>e d)];obtain⟨D,E,o⟩:=Ve h1;obtain⟨p,j⟩:=axf h1 n;obtain⟨q,t,F,g,u⟩:=aa4 c;have v:(aY s a first).1.length<=a.length+(aY s a first).2.1:=by cases first<;>simp at o<;>omega
  obtain⟨G,H,I,J,w⟩:=iQ t;have f:=aeD q (by omega);obtain⟨x,y,k,z⟩:=ahX m _ false _ d (λe=>by cases e) (by rw[dH];omega);have i:K (fV (aY s a first).1 (s.drop (aY s a first).2.1)).1=(aY s a first).1:=by rw[g];exact f.put
  have A:(fV (aY s a first).1 (s.drop (aY s a first).2.1)).1.2.toNat=(ay (s.drop (aY s a first).2.1)).1:=by rw[g];simp
  simp only;refine⟨?_,?_,λl r b=>?_,λr b=>?_⟩
  ·show uY a (K _)++(aV _++qX (K _) _)=_
   rw[i,A,x,p,w,<-u];rw[CQ,CQ,List.append_assoc]
  ·refine iK.2 ⟨λr b=>?_,y⟩;rw[i];exact k rfl r b
  ·rcases bD.1 b with rfl|b
   ·rw[i];exact j l
   ·exact vM (j l) (k rfl r b)
  ·rcases bD.1 b with rfl|b
   ·rw[g];refine⟨?_,f.few,f.ents,by simp only;omega,by simp only;omega⟩;rw[Ed];exact⟨f.chk,by simp only;omega⟩
   ·exact z r b
structure CX(t:List Row):Prop where
 ok:Ok t
 few:iF t
 rows:Rows t
def CX.tb{t:List Row}(h:CX t):jR t=0:=(qB t).2 h.ok
def auy{s:Q0}(h:(jC s).2.2=0)(l:s.length<=100000000):wY (jC s).1=s.take (jC s).2.1/\CX (jC s).1:=by obtain⟨d,m,c,e,f,n⟩:=afU h;obtain⟨o,p,q,t,g⟩:=iQ d;obtain⟨u,i⟩:=aaX _ _ _ _ c;obtain⟨j,k,_,b⟩:=ahX _ _ _ _ c (λ_=>rfl) (by rw[dH];simp;omega);rw[e,f];refine⟨?_,⟨by omega,k,λr a=>(b r a).1⟩,λr a=>(b r a).2.1,by omega,λr a=>(b r a).2.2⟩;unfold wY;rw[i,g,j,CQ]
def ajP:CX []:=⟨⟨by simp,List.Pairwise.nil,by simp⟩,λr a=>by simp at a,by simp,by simp⟩
def aCm{s:Q0}(d:s.length<=100000000):CX (nO s).1/\((nO s).2=0->wY (nO s).1=s)/\((nO s).2≠0->(nO s).1=[]):=by
 unfold nO;by_cases a:(jC s).2.2=0;rotate_left
 ·rw[aj a];exact⟨ajP,λh=>absurd h a,λ_=>rfl⟩
 rw[ah (λe=>e a)];by_cases b:(jC s).2.1<s.length
 ·rw[aj b];exact⟨ajP,λh=>absurd h (by decide),λ_=>rfl⟩
 rw[ah b];obtain⟨c,f⟩:=auy a d;rw[lW (by omega)]at c;exact⟨f,λ_=>c,λh=>absurd rfl h⟩
def CX.len{t:List Row}(h:CX t):t.length<=256:=h.ok.1
def CX.good{t:List Row}(h:CX t):dR t:=⟨Nat.le_trans h.len (by decide),h.few,h.rows⟩
