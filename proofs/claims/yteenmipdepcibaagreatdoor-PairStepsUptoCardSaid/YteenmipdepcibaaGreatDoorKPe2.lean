/- What the trees compute: plain laws. -/
import Derived.Test.YteenmipdepcibaaGreatDoorKPe1
set_option linter.unusedSimpArgs false
set_option linter.unusedVariables false
namespace Go.Proofs.YteenmipdepcibaaGreatDoor
open Go Go.aN
set_option maxRecDepth 100000
namespace P
def eP(s:Q0):Q0×Nat×Int:=
 if(aB s).2.2≠0 then([],0,(aB s).2.2)else
 if s.length-(aB s).2.1<(aB s).1 then([],0,1)else
 ((s.drop (aB s).2.1).take (aB s).1,(aB s).2.1+(aB s).1,0)
theorem V4{s:Q0}(h:(eP s).2.2=0):1<=(eP s).2.1/\(eP s).2.1<=s.length/\(eP s).1.length<=s.length:=by
 unfold eP at h⊢;by_cases h1:(aB s).2.2=0;rotate_left
 ·rw[aj h1]at h;exact absurd h h1
 rw[ah (λe=>e h1)]at h⊢;obtain⟨v1,v2,v3,v4,v5⟩:=jY h1;by_cases h2:s.length-(aB s).2.1<(aB s).1
 ·rw[aj h2]at h;cases h
 rw[ah h2];simp only[kF,eX];omega
theorem ajc(t:Q0)(at':Nat)(h:at'<=t.length)(ht:t.length<=100000000):
 ∃at2:Nat,TT.lim 202 [.s t,.i .i64 at']=some [.i .i64 0,.s (eP (t.drop at')).1,.i .i64 (eP (t.drop at')).2.2,.s t,.i .i64 at2]/\((eP (t.drop at')).2.2=0->at2=at'+(eP (t.drop at')).2.1):=by
 have k1:=Bz t at' h (by omega);unfold eP;by_cases he:(aB (t.drop at')).2.2=0;rotate_left
 ·obtain⟨e1,e2⟩:=Jq he;rw[e1,e2]at k1;rw[aj he];generalize(aB (t.drop at')).2.2=e at *;refine⟨at',au rfl rfl ?_,λh=>absurd h he⟩;simp[k1,he]
 obtain⟨v1,v2,v3,v4,_⟩:=jY he;rw[ah (λe=>e he)];rw[he]at k1;rw[eX]at v3⊢;rw[sK];generalize(aB (t.drop at')).1=n at *;generalize(aB (t.drop at')).2.1=i at *;have w1:=wrap64 (n:=(t.length:Int)-((at':Int)+(i:Int))) (by omega) (by omega);have w2:=gJ (n:=(t.length:Int)-((at':Int)+(i:Int))) (by omega) (by omega);simp only[Eb]at k1;by_cases c1:t.length-at'-i<n
 ·have c1':(t.length:Int)-((at':Int)+(i:Int))<(n:Int):=by omega
  rw[aj c1];refine⟨at'+i,au rfl rfl ?_,λh=>by cases h⟩;simp[k1,w1,w2,c1']
 ·have c1':¬(t.length:Int)-((at':Int)+(i:Int))<(n:Int):=by omega
  rw[ah c1];have w3:=wrap64 (n:=(n:Int)) (by omega) (by omega);have w4:=wrap64 (n:=(at':Int)+(i:Int)+(n:Int)) (by omega) (by omega);have ts:((t.take (at'+i+n)).drop (at'+i))=(t.drop (at'+i)).take n:=by rw[JF];congr 1;omega
  have c2:(at':Int)+(i:Int)<=(at':Int)+(i:Int)+(n:Int)/\(at':Int)+(i:Int)+(n:Int)<=t.length:=by omega
  have c3:(0:Int)<=(at':Int)+(i:Int):=by omega
  have t1:((at':Int)+(i:Int)+(n:Int)).toNat=at'+i+n:=by omega
  have t2:((at':Int)+(i:Int)).toNat=at'+i:=by omega
  generalize(t.drop (at'+i)).take n=X at *;refine⟨at'+i+n,au rfl rfl ?_,λ_=>by simp only;omega⟩;simp[k1,w1,w2,w3,w4,c1',c2,c3,t1,t2,ts]
def dM(s:Q0):dW×Nat×Int:=
 if(eP s).2.2≠0 then(([],[]),0,(eP s).2.2)else
 if(eP (s.drop (eP s).2.1)).2.2≠0 then(([],[]),0,(eP (s.drop (eP s).2.1)).2.2)else
 if vX ((eP s).1,(eP (s.drop (eP s).2.1)).1)≠0 then(([],[]),0,vX ((eP s).1,(eP (s.drop (eP s).2.1)).1))else
 (((eP s).1,(eP (s.drop (eP s).2.1)).1),(eP s).2.1+(eP (s.drop (eP s).2.1)).2.1,0)
theorem SG{s:Q0}(h:(dM s).2.2=0):2<=(dM s).2.1/\(dM s).2.1<=s.length/\vX (dM s).1=0/\(dM s).1.1.length<=s.length/\(dM s).1.2.length<=s.length/\
 (eP s).2.2=0/\(eP (s.drop (eP s).2.1)).2.2=0/\(dM s).1=((eP s).1,(eP (s.drop (eP s).2.1)).1)/\(dM s).2.1=(eP s).2.1+(eP (s.drop (eP s).2.1)).2.1:=by
 unfold dM at h⊢;by_cases h1:(eP s).2.2=0;rotate_left
 ·rw[aj h1]at h;exact absurd h h1
 rw[ah (λe=>e h1)]at h⊢;by_cases h2:(eP (s.drop (eP s).2.1)).2.2=0;rotate_left
 ·rw[aj h2]at h;exact absurd h h2
 rw[ah (λe=>e h2)]at h⊢;by_cases h3:vX ((eP s).1,(eP (s.drop (eP s).2.1)).1)=0;rotate_left
 ·rw[aj h3]at h;exact absurd h h3
 rw[ah (λe=>e h3)];obtain⟨a1,a2,a3⟩:=V4 h1;obtain⟨b1,b2,b3⟩:=V4 h2;rw[eX]at b2 b3;exact⟨by simp only;omega,by simp only;omega,h3,a3,by simp only;omega,h1,h2,rfl,rfl⟩
theorem apn(t:Q0)(at':Nat)(h:at'<=t.length)(ht:t.length<=100000000):
 ∃at2:Nat,TT.lim 201 [.s t,.i .i64 at']=some [.i .i64 0,.s (dM (t.drop at')).1.1,.s (dM (t.drop at')).1.2,.i .i64 (dM (t.drop at')).2.2,.s t,.i .i64 at2]/\((dM (t.drop at')).2.2=0->at2=at'+(dM (t.drop at')).2.1):=by
 obtain⟨p,k1,e1⟩:=ajc t at' h ht;unfold dM;by_cases h1:(eP (t.drop at')).2.2=0;rotate_left
 ·rw[aj h1];generalize eP (t.drop at')=A at *;refine⟨p,au rfl rfl ?_,λh=>absurd h h1⟩;simp[k1,h1]
 have e1:=e1 h1;obtain⟨a1,a2,a3⟩:=V4 h1;rw[eX]at a2 a3;have hdd:(t.drop at').drop (eP (t.drop at')).2.1=t.drop p:=by rw[sK,e1]
 obtain⟨q,k2,e2⟩:=ajc t p (by omega) ht;rw[ah (λe=>e h1),hdd];rw[h1]at k1;by_cases h2:(eP (t.drop p)).2.2=0;rotate_left
 ·rw[aj h2];generalize eP (t.drop at')=A at *;generalize eP (t.drop p)=B at *;refine⟨q,au rfl rfl ?_,λh=>absurd h h2⟩;simp[k1,k2,h2]
 have e2:=e2 h2;obtain⟨b1,b2,b3⟩:=V4 h2;rw[eX]at b2 b3;rw[ah (λe=>e h2)];rw[h2]at k2;have kc:=aey ((eP (t.drop at')).1,(eP (t.drop p)).1) (by simp only;omega) (by simp only;omega);have Zc:TT.lim 40 [.g [.s (eP (t.drop at')).1,.s (eP (t.drop p)).1]]=_:=kc;generalize eP (t.drop at')=A at *;generalize eP (t.drop p)=B at *;by_cases h3:vX (A.1,B.1)=0;rotate_left
 ·rw[aj h3];refine⟨q,au rfl rfl ?_,λh=>absurd h h3⟩;generalize vX (A.1,B.1)=E at *;simp[k1,k2,Zc,h3]
 ·rw[ah (λe=>e h3)];rw[h3]at Zc;refine⟨q,au rfl rfl ?_,λ_=>by simp only;omega⟩;simp[k1,k2,Zc]
def Aa(p:Option dW)(x:dW):Int:=match p with
 |none=>0
 |some k=>zZ k.1 x.1
def gu:Nat->Option dW->List UInt8->List dW×Nat×Int
 |0,_,_=>([],0,0)
 |m+1,p,s=>if(dM s).2.2≠0 then([],0,(dM s).2.2)else
  if Aa p (dM s).1≠0 then([],0,Aa p (dM s).1)else
  if(gu m (some (dM s).1) (s.drop (dM s).2.1)).2.2≠0 then([],0,(gu m (some (dM s).1) (s.drop (dM s).2.1)).2.2)else
  ((dM s).1::(gu m (some (dM s).1) (s.drop (dM s).2.1)).1,(dM s).2.1+(gu m (some (dM s).1) (s.drop (dM s).2.1)).2.1,0)
theorem Yb(m:Nat)(p:Option dW)(s:Q0):gu (m+1) p s=if(dM s).2.2≠0 then([],0,(dM s).2.2)else
 if Aa p (dM s).1≠0 then([],0,Aa p (dM s).1)else
 if(gu m (some (dM s).1) (s.drop (dM s).2.1)).2.2≠0 then([],0,(gu m (some (dM s).1) (s.drop (dM s).2.1)).2.2)else
 ((dM s).1::(gu m (some (dM s).1) (s.drop (dM s).2.1)).1,(dM s).2.1+(gu m (some (dM s).1) (s.drop (dM s).2.1)).2.1,0):=rfl
def Ba(acc:List dW)(t:Q0)(at2:Nat)(r:List dW×Nat×Int):Q1:=if r.2.2≠0 then[.i .i64 0,.i .i64 r.2.2,.s t,.i .i64 at2]else[.i .i64 1,.l ((acc++r.1).map ent),.s t,.i .i64 at2]
theorem apf(L:Q1)(n i at' at2:Int)(t:Q0)(x:dW)(e:Int)(h:i<n)(he:¬e=0)
 (k:TT.lim 201 [.s t,.i .i64 at']=some [.i .i64 0,.s x.1,.s x.2,.i .i64 e,.s t,.i .i64 at2]):
 TT.lim 200 [.l L,.i .i64 n,.i .i64 i,.s t,.i .i64 at']=some [.i .i64 0,.i .i64 e,.s t,.i .i64 at2]:=by
 refine au rfl rfl ?_;simp[h,k,he]
theorem apd(L:Q1)(n at' at2:Int)(t:Q0)(x:dW)(R:Q1)(h:0<n)(hb:2*(L.length+1)*32<=281474976710656/\L.length+1<=281474976710656)
 (k:TT.lim 201 [.s t,.i .i64 at']=some [.i .i64 0,.s x.1,.s x.2,.i .i64 0,.s t,.i .i64 at2])
 (ih:TT.lim 200 [.l (L++[ent x]),.i .i64 n,.i .i64 1,.s t,.i .i64 at2]=some R):
 TT.lim 200 [.l L,.i .i64 n,.i .i64 0,.s t,.i .i64 at']=some R:=by
 have he:GV.g [.s x.1,.s x.2]=ent x:=rfl;have w1:=wrap64 (n:=1) (by omega) (by omega);refine au rfl rfl ?_;simp[h,k,he,GV.fC,hb,w1,ih]
theorem ape(L:Q1)(n:Int)(i:Nat)(at' at2:Int)(t:Q0)(p x:dW)(h:(i:Int)+1<n)(hi:i+1<=100000000)(hl:L.length=i+1)(hg:L[i]? =some (ent p))(hb:¬zZ p.1 x.1=0)
 (k:TT.lim 201 [.s t,.i .i64 at']=some [.i .i64 0,.s x.1,.s x.2,.i .i64 0,.s t,.i .i64 at2]):
 TT.lim 200 [.l L,.i .i64 n,.i .i64 ((i:Int)+1),.s t,.i .i64 at']=some [.i .i64 0,.i .i64 (zZ p.1 x.1),.s t,.i .i64 at2]:=by
 have h0:(0:Int)<(i:Int)+1:=by omega
 have hii:(i:Int)<(i:Int)+1:=by omega
 have w:=wrap64 (n:=(i:Int)) (by omega) (by omega);have hgi:L[i]'(by omega)=ent p:=by have:=hg;rw[bK (by omega)]at this;exact Gj this
 unfold zZ at hb⊢;by_cases e1:x.1=p.1
 ·have e1':(x.1=p.1)=True:=eq_true e1;clear e1;refine au rfl rfl ?_;simp[h,k,h0,hii,w,hl,hg,hgi,e1']
 ·by_cases e2:Op.bytesLess x.1 p.1=true
  ·refine au rfl rfl ?_;simp[h,k,h0,hii,w,hl,hg,hgi,e1,e2]
  ·simp[e1,e2]at hb
theorem apg(L:Q1)(n:Int)(i:Nat)(at' at2:Int)(t:Q0)(p x:dW)(R:Q1)(h:(i:Int)+1<n)(hi:i+1<=100000000)(hl:(i:Int)<L.length)(hl2:L.length<=100000000)(hg:L[i]? =some (ent p))(hb:zZ p.1 x.1=0)
 (k:TT.lim 201 [.s t,.i .i64 at']=some [.i .i64 0,.s x.1,.s x.2,.i .i64 0,.s t,.i .i64 at2])
 (ih:TT.lim 200 [.l (L++[ent x]),.i .i64 n,.i .i64 ((i:Int)+1+1),.s t,.i .i64 at2]=some R):
 TT.lim 200 [.l L,.i .i64 n,.i .i64 ((i:Int)+1),.s t,.i .i64 at']=some R:=by
 have h0:(0:Int)<(i:Int)+1:=by omega
 have hii:(i:Int)<(i:Int)+1:=by omega
 have w:=wrap64 (n:=(i:Int)) (by omega) (by omega);have w2:=wrap64 (n:=(i:Int)+1+1) (by omega) (by omega);have hl3:i<L.length:=by omega
 have hgi:L[i]=ent p:=by have:=hg;rw[bK hl3]at this;exact Gj this
 have he:GV.g [.s x.1,.s x.2]=ent x:=rfl;have hbb:2*(L.length+1)*32<=281474976710656/\L.length+1<=281474976710656:=by omega
 unfold zZ at hb;have e1:¬x.1=p.1:=by intro e;rw[aj e]at hb;exact absurd hb (by decide)
 rw[ah e1]at hb;have e2:¬Op.bytesLess x.1 p.1=true:=by intro e;rw[aj e]at hb;exact absurd hb (by decide)
 have e2:Op.bytesLess x.1 p.1=false:=by simpa using e2
 refine au rfl rfl ?_;simp[h,k,h0,hii,w,w2,hl,hl3,hg,hgi,e1,e2,he,GV.fC,hbb,ih]
def asR(acc:List dW)(p:Option dW):Prop:=(acc=[]/\p=none)\/∃a x,acc=a++[x]/\p=some x
theorem aec(t:Q0)(ht:t.length<=100000000)(n:Nat)(hn:n<=1000):∀(m:Nat)(acc:List dW)(p:Option dW)(at':Nat),acc.length+m=n->asR acc p->at'<=t.length->
 ∃at2:Nat,TT.lim 200 [.l (acc.map ent),.i .i64 n,.i .i64 acc.length,.s t,.i .i64 at']=some (Ba acc t at2 (gu m p (t.drop at')))/\((gu m p (t.drop at')).2.2=0->at2=at'+(gu m p (t.drop at')).2.1)
 |0,acc,p,at',hi,hp,h=>by
  have hlt:¬((acc.length:Int)<(n:Int)):=by omega
  refine⟨at',?_,λ_=>by simp[gu]⟩;have hl:(acc.map ent).length=acc.length:=by simp
  unfold gu Ba;simp only[ne_eq,not_true_eq_false,if_false,qL];generalize acc.map ent=L at *;refine au rfl rfl ?_;simp[hlt]
 |m+1,acc,p,at',hi,hp,h=>by
  obtain⟨at2,k,e2⟩:=apn t at' h ht;rw[Yb];by_cases h1:(dM (t.drop at')).2.2=0;rotate_left
  ·rw[aj h1];refine⟨at2,?_,λh=>absurd h h1⟩;have:Ba acc t at2 ([],0,(dM (t.drop at')).2.2)=[.i .i64 0,.i .i64 (dM (t.drop at')).2.2,.s t,.i .i64 at2]:=by unfold Ba;rw[aj h1]
   rw[this];exact apf _ _ _ _ _ _ _ _ (by omega) h1 k
  rw[ah (λe=>e h1)];rw[h1]at k;have e2:=e2 h1;obtain⟨a1,a2,_⟩:=SG h1;rw[eX]at a2;have hdd:(t.drop at').drop (dM (t.drop at')).2.1=t.drop at2:=by rw[sK,e2]
  rw[hdd];have hat:at2<=t.length:=by omega
  generalize hX:(dM (t.drop at')).1=x at *;obtain⟨at3,ih,e3⟩:=aec t ht n hn m (acc++[x]) (some x) at2 (by rw[fU,Ed];omega) (.inr ⟨acc,x,rfl,rfl⟩) hat;have hout:Ba acc t at3 (if(gu m (some x) (t.drop at2)).2.2≠0 then([],0,(gu m (some x) (t.drop at2)).2.2)else(x::(gu m (some x) (t.drop at2)).1,(dM (t.drop at')).2.1+(gu m (some x) (t.drop at2)).2.1,0))=Ba (acc++[x]) t at3 (gu m (some x) (t.drop at2)):=by
   unfold Ba;by_cases hq:(gu m (some x) (t.drop at2)).2.2=0
   ·simp[hq]
   ·simp[hq]
  have hfin:((if(gu m (some x) (t.drop at2)).2.2≠0 then(([]:List dW),0,(gu m (some x) (t.drop at2)).2.2)else(x::(gu m (some x) (t.drop at2)).1,(dM (t.drop at')).2.1+(gu m (some x) (t.drop at2)).2.1,0)).2.2=0->at3=at'+(if(gu m (some x) (t.drop at2)).2.2≠0 then(([]:List dW),0,(gu m (some x) (t.drop at2)).2.2)else(x::(gu m (some x) (t.drop at2)).1,(dM (t.drop at')).2.1+(gu m (some x) (t.drop at2)).2.1,0)).2.1):=by
   by_cases hq:(gu m (some x) (t.drop at2)).2.2=0
   ·rw[ah (λe=>e hq)];intro _;have:=e3 hq;simp only;omega
   ·rw[aj hq];intro h;exact absurd h hq
  rw[lX]at ih;rcases hp with⟨rfl,rfl⟩|⟨a,y,rfl,rfl⟩
  ·have hb0:Aa none x=0:=rfl;rw[hb0,ah (by simp)];refine⟨at3,?_,hfin⟩;rw[hout];exact apd [] n at' at2 t x _ (by simp at hi;omega) (by simp) k ih
  ·by_cases hb:zZ y.1 x.1=0;rotate_left
   ·have hb':Aa (some y) x≠0:=hb;rw[aj hb'];refine⟨at2,?_,λh=>absurd h hb⟩;have:Ba (a++[y]) t at2 ([],0,Aa (some y) x)=[.i .i64 0,.i .i64 (zZ y.1 x.1),.s t,.i .i64 at2]:=by unfold Ba;rw[aj hb'];rfl
    rw[this];have hl:((a++[y]).length:Int)=(a.length:Int)+1:=by simp
    rw[hl];rw[fU,Ed]at hi;exact ape _ n a.length at' at2 t y x (by omega) (by omega) (by simp) (by simp) hb k
   ·have hb':¬Aa (some y) x≠0:=λe=>e hb;rw[ah hb'];refine⟨at3,?_,hfin⟩;rw[hout];have hl:((a++[y]).length:Int)=(a.length:Int)+1:=by simp
    have hl2:((a++[y]++[x]).length:Int)=(a.length:Int)+1+1:=by simp;omega
    rw[hl];rw[hl2]at ih;rw[fU,Ed]at hi;exact apg _ n a.length at' at2 t y x _ (by omega) (by omega) (by simp;omega) (by simp;omega) (by simp) hb k ih
def Am(e:Int):List dW×Nat×Int:=([],0,e)
def nV(s:Q0):List dW×Nat×Int:=
 if(aB s).2.2≠0 then Am (aB s).2.2 else
 if(aB s).1=0 then Am 12 else
 if 16<(aB s).1 then Am 13 else
 if(gu (aB s).1 none (s.drop (aB s).2.1)).2.2≠0 then Am (gu (aB s).1 none (s.drop (aB s).2.1)).2.2 else
 ((gu (aB s).1 none (s.drop (aB s).2.1)).1,(aB s).2.1+(gu (aB s).1 none (s.drop (aB s).2.1)).2.1,0)
theorem ao8(t:Q0)(at':Nat)(h:at'<=t.length)(ht:t.length<=100000000):
 ∃at2:Nat,TT.lim 199 [.s t,.i .i64 at']=some [.i .i64 0,.l ((nV (t.drop at')).1.map ent),.i .i64 (nV (t.drop at')).2.2,.s t,.i .i64 at2]/\((nV (t.drop at')).2.2=0->at2=at'+(nV (t.drop at')).2.1):=by
 have k1:=Bz t at' h (by omega);unfold nV;by_cases he:(aB (t.drop at')).2.2=0;rotate_left
 ·obtain⟨e1,e2⟩:=Jq he;rw[e1,e2]at k1;rw[aj he];generalize(aB (t.drop at')).2.2=e at *;refine⟨at',au rfl rfl ?_,λh=>absurd h he⟩;simp[k1,he,Am]
 obtain⟨v1,v2,v3,v4,_⟩:=jY he;rw[ah (λe=>e he)];rw[he]at k1;rw[eX]at v3;rw[sK];by_cases h16:16<(aB (t.drop at')).1
 ·have h0:¬(aB (t.drop at')).1=0:=by omega
  have CX:(16:Int)<((aB (t.drop at')).1:Nat):=by omega
  rw[ah h0,aj h16];generalize(aB (t.drop at')).1=n at *;generalize(aB (t.drop at')).2.1=i at *;refine⟨at'+i,au rfl rfl ?_,λh=>by cases h⟩;simp only[Eb]at k1;simp[k1,h0,h16,CX,Am]
 obtain⟨at2,k2,e2⟩:=aec t ht (aB (t.drop at')).1 (by omega) (aB (t.drop at')).1 [] none (at'+(aB (t.drop at')).2.1) (by simp) (.inl ⟨rfl,rfl⟩) (by omega);generalize(aB (t.drop at')).1=n at *;generalize(aB (t.drop at')).2.1=i at *;by_cases h0:n=0
 ·rw[aj h0];have h0':((n:Int)=0)=True:=eq_true (by omega);refine⟨at'+i,au rfl rfl ?_,λh=>by cases h⟩;simp only[Eb]at k1;simp[k1,h0,h0',Am]
 rw[ah h0,ah h16];have CX:¬(16:Int)<(n:Int):=by omega
 have w:=wrap64 (n:=(n:Int)) (by omega) (by omega);have hc:(0:Int)<=(n:Int)/\32*(n:Int)<=281474976710656/\(n:Int)<=1152921504606846976:=by omega
 have k2':TT.lim 200 [.l [],.i .i64 n,.i .i64 0,.s t,.i .i64 ((at':Int)+(i:Int))]=_:=k2;generalize hdl:gu n none (t.drop (at'+i))=r at *;refine⟨at2,au rfl rfl ?_,λh=>?_⟩
 ·simp only[Eb]at k1;unfold Ba at k2';by_cases hq:r.2.2=0
  ·simp only[hq,ne_eq,not_true_eq_false,if_false,aV]at k2'⊢;simp[k1,h0,h16,CX,w,hc,k2',GV.fC]
  ·simp only[hq,ne_eq,not_false_eq_true,if_true]at k2'⊢;simp[k1,h0,h16,CX,w,hc,k2',GV.fC,Am]
 ·by_cases hq:r.2.2=0
  ·rw[ah (λe=>e hq)];have:=e2 hq;simp only;omega
  ·rw[aj hq]at h;exact absurd h hq
def rG(s:Q0):List dW×Int:=
 if(nV s).2.2≠0 then([],(nV s).2.2)else if(nV s).2.1<s.length then([],10)else((nV s).1,0)
theorem Ya:∀(m:Nat)(p:Option dW)(s:Q0),(gu m p s).2.2=0->(gu m p s).2.1<=s.length/\(gu m p s).1.length=m/\∀x∈(gu m p s).1,vX x=0/\x.1.length<=s.length/\x.2.length<=s.length
 |0,p,s,_=>by simp[gu]
 |m+1,p,s,h=>by
  rw[Yb]at h⊢;by_cases h1:(dM s).2.2=0;rotate_left
  ·rw[aj h1]at h;exact absurd h h1
  rw[ah (λe=>e h1)]at h⊢;by_cases h2:Aa p (dM s).1=0;rotate_left
  ·rw[aj h2]at h;exact absurd h h2
  rw[ah (λe=>e h2)]at h⊢;by_cases h3:(gu m (some (dM s).1) (s.drop (dM s).2.1)).2.2=0;rotate_left
  ·rw[aj h3]at h;exact absurd h h3
  rw[ah (λe=>e h3)];obtain⟨a1,a2,a3,a4,a5,_⟩:=SG h1;obtain⟨b1,b2,b3⟩:=Ya m (some (dM s).1) _ h3;rw[eX]at b1;refine⟨by simp only;omega,by simp[b2],λx hx=>?_⟩;rcases bG.1 hx with rfl|hx
  ·exact⟨a3,a4,a5⟩
  ·obtain⟨c1,c2,c3⟩:=b3 x hx;rw[eX]at c2 c3;exact⟨c1,by omega,by omega⟩
theorem aee{s:Q0}(h:(nV s).2.2=0):(aB s).2.2=0/\0<(aB s).1/\(aB s).1<=16/\(gu (aB s).1 none (s.drop (aB s).2.1)).2.2=0/\(nV s).1=(gu (aB s).1 none (s.drop (aB s).2.1)).1/\
 (nV s).2.1=(aB s).2.1+(gu (aB s).1 none (s.drop (aB s).2.1)).2.1/\(nV s).2.1<=s.length:=by
 unfold nV at h⊢;by_cases h1:(aB s).2.2=0;rotate_left
 ·rw[aj h1]at h;exact absurd h h1
 rw[ah (λe=>e h1)]at h⊢;by_cases h2:(aB s).1=0
 ·rw[aj h2]at h;exact absurd h (by simp[Am])
 rw[ah h2]at h⊢;by_cases h3:16<(aB s).1
 ·rw[aj h3]at h;exact absurd h (by simp[Am])
 rw[ah h3]at h⊢;by_cases h4:(gu (aB s).1 none (s.drop (aB s).2.1)).2.2=0;rotate_left
 ·rw[aj h4]at h;exact absurd h h4
 rw[ah (λe=>e h4)];obtain⟨v1,v2,v3,_,_⟩:=jY h1;obtain⟨d1,_,_⟩:=Ya _ _ _ h4;rw[eX]at d1;exact⟨h1,by omega,by omega,h4,rfl,rfl,by simp only;omega⟩
theorem aeh(s:Q0)(hs:s.length<=100000000):TT.lim 198 [.s s]=some [.l ((rG s).1.map ent),.i .i64 (rG s).2]:=by
 obtain⟨at2,k,e2⟩:=ao8 s 0 (by omega) hs;rw[dD,show((0:Nat):Int)=0 from rfl]at k;rw[dD]at e2;unfold rG;by_cases h1:(nV s).2.2=0;rotate_left
 ·rw[aj h1];generalize nV s=r at *;refine aP rfl rfl ?_ (by rfl);simp[k,h1]
 have e2:=e2 h1;obtain⟨_,_,_,_,_,_,a7⟩:=aee h1;rw[ah (λe=>e h1)];rw[h1]at k;rw[kH]at e2;have w:=wrap64 (n:=(s.length:Int)-(at2:Int)) (by omega) (by omega);rw[<-e2]at a7⊢;generalize nV s=r at *;by_cases h2:at2<s.length
 ·rw[aj h2];refine aP rfl rfl ?_ rfl;simp[k,w,h2]
 ·rw[ah h2];refine aP rfl rfl ?_ rfl;simp[k,w,h2]
def I8(e:Int):Row×Nat×Int:=(([],0),0,e)
def gX(key s:Q0):Row×Nat×Int:=
 if(rG key).2≠0 then I8 (rG key).2 else
 if(aB s).2.2≠0 then I8 (aB s).2.2 else
 if(aB s).1=0 then I8 17 else(((rG key).1,((aB s).1:Nat)),(aB s).2.1,0)
theorem aaN{key s:Q0}(h:(gX key s).2.2=0):(rG key).2=0/\(aB s).2.2=0/\(aB s).1≠0/\(gX key s).1=((rG key).1,(((aB s).1:Nat):Int))/\(gX key s).2.1=(aB s).2.1:=by
 unfold gX at h⊢;by_cases h1:(rG key).2=0;rotate_left
 ·rw[aj h1]at h;exact absurd h h1
 rw[ah (λe=>e h1)]at h⊢;by_cases h2:(aB s).2.2=0;rotate_left
 ·rw[aj h2]at h;exact absurd h h2
 rw[ah (λe=>e h2)]at h⊢;by_cases h3:(aB s).1=0
 ·rw[aj h3]at h;exact absurd h (by simp[I8])
 rw[ah h3];exact⟨h1,h2,h3,rfl,rfl⟩
theorem rowP(key t:Q0)(at':Nat)(h:at'<=t.length)(ht:t.length<=100000000)(hk:key.length<=100000000):
 ∃at2:Nat,TT.lim 207 [.s key,.s t,.i .i64 at']=some [.i .i64 0,.l ((gX key (t.drop at')).1.1.map ent),.i .u64 (gX key (t.drop at')).1.2,.i .i64 (gX key (t.drop at')).2.2,.s t,.i .i64 at2]/\
  ((gX key (t.drop at')).2.2=0->at2=at'+(gX key (t.drop at')).2.1):=by
 have k1:=aeh key hk;have k2:=Bz t at' h (by omega);unfold gX;generalize rG key=D at *;by_cases h1:D.2=0;rotate_left
 ·rw[aj h1];refine⟨at',au rfl rfl ?_,λh=>absurd h h1⟩;simp[k1,h1,I8]
 rw[ah (λe=>e h1)];by_cases h2:(aB (t.drop at')).2.2=0;rotate_left
 ·obtain⟨e1,e2⟩:=Jq h2;rw[e1,e2]at k2;rw[aj h2];generalize aB (t.drop at')=V at *;refine⟨at',au rfl rfl ?_,λh=>absurd h h2⟩;simp[k1,k2,h1,h2,I8]
 rw[ah (λe=>e h2)];rw[h2]at k2;simp only[Eb]at k2;generalize aB (t.drop at')=V at *;by_cases h3:V.1=0
 ·rw[aj h3];rw[h3]at k2;refine⟨at'+V.2.1,au rfl rfl ?_,λh=>by cases h⟩;simp[k1,k2,h1,I8]
 ·rw[ah h3];refine⟨at'+V.2.1,au rfl rfl ?_,λ_=>rfl⟩;simp[k1,k2,h1,h3]
def iw:Nat->List UInt8->Bool->List UInt8->List Row×Nat×Int
 |0,_,_,_=>([],0,0)
 |m+1,a,first,s=>if(bH s a first).2.2≠0 then([],0,(bH s a first).2.2)else
  if(gX (bH s a first).1 (s.drop (bH s a first).2.1)).2.2≠0 then([],0,(gX (bH s a first).1 (s.drop (bH s a first).2.1)).2.2)else
  if(iw m (bH s a first).1 false (s.drop ((bH s a first).2.1+(gX (bH s a first).1 (s.drop (bH s a first).2.1)).2.1))).2.2≠0 then([],0,(iw m (bH s a first).1 false (s.drop ((bH s a first).2.1+(gX (bH s a first).1 (s.drop (bH s a first).2.1)).2.1))).2.2)else
  ((gX (bH s a first).1 (s.drop (bH s a first).2.1)).1::(iw m (bH s a first).1 false (s.drop ((bH s a first).2.1+(gX (bH s a first).1 (s.drop (bH s a first).2.1)).2.1))).1,
   (bH s a first).2.1+(gX (bH s a first).1 (s.drop (bH s a first).2.1)).2.1+(iw m (bH s a first).1 false (s.drop ((bH s a first).2.1+(gX (bH s a first).1 (s.drop (bH s a first).2.1)).2.1))).2.1,0)
theorem aaC(m:Nat)(a:Q0)(first:Bool)(s:Q0):iw (m+1) a first s=if(bH s a first).2.2≠0 then([],0,(bH s a first).2.2)else
 if(gX (bH s a first).1 (s.drop (bH s a first).2.1)).2.2≠0 then([],0,(gX (bH s a first).1 (s.drop (bH s a first).2.1)).2.2)else
 if(iw m (bH s a first).1 false (s.drop ((bH s a first).2.1+(gX (bH s a first).1 (s.drop (bH s a first).2.1)).2.1))).2.2≠0 then([],0,(iw m (bH s a first).1 false (s.drop ((bH s a first).2.1+(gX (bH s a first).1 (s.drop (bH s a first).2.1)).2.1))).2.2)else
 ((gX (bH s a first).1 (s.drop (bH s a first).2.1)).1::(iw m (bH s a first).1 false (s.drop ((bH s a first).2.1+(gX (bH s a first).1 (s.drop (bH s a first).2.1)).2.1))).1,
  (bH s a first).2.1+(gX (bH s a first).1 (s.drop (bH s a first).2.1)).2.1+(iw m (bH s a first).1 false (s.drop ((bH s a first).2.1+(gX (bH s a first).1 (s.drop (bH s a first).2.1)).2.1))).2.1,0):=rfl
def Bd(acc:List Row)(t:Q0)(at2:Nat)(r:List Row×Nat×Int):Q1:=if r.2.2≠0 then[.i .i64 0,.i .i64 r.2.2,.s t,.i .i64 at2]else[.i .i64 1,.l ((acc++r.1).map row),.s t,.i .i64 at2]
theorem avP(L:Q1)(a t X:Q0)(n i at' at2:Int)(first:Bool)(e:Int)(h:i<n)(hf:decide (i=0)=first)(he:¬e=0)
 (k:TT.lim 206 [.s t,.i .i64 at',.s a,.b first]=some [.i .i64 0,.s X,.i .i64 e,.s t,.i .i64 at2]):
 TT.lim 205 [.l L,.s a,.i .i64 n,.i .i64 i,.s t,.i .i64 at']=some [.i .i64 0,.i .i64 e,.s t,.i .i64 at2]:=by
 refine au rfl rfl ?_;simp[h,hf,k,he]
theorem avR(L:Q1)(a t X:Q0)(D:Q1)(N:Int)(n i at' at2 at3:Int)(first:Bool)(e:Int)(h:i<n)(hf:decide (i=0)=first)(he:¬e=0)
 (k:TT.lim 206 [.s t,.i .i64 at',.s a,.b first]=some [.i .i64 0,.s X,.i .i64 0,.s t,.i .i64 at2])
 (k2:TT.lim 207 [.s X,.s t,.i .i64 at2]=some [.i .i64 0,.l D,.i .u64 N,.i .i64 e,.s t,.i .i64 at3]):
 TT.lim 205 [.l L,.s a,.i .i64 n,.i .i64 i,.s t,.i .i64 at']=some [.i .i64 0,.i .i64 e,.s t,.i .i64 at3]:=by
 refine au rfl rfl ?_;simp[h,hf,k,k2,he]
theorem avQ(L:Q1)(a t X:Q0)(D:Q1)(N:Int)(n i at' at2 at3:Int)(first:Bool)(R:Q1)(h:i<n)(hf:decide (i=0)=first)(hw:IntKind.i64.wrap (i+1)=i+1)(hb:L.length<=100000000)
 (k:TT.lim 206 [.s t,.i .i64 at',.s a,.b first]=some [.i .i64 0,.s X,.i .i64 0,.s t,.i .i64 at2])
 (k2:TT.lim 207 [.s X,.s t,.i .i64 at2]=some [.i .i64 0,.l D,.i .u64 N,.i .i64 0,.s t,.i .i64 at3])
 (ih:TT.lim 205 [.l (L++[.g [.l D,.i .u64 N]]),.s X,.i .i64 n,.i .i64 (i+1),.s t,.i .i64 at3]=some R):
 TT.lim 205 [.l L,.s a,.i .i64 n,.i .i64 i,.s t,.i .i64 at']=some R:=by
 have hbb:2*(L.length+1)*32<=281474976710656/\L.length+1<=281474976710656:=by omega
 refine au rfl rfl ?_;simp[h,hf,k,k2,hw,GV.fC,hbb,ih]
theorem ahL(t:Q0)(ht:t.length<=100000000)(n:Nat)(hn:n<=1000):∀(m:Nat)(acc:List Row)(a:Q0)(at':Nat),acc.length+m=n->at'<=t.length->a.length<=at'->
 ∃at2:Nat,TT.lim 205 [.l (acc.map row),.s a,.i .i64 n,.i .i64 acc.length,.s t,.i .i64 at']=some (Bd acc t at2 (iw m a (decide ((acc.length:Int)=0)) (t.drop at')))/\
  ((iw m a (decide ((acc.length:Int)=0)) (t.drop at')).2.2=0->at2=at'+(iw m a (decide ((acc.length:Int)=0)) (t.drop at')).2.1)
 |0,acc,a,at',hi,h,ha=>by
  have hlt:¬((acc.length:Int)<(n:Int)):=by omega
  refine⟨at',?_,λ_=>by simp[iw]⟩;unfold iw Bd;simp only[ne_eq,not_true_eq_false,if_false,qL];generalize acc.map row=L at *;refine au rfl rfl ?_;simp[hlt]
 |m+1,acc,a,at',hi,h,ha=>by
  obtain⟨at2,k,e2⟩:=avJ t a (decide ((acc.length:Int)=0)) at' h ht (by omega);rw[aaC];generalize hf:decide ((acc.length:Int)=0)=first at *
  by_cases h1:(bH (t.drop at') a first).2.2=0;rotate_left
  ·rw[aj h1];refine⟨at2,?_,λh=>absurd h h1⟩;have:Bd acc t at2 ([],0,(bH (t.drop at') a first).2.2)=[.i .i64 0,.i .i64 (bH (t.drop at') a first).2.2,.s t,.i .i64 at2]:=by unfold Bd;rw[aj h1]
   rw[this];exact avP _ _ _ _ _ _ _ _ _ _ (by omega) hf h1 k
  rw[ah (λe=>e h1)];rw[h1]at k;have e2:=e2 h1;obtain⟨a1,a2,a3⟩:=aaD h1;rw[eX]at a2;have hdd:∀j,(t.drop at').drop ((bH (t.drop at') a first).2.1+j)=t.drop (at2+j):=by intro j;rw[sK,e2,jL]
  have arA:(t.drop at').drop (bH (t.drop at') a first).2.1=t.drop at2:=by rw[sK,e2]
  have hal:(bH (t.drop at') a first).1.length<=at2:=by split at a3<;>omega
  rw[hdd,arA];generalize(bH (t.drop at') a first).1=X at *;generalize(bH (t.drop at') a first).2.1=j1 at *;obtain⟨at3,k2,e3⟩:=rowP X t at2 (by omega) ht (by omega);by_cases h2:(gX X (t.drop at2)).2.2=0;rotate_left
  ·rw[aj h2];refine⟨at3,?_,λh=>absurd h h2⟩;have:Bd acc t at3 ([],0,(gX X (t.drop at2)).2.2)=[.i .i64 0,.i .i64 (gX X (t.drop at2)).2.2,.s t,.i .i64 at3]:=by unfold Bd;rw[aj h2]
   rw[this];exact avR _ _ _ _ _ _ _ _ _ _ _ _ _ (by omega) hf h2 k k2
  rw[ah (λe=>e h2)];rw[h2]at k2;have e3:=e3 h2;obtain⟨_,q2,_,_,q5⟩:=aaN h2;obtain⟨v1,v2,v3,_,_⟩:=jY q2;rw[eX]at v3;have e3':at2+(gX X (t.drop at2)).2.1=at3:=e3.symm;rw[e3'];have hrow:GV.g [.l ((gX X (t.drop at2)).1.1.map ent),.i .u64 (gX X (t.drop at2)).1.2]=row (gX X (t.drop at2)).1:=rfl;obtain⟨at4,ih,e4⟩:=ahL t ht n hn m (acc++[(gX X (t.drop at2)).1]) X at3 (by rw[fU,Ed];omega) (by omega) (by omega);have hfalse:decide (((acc++[(gX X (t.drop at2)).1]).length:Int)=0)=false:=by simp;omega
  have hl:((acc++[(gX X (t.drop at2)).1]).length:Int)=(acc.length:Int)+1:=by simp
  rw[hfalse]at ih e4;rw[hl,lX]at ih;generalize(gX X (t.drop at2)).1=Q at *;generalize(gX X (t.drop at2)).2.1=j2 at *;have hout:Bd acc t at4 (if(iw m X false (t.drop at3)).2.2≠0 then([],0,(iw m X false (t.drop at3)).2.2)else(Q::(iw m X false (t.drop at3)).1,j1+j2+(iw m X false (t.drop at3)).2.1,0))=Bd (acc++[Q]) t at4 (iw m X false (t.drop at3)):=by
   unfold Bd;by_cases hq:(iw m X false (t.drop at3)).2.2=0
   ·simp[hq]
   ·simp[hq]
  refine⟨at4,?_,?_⟩
  ·rw[hout];exact avQ _ _ _ _ _ _ _ _ _ _ _ _ _ (by omega) hf (wrap64 (by omega) (by omega)) (by simp;omega) k k2 (by rw[hrow];exact ih)
  ·by_cases hq:(iw m X false (t.drop at3)).2.2=0
   ·rw[ah (λe=>e hq)];intro _;have:=e4 hq;simp only;omega
   ·rw[aj hq];intro h;exact absurd h hq
def Ic(e:Int):List Row×Nat×Int:=([],0,e)
def nJ(s:Q0):List Row×Nat×Int:=
 if(aB s).2.2≠0 then Ic (aB s).2.2 else
 if 256<(aB s).1 then Ic 13 else
 if(iw (aB s).1 [] true (s.drop (aB s).2.1)).2.2≠0 then Ic (iw (aB s).1 [] true (s.drop (aB s).2.1)).2.2 else
 ((iw (aB s).1 [] true (s.drop (aB s).2.1)).1,(aB s).2.1+(iw (aB s).1 [] true (s.drop (aB s).2.1)).2.1,0)
theorem asJ(t:Q0)(at':Nat)(h:at'<=t.length)(ht:t.length<=100000000):
 ∃at2:Nat,TT.lim 204 [.s t,.i .i64 at']=some [.i .i64 0,.l ((nJ (t.drop at')).1.map row),.i .i64 (nJ (t.drop at')).2.2,.s t,.i .i64 at2]/\((nJ (t.drop at')).2.2=0->at2=at'+(nJ (t.drop at')).2.1):=by
 have k1:=Bz t at' h (by omega);unfold nJ;by_cases he:(aB (t.drop at')).2.2=0;rotate_left
 ·obtain⟨e1,e2⟩:=Jq he;rw[e1,e2]at k1;rw[aj he];generalize(aB (t.drop at')).2.2=e at *;refine⟨at',au rfl rfl ?_,λh=>absurd h he⟩;simp[k1,he,Ic]
 obtain⟨v1,v2,v3,v4,_⟩:=jY he;rw[ah (λe=>e he)];rw[he]at k1;rw[eX]at v3;rw[sK];by_cases h16:256<(aB (t.drop at')).1
 ·have CX:(256:Int)<((aB (t.drop at')).1:Nat):=by omega
  rw[aj h16];generalize(aB (t.drop at')).1=n at *;generalize(aB (t.drop at')).2.1=i at *;refine⟨at'+i,au rfl rfl ?_,λh=>by cases h⟩;simp only[Eb]at k1;simp[k1,h16,CX,Ic]
 obtain⟨at2,k2,e2⟩:=ahL t ht (aB (t.drop at')).1 (by omega) (aB (t.drop at')).1 [] [] (at'+(aB (t.drop at')).2.1) (by simp) (by omega) (by simp);generalize(aB (t.drop at')).1=n at *;generalize(aB (t.drop at')).2.1=i at *;rw[ah h16];have CX:¬(256:Int)<(n:Int):=by omega
 have w:=wrap64 (n:=(n:Int)) (by omega) (by omega);have hc:(0:Int)<=(n:Int)/\32*(n:Int)<=281474976710656/\(n:Int)<=1152921504606846976:=by omega
 rw[show decide ((([]:List Row).length:Int)=0)=true from rfl]at k2 e2;have k2':TT.lim 205 [.l [],.s [],.i .i64 n,.i .i64 0,.s t,.i .i64 ((at':Int)+(i:Int))]=_:=k2;generalize iw n [] true (t.drop (at'+i))=r at *;refine⟨at2,au rfl rfl ?_,λh=>?_⟩
 ·simp only[Eb]at k1;unfold Bd at k2';by_cases hq:r.2.2=0
  ·simp only[hq,ne_eq,not_true_eq_false,if_false,aV]at k2'⊢;simp[k1,h16,CX,w,hc,k2',GV.fC]
  ·simp only[hq,ne_eq,not_false_eq_true,if_true]at k2'⊢;simp[k1,h16,CX,w,hc,k2',GV.fC,Ic]
 ·by_cases hq:r.2.2=0
  ·rw[ah (λe=>e hq)];have:=e2 hq;simp only;omega
  ·rw[aj hq]at h;exact absurd h hq
def sD(s:Q0):List Row×Int:=
 if(nJ s).2.2≠0 then([],(nJ s).2.2)else if(nJ s).2.1<s.length then([],10)else((nJ s).1,0)
theorem aaB:∀(m:Nat)(a:Q0)(first:Bool)(s:Q0),(iw m a first s).2.2=0->(iw m a first s).2.1<=s.length/\(iw m a first s).1.length=m
 |0,a,first,s,_=>by simp[iw]
 |m+1,a,first,s,h=>by
  rw[aaC]at h⊢;by_cases h1:(bH s a first).2.2=0;rotate_left
  ·rw[aj h1]at h;exact absurd h h1
  rw[ah (λe=>e h1)]at h⊢;by_cases h2:(gX (bH s a first).1 (s.drop (bH s a first).2.1)).2.2=0;rotate_left
  ·rw[aj h2]at h;exact absurd h h2
  rw[ah (λe=>e h2)]at h⊢;by_cases h3:(iw m (bH s a first).1 false (s.drop ((bH s a first).2.1+(gX (bH s a first).1 (s.drop (bH s a first).2.1)).2.1))).2.2=0;rotate_left
  ·rw[aj h3]at h;exact absurd h h3
  rw[ah (λe=>e h3)];obtain⟨a1,a2,_⟩:=aaD h1;obtain⟨_,q2,_,_,q5⟩:=aaN h2;obtain⟨v1,v2,v3,_,_⟩:=jY q2;rw[eX]at v3;obtain⟨b1,b2⟩:=aaB m _ _ _ h3;rw[eX]at b1;exact⟨by simp only;omega,by simp[b2]⟩
theorem af4{s:Q0}(h:(nJ s).2.2=0):(aB s).2.2=0/\(aB s).1<=256/\(iw (aB s).1 [] true (s.drop (aB s).2.1)).2.2=0/\(nJ s).1=(iw (aB s).1 [] true (s.drop (aB s).2.1)).1/\
 (nJ s).2.1=(aB s).2.1+(iw (aB s).1 [] true (s.drop (aB s).2.1)).2.1/\(nJ s).2.1<=s.length:=by
 unfold nJ at h⊢;by_cases h1:(aB s).2.2=0;rotate_left
 ·rw[aj h1]at h;exact absurd h h1
 rw[ah (λe=>e h1)]at h⊢;by_cases h3:256<(aB s).1
 ·rw[aj h3]at h;exact absurd h (by simp[Ic])
 rw[ah h3]at h⊢;by_cases h4:(iw (aB s).1 [] true (s.drop (aB s).2.1)).2.2=0;rotate_left
 ·rw[aj h4]at h;exact absurd h h4
 rw[ah (λe=>e h4)];obtain⟨v1,v2,v3,_,_⟩:=jY h1;obtain⟨d1,_⟩:=aaB _ _ _ _ h4;rw[eX]at d1;exact⟨h1,by omega,h4,rfl,rfl,by simp only;omega⟩
theorem aAt(s:Q0)(hs:s.length<=100000000):TT.lim 203 [.s s]=some [.l ((sD s).1.map row),.i .i64 (sD s).2]:=by
 obtain⟨at2,k,e2⟩:=asJ s 0 (by omega) hs;rw[dD,show((0:Nat):Int)=0 from rfl]at k;rw[dD]at e2;unfold sD;by_cases h1:(nJ s).2.2=0;rotate_left
 ·rw[aj h1];generalize nJ s=r at *;refine aP rfl rfl ?_ (by rfl);simp[k,h1]
 have e2:=e2 h1;obtain⟨_,_,_,_,_,a7⟩:=af4 h1;rw[ah (λe=>e h1)];rw[h1]at k;rw[kH]at e2;have w:=wrap64 (n:=(s.length:Int)-(at2:Int)) (by omega) (by omega);rw[<-e2]at a7⊢;generalize nJ s=r at *;by_cases h2:at2<s.length
 ·rw[aj h2];refine aP rfl rfl ?_ rfl;simp[k,w,h2]
 ·rw[ah h2];refine aP rfl rfl ?_ rfl;simp[k,w,h2]
def xI:Q0->List Row->List UInt8
 |_,[]=>[]
 |a,r::t=>A8 a (dQ r.1)++(aY r.2.toNat++xI (dQ r.1) t)
def yx(t:List Row):Q0:=aY t.length++xI [] t
def PK(t:List Row):Q0×Int:=if nD t≠0 then([],nD t)else(yx t,0)
theorem aaU:∀(t:List Row)(a:Q0),(∀r∈t,iF r.1=true/\0<=r.2/\r.2<18446744073709551616)->(xI a t).length<=40000*t.length
 |[],a,_=>by simp[xI]
 |r::t,a,h=>by obtain⟨h1,h2,h3⟩:=h r (by simp);have hk:=Zf h1;have ho:=aha a (dQ r.1) (by omega);have hv:=ny (n:=r.2.toNat) (by omega);have ih:=aaU t (dQ r.1) λq hq=>h q (by simp[hq]);simp only[xI,fU,gQ];omega
theorem asO(L:Q1)(n i:Int)(D:List dW)(N:Int)(a k O V acc:Q0)(R:Q1)(j:Nat)(hi:i=j)(h:i<n)(hg:L[j]? =some (row (D,N)))(hw:IntKind.i64.wrap (i+1)=i+1)(k1:TT.lim 15 [.l (D.map ent)]=some [.s k])(k2:TT.lim 112 [.s a,.s k]=some [.s O])
 (k3:TT.lim 16 [.i .u64 N]=some [.s V]) (hb1:2*(acc.length+O.length)<=281474976710656/\acc.length+O.length<=281474976710656) (hb2:2*(acc.length+(O.length+V.length))<=281474976710656/\acc.length+(O.length+V.length)<=281474976710656)
 (ih:TT.lim 111 [.s k,.l L,.i .i64 n,.i .i64 (i+1),.l (bT acc++(bT O++bT V))]=some R):
 TT.lim 111 [.s a,.l L,.i .i64 n,.i .i64 i,.l (bT acc)]=some R:=by
 subst hi;have ok1:=NZ O;have ok2:=NZ V;refine au rfl rfl ?_;simp[-List.all_eq_true,h,hg,hw,k1,k2,k3,ok1,ok2,hb1,hb2,jL,ih]
theorem agc(l:List Row)(hl:l.length<=1000)(hf:∀r∈l,iF r.1=true/\0<=r.2/\r.2<18446744073709551616):∀(m i:Nat)(a acc:Q0),i+m=l.length->a.length<=100000->acc.length<=10+40000*i->
 TT.lim 111 [.s a,.l (l.map row),.i .i64 l.length,.i .i64 i,.l (bT acc)]=some [.i .i64 0,.l (bT (acc++xI a (l.drop i)))]
 |0,i,a,acc,hi,ha,hacc=>by
  have hd:l.drop i=[]:=fZ (by omega);have h:¬((i:Int)<l.length):=by omega
  rw[hd];refine au rfl rfl ?_;simp[h,xI]
 |m+1,i,a,acc,hi,ha,hacc=>by
  have hlt:i<l.length:=by omega
  obtain⟨h1,h2,h3⟩:=hf l[i] (gK hlt);have hk:=Zf h1;have k1:=AO l[i].1 h1;have k2:=auI a (dQ l[i].1) (by omega) (by omega);have ho:=aha a (dQ l[i].1) (by omega);have k3:=xG l[i].2.toNat (by omega);rw[show((l[i].2.toNat:Nat):Int)=l[i].2 by omega]at k3;have hv:=ny (n:=l[i].2.toNat) (by omega);have ih:=agc l hl hf m (i+1) (dQ l[i].1) (acc++(A8 a (dQ l[i].1)++aY l[i].2.toNat)) (by omega) (by omega) (by simp only[fU];omega);have he:acc++xI a (l.drop i)=acc++(A8 a (dQ l[i].1)++aY l[i].2.toNat)++xI (dQ l[i].1) (l.drop (i+1)):=by rw[gY hlt];simp[xI]
  rw[he];rw[Xw acc,Xw]at ih;rw[show((i+1:Nat):Int)=(i:Int)+1 by omega]at ih;exact asO _ _ _ l[i].1 l[i].2 a _ _ _ acc _ i rfl (by omega) (by simp[hlt]) (wrap64 (by omega) (by omega)) k1 k2 k3 (by omega) (by omega) ih
theorem asN(t:List Row)(ht:Rows t)(hf:wV t):TT.lim 110 [.l (t.map row)]=some [.s (PK t).1,.i .i64 (PK t).2]:=by
 have k1:=RQ t ht hf;unfold PK;by_cases hc:nD t=0;rotate_left
 ·rw[aj hc];refine aP rfl rfl ?_ (by rfl);simp[k1,hc]
 rw[ah (λe=>e hc)];rw[hc]at k1;have h256:=((vU t).1 hc).1;have OJ:∀r∈t,iF r.1=true/\0<=r.2/\r.2<18446744073709551616:=λr hr=>⟨hf r hr,(ht.2 r hr).2.1,(ht.2 r hr).2.2⟩
 have k2:=xG t.length (by omega);have l2:=ny (n:=t.length) (by omega);have k3:=agc t (by omega) OJ t.length 0 [] (aY t.length) (by omega) (by simp) (by omega);rw[dD,show((0:Nat):Int)=0 from rfl]at k3;have hlen:=aaU t [] OJ;have w:=gJ (n:=(t.length:Int)) (by omega) (by omega);have ok:=NZ (aY t.length);have hb:2*(aY t.length).length<=281474976710656/\(aY t.length).length<=281474976710656:=by omega
 have hbg:=Xz (yx t);have hpl:(bT (yx t)).length<=281474976710656:=by rw[adi];unfold yx;rw[fU];omega
 have hk3:TT.lim 111 [.s [],.l (t.map row),.i .i64 t.length,.i .i64 0,.l (bT (aY t.length))]=some [.i .i64 0,.l (bT (yx t))]:=k3;generalize bT (yx t)=PG at *;generalize yx t=P at *;generalize hVG:bT (aY t.length)=VG at *;have hvl:VG.length=(aY t.length).length:=by rw[<-hVG,adi]
 rw[<-hvl]at hb;have hlm:(t.map row).length=t.length:=by simp
 generalize t.map row=L at *;refine aP rfl rfl ?_ rfl;simp[-List.all_eq_true,k1,hlm,w,k2,hVG,ok,hb,hk3,hbg,hpl]
theorem aev{x:dW}(h:vX x=0):x.1.length<=64/\x.2.length<=256:=by
 have hu:∀(s:Q0)(lo hi:Int),pq s lo hi=0->(s.length:Int)<=hi:=by
  intro s lo hi h;unfold pq at h;split at h
  ·cases h
  ·split at h
   ·cases h
   ·omega
 unfold vX at h;by_cases h1:pq x.1 1 64=0
 ·rw[ah (λe=>e h1)]at h;have a:=hu _ _ _ h1;have b:=hu _ _ _ h;omega
 ·rw[aj h1]at h;exact absurd h h1
theorem ajd{s:Q0}(h:(eP s).2.2=0):aY (eP s).1.length++(eP s).1=s.take (eP s).2.1:=by
 unfold eP at h⊢;by_cases h1:(aB s).2.2=0;rotate_left
 ·rw[aj h1]at h;exact absurd h h1
 rw[ah (λe=>e h1)]at h⊢;obtain⟨v1,v2,v3,v4,v5⟩:=jY h1;by_cases h2:s.length-(aB s).2.1<(aB s).1
 ·rw[aj h2]at h;cases h
 rw[ah h2];simp only[kF,eX];rw[JQ (by omega),v5,BK]
theorem apm{s:Q0}(h:(dM s).2.2=0):lN (dM s).1=s.take (dM s).2.1:=by obtain⟨_,_,_,_,_,h1,h2,h3,h4⟩:=SG h;rw[h3,h4];unfold lN;simp only;have p1:=ajd h1;have p2:=ajd h2;rw[p1,List.append_assoc,p2,BK]
theorem aed:∀(m:Nat)(p:Option dW)(s:Q0),(gu m p s).2.2=0->(gu m p s).1.flatMap lN=s.take (gu m p s).2.1/\vV (p.map (·.1)) (gu m p s).1=0
 |0,p,s,_=>by simp[gu,vV]
 |m+1,p,s,h=>by
  rw[Yb]at h⊢;by_cases h1:(dM s).2.2=0;rotate_left
  ·rw[aj h1]at h;exact absurd h h1
  rw[ah (λe=>e h1)]at h⊢;by_cases h2:Aa p (dM s).1=0;rotate_left
  ·rw[aj h2]at h;exact absurd h h2
  rw[ah (λe=>e h2)]at h⊢;by_cases h3:(gu m (some (dM s).1) (s.drop (dM s).2.1)).2.2=0;rotate_left
  ·rw[aj h3]at h;exact absurd h h3
  rw[ah (λe=>e h3)];obtain⟨b1,b2⟩:=aed m (some (dM s).1) _ h3;obtain⟨_,_,a3,_⟩:=SG h1;have p1:=apm h1;refine⟨by simp only[jC,b1,p1,BK],?_⟩;unfold vV;rw[ah (λe=>e a3)];cases p with
  |none=>exact b2
  |some k=>
   have h2':zZ k.1 (dM s).1.1=0:=h2;unfold zZ at h2';simp only[gI];by_cases c1:(dM s).1.1=k.1
   ·rw[aj c1]at h2';exact absurd h2' (by decide)
   rw[ah c1]at h2'⊢;by_cases c2:Op.bytesLess (dM s).1.1 k.1=true
   ·rw[aj c2]at h2';exact absurd h2' (by decide)
   rw[ah c2];exact b2
structure DOk(d:List dW)(key:Q0):Prop where
 chk:yZ d=0
 few:iF d=true
 ents:qJ d
 put:dQ d=key
theorem ao9{s:Q0}(h:(nV s).2.2=0)(hs:s.length<=100000000):DOk (nV s).1 (s.take (nV s).2.1):=by
 obtain⟨a1,a2,a3,a4,a5,a6,a7⟩:=aee h;obtain⟨b1,b2,b3⟩:=Ya _ _ _ a4;obtain⟨c1,c2⟩:=aed _ _ _ a4;obtain⟨v1,v2,v3,v4,v5⟩:=jY a1;rw[a5,a6];refine⟨?_,?_,⟨by omega,λx hx=>?_⟩,?_⟩
 ·unfold yZ;rw[ah (by omega),ah (by omega)];exact c2
 ·unfold iF;rw[aK,decide_eq_true_iff,List.all_eq_true];refine⟨λx hx=>?_,by omega⟩;obtain⟨e1,e2⟩:=aev (b3 x hx).1;unfold tJ;rw[decide_eq_true_iff];omega
 ·obtain⟨e1,e2⟩:=aev (b3 x hx).1;omega
 ·unfold dQ;rw[b2,v5,c1,BK]
theorem aei{s:Q0}(h:(rG s).2=0)(hs:s.length<=100000000):DOk (rG s).1 s:=by
 unfold rG at h⊢;by_cases h1:(nV s).2.2=0;rotate_left
 ·rw[aj h1]at h;exact absurd h h1
 rw[ah (λe=>e h1)]at h⊢;by_cases h2:(nV s).2.1<s.length
 ·rw[aj h2]at h;exact absurd h (by simp)
 rw[ah h2];have:=ao9 h1 hs;rw[jZ (by omega)]at this;exact this
theorem avK{s a:Q0}{first:Bool}(h:(bH s a first).2.2=0)(hf:first=true->a=[]):A8 a (bH s a first).1=s.take (bH s a first).2.1/\(first=false->a<(bH s a first).1):=by
 have ha:(if first=true then[]else a)=a:=by
  cases first with
  |true=>rw[aj rfl,hf rfl]
  |false=>rfl
 unfold bH at h⊢;simp only[ha]at h⊢;by_cases h1:(aB s).2.2=0;rotate_left
 ·rw[aj h1]at h;exact absurd h h1
 rw[ah (λe=>e h1)]at h⊢;by_cases h2:a.length<(aB s).1
 ·rw[aj h2]at h;exact absurd h (by simp[mG])
 rw[ah h2]at h⊢;by_cases h3:(aB (s.drop (aB s).2.1)).2.2=0;rotate_left
 ·rw[aj h3]at h;exact absurd h h3
 rw[ah (λe=>e h3)]at h⊢;by_cases h4:s.length-((aB s).2.1+(aB (s.drop (aB s).2.1)).2.1)<(aB (s.drop (aB s).2.1)).1
 ·rw[aj h4]at h;exact absurd h (by simp[mG])
 rw[ah h4]at h⊢;obtain⟨v1,v2,v3,v4,v5⟩:=jY h1;obtain⟨u1,u2,u3,u4,u5⟩:=jY h3;have hx:((s.drop ((aB s).2.1+(aB (s.drop (aB s).2.1)).2.1)).take (aB (s.drop (aB s).2.1)).1).length=(aB (s.drop (aB s).2.1)).1:=by rw[kF,eX];omega
 generalize hX:(s.drop ((aB s).2.1+(aB (s.drop (aB s).2.1)).2.1)).take (aB (s.drop (aB s).2.1)).1=X at *;by_cases h5:first=false/\Op.bytesLess a (a.take (aB s).1++X)=false
 ·rw[aj h5]at h;exact absurd h (by simp[mG])
 rw[ah h5]at h⊢;by_cases h6:(aB s).1<common a (a.take (aB s).1++X)
 ·rw[aj h6]at h;exact absurd h (by simp[mG])
 rw[ah h6];have hge:=adV (aB s).1 a X (by omega);have hc:common a (a.take (aB s).1++X)=(aB s).1:=by omega
 refine⟨?_,λhf=>?_⟩
 ·unfold A8;simp only[hc];have hl:(a.take (aB s).1++X).length-(aB s).1=(aB (s.drop (aB s).2.1)).1:=by rw[fU,kF,hx];omega
  have hd:(a.take (aB s).1++X).drop (aB s).1=X:=by rw[WC (by rw[kF];omega)];rw[fZ (by rw[kF];omega)];rfl
  rw[hl,hd,v5,u5,<-hX];rw[BK,BK,<-sK]
 ·simp only[hf,true_and]at h5;rw[<-NV];simpa using h5
theorem ahM:∀(m:Nat)(a:Q0)(first:Bool)(s:Q0),(iw m a first s).2.2=0->(first=true->a=[])->a.length+s.length<=100000000->
 xI a (iw m a first s).1=s.take (iw m a first s).2.1/\jE (iw m a first s).1/\(first=false->∀r∈(iw m a first s).1,a<K r)/\(∀r∈(iw m a first s).1,xH r=0/\iF r.1=true/\qJ r.1/\0<=r.2/\r.2<18446744073709551616)
 |0,a,first,s,_,_,_=>by simp[iw,xI,jE]
 |m+1,a,first,s,h,hf,hl=>by
  rw[aaC]at h⊢;by_cases h1:(bH s a first).2.2=0;rotate_left
  ·rw[aj h1]at h;exact absurd h h1
  rw[ah (λe=>e h1)]at h⊢;by_cases h2:(gX (bH s a first).1 (s.drop (bH s a first).2.1)).2.2=0;rotate_left
  ·rw[aj h2]at h;exact absurd h h2
  rw[ah (λe=>e h2)]at h⊢;by_cases h3:(iw m (bH s a first).1 false (s.drop ((bH s a first).2.1+(gX (bH s a first).1 (s.drop (bH s a first).2.1)).2.1))).2.2=0;rotate_left
  ·rw[aj h3]at h;exact absurd h h3
  rw[ah (λe=>e h3)];obtain⟨a1,a2,a3⟩:=aaD h1;obtain⟨p1,p2⟩:=avK h1 hf;obtain⟨q1,q2,q3,q4,q5⟩:=aaN h2;have hxl:(bH s a first).1.length<=a.length+(bH s a first).2.1:=by cases first<;>simp at a3<;>omega
  obtain⟨v1,v2,v3,v4,v5⟩:=jY q2;have dk:=aei q1 (by omega);obtain⟨b1,b2,b3,b4⟩:=ahM m _ false _ h3 (λe=>by cases e) (by rw[eX];omega);have hK:K (gX (bH s a first).1 (s.drop (bH s a first).2.1)).1=(bH s a first).1:=by rw[q4];exact dk.put
  have hN:(gX (bH s a first).1 (s.drop (bH s a first).2.1)).1.2.toNat=(aB (s.drop (bH s a first).2.1)).1:=by rw[q4];simp
  simp only;refine⟨?_,?_,λOJ r hr=>?_,λr hr=>?_⟩
  ·show A8 a (K _)++(aY _++xI (K _) _)=_
   rw[hK,hN,b1,p1,v5,<-q5];rw[BK,BK,List.append_assoc]
  ·refine iV.2 ⟨λr hr=>?_,b2⟩;rw[hK];exact b3 rfl r hr
  ·rcases bG.1 hr with rfl|hr
   ·rw[hK];exact p2 OJ
   ·exact yM (p2 OJ) (b3 rfl r hr)
  ·rcases bG.1 hr with rfl|hr
   ·rw[q4];refine⟨?_,dk.few,dk.ents,by simp only;omega,by simp only;omega⟩;rw[PV];exact⟨dk.chk,by simp only;omega⟩
   ·exact b4 r hr
structure BP(t:List Row):Prop where
 ok:Ok t
 few:wV t
 rows:Rows t
theorem BP.tb{t:List Row}(h:BP t):nD t=0:=(vU t).2 h.ok
theorem asK{s:Q0}(h:(nJ s).2.2=0)(hs:s.length<=100000000):yx (nJ s).1=s.take (nJ s).2.1/\BP (nJ s).1:=by obtain⟨a1,a2,a3,a4,a5,a6⟩:=af4 h;obtain⟨v1,v2,v3,v4,v5⟩:=jY a1;obtain⟨l1,l2⟩:=aaB _ _ _ _ a3;obtain⟨b1,b2,_,b4⟩:=ahM _ _ _ _ a3 (λ_=>rfl) (by rw[eX];simp;omega);rw[a4,a5];refine⟨?_,⟨by omega,b2,λr hr=>(b4 r hr).1⟩,λr hr=>(b4 r hr).2.1,by omega,λr hr=>(b4 r hr).2.2⟩;unfold yx;rw[l2,v5,b1,BK]
theorem ajg:BP []:=⟨⟨by simp,List.Pairwise.nil,by simp⟩,λr hr=>by simp at hr,by simp,by simp⟩
theorem aAu{s:Q0}(hs:s.length<=100000000):BP (sD s).1/\((sD s).2=0->yx (sD s).1=s)/\((sD s).2≠0->(sD s).1=[]):=by
 unfold sD;by_cases h1:(nJ s).2.2=0;rotate_left
 ·rw[aj h1];exact⟨ajg,λh=>absurd h h1,λ_=>rfl⟩
 rw[ah (λe=>e h1)];by_cases h2:(nJ s).2.1<s.length
 ·rw[aj h2];exact⟨ajg,λh=>absurd h (by decide),λ_=>rfl⟩
 rw[ah h2];obtain⟨b1,b2⟩:=asK h1 hs;rw[jZ (by omega)]at b1;exact⟨b2,λ_=>b1,λh=>absurd rfl h⟩
theorem BP.len{t:List Row}(h:BP t):t.length<=256:=h.ok.1
theorem BP.good{t:List Row}(h:BP t):fQ t:=⟨Nat.le_trans h.len (by decide),h.few,h.rows⟩
structure One where
 deep:Int
 tag:Int
 typ:Int
 num:Int
 text:Q0
inductive aI where
 |mk (tag typ num:Int) (text:Q0) (l:List aI)
def one(x:One):GV:=.g [.i .u8 x.deep,.i .u64 x.tag,.i .i8 x.typ,.i .u64 x.num,.s x.text]
@[simp] theorem aDu(x:One):(one x).cells=[.i .u8 x.deep,.i .u64 x.tag,.i .i8 x.typ,.i .u64 x.num,.s x.text]:=rfl
mutual
def oJ:aI->GV
 |.mk t y n s l=>.g [.i .u64 t,.i .i64 y,.i .u64 n,.s s,.l (aG l)]
def aG:List aI->List GV
 |[]=>[]
 |f::l=>oJ f::aG l
end
theorem nX:∀(a:List aI),(aG a).length=a.length
 |[]=>rfl
 |f::a=>by simp only[aG,gQ,nX a]
structure aT where
 kind:Int
 id:Int
 min:Int
 max:Int
 chosen:Int
 flags:Int
 cost:Int
 priority:Int
 deadline:Int
 retry:Int
 epoch:Int
 base:Int
 digest:Int
 lag:Int
 code:Int
 want:Int
 remaining:Int
 allowed:Bool
 name:Q0
 region:Q0
 note:Q0
 d:List dW
 t:List Row
def iq(b:aT)(r:Q1):GV:=.g [.i .i64 b.kind,.i .u64 b.id,.i .u64 b.min,.i .u64 b.max,.i .u64 b.chosen,.i .u64 b.flags,.i .u64 b.cost,.i .u64 b.priority,.i .u64 b.deadline,.i .u64 b.retry,.i .u64 b.epoch,.i .u64 b.base,.i .u64 b.digest,.i .u64 b.lag,.i .u64 b.code,.i .u64 b.want,.i .i64 b.remaining,.b b.allowed,.s b.name,.s b.region,.s b.note,.l (b.d.map ent),.l (b.t.map row),.l r]
theorem jW(b:aT)(r:Q1):GV.g [.i .i64 b.kind,.i .u64 b.id,.i .u64 b.min,.i .u64 b.max,.i .u64 b.chosen,.i .u64 b.flags,.i .u64 b.cost,.i .u64 b.priority,.i .u64 b.deadline,.i .u64 b.retry,.i .u64 b.epoch,.i .u64 b.base,.i .u64 b.digest,.i .u64 b.lag,.i .u64 b.code,.i .u64 b.want,.i .i64 b.remaining,.b b.allowed,.s b.name,.s b.region,.s b.note,.l (b.d.map ent),.l (b.t.map row),.l r]=iq b r:=rfl
@[simp] theorem dO(b:aT)(r:Q1):(iq b r).cells=[.i .i64 b.kind,.i .u64 b.id,.i .u64 b.min,.i .u64 b.max,.i .u64 b.chosen,.i .u64 b.flags,.i .u64 b.cost,.i .u64 b.priority,.i .u64 b.deadline,.i .u64 b.retry,.i .u64 b.epoch,.i .u64 b.base,.i .u64 b.digest,.i .u64 b.lag,.i .u64 b.code,.i .u64 b.want,.i .i64 b.remaining,.b b.allowed,.s b.name,.s b.region,.s b.note,.l (b.d.map ent),.l (b.t.map row),.l r]:=rfl
structure sH(b:aT):Prop where
 kind: -9223372036854775808<=b.kind/\b.kind<=9223372036854775807
 id:0<=b.id/\b.id<18446744073709551616
 min:0<=b.min/\b.min<18446744073709551616
 max:0<=b.max/\b.max<18446744073709551616
 chosen:0<=b.chosen/\b.chosen<18446744073709551616
 flags:0<=b.flags/\b.flags<18446744073709551616
 cost:0<=b.cost/\b.cost<18446744073709551616
 priority:0<=b.priority/\b.priority<18446744073709551616
 deadline:0<=b.deadline/\b.deadline<18446744073709551616
 retry:0<=b.retry/\b.retry<18446744073709551616
 epoch:0<=b.epoch/\b.epoch<18446744073709551616
 base:0<=b.base/\b.base<18446744073709551616
 digest:0<=b.digest/\b.digest<18446744073709551616
 lag:0<=b.lag/\b.lag<18446744073709551616
 code:0<=b.code/\b.code<18446744073709551616
 want:0<=b.want/\b.want<18446744073709551616
 remaining: -9223372036854775808<=b.remaining/\b.remaining<=9223372036854775807
 name:b.name.length<=140737488351232
 region:b.region.length<=140737488351232
 note:b.note.length<=140737488351232
 d:qJ b.d
 t:Rows b.t
theorem aru{k:IntKind}{g:GV}(h:(bP.int k).has g):∃n,g=.i k n/\k.min<=n/\n<=k.max:=by simp only[bP.has]at h;exact h
theorem YJ{g:GV}(h:(bP.int .i64).has g):∃n,g=.i .i64 n/\-9223372036854775808<=n/\n<=9223372036854775807:=by obtain⟨n,rfl,h1,h2⟩:=aru h;exact⟨n,rfl,by simpa[IntKind.min,IntKind.signed,IntKind.bits]using h1,by simpa[IntKind.max,IntKind.signed,IntKind.bits]using h2⟩
def KX(a c:Int)(n:Q0):aT:=⟨1,0,a,c,0,0,0,0,0,0,0,0,0,0,0,0,0,false,n,[],[],[],[]⟩
structure fJ where
 tag:Int
 use:Int
 from_:Int
 name:Q0
def fG(s:fJ):GV:=.g [.i .u64 s.tag,.i .i64 s.use,.i .i64 s.from_,.s s.name]
@[simp] theorem aDL(s:fJ):(fG s).cells=[.i .u64 s.tag,.i .i64 s.use,.i .i64 s.from_,.s s.name]:=rfl
theorem azq(s:fJ):GV.g [.i .u64 s.tag,.i .i64 s.use,.i .i64 s.from_,.s s.name]=fG s:=rfl
def sp1:List fJ:=[⟨1,0,1,[109,105,110]⟩,⟨2,0,1,[109,97,120]⟩,⟨3,3,1,[110,97,109,101]⟩,⟨4,3,2,[114,101,103,105,111,110]⟩,⟨5,0,3,[102,108,97,103,115]⟩]
def sp2:List fJ:=[⟨1,0,1,[99,104,111,115,101,110]⟩,⟨2,3,1,[110,97,109,101]⟩,⟨3,3,2,[114,101,103,105,111,110]⟩]
def DN:List fJ:=[⟨1,0,1,[105,100]⟩,⟨2,4,1,[100,101,115,99,114]⟩,⟨3,0,1,[99,111,115,116]⟩,⟨4,0,2,[112,114,105,111,114,105,116,121]⟩,⟨5,0,3,[100,101,97,100,108,105,110,101]⟩]
def DR:List fJ:=[⟨1,0,1,[105,100]⟩,⟨2,1,1,[97,108,108,111,119,101,100]⟩,⟨3,2,1,[114,101,109,97,105,110,105,110,103]⟩,⟨4,0,2,[114,101,116,114,121]⟩,⟨5,3,3,[110,111,116,101]⟩]
def DT:List fJ:=[⟨1,0,1,[101,112,111,99,104]⟩,⟨2,5,1,[116,97,98,108,101]⟩,⟨3,3,2,[114,101,103,105,111,110]⟩,⟨4,0,3,[100,105,103,101,115,116]⟩]
def DU:List fJ:=[⟨1,0,2,[98,97,115,101]⟩,⟨2,0,2,[101,112,111,99,104]⟩,⟨3,5,2,[116,97,98,108,101]⟩,⟨4,3,2,[114,101,103,105,111,110]⟩,⟨5,0,3,[100,105,103,101,115,116]⟩]
def DV:List fJ:=[⟨1,0,1,[101,112,111,99,104]⟩,⟨2,0,3,[108,97,103]⟩]
def DW:List fJ:=[⟨1,0,1,[101,112,111,99,104]⟩,⟨2,0,1,[99,111,100,101]⟩,⟨3,0,2,[119,97,110,116]⟩,⟨4,3,3,[110,111,116,101]⟩]
def xJ(k:Int):List fJ:=if k=1 then sp1 else if k=2 then sp2 else if k=3 then DN else if k=4 then DR else if k=5 then DT else if k=6 then DU else if k=7 then DV else if k=8 then DW else[]
def qU(k:Int):Int:=if k=1 then 1 else if k=2 then 1 else if k=3 then 1 else if k=4 then 1 else if k=5 then 1 else if k=6 then 2 else if k=7 then 1 else if k=8 then 1 else 0
def bM(k v:Int):List fJ:=(xJ k).filter λs=>decide (s.from_<=v)
theorem arE:TT.lim 67 []=some [.l (sp1.map fG)]:=by refine aP rfl rfl ?_ rfl;simp[sp1,fG]
theorem arB:TT.lim 69 []=some [.l (sp2.map fG)]:=by refine aP rfl rfl ?_ rfl;simp[sp2,fG]
theorem ald:TT.lim 70 []=some [.l (DN.map fG)]:=by refine aP rfl rfl ?_ rfl;simp[DN,fG]
theorem ale:TT.lim 71 []=some [.l (DR.map fG)]:=by refine aP rfl rfl ?_ rfl;simp[DR,fG]
theorem aqt:TT.lim 72 []=some [.l (DT.map fG)]:=by refine aP rfl rfl ?_ rfl;simp[DT,fG]
theorem ao4:TT.lim 73 []=some [.l (DU.map fG)]:=by refine aP rfl rfl ?_ rfl;simp[DU,fG]
theorem akf:TT.lim 74 []=some [.l (DV.map fG)]:=by refine aP rfl rfl ?_ rfl;simp[DV,fG]
theorem awL:TT.lim 75 []=some [.l (DW.map fG)]:=by refine aP rfl rfl ?_ rfl;simp[DW,fG]
theorem Zg(k:Int):TT.lim 65 [.i .i64 k]=some [.i .i64 (qU k)]:=by
 refine aP rfl rfl ?_ rfl;unfold qU;by_cases h1:k=1
 ·simp[h1]
 by_cases h2:k=2
 ·simp[h2]
 by_cases h3:k=3
 ·simp[h3]
 by_cases h4:k=4
 ·simp[h4]
 by_cases h5:k=5
 ·simp[h5]
 by_cases h6:k=6
 ·simp[h6]
 by_cases h7:k=7
 ·simp[h7]
 by_cases h8:k=8
 ·simp[h8]
 simp[h1,h2,h3,h4,h5,h6,h7,h8]
theorem Zi(v:Int)(l:List fJ)(hl:l.length<=8):∀(m i:Nat)(acc:List fJ),i+m=l.length->acc.length<=i->
 TT.lim 68 [.i .i64 v,.l (acc.map fG),.l (l.map fG),.i .i64 l.length,.i .i64 i]=some [.i .i64 0,.l ((acc++(l.drop i).filter λs=>decide (s.from_<=v)).map fG)]
 |0,i,acc,hi,ha=>by
  have h0:l.drop i=[]:=fZ (by omega);refine au rfl rfl ?_;have h:¬((i:Int)<l.length):=by omega
  simp[h,h0]
 |m+1,i,acc,hi,ha=>by
  have hlt:i<l.length:=by omega
  have hd:=gY hlt;refine au rfl rfl ?_;have h:((i:Int)<l.length):=by omega
  have hw:=wrap64 (n:=(i:Int)+1) (by omega) (by omega);have hb1:2*(acc.length+1)*40<=281474976710656:=by omega
  have hb2:acc.length<=281474976710655:=by omega
  have hok:(fG l[i]).fC 4=true:=rfl;have hcast:((i:Int)+1)=((i+1:Nat):Int):=by omega
  by_cases hf:l[i].from_<=v
  ·have ih:=Zi v l hl m (i+1) (acc++[l[i]]) (by omega) (by simp;omega);rw[<-hcast,lX]at ih;simp only[iD,jl]at ih;simp[-List.getElem_cons_drop,h,hlt,hf,hw,azq,hb1,hb2,hok,ih,hd]
  ·have ih:=Zi v l hl m (i+1) acc (by omega) (by omega);rw[<-hcast]at ih;simp[-List.getElem_cons_drop,h,hlt,hf,hw,ih,hd]
theorem azp(k:Int):(xJ k).length<=8:=by
 unfold xJ;repeat' split
 all_goals (first|(unfold sp1;decide)|(unfold sp2;decide)|(unfold DN;decide)|(unfold DR;decide)|(unfold DT;decide)|(unfold DU;decide)|(unfold DV;decide)|(unfold DW;decide)|decide)
theorem EY(v:Int)(l:List fJ)(hl:l.length<=8):TT.lim 68 [.i .i64 v,.l [],.l (l.map fG),.i .i64 l.length,.i .i64 0]=some [.i .i64 0,.l ((l.filter λs=>decide (s.from_<=v)).map fG)]:=by have:=Zi v l hl l.length 0 [] (by omega) (by simp);simpa using this
theorem Um(k v:Int)(h1:1<=v)(h3:v<=3)(hk:qU k<=v):TT.lim 66 [.i .i64 k,.i .i64 v]=some [.l ((bM k v).map fG)]:=by
 have a1:¬v<1:=by omega
 have a3:¬3<v:=by omega
 unfold bM xJ;unfold qU at hk;have g1:=EY v sp1 (by decide);have g2:=EY v sp2 (by decide);have g3:=EY v DN (by decide);have g4:=EY v DR (by decide);have g5:=EY v DT (by decide);have g6:=EY v DU (by decide);have g7:=EY v DV (by decide);have g8:=EY v DW (by decide);have e1:=arE;have e2:=arB;have e3:=ald;have e4:=ale;have e5:=aqt;have e6:=ao4;have e7:=akf;have e8:=awL;generalize sp1=p1 at *;generalize sp2=p2 at *;generalize DN=p3 at *;generalize DR=p4 at *;generalize DT=p5 at *;generalize DU=p6 at *;generalize DV=p7 at *;generalize DW=p8 at *;refine aP rfl rfl ?_ rfl;by_cases k1:k=1
 ·simp[k1,a1,a3,e1,g1]
 by_cases k2:k=2
 ·simp[k2,a1,a3,e2,g2]
 by_cases k3:k=3
 ·simp[k3,a1,a3,e3,g3]
 by_cases k4:k=4
 ·simp[k4,a1,a3,e4,g4]
 by_cases k5:k=5
 ·simp[k5,a1,a3,e5,g5]
 by_cases k6:k=6
 ·have a2:¬v<2:=by subst k6;simpa using hk
  simp[k6,a1,a2,a3,e6,g6]
 by_cases k7:k=7
 ·simp[k7,a1,a3,e7,g7]
 by_cases k8:k=8
 ·simp[k8,a1,a3,e8,g8]
 simp[k1,k2,k3,k4,k5,k6,k7,k8]
theorem aga(k v:Int)(h1:1<=v)(h3:v<=3):bM k v=[]↔qU k=0\/v<qU k:=by
 have hv:v=1\/v=2\/v=3:=by omega
 unfold bM xJ qU;by_cases k1:k=1
 ·subst k1;rcases hv with rfl|rfl|rfl<;>decide
 by_cases k2:k=2
 ·subst k2;rcases hv with rfl|rfl|rfl<;>decide
 by_cases k3:k=3
 ·subst k3;rcases hv with rfl|rfl|rfl<;>decide
 by_cases k4:k=4
 ·subst k4;rcases hv with rfl|rfl|rfl<;>decide
 by_cases k5:k=5
 ·subst k5;rcases hv with rfl|rfl|rfl<;>decide
 by_cases k6:k=6
 ·subst k6;rcases hv with rfl|rfl|rfl<;>decide
 by_cases k7:k=7
 ·subst k7;rcases hv with rfl|rfl|rfl<;>decide
 by_cases k8:k=8
 ·subst k8;rcases hv with rfl|rfl|rfl<;>decide
 simp[k1,k2,k3,k4,k5,k6,k7,k8]
def aI.tag:aI->Int
 |.mk t _ _ _ _=>t
theorem Aw:∀(a:List aI),aG a=a.map oJ
 |[]=>rfl
 |f::a=>by simp only[aG,iD,Aw a]
mutual
def uq:aI->Nat
 |.mk _ _ _ _ l=>cO l+1
def cO:List aI->Nat
 |[]=>0
 |f::l=>uq f+cO l+1
end
mutual
def tK:aI->Prop
 |.mk t y n s k=>(0<=t/\t<18446744073709551616/\-128<=y/\y<=127/\0<=n/\n<18446744073709551616/\s.length<=100000000/\k.length<=1000000)/\dS k
def dS:List aI->Prop
 |[]=>True
 |f::r=>tK f/\dS r
end
theorem ER:∀{l:List aI},dS l->∀f∈l,tK f
 |f::l,h,g,hg=>by
  simp only[dS]at h;rcases bG.1 hg with rfl|hg
  ·exact h.1
  ·exact ER h.2 g hg
theorem VW:∀{l:List aI}{f:aI},f∈l->uq f<cO l
 |g::l,f,h=>by
  simp only[cO];rcases bG.1 h with rfl|h
  ·omega
  ·have:=VW h;omega
mutual
def Ah(w:Nat):aI->Int
 |.mk _ y n s k=>if y=0 then(if s=[]/\k=[]then 0 else 8)else if y=1 then(if n=0/\k=[]then 0 else 8)else if y=2 then(if n=0/\s=[]then(if 8<=w then 9 else jF (w+1) 0 k)else 8)else 8
def jF(w:Nat)(ahead:Int):List aI->Int
 |[]=>0
 |f::r=>if f.tag=0 then 18 else if 4294967296<f.tag then 18 else if f.tag<=ahead then 7 else if Ah w f≠0 then Ah w f else jF w f.tag r
end
@[simp] theorem KJ(t y n:Int)(s:Q0)(k:List aI):(oJ (.mk t y n s k)).cells=[.i .u64 t,.i .i64 y,.i .u64 n,.s s,.l (aG k)]:=by simp only[oJ];rfl
theorem aqm(k:List aI):(aG k).length=0↔k=[]:=by rw[nX,Qy]
theorem aeO:∀(N:Nat)(l:List aI),cO l<N->dS l->l.length<=1000000->∀w:Nat,w<=8->TT.lim 104 [.l (aG l),.i .i64 w]=some [.i .i64 (jF w 0 l)]
 |0,l,h,_,_,_,_=>by omega
 |N+1,l,hN,hok,hlen,w,hw8=>by
  have loop:∀m i (ahead:Int),i+m=l.length->TT.lim 105 [.i .i64 w,.i .u64 ahead,.l (aG l),.i .i64 l.length,.i .i64 i]=some (if jF w ahead (l.drop i)=0 then[.i .i64 1]else[.i .i64 0,.i .i64 (jF w ahead (l.drop i))]):=by
   intro m;induction m with
   |zero=>
    intro i ahead hi;have h0:l.drop i=[]:=fZ (by omega);refine au rfl rfl ?_;have h:¬((i:Int)<l.length):=by omega
    simp[h,h0,jF]
   |succ m ih=>
    intro i ahead hi;have hlt:i<l.length:=by omega
    rw[gY hlt];have hf:=ER hok l[i] (gK hlt);have hs:=VW (gK hlt);have hget:(aG l)[i]? =some (oJ l[i]):=by rw[Aw,iP,bK hlt];rfl
    have hcast:((i:Int)+1)=((i+1:Nat):Int):=by omega
    have ih':=λa=>ih (i+1) a (by omega);simp only[<-hcast]at ih';generalize l[i]=f at *;obtain⟨t,y,n,s,k⟩:=f;simp only[tK]at hf;simp only[uq]at hs;have hwr:=wrap64 (n:=(i:Int)+1) (by omega) (by omega);have hww:=wrap64 (n:=(w:Int)+1) (by omega) (by omega);refine au rfl rfl ?_;have h:((i:Int)<l.length):=by omega
    have hk:=λh=>aeO N k (by omega) hf.2 hf.1.2.2.2.2.2.2.2 (w+1) h;simp only[Eb,Int.natCast_one]at hk;have hkl:((aG k).length=0)=(k=[]):=propext (aqm k);simp only[jF,aI.tag];by_cases h1:t=0
    ·simp[h,hget,h1]
    by_cases h2:4294967296<t
    ·simp[h,hget,h1,h2]
    by_cases h3:t<=ahead
    ·simp[h,hget,h1,h2,h3]
    simp only[Ah];by_cases h4:y=0
    ·subst h4;by_cases h5:s=[]
     ·by_cases h6:k=[]
      ·simp[h,hget,h1,h2,h3,h5,h6,hwr,ih',aG]
      ·simp[h,hget,h1,h2,h3,h5,h6,hwr,ih',hkl]
     ·simp[h,hget,h1,h2,h3,h5]
    by_cases h7:y=1
    ·subst h7;by_cases h5:n=0
     ·by_cases h6:k=[]
      ·simp[h,hget,h1,h2,h3,h5,h6,hwr,ih',aG]
      ·simp[h,hget,h1,h2,h3,h5,h6,hwr,ih',hkl]
     ·simp[h,hget,h1,h2,h3,h5]
    by_cases h8:y=2
    ·subst h8;by_cases h5:n=0
     ·by_cases h6:s=[]
      ·by_cases h9:8<=w
       ·have TD:(8:Int)<=w:=by omega
        simp[h,hget,h1,h2,h3,h5,h6,h9,TD]
       ·have TD:¬(8:Int)<=w:=by omega
        have hk:=hk (by omega);by_cases h10:jF (w+1) 0 k=0
        ·rw[h10]at hk;simp[h,hget,h1,h2,h3,h5,h6,h9,TD,hww,hk,h10,hwr,ih',aI.tag]
        ·simp[h,hget,h1,h2,h3,h5,h6,h9,TD,hww,hk,h10,hwr,ih',aI.tag]
      ·simp[h,hget,h1,h2,h3,h5,h6]
     ·simp[h,hget,h1,h2,h3,h5]
    simp[h,hget,h1,h2,h3,h4,h7,h8]
  have h0:=loop l.length 0 0 (by omega);rw[dD]at h0;refine aP rfl rfl ?_ rfl;have hl2:=nX l;by_cases hc:jF w 0 l=0
  ·rw[aj hc]at h0;have h0':TT.lim 105 [.i .i64 w,.i .u64 0,.l (aG l),.i .i64 (aG l).length,.i .i64 0]=some [.i .i64 1]:=by rw[hl2];exact h0
   simp[h0',hc]
  ·rw[ah hc]at h0;have h0':TT.lim 105 [.i .i64 w,.i .u64 0,.l (aG l),.i .i64 (aG l).length,.i .i64 0]=some [.i .i64 0,.i .i64 (jF w 0 l)]:=by rw[hl2];exact h0
   simp[h0',hc]
theorem SQ(l:List aI)(hok:dS l)(hlen:l.length<=1000000):TT.lim 103 [.l (aG l)]=some [.i .i64 (jF 0 0 l)]:=by have h:=aeO (cO l+1) l (by omega) hok hlen 0 (by omega);have h':TT.lim 104 [.l (aG l),.i .i64 0]=_:=h;refine aP rfl rfl ?_ rfl;simp[h']
inductive Pl where
 |rem|allow|name|region|note|d|t
 |num (k:Nat)
def IK:Q0:=[114,101,109,97,105,110,105,110,103]
def Ik:Q0:=[97,108,108,111,119,101,100]
def IE:Q0:=[110,97,109,101]
def IJ:Q0:=[114,101,103,105,111,110]
def Dn:Q0:=[110,111,116,101]
def Ir:Q0:=[100,101,115,99,114]
def IQ:Q0:=[116,97,98,108,101]
def Iy:Q0:=[105,100]
def IC:Q0:=[109,105,110]
def IB:Q0:=[109,97,120]
def Io:Q0:=[99,104,111,115,101,110]
def Iw:Q0:=[102,108,97,103,115]
def Ip:Q0:=[99,111,115,116]
def IG:Q0:=[112,114,105,111,114,105,116,121]
def Iq:Q0:=[100,101,97,100,108,105,110,101]
def IL:Q0:=[114,101,116,114,121]
def zC:Q0:=[101,112,111,99,104]
def Il:Q0:=[98,97,115,101]
def Iu:Q0:=[100,105,103,101,115,116]
def Iz:Q0:=[108,97,103]
def zB:Q0:=[99,111,100,101]
def AZ:Q0:=[119,97,110,116]
def placeOf(n:Q0):Option Pl:=
 if n=IK then some .rem else if n=Ik then some .allow else if n=IE then some .name else if n=IJ then some .region else if n=Dn then some .note else if n=Ir then some .d else if n=IQ then some .t else if n=Iy then some (.num 0)else if n=IC then some (.num 1)else if n=IB then some (.num 2)else if n=Io then some (.num 3)else if n=Iw then some (.num 4)else if n=Ip then some (.num 5)else if n=IG then some (.num 6)else if n=Iq then some (.num 7)else if n=IL then some (.num 8)else if n=zC then some (.num 9)else if n=Il then some (.num 10)else if n=Iu then some (.num 11)else if n=Iz then some (.num 12)else if n=zB then some (.num 13)else if n=AZ then some (.num 14)else none
theorem ahH:placeOf IK=some .rem:=rfl
theorem ahp:placeOf Ik=some .allow:=rfl
theorem ahD:placeOf IE=some .name:=rfl
theorem ahG:placeOf IJ=some .region:=rfl
theorem ahE:placeOf Dn=some .note:=rfl
theorem ahv:placeOf Ir=some .d:=rfl
theorem ahJ:placeOf IQ=some .t:=rfl
theorem ahz:placeOf Iy=some (.num 0):=rfl
theorem ahC:placeOf IC=some (.num 1):=rfl
theorem ahB:placeOf IB=some (.num 2):=rfl
theorem ahr:placeOf Io=some (.num 3):=rfl
theorem ahy:placeOf Iw=some (.num 4):=rfl
theorem aht:placeOf Ip=some (.num 5):=rfl
theorem ahF:placeOf IG=some (.num 6):=rfl
theorem ahu:placeOf Iq=some (.num 7):=rfl
theorem ahI:placeOf IL=some (.num 8):=rfl
theorem ahx:placeOf zC=some (.num 9):=rfl
theorem ahq:placeOf Il=some (.num 10):=rfl
theorem ahw:placeOf Iu=some (.num 11):=rfl
theorem ahA:placeOf Iz=some (.num 12):=rfl
theorem ahs:placeOf zB=some (.num 13):=rfl
theorem ahK:placeOf AZ=some (.num 14):=rfl
def Fq(b:aT)(k:Nat):Int:=match k with
 |0=>b.id
 |1=>b.min
 |2=>b.max
 |3=>b.chosen
 |4=>b.flags
 |5=>b.cost
 |6=>b.priority
 |7=>b.deadline
 |8=>b.retry
 |9=>b.epoch
 |10=>b.base
 |11=>b.digest
 |12=>b.lag
 |13=>b.code
 |_=>b.want
def UQ(b:aT):Pl->Bool
 |.rem=>decide (b.remaining=0)
 |.allow=>!b.allowed
 |.name=>decide (b.name=[])
 |.region=>decide (b.region=[])
 |.note=>decide (b.note=[])
 |.d=>decide (b.d=[])
 |.t=>decide (b.t=[])
 |.num k=>decide (Fq b k=0)
def tY(b:aT)(n:Q0):Bool:=match placeOf n with
 |some p=>UQ b p
 |none=>true
def uS(b:aT):Pl->Int
 |.name=>pq b.name 0 256
 |.region=>pq b.region 0 256
 |.note=>pq b.note 0 256
 |.d=>if b.d=[]then 0 else yZ b.d
 |.t=>nD b.t
 |_=>0
def AX(b:aT)(n:Q0):Int:=match placeOf n with
 |some p=>uS b p
 |none=>0
def zz(x:Int):Int:=if 0<=x then 2*x else -2*x-1
def dw(b:aT):Pl->Int×Q0
 |.rem=>(zz b.remaining,[])
 |.allow=>(if b.allowed=true then 1 else 0,[])
 |.name=>(0,b.name)
 |.region=>(0,b.region)
 |.note=>(0,b.note)
 |.d=>(0,if b.d=[]then[]else dQ b.d)
 |.t=>(0,if b.t=[]then[]else(PK b.t).1)
 |.num k=>(Fq b k,[])
def fH:Pl->Int
 |.num _=>0
 |.rem=>0
 |.allow=>0
 |_=>1
def aAJ:Pl->Int
 |.num _=>0
 |.allow=>1
 |.rem=>2
 |.d=>4
 |.t=>5
 |_=>3
def nameOf:Pl->List UInt8
 |.rem=>IK
 |.allow=>Ik
 |.name=>IE
 |.region=>IJ
 |.note=>Dn
 |.d=>Ir
 |.t=>IQ
 |.num k=>match k with
  |0=>Iy
  |1=>IC
  |2=>IB
  |3=>Io
  |4=>Iw
  |5=>Ip
  |6=>IG
  |7=>Iq
  |8=>IL
  |9=>zC
  |10=>Il
  |11=>Iu
  |12=>Iz
  |13=>zB
  |_=>AZ
def UU:Pl->Prop
 |.num k=>k<15
 |_=>True
theorem asB{c:Prop}[Decidable c]{a b:Option Pl}{p:Pl}(h:(if c then a else b)=some p):(c/\a=some p)\/(¬c/\b=some p):=by
 by_cases e:c
 ·rw[aj e]at h;exact .inl ⟨e,h⟩
 ·rw[ah e]at h;exact .inr ⟨e,h⟩
theorem LV(n:Q0)(p:Pl)(h:placeOf n=some p):n=nameOf p/\UU p/\n∈iG:=by
 unfold placeOf at h
 iterate 22
  replace h:=asB h
  rcases h with⟨e,h⟩|⟨-,h⟩
  ·cases h;subst e;exact⟨rfl,by first|exact trivial|exact(show _<15 by decide),by decide⟩
 cases h
theorem avH{a b:Q0}{p:Pl}(ha:placeOf a=some p)(hb:placeOf b=some p):a=b:=by rw[(LV a p ha).1,(LV b p hb).1]
theorem asy{n m:Q0}{p q:Pl}(hp:placeOf n=some p)(hq:placeOf m=some q):(n=m)=(p=q):=
 propext ⟨λe=>by subst e;rw[hp]at hq;cases hq;rfl,λe=>by subst e;exact avH hp hq⟩
theorem Uc{n:Q0}{p:Pl}(hp:placeOf n=some p):((n=[114,101,109,97,105,110,105,110,103])=(p=.rem))/\((n=[97,108,108,111,119,101,100])=(p=.allow))/\((n=[110,97,109,101])=(p=.name))/\((n=[114,101,103,105,111,110])=(p=.region))/\((n=[110,111,116,101])=(p=.note))/\((n=[100,101,115,99,114])=(p=.d))/\((n=[116,97,98,108,101])=(p=.t))/\((n=[105,100])=(p=.num 0))/\((n=[109,105,110])=(p=.num 1))/\((n=[109,97,120])=(p=.num 2))/\((n=[99,104,111,115,101,110])=(p=.num 3))/\((n=[102,108,97,103,115])=(p=.num 4))/\((n=[99,111,115,116])=(p=.num 5))/\((n=[112,114,105,111,114,105,116,121])=(p=.num 6))/\((n=[100,101,97,100,108,105,110,101])=(p=.num 7))/\((n=[114,101,116,114,121])=(p=.num 8))/\((n=[101,112,111,99,104])=(p=.num 9))/\((n=[98,97,115,101])=(p=.num 10))/\((n=[100,105,103,101,115,116])=(p=.num 11))/\((n=[108,97,103])=(p=.num 12))/\((n=[99,111,100,101])=(p=.num 13))/\((n=[119,97,110,116])=(p=.num 14)):=by and_intros<;>exact asy hp rfl
theorem afW{n:Q0}(h:placeOf n=none):((n=[114,101,109,97,105,110,105,110,103])=False)/\((n=[97,108,108,111,119,101,100])=False)/\((n=[110,97,109,101])=False)/\((n=[114,101,103,105,111,110])=False)/\((n=[110,111,116,101])=False)/\((n=[100,101,115,99,114])=False)/\((n=[116,97,98,108,101])=False)/\((n=[105,100])=False)/\((n=[109,105,110])=False)/\((n=[109,97,120])=False)/\((n=[99,104,111,115,101,110])=False)/\((n=[102,108,97,103,115])=False)/\((n=[99,111,115,116])=False)/\((n=[112,114,105,111,114,105,116,121])=False)/\((n=[100,101,97,100,108,105,110,101])=False)/\((n=[114,101,116,114,121])=False)/\((n=[101,112,111,99,104])=False)/\((n=[98,97,115,101])=False)/\((n=[100,105,103,101,115,116])=False)/\((n=[108,97,103])=False)/\((n=[99,111,100,101])=False)/\((n=[119,97,110,116])=False):=by and_intros<;>exact eq_false λe=>by subst e;exact absurd h (by decide)
theorem LQ{Q:(p:Pl)->UU p->Prop}(h0:Q (.rem) trivial)(h1:Q (.allow) trivial)(h2:Q (.name) trivial)(h3:Q (.region) trivial)(h4:Q (.note) trivial)(h5:Q (.d) trivial)(h6:Q (.t) trivial)(h7:Q (.num 0) (show 0<15 by decide))(h8:Q (.num 1) (show 1<15 by decide))(h9:Q (.num 2) (show 2<15 by decide))(h10:Q (.num 3) (show 3<15 by decide))(h11:Q (.num 4) (show 4<15 by decide))(h12:Q (.num 5) (show 5<15 by decide))(h13:Q (.num 6) (show 6<15 by decide))(h14:Q (.num 7) (show 7<15 by decide))(h15:Q (.num 8) (show 8<15 by decide))(h16:Q (.num 9) (show 9<15 by decide))(h17:Q (.num 10) (show 10<15 by decide))(h18:Q (.num 11) (show 11<15 by decide))(h19:Q (.num 12) (show 12<15 by decide))(h20:Q (.num 13) (show 13<15 by decide))(h21:Q (.num 14) (show 14<15 by decide))(p:Pl)(hp:UU p):Q p hp:=by
 cases p with
 |num k=>simp only[UU]at hp;rcases(show k=0\/k=1\/k=2\/k=3\/k=4\/k=5\/k=6\/k=7\/k=8\/k=9\/k=10\/k=11\/k=12\/k=13\/k=14 by omega)with rfl|rfl|rfl|rfl|rfl|rfl|rfl|rfl|rfl|rfl|rfl|rfl|rfl|rfl|rfl<;>assumption
 |_=>assumption
def uN(ps:Wg):Q1:=ps.map λp=>.g [.s p,.b true]
def AL(ps:Wg)(x:Q0):Wg:=if x∈ps then ps else ps++[x]
theorem Xq(n:Q0):∀ps:Wg,iE (.s n) (uN ps)=if n∈ps then some (.b true)else none
 |[]=>rfl
 |p::ps=>by
  have ih:=Xq n ps;simp only[uN,iD,iE,oP]at ih⊢;by_cases e:n=p
  ·subst e;simp
  ·have e2:¬p=n:=λh=>e h.symm;simp[e,ih]
theorem ah0(x:Q0):∀ps:Wg,lI (.s x) (.b true) (uN ps)=uN (AL ps x)
 |[]=>rfl
 |p::ps=>by
  have ih:=ah0 x ps;unfold AL at ih⊢;simp only[uN,iD,lI,oP]at ih⊢;by_cases e:x=p
  ·subst e;simp
  ·have e1:(x==p)=false:=by simpa using e
   simp only[e1,iO,if_false];rw[ih];by_cases hm:x∈ps
   ·simp only[hm,if_true,bG,or_true,iD]
   ·simp only[hm,if_false,bG,e,or_false,bC,iD]
def zo(ps:Wg)(l:List fJ):Wg:=l.foldl (λps s=>AL ps s.name) ps
theorem aty(n x:Q0)(ps:Wg):n∈AL ps x↔n∈ps\/x=n:=by
 unfold AL;split
 ·next h=>exact⟨.inl,λe=>e.elim id (λe=>e▸h)⟩
 ·simp[eq_comm]
theorem agR(n:Q0):∀(l:List fJ)(ps:Wg),n∈zo ps l↔n∈ps\/∃s∈l,s.name=n
 |[],ps=>by simp[zo]
 |s::l,ps=>by have:=agR n l (AL ps s.name);unfold zo at this⊢;rw[List.foldl_cons,this,aty];simp[or_assoc]
def AB(l:List fJ)(n:Q0):Bool:=l.any λs=>decide (s.name=n)
theorem atx(n:Q0)(l:List fJ):decide (n∈zo [] l)=AB l n:=by rw[wU,decide_eq_true_iff,agR];simp[AB]
theorem agL(b:aT)(r:Q1)(l:List fJ)(hl:l.length<=1000):∀(m i:Nat)(ps:Wg),i+m=l.length->
 TT.lim 76 [.l (l.map fG),.i .i64 l.length,.i .i64 i,.l (uN ps),.i .i64 b.kind,.i .u64 b.id,.i .u64 b.min,.i .u64 b.max,.i .u64 b.chosen,.i .u64 b.flags,.i .u64 b.cost,.i .u64 b.priority,.i .u64 b.deadline,.i .u64 b.retry,.i .u64 b.epoch,.i .u64 b.base,.i .u64 b.digest,.i .u64 b.lag,.i .u64 b.code,.i .u64 b.want,.i .i64 b.remaining,.b b.allowed,.s b.name,.s b.region,.s b.note,.l (b.d.map ent),.l (b.t.map row),.l r]=some [.i .i64 0,.l (uN (zo ps (l.drop i)))]
 |0,i,ps,hi=>by
  have h0:l.drop i=[]:=fZ (by omega);refine au rfl rfl ?_;have h:¬((i:Int)<l.length):=by omega
  simp[h,h0,zo]
 |m+1,i,ps,hi=>by
  have hlt:i<l.length:=by omega
  have ih:=agL b r l hl m (i+1) (AL ps l[i].name) (by omega);have hcast:((i:Int)+1)=((i+1:Nat):Int):=by omega
  rw[<-hcast]at ih;have hp:=ah0 l[i].name ps;have hd:zo ps (l.drop i)=zo (AL ps l[i].name) (l.drop (i+1)):=by rw[gY hlt];rfl
  rw[hd];generalize zo (AL ps l[i].name) (l.drop (i+1))=X at *;generalize uN (AL ps l[i].name)=Y at *;refine au rfl rfl ?_;have h:((i:Int)<l.length):=by omega
  have hw:=wrap64 (n:=(i:Int)+1) (by omega) (by omega);simp[h,hlt,hw,hp,ih]
def aj3(b:aT)(r:Q1)(n:Q0)(c:Prop):Prop:=∀(sp:GV)(ns:Wg)(i:Nat)(ps:Wg)(out:Q1)(h:i<ns.length),((i:Int)<ns.length)->IntKind.i64.wrap ((i:Int)+1)=(i:Int)+1->ns[i]=n->iE (.s n) (uN ps)=none->
    TT.lim 78 [sp,.l (ns.map .s),.i .i64 ns.length,.i .i64 ((i:Int)+1),.l (uN ps),.i .i64 b.kind,.i .u64 b.id,.i .u64 b.min,.i .u64 b.max,.i .u64 b.chosen,.i .u64 b.flags,.i .u64 b.cost,.i .u64 b.priority,.i .u64 b.deadline,.i .u64 b.retry,.i .u64 b.epoch,.i .u64 b.base,.i .u64 b.digest,.i .u64 b.lag,.i .u64 b.code,.i .u64 b.want,.i .i64 b.remaining,.b b.allowed,.s b.name,.s b.region,.s b.note,.l (b.d.map ent),.l (b.t.map row),.l r]=some out->
    (c->TT.lim 78 [sp,.l (ns.map .s),.i .i64 ns.length,.i .i64 i,.l (uN ps),.i .i64 b.kind,.i .u64 b.id,.i .u64 b.min,.i .u64 b.max,.i .u64 b.chosen,.i .u64 b.flags,.i .u64 b.cost,.i .u64 b.priority,.i .u64 b.deadline,.i .u64 b.retry,.i .u64 b.epoch,.i .u64 b.base,.i .u64 b.digest,.i .u64 b.lag,.i .u64 b.code,.i .u64 b.want,.i .i64 b.remaining,.b b.allowed,.s b.name,.s b.region,.s b.note,.l (b.d.map ent),.l (b.t.map row),.l r]=some out)/\(¬c->TT.lim 78 [sp,.l (ns.map .s),.i .i64 ns.length,.i .i64 i,.l (uN ps),.i .i64 b.kind,.i .u64 b.id,.i .u64 b.min,.i .u64 b.max,.i .u64 b.chosen,.i .u64 b.flags,.i .u64 b.cost,.i .u64 b.priority,.i .u64 b.deadline,.i .u64 b.retry,.i .u64 b.epoch,.i .u64 b.base,.i .u64 b.digest,.i .u64 b.lag,.i .u64 b.code,.i .u64 b.want,.i .i64 b.remaining,.b b.allowed,.s b.name,.s b.region,.s b.note,.l (b.d.map ent),.l (b.t.map row),.l r]=some [.i .i64 0])
theorem agX:TT.lim 77 []=some [.l (iG.map .s)]:=yA (Ds:=Ds) (k:=77) (f:=UK) rfl rfl
theorem auw(b:aT){n:Q0}{p:Pl}(h:placeOf n=some p):tY b n=UQ b p:=by unfold tY;rw[h]
set_option maxHeartbeats 4000000 in
theorem azN(b:aT)(r:Q1){n:Q0}{p:Pl}(hp:placeOf n=some p):aj3 b r n (UQ b p=true):=by
 intro sp ns i ps out h h1 hw hn ha ih;have hI:=Uc hp;have hk:=(LV n p hp).2.1;clear hp;induction p,hk using LQ<;>(refine⟨λhc=>au rfl rfl ?_,λhc=>au rfl rfl ?_⟩<;>simp only[UQ,Fq,decide_eq_true_iff,yJ]at hc)
 all_goals first
  |(have hc:=eq_true hc;simp[h1,h,hn,hw,ha,hc,hI,ih];done)
  |(rw[hc]at ih;simp[h1,h,hn,hw,ha,hc,hI,ih];done)
  |(simp[h1,h,hn,ha,hc,hI];done)
theorem agM(b:aT)(r:Q1)(sp:GV)(ns:Wg)(hlen:ns.length<=1000)(hns:∀n∈ns,placeOf n≠none)(ps:Wg):∀(m i:Nat),i+m=ns.length->
 TT.lim 78 [sp,.l (ns.map .s),.i .i64 ns.length,.i .i64 i,.l (uN ps),.i .i64 b.kind,.i .u64 b.id,.i .u64 b.min,.i .u64 b.max,.i .u64 b.chosen,.i .u64 b.flags,.i .u64 b.cost,.i .u64 b.priority,.i .u64 b.deadline,.i .u64 b.retry,.i .u64 b.epoch,.i .u64 b.base,.i .u64 b.digest,.i .u64 b.lag,.i .u64 b.code,.i .u64 b.want,.i .i64 b.remaining,.b b.allowed,.s b.name,.s b.region,.s b.note,.l (b.d.map ent),.l (b.t.map row),.l r]=some (if(ns.drop i).all (λn=>decide (n∈ps) ||tY b n)=true then[.i .i64 1]else[.i .i64 0])
 |0,i,hi=>by
  have h0:ns.drop i=[]:=fZ (by omega);refine au rfl rfl ?_;have h:¬((i:Int)<ns.length):=by omega
  simp[h,h0]
 |m+1,i,hi=>by
  have hlt:i<ns.length:=by omega
  have ih:=agM b r sp ns hlen hns ps m (i+1) (by omega);have hcast:((i:Int)+1)=((i+1:Nat):Int):=by omega
  rw[<-hcast]at ih;have hd:(ns.drop i).all (λn=>decide (n∈ps) ||tY b n)=((decide (ns[i]∈ps) ||tY b ns[i])&&(ns.drop (i+1)).all (λn=>decide (n∈ps) ||tY b n)):=by rw[gY hlt,qK]
  rw[hd];generalize(ns.drop (i+1)).all (λn=>decide (n∈ps) ||tY b n)=X at *;by_cases hps:ns[i]∈ps
  ·have ha:=Xq ns[i] ps;rw[aj hps]at ha;have h1:((i:Int)<ns.length):=by omega
   have hw:=wrap64 (n:=(i:Int)+1) (by omega) (by omega);rw[G7 hps,Bool.true_or,D9];refine au rfl rfl ?_;simp[h1,hlt,hw,ha,ih]
  ·have ha:=Xq ns[i] ps;rw[ah hps]at ha;obtain⟨p,hp⟩:=aj0.1 (hns _ (gK hlt));have c1:=auw b hp;obtain⟨c3,c4⟩:=azN b r hp sp ns i ps _ hlt (by omega) (wrap64 (n:=(i:Int)+1) (by omega) (by omega)) rfl ha ih;rw[G6 hps,zJ];cases hb:tY b ns[i]with
   |true=>rw[c3 (by rw[<-c1];exact hb),D9]
   |false=>rw[c4 (by rw[<-c1,hb];decide),WA];rfl
def Gf(b:aT)(r:Q1)(k:Nat)(out:Q1):Prop:=TT.lim k [.i .i64 b.kind,.i .u64 b.id,.i .u64 b.min,.i .u64 b.max,.i .u64 b.chosen,.i .u64 b.flags,.i .u64 b.cost,.i .u64 b.priority,.i .u64 b.deadline,.i .u64 b.retry,.i .u64 b.epoch,.i .u64 b.base,.i .u64 b.digest,.i .u64 b.lag,.i .u64 b.code,.i .u64 b.want,.i .i64 b.remaining,.b b.allowed,.s b.name,.s b.region,.s b.note,.l (b.d.map ent),.l (b.t.map row),.l r]=some out
theorem att(b:aT){n:Q0}{p:Pl}(h:placeOf n=some p):AX b n=uS b p:=by unfold AX;rw[h]
set_option maxHeartbeats 4000000 in
theorem atv(b:aT)(r:Q1)(hb:sH b)(hf:∀r∈b.t,iF r.1=true):(∀k∈[80,81,87,88,89,90,91,92,93,94,95,96,97,98,99,100,101],Gf b r k [.i .i64 0])/\Gf b r 82 [.i .i64 0,.i .i64 (uS b .name)]/\Gf b r 83 [.i .i64 0,.i .i64 (uS b .region)]/\Gf b r 84 [.i .i64 0,.i .i64 (uS b .note)]/\Gf b r 85 [.i .i64 0,.i .i64 (uS b .d)]/\Gf b r 86 [.i .i64 0,.i .i64 (uS b .t)]:=by
 have h1:=EF b.name 0 256 hb.name;have h2:=EF b.region 0 256 hb.region;have h3:=EF b.note 0 256 hb.note;have h4:=adF b.d hb.d;have h5:=RQ b.t hb.t hf;refine⟨λk hk=>?_,au rfl rfl ?_,au rfl rfl ?_,au rfl rfl ?_,au rfl rfl ?_,au rfl rfl ?_⟩
 ·simp only[bG,List.not_mem_nil,or_false]at hk;rcases hk with rfl|rfl|rfl|rfl|rfl|rfl|rfl|rfl|rfl|rfl|rfl|rfl|rfl|rfl|rfl|rfl|rfl<;>(refine au rfl rfl ?_;simp)
 ·simp[uS,h1]
 ·simp[uS,h2]
 ·simp[uS,h3]
 ·by_cases e:b.d=[]
  ·simp[uS,e]
  ·have e2:¬(List.map ent b.d)=[]:=by simpa using e
   have e3:0<b.d.length:=JI.2 e;simp[uS,e,h4]
 ·simp[uS,h5]
def aj6(b:aT)(r:Q1)(n:Q0)(c:Int):Prop:=∀(l:List fJ)(i:Nat)(out:Q1)(h:i<l.length),((i:Int)<l.length)->IntKind.i64.wrap ((i:Int)+1)=(i:Int)+1->l[i].name=n->
    TT.lim 79 [.l (l.map fG),.i .i64 l.length,.i .i64 ((i:Int)+1),.i .i64 b.kind,.i .u64 b.id,.i .u64 b.min,.i .u64 b.max,.i .u64 b.chosen,.i .u64 b.flags,.i .u64 b.cost,.i .u64 b.priority,.i .u64 b.deadline,.i .u64 b.retry,.i .u64 b.epoch,.i .u64 b.base,.i .u64 b.digest,.i .u64 b.lag,.i .u64 b.code,.i .u64 b.want,.i .i64 b.remaining,.b b.allowed,.s b.name,.s b.region,.s b.note,.l (b.d.map ent),.l (b.t.map row),.l r]=some out->
    TT.lim 79 [.l (l.map fG),.i .i64 l.length,.i .i64 i,.i .i64 b.kind,.i .u64 b.id,.i .u64 b.min,.i .u64 b.max,.i .u64 b.chosen,.i .u64 b.flags,.i .u64 b.cost,.i .u64 b.priority,.i .u64 b.deadline,.i .u64 b.retry,.i .u64 b.epoch,.i .u64 b.base,.i .u64 b.digest,.i .u64 b.lag,.i .u64 b.code,.i .u64 b.want,.i .i64 b.remaining,.b b.allowed,.s b.name,.s b.region,.s b.note,.l (b.d.map ent),.l (b.t.map row),.l r]=some (if c=0 then out else[.i .i64 0,.i .i64 c])
set_option maxHeartbeats 4000000 in
theorem azO(b:aT)(r:Q1)(hb:sH b)(hf:∀r∈b.t,iF r.1=true){n:Q0}{p:Pl}(hp:placeOf n=some p):aj6 b r n (uS b p):=by
 intro l i out h h1 hw hn ih;obtain⟨m0,m1,m2,m3,m4,m5⟩:=atv b r hb hf;simp only[List.forall_mem_cons,Gf]at m0 m1 m2 m3 m4 m5;have hI:=Uc hp;have hk:=(LV n p hp).2.1;clear hp;generalize hc':uS b p=c at ih⊢;induction p,hk using LQ
 all_goals first
  |(obtain rfl:0=c:=hc'
    rw[aj rfl];refine au rfl rfl ?_;simp[h1,h,hn,hw,hI,m0,ih];done)
  |(simp only[hc']at m1 m2 m3 m4 m5
    by_cases hc:c=0
    ·subst hc;rw[aj rfl];refine au rfl rfl ?_;simp[h1,h,hn,hw,hI,m1,m2,m3,m4,m5,ih]
    ·rw[ah hc];refine au rfl rfl ?_;simp[h1,h,hn,hw,hI,m1,m2,m3,m4,m5,hc])
def pV(b:aT):List fJ->Int
 |[]=>0
 |s::l=>if AX b s.name=0 then pV b l else AX b s.name
theorem agN(b:aT)(r:Q1)(hb:sH b)(hf:∀r∈b.t,iF r.1=true)(l:List fJ)(hlen:l.length<=1000)(hns:∀s∈l,placeOf s.name≠none):∀(m i:Nat),i+m=l.length->
 TT.lim 79 [.l (l.map fG),.i .i64 l.length,.i .i64 i,.i .i64 b.kind,.i .u64 b.id,.i .u64 b.min,.i .u64 b.max,.i .u64 b.chosen,.i .u64 b.flags,.i .u64 b.cost,.i .u64 b.priority,.i .u64 b.deadline,.i .u64 b.retry,.i .u64 b.epoch,.i .u64 b.base,.i .u64 b.digest,.i .u64 b.lag,.i .u64 b.code,.i .u64 b.want,.i .i64 b.remaining,.b b.allowed,.s b.name,.s b.region,.s b.note,.l (b.d.map ent),.l (b.t.map row),.l r]=some (if pV b (l.drop i)=0 then[.i .i64 1]else[.i .i64 0,.i .i64 (pV b (l.drop i))])
 |0,i,hi=>by
  have h0:l.drop i=[]:=fZ (by omega);refine au rfl rfl ?_;have h:¬((i:Int)<l.length):=by omega
  simp[h,h0,pV]
 |m+1,i,hi=>by
  have hlt:i<l.length:=by omega
  have ih:=agN b r hb hf l hlen hns m (i+1) (by omega);have hcast:((i:Int)+1)=((i+1:Nat):Int):=by omega
  rw[<-hcast]at ih;obtain⟨p,hp⟩:=aj0.1 (hns _ (gK hlt));have:=azO b r hb hf hp l i _ hlt (by omega) (wrap64 (n:=(i:Int)+1) (by omega) (by omega)) rfl ih;rw[<-att b hp]at this;rw[this,gY hlt];by_cases hc:AX b l[i].name=0
  ·have hm:pV b (l[i]::l.drop (i+1))=pV b (l.drop (i+1)):=by simp only[pV,hc,if_true]
   rw[aj hc,hm]
  ·have hm:pV b (l[i]::l.drop (i+1))=AX b l[i].name:=by simp only[pV,hc,if_false]
   rw[ah hc,hm,ah hc]
def hasTag(l:List fJ)(t:Int):Bool:=l.any λs=>decide (t=s.tag)
theorem agP(l:List fJ)(hlen:l.length<=1000)(a1 a2 a3:GV)(t:Int)(a7 a8 a9 a10:GV):∀(m i:Nat),i+m=l.length->
 TT.lim 107 [.l (l.map fG),a1,a2,a3,.i .i64 l.length,.i .i64 i,.i .u64 t,a7,a8,a9,a10]=some (if hasTag (l.drop i) t=true then[.i .i64 0]else[.i .i64 1])
 |0,i,hi=>by
  have h0:l.drop i=[]:=fZ (by omega);refine au rfl rfl ?_;have h:¬((i:Int)<l.length):=by omega
  simp[h,h0,hasTag]
 |m+1,i,hi=>by
  have hlt:i<l.length:=by omega
  have ih:=agP l hlen a1 a2 a3 t a7 a8 a9 a10 m (i+1) (by omega);have hcast:((i:Int)+1)=((i+1:Nat):Int):=by omega
  rw[<-hcast]at ih;have h1:((i:Int)<l.length):=by omega
  have hw:=wrap64 (n:=(i:Int)+1) (by omega) (by omega);have hd:hasTag (l.drop i) t=(decide (t=l[i].tag) ||hasTag (l.drop (i+1)) t):=by rw[gY hlt];rfl
  rw[hd];generalize hasTag (l.drop (i+1)) t=X at *;refine au rfl rfl ?_;by_cases hc:t=l[i].tag
  ·simp[h1,hlt,hc]
  ·simp[h1,hlt,hc,hw,ih]
theorem agO(l:List fJ)(hlen:l.length<=1000)(fl:List aI)(hfl:fl.length<=1000000):∀(m i:Nat),i+m=fl.length->
 TT.lim 106 [.l (l.map fG),.l (aG fl),.i .i64 fl.length,.i .i64 i]=some (if(fl.drop i).any (λf=>hasTag l f.tag)=true then[.i .i64 0]else[.i .i64 1])
 |0,i,hi=>by
  have h0:fl.drop i=[]:=fZ (by omega);refine au rfl rfl ?_;have h:¬((i:Int)<fl.length):=by omega
  simp[h,h0]
 |m+1,i,hi=>by
  have hlt:i<fl.length:=by omega
  have ih:=agO l hlen fl hfl m (i+1) (by omega);have hcast:((i:Int)+1)=((i+1:Nat):Int):=by omega
  rw[<-hcast]at ih;have h1:((i:Int)<fl.length):=by omega
  have hw:=wrap64 (n:=(i:Int)+1) (by omega) (by omega);have hd:(fl.drop i).any (λf=>hasTag l f.tag)=(hasTag l fl[i].tag ||(fl.drop (i+1)).any (λf=>hasTag l f.tag)):=by rw[gY hlt,ab8]
  rw[hd];have hget:(aG fl)[i]? =some (oJ fl[i]):=by rw[Aw,iP,bK hlt];rfl
  clear hd;obtain⟨t,y,n,s,k,hfi⟩:∃t y n s k,fl[i]=aI.mk t y n s k:=by
   cases fl[i]with
   |mk t y n s k=>exact⟨_,_,_,_,_,rfl⟩
  rw[hfi]at hget⊢;rw[show(aI.mk t y n s k).tag=t from rfl];have h3:TT.lim 107 [.l (l.map fG),.l (aG fl),.i .i64 fl.length,.i .i64 i,.i .i64 l.length,.i .i64 0,.i .u64 t,.i .i64 y,.i .u64 n,.s s,.l (aG k)]=_:=agP l hlen _ _ _ t _ _ _ _ l.length 0 (by omega);rw[dD]at h3;refine au rfl rfl ?_;by_cases hc:hasTag l t=true
  ·rw[aj hc]at h3;simp[-List.any_eq_true,h1,hget,h3,hc]
  ·rw[ah hc]at h3;have hc:hasTag l t=false:=by simpa using hc
   simp[-List.any_eq_true,h1,hget,h3,hw,ih,hc]
def Gy(b:aT):Int:=
 if b.kind=1 then(if b.min<1 then 18 else if b.max<b.min then 18 else if 255<b.max then 18 else 0)
 else if b.kind=2 then(if b.chosen<1 then 18 else if 255<b.chosen then 18 else 0)
 else if b.kind=3 then(if b.d=[]then 12 else 0)
 else if b.kind=5 then(if b.epoch<1 then 18 else 0)
 else if b.kind=6 then(if b.base<1 then 18 else if b.epoch<=b.base then 20 else 0)
 else 0
def L9(sp:List fJ)(fl:List aI):Int:=if jF 0 0 fl≠0 then jF 0 0 fl else if fl.any (λf=>hasTag sp f.tag)=true then 14 else 0
def jg(b:aT)(fl:List aI)(v:Int):Int:=
 if v<1 then 16 else if 3<v then 16 else
 if bM b.kind v=[]then 15 else
 if iG.all (λn=>AB (bM b.kind v) n ||tY b n)=false then 26 else
 if pV b (bM b.kind v)≠0 then pV b (bM b.kind v)else
 if Gy b≠0 then Gy b else L9 (bM b.kind v) fl
theorem aum:∀n∈iG,placeOf n≠none:=by decide
theorem agb(k v:Int):∀s∈bM k v,placeOf s.name≠none:=by
 have key:∀s∈xJ k,placeOf s.name≠none:=by
  unfold xJ;repeat' split
  all_goals first|(unfold sp1;decide)|(unfold sp2;decide)|(unfold DN;decide)|(unfold DR;decide)|(unfold DT;decide)|(unfold DU;decide)|(unfold DV;decide)|(unfold DW;decide)|(intro s hs;cases hs)
 intro s hs;exact key s (JJ.1 hs).1
theorem EZ(k v:Int):(bM k v).length<=8:=jD (WJ _ _) (azp k)
set_option maxHeartbeats 4000000 in
theorem ZC(b:aT)(fl:List aI)(v:Int)(hb:sH b)(hf:∀r∈b.t,iF r.1=true)(hok:dS fl)(hlen:fl.length<=1000000):TT.lim 64 [iq b (aG fl),.i .i64 v]=some [.i .i64 (jg b fl v)]:=by
 have hk:=Zg b.kind;refine aP rfl rfl ?_ rfl;unfold jg;by_cases v1:v<1
 ·simp[v1]
 by_cases v3:3<v
 ·simp[v1,v3]
 rw[ah v1,ah v3];have hnil:=aga b.kind v (by omega) (by omega);by_cases k0:qU b.kind=0
 ·rw[aj (hnil.2 (.inl k0))];rw[k0]at hk;simp[v1,v3,hk]
 by_cases k1:v<qU b.kind
 ·rw[aj (hnil.2 (.inr k1))];simp[v1,v3,hk,k0,k1]
 rw[ah (λe=>(hnil.1 e).elim k0 k1)];have hkn:=Um b.kind v (by omega) (by omega) (by omega);have hpl:=agb b.kind v;have hl8:=EZ b.kind v;clear hnil;generalize bM b.kind v=sp at *;have hnm:=agX;have h0:=agL b (aG fl) sp (by omega) sp.length 0 [] (by omega);have h1:=agM b (aG fl) (.l (sp.map fG)) iG (by decide) aum (zo [] sp) iG.length 0 (by omega);have h2:=agN b (aG fl) hb hf sp (by omega) hpl sp.length 0 (by omega);have h3:=agO sp (by omega) fl hlen fl.length 0 (by omega);have h4:=SQ fl hok hlen;rw[dD]at h0 h1 h2 h3;simp only[atx]at h1;have hnl:(iG.map GV.s).length=iG.length:=fE _;have hfl:=nX fl;rw[<-hfl]at h3;generalize hX:zo [] sp=ps at *;have h0':TT.lim 76 [.l (sp.map fG),.i .i64 sp.length,.i .i64 0,.l [],.i .i64 b.kind,.i .u64 b.id,.i .u64 b.min,.i .u64 b.max,.i .u64 b.chosen,.i .u64 b.flags,.i .u64 b.cost,.i .u64 b.priority,.i .u64 b.deadline,.i .u64 b.retry,.i .u64 b.epoch,.i .u64 b.base,.i .u64 b.digest,.i .u64 b.lag,.i .u64 b.code,.i .u64 b.want,.i .i64 b.remaining,.b b.allowed,.s b.name,.s b.region,.s b.note,.l (b.d.map ent),.l (b.t.map row),.l (aG fl)]=some [.i .i64 0,.l (uN ps)]:=h0;clear h0;have h1':TT.lim 78 [.l (sp.map fG),.l (iG.map .s),.i .i64 iG.length,.i .i64 0,.l (uN ps),.i .i64 b.kind,.i .u64 b.id,.i .u64 b.min,.i .u64 b.max,.i .u64 b.chosen,.i .u64 b.flags,.i .u64 b.cost,.i .u64 b.priority,.i .u64 b.deadline,.i .u64 b.retry,.i .u64 b.epoch,.i .u64 b.base,.i .u64 b.digest,.i .u64 b.lag,.i .u64 b.code,.i .u64 b.want,.i .i64 b.remaining,.b b.allowed,.s b.name,.s b.region,.s b.note,.l (b.d.map ent),.l (b.t.map row),.l (aG fl)]=_:=h1;clear h1;have h2':TT.lim 79 [.l (sp.map fG),.i .i64 sp.length,.i .i64 0,.i .i64 b.kind,.i .u64 b.id,.i .u64 b.min,.i .u64 b.max,.i .u64 b.chosen,.i .u64 b.flags,.i .u64 b.cost,.i .u64 b.priority,.i .u64 b.deadline,.i .u64 b.retry,.i .u64 b.epoch,.i .u64 b.base,.i .u64 b.digest,.i .u64 b.lag,.i .u64 b.code,.i .u64 b.want,.i .i64 b.remaining,.b b.allowed,.s b.name,.s b.region,.s b.note,.l (b.d.map ent),.l (b.t.map row),.l (aG fl)]=_:=h2;clear h2;have h3':TT.lim 106 [.l (sp.map fG),.l (aG fl),.i .i64 (aG fl).length,.i .i64 0]=_:=h3;clear h3;have hr:L9 sp fl=if jF 0 0 fl≠0 then jF 0 0 fl else if fl.any (λf=>hasTag sp f.tag)=true then 14 else 0:=rfl
 generalize(iG.all λn=>AB sp n ||tY b n)=A at *;generalize pV b sp=M at *;generalize jF 0 0 fl=Fx at *;generalize(fl.any λf=>hasTag sp f.tag)=W at *;generalize L9 sp fl=R at *;generalize iG=NL at *;have aCP:∀(x:GV),True:=λ_=>trivial;cases A with
 |false=>simp only[iO,if_false]at h1';simp[v1,v3,hk,k0,k1,hkn,hnm,h0',h1']
 |true=>
 simp only[if_true]at h1';by_cases hM:M=0;rotate_left
 ·rw[ah hM]at h2';simp[v1,v3,hk,k0,k1,hkn,hnm,h0',h1',h2',hM]
 rw[aj hM]at h2';rw[ah (by simp),ah (by simp[hM])];clear hM;have key:∀(c:Int),Gy b=c->c≠0->True:=λ_ _ _=>trivial;unfold Gy;by_cases e1:b.kind=1
 ·have e1:=eq_true e1;by_cases c1:b.min<1
  ·simp[v1,v3,hk,k0,k1,hkn,hnm,h0',h1',h2',e1,c1]
  by_cases c2:b.max<b.min
  ·simp[v1,v3,hk,k0,k1,hkn,hnm,h0',h1',h2',e1,c1,c2]
  by_cases c3:255<b.max
  ·simp[v1,v3,hk,k0,k1,hkn,hnm,h0',h1',h2',e1,c1,c2,c3]
  simp only[e1,c1,c2,c3,if_true,if_false,ne_eq,not_true_eq_false];rw[hr];by_cases hF:Fx=0
  ·subst hF;cases W with
   |true=>simp only[if_true]at h3';simp[v1,v3,hk,k0,k1,hkn,hnm,h0',h1',h2',e1,c1,c2,c3,h4,h3']
   |false=>simp only[iO,if_false]at h3';simp[v1,v3,hk,k0,k1,hkn,hnm,h0',h1',h2',e1,c1,c2,c3,h4,h3']
  ·simp[v1,v3,hk,k0,k1,hkn,hnm,h0',h1',h2',e1,c1,c2,c3,h4,hF]
 by_cases e2:b.kind=2
 ·have e2:=eq_true e2;by_cases c1:b.chosen<1
  ·simp[v1,v3,hk,k0,k1,hkn,hnm,h0',h1',h2',e1,e2,c1]
  by_cases c2:255<b.chosen
  ·simp[v1,v3,hk,k0,k1,hkn,hnm,h0',h1',h2',e1,e2,c1,c2]
  simp only[e1,e2,c1,c2,if_true,if_false,ne_eq,not_true_eq_false];rw[hr];by_cases hF:Fx=0
  ·subst hF;cases W with
   |true=>simp only[if_true]at h3';simp[v1,v3,hk,k0,k1,hkn,hnm,h0',h1',h2',e1,e2,c1,c2,h4,h3']
   |false=>simp only[iO,if_false]at h3';simp[v1,v3,hk,k0,k1,hkn,hnm,h0',h1',h2',e1,e2,c1,c2,h4,h3']
  ·simp[v1,v3,hk,k0,k1,hkn,hnm,h0',h1',h2',e1,e2,c1,c2,h4,hF]
 by_cases e3:b.kind=3
 ·have e3:=eq_true e3;by_cases c1:b.d=[]
  ·have c1:=eq_true c1;simp[v1,v3,hk,k0,k1,hkn,hnm,h0',h1',h2',e1,e2,e3,c1]
  simp only[e1,e2,e3,c1,if_true,if_false,ne_eq,not_true_eq_false];rw[hr];by_cases hF:Fx=0
  ·subst hF;cases W with
   |true=>simp only[if_true]at h3';simp[v1,v3,hk,k0,k1,hkn,hnm,h0',h1',h2',e1,e2,e3,c1,h4,h3']
   |false=>simp only[iO,if_false]at h3';simp[v1,v3,hk,k0,k1,hkn,hnm,h0',h1',h2',e1,e2,e3,c1,h4,h3']
  ·simp[v1,v3,hk,k0,k1,hkn,hnm,h0',h1',h2',e1,e2,e3,c1,h4,hF]
 by_cases e5:b.kind=5
 ·have e5:=eq_true e5;by_cases c1:b.epoch<1
  ·simp[v1,v3,hk,k0,k1,hkn,hnm,h0',h1',h2',e1,e2,e3,e5,c1]
  simp only[e1,e2,e3,e5,c1,if_true,if_false,ne_eq,not_true_eq_false];rw[hr];by_cases hF:Fx=0
  ·subst hF;cases W with
   |true=>simp only[if_true]at h3';simp[v1,v3,hk,k0,k1,hkn,hnm,h0',h1',h2',e1,e2,e3,e5,c1,h4,h3']
   |false=>simp only[iO,if_false]at h3';simp[v1,v3,hk,k0,k1,hkn,hnm,h0',h1',h2',e1,e2,e3,e5,c1,h4,h3']
  ·simp[v1,v3,hk,k0,k1,hkn,hnm,h0',h1',h2',e1,e2,e3,e5,c1,h4,hF]
 by_cases e6:b.kind=6
 ·have e6:=eq_true e6;by_cases c1:b.base<1
  ·simp[v1,v3,hk,k0,k1,hkn,hnm,h0',h1',h2',e1,e2,e3,e5,e6,c1]
  by_cases c2:b.epoch<=b.base
  ·simp[v1,v3,hk,k0,k1,hkn,hnm,h0',h1',h2',e1,e2,e3,e5,e6,c1,c2]
  simp only[e1,e2,e3,e5,e6,c1,c2,if_true,if_false,ne_eq,not_true_eq_false];rw[hr];by_cases hF:Fx=0
  ·subst hF;cases W with
   |true=>simp only[if_true]at h3';simp[v1,v3,hk,k0,k1,hkn,hnm,h0',h1',h2',e1,e2,e3,e5,e6,c1,c2,h4,h3']
   |false=>simp only[iO,if_false]at h3';simp[v1,v3,hk,k0,k1,hkn,hnm,h0',h1',h2',e1,e2,e3,e5,e6,c1,c2,h4,h3']
  ·simp[v1,v3,hk,k0,k1,hkn,hnm,h0',h1',h2',e1,e2,e3,e5,e6,c1,c2,h4,hF]
 simp only[e1,e2,e3,e5,e6,if_false,ne_eq,not_true_eq_false];rw[hr];by_cases hF:Fx=0
 ·subst hF;cases W with
  |true=>simp only[if_true]at h3';simp[v1,v3,hk,k0,k1,hkn,hnm,h0',h1',h2',e1,e2,e3,e5,e6,h4,h3']
  |false=>simp only[iO,if_false]at h3';simp[v1,v3,hk,k0,k1,hkn,hnm,h0',h1',h2',e1,e2,e3,e5,e6,h4,h3']
 ·simp[v1,v3,hk,k0,k1,hkn,hnm,h0',h1',h2',e1,e2,e3,e5,e6,h4,hF]
def abB(n:Q0):Int:=match placeOf n with
 |some p=>aAJ p
 |none=>-1
theorem asL(k v:Int):∀s∈bM k v,placeOf s.name≠none/\s.use=abB s.name:=by
 have key:∀s∈xJ k,placeOf s.name≠none/\s.use=abB s.name:=by
  unfold xJ;repeat' split
  all_goals first|(unfold sp1;decide)|(unfold sp2;decide)|(unfold DN;decide)|(unfold DR;decide)|(unfold DT;decide)|(unfold DU;decide)|(unfold DV;decide)|(unfold DW;decide)|(intro s hs;cases hs)
 intro s hs;exact key s (JJ.1 hs).1
theorem aBl(x:Int)(h0: -9223372036854775808<=x)(h1:x<=9223372036854775807):∃u w:Int,IntKind.u64.wrap x=u/\IntKind.u64.wrap (x.fdiv (2^63))=w/\bQ .xor .u64 (IntKind.u64.wrap (u*2^1)) w=some (.i .u64 (zz x)):=by
 have wr:∀y:Int,IntKind.u64.wrap y=y%18446744073709551616:=λy=>by simp[IntKind.wrap,IntKind.signed,IntKind.bits]
 refine⟨_,_,rfl,rfl,?_⟩;rw[wr,wr,wr];unfold zz;have hb:IntKind.u64.bits=64:=rfl;by_cases h:0<=x
 ·have e1:x.fdiv (2^63)=0:=by rw[Ea _ (by decide)];exact Int.ediv_eq_zero_of_lt h (by omega)
  rw[e1,aj h];have e2:x%18446744073709551616*2^1%18446744073709551616=2*x:=by omega
  rw[e2];simp only[bQ,wr,hb];have e3:(BitVec.ofInt 64 (2*x) ^^^ BitVec.ofInt 64 (0%18446744073709551616))=BitVec.ofInt 64 (2*x):=by have:BitVec.ofInt 64 (0%18446744073709551616)=0#64:=rfl;rw[this,BitVec.xor_zero]
  show some (GV.i IntKind.u64 (((BitVec.ofInt 64 (2*x) ^^^ BitVec.ofInt 64 (0%18446744073709551616)).toNat:Int)%18446744073709551616))=_
  rw[e3,sJ];congr 2;omega
 ·have e1:x.fdiv (2^63) = -1:=by rw[Ea _ (by decide)];omega
  rw[e1,ah h];have e2:x%18446744073709551616*2^1%18446744073709551616=2*x+18446744073709551616:=by omega
  rw[e2];simp only[bQ,wr,hb];have e3:(BitVec.ofInt 64 (2*x+18446744073709551616) ^^^ BitVec.ofInt 64 (-1%18446744073709551616)) = ~~~ BitVec.ofInt 64 (2*x+18446744073709551616):=by
   have:BitVec.ofInt 64 (-1%18446744073709551616)=BitVec.allOnes 64:=by decide
   rw[this,abV]
  show some (GV.i IntKind.u64 (((BitVec.ofInt 64 (2*x+18446744073709551616) ^^^ BitVec.ofInt 64 (-1%18446744073709551616)).toNat:Int)%18446744073709551616))=_
  rw[e3,abT,sJ];congr 2;omega
def acJ(b:aT)(r:Q1)(n:Q0)(p:Pl):Prop:=TT.lim 109 [iq b r,.s n]=some [.g [.i .u64 0,.i .i64 (fH p),.i .u64 (dw b p).1,.s (dw b p).2,.l []],.b true]
set_option maxHeartbeats 4000000 in
theorem aud(b:aT)(r:Q1)(hb:sH b){n:Q0}{p:Pl}(hd:p=.d->iF b.d=true)(hf:p=.t->wV b.t)(hp:placeOf n=some p):acJ b r n p:=by
 have hI:=Uc hp;have hk:=(LV n p hp).2.1;unfold acJ;clear hp;induction p,hk using LQ
 case h0=>obtain⟨u,w,h1,h2,h3⟩:=aBl b.remaining hb.remaining.1 hb.remaining.2;have h2:IntKind.u64.wrap (b.remaining.fdiv 9223372036854775808)=w:=h2;have h3:bQ .xor .u64 (IntKind.u64.wrap (u*2)) w=some (.i .u64 (zz b.remaining)):=h3;refine aP rfl rfl ?_ rfl;simp[hI,jB,h1,h2,h3,IntKind.bits,fH,dw]
 case h1=>refine aP rfl rfl ?_ rfl;cases hc:b.allowed<;>simp[hI,fH,dw,hc]
 case h5=>
  have hk:=AO b.d (hd rfl);refine aP rfl rfl ?_ rfl;by_cases e:b.d=[]
  ·have e':=eq_true e;simp[hI,fH,dw,e']
  ·simp[hI,fH,dw,e,hk]
 case h6=>
  have hk:=asN b.t hb.t (hf rfl);refine aP rfl rfl ?_ rfl;by_cases e:b.t=[]
  ·have e':=eq_true e;simp[hI,fH,dw,e']
  ·simp[hI,fH,dw,e,hk]
 all_goals
  refine aP rfl rfl ?_ rfl;simp[hI,fH,dw,Fq]
theorem aug(b:aT)(r:Q1){n:Q0}(hp:placeOf n=none):TT.lim 109 [iq b r,.s n]=some [.g [.i .u64 0,.i .i64 0,.i .u64 0,.s [],.l []],.b false]:=by have hI:=afW hp;refine aP rfl rfl ?_ rfl;simp[hI]
