/- What the trees compute: plain laws. -/
import Derived.Test.YtjglbndncdkhhaaGreatDoorKUe1
namespace Go.Proofs.YtjglbndncdkhhaaGreatDoor
open Go Go.aN
set_option linter.unusedSimpArgs false
set_option linter.unusedVariables false
set_option maxRecDepth 100000
namespace U
/-- A text that stands next: the text, how many bytes it took, the code. -/
def dN (s:List UInt8):List UInt8×Nat×Int:=
 if (au s).2.2≠0 then ([],0,(au s).2.2) else
 if s.length - (au s).2.1 < (au s).1 then ([],0,1) else
 ((s.drop (au s).2.1).take (au s).1,(au s).2.1+(au s).1,0)
theorem QZ {s:List UInt8} (h:(dN s).2.2=0):1<=(dN s).2.1/\(dN s).2.1<=s.length/\(dN s).1.length<=s.length:=by
 unfold dN at h ⊢;by_cases h1:(au s).2.2=0;rotate_left
 ·rw [aj h1] at h
  exact absurd h h1
 rw [ah (λe=>e h1)] at h ⊢;obtain ⟨v1,v2,v3,v4,v5⟩:=jD h1;by_cases h2:s.length - (au s).2.1 < (au s).1
 ·rw [aj h2] at h;cases h
 rw [ah h2];simp only [lX,dX];omega
theorem aen (t:List UInt8) (at':Nat) (h:at'<=t.length) (ht:t.length<=100000000) :
 ∃at2:Nat,TT.lim 121 [.s t,.i .i64 at']=some [.i .i64 0,.s (dN (t.drop at')).1,.i .i64 (dN (t.drop at')).2.2,.s t,.i .i64 at2]/\((dN (t.drop at')).2.2=0->at2=at'+(dN (t.drop at')).2.1):=by
 have k1:=yU t at' h (by omega);unfold dN;by_cases he:(au (t.drop at')).2.2=0;rotate_left
 ·obtain ⟨e1,e2⟩:=EP he
  rw [e1,e2] at k1;rw [aj he];generalize (au (t.drop at')).2.2=e at *;refine ⟨at',aG rfl rfl ?_,λh=>absurd h he⟩;simp [k1,he]
 obtain ⟨v1,v2,v3,v4,_⟩:=jD he;rw [ah (λe=>e he)];rw [he] at k1;rw [dX] at v3 ⊢;rw [nS];generalize (au (t.drop at')).1=n at *;generalize (au (t.drop at')).2.1=i at *;have w1:=wrap64 (n:=(t.length:Int) - ((at':Int)+(i:Int))) (by omega) (by omega);have w2:=kE (n:=(t.length:Int) - ((at':Int)+(i:Int))) (by omega) (by omega);simp only [AA] at k1;by_cases c1:t.length - at' - i < n
 ·have c1':(t.length:Int) - ((at':Int)+(i:Int)) < (n:Int):=by omega
  rw [aj c1];refine ⟨at'+i,aG rfl rfl ?_,λh=>by cases h⟩;simp [k1,w1,w2,c1']
 ·have c1':¬ (t.length:Int) - ((at':Int)+(i:Int)) < (n:Int):=by omega
  rw [ah c1];have w3:=wrap64 (n:=(n:Int)) (by omega) (by omega);have w4:=wrap64 (n:=(at':Int)+(i:Int)+(n:Int)) (by omega) (by omega);have ts:((t.take (at'+i+n)).drop (at'+i))=(t.drop (at'+i)).take n:=by
   rw [Fa];congr 1;omega
  have c2:(at':Int)+(i:Int)<=(at':Int)+(i:Int)+(n:Int)/\(at':Int)+(i:Int)+(n:Int)<=t.length:=by omega
  have c3:(0:Int)<=(at':Int)+(i:Int):=by omega
  have t1:((at':Int)+(i:Int)+(n:Int)).toNat=at'+i+n:=by omega
  have t2:((at':Int)+(i:Int)).toNat=at'+i:=by omega
  generalize (t.drop (at'+i)).take n=X at *;refine ⟨at'+i+n,aG rfl rfl ?_,λ_=>by simp only;omega⟩;simp [k1,w1,w2,w3,w4,c1',c2,c3,t1,t2,ts]
/-- An entry that stands next. -/
def bZ (s:List UInt8):dw×Nat×Int:=
 if (dN s).2.2≠0 then (([],[]),0,(dN s).2.2) else
 if (dN (s.drop (dN s).2.1)).2.2≠0 then (([],[]),0,(dN (s.drop (dN s).2.1)).2.2) else
 if oI ((dN s).1,(dN (s.drop (dN s).2.1)).1)≠0 then (([],[]),0,oI ((dN s).1,(dN (s.drop (dN s).2.1)).1)) else
 (((dN s).1,(dN (s.drop (dN s).2.1)).1),(dN s).2.1+(dN (s.drop (dN s).2.1)).2.1,0)
theorem Ob {s:List UInt8} (h:(bZ s).2.2=0):2<=(bZ s).2.1/\(bZ s).2.1<=s.length/\oI (bZ s).1=0/\(bZ s).1.1.length<=s.length/\(bZ s).1.2.length<=s.length/\
 (dN s).2.2=0/\(dN (s.drop (dN s).2.1)).2.2=0/\(bZ s).1=((dN s).1,(dN (s.drop (dN s).2.1)).1)/\(bZ s).2.1=(dN s).2.1+(dN (s.drop (dN s).2.1)).2.1:=by
 unfold bZ at h ⊢;by_cases h1:(dN s).2.2=0;rotate_left
 ·rw [aj h1] at h;exact absurd h h1
 rw [ah (λe=>e h1)] at h ⊢;by_cases h2:(dN (s.drop (dN s).2.1)).2.2=0;rotate_left
 ·rw [aj h2] at h;exact absurd h h2
 rw [ah (λe=>e h2)] at h ⊢;by_cases h3:oI ((dN s).1,(dN (s.drop (dN s).2.1)).1)=0;rotate_left
 ·rw [aj h3] at h;exact absurd h h3
 rw [ah (λe=>e h3)];obtain ⟨a1,a2,a3⟩:=QZ h1;obtain ⟨b1,b2,b3⟩:=QZ h2;rw [dX] at b2 b3;exact ⟨by simp only;omega,by simp only;omega,h3,a3,by simp only;omega,h1,h2,rfl,rfl⟩
theorem ahD (t:List UInt8) (at':Nat) (h:at'<=t.length) (ht:t.length<=100000000) :
 ∃at2:Nat,TT.lim 120 [.s t,.i .i64 at']=some [.i .i64 0,.s (bZ (t.drop at')).1.1,.s (bZ (t.drop at')).1.2,.i .i64 (bZ (t.drop at')).2.2,.s t,.i .i64 at2]/\((bZ (t.drop at')).2.2=0->at2=at'+(bZ (t.drop at')).2.1):=by
 obtain ⟨p,k1,e1⟩:=aen t at' h ht;unfold bZ;by_cases h1:(dN (t.drop at')).2.2=0;rotate_left
 ·rw [aj h1]
  generalize dN (t.drop at')=A at *;refine ⟨p,aG rfl rfl ?_,λh=>absurd h h1⟩;simp [k1,h1]
 have e1:=e1 h1;obtain ⟨a1,a2,a3⟩:=QZ h1;rw [dX] at a2 a3;have hdd:(t.drop at').drop (dN (t.drop at')).2.1=t.drop p:=by rw [nS,e1]
 obtain ⟨q,k2,e2⟩:=aen t p (by omega) ht;rw [ah (λe=>e h1),hdd];rw [h1] at k1;by_cases h2:(dN (t.drop p)).2.2=0;rotate_left
 ·rw [aj h2]
  generalize dN (t.drop at')=A at *;generalize dN (t.drop p)=B at *;refine ⟨q,aG rfl rfl ?_,λh=>absurd h h2⟩;simp [k1,k2,h2]
 have e2:=e2 h2;obtain ⟨b1,b2,b3⟩:=QZ h2;rw [dX] at b2 b3;rw [ah (λe=>e h2)];rw [h2] at k2;have kc:=aaw ((dN (t.drop at')).1,(dN (t.drop p)).1) (by simp only;omega) (by simp only;omega);have U5:TT.lim 22 [.g [.s (dN (t.drop at')).1,.s (dN (t.drop p)).1]]=_:=kc;generalize dN (t.drop at')=A at *;generalize dN (t.drop p)=B at *;by_cases h3:oI (A.1,B.1)=0;rotate_left
 ·rw [aj h3]
  refine ⟨q,aG rfl rfl ?_,λh=>absurd h h3⟩;generalize oI (A.1,B.1)=E at *;simp [k1,k2,U5,h3]
 ·rw [ah (λe=>e h3)]
  rw [h3] at U5;refine ⟨q,aG rfl rfl ?_,λ_=>by simp only;omega⟩;simp [k1,k2,U5]
def wS (p:Option dw) (x:dw):Int:=match p with
 | none=>0
 | some k=>vO k.1 x.1
/-- Entries by rising keys: what is read, how many bytes it took, the code. -/
def eX:Nat->Option dw->List UInt8->List dw×Nat×Int
 | 0,_,_=>([],0,0)
 | m+1,p,s=>if (bZ s).2.2≠0 then ([],0,(bZ s).2.2) else
   if wS p (bZ s).1≠0 then ([],0,wS p (bZ s).1) else
   if (eX m (some (bZ s).1) (s.drop (bZ s).2.1)).2.2≠0 then ([],0,(eX m (some (bZ s).1) (s.drop (bZ s).2.1)).2.2) else
   ((bZ s).1::(eX m (some (bZ s).1) (s.drop (bZ s).2.1)).1,(bZ s).2.1+(eX m (some (bZ s).1) (s.drop (bZ s).2.1)).2.1,0)
theorem N7 (m:Nat) (p:Option dw) (s:List UInt8):eX (m+1) p s=if (bZ s).2.2≠0 then ([],0,(bZ s).2.2) else
 if wS p (bZ s).1≠0 then ([],0,wS p (bZ s).1) else
 if (eX m (some (bZ s).1) (s.drop (bZ s).2.1)).2.2≠0 then ([],0,(eX m (some (bZ s).1) (s.drop (bZ s).2.1)).2.2) else
 ((bZ s).1::(eX m (some (bZ s).1) (s.drop (bZ s).2.1)).1,(bZ s).2.1+(eX m (some (bZ s).1) (s.drop (bZ s).2.1)).2.1,0):=rfl
def yH (acc:List dw) (t:List UInt8) (at2:Nat) (r:List dw×Nat×Int):List GV:=if r.2.2≠0 then [.i .i64 0,.i .i64 r.2.2,.s t,.i .i64 at2] else [.i .i64 1,.l ((acc++r.1).map ent),.s t,.i .i64 at2]
theorem ahz (L:List GV) (n i at' at2:Int) (t:List UInt8) (x:dw) (e:Int) (h:i < n) (he:¬ e=0)
 (k:TT.lim 120 [.s t,.i .i64 at']=some [.i .i64 0,.s x.1,.s x.2,.i .i64 e,.s t,.i .i64 at2]) :
 TT.lim 119 [.l L,.i .i64 n,.i .i64 i,.s t,.i .i64 at']=some [.i .i64 0,.i .i64 e,.s t,.i .i64 at2]:=by
 refine aG rfl rfl ?_;simp [h,k,he]
theorem ahx (L:List GV) (n at' at2:Int) (t:List UInt8) (x:dw) (R:List GV) (h:0 < n) (hb:2 * (L.length+1) * 32<=281474976710656/\L.length+1<=281474976710656)
 (k:TT.lim 120 [.s t,.i .i64 at']=some [.i .i64 0,.s x.1,.s x.2,.i .i64 0,.s t,.i .i64 at2])
 (ih:TT.lim 119 [.l (L++[ent x]),.i .i64 n,.i .i64 1,.s t,.i .i64 at2]=some R) :
 TT.lim 119 [.l L,.i .i64 n,.i .i64 0,.s t,.i .i64 at']=some R:=by
 have he:GV.g [.s x.1,.s x.2]=ent x:=rfl;have w1:=wrap64 (n:=1) (by omega) (by omega);refine aG rfl rfl ?_;simp [h,k,he,GV.fO,hb,w1,ih]
theorem ahy (L:List GV) (n:Int) (i:Nat) (at' at2:Int) (t:List UInt8) (p x:dw) (h:(i:Int)+1 < n) (hi:i+1<=100000000) (hl:L.length=i+1) (hg:L[i]? = some (ent p)) (hb:¬ vO p.1 x.1=0)
 (k:TT.lim 120 [.s t,.i .i64 at']=some [.i .i64 0,.s x.1,.s x.2,.i .i64 0,.s t,.i .i64 at2]) :
 TT.lim 119 [.l L,.i .i64 n,.i .i64 ((i:Int)+1),.s t,.i .i64 at']=some [.i .i64 0,.i .i64 (vO p.1 x.1),.s t,.i .i64 at2]:=by
 have h0:(0:Int) < (i:Int)+1:=by omega
 have hii:(i:Int) < (i:Int)+1:=by omega
 have w:=wrap64 (n:=(i:Int)) (by omega) (by omega);have hgi:L[i]'(by omega)=ent p:=by have:=hg;rw [bP (by omega)] at this;exact C9 this
 unfold vO at hb ⊢;by_cases e1:x.1=p.1
 ·have e1':(x.1=p.1)=True:=eq_true e1
  clear e1;refine aG rfl rfl ?_;simp [h,k,h0,hii,w,hl,hg,hgi,e1']
 ·by_cases e2:Op.bytesLess x.1 p.1=true
  ·refine aG rfl rfl ?_
   simp [h,k,h0,hii,w,hl,hg,hgi,e1,e2]
  ·simp [e1,e2] at hb
theorem ahA (L:List GV) (n:Int) (i:Nat) (at' at2:Int) (t:List UInt8) (p x:dw) (R:List GV) (h:(i:Int)+1 < n) (hi:i+1<=100000000) (hl:(i:Int) < L.length) (hl2:L.length<=100000000) (hg:L[i]? = some (ent p)) (hb:vO p.1 x.1=0)
 (k:TT.lim 120 [.s t,.i .i64 at']=some [.i .i64 0,.s x.1,.s x.2,.i .i64 0,.s t,.i .i64 at2])
 (ih:TT.lim 119 [.l (L++[ent x]),.i .i64 n,.i .i64 ((i:Int)+1+1),.s t,.i .i64 at2]=some R) :
 TT.lim 119 [.l L,.i .i64 n,.i .i64 ((i:Int)+1),.s t,.i .i64 at']=some R:=by
 have h0:(0:Int) < (i:Int)+1:=by omega
 have hii:(i:Int) < (i:Int)+1:=by omega
 have w:=wrap64 (n:=(i:Int)) (by omega) (by omega);have w2:=wrap64 (n:=(i:Int)+1+1) (by omega) (by omega);have hl3:i < L.length:=by omega
 have hgi:L[i]=ent p:=by have:=hg;rw [bP hl3] at this;exact C9 this
 have he:GV.g [.s x.1,.s x.2]=ent x:=rfl;have hbb:2 * (L.length+1) * 32<=281474976710656/\L.length+1<=281474976710656:=by omega
 unfold vO at hb;have e1:¬ x.1=p.1:=by intro e;rw [aj e] at hb;exact absurd hb (by decide)
 rw [ah e1] at hb;have e2:¬ Op.bytesLess x.1 p.1=true:=by intro e;rw [aj e] at hb;exact absurd hb (by decide)
 have e2:Op.bytesLess x.1 p.1=false:=by simpa using e2
 refine aG rfl rfl ?_;simp [h,k,h0,hii,w,w2,hl,hl3,hg,hgi,e1,e2,he,GV.fO,hbb,ih]
/-- What is ahead. -/
def akc (acc:List dw) (p:Option dw):Prop:=(acc=[]/\p=none)\/∃a x,acc=a++[x]/\p=some x
theorem aak (t:List UInt8) (ht:t.length<=100000000) (n:Nat) (hn:n<=1000):∀ (m:Nat) (acc:List dw) (p:Option dw) (at':Nat),acc.length+m=n->akc acc p->at'<=t.length->
 ∃at2:Nat,TT.lim 119 [.l (acc.map ent),.i .i64 n,.i .i64 acc.length,.s t,.i .i64 at']=some (yH acc t at2 (eX m p (t.drop at')))/\((eX m p (t.drop at')).2.2=0->at2=at'+(eX m p (t.drop at')).2.1)
 | 0,acc,p,at',hi,hp,h=>by
   have hlt:¬ ((acc.length:Int) < (n:Int)):=by omega
   refine ⟨at', ?_,λ_=>by simp [eX]⟩;have hl:(acc.map ent).length=acc.length:=by simp
   unfold eX yH;simp only [ne_eq,not_true_eq_false,if_false,kK];generalize acc.map ent=L at *;refine aG rfl rfl ?_;simp [hlt]
 | m+1,acc,p,at',hi,hp,h=>by
   obtain ⟨at2,k,e2⟩:=ahD t at' h ht;rw [N7];by_cases h1:(bZ (t.drop at')).2.2=0;rotate_left
   ·rw [aj h1]
    refine ⟨at2, ?_,λh=>absurd h h1⟩;have:yH acc t at2 ([],0,(bZ (t.drop at')).2.2)=[.i .i64 0,.i .i64 (bZ (t.drop at')).2.2,.s t,.i .i64 at2]:=by unfold yH;rw [aj h1]
    rw [this];exact ahz _ _ _ _ _ _ _ _ (by omega) h1 k
   rw [ah (λe=>e h1)];rw [h1] at k;have e2:=e2 h1;obtain ⟨a1,a2,_⟩:=Ob h1;rw [dX] at a2;have hdd:(t.drop at').drop (bZ (t.drop at')).2.1=t.drop at2:=by rw [nS,e2]
   rw [hdd];have hat:at2<=t.length:=by omega
   generalize hX:(bZ (t.drop at')).1=x at *;obtain ⟨at3,ih,e3⟩:=aak t ht n hn m (acc++[x]) (some x) at2 (by rw [dH,xM];omega) (.inr ⟨acc,x,rfl,rfl⟩) hat;have hout:yH acc t at3 (if (eX m (some x) (t.drop at2)).2.2≠0 then ([],0,(eX m (some x) (t.drop at2)).2.2) else (x::(eX m (some x) (t.drop at2)).1,(bZ (t.drop at')).2.1+(eX m (some x) (t.drop at2)).2.1,0))=yH (acc++[x]) t at3 (eX m (some x) (t.drop at2)):=by
    unfold yH;by_cases hq:(eX m (some x) (t.drop at2)).2.2=0
    ·simp [hq]
    ·simp [hq]
   have hfin:((if (eX m (some x) (t.drop at2)).2.2≠0 then (([]:List dw),0,(eX m (some x) (t.drop at2)).2.2) else (x::(eX m (some x) (t.drop at2)).1,(bZ (t.drop at')).2.1+(eX m (some x) (t.drop at2)).2.1,0)).2.2=0->at3=at'+(if (eX m (some x) (t.drop at2)).2.2≠0 then (([]:List dw),0,(eX m (some x) (t.drop at2)).2.2) else (x::(eX m (some x) (t.drop at2)).1,(bZ (t.drop at')).2.1+(eX m (some x) (t.drop at2)).2.1,0)).2.1):=by
    by_cases hq:(eX m (some x) (t.drop at2)).2.2=0
    ·rw [ah (λe=>e hq)]
     intro _;have:=e3 hq;simp only;omega
    ·rw [aj hq]
     intro h;exact absurd h hq
   rw [sD] at ih;rcases hp with ⟨rfl,rfl⟩ | ⟨a,y,rfl,rfl⟩
   ·have hb0:wS none x=0:=rfl
    rw [hb0,ah (by simp)];refine ⟨at3, ?_,hfin⟩;rw [hout];exact ahx [] n at' at2 t x _ (by simp at hi;omega) (by simp) k ih
   ·by_cases hb:vO y.1 x.1=0
    rotate_left
    ·have hb':wS (some y) x≠0:=hb
     rw [aj hb'];refine ⟨at2, ?_,λh=>absurd h hb⟩;have:yH (a++[y]) t at2 ([],0,wS (some y) x)=[.i .i64 0,.i .i64 (vO y.1 x.1),.s t,.i .i64 at2]:=by unfold yH;rw [aj hb'];rfl
     rw [this];have hl:((a++[y]).length:Int)=(a.length:Int)+1:=by simp
     rw [hl];rw [dH,xM] at hi;exact ahy _ n a.length at' at2 t y x (by omega) (by omega) (by simp) (by simp) hb k
    ·have hb':¬ wS (some y) x≠0:=λe=>e hb
     rw [ah hb'];refine ⟨at3, ?_,hfin⟩;rw [hout];have hl:((a++[y]).length:Int)=(a.length:Int)+1:=by simp
     have hl2:((a++[y]++[x]).length:Int)=(a.length:Int)+1+1:=by simp;omega
     rw [hl];rw [hl2] at ih;rw [dH,xM] at hi;exact ahA _ n a.length at' at2 t y x _ (by omega) (by omega) (by simp;omega) (by simp;omega) (by simp) hb k ih
def yu (e:Int):List dw×Nat×Int:=([],0,e)
/-- A descriptor that stands next. -/
def kP (s:List UInt8):List dw×Nat×Int:=
 if (au s).2.2≠0 then yu (au s).2.2 else
 if (au s).1=0 then yu 12 else
 if 16 < (au s).1 then yu 13 else
 if (eX (au s).1 none (s.drop (au s).2.1)).2.2≠0 then yu (eX (au s).1 none (s.drop (au s).2.1)).2.2 else
 ((eX (au s).1 none (s.drop (au s).2.1)).1,(au s).2.1+(eX (au s).1 none (s.drop (au s).2.1)).2.1,0)
theorem aht (t:List UInt8) (at':Nat) (h:at'<=t.length) (ht:t.length<=100000000) :
 ∃at2:Nat,TT.lim 118 [.s t,.i .i64 at']=some [.i .i64 0,.l ((kP (t.drop at')).1.map ent),.i .i64 (kP (t.drop at')).2.2,.s t,.i .i64 at2]/\((kP (t.drop at')).2.2=0->at2=at'+(kP (t.drop at')).2.1):=by
 have k1:=yU t at' h (by omega);unfold kP;by_cases he:(au (t.drop at')).2.2=0;rotate_left
 ·obtain ⟨e1,e2⟩:=EP he
  rw [e1,e2] at k1;rw [aj he];generalize (au (t.drop at')).2.2=e at *;refine ⟨at',aG rfl rfl ?_,λh=>absurd h he⟩;simp [k1,he,yu]
 obtain ⟨v1,v2,v3,v4,_⟩:=jD he;rw [ah (λe=>e he)];rw [he] at k1;rw [dX] at v3;rw [nS];by_cases h16:16 < (au (t.drop at')).1
 ·have h0:¬ (au (t.drop at')).1=0:=by omega
  have zM:(16:Int) < ((au (t.drop at')).1:Nat):=by omega
  rw [ah h0,aj h16];generalize (au (t.drop at')).1=n at *;generalize (au (t.drop at')).2.1=i at *;refine ⟨at'+i,aG rfl rfl ?_,λh=>by cases h⟩;simp only [AA] at k1;simp [k1,h0,h16,zM,yu]
 obtain ⟨at2,k2,e2⟩:=aak t ht (au (t.drop at')).1 (by omega) (au (t.drop at')).1 [] none (at'+(au (t.drop at')).2.1) (by simp) (.inl ⟨rfl,rfl⟩) (by omega);generalize (au (t.drop at')).1=n at *;generalize (au (t.drop at')).2.1=i at *;by_cases h0:n=0
 ·rw [aj h0]
  have h0':((n:Int)=0)=True:=eq_true (by omega);refine ⟨at'+i,aG rfl rfl ?_,λh=>by cases h⟩;simp only [AA] at k1;simp [k1,h0,h0',yu]
 rw [ah h0,ah h16];have zM:¬ (16:Int) < (n:Int):=by omega
 have w:=wrap64 (n:=(n:Int)) (by omega) (by omega);have hc:(0:Int)<=(n:Int)/\32 * (n:Int)<=281474976710656/\(n:Int)<=1152921504606846976:=by omega
 have k2':TT.lim 119 [.l [],.i .i64 n,.i .i64 0,.s t,.i .i64 ((at':Int)+(i:Int))]=_:=k2;generalize hdl:eX n none (t.drop (at'+i))=r at *;refine ⟨at2,aG rfl rfl ?_,λh=>?_⟩
 ·simp only [AA] at k1
  unfold yH at k2';by_cases hq:r.2.2=0
  ·simp only [hq,ne_eq,not_true_eq_false,if_false,bV] at k2' ⊢
   simp [k1,h0,h16,zM,w,hc,k2',GV.fO]
  ·simp only [hq,ne_eq,not_false_eq_true,if_true] at k2' ⊢
   simp [k1,h0,h16,zM,w,hc,k2',GV.fO,yu]
 ·by_cases hq:r.2.2=0
  ·rw [ah (λe=>e hq)]
   have:=e2 hq;simp only;omega
  ·rw [aj hq] at h
   exact absurd h hq
/-- A whole text, as a descriptor. -/
def lQ (s:List UInt8):List dw×Int:=
 if (kP s).2.2≠0 then ([],(kP s).2.2) else if (kP s).2.1 < s.length then ([],10) else ((kP s).1,0)
theorem TF:∀ (m:Nat) (p:Option dw) (s:List UInt8),(eX m p s).2.2=0->(eX m p s).2.1<=s.length/\(eX m p s).1.length=m/\∀x∈(eX m p s).1,oI x=0/\x.1.length<=s.length/\x.2.length<=s.length
 | 0,p,s,_=>by simp [eX]
 | m+1,p,s,h=>by
   rw [N7] at h ⊢;by_cases h1:(bZ s).2.2=0;rotate_left
   ·rw [aj h1] at h;exact absurd h h1
   rw [ah (λe=>e h1)] at h ⊢;by_cases h2:wS p (bZ s).1=0;rotate_left
   ·rw [aj h2] at h;exact absurd h h2
   rw [ah (λe=>e h2)] at h ⊢;by_cases h3:(eX m (some (bZ s).1) (s.drop (bZ s).2.1)).2.2=0;rotate_left
   ·rw [aj h3] at h;exact absurd h h3
   rw [ah (λe=>e h3)];obtain ⟨a1,a2,a3,a4,a5,_⟩:=Ob h1;obtain ⟨b1,b2,b3⟩:=TF m (some (bZ s).1) _ h3;rw [dX] at b1;refine ⟨by simp only;omega,by simp [b2],λx hx=>?_⟩;rcases bU.1 hx with rfl | hx
   ·exact ⟨a3,a4,a5⟩
   ·obtain ⟨c1,c2,c3⟩:=b3 x hx
    rw [dX] at c2 c3;exact ⟨c1,by omega,by omega⟩
theorem aan {s:List UInt8} (h:(kP s).2.2=0):(au s).2.2=0/\0 < (au s).1/\(au s).1<=16/\(eX (au s).1 none (s.drop (au s).2.1)).2.2=0/\(kP s).1=(eX (au s).1 none (s.drop (au s).2.1)).1/\
 (kP s).2.1=(au s).2.1+(eX (au s).1 none (s.drop (au s).2.1)).2.1/\(kP s).2.1<=s.length:=by
 unfold kP at h ⊢;by_cases h1:(au s).2.2=0;rotate_left
 ·rw [aj h1] at h;exact absurd h h1
 rw [ah (λe=>e h1)] at h ⊢;by_cases h2:(au s).1=0
 ·rw [aj h2] at h;exact absurd h (by simp [yu])
 rw [ah h2] at h ⊢;by_cases h3:16 < (au s).1
 ·rw [aj h3] at h;exact absurd h (by simp [yu])
 rw [ah h3] at h ⊢;by_cases h4:(eX (au s).1 none (s.drop (au s).2.1)).2.2=0;rotate_left
 ·rw [aj h4] at h;exact absurd h h4
 rw [ah (λe=>e h4)];obtain ⟨v1,v2,v3,_,_⟩:=jD h1;obtain ⟨d1,_,_⟩:=TF _ _ _ h4;rw [dX] at d1;exact ⟨h1,by omega,by omega,h4,rfl,rfl,by simp only;omega⟩
theorem aao (s:List UInt8) (hs:s.length<=100000000):TT.lim 117 [.s s]=some [.l ((lQ s).1.map ent),.i .i64 (lQ s).2]:=by
 obtain ⟨at2,k,e2⟩:=aht s 0 (by omega) hs;rw [eH,show ((0:Nat):Int)=0 from rfl] at k;rw [eH] at e2;unfold lQ;by_cases h1:(kP s).2.2=0;rotate_left
 ·rw [aj h1]
  generalize kP s=r at *;refine bD rfl rfl ?_ (by rfl);simp [k,h1]
 have e2:=e2 h1;obtain ⟨_,_,_,_,_,_,a7⟩:=aan h1;rw [ah (λe=>e h1)];rw [h1] at k;rw [jk] at e2;have w:=wrap64 (n:=(s.length:Int) - (at2:Int)) (by omega) (by omega);rw [<- e2] at a7 ⊢;generalize kP s=r at *;by_cases h2:at2 < s.length
 ·rw [aj h2]
  refine bD rfl rfl ?_ rfl;simp [k,w,h2]
 ·rw [ah h2]
  refine bD rfl rfl ?_ rfl;simp [k,w,h2]
def Ey (e:Int):Row×Nat×Int:=(([],0),0,e)
/-- The row of a key, whose number stands next. -/
def fK (key s:List UInt8):Row×Nat×Int:=
 if (lQ key).2≠0 then Ey (lQ key).2 else
 if (au s).2.2≠0 then Ey (au s).2.2 else
 if (au s).1=0 then Ey 17 else (((lQ key).1,((au s).1:Nat)),(au s).2.1,0)
theorem Xe {key s:List UInt8} (h:(fK key s).2.2=0):(lQ key).2=0/\(au s).2.2=0/\(au s).1≠0/\(fK key s).1=((lQ key).1,(((au s).1:Nat):Int))/\(fK key s).2.1=(au s).2.1:=by
 unfold fK at h ⊢;by_cases h1:(lQ key).2=0;rotate_left
 ·rw [aj h1] at h;exact absurd h h1
 rw [ah (λe=>e h1)] at h ⊢;by_cases h2:(au s).2.2=0;rotate_left
 ·rw [aj h2] at h;exact absurd h h2
 rw [ah (λe=>e h2)] at h ⊢;by_cases h3:(au s).1=0
 ·rw [aj h3] at h;exact absurd h (by simp [Ey])
 rw [ah h3];exact ⟨h1,h2,h3,rfl,rfl⟩
theorem rowP (key t:List UInt8) (at':Nat) (h:at'<=t.length) (ht:t.length<=100000000) (hk:key.length<=100000000) :
 ∃at2:Nat,TT.lim 126 [.s key,.s t,.i .i64 at']=some [.i .i64 0,.l ((fK key (t.drop at')).1.1.map ent),.i .u64 (fK key (t.drop at')).1.2,.i .i64 (fK key (t.drop at')).2.2,.s t,.i .i64 at2]/\
  ((fK key (t.drop at')).2.2=0->at2=at'+(fK key (t.drop at')).2.1):=by
 have k1:=aao key hk;have k2:=yU t at' h (by omega);unfold fK;generalize lQ key=D at *;by_cases h1:D.2=0;rotate_left
 ·rw [aj h1]
  refine ⟨at',aG rfl rfl ?_,λh=>absurd h h1⟩;simp [k1,h1,Ey]
 rw [ah (λe=>e h1)];by_cases h2:(au (t.drop at')).2.2=0;rotate_left
 ·obtain ⟨e1,e2⟩:=EP h2
  rw [e1,e2] at k2;rw [aj h2];generalize au (t.drop at')=V at *;refine ⟨at',aG rfl rfl ?_,λh=>absurd h h2⟩;simp [k1,k2,h1,h2,Ey]
 rw [ah (λe=>e h2)];rw [h2] at k2;simp only [AA] at k2;generalize au (t.drop at')=V at *;by_cases h3:V.1=0
 ·rw [aj h3]
  rw [h3] at k2;refine ⟨at'+V.2.1,aG rfl rfl ?_,λh=>by cases h⟩;simp [k1,k2,h1,Ey]
 ·rw [ah h3]
  refine ⟨at'+V.2.1,aG rfl rfl ?_,λ_=>rfl⟩;simp [k1,k2,h1,h3]
/-- Rows, one behind the other. -/
def fP:Nat->List UInt8->Bool->List UInt8->List Row×Nat×Int
 | 0,_,_,_=>([],0,0)
 | m+1,a,first,s=>if (bf s a first).2.2≠0 then ([],0,(bf s a first).2.2) else
   if (fK (bf s a first).1 (s.drop (bf s a first).2.1)).2.2≠0 then ([],0,(fK (bf s a first).1 (s.drop (bf s a first).2.1)).2.2) else
   if (fP m (bf s a first).1 false (s.drop ((bf s a first).2.1+(fK (bf s a first).1 (s.drop (bf s a first).2.1)).2.1))).2.2≠0 then ([],0,(fP m (bf s a first).1 false (s.drop ((bf s a first).2.1+(fK (bf s a first).1 (s.drop (bf s a first).2.1)).2.1))).2.2) else
   ((fK (bf s a first).1 (s.drop (bf s a first).2.1)).1::(fP m (bf s a first).1 false (s.drop ((bf s a first).2.1+(fK (bf s a first).1 (s.drop (bf s a first).2.1)).2.1))).1,
    (bf s a first).2.1+(fK (bf s a first).1 (s.drop (bf s a first).2.1)).2.1+(fP m (bf s a first).1 false (s.drop ((bf s a first).2.1+(fK (bf s a first).1 (s.drop (bf s a first).2.1)).2.1))).2.1,0)
theorem Qd (m:Nat) (a:List UInt8) (first:Bool) (s:List UInt8):fP (m+1) a first s=if (bf s a first).2.2≠0 then ([],0,(bf s a first).2.2) else
 if (fK (bf s a first).1 (s.drop (bf s a first).2.1)).2.2≠0 then ([],0,(fK (bf s a first).1 (s.drop (bf s a first).2.1)).2.2) else
 if (fP m (bf s a first).1 false (s.drop ((bf s a first).2.1+(fK (bf s a first).1 (s.drop (bf s a first).2.1)).2.1))).2.2≠0 then ([],0,(fP m (bf s a first).1 false (s.drop ((bf s a first).2.1+(fK (bf s a first).1 (s.drop (bf s a first).2.1)).2.1))).2.2) else
 ((fK (bf s a first).1 (s.drop (bf s a first).2.1)).1::(fP m (bf s a first).1 false (s.drop ((bf s a first).2.1+(fK (bf s a first).1 (s.drop (bf s a first).2.1)).2.1))).1,
  (bf s a first).2.1+(fK (bf s a first).1 (s.drop (bf s a first).2.1)).2.1+(fP m (bf s a first).1 false (s.drop ((bf s a first).2.1+(fK (bf s a first).1 (s.drop (bf s a first).2.1)).2.1))).2.1,0):=rfl
def yJ (acc:List Row) (t:List UInt8) (at2:Nat) (r:List Row×Nat×Int):List GV:=if r.2.2≠0 then [.i .i64 0,.i .i64 r.2.2,.s t,.i .i64 at2] else [.i .i64 1,.l ((acc++r.1).map row),.s t,.i .i64 at2]
theorem aml (L:List GV) (a t X:List UInt8) (n i at' at2:Int) (first:Bool) (e:Int) (h:i < n) (hf:decide (i=0)=first) (he:¬ e=0)
 (k:TT.lim 125 [.s t,.i .i64 at',.s a,.b first]=some [.i .i64 0,.s X,.i .i64 e,.s t,.i .i64 at2]) :
 TT.lim 124 [.l L,.s a,.i .i64 n,.i .i64 i,.s t,.i .i64 at']=some [.i .i64 0,.i .i64 e,.s t,.i .i64 at2]:=by
 refine aG rfl rfl ?_;simp [h,hf,k,he]
theorem amn (L:List GV) (a t X:List UInt8) (D:List GV) (N:Int) (n i at' at2 at3:Int) (first:Bool) (e:Int) (h:i < n) (hf:decide (i=0)=first) (he:¬ e=0)
 (k:TT.lim 125 [.s t,.i .i64 at',.s a,.b first]=some [.i .i64 0,.s X,.i .i64 0,.s t,.i .i64 at2])
 (k2:TT.lim 126 [.s X,.s t,.i .i64 at2]=some [.i .i64 0,.l D,.i .u64 N,.i .i64 e,.s t,.i .i64 at3]) :
 TT.lim 124 [.l L,.s a,.i .i64 n,.i .i64 i,.s t,.i .i64 at']=some [.i .i64 0,.i .i64 e,.s t,.i .i64 at3]:=by
 refine aG rfl rfl ?_;simp [h,hf,k,k2,he]
theorem amm (L:List GV) (a t X:List UInt8) (D:List GV) (N:Int) (n i at' at2 at3:Int) (first:Bool) (R:List GV) (h:i < n) (hf:decide (i=0)=first) (hw:IntKind.i64.wrap (i+1)=i+1) (hb:L.length<=100000000)
 (k:TT.lim 125 [.s t,.i .i64 at',.s a,.b first]=some [.i .i64 0,.s X,.i .i64 0,.s t,.i .i64 at2])
 (k2:TT.lim 126 [.s X,.s t,.i .i64 at2]=some [.i .i64 0,.l D,.i .u64 N,.i .i64 0,.s t,.i .i64 at3])
 (ih:TT.lim 124 [.l (L++[.g [.l D,.i .u64 N]]),.s X,.i .i64 n,.i .i64 (i+1),.s t,.i .i64 at3]=some R) :
 TT.lim 124 [.l L,.s a,.i .i64 n,.i .i64 i,.s t,.i .i64 at']=some R:=by
 have hbb:2 * (L.length+1) * 32<=281474976710656/\L.length+1<=281474976710656:=by omega
 refine aG rfl rfl ?_;simp [h,hf,k,k2,hw,GV.fO,hbb,ih]
theorem adf (t:List UInt8) (ht:t.length<=100000000) (n:Nat) (hn:n<=1000):∀ (m:Nat) (acc:List Row) (a:List UInt8) (at':Nat),acc.length+m=n->at'<=t.length->a.length<=at'->
 ∃at2:Nat,TT.lim 124 [.l (acc.map row),.s a,.i .i64 n,.i .i64 acc.length,.s t,.i .i64 at']=some (yJ acc t at2 (fP m a (decide ((acc.length:Int)=0)) (t.drop at')))/\
  ((fP m a (decide ((acc.length:Int)=0)) (t.drop at')).2.2=0->at2=at'+(fP m a (decide ((acc.length:Int)=0)) (t.drop at')).2.1)
 | 0,acc,a,at',hi,h,ha=>by
   have hlt:¬ ((acc.length:Int) < (n:Int)):=by omega
   refine ⟨at', ?_,λ_=>by simp [fP]⟩;unfold fP yJ;simp only [ne_eq,not_true_eq_false,if_false,kK];generalize acc.map row=L at *;refine aG rfl rfl ?_;simp [hlt]
 | m+1,acc,a,at',hi,h,ha=>by
   obtain ⟨at2,k,e2⟩:=amg t a (decide ((acc.length:Int)=0)) at' h ht (by omega);rw [Qd];generalize hf:decide ((acc.length:Int)=0)=first at *
   by_cases h1:(bf (t.drop at') a first).2.2=0;rotate_left
   ·rw [aj h1]
    refine ⟨at2, ?_,λh=>absurd h h1⟩;have:yJ acc t at2 ([],0,(bf (t.drop at') a first).2.2)=[.i .i64 0,.i .i64 (bf (t.drop at') a first).2.2,.s t,.i .i64 at2]:=by unfold yJ;rw [aj h1]
    rw [this];exact aml _ _ _ _ _ _ _ _ _ _ (by omega) hf h1 k
   rw [ah (λe=>e h1)];rw [h1] at k;have e2:=e2 h1;obtain ⟨a1,a2,a3⟩:=WZ h1;rw [dX] at a2;have hdd:∀j,(t.drop at').drop ((bf (t.drop at') a first).2.1+j)=t.drop (at2+j):=by intro j;rw [nS,e2,iR]
   have ai2:(t.drop at').drop (bf (t.drop at') a first).2.1=t.drop at2:=by rw [nS,e2]
   have hal:(bf (t.drop at') a first).1.length<=at2:=by split at a3<;>omega
   rw [hdd,ai2];generalize (bf (t.drop at') a first).1=X at *;generalize (bf (t.drop at') a first).2.1=j1 at *;obtain ⟨at3,k2,e3⟩:=rowP X t at2 (by omega) ht (by omega);by_cases h2:(fK X (t.drop at2)).2.2=0;rotate_left
   ·rw [aj h2]
    refine ⟨at3, ?_,λh=>absurd h h2⟩;have:yJ acc t at3 ([],0,(fK X (t.drop at2)).2.2)=[.i .i64 0,.i .i64 (fK X (t.drop at2)).2.2,.s t,.i .i64 at3]:=by unfold yJ;rw [aj h2]
    rw [this];exact amn _ _ _ _ _ _ _ _ _ _ _ _ _ (by omega) hf h2 k k2
   rw [ah (λe=>e h2)];rw [h2] at k2;have e3:=e3 h2;obtain ⟨_,q2,_,_,q5⟩:=Xe h2;obtain ⟨v1,v2,v3,_,_⟩:=jD q2;rw [dX] at v3;have e3':at2+(fK X (t.drop at2)).2.1=at3:=e3.symm;rw [e3'];have hrow:GV.g [.l ((fK X (t.drop at2)).1.1.map ent),.i .u64 (fK X (t.drop at2)).1.2]=row (fK X (t.drop at2)).1:=rfl;obtain ⟨at4,ih,e4⟩:=adf t ht n hn m (acc++[(fK X (t.drop at2)).1]) X at3 (by rw [dH,xM];omega) (by omega) (by omega);have hfalse:decide (((acc++[(fK X (t.drop at2)).1]).length:Int)=0)=false:=by simp;omega
   have hl:((acc++[(fK X (t.drop at2)).1]).length:Int)=(acc.length:Int)+1:=by simp
   rw [hfalse] at ih e4;rw [hl,sD] at ih;generalize (fK X (t.drop at2)).1=Q at *;generalize (fK X (t.drop at2)).2.1=j2 at *;have hout:yJ acc t at4 (if (fP m X false (t.drop at3)).2.2≠0 then ([],0,(fP m X false (t.drop at3)).2.2) else (Q::(fP m X false (t.drop at3)).1,j1+j2+(fP m X false (t.drop at3)).2.1,0))=yJ (acc++[Q]) t at4 (fP m X false (t.drop at3)):=by
    unfold yJ;by_cases hq:(fP m X false (t.drop at3)).2.2=0
    ·simp [hq]
    ·simp [hq]
   refine ⟨at4, ?_, ?_⟩
   ·rw [hout]
    exact amm _ _ _ _ _ _ _ _ _ _ _ _ _ (by omega) hf (wrap64 (by omega) (by omega)) (by simp;omega) k k2 (by rw [hrow];exact ih)
   ·by_cases hq:(fP m X false (t.drop at3)).2.2=0
    ·rw [ah (λe=>e hq)]
     intro _;have:=e4 hq;simp only;omega
    ·rw [aj hq]
     intro h;exact absurd h hq
def D8 (e:Int):List Row×Nat×Int:=([],0,e)
/-- A table that stands next. -/
def kG (s:List UInt8):List Row×Nat×Int:=
 if (au s).2.2≠0 then D8 (au s).2.2 else
 if 256 < (au s).1 then D8 13 else
 if (fP (au s).1 [] true (s.drop (au s).2.1)).2.2≠0 then D8 (fP (au s).1 [] true (s.drop (au s).2.1)).2.2 else
 ((fP (au s).1 [] true (s.drop (au s).2.1)).1,(au s).2.1+(fP (au s).1 [] true (s.drop (au s).2.1)).2.1,0)
theorem ajZ (t:List UInt8) (at':Nat) (h:at'<=t.length) (ht:t.length<=100000000) :
 ∃at2:Nat,TT.lim 123 [.s t,.i .i64 at']=some [.i .i64 0,.l ((kG (t.drop at')).1.map row),.i .i64 (kG (t.drop at')).2.2,.s t,.i .i64 at2]/\((kG (t.drop at')).2.2=0->at2=at'+(kG (t.drop at')).2.1):=by
 have k1:=yU t at' h (by omega);unfold kG;by_cases he:(au (t.drop at')).2.2=0;rotate_left
 ·obtain ⟨e1,e2⟩:=EP he
  rw [e1,e2] at k1;rw [aj he];generalize (au (t.drop at')).2.2=e at *;refine ⟨at',aG rfl rfl ?_,λh=>absurd h he⟩;simp [k1,he,D8]
 obtain ⟨v1,v2,v3,v4,_⟩:=jD he;rw [ah (λe=>e he)];rw [he] at k1;rw [dX] at v3;rw [nS];by_cases h16:256 < (au (t.drop at')).1
 ·have zM:(256:Int) < ((au (t.drop at')).1:Nat):=by omega
  rw [aj h16];generalize (au (t.drop at')).1=n at *;generalize (au (t.drop at')).2.1=i at *;refine ⟨at'+i,aG rfl rfl ?_,λh=>by cases h⟩;simp only [AA] at k1;simp [k1,h16,zM,D8]
 obtain ⟨at2,k2,e2⟩:=adf t ht (au (t.drop at')).1 (by omega) (au (t.drop at')).1 [] [] (at'+(au (t.drop at')).2.1) (by simp) (by omega) (by simp);generalize (au (t.drop at')).1=n at *;generalize (au (t.drop at')).2.1=i at *;rw [ah h16];have zM:¬ (256:Int) < (n:Int):=by omega
 have w:=wrap64 (n:=(n:Int)) (by omega) (by omega);have hc:(0:Int)<=(n:Int)/\32 * (n:Int)<=281474976710656/\(n:Int)<=1152921504606846976:=by omega
 rw [show decide ((([]:List Row).length:Int)=0)=true from rfl] at k2 e2;have k2':TT.lim 124 [.l [],.s [],.i .i64 n,.i .i64 0,.s t,.i .i64 ((at':Int)+(i:Int))]=_:=k2;generalize fP n [] true (t.drop (at'+i))=r at *;refine ⟨at2,aG rfl rfl ?_,λh=>?_⟩
 ·simp only [AA] at k1
  unfold yJ at k2';by_cases hq:r.2.2=0
  ·simp only [hq,ne_eq,not_true_eq_false,if_false,bV] at k2' ⊢
   simp [k1,h16,zM,w,hc,k2',GV.fO]
  ·simp only [hq,ne_eq,not_false_eq_true,if_true] at k2' ⊢
   simp [k1,h16,zM,w,hc,k2',GV.fO,D8]
 ·by_cases hq:r.2.2=0
  ·rw [ah (λe=>e hq)]
   have:=e2 hq;simp only;omega
  ·rw [aj hq] at h
   exact absurd h hq
/-- A whole text, as a table. -/
def kD (s:List UInt8):List Row×Int:=
 if (kG s).2.2≠0 then ([],(kG s).2.2) else if (kG s).2.1 < s.length then ([],10) else ((kG s).1,0)
theorem WX:∀ (m:Nat) (a:List UInt8) (first:Bool) (s:List UInt8),(fP m a first s).2.2=0->(fP m a first s).2.1<=s.length/\(fP m a first s).1.length=m
 | 0,a,first,s,_=>by simp [fP]
 | m+1,a,first,s,h=>by
   rw [Qd] at h ⊢;by_cases h1:(bf s a first).2.2=0;rotate_left
   ·rw [aj h1] at h;exact absurd h h1
   rw [ah (λe=>e h1)] at h ⊢;by_cases h2:(fK (bf s a first).1 (s.drop (bf s a first).2.1)).2.2=0;rotate_left
   ·rw [aj h2] at h;exact absurd h h2
   rw [ah (λe=>e h2)] at h ⊢;by_cases h3:(fP m (bf s a first).1 false (s.drop ((bf s a first).2.1+(fK (bf s a first).1 (s.drop (bf s a first).2.1)).2.1))).2.2=0;rotate_left
   ·rw [aj h3] at h;exact absurd h h3
   rw [ah (λe=>e h3)];obtain ⟨a1,a2,_⟩:=WZ h1;obtain ⟨_,q2,_,_,q5⟩:=Xe h2;obtain ⟨v1,v2,v3,_,_⟩:=jD q2;rw [dX] at v3;obtain ⟨b1,b2⟩:=WX m _ _ _ h3;rw [dX] at b1;exact ⟨by simp only;omega,by simp [b2]⟩
theorem abQ {s:List UInt8} (h:(kG s).2.2=0):(au s).2.2=0/\(au s).1<=256/\(fP (au s).1 [] true (s.drop (au s).2.1)).2.2=0/\(kG s).1=(fP (au s).1 [] true (s.drop (au s).2.1)).1/\
 (kG s).2.1=(au s).2.1+(fP (au s).1 [] true (s.drop (au s).2.1)).2.1/\(kG s).2.1<=s.length:=by
 unfold kG at h ⊢;by_cases h1:(au s).2.2=0;rotate_left
 ·rw [aj h1] at h;exact absurd h h1
 rw [ah (λe=>e h1)] at h ⊢;by_cases h3:256 < (au s).1
 ·rw [aj h3] at h;exact absurd h (by simp [D8])
 rw [ah h3] at h ⊢;by_cases h4:(fP (au s).1 [] true (s.drop (au s).2.1)).2.2=0;rotate_left
 ·rw [aj h4] at h;exact absurd h h4
 rw [ah (λe=>e h4)];obtain ⟨v1,v2,v3,_,_⟩:=jD h1;obtain ⟨d1,_⟩:=WX _ _ _ _ h4;rw [dX] at d1;exact ⟨h1,by omega,h4,rfl,rfl,by simp only;omega⟩
theorem apm (s:List UInt8) (hs:s.length<=100000000):TT.lim 122 [.s s]=some [.l ((kD s).1.map row),.i .i64 (kD s).2]:=by
 obtain ⟨at2,k,e2⟩:=ajZ s 0 (by omega) hs;rw [eH,show ((0:Nat):Int)=0 from rfl] at k;rw [eH] at e2;unfold kD;by_cases h1:(kG s).2.2=0;rotate_left
 ·rw [aj h1]
  generalize kG s=r at *;refine bD rfl rfl ?_ (by rfl);simp [k,h1]
 have e2:=e2 h1;obtain ⟨_,_,_,_,_,a7⟩:=abQ h1;rw [ah (λe=>e h1)];rw [h1] at k;rw [jk] at e2;have w:=wrap64 (n:=(s.length:Int) - (at2:Int)) (by omega) (by omega);rw [<- e2] at a7 ⊢;generalize kG s=r at *;by_cases h2:at2 < s.length
 ·rw [aj h2]
  refine bD rfl rfl ?_ rfl;simp [k,w,h2]
 ·rw [ah h2]
  refine bD rfl rfl ?_ rfl;simp [k,w,h2]
def jR:List UInt8->List Row->List UInt8
 | _,[]=>[]
 | a,r::t=>og a (iC r.1)++(aS r.2.toNat++jR (iC r.1) t)
/-- A table, as it is written. -/
def lG (t:List Row):List UInt8:=aS t.length++jR [] t
def vX (t:List Row):List UInt8×Int:=if sU t≠0 then ([],sU t) else (lG t,0)
theorem Xo:∀ (t:List Row) (a:List UInt8),(∀r∈t,gV r.1=true/\0<=r.2/\r.2 < 18446744073709551616)->(jR a t).length<=40000 * t.length
 | [],a,_=>by simp [jR]
 | r::t,a,h=>by
   obtain ⟨h1,h2,h3⟩:=h r (by simp);have hk:=JV h1;have ho:=acW a (iC r.1) (by omega);have hv:=lI (n:=r.2.toNat) (by omega);have ih:=Xo t (iC r.1) λq hq=>h q (by simp [hq]);simp only [jR,dH,iY];omega
theorem aj8 (L:List GV) (n i:Int) (D:List dw) (N:Int) (a k O V acc:List UInt8) (R:List GV) (j:Nat) (hi:i=j) (h:i < n) (hg:L[j]? = some (row (D,N))) (hw:IntKind.i64.wrap (i+1)=i+1) (k1:TT.lim 8 [.l (D.map ent)]=some [.s k]) (k2:TT.lim 80 [.s a,.s k]=some [.s O])
 (k3:TT.lim 9 [.i .u64 N]=some [.s V]) (hb1:2 * (acc.length+O.length)<=281474976710656/\acc.length+O.length<=281474976710656) (hb2:2 * (acc.length+(O.length+V.length))<=281474976710656/\acc.length+(O.length+V.length)<=281474976710656)
 (ih:TT.lim 79 [.s k,.l L,.i .i64 n,.i .i64 (i+1),.l (dZ acc++(dZ O++dZ V))]=some R) :
 TT.lim 79 [.s a,.l L,.i .i64 n,.i .i64 i,.l (dZ acc)]=some R:=by
 subst hi;have ok1:=Jb O;have ok2:=Jb V;refine aG rfl rfl ?_;simp [-List.all_eq_true,h,hg,hw,k1,k2,k3,ok1,ok2,hb1,hb2,iR,ih]
theorem abS (l:List Row) (hl:l.length<=1000) (hf:∀r∈l,gV r.1=true/\0<=r.2/\r.2 < 18446744073709551616):∀ (m i:Nat) (a acc:List UInt8),i+m=l.length->a.length<=100000->acc.length<=10+40000 * i->
 TT.lim 79 [.s a,.l (l.map row),.i .i64 l.length,.i .i64 i,.l (dZ acc)]=some [.i .i64 0,.l (dZ (acc++jR a (l.drop i)))]
 | 0,i,a,acc,hi,ha,hacc=>by
   have hd:l.drop i=[]:=gY (by omega);have h:¬ ((i:Int) < l.length):=by omega
   rw [hd];refine aG rfl rfl ?_;simp [h,jR]
 | m+1,i,a,acc,hi,ha,hacc=>by
   have hlt:i < l.length:=by omega
   obtain ⟨h1,h2,h3⟩:=hf l[i] (je hlt);have hk:=JV h1;have k1:=O7 l[i].1 h1;have k2:=ald a (iC l[i].1) (by omega) (by omega);have ho:=acW a (iC l[i].1) (by omega);have k3:=vW l[i].2.toNat (by omega);rw [show ((l[i].2.toNat:Nat):Int)=l[i].2 by omega] at k3;have hv:=lI (n:=l[i].2.toNat) (by omega);have ih:=abS l hl hf m (i+1) (iC l[i].1) (acc++(og a (iC l[i].1)++aS l[i].2.toNat)) (by omega) (by omega) (by simp only [dH];omega);have he:acc++jR a (l.drop i)=acc++(og a (iC l[i].1)++aS l[i].2.toNat)++jR (iC l[i].1) (l.drop (i+1)):=by
    rw [jw hlt];simp [jR]
   rw [he];rw [SN acc,SN] at ih;rw [show ((i+1:Nat):Int)=(i:Int)+1 by omega] at ih;exact aj8 _ _ _ l[i].1 l[i].2 a _ _ _ acc _ i rfl (by omega) (by simp [hlt]) (wrap64 (by omega) (by omega)) k1 k2 k3 (by omega) (by omega) ih
theorem aj7 (t:List Row) (ht:Rows t) (hf:zf t):TT.lim 78 [.l (t.map row)]=some [.s (vX t).1,.i .i64 (vX t).2]:=by
 have k1:=Td t ht hf;unfold vX;by_cases hc:sU t=0;rotate_left
 ·rw [aj hc]
  refine bD rfl rfl ?_ (by rfl);simp [k1,hc]
 rw [ah (λe=>e hc)];rw [hc] at k1;have h256:=((Tf t).1 hc).1;have JH:∀r∈t,gV r.1=true/\0<=r.2/\r.2 < 18446744073709551616:=λr hr=>⟨hf r hr,(ht.2 r hr).2.1,(ht.2 r hr).2.2⟩
 have k2:=vW t.length (by omega);have l2:=lI (n:=t.length) (by omega);have k3:=abS t (by omega) JH t.length 0 [] (aS t.length) (by omega) (by simp) (by omega);rw [eH,show ((0:Nat):Int)=0 from rfl] at k3;have hlen:=Xo t [] JH;have w:=kE (n:=(t.length:Int)) (by omega) (by omega);have ok:=Jb (aS t.length);have hb:2 * (aS t.length).length<=281474976710656/\(aS t.length).length<=281474976710656:=by omega
 have hbg:=SS (lG t);have hpl:(dZ (lG t)).length<=281474976710656:=by
  rw [Zq];unfold lG;rw [dH];omega
 have hk3:TT.lim 79 [.s [],.l (t.map row),.i .i64 t.length,.i .i64 0,.l (dZ (aS t.length))]=some [.i .i64 0,.l (dZ (lG t))]:=k3;generalize dZ (lG t)=PG at *;generalize lG t=P at *;generalize hVG:dZ (aS t.length)=VG at *;have hvl:VG.length=(aS t.length).length:=by rw [<- hVG,Zq]
 rw [<- hvl] at hb;have hlm:(t.map row).length=t.length:=by simp
 generalize t.map row=L at *;refine bD rfl rfl ?_ rfl;simp [-List.all_eq_true,k1,hlm,w,k2,hVG,ok,hb,hk3,hbg,hpl]
theorem TJ {x:dw} (h:oI x=0):x.1.length<=64/\x.2.length<=256:=by
 have hu:∀ (s:List UInt8) (lo hi:Int),ql s lo hi=0->(s.length:Int)<=hi:=by
  intro s lo hi h;unfold ql at h;split at h
  ·cases h
  ·split at h
   ·cases h
   ·omega
 unfold oI at h;by_cases h1:ql x.1 1 64=0
 ·rw [ah (λe=>e h1)] at h
  have a:=hu _ _ _ h1;have b:=hu _ _ _ h;omega
 ·rw [aj h1] at h;exact absurd h h1
theorem aep {s:List UInt8} (h:(dN s).2.2=0):aS (dN s).1.length++(dN s).1=s.take (dN s).2.1:=by
 unfold dN at h ⊢;by_cases h1:(au s).2.2=0;rotate_left
 ·rw [aj h1] at h;exact absurd h h1
 rw [ah (λe=>e h1)] at h ⊢;obtain ⟨v1,v2,v3,v4,v5⟩:=jD h1;by_cases h2:s.length - (au s).2.1 < (au s).1
 ·rw [aj h2] at h;cases h
 rw [ah h2];simp only [lX,dX];rw [IJ (by omega),v5,zi]
theorem ahC {s:List UInt8} (h:(bZ s).2.2=0):iO (bZ s).1=s.take (bZ s).2.1:=by
 obtain ⟨_,_,_,_,_,h1,h2,h3,h4⟩:=Ob h;rw [h3,h4];unfold iO;simp only;have p1:=aep h1;have p2:=aep h2;rw [p1,List.append_assoc,p2,zi]
theorem aam:∀ (m:Nat) (p:Option dw) (s:List UInt8),(eX m p s).2.2=0->(eX m p s).1.flatMap iO=s.take (eX m p s).2.1/\oG (p.map (·.1)) (eX m p s).1=0
 | 0,p,s,_=>by simp [eX,oG]
 | m+1,p,s,h=>by
   rw [N7] at h ⊢;by_cases h1:(bZ s).2.2=0;rotate_left
   ·rw [aj h1] at h;exact absurd h h1
   rw [ah (λe=>e h1)] at h ⊢;by_cases h2:wS p (bZ s).1=0;rotate_left
   ·rw [aj h2] at h;exact absurd h h2
   rw [ah (λe=>e h2)] at h ⊢;by_cases h3:(eX m (some (bZ s).1) (s.drop (bZ s).2.1)).2.2=0;rotate_left
   ·rw [aj h3] at h;exact absurd h h3
   rw [ah (λe=>e h3)];obtain ⟨b1,b2⟩:=aam m (some (bZ s).1) _ h3;obtain ⟨_,_,a3,_⟩:=Ob h1;have p1:=ahC h1;refine ⟨by simp only [ji,b1,p1,zi], ?_⟩;unfold oG;rw [ah (λe=>e a3)];cases p with
   | none=>exact b2
   | some k=>
     have h2':vO k.1 (bZ s).1.1=0:=h2;unfold vO at h2';simp only [gG];by_cases c1:(bZ s).1.1=k.1
     ·rw [aj c1] at h2';exact absurd h2' (by decide)
     rw [ah c1] at h2' ⊢;by_cases c2:Op.bytesLess (bZ s).1.1 k.1=true
     ·rw [aj c2] at h2';exact absurd h2' (by decide)
     rw [ah c2];exact b2
structure Yn (d:List dw) (key:List UInt8):Prop where
 chk:uP d=0
 few:gV d=true
 ents:rZ d
 put:iC d=key
theorem ahv {s:List UInt8} (h:(kP s).2.2=0) (hs:s.length<=100000000):Yn (kP s).1 (s.take (kP s).2.1):=by
 obtain ⟨a1,a2,a3,a4,a5,a6,a7⟩:=aan h;obtain ⟨b1,b2,b3⟩:=TF _ _ _ a4;obtain ⟨c1,c2⟩:=aam _ _ _ a4;obtain ⟨v1,v2,v3,v4,v5⟩:=jD a1;rw [a5,a6];refine ⟨?_, ?_,⟨by omega,λx hx=>?_⟩, ?_⟩
 ·unfold uP
  rw [ah (by omega),ah (by omega)];exact c2
 ·unfold gV
  rw [aI,decide_eq_true_iff,List.all_eq_true];refine ⟨λx hx=>?_,by omega⟩;obtain ⟨e1,e2⟩:=TJ (b3 x hx).1;unfold qF;rw [decide_eq_true_iff];omega
 ·obtain ⟨e1,e2⟩:=TJ (b3 x hx).1
  omega
 ·unfold iC
  rw [b2,v5,c1,zi]
theorem TI {s:List UInt8} (h:(lQ s).2=0) (hs:s.length<=100000000):Yn (lQ s).1 s:=by
 unfold lQ at h ⊢;by_cases h1:(kP s).2.2=0;rotate_left
 ·rw [aj h1] at h;exact absurd h h1
 rw [ah (λe=>e h1)] at h ⊢;by_cases h2:(kP s).2.1 < s.length
 ·rw [aj h2] at h;exact absurd h (by simp)
 rw [ah h2];have:=ahv h1 hs;rw [lK (by omega)] at this;exact this
theorem ami {s a:List UInt8} {first:Bool} (h:(bf s a first).2.2=0) (hf:first=true->a=[]):og a (bf s a first).1=s.take (bf s a first).2.1/\(first=false->a < (bf s a first).1):=by
 have ha:(if first=true then [] else a)=a:=by
  cases first with
  | true=>rw [aj rfl,hf rfl]
  | false=>rfl
 unfold bf at h ⊢;simp only [ha] at h ⊢;by_cases h1:(au s).2.2=0;rotate_left
 ·rw [aj h1] at h;exact absurd h h1
 rw [ah (λe=>e h1)] at h ⊢;by_cases h2:a.length < (au s).1
 ·rw [aj h2] at h;exact absurd h (by simp [kJ])
 rw [ah h2] at h ⊢;by_cases h3:(au (s.drop (au s).2.1)).2.2=0;rotate_left
 ·rw [aj h3] at h;exact absurd h h3
 rw [ah (λe=>e h3)] at h ⊢;by_cases h4:s.length - ((au s).2.1+(au (s.drop (au s).2.1)).2.1) < (au (s.drop (au s).2.1)).1
 ·rw [aj h4] at h;exact absurd h (by simp [kJ])
 rw [ah h4] at h ⊢;obtain ⟨v1,v2,v3,v4,v5⟩:=jD h1;obtain ⟨u1,u2,u3,u4,u5⟩:=jD h3;have hx:((s.drop ((au s).2.1+(au (s.drop (au s).2.1)).2.1)).take (au (s.drop (au s).2.1)).1).length=(au (s.drop (au s).2.1)).1:=by
  rw [lX,dX];omega
 generalize hX:(s.drop ((au s).2.1+(au (s.drop (au s).2.1)).2.1)).take (au (s.drop (au s).2.1)).1=X at *;by_cases h5:first=false/\Op.bytesLess a (a.take (au s).1++X)=false
 ·rw [aj h5] at h;exact absurd h (by simp [kJ])
 rw [ah h5] at h ⊢;by_cases h6:(au s).1 < common a (a.take (au s).1++X)
 ·rw [aj h6] at h;exact absurd h (by simp [kJ])
 rw [ah h6];have hge:=Z4 (au s).1 a X (by omega);have hc:common a (a.take (au s).1++X)=(au s).1:=by omega
 refine ⟨?_,λhf=>?_⟩
 ·unfold og
  simp only [hc];have hl:(a.take (au s).1++X).length - (au s).1=(au (s.drop (au s).2.1)).1:=by
   rw [dH,lX,hx];omega
  have hd:(a.take (au s).1++X).drop (au s).1=X:=by
   rw [Rx (by rw [lX];omega)];rw [gY (by rw [lX];omega)];rfl
  rw [hl,hd,v5,u5,<- hX];rw [zi,zi,<- nS]
 ·simp only [hf,true_and] at h5
  rw [<- ND];simpa using h5
theorem adh:∀ (m:Nat) (a:List UInt8) (first:Bool) (s:List UInt8),(fP m a first s).2.2=0->(first=true->a=[])->a.length+s.length<=100000000->
 jR a (fP m a first s).1=s.take (fP m a first s).2.1/\AP (fP m a first s).1/\(first=false->∀r∈(fP m a first s).1,a < K r)/\(∀r∈(fP m a first s).1,uh r=0/\gV r.1=true/\rZ r.1/\0<=r.2/\r.2 < 18446744073709551616)
 | 0,a,first,s,_,_,_=>by simp [fP,jR,AP]
 | m+1,a,first,s,h,hf,hl=>by
   rw [Qd] at h ⊢;by_cases h1:(bf s a first).2.2=0;rotate_left
   ·rw [aj h1] at h;exact absurd h h1
   rw [ah (λe=>e h1)] at h ⊢;by_cases h2:(fK (bf s a first).1 (s.drop (bf s a first).2.1)).2.2=0;rotate_left
   ·rw [aj h2] at h;exact absurd h h2
   rw [ah (λe=>e h2)] at h ⊢;by_cases h3:(fP m (bf s a first).1 false (s.drop ((bf s a first).2.1+(fK (bf s a first).1 (s.drop (bf s a first).2.1)).2.1))).2.2=0;rotate_left
   ·rw [aj h3] at h;exact absurd h h3
   rw [ah (λe=>e h3)];obtain ⟨a1,a2,a3⟩:=WZ h1;obtain ⟨p1,p2⟩:=ami h1 hf;obtain ⟨q1,q2,q3,q4,q5⟩:=Xe h2;have hxl:(bf s a first).1.length<=a.length+(bf s a first).2.1:=by
    cases first<;>simp at a3<;>omega
   obtain ⟨v1,v2,v3,v4,v5⟩:=jD q2;have dk:=TI q1 (by omega);obtain ⟨b1,b2,b3,b4⟩:=adh m _ false _ h3 (λe=>by cases e) (by rw [dX];omega);have hK:K (fK (bf s a first).1 (s.drop (bf s a first).2.1)).1=(bf s a first).1:=by rw [q4];exact dk.put
   have hN:(fK (bf s a first).1 (s.drop (bf s a first).2.1)).1.2.toNat=(au (s.drop (bf s a first).2.1)).1:=by rw [q4];simp
   simp only;refine ⟨?_, ?_,λJH r hr=>?_,λr hr=>?_⟩
   ·show og a (K _)++(aS _++jR (K _) _)=_
    rw [hK,hN,b1,p1,v5,<- q5];rw [zi,zi,List.append_assoc]
   ·refine qR.2 ⟨λr hr=>?_,b2⟩
    rw [hK];exact b3 rfl r hr
   ·rcases bU.1 hr with rfl | hr
    ·rw [hK];exact p2 JH
    ·exact RG (p2 JH) (b3 rfl r hr)
   ·rcases bU.1 hr with rfl | hr
    ·rw [q4]
     refine ⟨?_,dk.few,dk.ents,by simp only;omega,by simp only;omega⟩;rw [Xn];exact ⟨dk.chk,by simp only;omega⟩
    ·exact b4 r hr
structure wM (t:List Row):Prop where
 ok:Ok t
 few:zf t
 rows:Rows t
theorem wM.tb {t:List Row} (h:wM t):sU t=0:=(Tf t).2 h.ok
theorem aj1 {s:List UInt8} (h:(kG s).2.2=0) (hs:s.length<=100000000):lG (kG s).1=s.take (kG s).2.1/\wM (kG s).1:=by
 obtain ⟨a1,a2,a3,a4,a5,a6⟩:=abQ h;obtain ⟨v1,v2,v3,v4,v5⟩:=jD a1;obtain ⟨l1,l2⟩:=WX _ _ _ _ a3;obtain ⟨b1,b2,_,b4⟩:=adh _ _ _ _ a3 (λ_=>rfl) (by rw [dX];simp;omega);rw [a4,a5];refine ⟨?_,⟨by omega,b2,λr hr=>(b4 r hr).1⟩,λr hr=>(b4 r hr).2.1,by omega,λr hr=>(b4 r hr).2.2⟩;unfold lG;rw [l2,v5,b1,zi]
theorem aev:wM []:=⟨⟨by simp,List.Pairwise.nil,by simp⟩,λr hr=>by simp at hr,by simp,by simp⟩
theorem aew {s:List UInt8} (hs:s.length<=100000000):wM (kD s).1/\((kD s).2=0->lG (kD s).1=s)/\((kD s).2≠0->(kD s).1=[]):=by
 unfold kD;by_cases h1:(kG s).2.2=0;rotate_left
 ·rw [aj h1]
  exact ⟨aev,λh=>absurd h h1,λ_=>rfl⟩
 rw [ah (λe=>e h1)];by_cases h2:(kG s).2.1 < s.length
 ·rw [aj h2]
  exact ⟨aev,λh=>absurd h (by decide),λ_=>rfl⟩
 rw [ah h2];obtain ⟨b1,b2⟩:=aj1 h1 hs;rw [lK (by omega)] at b1;exact ⟨b2,λ_=>b1,λh=>absurd rfl h⟩
theorem wM.len {t:List Row} (h:wM t):t.length<=256:=h.ok.1
theorem wM.good {t:List Row} (h:wM t):vw t:=⟨Nat.le_trans h.len (by decide),h.few,h.rows⟩
theorem aeo (a x:List UInt8) (ha:a.length<=100000000):dN (aS a.length++(a++x))=(a,(aS a.length).length+a.length,0):=by
 have h:=ES a.length (a++x) (by omega);unfold dN;rw [h];simp only [ne_eq,not_true_eq_false,if_false];have hl:(aS a.length++(a++x)).length=(aS a.length).length+(a.length+x.length):=by simp
 rw [hl,ah (by omega),oZ,RJ]
theorem ahB (e:dw) (y:List UInt8) (h:oI e=0):bZ (iO e++y)=(e,(iO e).length,0):=by
 obtain ⟨l1,l2⟩:=TJ h;have e1:iO e++y=aS e.1.length++(e.1++(aS e.2.length++(e.2++y))):=by unfold iO;simp
 have h1:=aeo e.1 (aS e.2.length++(e.2++y)) (by omega);have h2:=aeo e.2 y (by omega);have hd:(aS e.1.length++(e.1++(aS e.2.length++(e.2++y)))).drop ((aS e.1.length).length+e.1.length)=aS e.2.length++(e.2++y):=by
  rw [<- List.append_assoc,<- dH,oZ]
 have hl:(iO e).length=(aS e.1.length).length+e.1.length+((aS e.2.length).length+e.2.length):=by unfold iO;simp;omega
 unfold bZ;rw [e1,h1];simp only [ne_eq,not_true_eq_false,if_false,hd,h2];have he:oI (e.1,e.2)=0:=h;rw [he,hl];simp
theorem aga {p:Option (List UInt8)} {x:dw} {xs:List dw} (h:oG p (x::xs)=0):oI x=0/\(∀k,p=some k->vO k x.1=0)/\oG (some x.1) xs=0:=by
 unfold oG at h;by_cases h1:oI x=0;rotate_left
 ·rw [aj h1] at h;exact absurd h h1
 rw [ah (λe=>e h1)] at h;cases p with
 | none=>exact ⟨h1,(λk hk=>by cases hk),h⟩
 | some k=>
   simp only at h;by_cases c1:x.1=k
   ·rw [aj c1] at h;exact absurd h (by decide)
   rw [ah c1] at h;by_cases c2:Op.bytesLess x.1 k=true
   ·rw [aj c2] at h;exact absurd h (by decide)
   rw [ah c2] at h;refine ⟨h1,λk' hk=>?_,h⟩;cases hk;unfold vO;rw [ah c1,ah c2]
theorem aal:∀ (d:List dw) (p:Option dw) (y:List UInt8),oG (p.map (·.1)) d=0->eX d.length p (d.flatMap iO++y)=(d,(d.flatMap iO).length,0)
 | [],p,y,_=>by simp [eX]
 | x::d,p,y,h=>by
   obtain ⟨h1,h2,h3⟩:=aga h;have he:=ahB x (d.flatMap iO++y) h1;have hs:(x::d).flatMap iO++y=iO x++(d.flatMap iO++y):=by simp
   have ih:=aal d (some x) y h3;have hb:wS p x=0:=by
    cases p with
    | none=>rfl
    | some k=>exact h2 k.1 rfl
   rw [iY,N7,hs,he];simp only [ne_eq,not_true_eq_false,if_false,oZ,hb,ih];simp
theorem ahu (d:List dw) (y:List UInt8) (h:uP d=0):kP (iC d++y)=(d,(iC d).length,0):=by
 unfold uP at h;by_cases h1:d.length=0
 ·rw [aj h1] at h;exact absurd h (by decide)
 rw [ah h1] at h;by_cases h2:16 < d.length
 ·rw [aj h2] at h;exact absurd h (by decide)
 rw [ah h2] at h;have hv:=ES d.length (d.flatMap iO++y) (by omega);have hk:iC d++y=aS d.length++(d.flatMap iO++y):=by unfold iC;simp
 have hl:=aal d none y h;unfold kP;rw [hk,hv];simp only [ne_eq,not_true_eq_false,if_false,h1,h2,oZ,hl];unfold iC;simp
theorem aap (d:List dw) (h:uP d=0):lQ (iC d)=(d,0):=by
 have:=ahu d [] h;rw [kK] at this;unfold lQ;rw [this];simp
theorem agr (a s:List UInt8):a.take (common a s)++s.drop (common a s)=s:=by
 rw [Z5,CV]
theorem amh (a t y:List UInt8) (first:Bool) (hf:first=true->a=[]) (hn:first=false->a < t) (ht:t.length<=100000000):bf (og a t++y) a first=(t,(og a t).length,0):=by
 have ha:(if first=true then [] else a)=a:=by
  cases first with
  | true=>rw [aj rfl,hf rfl]
  | false=>rfl
 obtain ⟨c1,c2⟩:=NV a t;have e1:og a t++y=aS (common a t)++(aS (t.length - common a t)++(t.drop (common a t)++y)):=by unfold og;simp
 have v1:=ES (common a t) (aS (t.length - common a t)++(t.drop (common a t)++y)) (by omega);have v2:=ES (t.length - common a t) (t.drop (common a t)++y) (by omega);have hl:(og a t).length=(aS (common a t)).length+(aS (t.length - common a t)).length+(t.length - common a t):=by unfold og;simp;omega
 have hd:(aS (common a t)++(aS (t.length - common a t)++(t.drop (common a t)++y))).drop ((aS (common a t)).length+(aS (t.length - common a t)).length)=t.drop (common a t)++y:=by
  rw [<- List.append_assoc,<- dH,oZ]
 have hx:(t.drop (common a t)++y).take (t.length - common a t)=t.drop (common a t):=by
  rw [<- dX,RJ]
 have hb:¬ (first=false/\Op.bytesLess a t=false):=by
  rintro ⟨h1,h2⟩
  have:=(ND a t).2 (hn h1);rw [h2] at this;cases this
 unfold bf;simp only [ha];rw [e1,v1];simp only [ne_eq,not_true_eq_false,if_false,oZ,v2,hd,hx,agr];rw [ah (by omega),ah (by simp;omega),ah hb,ah (by omega),hl]
theorem adg:∀ (l:List Row) (a:List UInt8) (first:Bool) (y:List UInt8),(first=true->a=[])->(first=false->∀r∈l,a < K r)->AP l->(∀r∈l,uh r=0/\gV r.1=true/\0<=r.2/\r.2 < 18446744073709551616)->
 fP l.length a first (jR a l++y)=(l,(jR a l).length,0)
 | [],a,first,y,_,_,_,_=>by simp [fP,jR]
 | r::l,a,first,y,hf,hn,hr,hc=>by
   obtain ⟨h1,h2⟩:=qR.1 hr;obtain ⟨q1,q2,q3,q4⟩:=hc r (by simp);have hk:(K r).length<=30000:=JV q2;rw [Xn] at q1;have hs:jR a (r::l)++y=og a (K r)++(aS r.2.toNat++(jR (K r) l++y)):=by simp [jR]
   have hp:=amh a (K r) (aS r.2.toNat++(jR (K r) l++y)) first hf (λe=>hn e r (by simp)) (by omega)
   have hv:=ES r.2.toNat (jR (K r) l++y) (by omega);have hd:=aap r.1 q1.1;have ih:=adg l (K r) false y (λe=>by cases e) (λ_=>h1) h2 λq hq=>hc q (by simp [hq]);have hdd:(og a (K r)++(aS r.2.toNat++(jR (K r) l++y))).drop ((og a (K r)).length+(aS r.2.toNat).length)=jR (K r) l++y:=by
    rw [<- List.append_assoc,<- dH,oZ]
   have hq:fK (K r) (aS r.2.toNat++(jR (K r) l++y))=(r,(aS r.2.toNat).length,0):=by
    unfold fK;rw [hv,hd];simp only [ne_eq,not_true_eq_false,if_false];rw [ah (by omega)];have:((r.2.toNat:Nat):Int)=r.2:=by omega
    rw [this]
   rw [iY,Qd,hs,hp];simp only [ne_eq,not_true_eq_false,if_false,oZ,hq,hdd,ih];simp [jR,iR]
theorem aj0 (t:List Row) (y:List UInt8) (h:wM t):kG (lG t++y)=(t,(lG t).length,0):=by
 have hl:=h.len;have hv:=ES t.length (jR [] t++y) (by omega);have hk:lG t++y=aS t.length++(jR [] t++y):=by unfold lG;simp
 have hp:=adg t [] true y (λ_=>rfl) (λe=>by cases e) h.ok.2.1 λr hr=>⟨h.ok.2.2 r hr,h.few r hr,(h.rows.2 r hr).2.1,(h.rows.2 r hr).2.2⟩
 unfold kG;rw [hk,hv];simp only [ne_eq,not_true_eq_false,if_false,oZ,hp];rw [ah (by omega)];unfold lG;simp
theorem apn (t:List Row) (h:wM t):kD (lG t)=(t,0):=by
 have:=aj0 t [] h;rw [kK] at this;unfold kD;rw [this];simp
end U
end Go.Proofs.YtjglbndncdkhhaaGreatDoor
