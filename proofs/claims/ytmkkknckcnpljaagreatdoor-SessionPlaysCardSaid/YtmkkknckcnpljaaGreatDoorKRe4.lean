/- What the trees compute: plain laws. -/
import Derived.Test.YtmkkknckcnpljaaGreatDoorKRe3
set_option linter.all false
namespace Go.Proofs.YtmkkknckcnpljaaGreatDoor
open Go Go.aO
set_option maxRecDepth 100000
namespace R
structure One where
 deep:Int
 tag:Int
 typ:Int
 num:Int
 text:Q0
inductive aH where
 |mk (tag typ num:Int) (text:Q0) (l:List aH)
def one(x:One):GV:=.g [.i .u8 x.deep,.i .u64 x.tag,.i .i8 x.typ,.i .u64 x.num,.s x.text]
@[simp] theorem aFz(x:One):(one x).cells=[.i .u8 x.deep,.i .u64 x.tag,.i .i8 x.typ,.i .u64 x.num,.s x.text]:=rfl
mutual
def iE:aH->GV
 |.mk t y n s l=>.g [.i .u64 t,.i .i64 y,.i .u64 n,.s s,.l (aC l)]
def aC:List aH->List GV
 |[]=>[]
 |f::l=>iE f::aC l
end
def jg:∀(a:List aH),(aC a).length=a.length
 |[]=>rfl
 |f::a=>by simp only[aC,jw,jg a]
structure aN where
 kind:Int
 id:Int
 min:Int
 max:Int
 chosen:Int
 flags:Int
 cost:Int
 priority:Int
 deadline:Int
 retry:Int
 epoch:Int
 base:Int
 digest:Int
 lag:Int
 code:Int
 want:Int
 remaining:Int
 allowed:Bool
 name:Q0
 region:Q0
 note:Q0
 d:List bT
 t:List Row
def dU(b:aN)(r:Q1):GV:=.g [.i .i64 b.kind,.i .u64 b.id,.i .u64 b.min,.i .u64 b.max,.i .u64 b.chosen,.i .u64 b.flags,.i .u64 b.cost,.i .u64 b.priority,.i .u64 b.deadline,.i .u64 b.retry,.i .u64 b.epoch,.i .u64 b.base,.i .u64 b.digest,.i .u64 b.lag,.i .u64 b.code,.i .u64 b.want,.i .i64 b.remaining,.b b.allowed,.s b.name,.s b.region,.s b.note,.l (b.d.map ent),.l (b.t.map row),.l r]
def eF(b:aN)(r:Q1):GV.g [.i .i64 b.kind,.i .u64 b.id,.i .u64 b.min,.i .u64 b.max,.i .u64 b.chosen,.i .u64 b.flags,.i .u64 b.cost,.i .u64 b.priority,.i .u64 b.deadline,.i .u64 b.retry,.i .u64 b.epoch,.i .u64 b.base,.i .u64 b.digest,.i .u64 b.lag,.i .u64 b.code,.i .u64 b.want,.i .i64 b.remaining,.b b.allowed,.s b.name,.s b.region,.s b.note,.l (b.d.map ent),.l (b.t.map row),.l r]=dU b r:=rfl
@[simp] theorem dK(b:aN)(r:Q1):(dU b r).cells=[.i .i64 b.kind,.i .u64 b.id,.i .u64 b.min,.i .u64 b.max,.i .u64 b.chosen,.i .u64 b.flags,.i .u64 b.cost,.i .u64 b.priority,.i .u64 b.deadline,.i .u64 b.retry,.i .u64 b.epoch,.i .u64 b.base,.i .u64 b.digest,.i .u64 b.lag,.i .u64 b.code,.i .u64 b.want,.i .i64 b.remaining,.b b.allowed,.s b.name,.s b.region,.s b.note,.l (b.d.map ent),.l (b.t.map row),.l r]:=rfl
structure lC(b:aN):Prop where
 kind: -9223372036854775808<=b.kind/\b.kind<=9223372036854775807
 id:0<=b.id/\b.id<18446744073709551616
 min:0<=b.min/\b.min<18446744073709551616
 max:0<=b.max/\b.max<18446744073709551616
 chosen:0<=b.chosen/\b.chosen<18446744073709551616
 flags:0<=b.flags/\b.flags<18446744073709551616
 cost:0<=b.cost/\b.cost<18446744073709551616
 priority:0<=b.priority/\b.priority<18446744073709551616
 deadline:0<=b.deadline/\b.deadline<18446744073709551616
 retry:0<=b.retry/\b.retry<18446744073709551616
 epoch:0<=b.epoch/\b.epoch<18446744073709551616
 base:0<=b.base/\b.base<18446744073709551616
 digest:0<=b.digest/\b.digest<18446744073709551616
 lag:0<=b.lag/\b.lag<18446744073709551616
 code:0<=b.code/\b.code<18446744073709551616
 want:0<=b.want/\b.want<18446744073709551616
 remaining: -9223372036854775808<=b.remaining/\b.remaining<=9223372036854775807
 name:b.name.length<=140737488351232
 region:b.region.length<=140737488351232
 note:b.note.length<=140737488351232
 d:lU b.d
 t:Rows b.t
def ath{k:IntKind}{g:GV}(h:(cu.int k).has g):∃n,g=.i k n/\k.min<=n/\n<=k.max:=by simp only[cu.has]at h;exact h
def Vp(a b:Int):Int:=if a<1 then 18 else if b<a then 18 else if 255<b then 18 else 0
def FB(a c:Int)(n:Q0):aN:=⟨1,0,a,c,0,0,0,0,0,0,0,0,0,0,0,0,0,false,n,[],[],[],[]⟩
structure dh where
 tag:Int
 use:Int
 from_:Int
 name:Q0
def bI(s:dh):GV:=.g [.i .u64 s.tag,.i .i64 s.use,.i .i64 s.from_,.s s.name]
@[simp] theorem aFR(s:dh):(bI s).cells=[.i .u64 s.tag,.i .i64 s.use,.i .i64 s.from_,.s s.name]:=rfl
def ajo(s:dh):GV.g [.i .u64 s.tag,.i .i64 s.use,.i .i64 s.from_,.s s.name]=bI s:=rfl
def sp1:List dh:=[⟨1,0,1,[109,105,110]⟩,⟨2,0,1,[109,97,120]⟩,⟨3,3,1,[110,97,109,101]⟩,⟨4,3,2,[114,101,103,105,111,110]⟩,⟨5,0,3,[102,108,97,103,115]⟩]
def sp2:List dh:=[⟨1,0,1,[99,104,111,115,101,110]⟩,⟨2,3,1,[110,97,109,101]⟩,⟨3,3,2,[114,101,103,105,111,110]⟩]
def Ag:List dh:=[⟨1,0,1,[105,100]⟩,⟨2,4,1,[100,101,115,99,114]⟩,⟨3,0,1,[99,111,115,116]⟩,⟨4,0,2,[112,114,105,111,114,105,116,121]⟩,⟨5,0,3,[100,101,97,100,108,105,110,101]⟩]
def Ah:List dh:=[⟨1,0,1,[105,100]⟩,⟨2,1,1,[97,108,108,111,119,101,100]⟩,⟨3,2,1,[114,101,109,97,105,110,105,110,103]⟩,⟨4,0,2,[114,101,116,114,121]⟩,⟨5,3,3,[110,111,116,101]⟩]
def Ai:List dh:=[⟨1,0,1,[101,112,111,99,104]⟩,⟨2,5,1,[116,97,98,108,101]⟩,⟨3,3,2,[114,101,103,105,111,110]⟩,⟨4,0,3,[100,105,103,101,115,116]⟩]
def Aj:List dh:=[⟨1,0,2,[98,97,115,101]⟩,⟨2,0,2,[101,112,111,99,104]⟩,⟨3,5,2,[116,97,98,108,101]⟩,⟨4,3,2,[114,101,103,105,111,110]⟩,⟨5,0,3,[100,105,103,101,115,116]⟩]
def Ak:List dh:=[⟨1,0,1,[101,112,111,99,104]⟩,⟨2,0,3,[108,97,103]⟩]
def Am:List dh:=[⟨1,0,1,[101,112,111,99,104]⟩,⟨2,0,1,[99,111,100,101]⟩,⟨3,0,2,[119,97,110,116]⟩,⟨4,3,3,[110,111,116,101]⟩]
def kU(k:Int):List dh:=if k=1 then sp1 else if k=2 then sp2 else if k=3 then Ag else if k=4 then Ah else if k=5 then Ai else if k=6 then Aj else if k=7 then Ak else if k=8 then Am else[]
def oL(k:Int):Int:=if k=1 then 1 else if k=2 then 1 else if k=3 then 1 else if k=4 then 1 else if k=5 then 1 else if k=6 then 2 else if k=7 then 1 else if k=8 then 1 else 0
def aS(k v:Int):List dh:=(kU k).filter λs=>decide (s.from_<=v)
def atw:TT.lim 49 []=some [.l (sp1.map bI)]:=by refine aG rfl rfl ?_ rfl;simp[sp1,bI]
def atr:TT.lim 51 []=some [.l (sp2.map bI)]:=by refine aG rfl rfl ?_ rfl;simp[sp2,bI]
def alM:TT.lim 52 []=some [.l (Ag.map bI)]:=by refine aG rfl rfl ?_ rfl;simp[Ag,bI]
def alN:TT.lim 53 []=some [.l (Ah.map bI)]:=by refine aG rfl rfl ?_ rfl;simp[Ah,bI]
def arX:TT.lim 54 []=some [.l (Ai.map bI)]:=by refine aG rfl rfl ?_ rfl;simp[Ai,bI]
def aqu:TT.lim 55 []=some [.l (Aj.map bI)]:=by refine aG rfl rfl ?_ rfl;simp[Aj,bI]
def akP:TT.lim 56 []=some [.l (Ak.map bI)]:=by refine aG rfl rfl ?_ rfl;simp[Ak,bI]
def ayh:TT.lim 57 []=some [.l (Am.map bI)]:=by refine aG rfl rfl ?_ rfl;simp[Am,bI]
def Zu(k:Int):TT.lim 47 [.i .i64 k]=some [.i .i64 (oL k)]:=by
 refine aG rfl rfl ?_ rfl;unfold oL;by_cases a:k=1
 ·simp[a]
 by_cases b:k=2
 ·simp[b]
 by_cases c:k=3
 ·simp[c]
 by_cases d:k=4
 ·simp[d]
 by_cases e:k=5
 ·simp[e]
 by_cases f:k=6
 ·simp[f]
 by_cases g:k=7
 ·simp[g]
 by_cases h:k=8
 ·simp[h]
 simp[a,b,c,d,e,f,g,h]
def Zx(v:Int)(l:List dh)(j:l.length<=8):∀(m i:Nat)(a:List dh),i+m=l.length->a.length<=i->
 TT.lim 50 [.i .i64 v,.l (a.map bI),.l (l.map bI),.i .i64 l.length,.i .i64 i]=some [.i .i64 0,.l ((a++(l.drop i).filter λs=>decide (s.from_<=v)).map bI)]
 |0,i,a,hi,q=>by
  have h0:l.drop i=[]:=cO (by omega);refine au rfl rfl ?_;have h:¬((i:Int)<l.length):=by omega
  simp[h,h0]
 |m+1,i,a,hi,q=>by
  have c:i<l.length:=by omega
  have k:=dF c;refine au rfl rfl ?_;have h:((i:Int)<l.length):=by omega
  have o:=wrap64 (n:=(i:Int)+1) (by omega) (by omega);have e:2*(a.length+1)*40<=281474976710656:=by omega
  have f:a.length<=281474976710655:=by omega
  have g:(bI l[i]).dZ 4=true:=rfl;have b:((i:Int)+1)=((i+1:Nat):Int):=by omega
  by_cases p:l[i].from_<=v
  ·have d:=Zx v l j m (i+1) (a++[l[i]]) (by omega) (by simp;omega);rw[<-b,jG]at d;simp only[gX,jO]at d;simp[-List.getElem_cons_drop,h,c,p,o,ajo,e,f,g,d,k]
  ·have d:=Zx v l j m (i+1) a (by omega) (by omega);rw[<-b]at d;simp[-List.getElem_cons_drop,h,c,p,o,d,k]
def abA(k:Int):(kU k).length<=8:=by
 unfold kU;repeat' split
 all_goals (first|(unfold sp1;decide)|(unfold sp2;decide)|(unfold Ag;decide)|(unfold Ah;decide)|(unfold Ai;decide)|(unfold Aj;decide)|(unfold Ak;decide)|(unfold Am;decide)|decide)
def FK(v:Int)(l:List dh)(a:l.length<=8):TT.lim 50 [.i .i64 v,.l [],.l (l.map bI),.i .i64 l.length,.i .i64 0]=some [.i .i64 0,.l ((l.filter λs=>decide (s.from_<=v)).map bI)]:=by have:=Zx v l a l.length 0 [] (by omega) (by simp);simpa using this
def UC(k v:Int)(h1:1<=v)(A:v<=3)(d:oL k<=v):TT.lim 48 [.i .i64 k,.i .i64 v]=some [.l ((aS k v).map bI)]:=by
 have a:¬v<1:=by omega
 have b:¬3<v:=by omega
 unfold aS kU;unfold oL at d;have g1:=FK v sp1 (by decide);have g2:=FK v sp2 (by decide);have m:=FK v Ag (by decide);have n:=FK v Ah (by decide);have o:=FK v Ai (by decide);have g6:=FK v Aj (by decide);have g7:=FK v Ak (by decide);have p:=FK v Am (by decide);have q:=atw;have r:=atr;have s:=alM;have t:=alN;have u:=arX;have w:=aqu;have x:=akP;have y:=ayh;generalize sp1=B at *;generalize sp2=D at *;generalize Ag=E at *;generalize Ah=F at *;generalize Ai=G at *;generalize Aj=H at *;generalize Ak=I at *;generalize Am=J at *;refine aG rfl rfl ?_ rfl;by_cases e:k=1
 ·simp[e,a,b,q,g1]
 by_cases f:k=2
 ·simp[f,a,b,r,g2]
 by_cases g:k=3
 ·simp[g,a,b,s,m]
 by_cases h:k=4
 ·simp[h,a,b,t,n]
 by_cases i:k=5
 ·simp[i,a,b,u,o]
 by_cases c:k=6
 ·have z:¬v<2:=by subst c;simpa using d
  simp[c,a,z,b,w,g6]
 by_cases j:k=7
 ·simp[j,a,b,x,g7]
 by_cases l:k=8
 ·simp[l,a,b,y,p]
 simp[e,f,g,h,i,c,j,l]
def aiW(k:Int):TT.lim 174 [.i .i64 k]=some [.l ((kU k).map bI)]:=by
 unfold kU;refine aG rfl rfl ?_ rfl;by_cases a:k=1
 ·simp[a,sp1,bI]
 by_cases b:k=2
 ·simp[b,sp2,bI]
 by_cases c:k=3
 ·simp[c,Ag,bI]
 by_cases d:k=4
 ·simp[d,Ah,bI]
 by_cases e:k=5
 ·simp[e,Ai,bI]
 by_cases f:k=6
 ·simp[f,Aj,bI]
 by_cases g:k=7
 ·simp[g,Ak,bI]
 by_cases h:k=8
 ·simp[h,Am,bI]
 simp[a,b,c,d,e,f,g,h]
def abd(v:Int)(e:v<=3)(l:List dh)(k:l.length<=8):∀(m i:Nat)(a:List dh),i+m=l.length->a.length<=i->
 TT.lim 175 [.i .i64 v,.l (a.map bI),.l (l.map bI),.i .i64 l.length,.i .i64 i]=some [.i .i64 0,.l ((a++(l.drop i).filter λs=>decide (s.from_<=v)).map bI)]
 |0,i,a,hi,r=>by
  have h0:l.drop i=[]:=cO (by omega);refine au rfl rfl ?_;have h:¬((i:Int)<l.length):=by omega
  simp[h,h0]
 |m+1,i,a,hi,r=>by
  have c:i<l.length:=by omega
  have o:=dF c;refine au rfl rfl ?_;have h:((i:Int)<l.length):=by omega
  have p:=wrap64 (n:=(i:Int)+1) (by omega) (by omega);have f:2*(a.length+1)*40<=281474976710656:=by omega
  have g:a.length<=281474976710655:=by omega
  have j:(bI l[i]).dZ 4=true:=rfl;have b:((i:Int)+1)=((i+1:Nat):Int):=by omega
  by_cases q:l[i].from_<=v
  ·have d:=abd v e l k m (i+1) (a++[l[i]]) (by omega) (by simp;omega);rw[<-b,jG]at d;simp only[gX,jO]at d;simp[-List.getElem_cons_drop,h,c,e,q,p,ajo,f,g,j,d,o]
  ·have d:=abd v e l k m (i+1) a (by omega) (by omega);rw[<-b]at d;simp[-List.getElem_cons_drop,h,c,e,q,p,d,o]
def abe(k v:Int)(b:v<=3):TT.lim 173 [.i .i64 k,.i .i64 v]=some [.l ((aS k v).map bI)]:=by
 have c:=aiW k;have d:=abd v b (kU k) (abA k) (kU k).length 0 [] (by omega) (by simp);unfold aS;generalize kU k=l at *;have a:TT.lim 175 [.i .i64 v,.l [],.l (l.map bI),.i .i64 l.length,.i .i64 0]=some [.i .i64 0,.l ((l.filter λs=>decide (s.from_<=v)).map bI)]:=by simpa using d
 refine aG rfl rfl ?_ rfl;simp[c,a]
def afX(k v:Int)(h1:1<=v)(j:v<=3):aS k v=[]↔oL k=0\/v<oL k:=by
 have a:v=1\/v=2\/v=3:=by omega
 unfold aS kU oL;by_cases b:k=1
 ·subst b;rcases a with rfl|rfl|rfl<;>decide
 by_cases c:k=2
 ·subst c;rcases a with rfl|rfl|rfl<;>decide
 by_cases d:k=3
 ·subst d;rcases a with rfl|rfl|rfl<;>decide
 by_cases e:k=4
 ·subst e;rcases a with rfl|rfl|rfl<;>decide
 by_cases f:k=5
 ·subst f;rcases a with rfl|rfl|rfl<;>decide
 by_cases g:k=6
 ·subst g;rcases a with rfl|rfl|rfl<;>decide
 by_cases h:k=7
 ·subst h;rcases a with rfl|rfl|rfl<;>decide
 by_cases i:k=8
 ·subst i;rcases a with rfl|rfl|rfl<;>decide
 simp[b,c,d,e,f,g,h,i]
def aH.tag:aH->Int
 |.mk t _ _ _ _=>t
def rW:∀(a:List aH),aC a=a.map iE
 |[]=>rfl
 |f::a=>by simp only[aC,gX,rW a]
mutual
def qZ:aH->Nat
 |.mk _ _ _ _ l=>cZ l+1
def cZ:List aH->Nat
 |[]=>0
 |f::l=>qZ f+cZ l+1
end
mutual
def qF:aH->Prop
 |.mk t y n s k=>(0<=t/\t<18446744073709551616/\-128<=y/\y<=127/\0<=n/\n<18446744073709551616/\s.length<=100000000/\k.length<=1000000)/\dO k
def dO:List aH->Prop
 |[]=>True
 |f::r=>qF f/\dO r
end
def zK:∀{l:List aH},dO l->∀f∈l,qF f
 |f::l,h,g,a=>by
  simp only[dO]at h;rcases bD.1 a with rfl|a
  ·exact h.1
  ·exact zK h.2 g a
def MV:∀{l:List aH}{f:aH},f∈l->qZ f<cZ l
 |g::l,f,h=>by
  simp only[cZ];rcases bD.1 h with rfl|h
  ·omega
  ·have:=MV h;omega
mutual
def yI(w:Nat):aH->Int
 |.mk _ y n s k=>if y=0 then(if s=[]/\k=[]then 0 else 8)else if y=1 then(if n=0/\k=[]then 0 else 8)else if y=2 then(if n=0/\s=[]then(if 8<=w then 9 else gJ (w+1) 0 k)else 8)else 8
def gJ(w:Nat)(ahead:Int):List aH->Int
 |[]=>0
 |f::r=>if f.tag=0 then 18 else if 4294967296<f.tag then 18 else if f.tag<=ahead then 7 else if yI w f≠0 then yI w f else gJ w f.tag r
end
@[simp] theorem Le(t y n:Int)(s:Q0)(k:List aH):(iE (.mk t y n s k)).cells=[.i .u64 t,.i .i64 y,.i .u64 n,.s s,.l (aC k)]:=by simp only[iE];rfl
def Lh(k:List aH):(aC k).length=0↔k=[]:=by rw[jg,WU]
def ae1:∀(N:Nat)(l:List aH),cZ l<N->dO l->l.length<=1000000->∀w:Nat,w<=8->TT.lim 86 [.l (aC l),.i .i64 w]=some [.i .i64 (gJ w 0 l)]
 |0,l,h,_,_,_,_=>by omega
 |N+1,l,T,F,I,w,P=>by
  have loop:∀m i (ahead:Int),i+m=l.length->TT.lim 87 [.i .i64 w,.i .u64 ahead,.l (aC l),.i .i64 l.length,.i .i64 i]=some (if gJ w ahead (l.drop i)=0 then[.i .i64 1]else[.i .i64 0,.i .i64 (gJ w ahead (l.drop i))]):=by
   intro m;induction m with
   |zero=>
    intro i ahead hi;have r:l.drop i=[]:=cO (by omega);refine au rfl rfl ?_;have h:¬((i:Int)<l.length):=by omega
    simp[h,r,gJ]
   |succ m Q=>
    intro i ahead hi;have q:i<l.length:=by omega
    rw[dF q];have G:=zK F l[i] (dW q);have S:=MV (dW q);have b:(aC l)[i]? =some (iE l[i]):=by rw[rW,iw,bP q];rfl
    have u:((i:Int)+1)=((i+1:Nat):Int):=by omega
    have c:=λa=>Q (i+1) a (by omega);simp only[<-u]at c;generalize l[i]=f at *;obtain⟨t,y,n,s,k⟩:=f;simp only[qF]at G;simp only[qZ]at S;have g:=wrap64 (n:=(i:Int)+1) (by omega) (by omega);have J:=wrap64 (n:=(w:Int)+1) (by omega) (by omega);refine au rfl rfl ?_;have h:((i:Int)<l.length):=by omega
    have z:=λh=>ae1 N k (by omega) G.2 G.1.2.2.2.2.2.2.2 (w+1) h;simp only[Int.natCast_add,Int.natCast_one]at z;have A:((aC k).length=0)=(k=[]):=propext (Lh k);simp only[gJ,aH.tag];by_cases d:t=0
    ·simp[h,b,d]
    by_cases e:4294967296<t
    ·simp[h,b,d,e]
    by_cases j:t<=ahead
    ·simp[h,b,d,e,j]
    simp only[yI];by_cases L:y=0
    ·subst L;by_cases o:s=[]
     ·by_cases p:k=[]
      ·simp[h,b,d,e,j,o,p,g,c,aC]
      ·simp[h,b,d,e,j,o,p,g,c,A]
     ·simp[h,b,d,e,j,o]
    by_cases M:y=1
    ·subst M;by_cases o:n=0
     ·by_cases p:k=[]
      ·simp[h,b,d,e,j,o,p,g,c,aC]
      ·simp[h,b,d,e,j,o,p,g,c,A]
     ·simp[h,b,d,e,j,o]
    by_cases O:y=2
    ·subst O;by_cases o:n=0
     ·by_cases p:s=[]
      ·by_cases H:8<=w
       ·have D:(8:Int)<=w:=by omega
        simp[h,b,d,e,j,o,p,H,D]
       ·have D:¬(8:Int)<=w:=by omega
        have z:=z (by omega);by_cases v:gJ (w+1) 0 k=0
        ·rw[v]at z;simp[h,b,d,e,j,o,p,H,D,J,z,v,g,c,aH.tag]
        ·simp[h,b,d,e,j,o,p,H,D,J,z,v,g,c,aH.tag]
      ·simp[h,b,d,e,j,o,p]
     ·simp[h,b,d,e,j,o]
    simp[h,b,d,e,j,L,M,O]
  have r:=loop l.length 0 0 (by omega);rw[bK]at r;refine aG rfl rfl ?_ rfl;have B:=jg l;by_cases E:gJ w 0 l=0
  ·rw[aj E]at r;have x:TT.lim 87 [.i .i64 w,.i .u64 0,.l (aC l),.i .i64 (aC l).length,.i .i64 0]=some [.i .i64 1]:=by rw[B];exact r
   simp[x,E]
  ·rw[ah E]at r;have x:TT.lim 87 [.i .i64 w,.i .u64 0,.l (aC l),.i .i64 (aC l).length,.i .i64 0]=some [.i .i64 0,.i .i64 (gJ w 0 l)]:=by rw[B];exact r
   simp[x,E]
def TA(l:List aH)(b:dO l)(a:l.length<=1000000):TT.lim 85 [.l (aC l)]=some [.i .i64 (gJ 0 0 l)]:=by have h:=ae1 (cZ l+1) l (by omega) b a 0 (by omega);have c:TT.lim 86 [.l (aC l),.i .i64 0]=_:=h;refine aG rfl rfl ?_ rfl;simp[c]
def Vs:∀(N:Nat)(l:List aH),cZ l<N->dO l->l.length<=1000000->∀w:Nat,w<=8->TT.lim 193 [.l (aC l),.i .i64 w]=some [.i .i64 (gJ w 0 l)]
 |0,l,h,_,_,_,_=>by omega
 |N+1,l,hN,X,ab,w,ac=>by
  have loop:∀m i (ahead:Int),i+m=l.length->(i=0->ahead=0)->(∀j,j+1=i->∀h:j<l.length,(l[j]).tag=ahead)->TT.lim 194 [.l (aC l),.i .i64 w,.i .i64 l.length,.i .i64 i]=some (if gJ w ahead (l.drop i)=0 then[.i .i64 1]else[.i .i64 0,.i .i64 (gJ w ahead (l.drop i))]):=by
   intro m;induction m with
   |zero=>
    intro i ahead hi _ _;have I:l.drop i=[]:=cO (by omega);refine au rfl rfl ?_;have h:¬((i:Int)<l.length):=by omega
    simp[h,I,gJ]
   |succ m ih=>
    intro i ahead hi Y ha;have J:i<l.length:=by omega
    rw[dF J];have Z:=zK X l[i] (dW J);have hs:=MV (dW J);have a:(aC l)[i]? =some (iE l[i]):=by rw[rW,iw,bP J];rfl
    have O:((i:Int)+1)=((i+1:Nat):Int):=by omega
    have x:=ih (i+1) l[i].tag (by omega) (by omega) (λj hj h=>by have:j=i:=by omega
                                                                 subst this;rfl)
    simp only[<-O]at x;have aa:∀b:¬i=0,∃y' n' s' k',(aC l)[i-1]? =some (iE (.mk ahead y' n' s' k')):=by intro b;rw[rW,iw,bP (show i-1<l.length by omega)];have:=ha (i-1) (by omega) (by omega);generalize l[i-1]=g at *;obtain⟨t',y',n',s',k'⟩:=g;simp only[aH.tag]at this;subst this;exact⟨_,_,_,_,rfl⟩
    generalize l[i]=f at *;obtain⟨t,y,n,s,k⟩:=f;simp only[qF]at Z;simp only[qZ]at hs;dsimp only[aH.tag]at x;have z:=wrap64 (n:=(i:Int)+1) (by omega) (by omega);have c:=wrap64 (n:=(i:Int)-1) (by omega) (by omega);have M:=wrap64 (n:=(w:Int)+1) (by omega) (by omega);refine au rfl rfl ?_;have h:((i:Int)<l.length):=by omega
    have H:=λh=>Vs N k (by omega) Z.2 Z.1.2.2.2.2.2.2.2 (w+1) h;simp only[Int.natCast_add,Int.natCast_one]at H;have ad:((aC k).length=0)=(k=[]):=propext (Lh k);have B:TT.lim 193 [.l [],.i .i64 ((w:Int)+1)]=some [.i .i64 0]:=by
     refine aG rfl rfl ?_ rfl;have I:TT.lim 194 [.l [],.i .i64 ((w:Int)+1),.i .i64 0,.i .i64 0]=some [.i .i64 1]:=by refine au rfl rfl ?_;simp
     simp[I]
    simp only[gJ,aH.tag];by_cases d:t=0
    ·simp[h,a,d]
    by_cases p:4294967296<t
    ·simp[h,a,d,p]
    by_cases b:(0:Int)<i
    ·obtain⟨y',n',s',k',D⟩:=aa (by omega);have o:0<i:=by omega
     have E:(1:Int)<=i:=by omega
     by_cases q:t<=ahead
     ·simp[h,a,d,p,b,o,E,c,D,q]
     simp only[yI];by_cases P:y=0
     ·subst P;by_cases r:s=[]
      ·by_cases u:k=[]
       ·simp[h,a,d,p,b,o,E,c,D,q,r,u,z,M,x,B,if_true,if_false,aC,aH.tag]<;>rfl
       ·have A:¬(aC k).length=0:=by rw[Lh];exact u
        have Q:¬aC k=[]:=λe=>A (by rw[e];rfl);simp[h,a,d,p,b,o,E,c,D,q,r,u,Q]
      ·simp[h,a,d,p,b,o,E,c,D,q,r]
     by_cases S:y=1
     ·subst S;by_cases r:n=0
      ·by_cases u:k=[]
       ·simp[h,a,d,p,b,o,E,c,D,q,r,u,z,M,x,B,if_true,if_false,aC,aH.tag]<;>rfl
       ·have A:¬(aC k).length=0:=by rw[Lh];exact u
        have Q:¬aC k=[]:=λe=>A (by rw[e];rfl);simp[h,a,d,p,b,o,E,c,D,q,r,u,Q]
      ·simp[h,a,d,p,b,o,E,c,D,q,r]
     by_cases T:y=2
     ·subst T;by_cases r:n=0
      ·by_cases u:s=[]
       ·by_cases F:8<=w
        ·have L:(w:Int)=8:=by omega
         simp[h,a,d,p,b,o,E,c,D,q,r,u,F,L]
        ·have L:¬(w:Int)=8:=by omega
         have H:=H (by omega);by_cases v:gJ (w+1) 0 k=0
         ·rw[v]at H;simp[h,a,d,p,b,o,E,c,D,q,r,u,F,L,M,H,v,z,x,aH.tag]<;>rfl
         ·simp[h,a,d,p,b,o,E,c,D,q,r,u,F,L,M,H,v,z,x,aH.tag]<;>rfl
       ·simp[h,a,d,p,b,o,E,c,D,q,r,u]
      ·simp[h,a,d,p,b,o,E,c,D,q,r]
     by_cases F:y<0
     ·simp[h,a,d,p,b,o,E,c,D,q,P,S,T,F]
     ·have v:2<y:=by omega
      simp[h,a,d,p,b,o,E,c,D,q,P,S,T,F,v]
    ·have G:(0<i)=False:=eq_false (by omega);have q:¬t<=ahead:=by rw[Y (by omega)];omega
     simp only[yI];by_cases P:y=0
     ·subst P;by_cases r:s=[]
      ·by_cases u:k=[]
       ·simp[h,a,d,p,G,q,r,u,z,M,x,B,if_true,if_false,aC,aH.tag]<;>rfl
       ·have A:¬(aC k).length=0:=by rw[Lh];exact u
        have Q:¬aC k=[]:=λe=>A (by rw[e];rfl);simp[h,a,d,p,G,q,r,u,Q]
      ·simp[h,a,d,p,G,q,r]
     by_cases S:y=1
     ·subst S;by_cases r:n=0
      ·by_cases u:k=[]
       ·simp[h,a,d,p,G,q,r,u,z,M,x,B,if_true,if_false,aC,aH.tag]<;>rfl
       ·have A:¬(aC k).length=0:=by rw[Lh];exact u
        have Q:¬aC k=[]:=λe=>A (by rw[e];rfl);simp[h,a,d,p,G,q,r,u,Q]
      ·simp[h,a,d,p,G,q,r]
     by_cases T:y=2
     ·subst T;by_cases r:n=0
      ·by_cases u:s=[]
       ·by_cases F:8<=w
        ·have L:(w:Int)=8:=by omega
         simp[h,a,d,p,G,q,r,u,F,L]
        ·have L:¬(w:Int)=8:=by omega
         have H:=H (by omega);by_cases v:gJ (w+1) 0 k=0
         ·rw[v]at H;simp[h,a,d,p,G,q,r,u,F,L,M,H,v,z,x,aH.tag]<;>rfl
         ·simp[h,a,d,p,G,q,r,u,F,L,M,H,v,z,x,aH.tag]<;>rfl
       ·simp[h,a,d,p,G,q,r,u]
      ·simp[h,a,d,p,G,q,r]
     by_cases F:y<0
     ·simp[h,a,d,p,G,q,P,S,T,F]
     ·have v:2<y:=by omega
      simp[h,a,d,p,G,q,P,S,T,F,v]
  have I:=loop l.length 0 0 (by omega) (λ_=>rfl) (λj hj=>by omega);rw[bK]at I;refine aG rfl rfl ?_ rfl;have V:=jg l;by_cases W:gJ w 0 l=0
  ·rw[aj W]at I;have U:TT.lim 194 [.l (aC l),.i .i64 w,.i .i64 (aC l).length,.i .i64 0]=some [.i .i64 1]:=by rw[V];exact I
   simp[U,W]
  ·rw[ah W]at I;have U:TT.lim 194 [.l (aC l),.i .i64 w,.i .i64 (aC l).length,.i .i64 0]=some [.i .i64 0,.i .i64 (gJ w 0 l)]:=by rw[V];exact I
   simp[U,W]
inductive Pl where
 |rem|allow|name|region|note|d|t
 |num (k:Nat)
def Je:Q0:=[114,101,109,97,105,110,105,110,103]
def Jc:Q0:=[97,108,108,111,119,101,100]
def Gh:Q0:=[110,97,109,101]
def Gj:Q0:=[114,101,103,105,111,110]
def BL:Q0:=[110,111,116,101]
def Jd:Q0:=[100,101,115,99,114]
def Jf:Q0:=[116,97,98,108,101]
def F8:Q0:=[105,100]
def Gg:Q0:=[109,105,110]
def Gf:Q0:=[109,97,120]
def FY:Q0:=[99,104,111,115,101,110]
def F7:Q0:=[102,108,97,103,115]
def FZ:Q0:=[99,111,115,116]
def Gi:Q0:=[112,114,105,111,114,105,116,121]
def F5:Q0:=[100,101,97,100,108,105,110,101]
def Gl:Q0:=[114,101,116,114,121]
def yQ:Q0:=[101,112,111,99,104]
def FX:Q0:=[98,97,115,101]
def F6:Q0:=[100,105,103,101,115,116]
def F9:Q0:=[108,97,103]
def yP:Q0:=[99,111,100,101]
def zX:Q0:=[119,97,110,116]
def placeOf(n:Q0):Option Pl:=
 if n=Je then some .rem else if n=Jc then some .allow else if n=Gh then some .name else if n=Gj then some .region else if n=BL then some .note else if n=Jd then some .d else if n=Jf then some .t else if n=F8 then some (.num 0)else if n=Gg then some (.num 1)else if n=Gf then some (.num 2)else if n=FY then some (.num 3)else if n=F7 then some (.num 4)else if n=FZ then some (.num 5)else if n=Gi then some (.num 6)else if n=F5 then some (.num 7)else if n=Gl then some (.num 8)else if n=yQ then some (.num 9)else if n=FX then some (.num 10)else if n=F6 then some (.num 11)else if n=F9 then some (.num 12)else if n=yP then some (.num 13)else if n=zX then some (.num 14)else none
def ahS:placeOf Je=some .rem:=rfl
def ahA:placeOf Jc=some .allow:=rfl
def ahO:placeOf Gh=some .name:=rfl
def ahR:placeOf Gj=some .region:=rfl
def ahP:placeOf BL=some .note:=rfl
def ahG:placeOf Jd=some .d:=rfl
def ahU:placeOf Jf=some .t:=rfl
def ahK:placeOf F8=some (.num 0):=rfl
def ahN:placeOf Gg=some (.num 1):=rfl
def ahM:placeOf Gf=some (.num 2):=rfl
def ahC:placeOf FY=some (.num 3):=rfl
def ahJ:placeOf F7=some (.num 4):=rfl
def ahE:placeOf FZ=some (.num 5):=rfl
def ahQ:placeOf Gi=some (.num 6):=rfl
def ahF:placeOf F5=some (.num 7):=rfl
def ahT:placeOf Gl=some (.num 8):=rfl
def ahI:placeOf yQ=some (.num 9):=rfl
def ahB:placeOf FX=some (.num 10):=rfl
def ahH:placeOf F6=some (.num 11):=rfl
def ahL:placeOf F9=some (.num 12):=rfl
def ahD:placeOf yP=some (.num 13):=rfl
def ahV:placeOf zX=some (.num 14):=rfl
def DW(b:aN)(k:Nat):Int:=match k with
 |0=>b.id
 |1=>b.min
 |2=>b.max
 |3=>b.chosen
 |4=>b.flags
 |5=>b.cost
 |6=>b.priority
 |7=>b.deadline
 |8=>b.retry
 |9=>b.epoch
 |10=>b.base
 |11=>b.digest
 |12=>b.lag
 |13=>b.code
 |_=>b.want
def Gp(b:aN):Pl->Bool
 |.rem=>decide (b.remaining=0)
 |.allow=>!b.allowed
 |.name=>decide (b.name=[])
 |.region=>decide (b.region=[])
 |.note=>decide (b.note=[])
 |.d=>decide (b.d=[])
 |.t=>decide (b.t=[])
 |.num k=>decide (DW b k=0)
def nJ(b:aN)(n:Q0):Bool:=match placeOf n with
 |some p=>Gp b p
 |none=>true
def uX(b:aN):Pl->Int
 |.name=>iV b.name 0 256
 |.region=>iV b.region 0 256
 |.note=>iV b.note 0 256
 |.d=>if b.d=[]then 0 else tZ b.d
 |.t=>jR b.t
 |_=>0
def qW(b:aN)(n:Q0):Int:=match placeOf n with
 |some p=>uX b p
 |none=>0
def zz(x:Int):Int:=if 0<=x then 2*x else -2*x-1
def aX(b:aN):Pl->Int×Q0
 |.rem=>(zz b.remaining,[])
 |.allow=>(if b.allowed=true then 1 else 0,[])
 |.name=>(0,b.name)
 |.region=>(0,b.region)
 |.note=>(0,b.note)
 |.d=>(0,if b.d=[]then[]else aU b.d)
 |.t=>(0,if b.t=[]then[]else(Gq b.t).1)
 |.num k=>(DW b k,[])
def bQ:Pl->Int
 |.num _=>0
 |.rem=>0
 |.allow=>0
 |_=>1
def kC:Pl->Int
 |.num _=>0
 |.allow=>1
 |.rem=>2
 |.d=>4
 |.t=>5
 |_=>3
def nameOf:Pl->List UInt8
 |.rem=>Je
 |.allow=>Jc
 |.name=>Gh
 |.region=>Gj
 |.note=>BL
 |.d=>Jd
 |.t=>Jf
 |.num k=>match k with
  |0=>F8
  |1=>Gg
  |2=>Gf
  |3=>FY
  |4=>F7
  |5=>FZ
  |6=>Gi
  |7=>F5
  |8=>Gl
  |9=>yQ
  |10=>FX
  |11=>F6
  |12=>F9
  |13=>yP
  |_=>zX
def U3:Pl->Prop
 |.num k=>k<15
 |_=>True
def auq{c:Prop}[Decidable c]{a b:Option Pl}{p:Pl}(h:(if c then a else b)=some p):(c/\a=some p)\/(¬c/\b=some p):=by
 by_cases e:c
 ·rw[aj e]at h;exact .inl ⟨e,h⟩
 ·rw[ah e]at h;exact .inr ⟨e,h⟩
def D7(n:Q0)(p:Pl)(h:placeOf n=some p):n=nameOf p/\U3 p/\n∈fZ:=by
 unfold placeOf at h
 iterate 22
  replace h:=auq h
  rcases h with⟨e,h⟩|⟨-,h⟩
  ·cases h;subst e;exact⟨rfl,by first|exact trivial|exact(show _<15 by decide),by decide⟩
 cases h
def aw9{a b:Q0}{p:Pl}(c:placeOf a=some p)(d:placeOf b=some p):a=b:=by rw[(D7 a p c).1,(D7 b p d).1]
def aup{n m:Q0}{p q:Pl}(b:placeOf n=some p)(a:placeOf m=some q):(n=m)=(p=q):=
 propext ⟨λe=>by subst e;rw[b]at a;cases a;rfl,λe=>by subst e;exact aw9 b a⟩
def I5{n:Q0}{p:Pl}(a:placeOf n=some p):((n=[114,101,109,97,105,110,105,110,103])=(p=.rem))/\((n=[97,108,108,111,119,101,100])=(p=.allow))/\((n=[110,97,109,101])=(p=.name))/\((n=[114,101,103,105,111,110])=(p=.region))/\((n=[110,111,116,101])=(p=.note))/\((n=[100,101,115,99,114])=(p=.d))/\((n=[116,97,98,108,101])=(p=.t))/\((n=[105,100])=(p=.num 0))/\((n=[109,105,110])=(p=.num 1))/\((n=[109,97,120])=(p=.num 2))/\((n=[99,104,111,115,101,110])=(p=.num 3))/\((n=[102,108,97,103,115])=(p=.num 4))/\((n=[99,111,115,116])=(p=.num 5))/\((n=[112,114,105,111,114,105,116,121])=(p=.num 6))/\((n=[100,101,97,100,108,105,110,101])=(p=.num 7))/\((n=[114,101,116,114,121])=(p=.num 8))/\((n=[101,112,111,99,104])=(p=.num 9))/\((n=[98,97,115,101])=(p=.num 10))/\((n=[100,105,103,101,115,116])=(p=.num 11))/\((n=[108,97,103])=(p=.num 12))/\((n=[99,111,100,101])=(p=.num 13))/\((n=[119,97,110,116])=(p=.num 14)):=by and_intros<;>exact aup a rfl
def afQ{n:Q0}(h:placeOf n=none):((n=[114,101,109,97,105,110,105,110,103])=False)/\((n=[97,108,108,111,119,101,100])=False)/\((n=[110,97,109,101])=False)/\((n=[114,101,103,105,111,110])=False)/\((n=[110,111,116,101])=False)/\((n=[100,101,115,99,114])=False)/\((n=[116,97,98,108,101])=False)/\((n=[105,100])=False)/\((n=[109,105,110])=False)/\((n=[109,97,120])=False)/\((n=[99,104,111,115,101,110])=False)/\((n=[102,108,97,103,115])=False)/\((n=[99,111,115,116])=False)/\((n=[112,114,105,111,114,105,116,121])=False)/\((n=[100,101,97,100,108,105,110,101])=False)/\((n=[114,101,116,114,121])=False)/\((n=[101,112,111,99,104])=False)/\((n=[98,97,115,101])=False)/\((n=[100,105,103,101,115,116])=False)/\((n=[108,97,103])=False)/\((n=[99,111,100,101])=False)/\((n=[119,97,110,116])=False):=by and_intros<;>exact eq_false λe=>by subst e;exact absurd h (by decide)
def D6{Q:(p:Pl)->U3 p->Prop}(h0:Q (.rem) trivial)(h1:Q (.allow) trivial)(o:Q (.name) trivial)(q:Q (.region) trivial)(r:Q (.note) trivial)(h5:Q (.d) trivial)(h6:Q (.t) trivial)(s:Q (.num 0) (show 0<15 by decide))(t:Q (.num 1) (show 1<15 by decide))(u:Q (.num 2) (show 2<15 by decide))(b:Q (.num 3) (show 3<15 by decide))(c:Q (.num 4) (show 4<15 by decide))(d:Q (.num 5) (show 5<15 by decide))(e:Q (.num 6) (show 6<15 by decide))(f:Q (.num 7) (show 7<15 by decide))(g:Q (.num 8) (show 8<15 by decide))(h:Q (.num 9) (show 9<15 by decide))(i:Q (.num 10) (show 10<15 by decide))(j:Q (.num 11) (show 11<15 by decide))(l:Q (.num 12) (show 12<15 by decide))(m:Q (.num 13) (show 13<15 by decide))(n:Q (.num 14) (show 14<15 by decide))(p:Pl)(a:U3 p):Q p a:=by
 cases p with
 |num k=>simp only[U3]at a;rcases(show k=0\/k=1\/k=2\/k=3\/k=4\/k=5\/k=6\/k=7\/k=8\/k=9\/k=10\/k=11\/k=12\/k=13\/k=14 by omega)with rfl|rfl|rfl|rfl|rfl|rfl|rfl|rfl|rfl|rfl|rfl|rfl|rfl|rfl|rfl<;>assumption
 |_=>assumption
def uS(a:Wg):Q1:=a.map λp=>.g [.s p,.b true]
def BH(a:Wg)(x:Q0):Wg:=if x∈a then a else a++[x]
def XF(n:Q0):∀a:Wg,iI (.s n) (uS a)=if n∈a then some (.b true)else none
 |[]=>rfl
 |p::a=>by
  have b:=XF n a;simp only[uS,gX,iI,oP]at b⊢;by_cases e:n=p
  ·subst e;simp
  ·have c:¬p=n:=λh=>e h.symm;simp[e,b]
def ah8(x:Q0):∀a:Wg,lQ (.s x) (.b true) (uS a)=uS (BH a x)
 |[]=>rfl
 |p::a=>by
  have b:=ah8 x a;unfold BH at b⊢;simp only[uS,gX,lQ,oP]at b⊢;by_cases e:x=p
  ·subst e;simp
  ·have d:(x==p)=false:=by simpa using e
   simp only[d,gy,if_false];rw[b];by_cases c:x∈a
   ·simp only[c,if_true,bD,or_true,gX]
   ·simp only[c,if_false,bD,e,or_false,bJ,gX]
def zO(a:Wg)(l:List dh):Wg:=l.foldl (λa s=>BH a s.name) a
def avg(n x:Q0)(a:Wg):n∈BH a x↔n∈a\/x=n:=by
 unfold BH;split
 ·next h=>exact⟨.inl,λe=>e.elim id (λe=>e▸h)⟩
 ·simp[eq_comm]
def agX(n:Q0):∀(l:List dh)(a:Wg),n∈zO a l↔n∈a\/∃s∈l,s.name=n
 |[],a=>by simp[zO]
 |s::l,a=>by have:=agX n l (BH a s.name);unfold zO at this⊢;rw[List.foldl_cons,this,avg];simp[or_assoc]
def oz(l:List dh)(n:Q0):Bool:=l.any λs=>decide (s.name=n)
def avf(n:Q0)(l:List dh):decide (n∈zO [] l)=oz l n:=by rw[qN,decide_eq_true_iff,agX];simp[oz]
def agR(b:aN)(r:Q1)(l:List dh)(f:l.length<=1000):∀(m i:Nat)(a:Wg),i+m=l.length->
 TT.lim 58 [.l (l.map bI),.i .i64 l.length,.i .i64 i,.l (uS a),.i .i64 b.kind,.i .u64 b.id,.i .u64 b.min,.i .u64 b.max,.i .u64 b.chosen,.i .u64 b.flags,.i .u64 b.cost,.i .u64 b.priority,.i .u64 b.deadline,.i .u64 b.retry,.i .u64 b.epoch,.i .u64 b.base,.i .u64 b.digest,.i .u64 b.lag,.i .u64 b.code,.i .u64 b.want,.i .i64 b.remaining,.b b.allowed,.s b.name,.s b.region,.s b.note,.l (b.d.map ent),.l (b.t.map row),.l r]=some [.i .i64 0,.l (uS (zO a (l.drop i)))]
 |0,i,a,hi=>by
  have h0:l.drop i=[]:=cO (by omega);refine au rfl rfl ?_;have h:¬((i:Int)<l.length):=by omega
  simp[h,h0,zO]
 |m+1,i,a,hi=>by
  have d:i<l.length:=by omega
  have e:=agR b r l f m (i+1) (BH a l[i].name) (by omega);have c:((i:Int)+1)=((i+1:Nat):Int):=by omega
  rw[<-c]at e;have g:=ah8 l[i].name a;have j:zO a (l.drop i)=zO (BH a l[i].name) (l.drop (i+1)):=by rw[dF d];rfl
  rw[j];generalize zO (BH a l[i].name) (l.drop (i+1))=X at *;generalize uS (BH a l[i].name)=Y at *;refine au rfl rfl ?_;have h:((i:Int)<l.length):=by omega
  have k:=wrap64 (n:=(i:Int)+1) (by omega) (by omega);simp[h,d,k,g,e]
def akE(b:aN)(r:Q1)(n:Q0)(c:Prop):Prop:=∀(f:GV)(a:Wg)(i:Nat)(e:Wg)(d:Q1)(h:i<a.length),((i:Int)<a.length)->IntKind.i64.wrap ((i:Int)+1)=(i:Int)+1->a[i]=n->iI (.s n) (uS e)=none->
    TT.lim 60 [f,.l (a.map .s),.i .i64 a.length,.i .i64 ((i:Int)+1),.l (uS e),.i .i64 b.kind,.i .u64 b.id,.i .u64 b.min,.i .u64 b.max,.i .u64 b.chosen,.i .u64 b.flags,.i .u64 b.cost,.i .u64 b.priority,.i .u64 b.deadline,.i .u64 b.retry,.i .u64 b.epoch,.i .u64 b.base,.i .u64 b.digest,.i .u64 b.lag,.i .u64 b.code,.i .u64 b.want,.i .i64 b.remaining,.b b.allowed,.s b.name,.s b.region,.s b.note,.l (b.d.map ent),.l (b.t.map row),.l r]=some d->
    (c->TT.lim 60 [f,.l (a.map .s),.i .i64 a.length,.i .i64 i,.l (uS e),.i .i64 b.kind,.i .u64 b.id,.i .u64 b.min,.i .u64 b.max,.i .u64 b.chosen,.i .u64 b.flags,.i .u64 b.cost,.i .u64 b.priority,.i .u64 b.deadline,.i .u64 b.retry,.i .u64 b.epoch,.i .u64 b.base,.i .u64 b.digest,.i .u64 b.lag,.i .u64 b.code,.i .u64 b.want,.i .i64 b.remaining,.b b.allowed,.s b.name,.s b.region,.s b.note,.l (b.d.map ent),.l (b.t.map row),.l r]=some d)/\(¬c->TT.lim 60 [f,.l (a.map .s),.i .i64 a.length,.i .i64 i,.l (uS e),.i .i64 b.kind,.i .u64 b.id,.i .u64 b.min,.i .u64 b.max,.i .u64 b.chosen,.i .u64 b.flags,.i .u64 b.cost,.i .u64 b.priority,.i .u64 b.deadline,.i .u64 b.retry,.i .u64 b.epoch,.i .u64 b.base,.i .u64 b.digest,.i .u64 b.lag,.i .u64 b.code,.i .u64 b.want,.i .i64 b.remaining,.b b.allowed,.s b.name,.s b.region,.s b.note,.l (b.d.map ent),.l (b.t.map row),.l r]=some [.i .i64 0])
def ag6:TT.lim 59 []=some [.l (fZ.map .s)]:=Jr (Ds:=Ds) (k:=59) (f:=UY) rfl rfl
def ahf(b:aN){n:Q0}{p:Pl}(h:placeOf n=some p):nJ b n=Gp b p:=by unfold nJ;rw[h]
set_option maxHeartbeats 4000000 in
def aBF(b:aN)(r:Q1){n:Q0}{p:Pl}(c:placeOf n=some p):akE b r n (Gp b p=true):=by
 intro o q i s l h d k e f g;have j:=I5 c;have m:=(D7 n p c).2.1;clear c;induction p,m using D6<;>(refine⟨λa=>au rfl rfl ?_,λa=>au rfl rfl ?_⟩<;>simp only[Gp,DW,decide_eq_true_iff,zf]at a)
 all_goals first
  |(have a:=eq_true a;simp[d,h,e,k,f,a,j,g];done)
  |(rw[a]at g;simp[d,h,e,k,f,a,j,g];done)
  |(simp[d,h,e,f,a,j];done)
def agS(b:aN)(r:Q1)(l:GV)(a:Wg)(g:a.length<=1000)(j:∀n∈a,placeOf n≠none)(c:Wg):∀(m i:Nat),i+m=a.length->
 TT.lim 60 [l,.l (a.map .s),.i .i64 a.length,.i .i64 i,.l (uS c),.i .i64 b.kind,.i .u64 b.id,.i .u64 b.min,.i .u64 b.max,.i .u64 b.chosen,.i .u64 b.flags,.i .u64 b.cost,.i .u64 b.priority,.i .u64 b.deadline,.i .u64 b.retry,.i .u64 b.epoch,.i .u64 b.base,.i .u64 b.digest,.i .u64 b.lag,.i .u64 b.code,.i .u64 b.want,.i .i64 b.remaining,.b b.allowed,.s b.name,.s b.region,.s b.note,.l (b.d.map ent),.l (b.t.map row),.l r]=some (if(a.drop i).all (λn=>decide (n∈c) ||nJ b n)=true then[.i .i64 1]else[.i .i64 0])
 |0,i,hi=>by
  have h0:a.drop i=[]:=cO (by omega);refine au rfl rfl ?_;have h:¬((i:Int)<a.length):=by omega
  simp[h,h0]
 |m+1,i,hi=>by
  have d:i<a.length:=by omega
  have o:=agS b r l a g j c m (i+1) (by omega);have f:((i:Int)+1)=((i+1:Nat):Int):=by omega
  rw[<-f]at o;have u:(a.drop i).all (λn=>decide (n∈c) ||nJ b n)=((decide (a[i]∈c) ||nJ b a[i])&&(a.drop (i+1)).all (λn=>decide (n∈c) ||nJ b n)):=by rw[dF d,sW]
  rw[u];generalize(a.drop (i+1)).all (λn=>decide (n∈c) ||nJ b n)=X at *;by_cases e:a[i]∈c
  ·have k:=XF a[i] c;rw[aj e]at k;have v:((i:Int)<a.length):=by omega
   have w:=wrap64 (n:=(i:Int)+1) (by omega) (by omega);rw[Bh e,Bool.true_or,QE];refine au rfl rfl ?_;simp[v,d,w,k,o]
  ·have k:=XF a[i] c;rw[ah e]at k;obtain⟨p,q⟩:=Xg.1 (j _ (dW d));have s:=ahf b q;obtain⟨x,y⟩:=aBF b r q l a i c _ d (by omega) (wrap64 (n:=(i:Int)+1) (by omega) (by omega)) rfl k o;rw[zF e,Aq];cases t:nJ b a[i]with
   |true=>rw[x (by rw[<-s];exact t),QE]
   |false=>rw[y (by rw[<-s,t];decide),Bool.false_and];rfl
def Hl(b:aN)(r:Q1)(k:Nat)(a:Q1):Prop:=TT.lim k [.i .i64 b.kind,.i .u64 b.id,.i .u64 b.min,.i .u64 b.max,.i .u64 b.chosen,.i .u64 b.flags,.i .u64 b.cost,.i .u64 b.priority,.i .u64 b.deadline,.i .u64 b.retry,.i .u64 b.epoch,.i .u64 b.base,.i .u64 b.digest,.i .u64 b.lag,.i .u64 b.code,.i .u64 b.want,.i .i64 b.remaining,.b b.allowed,.s b.name,.s b.region,.s b.note,.l (b.d.map ent),.l (b.t.map row),.l r]=some a
def PN(b:aN){n:Q0}{p:Pl}(h:placeOf n=some p):qW b n=uX b p:=by unfold qW;rw[h]
set_option maxHeartbeats 4000000 in
def avd(b:aN)(r:Q1)(a:lC b)(d:∀r∈b.t,gq r.1=true):(∀k∈[62,63,69,70,71,72,73,74,75,76,77,78,79,80,81,82,83],Hl b r k [.i .i64 0])/\Hl b r 64 [.i .i64 0,.i .i64 (uX b .name)]/\Hl b r 65 [.i .i64 0,.i .i64 (uX b .region)]/\Hl b r 66 [.i .i64 0,.i .i64 (uX b .note)]/\Hl b r 67 [.i .i64 0,.i .i64 (uX b .d)]/\Hl b r 68 [.i .i64 0,.i .i64 (uX b .t)]:=by
 have f:=EX b.name 0 256 a.name;have g:=EX b.region 0 256 a.region;have h:=EX b.note 0 256 a.note;have i:=ad4 b.d a.d;have j:=SA b.t a.t d;refine⟨λk c=>?_,au rfl rfl ?_,au rfl rfl ?_,au rfl rfl ?_,au rfl rfl ?_,au rfl rfl ?_⟩
 ·simp only[bD,List.not_mem_nil,or_false]at c;rcases c with rfl|rfl|rfl|rfl|rfl|rfl|rfl|rfl|rfl|rfl|rfl|rfl|rfl|rfl|rfl|rfl|rfl<;>(refine au rfl rfl ?_;simp)
 ·simp[uX,f]
 ·simp[uX,g]
 ·simp[uX,h]
 ·by_cases e:b.d=[]
  ·simp[uX,e]
  ·have l:¬(List.map ent b.d)=[]:=by simpa using e
   have m:0<b.d.length:=EC.2 e;simp[uX,e,i]
 ·simp[uX,j]
def akF(b:aN)(r:Q1)(n:Q0)(c:Int):Prop:=∀(l:List dh)(i:Nat)(a:Q1)(h:i<l.length),((i:Int)<l.length)->IntKind.i64.wrap ((i:Int)+1)=(i:Int)+1->l[i].name=n->
    TT.lim 61 [.l (l.map bI),.i .i64 l.length,.i .i64 ((i:Int)+1),.i .i64 b.kind,.i .u64 b.id,.i .u64 b.min,.i .u64 b.max,.i .u64 b.chosen,.i .u64 b.flags,.i .u64 b.cost,.i .u64 b.priority,.i .u64 b.deadline,.i .u64 b.retry,.i .u64 b.epoch,.i .u64 b.base,.i .u64 b.digest,.i .u64 b.lag,.i .u64 b.code,.i .u64 b.want,.i .i64 b.remaining,.b b.allowed,.s b.name,.s b.region,.s b.note,.l (b.d.map ent),.l (b.t.map row),.l r]=some a->
    TT.lim 61 [.l (l.map bI),.i .i64 l.length,.i .i64 i,.i .i64 b.kind,.i .u64 b.id,.i .u64 b.min,.i .u64 b.max,.i .u64 b.chosen,.i .u64 b.flags,.i .u64 b.cost,.i .u64 b.priority,.i .u64 b.deadline,.i .u64 b.retry,.i .u64 b.epoch,.i .u64 b.base,.i .u64 b.digest,.i .u64 b.lag,.i .u64 b.code,.i .u64 b.want,.i .i64 b.remaining,.b b.allowed,.s b.name,.s b.region,.s b.note,.l (b.d.map ent),.l (b.t.map row),.l r]=some (if c=0 then a else[.i .i64 0,.i .i64 c])
set_option maxHeartbeats 4000000 in
def aBG(b:aN)(r:Q1)(w:lC b)(x:∀r∈b.t,gq r.1=true){n:Q0}{p:Pl}(k:placeOf n=some p):akF b r n (uX b p):=by
 intro l i y h m o q s;obtain⟨v,d,e,f,g,j⟩:=avd b r w x;simp only[List.forall_mem_cons,Hl]at v d e f g j;have t:=I5 k;have z:=(D7 n p k).2.1;clear k;generalize a:uX b p=c at s⊢;induction p,z using D6
 all_goals first
  |(obtain rfl:0=c:=a
    rw[aj rfl];refine au rfl rfl ?_;simp[m,h,q,o,t,v,s];done)
  |(simp only[a]at d e f g j
    by_cases u:c=0
    ·subst u;rw[aj rfl];refine au rfl rfl ?_;simp[m,h,q,o,t,d,e,f,g,j,s]
    ·rw[ah u];refine au rfl rfl ?_;simp[m,h,q,o,t,d,e,f,g,j,u])
def kR(b:aN):List dh->Int
 |[]=>0
 |s::l=>if qW b s.name=0 then kR b l else qW b s.name
def agT(b:aN)(r:Q1)(j:lC b)(k:∀r∈b.t,gq r.1=true)(l:List dh)(d:l.length<=1000)(e:∀s∈l,placeOf s.name≠none):∀(m i:Nat),i+m=l.length->
 TT.lim 61 [.l (l.map bI),.i .i64 l.length,.i .i64 i,.i .i64 b.kind,.i .u64 b.id,.i .u64 b.min,.i .u64 b.max,.i .u64 b.chosen,.i .u64 b.flags,.i .u64 b.cost,.i .u64 b.priority,.i .u64 b.deadline,.i .u64 b.retry,.i .u64 b.epoch,.i .u64 b.base,.i .u64 b.digest,.i .u64 b.lag,.i .u64 b.code,.i .u64 b.want,.i .i64 b.remaining,.b b.allowed,.s b.name,.s b.region,.s b.note,.l (b.d.map ent),.l (b.t.map row),.l r]=some (if kR b (l.drop i)=0 then[.i .i64 1]else[.i .i64 0,.i .i64 (kR b (l.drop i))])
 |0,i,hi=>by
  have h0:l.drop i=[]:=cO (by omega);refine au rfl rfl ?_;have h:¬((i:Int)<l.length):=by omega
  simp[h,h0,kR]
 |m+1,i,hi=>by
  have a:i<l.length:=by omega
  have o:=agT b r j k l d e m (i+1) (by omega);have c:((i:Int)+1)=((i+1:Nat):Int):=by omega
  rw[<-c]at o;obtain⟨p,q⟩:=Xg.1 (e _ (dW a));have:=aBG b r j k q l i _ a (by omega) (wrap64 (n:=(i:Int)+1) (by omega) (by omega)) rfl o;rw[<-PN b q]at this;rw[this,dF a];by_cases f:qW b l[i].name=0
  ·have g:kR b (l[i]::l.drop (i+1))=kR b (l.drop (i+1)):=by simp only[kR,f,if_true]
   rw[aj f,g]
  ·have g:kR b (l[i]::l.drop (i+1))=qW b l[i].name:=by simp only[kR,f,if_false]
   rw[ah f,g,ah f]
def hasTag(l:List dh)(t:Int):Bool:=l.any λs=>decide (t=s.tag)
def agV(l:List dh)(c:l.length<=1000)(e f g:GV)(t:Int)(j k o d:GV):∀(m i:Nat),i+m=l.length->
 TT.lim 89 [.l (l.map bI),e,f,g,.i .i64 l.length,.i .i64 i,.i .u64 t,j,k,o,d]=some (if hasTag (l.drop i) t=true then[.i .i64 0]else[.i .i64 1])
 |0,i,hi=>by
  have h0:l.drop i=[]:=cO (by omega);refine au rfl rfl ?_;have h:¬((i:Int)<l.length):=by omega
  simp[h,h0,hasTag]
 |m+1,i,hi=>by
  have a:i<l.length:=by omega
  have p:=agV l c e f g t j k o d m (i+1) (by omega);have b:((i:Int)+1)=((i+1:Nat):Int):=by omega
  rw[<-b]at p;have q:((i:Int)<l.length):=by omega
  have s:=wrap64 (n:=(i:Int)+1) (by omega) (by omega);have u:hasTag (l.drop i) t=(decide (t=l[i].tag) ||hasTag (l.drop (i+1)) t):=by rw[dF a];rfl
  rw[u];generalize hasTag (l.drop (i+1)) t=X at *;refine au rfl rfl ?_;by_cases r:t=l[i].tag
  ·simp[q,a,r]
  ·simp[q,a,r,s,p]
def agU(l:List dh)(c:l.length<=1000)(a:List aH)(o:a.length<=1000000):∀(m i:Nat),i+m=a.length->
 TT.lim 88 [.l (l.map bI),.l (aC a),.i .i64 a.length,.i .i64 i]=some (if(a.drop i).any (λf=>hasTag l f.tag)=true then[.i .i64 0]else[.i .i64 1])
 |0,i,hi=>by
  have h0:a.drop i=[]:=cO (by omega);refine au rfl rfl ?_;have h:¬((i:Int)<a.length):=by omega
  simp[h,h0]
 |m+1,i,hi=>by
  have g:i<a.length:=by omega
  have q:=agU l c a o m (i+1) (by omega);have d:((i:Int)+1)=((i+1:Nat):Int):=by omega
  rw[<-d]at q;have r:((i:Int)<a.length):=by omega
  have v:=wrap64 (n:=(i:Int)+1) (by omega) (by omega);have u:(a.drop i).any (λf=>hasTag l f.tag)=(hasTag l a[i].tag ||(a.drop (i+1)).any (λf=>hasTag l f.tag)):=by rw[dF g,WH]
  rw[u];have b:(aC a)[i]? =some (iE a[i]):=by rw[rW,iw,bP g];rfl
  clear u;obtain⟨t,y,n,s,k,p⟩:∃t y n s k,a[i]=aH.mk t y n s k:=by
   cases a[i]with
   |mk t y n s k=>exact⟨_,_,_,_,_,rfl⟩
  rw[p]at b⊢;rw[show(aH.mk t y n s k).tag=t from rfl];have j:TT.lim 89 [.l (l.map bI),.l (aC a),.i .i64 a.length,.i .i64 i,.i .i64 l.length,.i .i64 0,.i .u64 t,.i .i64 y,.i .u64 n,.s s,.l (aC k)]=_:=agV l c _ _ _ t _ _ _ _ l.length 0 (by omega);rw[bK]at j;refine au rfl rfl ?_;by_cases e:hasTag l t=true
  ·rw[aj e]at j;simp[-List.any_eq_true,r,b,j,e]
  ·rw[ah e]at j;have e:hasTag l t=false:=by simpa using e
   simp[-List.any_eq_true,r,b,j,v,q,e]
def zy(b:aN):Int:=
 if b.kind=1 then(if b.min<1 then 18 else if b.max<b.min then 18 else if 255<b.max then 18 else 0)
 else if b.kind=2 then(if b.chosen<1 then 18 else if 255<b.chosen then 18 else 0)
 else if b.kind=3 then(if b.d=[]then 12 else 0)
 else if b.kind=5 then(if b.epoch<1 then 18 else 0)
 else if b.kind=6 then(if b.base<1 then 18 else if b.epoch<=b.base then 20 else 0)
 else 0
def Gt(b:List dh)(a:List aH):Int:=if gJ 0 0 a≠0 then gJ 0 0 a else if a.any (λf=>hasTag b f.tag)=true then 14 else 0
def fH(b:aN)(a:List aH)(v:Int):Int:=
 if v<1 then 16 else if 3<v then 16 else
 if aS b.kind v=[]then 15 else
 if fZ.all (λn=>oz (aS b.kind v) n ||nJ b n)=false then 26 else
 if kR b (aS b.kind v)≠0 then kR b (aS b.kind v)else
 if zy b≠0 then zy b else Gt (aS b.kind v) a
def aha:∀n∈fZ,placeOf n≠none:=by decide
def UE(k v:Int):∀s∈aS k v,placeOf s.name≠none:=by
 have a:∀s∈kU k,placeOf s.name≠none:=by
  unfold kU;repeat' split
  all_goals first|(unfold sp1;decide)|(unfold sp2;decide)|(unfold Ag;decide)|(unfold Ah;decide)|(unfold Ai;decide)|(unfold Aj;decide)|(unfold Ak;decide)|(unfold Am;decide)|(intro s b;cases b)
 intro s b;exact a s (ED.1 b).1
def yN(k v:Int):(aS k v).length<=8:=jP (Ny _ _) (abA k)
set_option maxHeartbeats 4000000 in
def Z4(b:aN)(u:List aH)(v:Int)(Y:lC b)(Z:∀r∈b.t,gq r.1=true)(Q:dO u)(I:u.length<=1000000):TT.lim 46 [dU b (aC u),.i .i64 v]=some [.i .i64 (fH b u v)]:=by
 have q:=Zu b.kind;refine aG rfl rfl ?_ rfl;unfold fH;by_cases m:v<1
 ·simp[m]
 by_cases o:3<v
 ·simp[m,o]
 rw[ah m,ah o];have G:=afX b.kind v (by omega) (by omega);by_cases p:oL b.kind=0
 ·rw[aj (G.2 (.inl p))];rw[p]at q;simp[m,o,q]
 by_cases s:v<oL b.kind
 ·rw[aj (G.2 (.inr s))];simp[m,o,q,p,s]
 rw[ah (λe=>(G.1 e).elim p s)];have g:=UC b.kind v (by omega) (by omega) (by omega);have S:=UE b.kind v;have aa:=yN b.kind v;clear G;generalize aS b.kind v=y at *;have h:=ag6;have T:=agR b (aC u) y (by omega) y.length 0 [] (by omega);have O:=agS b (aC u) (.l (y.map bI)) fZ (by decide) aha (zO [] y) fZ.length 0 (by omega);have U:=agT b (aC u) Y Z y (by omega) S y.length 0 (by omega);have P:=agU y (by omega) u I u.length 0 (by omega);have z:=TA u Q I;rw[bK]at T O U P;simp only[avf]at O;have ab:(fZ.map GV.s).length=fZ.length:=je _;have V:=jg u;rw[<-V]at P;generalize hX:zO [] y=X at *;have i:TT.lim 58 [.l (y.map bI),.i .i64 y.length,.i .i64 0,.l [],.i .i64 b.kind,.i .u64 b.id,.i .u64 b.min,.i .u64 b.max,.i .u64 b.chosen,.i .u64 b.flags,.i .u64 b.cost,.i .u64 b.priority,.i .u64 b.deadline,.i .u64 b.retry,.i .u64 b.epoch,.i .u64 b.base,.i .u64 b.digest,.i .u64 b.lag,.i .u64 b.code,.i .u64 b.want,.i .i64 b.remaining,.b b.allowed,.s b.name,.s b.region,.s b.note,.l (b.d.map ent),.l (b.t.map row),.l (aC u)]=some [.i .i64 0,.l (uS X)]:=T;clear T;have a:TT.lim 60 [.l (y.map bI),.l (fZ.map .s),.i .i64 fZ.length,.i .i64 0,.l (uS X),.i .i64 b.kind,.i .u64 b.id,.i .u64 b.min,.i .u64 b.max,.i .u64 b.chosen,.i .u64 b.flags,.i .u64 b.cost,.i .u64 b.priority,.i .u64 b.deadline,.i .u64 b.retry,.i .u64 b.epoch,.i .u64 b.base,.i .u64 b.digest,.i .u64 b.lag,.i .u64 b.code,.i .u64 b.want,.i .i64 b.remaining,.b b.allowed,.s b.name,.s b.region,.s b.note,.l (b.d.map ent),.l (b.t.map row),.l (aC u)]=_:=O;clear O;have d:TT.lim 61 [.l (y.map bI),.i .i64 y.length,.i .i64 0,.i .i64 b.kind,.i .u64 b.id,.i .u64 b.min,.i .u64 b.max,.i .u64 b.chosen,.i .u64 b.flags,.i .u64 b.cost,.i .u64 b.priority,.i .u64 b.deadline,.i .u64 b.retry,.i .u64 b.epoch,.i .u64 b.base,.i .u64 b.digest,.i .u64 b.lag,.i .u64 b.code,.i .u64 b.want,.i .i64 b.remaining,.b b.allowed,.s b.name,.s b.region,.s b.note,.l (b.d.map ent),.l (b.t.map row),.l (aC u)]=_:=U;clear U;have j:TT.lim 88 [.l (y.map bI),.l (aC u),.i .i64 (aC u).length,.i .i64 0]=_:=P;clear P;have J:Gt y u=if gJ 0 0 u≠0 then gJ 0 0 u else if u.any (λf=>hasTag y f.tag)=true then 14 else 0:=rfl
 generalize(fZ.all λn=>oz y n ||nJ b n)=A at *;generalize kR b y=M at *;generalize gJ 0 0 u=F at *;generalize(u.any λf=>hasTag y f.tag)=W at *;generalize Gt y u=R at *;generalize fZ=NL at *;have ac:∀(x:GV),True:=λ_=>trivial;cases A with
 |false=>simp only[gy,if_false]at a;simp[m,o,q,p,s,g,h,i,a]
 |true=>
 simp only[if_true]at a;by_cases L:M=0;rotate_left
 ·rw[ah L]at d;simp[m,o,q,p,s,g,h,i,a,d,L]
 rw[aj L]at d;rw[ah (by simp),ah (by simp[L])];clear L;have ad:∀(c:Int),zy b=c->c≠0->True:=λ_ _ _=>trivial;unfold zy;by_cases k:b.kind=1
 ·have k:=eq_true k;by_cases l:b.min<1
  ·simp[m,o,q,p,s,g,h,i,a,d,k,l]
  by_cases B:b.max<b.min
  ·simp[m,o,q,p,s,g,h,i,a,d,k,l,B]
  by_cases N:255<b.max
  ·simp[m,o,q,p,s,g,h,i,a,d,k,l,B,N]
  simp only[k,l,B,N,if_true,if_false,ne_eq,not_true_eq_false];rw[J];by_cases D:F=0
  ·subst D;cases W with
   |true=>simp only[if_true]at j;simp[m,o,q,p,s,g,h,i,a,d,k,l,B,N,z,j]
   |false=>simp only[gy,if_false]at j;simp[m,o,q,p,s,g,h,i,a,d,k,l,B,N,z,j]
  ·simp[m,o,q,p,s,g,h,i,a,d,k,l,B,N,z,D]
 by_cases t:b.kind=2
 ·have t:=eq_true t;by_cases l:b.chosen<1
  ·simp[m,o,q,p,s,g,h,i,a,d,k,t,l]
  by_cases B:255<b.chosen
  ·simp[m,o,q,p,s,g,h,i,a,d,k,t,l,B]
  simp only[k,t,l,B,if_true,if_false,ne_eq,not_true_eq_false];rw[J];by_cases D:F=0
  ·subst D;cases W with
   |true=>simp only[if_true]at j;simp[m,o,q,p,s,g,h,i,a,d,k,t,l,B,z,j]
   |false=>simp only[gy,if_false]at j;simp[m,o,q,p,s,g,h,i,a,d,k,t,l,B,z,j]
  ·simp[m,o,q,p,s,g,h,i,a,d,k,t,l,B,z,D]
 by_cases w:b.kind=3
 ·have w:=eq_true w;by_cases l:b.d=[]
  ·have l:=eq_true l;simp[m,o,q,p,s,g,h,i,a,d,k,t,w,l]
  simp only[k,t,w,l,if_true,if_false,ne_eq,not_true_eq_false];rw[J];by_cases D:F=0
  ·subst D;cases W with
   |true=>simp only[if_true]at j;simp[m,o,q,p,s,g,h,i,a,d,k,t,w,l,z,j]
   |false=>simp only[gy,if_false]at j;simp[m,o,q,p,s,g,h,i,a,d,k,t,w,l,z,j]
  ·simp[m,o,q,p,s,g,h,i,a,d,k,t,w,l,z,D]
 by_cases E:b.kind=5
 ·have E:=eq_true E;by_cases l:b.epoch<1
  ·simp[m,o,q,p,s,g,h,i,a,d,k,t,w,E,l]
  simp only[k,t,w,E,l,if_true,if_false,ne_eq,not_true_eq_false];rw[J];by_cases D:F=0
  ·subst D;cases W with
   |true=>simp only[if_true]at j;simp[m,o,q,p,s,g,h,i,a,d,k,t,w,E,l,z,j]
   |false=>simp only[gy,if_false]at j;simp[m,o,q,p,s,g,h,i,a,d,k,t,w,E,l,z,j]
  ·simp[m,o,q,p,s,g,h,i,a,d,k,t,w,E,l,z,D]
 by_cases H:b.kind=6
 ·have H:=eq_true H;by_cases l:b.base<1
  ·simp[m,o,q,p,s,g,h,i,a,d,k,t,w,E,H,l]
  by_cases B:b.epoch<=b.base
  ·simp[m,o,q,p,s,g,h,i,a,d,k,t,w,E,H,l,B]
  simp only[k,t,w,E,H,l,B,if_true,if_false,ne_eq,not_true_eq_false];rw[J];by_cases D:F=0
  ·subst D;cases W with
   |true=>simp only[if_true]at j;simp[m,o,q,p,s,g,h,i,a,d,k,t,w,E,H,l,B,z,j]
   |false=>simp only[gy,if_false]at j;simp[m,o,q,p,s,g,h,i,a,d,k,t,w,E,H,l,B,z,j]
  ·simp[m,o,q,p,s,g,h,i,a,d,k,t,w,E,H,l,B,z,D]
 simp only[k,t,w,E,H,if_false,ne_eq,not_true_eq_false];rw[J];by_cases D:F=0
 ·subst D;cases W with
  |true=>simp only[if_true]at j;simp[m,o,q,p,s,g,h,i,a,d,k,t,w,E,H,z,j]
  |false=>simp only[gy,if_false]at j;simp[m,o,q,p,s,g,h,i,a,d,k,t,w,E,H,z,j]
 ·simp[m,o,q,p,s,g,h,i,a,d,k,t,w,E,H,z,D]
def ayu:TT.lim 176 []=some [.l (fZ.map .s)]:=by refine aG rfl rfl ?_ rfl;simp[fZ]
def zJ(l:List dh)(n:Q0):Option Int:=match l with
 |[]=>none
 |s::l=>if s.name=n then some s.use else zJ l n
def Eu:Nat->Int->List UInt8->Option Int
 |0,_,_=>none
 |m+1,k,n=>match zJ (kU k) n with
  |some u=>some u
  |none=>Eu m (k+1) n
def vI(n:Q0):Int:=match placeOf n with
 |some p=>kC p
 |none=>-1
def aj2(n:Q0)(e:GV)(l:List dh)(c:l.length<=1000):∀(m i:Nat),i+m=l.length->
 TT.lim 183 [.s n,e,.l (l.map bI),.i .i64 l.length,.i .i64 i]=some (match zJ (l.drop i) n with|some u=>[.i .i64 0,.i .i64 u]|none=>[.i .i64 1])
 |0,i,hi=>by
  have h0:l.drop i=[]:=cO (by omega);refine au rfl rfl ?_;have h:¬((i:Int)<l.length):=by omega
  simp[h,h0,zJ]
 |m+1,i,hi=>by
  have a:i<l.length:=by omega
  have f:=aj2 n e l c m (i+1) (by omega);have b:((i:Int)+1)=((i+1:Nat):Int):=by omega
  rw[<-b]at f;have g:((i:Int)<l.length):=by omega
  have j:=wrap64 (n:=(i:Int)+1) (by omega) (by omega);rw[dF a];refine au rfl rfl ?_;by_cases d:l[i].name=n
  ·simp only[zJ,aj d];simp[g,a,d]
  ·simp only[zJ,ah d];simp[g,a,d,j,f]
def aj1(n:Q0):∀(m:Nat)(k:Int),k+m=9->1<=k->
 TT.lim 182 [.s n,.i .i64 k]=some (match Eu m k n with|some u=>[.i .i64 0,.i .i64 u]|none=>[.i .i64 1])
 |0,k,e,h1=>by
  have:¬k<=8:=by omega
  refine au rfl rfl ?_;simp[this,Eu]
 |m+1,k,e,h1=>by
  have b:k<=8:=by omega
  have f:=wrap64 (n:=k+1) (by omega) (by omega);have c:=aiW k;have g:=aj1 n m (k+1) (by omega) (by omega);have a:TT.lim 183 [.s n,.i .i64 k,.l ((kU k).map bI),.i .i64 (kU k).length,.i .i64 0]=_:=aj2 n (.i .i64 k) (kU k) (by have:=abA k;omega) (kU k).length 0 (by omega);rw[bK]at a;have h:Eu (m+1) k n=match zJ (kU k) n with|some u=>some u|none=>Eu m (k+1) n:=rfl
  rw[h];generalize kU k=l at *;cases d:zJ l n with
  |some u=>rw[d]at a;refine au rfl rfl ?_;simp[b,c,a]
  |none=>rw[d]at a;refine au rfl rfl ?_;simp[b,c,a,f,g]
def aCr(n:Q0)(h1:placeOf n=none):Eu 8 1 n=none:=by
 have c:∀k s,s∈kU k->¬s.name=n:=by
  intro k s a e;rw[<-e]at h1;have b:∀s∈kU k,placeOf s.name≠none:=by
   unfold kU;repeat' split
   all_goals first|(unfold sp1;decide)|(unfold sp2;decide)|(unfold Ag;decide)|(unfold Ah;decide)|(unfold Ai;decide)|(unfold Aj;decide)|(unfold Ak;decide)|(unfold Am;decide)|(intro s a;cases a)
  exact b s a h1
 have d:∀(l:List dh),(∀s∈l,¬s.name=n)->zJ l n=none:=by
  intro l;induction l with
  |nil=>intro _;rfl
  |cons s l f=>intro h;simp only[zJ];rw[ah (h s (by simp))];exact f λs a=>h s (by simp[a])
 have g:∀k,zJ (kU k) n=none:=λk=>d _ λs a=>c k s a;simp only[Eu,g]
def aCA(n:Q0):TT.lim 181 [.s n]=some [.i .i64 (vI n)]:=by
 have c:∀o,Eu 8 1 n=o->TT.lim 181 [.s n]=some [.i .i64 (match o with|some u=>u|none=>-1)]:=by
  intro o d;have a:=aj1 n 8 1 (by omega) (by omega);rw[d]at a;refine aG rfl rfl ?_ rfl;cases o with
  |some u=>simp[a]
  |none=>simp[a]
 have f:Eu 8 1 n=(match placeOf n with|some p=>some (kC p)|none=>none):=by
  cases b:placeOf n with
  |none=>exact aCr n b
  |some p=>obtain⟨e,g,-⟩:=D7 n p b;subst e;clear b c;induction p,g using D6<;>decide
 have:=c _ f;rw[this];unfold vI;cases placeOf n<;>rfl
def aj6{n:Q0}{p:Pl}(h:placeOf n=some p):TT.lim 181 [.s n]=some [.i .i64 (kC p)]:=by have a:=aCA n;unfold vI at a;rw[h]at a;exact a
def acW(b:aN)(r:Q1)(n:Q0)(p:Pl):Prop:=TT.lim 180 [dU b r,.s n]=some [.i .u64 (aX b p).1,.s (aX b p).2]
set_option maxHeartbeats 4000000 in
def ai1(b:aN)(r:Q1)(o:lC b){n:Q0}{p:Pl}(g:p=.d->gq b.d=true)(h:p=.t->iF b.t)(i:placeOf n=some p):acW b r n p:=by
 have a:=aj6 i;have j:=I5 i;have d:=(D7 n p i).2.1;unfold acW;clear i;have c:(∃k,p=.num k)->TT.lim 184 [dU b r,.s n]=some [.i .u64 (aX b p).1]:=by
  rintro⟨k,e⟩
  clear a g h
  induction p,d using D6<;>first
   |(cases e;done)
   |(refine aG rfl rfl ?_ rfl;simp[j,aX,DW];done)
 have q:(p=.name\/p=.region\/p=.note)->TT.lim 185 [dU b r,.s n]=some [.s (aX b p).2]:=by clear c a g h;rintro(rfl|rfl|rfl)<;>(refine aG rfl rfl ?_ rfl;simp[j,aX])
 have y:=o.remaining;induction p,d using D6
 case h0=>
  clear c q g h;simp only[kC]at a;refine aG rfl rfl ?_ rfl;by_cases f:0<=b.remaining
  ·have w1:=dn (n:=b.remaining) (by omega) (by omega);have l:=dn (n:=2*b.remaining) (by omega) (by omega);simp[a,aX,zz,f,w1,l]
  ·have s:=wrap64 (n:=b.remaining+1) (by omega) (by omega);have m:=wrap64 (n:=0-(b.remaining+1)) (by omega) (by omega);have w1:=dn (n:=0-(b.remaining+1)) (by omega) (by omega);have l:=dn (n:=0-(b.remaining+1)+1) (by omega) (by omega);have t:=dn (n:=0-(b.remaining+1)+1-1) (by omega) (by omega);have u:=dn (n:=2*(0-(b.remaining+1)+1-1)) (by omega) (by omega);have v:=dn (n:=2*(0-(b.remaining+1)+1-1)+1) (by omega) (by omega);have e:2*(0-(b.remaining+1)+1-1)+1 = -2*b.remaining-1:=by omega
   have w:zz b.remaining=2*(0-(b.remaining+1)+1-1)+1:=by unfold zz;rw[ah f,e]
   have x:aX b .rem=(zz b.remaining,[]):=rfl;rw[x,w];clear j;simp only[Nat.reduceAdd]at *;simp[-Int.add_sub_cancel,-Int.zero_sub,a,f,s,m,w1,l,t,u,v]
 case h1=>simp only[kC]at a;refine aG rfl rfl ?_ rfl;cases f:b.allowed<;>simp[a,aX,f]
 case h5=>
  have d:=zT b.d (g rfl);simp only[kC]at a;refine aG rfl rfl ?_ rfl;by_cases e:b.d=[]
  ·simp[a,aX,e]
  ·simp[a,aX,e,d]
 case h6=>
  have d:=ayp b.t o.t (h rfl);simp only[kC]at a;refine aG rfl rfl ?_ rfl;by_cases e:b.t=[]
  ·simp[a,aX,e]
  ·simp[a,aX,e,d]
 all_goals
  simp only[kC]at a
  first
   |(have c:=c ⟨_,rfl⟩
     refine aG rfl rfl ?_ rfl;simp[a,eF,c,aX];done)
   |(have c:=q (by simp)
     refine aG rfl rfl ?_ rfl;simp[a,eF,c,aX];done)
def av2(x:Int):decide (x=0)=(decide (x=0)&&decide (([]:Q0)=[])):=by simp
def av3(x:Q0):decide (x=[])=(decide ((0:Int)=0)&&decide (x=[])):=by simp
def ayx(b:aN)(r:Q1){n:Q0}{c:Bool}{x:Int×Q0}(d1:¬n=[100,101,115,99,114])(d2:¬n=[116,97,98,108,101])(a:TT.lim 180 [dU b r,.s n]=some [.i .u64 x.1,.s x.2])(e:c=(decide (x.1=0)&&decide (x.2=[]))):TT.lim 179 [dU b r,.s n]=some [.b c]:=by
 rw[e];refine aG rfl rfl ?_ rfl;by_cases d:x.1=0
 ·simp[d1,d2,eF,a,d]
 ·simp[d1,d2,eF,a,d]
def ayw(b:aN)(r:Q1)(j:lC b)(n:Q0)(h:placeOf n≠none):TT.lim 179 [dU b r,.s n]=some [.b (nJ b n)]:=by
 obtain⟨p,i⟩:=Xg.1 h;have c:=I5 i;rw[ahf b i];by_cases f:p=.d
 ·subst f;have e:Gp b .d=decide (b.d=[]):=rfl;rw[e];refine aG rfl rfl ?_ rfl;by_cases a:b.d=[]<;>simp[c,a]
 by_cases g:p=.t
 ·subst g;have e:Gp b .t=decide (b.t=[]):=rfl;rw[e];refine aG rfl rfl ?_ rfl;by_cases a:b.t=[]<;>simp[c,a]
 refine ayx b r (by simp[c,f]) (by simp[c,g]) (ai1 b r j (λe=>absurd e f) (λe=>absurd e g) i) ?_;cases p with
 |num k=>exact av2 _
 |d=>exact absurd rfl f
 |t=>exact absurd rfl g
 |rem=>
  rw[qN];simp only[Gp,aX,zz];by_cases a:0<=b.remaining
  ·simp[a];omega
  ·simp[a];omega
 |allow=>rw[qN];by_cases a:b.allowed=true<;>simp[Gp,aX,a]
 |_=>exact av3 _
def aif(b:aN)(r:Q1)(n:Q0)(g j k:GV)(l:List dh)(e:l.length<=1000):∀(m i:Nat)(a:Bool),i+m=l.length->
 TT.lim 178 [.l (l.map bI),.s n,.b a,g,j,k,.i .i64 l.length,.i .i64 i,.i .i64 b.kind,.i .u64 b.id,.i .u64 b.min,.i .u64 b.max,.i .u64 b.chosen,.i .u64 b.flags,.i .u64 b.cost,.i .u64 b.priority,.i .u64 b.deadline,.i .u64 b.retry,.i .u64 b.epoch,.i .u64 b.base,.i .u64 b.digest,.i .u64 b.lag,.i .u64 b.code,.i .u64 b.want,.i .i64 b.remaining,.b b.allowed,.s b.name,.s b.region,.s b.note,.l (b.d.map ent),.l (b.t.map row),.l r]=some [.i .i64 0,.b (a ||oz (l.drop i) n)]
 |0,i,a,hi=>by
  have h0:l.drop i=[]:=cO (by omega);refine au rfl rfl ?_;have h:¬((i:Int)<l.length):=by omega
  simp[h,h0,oz]
 |m+1,i,a,hi=>by
  have c:i<l.length:=by omega
  have d:((i:Int)+1)=((i+1:Nat):Int):=by omega
  have f:=λa=>aif b r n g j k l e m (i+1) a (by omega);simp only[<-d]at f;have o:((i:Int)<l.length):=by omega
  have p:=wrap64 (n:=(i:Int)+1) (by omega) (by omega);have q:oz (l.drop i) n=(decide (l[i].name=n) ||oz (l.drop (i+1)) n):=by rw[dF c];rfl
  rw[q];generalize oz (l.drop (i+1)) n=X at *;refine au rfl rfl ?_;cases a with
  |true=>simp[o,c,p,f]
  |false=>simp[o,c,p,f]
def aie(b:aN)(r:Q1)(o:lC b)(l:List dh)(d:l.length<=1000)(a:Wg)(q:a.length<=1000)(f:∀n∈a,placeOf n≠none):∀(m i:Nat),i+m=a.length->
 TT.lim 177 [.l (l.map bI),.l (a.map .s),.i .i64 a.length,.i .i64 i,.i .i64 b.kind,.i .u64 b.id,.i .u64 b.min,.i .u64 b.max,.i .u64 b.chosen,.i .u64 b.flags,.i .u64 b.cost,.i .u64 b.priority,.i .u64 b.deadline,.i .u64 b.retry,.i .u64 b.epoch,.i .u64 b.base,.i .u64 b.digest,.i .u64 b.lag,.i .u64 b.code,.i .u64 b.want,.i .i64 b.remaining,.b b.allowed,.s b.name,.s b.region,.s b.note,.l (b.d.map ent),.l (b.t.map row),.l r]=some (if(a.drop i).all (λn=>oz l n ||nJ b n)=true then[.i .i64 1]else[.i .i64 0])
 |0,i,hi=>by
  have h0:a.drop i=[]:=cO (by omega);refine au rfl rfl ?_;have h:¬((i:Int)<a.length):=by omega
  simp[h,h0]
 |m+1,i,hi=>by
  have c:i<a.length:=by omega
  have g:=aie b r o l d a q f m (i+1) (by omega);have e:((i:Int)+1)=((i+1:Nat):Int):=by omega
  rw[<-e]at g;have j:((i:Int)<a.length):=by omega
  have k:=wrap64 (n:=(i:Int)+1) (by omega) (by omega);have s:(a.drop i).all (λn=>oz l n ||nJ b n)=((oz l a[i] ||nJ b a[i])&&(a.drop (i+1)).all (λn=>oz l n ||nJ b n)):=by rw[dF c,sW]
  rw[s];have p:=ayw b r o a[i] (f _ (dW c));have h0:TT.lim 178 [.l (l.map bI),.s a[i],.b false,.l (a.map .s),.i .i64 a.length,.i .i64 i,.i .i64 l.length,.i .i64 0,.i .i64 b.kind,.i .u64 b.id,.i .u64 b.min,.i .u64 b.max,.i .u64 b.chosen,.i .u64 b.flags,.i .u64 b.cost,.i .u64 b.priority,.i .u64 b.deadline,.i .u64 b.retry,.i .u64 b.epoch,.i .u64 b.base,.i .u64 b.digest,.i .u64 b.lag,.i .u64 b.code,.i .u64 b.want,.i .i64 b.remaining,.b b.allowed,.s b.name,.s b.region,.s b.note,.l (b.d.map ent),.l (b.t.map row),.l r]=_:=aif b r a[i] (.l (a.map .s)) (.i .i64 a.length) (.i .i64 i) l d l.length 0 false (by omega);rw[bK,Aq]at h0;generalize(a.drop (i+1)).all (λn=>oz l n ||nJ b n)=X at *;generalize oz l a[i]=A at *;generalize nJ b a[i]=B at *;refine au rfl rfl ?_;cases A with
  |true=>simp[j,c,k,h0,g]
  |false=>
   cases B with
   |true=>simp[j,c,k,h0,eF,p,g]
   |false=>simp[j,c,k,h0,eF,p]
def NM(b:aN)(r:Q1)(s:dh):Prop:=∀(l:List dh)(i:Nat)(a:Q1),(h:i<l.length)->l[i]=s->l.length<=1000->
    TT.lim 192 [.l (l.map bI),.i .i64 l.length,.i .i64 ((i:Int)+1),.i .i64 b.kind,.i .u64 b.id,.i .u64 b.min,.i .u64 b.max,.i .u64 b.chosen,.i .u64 b.flags,.i .u64 b.cost,.i .u64 b.priority,.i .u64 b.deadline,.i .u64 b.retry,.i .u64 b.epoch,.i .u64 b.base,.i .u64 b.digest,.i .u64 b.lag,.i .u64 b.code,.i .u64 b.want,.i .i64 b.remaining,.b b.allowed,.s b.name,.s b.region,.s b.note,.l (b.d.map ent),.l (b.t.map row),.l r]=some a->
    TT.lim 192 [.l (l.map bI),.i .i64 l.length,.i .i64 i,.i .i64 b.kind,.i .u64 b.id,.i .u64 b.min,.i .u64 b.max,.i .u64 b.chosen,.i .u64 b.flags,.i .u64 b.cost,.i .u64 b.priority,.i .u64 b.deadline,.i .u64 b.retry,.i .u64 b.epoch,.i .u64 b.base,.i .u64 b.digest,.i .u64 b.lag,.i .u64 b.code,.i .u64 b.want,.i .i64 b.remaining,.b b.allowed,.s b.name,.s b.region,.s b.note,.l (b.d.map ent),.l (b.t.map row),.l r]=some (if qW b s.name=0 then a else[.i .i64 0,.i .i64 (qW b s.name)])
def ayK(b:aN)(r:Q1)(s:dh)(c:s.use≠3)(d:s.use≠4)(e:s.use≠5)(f:qW b s.name=0):NM b r s:=by
 intro l i g h j a k;have m:((i:Int)<l.length):=by omega
 have o:=wrap64 (n:=(i:Int)+1) (by omega) (by omega);rw[aj f];refine au rfl rfl ?_;simp[m,h,j,o,c,d,e,k]
def abk(b:aN)(r:Q1)(a:lC b)(s:dh)(f:s.use=3){p:Pl}(g:placeOf s.name=some p)(d:p=.name\/p=.region\/p=.note):NM b r s:=by
 intro l i v h j k w;have m:((i:Int)<l.length):=by omega
 have o:=wrap64 (n:=(i:Int)+1) (by omega) (by omega);have y:qW b s.name=iV (aX b p).2 0 256:=by rw[PN b g];rcases d with rfl|rfl|rfl<;>rfl
 have q:=I5 g;have t:TT.lim 185 [dU b r,.s s.name]=some [.s (aX b p).2]:=by rcases d with rfl|rfl|rfl<;>(refine aG rfl rfl ?_ rfl;simp[q,aX])
 have u:=Iw (aX b p).2 0 256 (by rcases d with rfl|rfl|rfl<;>first|exact a.name|exact a.region|exact a.note);clear q;rw[y];generalize iV (aX b p).2 0 256=c at *;generalize(aX b p).2=x at *;by_cases e:c=0
 ·subst e;rw[aj rfl];refine au rfl rfl ?_;simp[m,h,j,o,f,eF,t,u,w]
 ·rw[ah e];refine au rfl rfl ?_;simp[m,h,j,o,f,eF,t,u,e]
def ayJ(b:aN)(r:Q1)(q:lC b)(s:dh)(d:s.use=4)(t:placeOf s.name=some .d):NM b r s:=by
 intro l i u h f m o;have g:((i:Int)<l.length):=by omega
 have j:=wrap64 (n:=(i:Int)+1) (by omega) (by omega);have v:qW b s.name=if b.d=[]then 0 else tZ b.d:=PN b t
 have p:=ad5 b.d q.d;rw[v];by_cases a:b.d=[]
 ·rw[aj (by rw[aj a])];have w:(b.d=[])=True:=eq_true a;have k:(0<b.d.length)=False:=eq_false (by rw[a];simp);refine au rfl rfl ?_;simp[g,h,f,j,d,k,o]
 ·rw[ah a];have x:0<b.d.length:=EC.2 a;generalize tZ b.d=c at *;by_cases e:c=0
  ·subst e;rw[aj rfl];refine au rfl rfl ?_;simp[g,h,f,j,d,a,p,o]
  ·rw[ah e];refine au rfl rfl ?_;simp[g,h,f,j,d,a,p,e]
def ayL(b:aN)(r:Q1)(m:lC b)(o:iF b.t)(s:dh)(a:s.use=5)(p:placeOf s.name=some .t):NM b r s:=by
 intro l i q h d f t;have g:((i:Int)<l.length):=by omega
 have j:=wrap64 (n:=(i:Int)+1) (by omega) (by omega);have u:qW b s.name=jR b.t:=PN b p;have k:=Iu b.t m.t o;rw[u];generalize jR b.t=c at *;by_cases e:c=0
 ·subst e;rw[aj rfl];refine au rfl rfl ?_;simp[g,h,d,j,a,k,t]
 ·rw[ah e];refine au rfl rfl ?_;simp[g,h,d,j,a,k,e]
def ayI(b:aN)(r:Q1)(e:lC b)(f:iF b.t)(s:dh)(c:placeOf s.name≠none)(a:s.use=vI s.name):NM b r s:=by
 obtain⟨p,c⟩:=Xg.1 c;have a:s.use=kC p:=by rw[a];unfold vI;rw[c]
 have g:=PN b c;cases p with
 |name=>exact abk b r e s a c (by simp)
 |region=>exact abk b r e s a c (by simp)
 |note=>exact abk b r e s a c (by simp)
 |d=>exact ayJ b r e s a c
 |t=>exact ayL b r e f s a c
 |_=>exact ayK b r s (by rw[a];simp[kC]) (by rw[a];simp[kC]) (by rw[a];simp[kC]) g
def aii(b:aN)(r:Q1)(j:lC b)(k:iF b.t)(l:List dh)(a:l.length<=1000)(e:∀s∈l,placeOf s.name≠none/\s.use=vI s.name):∀(m i:Nat),i+m=l.length->
 TT.lim 192 [.l (l.map bI),.i .i64 l.length,.i .i64 i,.i .i64 b.kind,.i .u64 b.id,.i .u64 b.min,.i .u64 b.max,.i .u64 b.chosen,.i .u64 b.flags,.i .u64 b.cost,.i .u64 b.priority,.i .u64 b.deadline,.i .u64 b.retry,.i .u64 b.epoch,.i .u64 b.base,.i .u64 b.digest,.i .u64 b.lag,.i .u64 b.code,.i .u64 b.want,.i .i64 b.remaining,.b b.allowed,.s b.name,.s b.region,.s b.note,.l (b.d.map ent),.l (b.t.map row),.l r]=some (if kR b (l.drop i)=0 then[.i .i64 1]else[.i .i64 0,.i .i64 (kR b (l.drop i))])
 |0,i,hi=>by
  have h0:l.drop i=[]:=cO (by omega);refine au rfl rfl ?_;have h:¬((i:Int)<l.length):=by omega
  simp[h,h0,kR]
 |m+1,i,hi=>by
  have c:i<l.length:=by omega
  have n:=aii b r j k l a e m (i+1) (by omega);have d:((i:Int)+1)=((i+1:Nat):Int):=by omega
  rw[<-d]at n;have o:=e _ (dW c);have:=ayI b r j k l[i] o.1 o.2 l i _ c rfl a n;rw[this,dF c];by_cases f:qW b l[i].name=0
  ·have g:kR b (l[i]::l.drop (i+1))=kR b (l.drop (i+1)):=by simp only[kR,f,if_true]
   rw[aj f,g]
  ·have g:kR b (l[i]::l.drop (i+1))=qW b l[i].name:=by simp only[kR,f,if_false]
   rw[ah f,g,ah f]
def aik(l:List dh)(c:l.length<=1000)(j k o:GV)(t:Int)(p q r d:GV):∀(m i:Nat),i+m=l.length->
 TT.lim 196 [.l (l.map bI),j,k,o,.i .i64 l.length,.i .i64 i,.i .u64 t,p,q,r,d]=some (if hasTag (l.drop i) t=true then[.i .i64 0]else[.i .i64 1])
 |0,i,hi=>by
  have h0:l.drop i=[]:=cO (by omega);refine au rfl rfl ?_;have h:¬((i:Int)<l.length):=by omega
  simp[h,h0,hasTag]
 |m+1,i,hi=>by
  have a:i<l.length:=by omega
  have s:=aik l c j k o t p q r d m (i+1) (by omega);have b:((i:Int)+1)=((i+1:Nat):Int):=by omega
  rw[<-b]at s;have u:((i:Int)<l.length):=by omega
  have v:=wrap64 (n:=(i:Int)+1) (by omega) (by omega);have w:hasTag (l.drop i) t=(decide (t=l[i].tag) ||hasTag (l.drop (i+1)) t):=by rw[dF a];rfl
  rw[w];generalize hasTag (l.drop (i+1)) t=X at *;refine au rfl rfl ?_;by_cases f:t=l[i].tag
  ·simp[u,a,f]
  ·have g:¬l[i].tag=t:=λe=>f e.symm;simp[u,a,f,g,v,s]
def aij(l:List dh)(c:l.length<=1000)(a:List aH)(o:a.length<=1000000):∀(m i:Nat),i+m=a.length->
 TT.lim 195 [.l (l.map bI),.l (aC a),.i .i64 a.length,.i .i64 i]=some (if(a.drop i).any (λf=>hasTag l f.tag)=true then[.i .i64 0]else[.i .i64 1])
 |0,i,hi=>by
  have h0:a.drop i=[]:=cO (by omega);refine au rfl rfl ?_;have h:¬((i:Int)<a.length):=by omega
  simp[h,h0]
 |m+1,i,hi=>by
  have g:i<a.length:=by omega
  have q:=aij l c a o m (i+1) (by omega);have d:((i:Int)+1)=((i+1:Nat):Int):=by omega
  rw[<-d]at q;have r:((i:Int)<a.length):=by omega
  have v:=wrap64 (n:=(i:Int)+1) (by omega) (by omega);have u:(a.drop i).any (λf=>hasTag l f.tag)=(hasTag l a[i].tag ||(a.drop (i+1)).any (λf=>hasTag l f.tag)):=by rw[dF g,WH]
  rw[u];have b:(aC a)[i]? =some (iE a[i]):=by rw[rW,iw,bP g];rfl
  clear u;obtain⟨t,y,n,s,k,p⟩:∃t y n s k,a[i]=aH.mk t y n s k:=by
   cases a[i]with
   |mk t y n s k=>exact⟨_,_,_,_,_,rfl⟩
  rw[p]at b⊢;rw[show(aH.mk t y n s k).tag=t from rfl];have j:TT.lim 196 [.l (l.map bI),.l (aC a),.i .i64 a.length,.i .i64 i,.i .i64 l.length,.i .i64 0,.i .u64 t,.i .i64 y,.i .u64 n,.s s,.l (aC k)]=_:=aik l c _ _ _ t _ _ _ _ l.length 0 (by omega);rw[bK]at j;refine au rfl rfl ?_;by_cases e:hasTag l t=true
  ·rw[aj e]at j;simp[-List.any_eq_true,r,b,j,e]
  ·rw[ah e]at j;have e:hasTag l t=false:=by simpa using e
   simp[-List.any_eq_true,r,b,j,v,q,e]
def ZC(k v:Int):∀s∈aS k v,placeOf s.name≠none/\s.use=vI s.name:=by
 have a:∀s∈kU k,placeOf s.name≠none/\s.use=vI s.name:=by
  unfold kU;repeat' split
  all_goals first|(unfold sp1;decide)|(unfold sp2;decide)|(unfold Ag;decide)|(unfold Ah;decide)|(unfold Ai;decide)|(unfold Aj;decide)|(unfold Ak;decide)|(unfold Am;decide)|(intro s b;cases b)
 intro s b;exact a s (ED.1 b).1
set_option maxHeartbeats 4000000 in
def Vo(b:aN)(q:List aH)(v:Int)(B:lC b)(S:iF b.t)(L:dO q)(z:q.length<=1000000):TT.lim 172 [dU b (aC q),.i .i64 v]=some [.i .i64 (fH b q v)]:=by
 refine aG rfl rfl ?_ rfl;unfold fH;by_cases m:v<1
 ·simp[m]
 by_cases o:3<v
 ·simp[m,o]
 rw[ah m,ah o];have c:=abe b.kind v (by omega);have N:=ZC b.kind v;have T:=yN b.kind v;generalize aS b.kind v=x at *;by_cases a:x=[]
 ·rw[aj a];rw[a]at c;simp[m,o,c]
 rw[ah a];have U:¬x.length=0:=λe=>a (WU.1 e);have i:=ayu;have O:=aie b (aC q) B x (by omega) fZ (by decide) aha fZ.length 0 (by omega);have P:=aii b (aC q) B S x (by omega) N x.length 0 (by omega);have H:=aij x (by omega) q z q.length 0 (by omega);have s:TT.lim 193 [.l (aC q),.i .i64 0]=some [.i .i64 (gJ 0 0 q)]:=Vs (cZ q+1) q (by omega) L z 0 (by omega);rw[bK]at O P H;have Q:=jg q;rw[<-Q]at H;have d:TT.lim 177 [.l (x.map bI),.l (fZ.map .s),.i .i64 fZ.length,.i .i64 0,.i .i64 b.kind,.i .u64 b.id,.i .u64 b.min,.i .u64 b.max,.i .u64 b.chosen,.i .u64 b.flags,.i .u64 b.cost,.i .u64 b.priority,.i .u64 b.deadline,.i .u64 b.retry,.i .u64 b.epoch,.i .u64 b.base,.i .u64 b.digest,.i .u64 b.lag,.i .u64 b.code,.i .u64 b.want,.i .i64 b.remaining,.b b.allowed,.s b.name,.s b.region,.s b.note,.l (b.d.map ent),.l (b.t.map row),.l (aC q)]=_:=O;clear O;have g:TT.lim 192 [.l (x.map bI),.i .i64 x.length,.i .i64 0,.i .i64 b.kind,.i .u64 b.id,.i .u64 b.min,.i .u64 b.max,.i .u64 b.chosen,.i .u64 b.flags,.i .u64 b.cost,.i .u64 b.priority,.i .u64 b.deadline,.i .u64 b.retry,.i .u64 b.epoch,.i .u64 b.base,.i .u64 b.digest,.i .u64 b.lag,.i .u64 b.code,.i .u64 b.want,.i .i64 b.remaining,.b b.allowed,.s b.name,.s b.region,.s b.note,.l (b.d.map ent),.l (b.t.map row),.l (aC q)]=_:=P;clear P;have j:TT.lim 195 [.l (x.map bI),.l (aC q),.i .i64 (aC q).length,.i .i64 0]=_:=H;clear H;have D:Gt x q=if gJ 0 0 q≠0 then gJ 0 0 q else if q.any (λf=>hasTag x f.tag)=true then 14 else 0:=rfl
 generalize(fZ.all λn=>oz x n ||nJ b n)=A at *;generalize kR b x=M at *;generalize gJ 0 0 q=F at *;generalize(q.any λf=>hasTag x f.tag)=W at *;generalize Gt x q=R at *;generalize fZ=NL at *;cases A with
 |false=>simp only[gy,if_false]at d;simp[m,o,c,a,i,d]
 |true=>
 simp only[if_true]at d;by_cases E:M=0;rotate_left
 ·rw[ah E]at g;simp[m,o,c,a,i,d,g,E]
 rw[aj E]at g;rw[ah (by simp),ah (by simp[E])];clear E;have V:(b.min<1)=(b.min=0):=propext ⟨λh=>by have:=B.min;omega,λh=>by omega⟩;have X:(b.chosen<1)=(b.chosen=0):=propext ⟨λh=>by have:=B.chosen;omega,λh=>by omega⟩;have Y:(b.epoch<1)=(b.epoch=0):=propext ⟨λh=>by have:=B.epoch;omega,λh=>by omega⟩;have Z:(b.base<1)=(b.base=0):=propext ⟨λh=>by have:=B.base;omega,λh=>by omega⟩;unfold zy;simp only[V,X,Y,Z];by_cases l:b.kind=1
 ·have l:=eq_true l;by_cases k:b.min=0
  ·have k:=eq_true k;simp[m,o,c,a,i,d,g,l,k]
  by_cases t:b.max<b.min
  ·simp[m,o,c,a,i,d,g,l,k,t]
  by_cases G:255<b.max
  ·simp[m,o,c,a,i,d,g,l,k,t,G]
  simp only[l,k,t,G,if_true,if_false,ne_eq,not_true_eq_false];rw[D];by_cases u:F=0
  ·subst u;cases W with
   |true=>simp only[if_true]at j;simp[m,o,c,a,i,d,g,l,k,t,G,s,j]
   |false=>simp only[gy,if_false]at j;simp[m,o,c,a,i,d,g,l,k,t,G,s,j]
  ·simp[m,o,c,a,i,d,g,l,k,t,G,s,u]
 by_cases p:b.kind=2
 ·have p:=eq_true p;by_cases k:b.chosen=0
  ·have k:=eq_true k;simp[m,o,c,a,i,d,g,l,p,k]
  by_cases t:255<b.chosen
  ·simp[m,o,c,a,i,d,g,l,p,k,t]
  simp only[l,p,k,t,if_true,if_false,ne_eq,not_true_eq_false];rw[D];by_cases u:F=0
  ·subst u;cases W with
   |true=>simp only[if_true]at j;simp[m,o,c,a,i,d,g,l,p,k,t,s,j]
   |false=>simp only[gy,if_false]at j;simp[m,o,c,a,i,d,g,l,p,k,t,s,j]
  ·simp[m,o,c,a,i,d,g,l,p,k,t,s,u]
 by_cases r:b.kind=3
 ·have I:(b.kind=5)=False:=eq_false (by omega);have J:(b.kind=6)=False:=eq_false (by omega);have r:=eq_true r;by_cases k:b.d=[]
  ·have k:=eq_true k;simp[m,o,c,a,i,d,g,l,p,r,I,J,k]
  simp only[l,p,r,k,if_true,if_false,ne_eq,not_true_eq_false];rw[D];by_cases u:F=0
  ·subst u;cases W with
   |true=>simp only[if_true]at j;simp[m,o,c,a,i,d,g,l,p,r,I,J,k,s,j]
   |false=>simp only[gy,if_false]at j;simp[m,o,c,a,i,d,g,l,p,r,I,J,k,s,j]
  ·simp[m,o,c,a,i,d,g,l,p,r,I,J,k,s,u]
 by_cases w:b.kind=5
 ·have w:=eq_true w;by_cases k:b.epoch=0
  ·have k:=eq_true k;simp[m,o,c,a,i,d,g,l,p,r,w,k]
  simp only[l,p,r,w,k,if_true,if_false,ne_eq,not_true_eq_false];rw[D];by_cases u:F=0
  ·subst u;cases W with
   |true=>simp only[if_true]at j;simp[m,o,c,a,i,d,g,l,p,r,w,k,s,j]
   |false=>simp only[gy,if_false]at j;simp[m,o,c,a,i,d,g,l,p,r,w,k,s,j]
  ·simp[m,o,c,a,i,d,g,l,p,r,w,k,s,u]
 by_cases y:b.kind=6
 ·have y:=eq_true y;by_cases k:b.base=0
  ·have k:=eq_true k;simp[m,o,c,a,i,d,g,l,p,r,w,y,k]
  by_cases t:b.epoch<=b.base
  ·simp[m,o,c,a,i,d,g,l,p,r,w,y,k,t]
  simp only[l,p,r,w,y,k,t,if_true,if_false,ne_eq,not_true_eq_false];rw[D];by_cases u:F=0
  ·subst u;cases W with
   |true=>simp only[if_true]at j;simp[m,o,c,a,i,d,g,l,p,r,w,y,k,t,s,j]
   |false=>simp only[gy,if_false]at j;simp[m,o,c,a,i,d,g,l,p,r,w,y,k,t,s,j]
  ·simp[m,o,c,a,i,d,g,l,p,r,w,y,k,t,s,u]
 simp only[l,p,r,w,y,if_false,ne_eq,not_true_eq_false];rw[D];by_cases u:F=0
 ·subst u;cases W with
  |true=>simp only[if_true]at j;simp[m,o,c,a,i,d,g,l,p,r,w,y,s,j]
  |false=>simp only[gy,if_false]at j;simp[m,o,c,a,i,d,g,l,p,r,w,y,s,j]
 ·simp[m,o,c,a,i,d,g,l,p,r,w,y,s,u]
def aDl(x:Int)(h0: -9223372036854775808<=x)(h1:x<=9223372036854775807):∃u w:Int,IntKind.u64.wrap x=u/\IntKind.u64.wrap (x.fdiv (2^63))=w/\gG .xor .u64 (IntKind.u64.wrap (u*2^1)) w=some (.i .u64 (zz x)):=by
 have a:∀y:Int,IntKind.u64.wrap y=y%18446744073709551616:=λy=>by simp[IntKind.wrap,IntKind.signed,IntKind.bits]
 refine⟨_,_,rfl,rfl,?_⟩;rw[a,a,a];unfold zz;have e:IntKind.u64.bits=64:=rfl;by_cases h:0<=x
 ·have b:x.fdiv (2^63)=0:=by rw[QG _ (by decide)];exact Int.ediv_eq_zero_of_lt h (by omega)
  rw[b,aj h];have c:x%18446744073709551616*2^1%18446744073709551616=2*x:=by omega
  rw[c];simp only[gG,a,e];have d:(BitVec.ofInt 64 (2*x) ^^^ BitVec.ofInt 64 (0%18446744073709551616))=BitVec.ofInt 64 (2*x):=by have:BitVec.ofInt 64 (0%18446744073709551616)=0#64:=rfl;rw[this,BitVec.xor_zero]
  show some (GV.i IntKind.u64 (((BitVec.ofInt 64 (2*x) ^^^ BitVec.ofInt 64 (0%18446744073709551616)).toNat:Int)%18446744073709551616))=_
  rw[d,xB];congr 2;omega
 ·have b:x.fdiv (2^63) = -1:=by rw[QG _ (by decide)];omega
  rw[b,ah h];have c:x%18446744073709551616*2^1%18446744073709551616=2*x+18446744073709551616:=by omega
  rw[c];simp only[gG,a,e];have d:(BitVec.ofInt 64 (2*x+18446744073709551616) ^^^ BitVec.ofInt 64 (-1%18446744073709551616)) = ~~~ BitVec.ofInt 64 (2*x+18446744073709551616):=by
   have:BitVec.ofInt 64 (-1%18446744073709551616)=BitVec.allOnes 64:=by decide
   rw[this,BitVec.xor_allOnes]
  show some (GV.i IntKind.u64 (((BitVec.ofInt 64 (2*x+18446744073709551616) ^^^ BitVec.ofInt 64 (-1%18446744073709551616)).toNat:Int)%18446744073709551616))=_
  rw[d,BitVec.toNat_not,xB];congr 2;omega
def ac1(b:aN)(r:Q1)(n:Q0)(p:Pl):Prop:=TT.lim 91 [dU b r,.s n]=some [.g [.i .u64 0,.i .i64 (bQ p),.i .u64 (aX b p).1,.s (aX b p).2,.l []],.b true]
set_option maxHeartbeats 4000000 in
def ag4(b:aN)(r:Q1)(d:lC b){n:Q0}{p:Pl}(j:p=.d->gq b.d=true)(k:p=.t->iF b.t)(f:placeOf n=some p):ac1 b r n p:=by
 have a:=I5 f;have c:=(D7 n p f).2.1;unfold ac1;clear f;induction p,c using D6
 case h0=>obtain⟨u,w,h1,g,h⟩:=aDl b.remaining d.remaining.1 d.remaining.2;have g:IntKind.u64.wrap (b.remaining.fdiv 9223372036854775808)=w:=g;have h:gG .xor .u64 (IntKind.u64.wrap (u*2)) w=some (.i .u64 (zz b.remaining)):=h;refine aG rfl rfl ?_ rfl;simp[a,oW,h1,g,h,IntKind.bits,bQ,aX]
 case h1=>refine aG rfl rfl ?_ rfl;cases l:b.allowed<;>simp[a,bQ,aX,l]
 case h5=>
  have c:=DK b.d (j rfl);refine aG rfl rfl ?_ rfl;by_cases e:b.d=[]
  ·have i:=eq_true e;simp[a,bQ,aX,i]
  ·simp[a,bQ,aX,e,c]
 case h6=>
  have c:=auz b.t d.t (k rfl);refine aG rfl rfl ?_ rfl;by_cases e:b.t=[]
  ·have i:=eq_true e;simp[a,bQ,aX,i]
  ·simp[a,bQ,aX,e,c]
 all_goals
  refine aG rfl rfl ?_ rfl;simp[a,bQ,aX,DW]
def ag5(b:aN)(r:Q1){n:Q0}(a:placeOf n=none):TT.lim 91 [dU b r,.s n]=some [.g [.i .u64 0,.i .i64 0,.i .u64 0,.s [],.l []],.b false]:=by have c:=afQ a;refine aG rfl rfl ?_ rfl;simp[c]
def aj3(p:Pl):0<=kC p/\(kC p).tdiv 3=bQ p/\kC p<=5:=by cases p<;>simp[kC,bQ]
def aCG(b:aN)(r:Q1)(c:lC b)(d:gq b.d=true)(e:iF b.t)(n:Q0):(∃p,placeOf n=some p/\TT.lim 91 [dU b r,.s n]=some [.g [.i .u64 0,.i .i64 (bQ p),.i .u64 (aX b p).1,.s (aX b p).2,.l []],.b true]/\TT.lim 180 [dU b r,.s n]=some [.i .u64 (aX b p).1,.s (aX b p).2]/\vI n=kC p)\/
 (TT.lim 91 [dU b r,.s n]=some [.g [.i .u64 0,.i .i64 0,.i .u64 0,.s [],.l []],.b false]/\vI n = -1):=by
 unfold vI;cases a:placeOf n with
 |some p=>exact .inl ⟨p,rfl,ag4 b r c (λ_=>d) (λ_=>e) a,ai1 b r c (λ_=>d) (λ_=>e) a,rfl⟩
 |none=>exact .inr ⟨ag5 b r a,rfl⟩
abbrev It:=Int×Int×Q0
def wX(a b:It):Bool:=if a.1=b.1 then decide (a.2.1<b.2.1)else decide (a.1<b.1)
def leI(a b:It):Prop:=wX b a=false
def ZI(a b:It):leI a b↔a.1<b.1\/(a.1=b.1/\a.2.1<=b.2.1):=by
 unfold leI wX;split
 ·next h=>simp;omega
 ·next h=>simp;omega
def af7{a b c:It}(h1:leI a b)(d:leI b c):leI a c:=by rw[ZI]at *;omega
def ZJ{a b:It}(h:wX a b=true):leI a b:=by
 rw[ZI];unfold wX at h;split at h
 ·next e=>have:=LX h;omega
 ·next e=>have:=LX h;omega
def auI{a b:It}(h:leI a b):a.1<=b.1:=by rw[ZI]at h;omega
def dI:It:=(0,0,[])
abbrev at_(h:List It)(i:Nat):It:=h.getD i dI
def Es(h:List It)(i j:Nat):List It:=(h.set i (at_ h j)).set j (at_ h i)
def aBL(h:List It)(i j:Nat):(Es h i j).length=h.length:=by simp[Es]
def ak9(h:List It){i j:Nat}(hi:i<h.length)(f:j<h.length)(k:Nat):at_ (Es h i j) k=if k=j then at_ h i else if k=i then at_ h j else at_ h k:=by
 unfold Es at_;simp only[yB,List.getElem?_set,WV];by_cases a:k=j
 ·subst a;simp[f]
 ·have b:¬j=k:=λe=>a e.symm;rw[ah b,ah a];by_cases c:k=i
  ·subst c;simp[hi]
  ·have d:¬i=k:=λe=>c e.symm;rw[ah d,ah c]
def swap_perm(h:List It){i j:Nat}(hi:i<h.length)(a:j<h.length):(Es h i j).Perm h:=by have:=Array.swap_perm (xs:=h.toArray) (i:=i) (j:=j) (by simpa using hi) (by simpa using a);have b:=this.toList;simp only[Array.toList_swap]at b;unfold Es at_;simpa[yB,hi,a]using b
def par(k:Nat):Nat:=(k-1)/2
def Heap(h:List It)(n:Nat):Prop:=∀k,0<k->k<n->leI (at_ h (par k)) (at_ h k)
def Qu:Nat->List It->Nat->List It
 |0,h,_=>h
 |f+1,h,j=>if par j=j\/wX (at_ h j) (at_ h (par j))=false then h else Qu f (Es h (par j) j) (par j)
structure ac0(h:List It)(n j:Nat):Prop where
 jn:j<n
 heap:∀k,0<k->k<n->k≠j->leI (at_ h (par k)) (at_ h k)
 kids:∀k,0<k->k<n->par k=j->0<j->leI (at_ h (par j)) (at_ h k)
def aj0:∀(f:Nat)(h:List It)(j n:Nat),j<f->n=h.length->ac0 h n j->Heap (Qu f h j) n/\(Qu f h j).Perm h
 |0,h,j,n,v,_,_=>by omega
 |f+1,h,j,n,v,w,d=>by
  unfold Qu;split
  ·next b=>
   refine⟨λk h0 g=>?_,List.Perm.refl _⟩;by_cases e:k=j
   ·subst e;rcases b with b|b
    ·unfold par at b;omega
    ·exact b
   ·exact d.heap k h0 g e
  ·next b=>
   rw[not_or]at b;obtain⟨x,m⟩:=b;have m:wX (at_ h j) (at_ h (par j))=true:=by simpa using m
   have y:0<j:=by
    rcases Xc j with e|e
    ·subst e;exact absurd rfl x
    ·exact e
   have A:par j<j:=by unfold par;omega
   have z:=d.jn;have a:=ak9 h (i:=par j) (j:=j) (by omega) (by omega);have o:ac0 (Es h (par j) j) n (par j):=by
    refine⟨by omega,λk h0 g p=>?_,λk h0 g l r=>?_⟩
    ·rw[a,a];by_cases c:k=j
     ·subst c;rw[ah (by omega),aj rfl,aj rfl];exact ZJ m
     ·rw[ah c,ah p];by_cases s:par k=j
      ·rw[aj s];exact d.kids k h0 g s y
      ·rw[ah s];by_cases t:par k=par j
       ·rw[aj t];exact af7 (ZJ m) (t▸d.heap k h0 g c)
       ·rw[ah t];exact d.heap k h0 g c
    ·rw[a,a];have q:par (par j)<par j:=by unfold par at *;omega
     rw[ah (by omega),ah (by omega)];have u:=d.heap (par j) r (by omega) (by omega);by_cases c:k=j
     ·subst c;rw[aj rfl];exact u
     ·rw[ah c,ah (λe=>by rw[e]at l;omega)];exact af7 u (l▸d.heap k h0 g c)
   obtain⟨r1,r2⟩:=aj0 f (Es h (par j) j) (par j) n (by omega) (by rw[aBL];exact w) o;exact⟨r1,r2.trans (swap_perm h (by omega) (by omega))⟩
def Vk(h:List It)(x:It):List It:=Qu (h.length+1) (h++[x]) h.length
def ah3(h:List It)(x:It)(c:Heap h h.length):Heap (Vk h x) (h.length+1)/\(Vk h x).Perm (h++[x]):=by
 refine aj0 _ _ _ _ (by omega) (by simp) ⟨by omega,λk b d e=>?_,λk b d a _=>?_⟩
 ·have f:k<h.length:=by omega
  have g:at_ (h++[x]) k=at_ h k:=by simp[at_,ny (show k<h.length by omega)]
  have i:at_ (h++[x]) (par k)=at_ h (par k):=by simp[at_,ny (show par k<h.length by unfold par;omega)]
  rw[g,i];exact c k b (by omega)
 ·exfalso;unfold par at a;omega
def axo(h:List It)(x:It)(a:Heap h h.length):(Vk h x).length=h.length+1:=by have:=(ah3 h x a).2.length_eq;simpa using this
structure NT(h L:List It)(n:Int):Prop where
 heap:Heap h h.length
 perm:L.Perm h
 srt:L.Pairwise (λx y=>wX x y=true)
 low:∀x∈L,x.2.1<n
def NT.len{h L:List It}{n:Int}(s:NT h L n):h.length=L.length:=s.perm.length_eq.symm
def insL(x:It):List It->List It
 |[]=>[x]
 |y::L=>if y.1<=x.1 then y::insL x L else x::y::L
def Un(x:It):∀L,(insL x L).Perm (L++[x])
 |[]=>List.Perm.refl _
 |y::L=>by
  unfold insL;split
  ·exact(Un x L).cons y
  ·exact List.perm_append_comm (l₁:=[x]) (l₂:=y::L)
def au2{y x:It}(h:y.1<=x.1)(a:y.2.1<x.2.1):wX y x=true:=by
 unfold wX;split
 ·simpa using a
 ·simp;omega
def agH{y x:It}(h:x.1<y.1):wX x y=true:=by unfold wX;rw[ah (by omega)];simpa using h
def au1{x y:It}(h:wX x y=true):x.1<=y.1:=auI (ZJ h)
def afM(x:It):∀L:List It,L.Pairwise (λa b=>wX a b=true)->(∀y∈L,y.2.1<x.2.1)->(insL x L).Pairwise (λa b=>wX a b=true)
 |[],_,_=>by simp[insL]
 |y::L,e,c=>by
  obtain⟨h1,h⟩:=iK.1 e;unfold insL;split
  ·next f=>
   refine iK.2 ⟨λz d=>?_,afM x L h λz d=>c z (zk _ d)⟩;rcases iW.1 ((Un x L).mem_iff.1 d)with g|g
   ·exact h1 z g
   ·rw[yC]at g;subst g;exact au2 f (c y acJ)
  ·next f=>
   refine iK.2 ⟨λz d=>?_,e⟩;rcases bD.1 d with rfl|g
   ·exact agH (by omega)
   ·exact agH (by have:=au1 (h1 z g);omega)
def NT.put{h L:List It}{n a:Int}{t:Q0}(s:NT h L n):NT (Vk h (a,n,t)) (insL (a,n,t) L) (n+1):=by
 have b:=ah3 h (a,n,t) s.heap;have c:=axo h (a,n,t) s.heap;refine⟨by rw[c];exact b.1,(Un _ _).trans ((s.perm.append_right _).trans b.2.symm),afM _ _ s.srt s.low,λx d=>?_⟩;rcases iW.1 ((Un _ _).mem_iff.1 d)with g|g
 ·have:=s.low x g;omega
 ·rw[yC]at g;subst g;show n<n+1
  omega
