/- What the trees compute: plain laws. -/
import Derived.Test.YtmkkknckcnpljaaGreatDoorKRe4
set_option linter.all false
namespace Go.Proofs.YtmkkknckcnpljaaGreatDoor
open Go Go.aO
set_option maxRecDepth 100000
namespace R
def wrap_u64(n:Int):0<=IntKind.u64.wrap n/\IntKind.u64.wrap n<18446744073709551616:=by
 have:IntKind.u64.wrap n=n%18446744073709551616:=by simp[IntKind.wrap,IntKind.signed,IntKind.bits]
 rw[this];omega
def UM{k:List Sn}{i:Nat}(hi:i<=k.length):FP 2 (some (.l (k.map sn))) (some (.i .i64 (i:Int))) (some (.i .i64 (k.length:Int)))=some (.l ((k.drop i).map sn)):=by
 rw[nI,aj]
 ·congr 2;rw[CP,CP,lW (by simp),WW]
 ·refine⟨by omega,by omega,by simp,?_⟩;rw[List.all_map];exact List.all_eq_true.2 λx _=>rfl
def aby(k:List Sn):(k.map sn).all (GV.dZ 2)=true:=by rw[List.all_map];exact List.all_eq_true.2 λx _=>rfl
def ai9(t:List Row)(e:Int)(d:dR t):∀(m i:Nat)(a:List Row),i+m=t.length->a.length=i->
 TT.lim 29 [.l (t.map row),.i .i64 t.length,.i .i64 i,.i .u64 e,.l (a.map row)]=some [.i .i64 0,.l ((a++t.drop i).map row)]
 |0,i,a,hi,l=>by
  have h0:t.drop i=[]:=cO (by omega);have h:¬((i:Int)<t.length):=by omega
  refine au rfl rfl ?_;simp[h,h0]
 |m+1,i,a,hi,l=>by
  have b:i<t.length:=by omega
  have p:=d.len;have kc:=EY t[i].1 (zI (d.few _ (dW b)));have c:GV.g [.l (t[i].1.map ent),.i .u64 t[i].2]=row t[i]:=rfl;have f:(row t[i]).dZ 2=true:=rfl;have g:2*(a.length+1)*32<=281474976710656/\a.length+1<=281474976710656:=by omega
  have h:((i:Int)<t.length):=by omega
  have o:=wrap64 (n:=(i:Int)+1) (by omega) (by omega);have k:TT.lim 29 [.l (t.map row),.i .i64 t.length,.i .i64 ((i:Int)+1),.i .u64 e,.l ((a++[t[i]]).map row)]=_:=ai9 t e d m (i+1) (a++[t[i]]) (by omega) (by simp;omega);have j:a++t.drop i=a++[t[i]]++t.drop (i+1):=by rw[List.append_assoc,Az,<-dF b]
  rw[j];generalize a++[t[i]]++t.drop (i+1)=R at *;simp only[jG,gX,jO]at k;refine au rfl rfl ?_;simp[-List.getElem_cons_drop,h,b,o,kc,c,f,g,k]
def MK(s:Sn)(h:dR s.2):TT.lim 28 [sn s]=some [sn s]:=by
 have k:TT.lim 29 [.l (s.2.map row),.i .i64 s.2.length,.i .i64 0,.i .u64 s.1,.l []]=_:=ai9 s.2 s.1 h s.2.length 0 [] (by omega) rfl;rw[aW,bK]at k;have d:=h.len;have b:(32:Int)*s.2.length<=281474976710656/\(s.2.length:Int)<=1152921504606846976:=by omega
 have a:(GV.g [.l [],.i .u64 0]).dZ 2=true:=rfl;have c:GV.g [.i .u64 s.1,.l (s.2.map row)]=sn s:=rfl;refine aG rfl rfl ?_ rfl;simp[b,a,k,c]
structure Kp(k:List Sn):Prop where
 len:k.length<=8
 tb:∀s∈k,Tb s.2
 pos:∀s∈k,0<s.1/\s.1<18446744073709551616
 rise:k.Pairwise λa b=>a.1<b.1/\kX b.2 a.2=true
def Kp.nil:Kp []:=⟨by decide,by simp,by simp,List.Pairwise.nil⟩
def af6(v b:GV):TT.lim 149 [v,.l [],b]=some [.i .i64 0,.i .u64 0,.l [],.b false]:=by refine au rfl rfl ?_;simp
def af5(v b:GV)(k:List Sn)(m:Nat)(x:Sn)(i:k.length=m+1)(j:m<=1000)(d:k[m]? =some x)(e:dR x.2):
 TT.lim 149 [v,.l (k.map sn),b]=some [.i .i64 0,.i .u64 x.1,.l (x.2.map row),.b true]:=by
 have kc:=MK x e;have f:=wrap64 (n:=(m:Int)) (by omega) (by omega);have g:((k.length:Nat):Int)=(m:Int)+1:=by omega
 have a:¬((m:Int)+1=0):=by omega
 have c:(m:Int)<(m:Int)+1:=by omega
 have h:GV.g [.i .u64 x.1,.l (x.2.map row)]=sn x:=rfl;refine au rfl rfl ?_;simp[g,a,f,d,kc,h,c]
def fJ(e:Int)(k:List Sn):QR:=k.findIdx? λs=>decide (s.1=e)
def pK:QR->List GV
 |some j=>[.i .i64 0,.i .i64 (j:Int)]
 |none=>[.i .i64 1]
def Lc{e:Int}{k:List Sn}{j:Nat}(h:fJ e k=some j):∃x,k[j]? =some x/\x.1=e/\j<k.length:=by unfold fJ at h;obtain⟨a,b,-⟩:=List.findIdx?_eq_some_iff_getElem.1 h;exact⟨k[j],bP a,by simpa using b,a⟩
def rJ(e:Int)(k:List Sn)(b:Int):Bool×List Sn×Int:=if e<=b then(false,k,b)else match fJ e k with
 |none=>(false,k,b)
 |some i=>(true,k.drop i,e)
def rM(x:Sn)(b:Int):List Sn->List Sn×Int
 |[]=>([x],b)
 |y::r=>if 8<r.length+2 then(r++[x],if y.1=b then 0 else b)else(y::r++[x],b)
def mX(x:Sn)(k:List Sn)(b:Int):Int×List Sn×Int:=
 if jR x.2≠0 then(jR x.2,k,b)else if x.1=0 then(18,k,b)else match k.getLast? with
 |none=>(0,rM x b k)
 |some l=>if x.1<=l.1 then(20,k,b)else if kX x.2 l.2=false then(21,k,b)else(0,rM x b k)
def last_at{k:List Sn}{l:Sn}(h:k.getLast? =some l):∃m,k.length=m+1/\k[m]? =some l/\l∈k:=by
 cases a:k with
 |nil=>subst a;simp at h
 |cons y r=>
  refine⟨r.length,by simp,?_,?_⟩
  ·rw[<-a,<-h,List.getLast?_eq_getElem?,a];simp
  ·rw[<-a];exact WZ h
def last_none{k:List Sn}(h:k.getLast? =none):k=[]:=List.getLast?_eq_none_iff.1 h
def axm(x:Sn)(v:GV)(k:List Sn)(b:Int)(I:dR x.2)(J:Kp k):
 TT.lim 168 [.i .u64 x.1,.l (x.2.map row),v,.l (k.map sn),.i .u64 b]=some [.i .i64 0,.i .i64 (mX x k b).1,.l ((mX x k b).2.1.map sn),.i .u64 (mX x k b).2.2]:=by
 have h:=SB x I;have kc:=MK x I;have j:GV.g [.i .u64 x.1,.l (x.2.map row)]=sn x:=rfl;have L:(sn x).dZ 2=true:=rfl;unfold mX;by_cases c:jR x.2=0;rotate_left
 ·rw[aj c];refine au rfl rfl ?_;simp[j,h,c]
 rw[ah (by simpa using c)];by_cases e:x.1=0
 ·rw[aj e];have M:(x.1=0)=True:=eq_true e;clear e;refine au rfl rfl ?_;simp[j,h,c,M]
 rw[ah e];have h8:=J.len;cases N:k.getLast? with
 |none=>obtain rfl:=last_none N;refine au rfl rfl ?_;simp[j,h,c,e,kc,L,rM]
 |some l=>
  obtain⟨m,U,D,o⟩:=last_at N;have E:((k.length:Nat):Int)=(m:Int)+1:=by omega
  have w:(0:Int)<(m:Int)+1:=by omega
  have d:(m:Int)<(m:Int)+1:=by omega
  have z:=wrap64 (n:=(m:Int)) (by omega) (by omega);simp only;by_cases q:x.1<=l.1
  ·rw[aj q];refine au rfl rfl ?_;simp[j,h,c,e,E,w,z,D,q,d]
  rw[ah q];have u:=adn x.2 l.2 ((qB _).1 c).1 (J.tb l o).ok.1 I.few (J.tb l o).few;cases P:kX x.2 l.2 with
  |false=>rw[P]at u;refine au rfl rfl ?_;simp[j,h,c,e,E,w,z,D,q,u,d]
  |true=>
   rw[P]at u;rw[ah (by simp)];have Q:(k++[x]).length=m+2:=by simp;omega
   have s:=UM (k:=k++[x]) (i:=1) (by omega);have t:xO 2 32 (some (.l (k.map sn))) (some (.l [sn x]))=some (.l ((k++[x]).map sn)):=by
    rw[rU,aj]
    ·rw[jG];rfl
    ·refine⟨rfl,?_,?_⟩<;>simp only[je,jw,nZ]<;>omega
   have V:=wrap64 (n:=(m:Int)+2) (by omega) (by omega);cases k with
   |nil=>simp at N
   |cons y r=>
    have hr:r.length=m:=by simpa using U
    by_cases h5:8<m+2
    ·have W:2*((y::r++[x]).drop 1).length*32<=281474976710656/\((y::r++[x]).drop 1).length<=281474976710656:=by rw[dH];omega
     have A:=aby ((y::r++[x]).drop 1)
     have X:(y::r++[x]).drop 1=r++[x]:=rfl;have hn:(m:Int)+1+1=(m:Int)+2:=by omega
     have F:(8:Int)<(m:Int)+2:=by omega
     have S:((y::r++[x]).map sn)[0]? =some (sn y):=rfl;have p:(0:Int)<(m:Int)+2:=by omega
     have f:(((y::r++[x]).length:Nat):Int)=(m:Int)+2:=by omega
     have G:(((y::r++[x]).map sn).length:Int)=(m:Int)+2:=by rw[je];exact f
     have H:(((y::r).map sn).length:Int)=(m:Int)+1:=by rw[je];exact E
     have g:((y::r).map sn)[m]? =some (sn l):=by rw[iw,D];rfl
     have T:FP 2 (some (.l ((y::r++[x]).map sn))) (some (.i .i64 1)) (some (.i .i64 ((m:Int)+2)))=some (.l ((r++[x]).map sn)):=by rw[<-f];exact s
     rw[X]at W A;have B:xO 2 32 (some (.l [])) (some (.l ((r++[x]).map sn)))=some (.l ((r++[x]).map sn)):=by
      rw[rU,aj]
      ·rfl
      ·exact⟨A,by simp only[je,nZ];omega,by simp only[je,nZ];omega⟩
     have a:rM x b (y::r)=(r++[x],if y.1=b then 0 else b):=aj (show 8<r.length+2 by omega);rw[a];clear a s;generalize r++[x]=R1 at *;generalize(y::r++[x]).map sn=Y at *;generalize(y::r).map sn=Z at *;by_cases O:y.1=b
     ·have YR:(y.1=b)=True:=eq_true O;clear O;refine au rfl rfl ?_;simp[-nI,-List.all_eq_true,-List.all_map,-rU,j,h,c,e,H,G,w,z,g,q,u,kc,t,F,p,S,YR,T,B,d]
     ·refine au rfl rfl ?_;simp[-nI,-List.all_eq_true,-List.all_map,-rU,j,h,c,e,H,G,w,z,g,q,u,kc,t,F,p,S,O,T,B,d]
    ·have F:¬(8:Int)<(m:Int)+2:=by omega
     have f:(((y::r++[x]).length:Nat):Int)=(m:Int)+2:=by omega
     have G:(((y::r++[x]).map sn).length:Int)=(m:Int)+2:=by rw[je];exact f
     have H:(((y::r).map sn).length:Int)=(m:Int)+1:=by rw[je];exact E
     have g:((y::r).map sn)[m]? =some (sn l):=by rw[iw,D];rfl
     have a:rM x b (y::r)=(y::r++[x],b):=ah (show ¬8<r.length+2 by omega);rw[a];clear a s;show _=some [_,_,GV.l ((y::r++[x]).map sn),_]
     generalize(y::r++[x]).map sn=Y at *;generalize(y::r).map sn=Z at *;refine au rfl rfl ?_;simp[-nI,-List.all_eq_true,-List.all_map,-rU,j,h,c,e,H,G,w,z,g,q,u,kc,t,F,d]
abbrev Ms:=(Int×Int×Int×List Row)×Int
def full(l:Sn):Ms:=((5,l.1,0,l.2),0)
def jY(v:Int)(k:List Sn)(b:Int):Ms:=match k.getLast? with
 |none=>((0,0,0,[]),24)
 |some l=>if l.1=b then((0,0,0,[]),24)else match fJ b k with
  |none=>full l
  |some i=>if 2<=v then match k[i]? with
    |none=>full l
    |some s=>if(jV s l).2≠0 then((0,0,0,[]),(jV s l).2)else((6,(jV s l).1.2.1,(jV s l).1.1,(jV s l).1.2.2),0)
   else full l
def FW(r:Ms):Q1:=[.i .i64 0,.i .i64 r.1.1,.i .u64 r.1.2.1,.i .u64 r.1.2.2.1,.l (r.1.2.2.2.map row),.i .i64 r.2]
def uo(k:List Sn):Sn:=k.getLast?.getD zS
def auD{k:List Sn}(a:Kp k):Tb (uo k).2:=by
 unfold uo;cases b:k.getLast? with
 |none=>exact xA
 |some l=>exact a.tb l (WZ b)
def auF(v b:GV)(k:List Sn)(c:Kp k):TT.lim 149 [v,.l (k.map sn),b]=some [.i .i64 0,.i .u64 (uo k).1,.l ((uo k).2.map row),.b k.getLast?.isSome]:=by
 have g:=c.len;unfold uo;cases d:k.getLast? with
 |none=>obtain rfl:=last_none d;exact af6 v b
 |some l=>obtain⟨m,e,f,a⟩:=last_at d;exact af5 v b k m l e (by omega) f (c.tb l a).good
def Kp.add{k:List Sn}(d:Kp k){x:Sn}{b:Int}(p:Tb x.2)(h0:0<x.1/\x.1<18446744073709551616)(z:∀l,k.getLast? =some l->l.1<x.1/\kX x.2 l.2=true):Kp (rM x b k).1:=by
 have e:∀s∈k,s.1<x.1/\kX x.2 s.2=true:=by
  intro s c;obtain⟨i,hi,rfl⟩:=List.getElem_of_mem c;cases q:k.getLast? with
  |none=>exact absurd hi (by rw[last_none q];simp)
  |some l=>
   obtain⟨m,D,f,g⟩:=last_at q;obtain⟨A,v⟩:=z l q;have j:m<k.length:=by omega
   have n:k[m]=l:=by have:=bP j;rw[f]at this;injection this with this;exact this.symm
   rcases vP i m with o|o
   ·have w:=W9.1 d.rise i m hi j o;rw[n]at w;exact⟨by omega,ak8 p.rise (d.tb l g).rise (d.tb _ (dW hi)).rise v w.2⟩
   ·have:i=m:=by omega
    subst this;simp only[n];exact⟨A,v⟩
 cases k with
 |nil=>exact⟨by simp[rM],by simpa[rM]using p,by simpa[rM]using h0,by simp[rM]⟩
 |cons y r=>
  have t:Kp r:=⟨by have:=d.len;simp at this;omega,λs c=>d.tb s (by simp[c]),λs c=>d.pos s (by simp[c]),(iK.1 d.rise).2⟩
  have B:=d.len;simp only[jw]at B;simp only[rM];split
  ·refine⟨by simp;omega,?_,?_,?_⟩
   ·intro s c;rcases iW.1 c with h|h
    ·exact t.tb s h
    ·rw[yC.1 h];exact p
   ·intro s c;rcases iW.1 c with h|h
    ·exact t.pos s h
    ·rw[yC.1 h];exact h0
   ·refine List.pairwise_append.2 ⟨t.rise,by simp,λa f b u=>?_⟩;rw[yC.1 u];exact e a (by simp[f])
  ·refine⟨by simp;omega,?_,?_,?_⟩
   ·intro s c;rcases iW.1 c with h|h
    ·exact d.tb s h
    ·rw[yC.1 h];exact p
   ·intro s c;rcases iW.1 c with h|h
    ·exact d.pos s h
    ·rw[yC.1 h];exact h0
   ·refine List.pairwise_append.2 ⟨d.rise,by simp,λa f b u=>?_⟩;rw[yC.1 u];exact e a f
def axn{x:Sn}{k:List Sn}{b:Int}(a:Kp k)(e:dR x.2)(h0:0<=x.1/\x.1<18446744073709551616):Kp (mX x k b).2.1:=by
 unfold mX;split
 ·exact a
 next f=>
 split
 ·exact a
 next i=>
 have d:Tb x.2:=e.tb ((qB _).1 (by simpa using f));split
 ·next c=>exact a.add d ⟨by omega,h0.2⟩ λl h=>by rw[c]at h;cases h
 ·next l c=>
  split
  ·exact a
  next j=>
  split
  ·exact a
  next g=>exact a.add d ⟨by omega,h0.2⟩ λm h=>by rw[c]at h;injection h with h;subst h;exact⟨by omega,by simpa using g⟩
def Kp.drop{k:List Sn}(a:Kp k)(i:Nat):Kp (k.drop i):=
 ⟨by have:=a.len;rw[dH];omega,λs b=>a.tb s (J5 b),λs b=>a.pos s (J5 b),a.rise.sublist (WJ i k)⟩
def akN{e:Int}{k:List Sn}{b:Int}(a:Kp k):Kp (rJ e k b).2.1:=by
 unfold rJ;split
 ·exact a
 split
 ·exact a
 ·exact a.drop _
def Ug{g:GV}(h:(cu.int .u8).has g):∃n,g=.i .u8 n/\0<=n/\n<256:=by simp only[cu.has]at h;obtain⟨n,rfl,a,b⟩:=h;exact⟨n,rfl,by simpa[IntKind.min,IntKind.signed]using a,by simp[IntKind.max,IntKind.signed,IntKind.bits]at b;omega⟩
def akx(xs:Q1)(k:List Sn):Prop:=∀s∈k,iI (.i .u64 s.1) xs=some (sn s)
def key_inj{a b:Int}{x:GV}(h1:oP (.i .u64 a) x=true)(c:oP (.i .u64 b) x=true):a=b:=by
 cases x<;>simp[oP]at h1 c
 omega
def afT(a b:Int):oP (.i .u64 a) (.i .u64 b)=decide (a=b):=by simp only[oP];rw[qN];simp
def zx(a b:Int)(u:GV):∀xs:Q1,iI (.i .u64 a) (lQ (.i .u64 b) u xs)=if a=b then some u else iI (.i .u64 a) xs
 |[]=>by
  show(if oP (.i .u64 a) (.i .u64 b)=true then some u else none)=_
  rw[afT];by_cases h:a=b<;>simp[h,iI]
 |.g [x,v]::xs=>by
  have e:=zx a b u xs;show iI (.i .u64 a) (if oP (.i .u64 b) x=true then .g [.i .u64 b,u]::xs else .g [x,v]::lQ (.i .u64 b) u xs)=if a=b then some u else(if oP (.i .u64 a) x=true then some v else iI (.i .u64 a) xs)
  cases c:oP (.i .u64 b) x with
  |true=>
   rw[aj rfl];show(if oP (.i .u64 a) (.i .u64 b)=true then some u else iI (.i .u64 a) xs)=_
   rw[afT];by_cases h:a=b
   ·simp[h]
   ·cases d:oP (.i .u64 a) x with
    |true=>exact absurd (key_inj d c) h
    |false=>simp[h]
  |false=>
   rw[ah (by simp)];show(if oP (.i .u64 a) x=true then some v else iI (.i .u64 a) (lQ (.i .u64 b) u xs))=_
   rw[e];cases d:oP (.i .u64 a) x with
   |true=>
    by_cases h:a=b
    ·subst h;rw[d]at c;cases c
    ·simp[h]
   |false=>simp
 |.g []::xs=>zx a b u xs
 |.g [_]::xs=>zx a b u xs
 |.g (_::_::_::_)::xs=>zx a b u xs
 |.i _ _::xs=>zx a b u xs
 |.b _::xs=>zx a b u xs
 |.s _::xs=>zx a b u xs
 |.l _::xs=>zx a b u xs
structure Lead(xs:Q1)(k:List Sn)(b:Int):Prop where
 kp:Kp k
 map:akx xs k
 base:b=0\/∃s∈k,s.1=b
def RH(kind epoch base:Int)(t:List Row):aN:={kind:=kind,id:=0,min:=0,max:=0,chosen:=0,flags:=0,cost:=0,priority:=0,deadline:=0,retry:=0,epoch:=epoch,base:=base,digest:=0,lag:=0,code:=0,want:=0,remaining:=0,allowed:=false,name:=[],region:=[],note:=[],d:=[],t:=t}
def AZ(b a base:Int)(t:GV):GV:=.g [.i .i64 b,.i .u64 0,.i .u64 0,.i .u64 0,.i .u64 0,.i .u64 0,.i .u64 0,.i .u64 0,.i .u64 0,.i .u64 0,.i .u64 a,.i .u64 base,.i .u64 0,.i .u64 0,.i .u64 0,.i .u64 0,.i .i64 0,.b false,.s [],.s [],.s [],.l [],t,.l []]
def alc{b a base:Int}{t:List Row}(h1: -9223372036854775808<=b/\b<=9223372036854775807)(c:0<=a/\a<18446744073709551616)(d:0<=base/\base<18446744073709551616)(e:Rows t):lC (RH b a base t):=by refine⟨h1,?_,?_,?_,?_,?_,?_,?_,?_,?_,c,d,?_,?_,?_,?_,?_,?_,?_,?_,?_,e⟩<;>simp[RH,lU]
def afY{k:List Sn}{b:Int}(f:Kp k){l s:Sn}{i:Nat}(a:k.getLast? =some l)(j:l.1≠b)(w:fJ b k=some i)(n:k[i]? =some s):(jV s l).2=0/\dR (jV s l).1.2.2:=by
 obtain⟨y,d,o,hi⟩:=Lc w;rw[n]at d;injection d with d
 subst d;have e:=WZ a;have g:=qp n;obtain⟨m,x,p,-⟩:=last_at a;have h:m<k.length:=by omega
 have u:k[m]=l:=by have:=bP h;rw[p]at this;injection this with this;exact this.symm
 have q:k[i]=s:=by have:=bP hi;rw[n]at this;injection this with this;exact this.symm
 have r:i<m:=by
  rcases vP i m with c|c
  ·exact c
  ·have:i=m:=by omega
   subst this;rw[u]at q;subst q;exact absurd o j
 have t:=W9.1 f.rise i m hi h r;rw[u,q]at t;have v:(jV s l).2=0:=by rw[aqy (f.tb s g).ok (f.tb l e).ok t.1 t.2]
 exact⟨v,(alb (f.tb s g).good (f.tb l e).good v).2.2⟩
def Af(v:Int)(k:List Sn)(b:Int):GV:=.g [.i .i64 v,.l (k.map sn),.i .u64 b]
def aiN(v:Int)(k:List Sn)(b:Int)(l:Sn)(g:Kp k)(o:dR l.2):∀m i:Nat,i+m=k.length->
 TT.lim 208 [.l (k.map sn),.i .i64 k.length,.i .i64 i,.i .u64 l.1,.l (l.2.map row),.i .i64 v,.i .u64 b]=some (match(fJ b (k.drop i)).bind λj=>k[j+i]? with
  |some s=>[.i .i64 0,.i .u64 (jV s l).1.2.1,.i .u64 (jV s l).1.1,.l ((jV s l).1.2.2.map row)]
  |none=>[.i .i64 1])
 |0,i,hi=>by
  have h0:k.drop i=[]:=cO (by omega);have h:¬((i:Int)<k.length):=by omega
  refine au rfl rfl ?_;simp[h,h0,fJ]
 |m+1,i,hi=>by
  have w:=g.len;have a:i<k.length:=by omega
  have h:((i:Int)<k.length):=by omega
  have p:=wrap64 (n:=(i:Int)+1) (by omega) (by omega);have q:TT.lim 208 [.l (k.map sn),.i .i64 k.length,.i .i64 ((i:Int)+1),.i .u64 l.1,.l (l.2.map row),.i .i64 v,.i .u64 b]=_:=aiN v k b l g o m (i+1) (by omega);have c:k.drop i=k[i]::k.drop (i+1):=dF a;by_cases e:k[i].1=b
  ·have f:((fJ b (k.drop i)).bind λj=>k[j+i]?)=some k[i]:=by rw[c];unfold fJ;rw[He,aj (by simpa using e)];simp[a]
   rw[f];have r:=aqw k[i] l (g.tb _ (dW a)).good o;have d:(k[i].1=b)=True:=eq_true e;have t:GV.g [.i .u64 k[i].1,.l (k[i].2.map row)]=sn k[i]:=rfl;have u:GV.g [.i .u64 l.1,.l (l.2.map row)]=sn l:=rfl;clear e q f c;refine au rfl rfl ?_;simp[-List.getElem_cons_drop,h,a,d,t,u,r,p]
  ·have f:((fJ b (k.drop i)).bind λj=>k[j+i]?)=(fJ b (k.drop (i+1))).bind λj=>k[j+(i+1)]?:=by
    rw[c];unfold fJ;rw[He,ah (by simpa using e)];cases List.findIdx? (λs:Sn=>decide (s.1=b)) (k.drop (i+1))with
    |none=>rfl
    |some j=>simp only[gB,vU];congr 1;omega
   rw[f];generalize(fJ b (k.drop (i+1))).bind (λj=>k[j+(i+1)]?)=R at *;have d:(k[i].1=b)=False:=eq_false e;clear e f c;refine au rfl rfl ?_;simp[-List.getElem_cons_drop,h,a,d,p,q]
def ayt(v:Int)(k:List Sn)(b:Int)(o:Kp k)(E:0<=b):
 TT.lim 207 [Af v k b]=some [AZ (jY v k b).1.1 (jY v k b).1.2.1 (jY v k b).1.2.2.1 (.l ((jY v k b).1.2.2.2.map row)),.i .i64 (jY v k b).2]:=by
 have F:=o.len;unfold Af;cases f:k.getLast? with
 |none=>obtain rfl:=last_none f;have c:jY v [] b=((0,0,0,[]),24):=rfl;rw[c];refine aG rfl rfl ?_ rfl;simp[AZ]
 |some l=>
  obtain⟨m,G,p,q⟩:=last_at f;have h:((k.length:Nat):Int)=(m:Int)+1:=by omega
  have d:¬((m:Int)+1=0):=by omega
  have r:=wrap64 (n:=(m:Int)) (by omega) (by omega);by_cases a:l.1=b
  ·have c:jY v k b=((0,0,0,[]),24):=by unfold jY;rw[f];simp only;rw[aj a]
   rw[c];have u:(l.1=b)=True:=eq_true a;clear a;refine aG rfl rfl ?_ rfl;simp[h,d,r,p,u,AZ]
  by_cases j:2<=v;rotate_left
  ·have c:jY v k b=full l:=by
    unfold jY;rw[f];simp only;rw[ah a];cases fJ b k with
    |none=>rfl
    |some i=>simp[j]
   rw[c];refine aG rfl rfl ?_ rfl;simp[h,d,r,p,a,j,full,AZ]
  by_cases t:b=0
  ·have e:fJ b k=none:=by
    cases e:fJ b k with
    |none=>rfl
    |some i=>obtain⟨x,z,A,-⟩:=Lc e;have:=o.pos x (qp z);omega
   have c:jY v k b=full l:=by unfold jY;rw[f];simp only;rw[ah a,e]
   rw[c];have w:(b=0)=True:=eq_true t;clear t;refine aG rfl rfl ?_ rfl;simp[h,d,r,p,a,j,w,full,AZ]
  have g:=aiN v k b l o (o.tb l q).good k.length 0 (by omega);rw[bK,h]at g;simp only[lD,mZ]at g;cases e:fJ b k with
  |none=>
   rw[e]at g;simp only[Option.bind_none]at g;have c:jY v k b=full l:=by unfold jY;rw[f];simp only;rw[ah a,e]
   rw[c];refine aG rfl rfl ?_ rfl;simp[h,d,r,p,a,j,t,g,full,AZ]
  |some i=>
   obtain⟨s,y,-,hi⟩:=Lc e;obtain⟨B,-⟩:=afY o f a e y;rw[e]at g;simp only[vU,y]at g;have c:jY v k b=((6,(jV s l).1.2.1,(jV s l).1.1,(jV s l).1.2.2),0):=by unfold jY;rw[f];simp only;rw[ah a,e];simp only[y,B];rw[aj j,ah (by simp)]
   rw[c];generalize(jV s l).1=D at *;refine aG rfl rfl ?_ rfl;simp[h,d,r,p,a,j,t,g,AZ]
def D9(k:List Sn)(i:Nat):QR->List GV
 |some j=>[.i .i64 0,.l ((k.drop (j+i)).map sn)]
 |none=>[.i .i64 1]
def aib(e:Int)(v:GV)(k:List Sn)(b:Int)(x:k.length<=1000):∀m i:Nat,i+m=k.length->
 TT.lim 308 [.i .u64 e,.l (k.map sn),.i .i64 k.length,.i .i64 i,v,.i .u64 b]=some (if e<=b then[.i .i64 1]else D9 k i (fJ e (k.drop i)))
 |0,i,hi=>by
  have h0:k.drop i=[]:=cO (by omega);have h:¬((i:Int)<k.length):=by omega
  refine au rfl rfl ?_;simp[h,h0,fJ,D9]
 |m+1,i,hi=>by
  have o:i<k.length:=by omega
  have r:((k.map sn).length:Int)=(k.length:Int):=by rw[je]
  have h:((i:Int)<k.length):=by omega
  have t:=wrap64 (n:=(i:Int)+1) (by omega) (by omega);have l:TT.lim 308 [.i .u64 e,.l (k.map sn),.i .i64 k.length,.i .i64 ((i:Int)+1),v,.i .u64 b]=_:=aib e v k b x m (i+1) (by omega);have c:k.drop i=k[i]::k.drop (i+1):=dF o;have p:=UM (k:=k) (i:=i) (by omega);have g:(k.map sn)[i]? =some (sn k[i]):=by rw[iw,bP o];rfl
  by_cases w:e<=b
  ·rw[aj w]at l⊢;have d:¬b<e:=by omega
   by_cases f:k[i].1=e
   ·have a:(k[i].1=e)=True:=eq_true f;clear f c;generalize k.map sn=u at *;generalize k[i]=z at *;refine au rfl rfl ?_;simp[h,g,a,d,t,l]
   ·have a:(k[i].1=e)=False:=eq_false f;clear f c;generalize k.map sn=u at *;generalize k[i]=z at *;refine au rfl rfl ?_;simp[h,g,a,d,t,l]
  rw[ah w]at l⊢;have d:b<e:=by omega
  by_cases f:k[i].1=e
  ·have q:fJ e (k.drop i)=some 0:=by rw[c];unfold fJ;rw[He,aj (by simpa using f)]
   rw[q];simp only[D9,jQ];have a:(k[i].1=e)=True:=eq_true f;clear f c l q;generalize(k.drop i).map sn=y at *;generalize k.map sn=u at *;generalize k[i]=z at *;refine au rfl rfl ?_;simp[-nI,h,g,r,a,d,p]
  ·have q:D9 k i (fJ e (k.drop i))=D9 k (i+1) (fJ e (k.drop (i+1))):=by
    rw[c];unfold fJ;rw[He,ah (by simpa using f)];cases List.findIdx? (λs:Sn=>decide (s.1=e)) (k.drop (i+1))with
    |none=>rfl
    |some j=>simp only[gB,D9];rw[show j+1+i=j+(i+1) by omega]
   rw[q];generalize D9 k (i+1) (fJ e (k.drop (i+1)))=R at *;have a:(k[i].1=e)=False:=eq_false f;clear f c q p;generalize k.map sn=u at *;generalize k[i]=z at *;refine au rfl rfl ?_;simp[h,g,a,d,t,l]
def axW(e v:Int)(k:List Sn)(b:Int)(f:k.length<=1000):
 TT.lim 307 [Af v k b,.i .u64 e]=some [Af v (rJ e k b).2.1 (rJ e k b).2.2,.b (rJ e k b).1]:=by
 have a:TT.lim 308 [.i .u64 e,.l (k.map sn),.i .i64 k.length,.i .i64 0,.i .i64 v,.i .u64 b]=_:=aib e (.i .i64 v) k b f k.length 0 (by omega);rw[bK]at a;unfold rJ Af;by_cases c:e<=b
 ·rw[aj c]at a⊢;refine aG rfl rfl ?_ rfl;simp[a]
 ·rw[ah c]at a⊢;cases d:fJ e k with
  |none=>rw[d]at a;simp only[D9]at a;refine aG rfl rfl ?_ rfl;simp[a]
  |some j=>rw[d]at a;simp only[D9,lD]at a⊢;generalize k.drop j=g at *;refine aG rfl rfl ?_ rfl;simp[a]
def ayH(x:Sn)(v:Int)(k:List Sn)(b:Int)(s:dR x.2)(A:Kp k):
 TT.lim 115 [Af v k b,sn x]=some [Af v (mX x k b).2.1 (mX x k b).2.2,.i .i64 (mX x k b).1]:=by
 have g:=Iu x.2 s.rows s.few;have B:GV.g [.i .u64 x.1,.l (x.2.map row)]=sn x:=rfl;have E:(sn x).dZ 2=true:=rfl;have Y:=A.len;have F:xO 2 32 (some (.l [])) (some (.l (k.map sn)))=some (.l (k.map sn)):=by
  rw[rU,aj]
  ·rfl
  ·exact⟨aby k,by simp only[je,nZ];omega,by simp only[je,nZ];omega⟩
 unfold mX Af;by_cases c:jR x.2=0;rotate_left
 ·rw[aj c];refine aG rfl rfl ?_ rfl;simp[g,c]
 rw[ah (by simpa using c)];by_cases f:x.1=0
 ·rw[aj f];have G:(x.1=0)=True:=eq_true f;clear f;refine aG rfl rfl ?_ rfl;simp[g,c,G]
 rw[ah f];cases H:k.getLast? with
 |none=>obtain rfl:=last_none H;refine aG rfl rfl ?_ rfl;simp[B,g,c,f,E,rM]
 |some l=>
  obtain⟨m,Q,S,d⟩:=last_at H;have T:((k.length:Nat):Int)=(m:Int)+1:=by omega
  have t:(0:Int)<(m:Int)+1:=by omega
  have u:=wrap64 (n:=(m:Int)) (by omega) (by omega);have w:((k.map sn).length:Int)=(m:Int)+1:=by rw[je];exact T
  have e:(k.map sn)[m]? =some (sn l):=by rw[iw,S];rfl
  simp only;by_cases j:x.1<=l.1
  ·rw[aj j];show _=some [GV.g [_,GV.l (k.map sn),_],_]
   generalize k.map sn=I at *;refine aG rfl rfl ?_ rfl;simp[g,c,f,w,t,u,e,j]
  rw[ah j];have U:Tb x.2:=s.tb ((qB _).1 c);have o:=ado x.2 l.2 (by have:=s.len;omega) s.few (by have:=(A.tb l d).good.len;omega) (A.tb l d).few;rw[adl U (A.tb l d)]at o;cases M:kX x.2 l.2 with
  |false=>
   rw[M]at o;rw[aj rfl];show _=some [GV.g [_,GV.l (k.map sn),_],_]
   generalize k.map sn=I at *;refine aG rfl rfl ?_ rfl;simp[g,c,f,w,t,u,e,j,o]
  |true=>
   rw[M]at o;rw[ah (by simp)];have N:(k++[x]).length=m+2:=by simp;omega
   have p:=UM (k:=k++[x]) (i:=1) (by omega);have q:xO 2 32 (some (.l (k.map sn))) (some (.l [sn x]))=some (.l ((k++[x]).map sn)):=by
    rw[rU,aj]
    ·rw[jG];rfl
    ·refine⟨rfl,?_,?_⟩<;>simp only[je,jw,nZ]<;>omega
   cases k with
   |nil=>simp at H
   |cons y r=>
    have Z:r.length=m:=by simpa using Q
    have z:(((y::r++[x]).length:Nat):Int)=(m:Int)+2:=by omega
    have J:(((y::r++[x]).map sn).length:Int)=(m:Int)+2:=by rw[je];exact z
    have V:=wrap64 (n:=(m:Int)+2) (by omega) (by omega);by_cases h5:8<m+2
    ·have D:(8:Int)<(m:Int)+2:=by omega
     have O:((y::r++[x]).map sn)[0]? =some (sn y):=rfl;have h:(0:Int)<(m:Int)+2:=by omega
     have P:FP 2 (some (.l ((y::r++[x]).map sn))) (some (.i .i64 1)) (some (.i .i64 ((m:Int)+2)))=some (.l ((r++[x]).map sn)):=by rw[<-z];exact p
     have a:rM x b (y::r)=(r++[x],if y.1=b then 0 else b):=aj (show 8<r.length+2 by omega);rw[a];clear a p;generalize r++[x]=R1 at *;generalize(y::r++[x]).map sn=W at *;generalize(y::r).map sn=I at *;by_cases L:y.1=b
     ·have X:(y.1=b)=True:=eq_true L;clear L;refine aG rfl rfl ?_ rfl;simp[-nI,-List.all_eq_true,-List.all_map,-rU,B,g,c,f,w,J,t,u,e,j,o,F,q,D,h,O,X,P]
     ·refine aG rfl rfl ?_ rfl;simp[-nI,-List.all_eq_true,-List.all_map,-rU,B,g,c,f,w,J,t,u,e,j,o,F,q,D,h,O,L,P]
    ·have D:¬(8:Int)<(m:Int)+2:=by omega
     have a:rM x b (y::r)=(y::r++[x],b):=ah (show ¬8<r.length+2 by omega);rw[a];clear a p;show _=some [GV.g [_,GV.l ((y::r++[x]).map sn),_],_]
     generalize(y::r++[x]).map sn=W at *;generalize(y::r).map sn=I at *;refine aG rfl rfl ?_ rfl;simp[-nI,-List.all_eq_true,-List.all_map,-rU,B,g,c,f,w,J,t,u,e,j,o,F,q,D]
@[simp] theorem aDx(b a base:Int)(t:GV):(AZ b a base t).cells=[.i .i64 b,.i .u64 0,.i .u64 0,.i .u64 0,.i .u64 0,.i .u64 0,.i .u64 0,.i .u64 0,.i .u64 0,.i .u64 0,.i .u64 a,.i .u64 base,.i .u64 0,.i .u64 0,.i .u64 0,.i .u64 0,.i .i64 0,.b false,.s [],.s [],.s [],.l [],t,.l []]:=rfl
def avK{v:Int}{k:List Sn}{b:Int}(e:Kp k):(-9223372036854775808<=(jY v k b).1.1/\(jY v k b).1.1<=9223372036854775807)/\(0<=(jY v k b).1.2.1/\(jY v k b).1.2.1<18446744073709551616)/\(0<=(jY v k b).1.2.2.1/\(jY v k b).1.2.2.1<18446744073709551616)/\dR (jY v k b).1.2.2.2:=by
 have zero:∀c:Int,(-9223372036854775808<=((((0,0,0,[]),c):Ms)).1.1/\((((0,0,0,[]),c):Ms)).1.1<=9223372036854775807)/\(0<=((((0,0,0,[]),c):Ms)).1.2.1/\((((0,0,0,[]),c):Ms)).1.2.1<18446744073709551616)/\(0<=((((0,0,0,[]),c):Ms)).1.2.2.1/\((((0,0,0,[]),c):Ms)).1.2.2.1<18446744073709551616)/\dR ((((0,0,0,[]),c):Ms)).1.2.2.2:=λc=>⟨by simp,by simp,by simp,xA.good⟩
 unfold jY;cases h:k.getLast? with
 |none=>exact zero 24
 |some l=>
  have d:=WZ h;have r:=e.pos l d
  have a:(-9223372036854775808<=(full l).1.1/\(full l).1.1<=9223372036854775807)/\(0<=(full l).1.2.1/\(full l).1.2.1<18446744073709551616)/\(0<=(full l).1.2.2.1/\(full l).1.2.2.1<18446744073709551616)/\dR (full l).1.2.2.2:=
   ⟨by simp[full],⟨by simp only[full];omega,by simp only[full];omega⟩,by simp[full],(e.tb l d).good⟩
  simp only;by_cases f:l.1=b
  ·rw[aj f];exact zero 24
  rw[ah f];cases j:fJ b k with
  |none=>exact a
  |some i=>
   obtain⟨s,g,-,hi⟩:=Lc j;obtain⟨m,p⟩:=afY e h f j g;simp only[g];by_cases n:2<=v
   ·rw[aj n,ah (by simp[m])];have o:=(aew m).2.2.2.2;have q:=e.pos s (qp g);refine⟨by simp,?_,?_,p⟩
    ·simp only[o];omega
    ·simp only[o];omega
   ·rw[ah n];exact a
abbrev An:=Int×Int×Int×Int
def nM(c v kd a d:Int)(t:List Row)(b:Bool)(h:Sn):An×Int×Bool×Sn:=
 if c≠0 then((0,0,0,0),c,b,h)
 else if kd=5 then(if b=true/\a<=h.1 then((7,h.1,0,0),20,b,h)else((7,a,0,0),0,true,(a,t)))
 else if kd=6 then(if b=true/\a<=h.1 then((7,h.1,0,0),20,b,h)
  else if(lY h (d,a,t)).2≠0 then((8,a,IntKind.u64.wrap (lY h (d,a,t)).2,if 2<=v then h.1 else 0),(lY h (d,a,t)).2,b,h)
  else((7,(lY h (d,a,t)).1.1,0,0),0,true,(lY h (d,a,t)).1))
 else((0,0,0,0),15,b,h)
def xw(r:An×Int×Bool×Sn):Q1:=[.i .i64 0,.i .i64 r.1.1,.i .u64 r.1.2.1,.i .u64 r.1.2.2.1,.i .u64 r.1.2.2.2,.i .i64 r.2.1,.b r.2.2.1,.i .u64 r.2.2.2.1,.l (r.2.2.2.2.map row)]
set_option maxHeartbeats 2000000 in
def aB7(b:aN)(g:List aH)(v:Int)(i:Bool)(h:Sn)(x:lC b)(t:dR b.t)(u:dO g)(o:g.length<=1000000)(y:dR h.2):
 TT.lim 259 ((dU b (aC g)).cells++[.i .i64 v,.b i,.i .u64 h.1,.l (h.2.map row)])=some (xw (nM (fH b g v) v b.kind b.epoch b.base b.t i h)):=by
 have d:=Z4 b g v x t.few u o;have p:=MK (b.epoch,b.t) t;have c:=ak3 h (b.base,b.epoch,b.t) y t;have w:GV.g [.i .u64 b.epoch,.l (b.t.map row)]=sn (b.epoch,b.t):=rfl;have m:GV.g [.i .u64 h.1,.l (h.2.map row)]=sn h:=rfl;have n:GV.g [.i .u64 b.base,.i .u64 b.epoch,.l (b.t.map row)]=dl (b.base,b.epoch,b.t):=rfl;rw[dK];simp only[bJ,aW];unfold nM;generalize lY h (b.base,b.epoch,b.t)=A at *;obtain⟨⟨B,D⟩,z⟩:=A;generalize fH b g v=C at *;generalize aC g=R at *;by_cases r:C=0;rotate_left
 ·rw[aj r];refine au rfl rfl ?_;simp -implicitDefEqProofs[eF,d,r,xw]
 rw[ah (by simpa using r)];subst r;by_cases j:b.kind=5
 ·rw[aj j];have f:(b.kind=5)=True:=eq_true j;clear j;cases i with
  |false=>refine au rfl rfl ?_;simp -implicitDefEqProofs[eF,d,f,xw,w,p]
  |true=>
   by_cases a:b.epoch<=h.1
   ·refine au rfl rfl ?_;simp -implicitDefEqProofs[eF,d,f,xw,a]
   ·refine au rfl rfl ?_;simp -implicitDefEqProofs[eF,d,f,xw,a,w,p]
 rw[ah j];by_cases q:b.kind=6;rotate_left
 ·rw[ah q];refine au rfl rfl ?_;simp -implicitDefEqProofs[eF,d,j,q,xw]
 rw[aj q];have f:(b.kind=5)=False:=eq_false j;have k:(b.kind=6)=True:=eq_true q;clear j q;by_cases a:i=true/\b.epoch<=h.1
 ·rw[aj a];obtain⟨rfl,a⟩:=a;refine au rfl rfl ?_;simp -implicitDefEqProofs[eF,d,f,k,xw,a]
 rw[ah a];by_cases l:z=0
 ·rw[ah (by simpa using l)];subst l;cases i with
  |false=>refine au rfl rfl ?_;simp -implicitDefEqProofs[eF,d,f,k,xw,m,n,c]
  |true=>have a:¬b.epoch<=h.1:=λe=>a ⟨rfl,e⟩;refine au rfl rfl ?_;simp -implicitDefEqProofs[eF,d,f,k,xw,a,m,n,c]
 ·rw[aj l];by_cases s:2<=v
  ·cases i with
   |false=>refine au rfl rfl ?_;simp -implicitDefEqProofs[eF,d,f,k,xw,m,n,c,l,s]
   |true=>have a:¬b.epoch<=h.1:=λe=>a ⟨rfl,e⟩;refine au rfl rfl ?_;simp -implicitDefEqProofs[eF,d,f,k,xw,a,m,n,c,l,s]
  ·cases i with
   |false=>refine au rfl rfl ?_;simp -implicitDefEqProofs[eF,d,f,k,xw,m,n,c,l,s]
   |true=>have a:¬b.epoch<=h.1:=λe=>a ⟨rfl,e⟩;refine au rfl rfl ?_;simp -implicitDefEqProofs[eF,d,f,k,xw,a,m,n,c,l,s]
def atj(v e t:GV):TT.lim 139 [v,.b false,e,t]=some [.i .i64 0,.i .u64 0,.l [],.b false]:=by refine au rfl rfl ?_;simp
def atl(v:GV)(h:Sn)(b:dR h.2):TT.lim 139 [v,.b true,.i .u64 h.1,.l (h.2.map row)]=some [.i .i64 0,.i .u64 h.1,.l (h.2.map row),.b true]:=by have a:=MK h b;have c:GV.g [.i .u64 h.1,.l (h.2.map row)]=sn h:=rfl;refine au rfl rfl ?_;simp[c,a]
def ati(v:GV)(a:Bool)(h:Sn)(b:dR h.2)(c:a=false->h=zS):TT.lim 139 [v,.b a,.i .u64 h.1,.l (h.2.map row)]=some [.i .i64 0,.i .u64 h.1,.l (h.2.map row),.b a]:=by
 cases a with
 |false=>rw[c rfl];exact atj v _ _
 |true=>exact atl v h b
def rQ(a:An):GV:=.g [.i .i64 a.1,.i .u64 0,.i .u64 0,.i .u64 0,.i .u64 0,.i .u64 0,.i .u64 0,.i .u64 0,.i .u64 0,.i .u64 0,.i .u64 a.2.1,.i .u64 0,.i .u64 0,.i .u64 0,.i .u64 a.2.2.1,.i .u64 a.2.2.2,.i .i64 0,.b false,.s [],.s [],.s [],.l [],.l [],.l []]
@[simp] theorem aDu(a:An):(rQ a).cells=[.i .i64 a.1,.i .u64 0,.i .u64 0,.i .u64 0,.i .u64 0,.i .u64 0,.i .u64 0,.i .u64 0,.i .u64 0,.i .u64 0,.i .u64 a.2.1,.i .u64 0,.i .u64 0,.i .u64 0,.i .u64 a.2.2.1,.i .u64 a.2.2.2,.i .i64 0,.b false,.s [],.s [],.s [],.l [],.l [],.l []]:=rfl
@[simp] theorem aDv(a:An):(rQ a).scalar=false:=rfl
def akZ(a b c d:Int):GV.g [.i .i64 a,.i .u64 0,.i .u64 0,.i .u64 0,.i .u64 0,.i .u64 0,.i .u64 0,.i .u64 0,.i .u64 0,.i .u64 0,.i .u64 b,.i .u64 0,.i .u64 0,.i .u64 0,.i .u64 c,.i .u64 d,.i .i64 0,.b false,.s [],.s [],.s [],.l [],.l [],.l []]=rQ (a,b,c,d):=rfl
abbrev Tm:=Int×Int×Int×List Row
def akr(xs:Q1)(m:Tm):Prop:=
 (m.1=5/\Tb m.2.2.2/\(0<m.2.1/\m.2.1<18446744073709551616)/\m.2.2.1=0/\iI (.i .u64 m.2.1) xs=some (sn (m.2.1,m.2.2.2)))\/
 (m.1=6/\Tb m.2.2.2/\(0<m.2.2.1/\m.2.2.1<m.2.1/\m.2.1<18446744073709551616)/\∃s l:Sn,iI (.i .u64 m.2.2.1) xs=some (sn s)/\iI (.i .u64 m.2.1) xs=some (sn l)/\l.1=m.2.1/\s.1=m.2.2.1/\Tb l.2/\lY s (m.2.2.1,m.2.1,m.2.2.2)=(l,0))
structure JY(xs:Q1)(told:List Tm)(back:List An)(k:List Sn)(b:Int)(sm:Bool)(h:Sn):Prop where
 lead:Lead xs k b
 keys:∀e g,iI (.i .u64 e) xs=some g->∃l,k.getLast? =some l/\e<=l.1
 told:∀m∈told,akr xs m
 back:∀a∈back,a.1=7->sm=true/\a.2.1<=h.1
 has:(sm=true/\iI (.i .u64 h.1) xs=some (sn h)/\Tb h.2)\/(sm=false/\h=zS)
 base:b<=0\/(sm=true/\b<=h.1)
 zero:iI (.i .u64 0) xs=none
def JY.tb{xs:Q1}{told:List Tm}{back:List An}{k:List Sn}{b:Int}{c:Bool}{h:Sn}(f:JY xs told back k b c h):Tb h.2:=by
 rcases f.has with⟨-,-,a⟩|⟨-,a⟩
 ·exact a
 ·rw[a];exact xA
def axl{x:Sn}{k:List Sn}{b:Int}:(mX x k b).2.2=b\/(mX x k b).2.2=0:=by
 have a:(rM x b k).2=b\/(rM x b k).2=0:=by
  unfold rM;split
  ·exact .inl rfl
  ·split
   ·simp only;split
    ·exact .inr rfl
    ·exact .inl rfl
   ·exact .inl rfl
 unfold mX;split
 ·exact .inl rfl
 split
 ·exact .inl rfl
 split
 ·exact a
 ·split
  ·exact .inl rfl
  split
  ·exact .inl rfl
  ·exact a
def akL{e:Int}{k:List Sn}{b:Int}:(rJ e k b).2.2=b\/(rJ e k b).2.2=e:=by
 unfold rJ;split
 ·exact .inl rfl
 split
 ·exact .inl rfl
 ·exact .inr rfl
def abR{p:Int}{n:Nat}(h0:0<=p)(a:0<n):∃j:Nat,p.tmod (n:Int)=(j:Int)/\j<n:=by rw[QI h0];have c:=Int.emod_nonneg p (b:=(n:Int)) (by omega);have d:=Int.emod_lt_of_pos p (b:=(n:Int)) (by omega);exact⟨(p%n).toNat,by omega,by omega⟩
def JY.getD{xs:Q1}{told:List Tm}{back:List An}{k:List Sn}{b:Int}{a:Bool}{h:Sn}(f:JY xs told back k b a h):(iI (.i .u64 h.1) xs).getD (.g [.i .u64 0,.l []])=sn h:=by
 rcases f.has with⟨-,q,-⟩|⟨-,q⟩
 ·rw[q];rfl
 ·rw[q];show(iI (.i .u64 0) xs).getD _=_
  rw[f.zero];rfl
def JY.no{xs:Q1}{told:List Tm}{back:List An}{k:List Sn}{b:Int}{a:Bool}{h:Sn}(f:JY xs told back k b a h)(e:a=false):h=zS:=by
 rcases f.has with⟨q,-⟩|⟨-,q⟩
 ·rw[q]at e;cases e
 ·exact q
def aiC(a:List dh):Gt a []=0:=by
 have h:gJ 0 0 []=0:=by unfold gJ;rfl
 unfold Gt;rw[ah (by rw[h];simp),ah (by simp)]
def iT(a:An):aN:={kind:=a.1,id:=0,min:=0,max:=0,chosen:=0,flags:=0,cost:=0,priority:=0,deadline:=0,retry:=0,epoch:=a.2.1,base:=0,digest:=0,lag:=0,code:=a.2.2.1,want:=a.2.2.2,remaining:=0,allowed:=false,name:=[],region:=[],note:=[],d:=[],t:=[]}
def akY(a:An):rQ a=dU (iT a) []:=rfl
def XA{a:An}(h1: -9223372036854775808<=a.1/\a.1<=9223372036854775807)(b:0<=a.2.1/\a.2.1<18446744073709551616)(c:0<=a.2.2.1/\a.2.2.1<18446744073709551616)(d:0<=a.2.2.2/\a.2.2.2<18446744073709551616):lC (iT a):=by refine⟨h1,?_,?_,?_,?_,?_,?_,?_,?_,?_,b,?_,?_,?_,c,d,?_,?_,?_,?_,?_,?_⟩<;>simp[iT,lU,Rows]
def avP(V e:Int)(a:V=1\/V=2\/V=3):(fZ.all λn=>oz (aS 7 V) n ||nJ (iT (7,e,0,0)) n)=true:=by rcases a with rfl|rfl|rfl<;>rfl
def avS(e c:Int):(fZ.all λn=>oz (aS 8 1) n ||nJ (iT (8,e,c,0)) n)=true:=rfl
def ahb(V e c w:Int)(a:V=2\/V=3):(fZ.all λn=>oz (aS 8 V) n ||nJ (iT (8,e,c,w)) n)=true:=by rcases a with rfl|rfl<;>rfl
def avb(V e:Int)(a:V=1\/V=2\/V=3):kR (iT (7,e,0,0)) (aS 7 V)=0:=by rcases a with rfl|rfl|rfl<;>rfl
def avc(V e c w:Int)(f:V=1\/V=2\/V=3):kR (iT (8,e,c,w)) (aS 8 V)=0:=by
 have g:iV [] 0 256=0:=rfl;have a:qW (iT (8,e,c,w)) yQ=0:=rfl;have b:qW (iT (8,e,c,w)) yP=0:=rfl;have d:qW (iT (8,e,c,w)) zX=0:=rfl;have h:qW (iT (8,e,c,w)) BL=iV [] 0 256:=rfl;have i:aS 8 1=[⟨1,0,1,yQ⟩,⟨2,0,1,yP⟩]:=rfl;have j:aS 8 2=[⟨1,0,1,yQ⟩,⟨2,0,1,yP⟩,⟨3,0,2,zX⟩]:=rfl;have k:aS 8 3=[⟨1,0,1,yQ⟩,⟨2,0,1,yP⟩,⟨3,0,2,zX⟩,⟨4,3,3,BL⟩]:=rfl;rcases f with rfl|rfl|rfl
 ·rw[i];simp only[kR,a,b,if_true]
 ·rw[j];simp only[kR,a,b,d,if_true]
 ·rw[k];simp only[kR,a,b,d,h,g,if_true]
def SH(e:Int){V:Int}(h1:1<=V)(g:V<=3):fH (iT (7,e,0,0)) [] V=0:=by
 have a:V=1\/V=2\/V=3:=by omega
 unfold fH;have b:aS (iT (7,e,0,0)).kind V≠[]:=(by rcases a with rfl|rfl|rfl<;>decide:aS 7 V≠[])
 have c:(fZ.all λn=>oz (aS (iT (7,e,0,0)).kind V) n ||nJ (iT (7,e,0,0)) n)=true:=avP V e a;have d:kR (iT (7,e,0,0)) (aS (iT (7,e,0,0)).kind V)=0:=avb V e a;have f:zy (iT (7,e,0,0))=0:=rfl;rw[ah (by omega),ah (by omega),ah b,ah (by rw[c];simp),ah (by rw[d];simp),ah (by rw[f];simp)];exact aiC _
def alR(e c w:Int){V:Int}(h1:1<=V)(i:V<=3)(b:¬2<=V->w=0):fH (iT (8,e,c,w)) [] V=0:=by
 have a:V=1\/V=2\/V=3:=by omega
 unfold fH;have d:aS (iT (8,e,c,w)).kind V≠[]:=(by rcases a with rfl|rfl|rfl<;>decide:aS 8 V≠[])
 have f:(fZ.all λn=>oz (aS (iT (8,e,c,w)).kind V) n ||nJ (iT (8,e,c,w)) n)=true:=by
  rcases a with rfl|rfl|rfl
  ·rw[b (by omega)];exact avS e c
  ·exact ahb 2 e c w (.inl rfl)
  ·exact ahb 3 e c w (.inr rfl)
 have g:kR (iT (8,e,c,w)) (aS (iT (8,e,c,w)).kind V)=0:=avc V e c w a;have h:zy (iT (8,e,c,w))=0:=rfl;rw[ah (by omega),ah (by omega),ah d,ah (by rw[f];simp),ah (by rw[g];simp),ah (by rw[h];simp)];exact aiC _
structure Rec(v:Int)(sm:Bool)(h:Sn):Prop where
 lo:1<=v
 hi:v<=3
 good:dR h.2
 ep:0<=h.1/\h.1<18446744073709551616
 no:sm=false->h=zS
def aa8{v:Int}{d:Bool}{h:Sn}(r:Rec v d h)(c kd a b:Int)(t:List Row)(j:dR t)(f:0<=a/\a<18446744073709551616):
 Rec v (nM c v kd a b t d h).2.2.1 (nM c v kd a b t d h).2.2.2/\lC (iT (nM c v kd a b t d h).1)/\((nM c v kd a b t d h).1.1=0\/((nM c v kd a b t d h).1.1≠0/\fH (iT (nM c v kd a b t d h).1) [] v=0)):=by
 have r1:=r.lo;have r2:=r.hi;have z:lC (iT (0,0,0,0)):=XA (by decide) (by decide) (by decide) (by decide);have g:∀e:Int,0<=e/\e<18446744073709551616->lC (iT (7,e,0,0)):=λe h=>XA (by simp) h (by simp) (by simp);unfold nM;split
 ·exact⟨r,z,.inl rfl⟩
 split
 ·split
  ·exact⟨r,g _ r.ep,.inr ⟨by simp,SH _ r1 r2⟩⟩
  ·exact⟨⟨r1,r2,j,f,λe=>by cases e⟩,g _ f,.inr ⟨by simp,SH _ r1 r2⟩⟩
 split
 ·split
  ·exact⟨r,g _ r.ep,.inr ⟨by simp,SH _ r1 r2⟩⟩
  split
  ·refine⟨r,XA (by simp) f (wrap_u64 _) ?_,.inr ⟨by simp,alR _ _ _ r1 r2 λl=>ah l⟩⟩;simp only;split
   ·exact r.ep
   ·simp
  ·next i=>
   have i:(lY h (b,a,t)).2=0:=by simpa using i
   have m:=(adi i).2.2.2.2;have n:=(ak6 r.good j i).1.good;have k:0<=(lY h (b,a,t)).1.1/\(lY h (b,a,t)).1.1<18446744073709551616:=by rw[m];exact f
   exact⟨⟨r1,r2,n,k,λe=>by cases e⟩,g _ k,.inr ⟨by simp,SH _ r1 r2⟩⟩
 ·exact⟨r,z,.inl rfl⟩
def uy(v:Int)(a:Bool)(h:Sn):GV:=.g [.i .i64 v,.i .u64 h.1,.l (h.2.map row),.b a]
@[simp] theorem aFE(v:Int)(a:Bool)(h:Sn):(uy v a h).cells=[.i .i64 v,.i .u64 h.1,.l (h.2.map row),.b a]:=rfl
set_option maxHeartbeats 4000000 in
def ayM(b:aN)(i:List aH)(v:Int)(d:Bool)(h:Sn)(x:lC b)(w:dR b.t)(u:dO i)(p:i.length<=1000000)(y:dR h.2):
 TT.lim 309 [uy v d h,dU b (aC i)]=some [uy v (nM (fH b i v) v b.kind b.epoch b.base b.t d h).2.2.1 (nM (fH b i v) v b.kind b.epoch b.base b.t d h).2.2.2,rQ (nM (fH b i v) v b.kind b.epoch b.base b.t d h).1,.i .i64 (nM (fH b i v) v b.kind b.epoch b.base b.t d h).2.1]:=by
 have c:=Vo b i v x w.few u p;have a:=ak4 h (b.base,b.epoch,b.t) y w;have n:GV.g [.i .u64 h.1,.l (h.2.map row)]=sn h:=rfl;have o:GV.g [.i .u64 b.base,.i .u64 b.epoch,.l (b.t.map row)]=dl (b.base,b.epoch,b.t):=rfl;unfold nM;generalize lY h (b.base,b.epoch,b.t)=A at *;obtain⟨⟨B,D⟩,z⟩:=A;generalize fH b i v=C at *;generalize aC i=R at *;by_cases s:C=0;rotate_left
 ·rw[aj s];refine aG rfl rfl ?_ rfl;simp -implicitDefEqProofs[eF,c,s,uy,rQ]
 rw[ah (by simpa using s)];subst s;by_cases l:b.kind=5
 ·rw[aj l];have f:(b.kind=6)=False:=eq_false (by omega);have g:(b.kind=5)=True:=eq_true l;clear l;cases d with
  |false=>refine aG rfl rfl ?_ rfl;simp -implicitDefEqProofs[eF,c,g,f,uy,rQ]
  |true=>
   by_cases j:b.epoch<=h.1
   ·refine aG rfl rfl ?_ rfl;simp -implicitDefEqProofs[eF,c,g,f,uy,rQ,j]
   ·refine aG rfl rfl ?_ rfl;simp -implicitDefEqProofs[eF,c,g,f,uy,rQ,j]
 rw[ah l];by_cases r:b.kind=6;rotate_left
 ·rw[ah r];refine aG rfl rfl ?_ rfl;simp -implicitDefEqProofs[eF,c,l,r,uy,rQ]
 rw[aj r];have g:(b.kind=5)=False:=eq_false l;have f:(b.kind=6)=True:=eq_true r;clear l r;by_cases j:d=true/\b.epoch<=h.1
 ·rw[aj j];obtain⟨rfl,j⟩:=j;refine aG rfl rfl ?_ rfl;simp -implicitDefEqProofs[eF,c,g,f,uy,rQ,j]
 rw[ah j];have k:d=true->(b.epoch<=h.1)=False:=λe=>eq_false λq=>j ⟨e,q⟩;by_cases m:z=0
 ·rw[ah (by simpa using m)];subst m;cases d with
  |false=>refine aG rfl rfl ?_ rfl;simp -implicitDefEqProofs[eF,c,g,f,uy,rQ,n,o,a]
  |true=>have k:=k rfl;refine aG rfl rfl ?_ rfl;simp -implicitDefEqProofs[eF,c,g,f,uy,rQ,k,n,o,a]
 ·rw[aj m];by_cases t:2<=v
  ·cases d with
   |false=>refine aG rfl rfl ?_ rfl;simp -implicitDefEqProofs[eF,c,g,f,uy,rQ,n,o,a,m,t]
   |true=>have k:=k rfl;refine aG rfl rfl ?_ rfl;simp -implicitDefEqProofs[eF,c,g,f,uy,rQ,k,n,o,a,m,t]
  ·cases d with
   |false=>refine aG rfl rfl ?_ rfl;simp -implicitDefEqProofs[eF,c,g,f,uy,rQ,n,o,a,m,t]
   |true=>have k:=k rfl;refine aG rfl rfl ?_ rfl;simp -implicitDefEqProofs[eF,c,g,f,uy,rQ,k,n,o,a,m,t]
