/- What the trees compute: plain laws. -/
import Derived.Test.YtmkkknckcnpljaaGreatDoorKRe1
set_option linter.all false
namespace Go.Proofs.YtmkkknckcnpljaaGreatDoor
open Go Go.aO
set_option maxRecDepth 100000
namespace R
def zC:Option (Int×Int×Int)->List GV
 |some (_,b,_)=>[.i .i64 1,.i .i64 b]
 |none=>[.i .i64 0]
def Yl(s:Q0)(size n a:Int):TT.lim 7 [.s s,.i .i64 size,.i .i64 n,.i .i64 a,.i .i64 size]=some (zC (some (size,n,a))):=by refine au rfl rfl ?_;simp[zC]
def dD(s:Q0)(k:Nat):Int:=((s.getD k 0).toNat:Int)
def NZ(s:Q0)(k:Nat):0<=dD s k/\dD s k<256:=by unfold dD;have:=(s.getD k 0).toNat_lt;omega
def adq{s:Q0}{k:Nat}(h:k<s.length):s[k]? =some (s.getD k 0):=by simp[List.getD,h]
def MR(s:Q0)(size n a:Int)(i:Nat)(hi:(i:Int)<size)(g:i<s.length)(h0:0<=n)(h1:n<1000000000000)(o:size<1000):
 ∀b,(if dD s i<128 then some (zC none)else if 192<=dD s i then some (zC none)else TT.lim 7 [.s s,.i .i64 size,.i .i64 (64*n+dD s i-128),.i .i64 a,.i .i64 ((i:Int)+1)])=some b->
 TT.lim 7 [.s s,.i .i64 size,.i .i64 n,.i .i64 a,.i .i64 i]=some b:=by
 intro b h;have p:=NZ s i;have f:(s[i]?).bind (λc=>some (GV.i .u8 c.toNat))=some (.i .u8 (dD s i)):=by rw[adq g];rfl
 generalize dD s i=x at *;have w1:=wrap64 (n:=x) (by omega) (by omega);refine au rfl rfl ?_;by_cases d:x<128
 ·rw[aj d]at h;rw[<-h];simp[hi,f,w1,d,zC]
 rw[ah d]at h;by_cases e:192<=x
 ·rw[aj e]at h;rw[<-h];simp[hi,f,w1,d,e,zC]
 rw[ah e]at h;have j:=wrap64 (n:=64*n) (by omega) (by omega);have k:=wrap64 (n:=64*n+x) (by omega) (by omega);have l:=wrap64 (n:=64*n+x-128) (by omega) (by omega);have m:=wrap64 (n:=(i:Int)+1) (by omega) (by omega);simp[hi,f,w1,d,e,j,k,l,m,h]
def IE(v a size:Int):Int:=if v<a then 0 else if 1114111<v then 0 else if 55296<=v/\v<57344 then 0 else size
abbrev iJ(x:Int):Prop:=x<128\/192<=x
def TI(n a b c d:Int):Int:=
 if n=0 then 0 else if a<128 then 1 else if a<192 then 0
 else if a<224 then(if n<2 then 0 else if iJ b then 0 else IE (64*(a-192)+b-128) 128 2)
 else if a<240 then(if n<3 then 0 else if iJ b\/iJ c then 0 else IE (64*(64*(a-224)+b-128)+c-128) 2048 3)
 else if a<248 then(if n<4 then 0 else if iJ b\/iJ c\/iJ d then 0 else IE (64*(64*(64*(a-240)+b-128)+c-128)+d-128) 65536 4)
 else 0
def auS(s:Q0)(n a:Int)(b:2<=s.length)(h0:0<=n)(h1:n<64):
 TT.lim 7 [.s s,.i .i64 2,.i .i64 n,.i .i64 a,.i .i64 1]=some (zC (if iJ (dD s 1)then none else some (2,64*n+dD s 1-128,a))):=by
 refine MR s 2 n a 1 (by decide) (by omega) h0 (by omega) (by decide) _ ?_;have e:=Yl s 2 (64*n+dD s 1-128) a;by_cases c:iJ (dD s 1)
 ·rw[aj c];rcases c with c|c
  ·exact aj c
  ·rw[ah (by omega)];exact aj c
 ·rw[ah c,ah (λh=>c (.inl h)),ah (λh=>c (.inr h))];exact e
def auT(s:Q0)(n a:Int)(b:3<=s.length)(h0:0<=n)(h1:n<64):
 TT.lim 7 [.s s,.i .i64 3,.i .i64 n,.i .i64 a,.i .i64 1]=some (zC (if iJ (dD s 1)\/iJ (dD s 2)then none else some (3,64*(64*n+dD s 1-128)+dD s 2-128,a))):=by
 have f:=NZ s 1;refine MR s 3 n a 1 (by decide) (by omega) h0 (by omega) (by decide) _ ?_;by_cases c:iJ (dD s 1)
 ·rw[aj (show iJ (dD s 1)\/iJ (dD s 2)from .inl c)];rcases c with c|c
  ·exact aj c
  ·rw[ah (by omega)];exact aj c
 ·rw[ah (λh=>c (.inl h)),ah (λh=>c (.inr h))];have g:128<=dD s 1:=by omega
  refine MR s 3 _ a 2 (by decide) (by omega) (by show 0<=64*n+dD s 1-128;omega) (by show 64*n+dD s 1-128<_;omega) (by decide) _ ?_;have e:=Yl s 3 (64*(64*n+dD s 1-128)+dD s 2-128) a;by_cases d:iJ (dD s 2)
  ·rw[aj (show iJ (dD s 1)\/iJ (dD s 2)from .inr d)];rcases d with d|d
   ·exact aj d
   ·rw[ah (by omega)];exact aj d
  ·rw[ah (show ¬(iJ (dD s 1)\/iJ (dD s 2)) by simp[c,d]),ah (λh=>d (.inl h)),ah (λh=>d (.inr h))];exact e
def auU(s:Q0)(n a:Int)(b:4<=s.length)(h0:0<=n)(h1:n<64):
 TT.lim 7 [.s s,.i .i64 4,.i .i64 n,.i .i64 a,.i .i64 1]=some (zC (if iJ (dD s 1)\/iJ (dD s 2)\/iJ (dD s 3)then none else some (4,64*(64*(64*n+dD s 1-128)+dD s 2-128)+dD s 3-128,a))):=by
 have g:=NZ s 1;have i:=NZ s 2;refine MR s 4 n a 1 (by decide) (by omega) h0 (by omega) (by decide) _ ?_;by_cases c:iJ (dD s 1)
 ·rw[aj (show iJ (dD s 1)\/iJ (dD s 2)\/iJ (dD s 3)from .inl c)];rcases c with c|c
  ·exact aj c
  ·rw[ah (by omega)];exact aj c
 ·rw[ah (λh=>c (.inl h)),ah (λh=>c (.inr h))];have j:128<=dD s 1:=by omega
  refine MR s 4 _ a 2 (by decide) (by omega) (by show 0<=64*n+dD s 1-128;omega) (by show 64*n+dD s 1-128<_;omega) (by decide) _ ?_;by_cases d:iJ (dD s 2)
  ·rw[aj (show iJ (dD s 1)\/iJ (dD s 2)\/iJ (dD s 3)from .inr (.inl d))];rcases d with d|d
   ·exact aj d
   ·rw[ah (by omega)];exact aj d
  ·rw[ah (λh=>d (.inl h)),ah (λh=>d (.inr h))];have d1:128<=dD s 2:=by omega
   refine MR s 4 _ a 3 (by decide) (by omega) (by show 0<=64*(64*n+dD s 1-128)+dD s 2-128;omega) (by show 64*(64*n+dD s 1-128)+dD s 2-128<_;omega) (by decide) _ ?_;have e:=Yl s 4 (64*(64*(64*n+dD s 1-128)+dD s 2-128)+dD s 3-128) a;by_cases f:iJ (dD s 3)
   ·rw[aj (show iJ (dD s 1)\/iJ (dD s 2)\/iJ (dD s 3)from .inr (.inr f))];rcases f with f|f
    ·exact aj f
    ·rw[ah (by omega)];exact aj f
   ·rw[ah (show ¬(iJ (dD s 1)\/iJ (dD s 2)\/iJ (dD s 3)) by simp[c,d,f]),ah (λh=>f (.inl h)),ah (λh=>f (.inr h))];exact e
def TF(s:Q0):Int:=TI s.length (dD s 0) (dD s 1) (dD s 2) (dD s 3)
def Yd{c:Prop}[Decidable c](x:Int×Int×Int)(h:c):zC (if c then none else some x)=[.i .i64 0]:=by rw[aj h];rfl
def Ye{c:Prop}[Decidable c](a b d:Int)(h:¬c):zC (if c then none else some (a,b,d))=[.i .i64 1,.i .i64 b]:=by rw[ah h];rfl
set_option maxHeartbeats 4000000 in
def arG(s:Q0)(w:s.length<=140737488351232):TT.lim 6 [.s s]=some [.i .i64 (TF s)]:=by
 have J:=NZ s 0;have G:=λw z A=>auS s (dD s 0-192) 128 w z A;have H:=λw z A=>auT s (dD s 0-224) 2048 w z A;have I:=λw z A=>auU s (dD s 0-240) 65536 w z A;unfold TF TI;by_cases E:s.length=0
 ·refine aG rfl rfl ?_ rfl;simp[E]
 have a:¬(s.length:Int)=0:=by omega
 have b:¬s=[]:=λe=>E (by rw[e];rfl);have h:(s[0]?).bind (λc=>some (GV.i .u8 c.toNat))=some (.i .u8 (dD s 0)):=by rw[adq (by omega)];rfl
 have w1:=wrap64 (n:=dD s 0) (by omega) (by omega);rw[ah a];generalize dD s 0=x at *;generalize dD s 1=y at *;generalize dD s 2=D at *;generalize dD s 3=F at *;by_cases d:x<128
 ·refine aG rfl rfl ?_ rfl;simp[a,b,h,w1,d]
 by_cases B:x<192
 ·have d1:¬192<=x:=by omega
  have d2:¬224<=x:=by omega
  have d3:¬240<=x:=by omega
  refine aG rfl rfl ?_ rfl;simp[a,b,h,w1,d,B,d1,d2,d3]
 have d1:192<=x:=by omega
 have r:=wrap64 (n:=x-192) (by omega) (by omega);by_cases g:x<224
 ·rw[ah d,ah B,aj g];by_cases f:(s.length:Int)<2
  ·refine aG rfl rfl ?_ rfl;simp[a,b,h,w1,d,d1,g,r,f]
  rw[ah f];have k:=G (by omega) (by omega) (by omega);by_cases l:iJ y
  ·rw[Yd _ l]at k;rw[aj l];refine aG rfl rfl ?_ rfl;simp[a,b,h,w1,d,d1,g,r,f,k]
  rw[Ye _ _ _ l]at k;rw[ah l];generalize 64*(x-192)+y-128=v at *;unfold IE;by_cases i:v<128
  ·refine aG rfl rfl ?_ rfl;simp[a,b,h,w1,d,d1,g,r,f,k,i]
  by_cases m:1114111<v
  ·refine aG rfl rfl ?_ rfl;simp[a,b,h,w1,d,d1,g,r,f,k,i,m]
  by_cases o:55296<=v
  ·by_cases q:v<57344
   ·refine aG rfl rfl ?_ rfl;simp[a,b,h,w1,d,d1,g,r,f,k,i,m,o,q]
   ·refine aG rfl rfl ?_ rfl;simp[a,b,h,w1,d,d1,g,r,f,k,i,m,o,q]
  ·refine aG rfl rfl ?_ rfl;simp[a,b,h,w1,d,d1,g,r,f,k,i,m,o]
 have d2:224<=x:=by omega
 have t:=wrap64 (n:=x-224) (by omega) (by omega);by_cases j:x<240
 ·rw[ah d,ah B,ah g,aj j];by_cases f:(s.length:Int)<3
  ·refine aG rfl rfl ?_ rfl;simp[a,b,h,w1,d,d1,g,d2,j,t,f]
  rw[ah f];have k:=H (by omega) (by omega) (by omega);by_cases l:iJ y\/iJ D
  ·rw[Yd _ l]at k;rw[aj l];refine aG rfl rfl ?_ rfl;simp[a,b,h,w1,d,d1,g,d2,j,t,f,k]
  rw[Ye _ _ _ l]at k;rw[ah l];generalize 64*(64*(x-224)+y-128)+D-128=v at *;unfold IE;by_cases i:v<2048
  ·refine aG rfl rfl ?_ rfl;simp[a,b,h,w1,d,d1,g,d2,j,t,f,k,i]
  by_cases m:1114111<v
  ·refine aG rfl rfl ?_ rfl;simp[a,b,h,w1,d,d1,g,d2,j,t,f,k,i,m]
  by_cases o:55296<=v
  ·by_cases q:v<57344
   ·refine aG rfl rfl ?_ rfl;simp[a,b,h,w1,d,d1,g,d2,j,t,f,k,i,m,o,q]
   ·refine aG rfl rfl ?_ rfl;simp[a,b,h,w1,d,d1,g,d2,j,t,f,k,i,m,o,q]
  ·refine aG rfl rfl ?_ rfl;simp[a,b,h,w1,d,d1,g,d2,j,t,f,k,i,m,o]
 have d3:240<=x:=by omega
 have u:=wrap64 (n:=x-240) (by omega) (by omega);by_cases p:x<248
 ·rw[ah d,ah B,ah g,ah j,aj p];by_cases f:(s.length:Int)<4
  ·refine aG rfl rfl ?_ rfl;simp[a,b,h,w1,d,d1,g,d2,j,d3,p,u,f]
  rw[ah f];have k:=I (by omega) (by omega) (by omega);by_cases l:iJ y\/iJ D\/iJ F
  ·rw[Yd _ l]at k;rw[aj l];refine aG rfl rfl ?_ rfl;simp[a,b,h,w1,d,d1,g,d2,j,d3,p,u,f,k]
  rw[Ye _ _ _ l]at k;rw[ah l];generalize 64*(64*(64*(x-240)+y-128)+D-128)+F-128=v at *;unfold IE;by_cases i:v<65536
  ·refine aG rfl rfl ?_ rfl;simp[a,b,h,w1,d,d1,g,d2,j,d3,p,u,f,k,i]
  by_cases m:1114111<v
  ·refine aG rfl rfl ?_ rfl;simp[a,b,h,w1,d,d1,g,d2,j,d3,p,u,f,k,i,m]
  by_cases o:55296<=v
  ·by_cases q:v<57344
   ·refine aG rfl rfl ?_ rfl;simp[a,b,h,w1,d,d1,g,d2,j,d3,p,u,f,k,i,m,o,q]
   ·refine aG rfl rfl ?_ rfl;simp[a,b,h,w1,d,d1,g,d2,j,d3,p,u,f,k,i,m,o,q]
  ·refine aG rfl rfl ?_ rfl;simp[a,b,h,w1,d,d1,g,d2,j,d3,p,u,f,k,i,m,o]
 ·refine aG rfl rfl ?_ rfl;simp[a,b,h,w1,d,B,d1,g,d2,j,d3,p]
set_option maxHeartbeats 8000000 in
def arJ(n a b c e:Nat)(g:0<n)(h0:a<256)(h1:b<256)(h:c<256)(i:e<256):TI n a b c e=if(Lib.decodeN n a b c e).1=65533/\(Lib.decodeN n a b c e).2=1 then 0 else((Lib.decodeN n a b c e).2:Nat):=by
 generalize f:Lib.decodeN n a b c e=d;unfold Lib.decodeN at f;unfold TI IE;rw[ah (by omega)];repeat' split at f
 all_goals subst f
 all_goals dsimp only
 ·rw[aj (by omega),ah (by omega)];rfl
 all_goals rw[ah (show ¬(a:Int)<128 by omega)]
 all_goals first|rw[ah (by omega)]|rw[aj (show True/\True from⟨trivial,trivial⟩)]|skip
 all_goals (repeat' split)
 all_goals first|omega|(simp only[not_true_eq_false,and_self]at *;omega)
def arI(s:Q0)(a:s≠[]):TF s=if(Lib.decodeL s).1=65533/\(Lib.decodeL s).2=1 then 0 else((Lib.decodeL s).2:Nat):=by unfold TF dD;rw[Lib.decodeL_N];exact arJ _ _ _ _ _ (EC.2 a) (Xl _) (Xl _) (Xl _) (Xl _)
def aqt(s:Q0):1<=(Lib.decodeL s).2:=by
 rw[Lib.decodeL_N];rcases Lib.decodeN_shape s.length (s.getD 0 0).toNat (s.getD 1 0).toNat (s.getD 2 0).toNat (s.getD 3 0).toNat with⟨_,e⟩|⟨_,_,_,_,e⟩|⟨_,_,_,_,_,_,e⟩|⟨_,_,_,_,_,_,_,e⟩|e
 all_goals rw[e];dsimp only;omega
def agv:∀(n:Nat)(s:Q0),s.length<=n->s.length<=140737488351232->TT.lim 5 [.s s]=some (if Lib.validGoD n s=true then[.i .i64 1]else[.i .i64 0])
 |0,s,h,f=>by obtain rfl:s=[]:=jl (by omega);refine au rfl rfl ?_;simp[Lib.validGoD]
 |n+1,s,h,f=>by
  by_cases a:s=[]
  ·subst a;refine au rfl rfl ?_;simp[Lib.validGoD]
  have g:=EC.2 a;have k:=arG s f;have d:=arI s a;have e:=Lib.decodeL_le s a;have m:=aqt s;have b:(0:Int)<(s.length:Int):=by omega
  unfold Lib.validGoD;rw[ah a];by_cases c:(Lib.decodeL s).1=65533/\(Lib.decodeL s).2=1
  ·rw[aj c]at d;rw[d]at k;rw[aj c];refine au rfl rfl ?_;simp[g,b,k]
  ·rw[ah c]at d;rw[d]at k;rw[ah c];have i:=agv n (s.drop (Lib.decodeL s).2) (by simp;omega) (by simp;omega);generalize(Lib.decodeL s).2=w at *;have j:¬w=0:=by omega
   have l:List.take s.length s=s:=pq;refine au rfl rfl ?_;simp[g,b,k,j,e,l,i]
def as9(s:Q0)(h:s.length<=140737488351232):TT.lim 4 [.s s]=some [.b (Lib.validD s)]:=by have k:=agv s.length s (dY _) h;unfold Lib.validD;refine aG rfl rfl ?_ rfl;cases a:Lib.validGoD s.length s<;>rw[a]at k<;>simp at k<;>simp[k]
def Iw(s:Q0)(lo hi:Int)(h:s.length<=140737488351232):TT.lim 3 [.s s,.i .i64 lo,.i .i64 hi]=some [.i .i64 (iV s lo hi)]:=by
 have a:=as9 s h;refine aG rfl rfl ?_ rfl;unfold iV;by_cases b:(s.length:Int)<lo
 ·simp[b]
 ·by_cases c:hi<(s.length:Int)
  ·simp[b,c]
  ·cases d:Lib.validD s<;>rw[d]at a<;>simp[b,c,a,d]
def aeM(x:bT)(h1:x.1.length<=140737488351232)(b:x.2.length<=140737488351232):TT.lim 121 [ent x]=some [.i .i64 (pJ x)]:=by
 have a:=Iw x.1 1 64 h1;have c:=Iw x.2 0 256 b;refine aG rfl rfl ?_ rfl;unfold pJ;by_cases h:iV x.1 1 64=0
 ·simp[a,h,c]
 ·simp[a,h]
def Bj:Q0->List UInt8->Option Bool
 |x::a,y::b=>if x=y then Bj a b else some (decide (x<y))
 |_,_=>none
def adI:∀a b:Q0,Op.bytesLess a b=(Bj a b).getD (decide (a.length<b.length))
 |[],[]=>rfl
 |[],_::_=>by simp[Op.bytesLess,Bj]
 |_::_,[]=>by simp[Op.bytesLess,Bj]
 |x::a,y::b=>by
  unfold Op.bytesLess Bj;rw[adI a b];by_cases h:x=y
  ·subst h;simp[acZ]
  ·simp[h]
def L8(a b:Q0):Ww->List GV
 |some r=>[.i .i64 0,.b r]
 |none=>[.i .i64 1]
def agw(a b:Q0)(k:a.length<=140737488351232)(l:b.length<=140737488351232):∀m i:Nat,i+m=a.length->TT.lim 125 [.s a,.s b,.i .i64 i]=some (L8 a b (Bj (a.drop i) (b.drop i)))
 |0,i,hi=>by
  have h0:a.drop i=[]:=cO (by omega);have h:¬((i:Int)<a.length):=by omega
  refine au rfl rfl ?_;simp[h,h0,Bj,L8]
 |m+1,i,hi=>by
  have c:i<a.length:=by omega
  have h:((i:Int)<a.length):=by omega
  by_cases d:i<b.length;rotate_left
  ·have h0:b.drop i=[]:=cO (by omega);have o:¬((i:Int)<b.length):=by omega
   have g:Bj (a.drop i) []=none:=by cases a.drop i<;>rfl
   refine au rfl rfl ?_;simp[h,h0,o,g,L8]
  have f:((i:Int)<b.length):=by omega
  have p:TT.lim 125 [.s a,.s b,.i .i64 ((i:Int)+1)]=_:=agw a b k l m (i+1) (by omega);have q:=wrap64 (n:=(i:Int)+1) (by omega) (by omega);rw[dF c,dF d];unfold Bj;by_cases e:a[i]=b[i]
  ·rw[aj e];have j:((a[i].toNat:Int)=(b[i].toNat:Int))=True:=eq_true (by rw[e]);refine au rfl rfl ?_;simp[h,c,d,f,j,q,p]
  ·rw[ah e];have j:¬(a[i].toNat:Int)=(b[i].toNat:Int):=λh=>e (Q5.1 (by omega));have g:decide (a[i]<b[i])=decide (a[i].toNat<b[i].toNat):=by rw[qN];simp[UInt8.lt_iff_toNat_lt]
   refine au rfl rfl ?_;simp[h,c,d,f,j,g,L8]
def aga(a b:Q0)(d:a.length<=140737488351232)(e:b.length<=140737488351232):TT.lim 124 [.s a,.s b]=some [.b (Op.bytesLess a b)]:=by
 have k:TT.lim 125 [.s a,.s b,.i .i64 0]=_:=agw a b d e a.length 0 (by omega);rw[bK,bK]at k;rw[adI];refine aG rfl rfl ?_ rfl;cases c:Bj a b with
 |none=>
  rw[c]at k;have f:decide ((a.length:Int)<(b.length:Int))=decide (a.length<b.length):=by rw[qN];simp
  simp[k,L8,f]
 |some r=>rw[c]at k;simp[k,L8]
def KO(x y:bT):Int:=if Op.bytesLess x.1 y.1=true then -1 else if x.1=y.1/\Op.bytesLess x.2 y.2=true then -1 else if x=y then 0 else 1
structure Hu(x:bT):Prop where
 key:x.1.length<=140737488351232
 val:x.2.length<=140737488351232
def aec(x y:bT)(i:Hu x)(j:Hu y):TT.lim 123 [ent x,ent y]=some [.i .i64 (KO x y)]:=by
 have c:=aga x.1 y.1 i.key j.key;have f:=aga x.2 y.2 i.val j.val;have e:=Yo x y;unfold KO;refine aG rfl rfl ?_ rfl;cases k:Op.bytesLess x.1 y.1 with
 |true=>rw[k]at c;simp[c]
 |false=>
  rw[k]at c;by_cases g:x.1=y.1
  ·have d:(x.1=y.1)=True:=eq_true g;clear g;cases l:Op.bytesLess x.2 y.2 with
   |true=>rw[l]at f;simp[c,d,f]
   |false=>
    rw[l]at f;by_cases b:x=y
    ·have a:decide (x=y)=true:=by simp[b]
     rw[a]at e;have h:(x=y)=True:=eq_true b;clear b;simp[c,d,f,e,h]
    ·have a:decide (x=y)=false:=by simp[b]
     rw[a]at e;simp[c,d,f,e,b]
  ·by_cases b:x=y
   ·exact absurd (by rw[b]) g
   ·have a:decide (x=y)=false:=by simp[b]
    rw[a]at e;simp[c,g,e,b]
def qA(p x:Q0):Int:=if x=p then 14 else if Op.bytesLess x p=true then 7 else 0
def adr(p x:bT)(j:Hu p)(l:Hu x):TT.lim 122 [ent p,ent x]=some [.i .i64 (qA p.1 x.1)]:=by
 have k:=aec p x j l;have g:GV.g [.s p.1,.s p.2]=ent p:=rfl;have i:GV.g [.s x.1,.s x.2]=ent x:=rfl;unfold qA;by_cases b:x.1=p.1
 ·have a:(p.1=x.1)=True:=eq_true b.symm;rw[aj b];refine aG rfl rfl ?_ rfl;simp[a]
 rw[ah b];have a:¬p.1=x.1:=λe=>b e.symm;have f:¬p=x:=λe=>a (by rw[e]);have m:KO p x=if Op.bytesLess x.1 p.1=true then 1 else -1:=by
  unfold KO;by_cases c:p.1<x.1
  ·rw[aj ((wB _ _).2 c),ah λh=>mJ _ (vM c ((wB _ _).1 h))]
  ·have d:x.1<p.1:=by
    rcases WS.1 (xF.1 c)with h|h
    ·exact h
    ·exact absurd h b
   rw[ah λh=>c ((wB _ _).1 h),ah λh=>a h.1,ah f,aj ((wB _ _).2 d)]
 rw[m]at k;refine aG rfl rfl ?_ rfl;cases d:Op.bytesLess x.1 p.1 with
 |true=>rw[d]at k;simp[a,g,i,k]
 |false=>rw[d]at k;simp[a,g,i,k]
def lU.small{d:List bT}(h:lU d):∀x∈d,Hu x:=λx a=>⟨(h.2 x a).1,(h.2 x a).2⟩
def ZO(d:List bT)(e i:Int)(a:e≠0):TT.lim 120 [.l (d.map ent),.i .i64 e,.i .i64 i]=some [.i .i64 0,.i .i64 e]:=by
 refine au rfl rfl ?_;by_cases h:i<(d.length:Int)
 ·simp[h,a]
 ·simp[h]
def agu(d:List bT)(g:lU d):∀m i:Nat,i+m=d.length->TT.lim 120 [.l (d.map ent),.i .i64 0,.i .i64 i]=some [.i .i64 0,.i .i64 (lZ (prevK d i) (d.drop i))]
 |0,i,hi=>by
  have h0:d.drop i=[]:=cO (by omega);refine au rfl rfl ?_;have h:¬((i:Int)<d.length):=by omega
  simp[h,h0,lZ]
 |m+1,i,hi=>by
  have a:i<d.length:=by omega
  have z:=g.small d[i] (dW a);have x:=aeM d[i] z.key z.val;have y:TT.lim 120 [.l (d.map ent),.i .i64 0,.i .i64 ((i:Int)+1)]=_:=agu d g m (i+1) (by omega);have j:=λe f=>ZO d e ((i:Int)+1) f;have A:prevK d (i+1)=some d[i].1:=by unfold prevK;rw[ah (by omega)];simp[a]
  rw[A]at y;have B:d.drop i=d[i]::d.drop (i+1):=dF a;rw[B];have h:((i:Int)<d.length):=by omega
  have k:=wrap64 (n:=(i:Int)+1) (by omega) (by have:=g.1;omega);have f:GV.g [GV.s d[i].1,GV.s d[i].2]=ent d[i]:=rfl;by_cases c:pJ d[i]=0;rotate_left
  ·have D:=j _ c;have l:lZ (prevK d i) (d[i]::d.drop (i+1))=pJ d[i]:=by cases prevK d i<;>simp[lZ,c]
   rw[l];refine au rfl rfl ?_;simp[h,a,f,x,c,k,D]
  by_cases h0:i=0
  ·subst h0;have l:lZ (prevK d 0) (d[0]::d.drop 1)=lZ (some d[0].1) (d.drop 1):=by simp[prevK,lZ,c]
   rw[l];simp only[mZ,Nv]at k y;have o:(0:Int)<(d.length:Int):=by omega
   generalize lZ (some d[0].1) (d.drop 1)=E at *;refine au rfl rfl ?_;simp[h,a,o,f,x,c,k,y]
  ·have b:i-1<d.length:=by omega
   have p:prevK d i=some d[i-1].1:=by unfold prevK;rw[ah h0];simp[b]
   have q:=wrap64 (n:=(i:Int)-1) (by omega) (by have:=g.1;omega);have r:(0:Int)<(i:Int):=by omega
   have s:0<i:=by omega
   have H:((i:Int)-1).toNat=i-1:=by omega
   have t:(1:Int)<=(i:Int):=by omega
   have u:(0:Int)<=(i:Int)-1:=by omega
   have L:=g.small d[i-1] (dW b);have I:=adr d[i-1] d[i] L z;have v:GV.g [GV.s d[i-1].1,GV.s d[i-1].2]=ent d[i-1]:=rfl;have l:lZ (prevK d i) (d[i]::d.drop (i+1))=if qA d[i-1].1 d[i].1≠0 then qA d[i-1].1 d[i].1 else lZ (some d[i].1) (d.drop (i+1)):=by
    rw[p];unfold qA;conv=>lhs;unfold lZ
    rw[ah (by simp[c])];by_cases F:d[i].1=d[i-1].1
    ·simp[F]
    ·by_cases J:Op.bytesLess d[i].1 d[i-1].1=true
     ·simp[F,J]
     ·simp[F,J]
   rw[l];have w:=j (qA d[i-1].1 d[i].1);generalize qA d[i-1].1 d[i].1=M at *;generalize lZ (some d[i].1) (d.drop (i+1))=E at *;by_cases G:M=0
   ·subst G;refine au rfl rfl ?_;simp[h,a,f,v,x,c,r,s,q,H,u,b,t,I,k,y]
   ·have D:=w G;refine au rfl rfl ?_;simp[h,a,f,v,x,c,r,s,q,H,u,b,t,I,k,G,D]
def ad5(d:List bT)(h:lU d):TT.lim 119 [.l (d.map ent)]=some [.i .i64 (tZ d)]:=by
 have b:TT.lim 120 [.l (d.map ent),.i .i64 0,.i .i64 0]=_:=agu d h d.length 0 (by omega);have g:prevK d 0=none:=rfl;rw[g,bK]at b;have w1:=dn (n:=(d.length:Int)) (by omega) (by have:=h.1;omega);have i:=ZO d 12 0 (by decide);have k:=ZO d 13 0 (by decide);refine aG rfl rfl ?_ rfl;unfold tZ;by_cases f:d.length=0
 ·have:d=[]:=jl f;subst this;simp only[jO]at i;simp[IntKind.wrap,IntKind.signed,i]
 ·have c:¬d=[]:=λe=>f (by rw[e];rfl);by_cases j:16<d.length
  ·have a:(16:Int)<(d.length:Int):=by omega
   simp[w1,f,c,j,a,k]
  ·have a:¬(16:Int)<(d.length:Int):=by omega
   simp[w1,f,c,j,a,b]
def aiS(r:Row)(b:lU r.1):TT.lim 118 [row r]=some [.i .i64 (oG r)]:=by
 have k:=ad5 r.1 b;refine aG rfl rfl ?_ rfl;unfold oG;by_cases h:tZ r.1=0
 ·by_cases a:r.2=0
  ·simp[k,h,a]
  ·simp[k,h,a]
 ·simp[k,h]
def ags(d:List bT)(f:d.length<=40):∀(m i:Nat)(a:List bT),i+m=d.length->a.length=i->TT.lim 113 [.l (a.map ent),.l (d.map ent),.i .i64 d.length,.i .i64 i]=some [.i .i64 0,.l ((a++d.drop i).map ent)]
 |0,i,a,hi,g=>by
  have h0:d.drop i=[]:=cO (by omega);have h:¬((i:Int)<d.length):=by omega
  refine au rfl rfl ?_;simp[h,h0]
 |m+1,i,a,hi,g=>by
  have b:i<d.length:=by omega
  have c:TT.lim 113 [.l ((a++[d[i]]).map ent),.l (d.map ent),.i .i64 d.length,.i .i64 ((i:Int)+1)]=_:=ags d f m (i+1) (a++[d[i]]) (by omega) (by simp;omega);rw[List.append_assoc,Az,<-dF b]at c;generalize o:(a++d.drop i).map ent=L at c⊢;simp only[jG,gX,jO]at c;have h:((i:Int)<d.length):=by omega
  have j:=wrap64 (n:=(i:Int)+1) (by omega) (by omega);have k:GV.g [GV.s d[i].1,GV.s d[i].2]=ent d[i]:=rfl;have e:(ent d[i]).dZ 2=true:=rfl;have l:2*(a.length+1)*32<=281474976710656/\a.length+1<=281474976710656:=by omega
  refine au rfl rfl ?_;simp[h,b,k,e,l,j,c]
def aCd(d:List bT)(a:d.length<=40):TT.lim 112 [.l (d.map ent)]=some [.l (d.map ent)]:=by have k:TT.lim 113 [.l [],.l (d.map ent),.i .i64 d.length,.i .i64 0]=_:=ags d a d.length 0 [] (by omega) rfl;rw[bK,aW]at k;refine aG rfl rfl ?_ rfl;simp[k]
def agr(l:List Row)(f:l.length<=300)(e:iF l):∀(m i:Nat)(a:List Row),i+m=l.length->a.length=i->TT.lim 111 [.l (a.map row),.l (l.map row),.i .i64 l.length,.i .i64 i]=some [.i .i64 0,.l ((a++l.drop i).map row)]
 |0,i,a,hi,g=>by
  have h0:l.drop i=[]:=cO (by omega);have h:¬((i:Int)<l.length):=by omega
  refine au rfl rfl ?_;simp[h,h0]
 |m+1,i,a,hi,g=>by
  have b:i<l.length:=by omega
  have c:TT.lim 111 [.l ((a++[l[i]]).map row),.l (l.map row),.i .i64 l.length,.i .i64 ((i:Int)+1)]=_:=agr l f e m (i+1) (a++[l[i]]) (by omega) (by simp;omega);rw[List.append_assoc,Az,<-dF b]at c;generalize q:(a++l.drop i).map row=L at c⊢;simp only[jG,gX,jO]at c;have k:=aCd l[i].1 (zI (e _ (dW b)));have h:((i:Int)<l.length):=by omega
  have j:=wrap64 (n:=(i:Int)+1) (by omega) (by omega);have o:GV.g [GV.l (l[i].1.map ent),GV.i .u64 l[i].2]=row l[i]:=rfl;have d:(row l[i]).dZ 2=true:=rfl;have p:2*(a.length+1)*32<=281474976710656/\a.length+1<=281474976710656:=by omega
  refine au rfl rfl ?_;simp[h,b,k,o,d,p,j,c]
def aCc(l:List Row)(a:dR l):TT.lim 110 [.l (l.map row)]=some [.l (l.map row)]:=by have k:TT.lim 111 [.l [],.l (l.map row),.i .i64 l.length,.i .i64 0]=_:=agr l a.len a.few l.length 0 [] (by omega) rfl;rw[bK,aW]at k;refine aG rfl rfl ?_ rfl;simp[k]
def V9(s:Sn)(h:dR s.2):TT.lim 109 [sn s]=some [sn s]:=by have k:=aCc s.2 h;have e:GV.g [.i .u64 s.1,.l (s.2.map row)]=sn s:=rfl;refine aG rfl rfl ?_ rfl;simp[k,e]
def aCa(n:Nat):(n:Int).tmod 128=((n%128:Nat):Int):=by rw[QI (by omega)];omega
def aB8(n:Nat):(n:Int).tdiv 128=((n/128:Nat):Int):=by rw[acs (by omega)];omega
def adH(n:Nat)(h:n<256):nD [.i .u8 (n:Int)]=some [UInt8.ofNat n]:=by have:=XM [n] (by simpa using h);simpa[jq]using this
def add_one(s:Q0)(c:UInt8)(h:s.length<=1000000):gZ .add (some (.s s)) (some (.s [c]))=some (.s (s++[c])):=by rw[XG,aj (by simp only[uI];omega)]
def aBH(n a b q:Int)(s c r:Q0)(d:127<n)(e:n.tmod 128=a)(f:n.tdiv 128=b)(w1:IntKind.u64.wrap (a+128)=a+128)(g:IntKind.u8.wrap (a+128)=a+128)(h:IntKind.u64.wrap b=b)
 (i:nD [.i .u8 (a+128)]=some c) (j:gZ .add (some (.s s)) (some (.s c))=some (.s (s++c))) (k:TT.lim 128 [.i .u64 b,.s (s++c)]=some [.i .i64 0,.i .u64 q,.s (s++(c++r))]):
 TT.lim 128 [.i .u64 n,.s s]=some [.i .i64 0,.i .u64 q,.s (s++(c++r))]:=by
 refine au rfl rfl ?_;simp[-XG,d,e,f,w1,g,h,i,j,k]
def axp(n q:Int)(r c:Q0)(k:TT.lim 128 [.i .u64 n,.s []]=some [.i .i64 0,.i .u64 q,.s r])(w:IntKind.u8.wrap q=q)(e:nD [.i .u8 q]=some c)(a:gZ .add (some (.s r)) (some (.s c))=some (.s (r++c))):
 TT.lim 127 [.i .u64 n]=some [.s (r++c)]:=by
 refine aG rfl rfl ?_ rfl;simp[-XG,k,w,e,a]
def auW:∀n:Nat,n<18446744073709551616->∃q r,q<128/\r++[UInt8.ofNat q]=aV n/\∀s:Q0,s.length+(aV n).length<=1000->TT.lim 128 [.i .u64 n,.s s]=some [.i .i64 0,.i .u64 (q:Nat),.s (s++r)]:=by
 intro n;induction n using Nat.strongRecOn with
 |_ n c=>
  intro i;by_cases h:n<128
  ·refine⟨n,[],h,by rw[Cj h,aW],λs a=>?_⟩;have d:¬(127:Int)<(n:Int):=by omega
   refine au rfl rfl ?_;simp[d]
  ·obtain⟨q,r,e,f,g⟩:=c (n/128) (by omega) (by omega);refine⟨q,[UInt8.ofNat (n%128+128)]++r,e,by rw[Ey h,<-f,List.append_assoc,Az],λs a=>?_⟩;rw[Ey h,jw]at a;have k:=g (s++[UInt8.ofNat (n%128+128)]) (by simp;omega);rw[List.append_assoc]at k;have b:=adH (n%128+128) (by omega);rw[show((n%128+128:Nat):Int)=((n%128:Nat):Int)+128 by omega]at b;exact aBH n _ _ q s _ r (by omega) (aCa n) (aB8 n) (dn (by omega) (by omega)) (ab9 (by omega) (by omega)) (dn (by omega) (by omega)) b (add_one s _ (by omega)) k
def yT(n:Nat)(a:n<18446744073709551616):TT.lim 127 [.i .u64 n]=some [.s (aV n)]:=by obtain⟨q,r,e,b,d⟩:=auW n a;have c:=jk a;have k:=d [] (by simp;omega);rw[aW]at k;rw[<-b];exact axp n q r _ k (ab9 (by omega) (by omega)) (adH q (by omega)) (add_one r _ (by rw[<-b]at c;simp at c;omega))
def aqN(x:bT)(h1:x.1.length<=140737488351232)(g:x.2.length<=140737488351232):TT.lim 130 [ent x]=some [.s (jf x)]:=by
 have a:=yT x.1.length (by omega);have b:=yT x.2.length (by omega);have h:=jk (n:=x.1.length) (by omega);have i:=jk (n:=x.2.length) (by omega);have w1:=dn (n:=(x.1.length:Int)) (by omega) (by omega);have c:=dn (n:=(x.2.length:Int)) (by omega) (by omega);have d:((aV x.1.length).length:Int)+(x.1.length:Int)<=9223372036854775807:=by omega
 have e:((aV x.1.length).length:Int)+((x.1.length:Int)+((aV x.2.length).length:Int))<=9223372036854775807:=by omega
 have f:((aV x.1.length).length:Int)+((x.1.length:Int)+(((aV x.2.length).length:Int)+(x.2.length:Int)))<=9223372036854775807:=by omega
 refine aG rfl rfl ?_ rfl;simp[w1,c,a,b,d,e,f,jf,Int.add_assoc]
def agx(d:List bT)(e:d.all qV=true)(g:d.length<=40):∀(m i:Nat)(a:Q0),i+m=d.length->a.length<=10+620*i->
 TT.lim 129 [.s a,.l (d.map ent),.i .i64 d.length,.i .i64 i]=some [.i .i64 0,.s (a++(d.drop i).flatMap jf)]
 |0,i,a,hi,j=>by
  have h0:d.drop i=[]:=cO (by omega);refine au rfl rfl ?_;have h:¬((i:Int)<d.length):=by omega
  simp[h,h0]
 |m+1,i,a,hi,j=>by
  have b:i<d.length:=by omega
  have f:=List.all_eq_true.1 e d[i] (dW b);have c:=f;unfold qV at c;simp only[decide_eq_true_iff]at c;have k:=aqN d[i] (by omega) (by omega);have l:=Ym f;have o:TT.lim 129 [.s (a++jf d[i]),.l (d.map ent),.i .i64 d.length,.i .i64 ((i:Int)+1)]=_:=agx d e g m (i+1) (a++jf d[i]) (by omega) (by simp;omega);have p:(d.drop i).flatMap jf=jf d[i]++(d.drop (i+1)).flatMap jf:=by rw[dF b,jF]
  rw[p,<-List.append_assoc];have h:((i:Int)<d.length):=by omega
  have q:=wrap64 (n:=(i:Int)+1) (by omega) (by omega);have r:(a.length:Int)+((jf d[i]).length:Int)<=9223372036854775807:=by omega
  have s:GV.g [GV.s d[i].1,GV.s d[i].2]=ent d[i]:=rfl;refine au rfl rfl ?_;simp[h,b,s,k,r,q,o]
def zT(d:List bT)(b:gq d=true):TT.lim 126 [.l (d.map ent)]=some [.s (aU d)]:=by unfold gq at b;rw[aK,decide_eq_true_iff]at b;have k:=yT d.length (by omega);have c:=jk (n:=d.length) (by omega);have w1:=dn (n:=(d.length:Int)) (by omega) (by omega);have a:TT.lim 129 [.s (aV d.length),.l (d.map ent),.i .i64 d.length,.i .i64 0]=_:=agx d b.1 b.2 d.length 0 (aV d.length) (by omega) (by omega);rw[bK]at a;refine aG rfl rfl ?_ rfl;unfold aU;generalize d.flatMap jf=F at *;simp[w1,k,a]
def DL{d:List bT}(a:gq d=true):(aU d).length<=30000:=by unfold gq at a;rw[aK,decide_eq_true_iff]at a;have b:=jk (n:=d.length) (by omega);have:=YC d a.1;unfold aU;simp only[eX];omega
def ZL(a b:Q0)(c:a.length<=140737488351232)(d:b.length<=140737488351232):TT.lim 131 [.s a,.s b]=some [.b (Op.bytesLess a b)]:=by
 have k:=aec (a,[]) (b,[]) ⟨c,by simp⟩ ⟨d,by simp⟩;have e:GV.g [.s a,.s []]=ent (a,[]):=rfl;have f:GV.g [.s b,.s []]=ent (b,[]):=rfl;have g:decide (KO (a,[]) (b,[])<0)=Op.bytesLess a b:=by
  unfold KO;cases h:Op.bytesLess a b with
  |true=>simp
  |false=>simp only[gy,if_false];rw[ah (by simp[Op.bytesLess])];split<;>rfl
 refine aG rfl rfl ?_ rfl;simp[e,f,k,g]
def agt(t:List Row)(H:Rows t)(z:iF t)(r:t.length<=256):∀m i:Nat,i+m=t.length->
 TT.lim 117 [.l (t.map row),.i .i64 t.length,.i .i64 i]=some (tagged (kP (if h:0<i then(t[i-1]?).map K else none) (t.drop i)))
 |0,i,hi=>by
  have h0:t.drop i=[]:=cO (by omega);have h:¬((i:Int)<t.length):=by omega
  refine au rfl rfl ?_;simp[h,h0,kP,tagged]
 |m+1,i,hi=>by
  have a:i<t.length:=by omega
  have L:=H.2 t[i] (dW a);have I:=z t[i] (dW a);have c:=aiS t[i] L.1;have u:=zT t[i].1 I;have b:GV.g [.l (t[i].1.map ent),.i .u64 t[i].2]=row t[i]:=rfl;have v:TT.lim 117 [.l (t.map row),.i .i64 t.length,.i .i64 ((i:Int)+1)]=_:=agt t H z r m (i+1) (by omega);have A:(if h:0<i+1 then(t[i+1-1]?).map K else none)=some (K t[i]):=by simp[a]
  rw[A]at v;rw[dF a];have h:((i:Int)<t.length):=by omega
  have B:=wrap64 (n:=(i:Int)+1) (by omega) (by omega);by_cases g:oG t[i]=0;rotate_left
  ·have s:∀p,kP p (t[i]::t.drop (i+1))=oG t[i]:=λp=>by unfold kP;rw[aj g]
   rw[s];have D:tagged (oG t[i])=[.i .i64 0,.i .i64 (oG t[i])]:=by unfold tagged;rw[ah g]
   rw[D];refine au rfl rfl ?_;simp[-List.getElem_cons_drop,h,a,b,c,g]
  by_cases h0:i=0
  ·subst h0;have s:kP (if h:0<0 then(t[0-1]?).map K else none) (t[0]::t.drop (0+1))=kP (some (K t[0])) (t.drop (0+1)):=by
    conv=>lhs;unfold kP
    simp[g]
   rw[s];generalize tagged (kP (some (K t[0])) (t.drop (0+1)))=E at *;simp only[mZ,Nv]at B v;have M:(0:Int)<(t.length:Int):=by omega
   refine au rfl rfl ?_;simp[-List.getElem_cons_drop,h,a,M,b,c,g,u,B,v]
  ·have j:0<i:=by omega
   have d:i-1<t.length:=by omega
   have F:(0:Int)<(i:Int):=by omega
   have k:=wrap64 (n:=(i:Int)-1) (by omega) (by omega);have l:((i:Int)-1).toNat=i-1:=by omega
   have o:(1:Int)<=(i:Int):=by omega
   have q:(0:Int)<=(i:Int)-1:=by omega
   have J:=z t[i-1] (dW d);have G:=zT t[i-1].1 J;have w:=ZL (aU t[i-1].1) (aU t[i].1) (by have:=DL J;omega) (by have:=DL I;omega);have N:(if h:0<i then(t[i-1]?).map K else none)=some (K t[i-1]):=by simp[j,d]
   rw[N];have s:kP (some (K t[i-1])) (t[i]::t.drop (i+1))=if K t[i]=K t[i-1]then 14 else if Op.bytesLess (K t[i]) (K t[i-1])=true then 7 else kP (some (K t[i])) (t.drop (i+1)):=by
    conv=>lhs;unfold kP
    rw[ah (by simp[g])]
   rw[s];generalize kP (some (K t[i])) (t.drop (i+1))=E at *;by_cases x:aU t[i].1=aU t[i-1].1
   ·rw[aj x];have f:(aU t[i-1].1=aU t[i].1)=True:=eq_true x.symm;refine au rfl rfl ?_;simp[-List.getElem_cons_drop,h,a,b,c,g,u,F,j,k,l,o,q,d,G,f,tagged]
   ·rw[ah x];have f:¬aU t[i-1].1=aU t[i].1:=λe=>x e.symm;by_cases y:aU t[i].1<aU t[i-1].1
    ·rw[aj ((wB _ _).2 y)];rw[(alj _ _).2 λh=>mJ _ (vM h y)]at w;refine au rfl rfl ?_;simp[-List.getElem_cons_drop,h,a,b,c,g,u,F,j,k,l,o,q,d,G,f,w,tagged]
    ·rw[ah λh=>y ((wB _ _).1 h)];have O:aU t[i-1].1<aU t[i].1:=by
      rcases WS.1 (xF.1 y)with h|h
      ·exact h
      ·exact absurd h f
     rw[(wB _ _).2 O]at w;refine au rfl rfl ?_;simp[-List.getElem_cons_drop,h,a,b,c,g,u,F,j,k,l,o,q,d,G,f,w,B,v]
def Iu(t:List Row)(e:Rows t)(f:iF t):TT.lim 116 [.l (t.map row)]=some [.i .i64 (jR t)]:=by
 unfold jR;by_cases d:256<t.length
 ·have b:(256:Int)<(t.length:Int):=by omega
  refine aG rfl rfl ?_ rfl;simp[d,b]
 ·have b:¬(256:Int)<(t.length:Int):=by omega
  have a:TT.lim 117 [.l (t.map row),.i .i64 t.length,.i .i64 0]=_:=agt t e f (by omega) t.length 0 (by omega);rw[bK]at a;have g:(if h:0<0 then(t[0-1]?).map K else none)=none:=rfl;rw[g]at a;refine aG rfl rfl ?_ rfl;by_cases c:kP none t=0
  ·simp only[tagged,c,if_true]at a;simp[d,b,a,c]
  ·simp only[tagged,c,if_false]at a;simp[d,b,a,c]
def Bq(t:List Row)(k:Q0):Option Int:=(t.find? λr=>decide (K r=k)).map (·.2)
def aj9:∀(t:List Row)(k:Q0),val t k=(Bq t k).getD 0
 |[],_=>rfl
 |r::t,k=>by
  unfold val Bq;rw[aj9 t k];by_cases h:K r=k
  ·simp[h]
  ·simp[h,Bq]
def U7:Option Int->List GV
 |some n=>[.i .i64 0,.i .u64 n]
 |none=>[.i .i64 1]
def agz(t:List Row)(d:List bT)(j:t.length<=1000)(b:iF t)(c:gq d=true):∀m i:Nat,i+m=t.length->TT.lim 135 [.l (d.map ent),.l (t.map row),.i .i64 t.length,.i .i64 i]=some (U7 (Bq (t.drop i) (aU d)))
 |0,i,hi=>by
  have h0:t.drop i=[]:=cO (by omega);have h:¬((i:Int)<t.length):=by omega
  refine au rfl rfl ?_;simp[h,h0,Bq,U7]
 |m+1,i,hi=>by
  have a:i<t.length:=by omega
  have k:TT.lim 135 [.l (d.map ent),.l (t.map row),.i .i64 t.length,.i .i64 ((i:Int)+1)]=_:=agz t d j b c m (i+1) (by omega);have f:=zT t[i].1 (b _ (dW a));have g:=zT d c;have h:((i:Int)<t.length):=by omega
  have l:=wrap64 (n:=(i:Int)+1) (by omega) (by omega);have o:Bq (t.drop i) (aU d)=if aU t[i].1=aU d then some t[i].2 else Bq (t.drop (i+1)) (aU d):=by
   rw[dF a];unfold Bq;rw[acC];by_cases e:aU t[i].1=aU d
   ·simp[e]
   ·simp[e]
  rw[o];generalize Bq (t.drop (i+1)) (aU d)=p at *;refine au rfl rfl ?_;by_cases e:aU t[i].1=aU d
  ·rw[aj e];have q:(aU t[i].1=aU d)=True:=eq_true e;clear e;simp[h,a,f,g,q,U7]
  ·rw[ah e];simp[h,a,f,g,e,l,k]
def TP(t:List Row)(d:List bT)(a:t.length<=1000)(b:iF t)(c:gq d=true):TT.lim 134 [.l (t.map row),.l (d.map ent)]=some [.i .u64 (val t (aU d))]:=by have k:TT.lim 135 [.l (d.map ent),.l (t.map row),.i .i64 t.length,.i .i64 0]=_:=agz t d a b c t.length 0 (by omega);rw[bK]at k;rw[aj9];refine aG rfl rfl ?_ rfl;cases e:Bq t (aU d)<;>rw[e]at k<;>simp only[U7]at k<;>simp[k]
def Dc(t b:List Row):Bool:=b.all λr=>decide (r.2<=val t (K r))
def agy(t b:List Row)(d:t.length<=1000)(f:iF t)(k:b.length<=1000)(g:iF b):∀m i:Nat,i+m=b.length->TT.lim 133 [.l (t.map row),.l (b.map row),.i .i64 b.length,.i .i64 i]=some (if Dc t (b.drop i)=true then[.i .i64 1]else[.i .i64 0])
 |0,i,hi=>by
  have h0:b.drop i=[]:=cO (by omega);have h:¬((i:Int)<b.length):=by omega
  refine au rfl rfl ?_;simp[h,h0,Dc]
 |m+1,i,hi=>by
  have a:i<b.length:=by omega
  have l:TT.lim 133 [.l (t.map row),.l (b.map row),.i .i64 b.length,.i .i64 ((i:Int)+1)]=_:=agy t b d f k g m (i+1) (by omega);have j:=TP t b[i].1 d f (g _ (dW a));have h:((i:Int)<b.length):=by omega
  have o:=wrap64 (n:=(i:Int)+1) (by omega) (by omega);have p:Dc t (b.drop i)=(decide (b[i].2<=val t (aU b[i].1))&&Dc t (b.drop (i+1))):=by rw[dF a];rfl
  rw[p];generalize Dc t (b.drop (i+1))=q at *;refine au rfl rfl ?_;by_cases e:val t (aU b[i].1)<b[i].2
  ·have c:¬b[i].2<=val t (aU b[i].1):=by omega
   simp[h,a,j,e,c]
  ·have c:b[i].2<=val t (aU b[i].1):=by omega
   simp[h,a,j,e,c,o,l]
def ado(t b:List Row)(a:t.length<=1000)(c:iF t)(d:b.length<=1000)(e:iF b):TT.lim 132 [.l (t.map row),.l (b.map row)]=some [.b (Dc t b)]:=by have k:TT.lim 133 [.l (t.map row),.l (b.map row),.i .i64 b.length,.i .i64 0]=_:=agy t b a c d e b.length 0 (by omega);rw[bK]at k;refine aG rfl rfl ?_ rfl;cases f:Dc t b<;>rw[f]at k<;>simp at k<;>simp[k]
def adl{t b:List Row}(c:Tb t)(f:Tb b):Dc t b=kX t b:=by
 rw[qN,H7 _ _ c.rise f.rise];unfold Dc;rw[List.all_eq_true];constructor
 ·intro h r a;have i:=h r a;simp only[decide_eq_true_iff]at i;have j:=(f.pos r a).1;obtain⟨s,d,e,g⟩:=akb c.pos (k:=K r) (by omega);exact⟨s,d,e,by omega⟩
 ·intro h r a;obtain⟨s,d,e,g⟩:=h r a;simp only[decide_eq_true_iff];rw[<-e,GU c.rise s d];exact g
def agF(a b:List Row)(i:Nat)(g:i<a.length)(k:i<b.length)(u:a[i].1.length=b[i].1.length)(v:a[i].1.length<=40)(l o p q r s:GV):∀m j:Nat,j+m=a[i].1.length->
 TT.lim 143 [.l (a.map row),.l (b.map row),.i .i64 i,l,o,p,.i .i64 a[i].1.length,q,r,s,.i .i64 j]=some (if a[i].1.drop j=b[i].1.drop j then[.i .i64 1]else[.i .i64 0])
 |0,j,w=>by
  have h0:a[i].1.drop j=[]:=cO (by omega);have x:b[i].1.drop j=[]:=cO (by omega);have h:¬((j:Int)<a[i].1.length):=by omega
  refine au rfl rfl ?_;simp[h,h0,x]
 |m+1,j,w=>by
  have c:j<a[i].1.length:=by omega
  have d:j<b[i].1.length:=by omega
  have y:TT.lim 143 [.l (a.map row),.l (b.map row),.i .i64 i,l,o,p,.i .i64 a[i].1.length,q,r,s,.i .i64 ((j:Int)+1)]=_:=agF a b i g k u v l o p q r s m (j+1) (by omega);have h:((j:Int)<a[i].1.length):=by omega
  have z:=wrap64 (n:=(j:Int)+1) (by omega) (by omega);have f:=Yo a[i].1[j] b[i].1[j];have t:(a[i].1.drop j=b[i].1.drop j)=(a[i].1[j]=b[i].1[j]/\a[i].1.drop (j+1)=b[i].1.drop (j+1)):=by rw[dF c,dF d,xE]
  simp only[t];by_cases e:a[i].1[j]=b[i].1[j]
  ·have A:(a[i].1[j]=b[i].1[j])=True:=eq_true e;rw[Bh e]at f;clear e t;simp only[A,true_and];refine au rfl rfl ?_;simp[h,g,k,c,d,f,z,y]
  ·rw[zF e]at f;rw[ah λh=>e h.1];clear t;refine au rfl rfl ?_;simp[h,g,k,c,d,f]
def agE(a b:List Row)(u:a.length=b.length)(r:a.length<=1000)(s:iF a):∀m i:Nat,i+m=a.length->
 TT.lim 142 [.l (a.map row),.l (b.map row),.i .i64 a.length,.i .i64 i]=some (if a.drop i=b.drop i then[.i .i64 1]else[.i .i64 0])
 |0,i,hi=>by
  have h0:a.drop i=[]:=cO (by omega);have v:b.drop i=[]:=cO (by omega);have h:¬((i:Int)<a.length):=by omega
  refine au rfl rfl ?_;simp[h,h0,v]
 |m+1,i,hi=>by
  have c:i<a.length:=by omega
  have d:i<b.length:=by omega
  have w:TT.lim 142 [.l (a.map row),.l (b.map row),.i .i64 a.length,.i .i64 ((i:Int)+1)]=_:=agE a b u r s m (i+1) (by omega);have h:((i:Int)<a.length):=by omega
  have x:=wrap64 (n:=(i:Int)+1) (by omega) (by omega);have y:=zI (s _ (dW c));have t:(a.drop i=b.drop i)=(a[i]=b[i]/\a.drop (i+1)=b.drop (i+1)):=by rw[dF c,dF d,xE]
  simp only[t];have e:(a[i]=b[i])=(a[i].1=b[i].1/\a[i].2=b[i].2):=propext acV;clear t;by_cases j:a[i].2=b[i].2;rotate_left
  ·rw[ah λh=>j (by rw[h.1])];clear e;refine au rfl rfl ?_;simp[h,c,d,j]
  by_cases l:a[i].1.length=b[i].1.length;rotate_left
  ·rw[ah λh=>l (by rw[h.1])];have f:(a[i].2=b[i].2)=True:=eq_true j;clear e j;have g:¬(a[i].1.length:Int)=(b[i].1.length:Int):=by omega
   refine au rfl rfl ?_;simp[h,c,d,f,l,g]
  have k:=agF a b i c d l y (.i .i64 a.length) (row a[i]) (.l (a[i].1.map ent)) (row b[i]) (.l (b[i].1.map ent)) (.i .i64 b[i].1.length) a[i].1.length 0 (by omega);rw[bK,bK]at k;simp only[mZ]at k;have f:(a[i].2=b[i].2)=True:=eq_true j;have g:((a[i].1.length:Int)=(b[i].1.length:Int))=True:=eq_true (by omega);have o:(a[i].1.length=b[i].1.length)=True:=eq_true l;by_cases p:a[i].1=b[i].1
  ·rw[aj p]at k;have q:(a[i]=b[i])=True:=eq_true (Prod.ext p j);simp only[q,true_and];clear e j l p q;refine au rfl rfl ?_;simp[h,c,d,f,g,o,k,x,w]
  ·rw[ah p]at k;rw[ah λh=>p (by rw[h.1])];clear e j l;refine au rfl rfl ?_;simp[h,c,d,f,g,o,k]
def aA5(a b:List Row)(g:a.length<=1000)(h:iF a):TT.lim 141 [.l (a.map row),.l (b.map row)]=some [.b (decide (a=b))]:=by
 by_cases f:a.length=b.length
 ·have k:TT.lim 142 [.l (a.map row),.l (b.map row),.i .i64 a.length,.i .i64 0]=_:=agE a b f g h a.length 0 (by omega);rw[bK,bK]at k;have c:((a.length:Int)=(b.length:Int))=True:=eq_true (by omega);have d:(a.length=b.length)=True:=eq_true f;clear f;by_cases e:a=b
  ·rw[aj e]at k;rw[Bh e];clear e;refine aG rfl rfl ?_ rfl;simp[c,d,k]
  ·rw[ah e]at k;rw[zF e];refine aG rfl rfl ?_ rfl;simp[c,d,k]
 ·rw[zF λe=>f (by rw[e])];have c:¬(a.length:Int)=(b.length:Int):=by omega
  refine aG rfl rfl ?_ rfl;simp[f,c]
def aA9(x y:Sn)(c:dR x.2):TT.lim 140 [sn x,sn y]=some [.b (decide (x.1=y.1)&&decide (x.2=y.2))]:=by
 have k:=aA5 x.2 y.2 (by have:=c.len;omega) c.few;refine aG rfl rfl ?_ rfl;by_cases a:x.1=y.1
 ·have b:(x.1=y.1)=True:=eq_true a;clear a;simp[b,k]
 ·simp[a]
def ai6(x:Sn)(a:dR x.2):TT.lim 140 [sn x,sn x]=some [.b true]:=by have k:=aA9 x x a;simpa using k
def alL(d:Dl)(h:dR d.2.2):TT.lim 311 [dl d]=some [.i .i64 (tN d)]:=by
 have k:=Iu d.2.2 h.rows h.few;unfold tN;refine aG rfl rfl ?_ rfl;by_cases a:d.2.1<=d.1
 ·simp[a]
 ·simp[a,k]
def qC(s:List Row):List Row->List Row
 |[]=>[]
 |r::rs=>if r.2=val s (K r)then qC s rs else(r.1,IntKind.u64.wrap (r.2-val s (K r)))::qC s rs
def ZP(n s:List Row)(e f:Int)(o:n.length<=300)(fn:iF n)(p:s.length<=300)(fs:iF s):∀(m i:Nat)(a:List Row),i+m=n.length->a.length<=i->
 TT.lim 210 [.l (n.map row),.i .i64 n.length,.i .i64 i,.i .u64 e,.i .u64 f,.l (a.map row),.l (s.map row)]=some [.i .i64 0,.l ((a++qC s (n.drop i)).map row)]
 |0,i,a,hi,t=>by
  have h0:n.drop i=[]:=cO (by omega);have h:¬((i:Int)<n.length):=by omega
  refine au rfl rfl ?_;simp[h,h0,qC]
 |m+1,i,a,hi,t=>by
  have b:i<n.length:=by omega
  have k:=TP s n[i].1 (by omega) fs (fn _ (dW b));have h:((i:Int)<n.length):=by omega
  have q:=wrap64 (n:=(i:Int)+1) (by omega) (by omega);have g:∀r:Row,(row r).dZ 2=true:=λr=>rfl;have u:2*(a.length+1)*32<=281474976710656/\a.length+1<=281474976710656:=by omega
  have j:qC s (n.drop i)=if n[i].2=val s (aU n[i].1)then qC s (n.drop (i+1))else(n[i].1,IntKind.u64.wrap (n[i].2-val s (aU n[i].1)))::qC s (n.drop (i+1)):=by rw[dF b];rfl
  rw[j];by_cases d:n[i].2=val s (aU n[i].1)
  ·have c:TT.lim 210 [.l (n.map row),.i .i64 n.length,.i .i64 ((i:Int)+1),.i .u64 e,.i .u64 f,.l (a.map row),.l (s.map row)]=_:=ZP n s e f o fn p fs m (i+1) a (by omega) (by omega);rw[aj d];generalize w:(a++qC s (n.drop (i+1))).map row=L at c⊢;have l:(n[i].2=val s (aU n[i].1))=True:=eq_true d;clear d j;generalize val s (aU n[i].1)=v at *;refine au rfl rfl ?_;simp[h,b,k,l,q,c]
  ·have c:TT.lim 210 [.l (n.map row),.i .i64 n.length,.i .i64 ((i:Int)+1),.i .u64 e,.i .u64 f,.l ((a++[(n[i].1,IntKind.u64.wrap (n[i].2-val s (aU n[i].1)))]).map row),.l (s.map row)]=_:=ZP n s e f o fn p fs m (i+1) (a++[(n[i].1,IntKind.u64.wrap (n[i].2-val s (aU n[i].1)))]) (by omega) (by simp;omega);rw[ah d];rw[List.append_assoc,Az]at c;clear j;generalize val s (aU n[i].1)=v at *;have x:GV.g [GV.l (n[i].1.map ent),GV.i .u64 (IntKind.u64.wrap (n[i].2-v))]=row (n[i].1,IntKind.u64.wrap (n[i].2-v)):=rfl;generalize w:(a++(n[i].1,IntKind.u64.wrap (n[i].2-v))::qC s (n.drop (i+1))).map row=L at c⊢;simp only[jG,gX,jO]at c;refine au rfl rfl ?_;simp[h,b,k,d,x,g,u,q,c]
def aev{s:List Row}(g:Pos s):∀n:List Row,iH n->Pos n->(∀r∈n,val s (K r)<=r.2)->
 iH (qC s n)/\(∀x∈qC s n,∃r∈n,r.1=x.1)/\Pos (qC s n)/\∀r∈n,val (qC s n) (K r)=r.2-val s (K r)
 |[],_,_,_=>⟨List.Pairwise.nil,by simp[qC],by simp[qC,Pos],by simp⟩
 |r::n,m,h,i=>by
  have c:=iK.1 m;obtain⟨j,f,k,l⟩:=aev g n c.2 (λx a=>h x (by simp[a])) (λx a=>i x (by simp[a]));have p:=h r (by simp);have q:=i r (by simp);have t:=Nc g (K r);have o:=dn (n:=r.2-val s (K r)) (by omega) (by omega);have b:∀x∈qC s n,K r<K x:=λx a=>by
   obtain⟨y,d,e⟩:=f x a;show K r<aU x.1
   rw[<-e];exact c.1 y d
  unfold qC;by_cases e:r.2=val s (K r)
  ·rw[aj e];refine⟨j,λx a=>?_,k,λx a=>?_⟩
   ·obtain⟨y,d,e⟩:=f x a;exact⟨y,by simp[d],e⟩
   ·rcases bD.1 a with rfl|a
    ·rw[Ew b];omega
    ·exact l x a
  ·rw[ah e,o];refine⟨List.Pairwise.cons (λx a=>b x a) j,λx a=>?_,λx a=>?_,λx a=>?_⟩
   ·rcases bD.1 a with rfl|a
    ·exact⟨r,by simp,rfl⟩
    ·obtain⟨y,d,e⟩:=f x a;exact⟨y,by simp[d],e⟩
   ·rcases bD.1 a with rfl|a
    ·exact⟨by simp only;omega,by simp only;omega⟩
    ·exact k x a
   ·show(if K r=K x then r.2-val s (K r)else val (qC s n) (K x))=_
    rcases bD.1 a with rfl|a
    ·rw[aj rfl]
    ·rw[ah λe=>by have:=c.1 x a;rw[e]at this;exact mJ _ this];exact l x a
def aqx{s n:List Row}(f:Tb s)(a:Tb n)(h:kX n s=true):qC s n=iY n s:=by
 have q:=(H7 _ _ a.rise f.rise).1 h;have g:∀r∈n,val s (K r)<=r.2:=λr t=>by
  rcases JK s (K r)with⟨x,i,d,j⟩|⟨_,d⟩
  ·obtain⟨y,b,l,m⟩:=q x i;have:y=r:=aiI a.rise b t (l.trans d);rw[j,<-this];exact m
  ·have:=a.pos r t;omega
 obtain⟨i,d,j,v⟩:=aev f.pos n a.rise a.pos g;obtain⟨u,w⟩:=aex f a h;refine abX i u.rise j u.pos λk=>?_;rw[w];rcases JK n k with⟨r,c,o,z⟩|⟨c,o⟩
 ·rw[<-o,v r c,GU a.rise r c]
 ·have:val s k=0:=GX λx p e=>by obtain⟨y,b,l,_⟩:=q x p;exact c y b (l.trans e)
  rw[o,this,GX λx p e=>?_]
  ·rfl
  ·obtain⟨y,b,m⟩:=d x p;exact c y b (by show aU y.1=k;rw[m];exact e)
def aqw(s n:Sn)(a:dR s.2)(b:dR n.2):TT.lim 209 [sn s,sn n]=some [dl (jV s n).1,.i .i64 (jV s n).2]:=by
 have d:=Iu s.2 a.rows a.few;have g:=Iu n.2 b.rows b.few;have h:GV.g [.i .u64 0,.i .u64 0,.l []]=dl zD:=rfl;have o:GV.g [.i .u64 s.1,.i .u64 n.1,.l ((iY n.2 s.2).map row)]=dl (s.1,n.1,iY n.2 s.2):=rfl;have i:TT.lim 210 [.l (n.2.map row),.i .i64 n.2.length,.i .i64 0,.i .u64 s.1,.i .u64 n.1,.l [],.l (s.2.map row)]=_:=ZP n.2 s.2 s.1 n.1 b.len b.few a.len a.few n.2.length 0 [] (by omega) (by simp);rw[bK,aW]at i;unfold jV;by_cases c:jR s.2=0;rotate_left
 ·refine aG rfl rfl ?_ rfl;simp[d,c,h]
 by_cases e:jR n.2=0;rotate_left
 ·refine aG rfl rfl ?_ rfl;simp[d,c,g,e,h]
 by_cases j:n.1<=s.1
 ·refine aG rfl rfl ?_ rfl;simp[d,c,g,e,h,j]
 have l:=a.tb ((qB _).1 c);have m:=b.tb ((qB _).1 e);have f:=ado n.2 s.2 (by have:=b.len;omega) b.few (by have:=a.len;omega) a.few;rw[adl m l]at f;cases k:kX n.2 s.2 with
 |false=>rw[k]at f;refine aG rfl rfl ?_ rfl;simp[d,c,g,e,h,j,f]
 |true=>rw[k]at f;rw[aqx l m k]at i;refine aG rfl rfl ?_ rfl;simp[d,c,g,e,o,j,f,i]
def PZ(o:List Row)(i:Nat)(r:Row)(x y z:GV):Q1:=match o[i]? with
 |some s=>[.i .i64 0,.i .i64 i,row s,.l (s.1.map ent),.s (aU s.1),.s (aU r.1)]
 |none=>[.i .i64 1,.i .i64 i]
def agD(o:List Row)(l:o.length<=1000)(d:iF o)(r:Row)(c:gq r.1=true)(x y z:GV):∀m i:Nat,i+m=o.length->
 TT.lim 318 [.l (o.map row),.i .i64 i,x,y,z,.l (r.1.map ent),.i .u64 r.2]=some (PZ o (i+iy (K r) (o.drop i)) r x y z)
 |0,i,hi=>by
  have h0:o.drop i=[]:=cO (by omega);have e:o[i]? =none:=sZ (by omega);have h:¬((i:Int)<o.length):=by omega
  refine au rfl rfl ?_;simp[h,h0,iy,PZ,e]
 |m+1,i,hi=>by
  have a:i<o.length:=by omega
  have p:TT.lim 318 [.l (o.map row),.i .i64 ((i:Int)+1),x,y,z,.l (r.1.map ent),.i .u64 r.2]=_:=agD o l d r c x y z m (i+1) (by omega);have f:=d _ (dW a);have g:=zT o[i].1 f;have j:=zT r.1 c;have b:=ZL (aU o[i].1) (aU r.1) (by have:=DL f;omega) (by have:=DL c;omega);have q:iy (K r) (o.drop i)=if Op.bytesLess (K o[i]) (K r)=true then iy (K r) (o.drop (i+1))+1 else 0:=by rw[dF a];rfl
  have h:((i:Int)<o.length):=by omega
  have s:=wrap64 (n:=(i:Int)+1) (by omega) (by omega);rw[q];cases k:Op.bytesLess (K o[i]) (K r)with
  |true=>rw[show Op.bytesLess (aU o[i].1) (aU r.1)=true from k]at b;rw[aj rfl,show i+(iy (K r) (o.drop (i+1))+1)=i+1+iy (K r) (o.drop (i+1)) by omega];refine au rfl rfl ?_;simp[h,a,g,j,b,s,p]
  |false=>rw[show Op.bytesLess (aU o[i].1) (aU r.1)=false from k]at b;have e:o[i]? =some o[i]:=bP a;rw[ah (by simp),lD];refine au rfl rfl ?_;simp[h,a,g,j,b,PZ]
def oD(o:List Row)(r:Row):List Row:=o.take (iy (K r) o)++r::o.drop (iy (K r) o)
def Po(o:List Row)(r:Row):Option (List Row):=match o[iy (K r) o]? with
 |some s=>if K s=K r then none else some (oD o r)
 |none=>some (oD o r)
def Jg:List Row->List Row->Option (List Row)
 |o,[]=>some o
 |o,r::l=>(Po o r).bind λo'=>Jg o' l
def U8(l:List Row):Option (List Row)->List GV
 |some t=>[.i .i64 1,.l (t.map row)]
 |none=>[.i .i64 0]
def au0(l:List Row)(i:Nat)(h:i<=l.length):FP 2 (some (.l (l.map row))) (some (.i .i64 0)) (some (.i .i64 i))=some (.l ((l.take i).map row)):=by rw[nI,aj ⟨by omega,by omega,by simpa using h,by simp[abg]⟩];simp[WX]
def auZ(l:List Row)(i:Nat)(h:i<=l.length):FP 2 (some (.l (l.map row))) (some (.i .i64 i)) (some (.i .i64 l.length))=some (.l ((l.drop i).map row)):=by rw[nI,aj ⟨by omega,by omega,by simp,by simp[abg]⟩];have:List.take l.length (l.map row)=l.map row:=lW (by simp);simp[this,WW]
def awe(l:List Row):(l.map row).all (GV.dZ 2)=true:=by rw[List.all_eq_true];intro x a;obtain⟨r,_,rfl⟩:=nR.1 a;rfl
def XC(a b:List Row)(h:a.length+b.length<=2000):xO 2 32 (some (.l (a.map row))) (some (.l (b.map row)))=some (.l ((a++b).map row)):=by rw[rU,aj ⟨awe b,by simp;omega,by simp;omega⟩,jG]
def ak1(a:List Row)(h:a.length<=2000):xO 2 32 (some (.l [])) (some (.l (a.map row)))=some (.l (a.map row)):=XC [] a (by simpa using h)
def XB(a:List Row)(r:Row)(h:a.length<=1900):xO 2 32 (some (.l (a.map row))) (some (.l [row r]))=some (.l ((a++[r]).map row)):=XC a [r] (by simp;omega)
def axu(o:List Row)(r:Row):o.take (iy (K r) o)++[r]++o.drop (iy (K r) o)=oD o r:=by unfold oD;simp
def axv(o:List Row)(r:Row):(oD o r).length=o.length+1:=by have:=Rw (K r) o;unfold oD;simp;omega
def aa3{o:List Row}{r x:Row}:x∈oD o r↔x=r\/x∈o:=by
 unfold oD;constructor
 ·intro h;rcases iW.1 h with h|h
  ·exact .inr (Hg h)
  ·rcases bD.1 h with h|h
   ·exact .inl h
   ·exact .inr (J5 h)
 ·rintro(rfl|h)
  ·simp
  ·rw[<-EF (iy (K r) o) o]at h;rcases iW.1 h with h|h
   ·exact iW.2 (.inl h)
   ·exact iW.2 (.inr (zk _ h))
set_option maxHeartbeats 4000000 in
def agC(l:List Row)(M:l.length<=300)(z:iF l):∀(m i:Nat)(o:List Row),i+m=l.length->o.length=i->iF o->
 TT.lim 317 [.l (o.map row),.l (l.map row),.i .i64 l.length,.i .i64 i]=some (U8 l (Jg o (l.drop i)))
 |0,i,o,hi,t,q=>by
  have h0:l.drop i=[]:=cO (by omega);have h:¬((i:Int)<l.length):=by omega
  refine au rfl rfl ?_;simp[h,h0,Jg,U8]
 |m+1,i,o,hi,t,q=>by
  have a:i<l.length:=by omega
  have u:=z _ (dW a);have f:TT.lim 318 [.l (o.map row),.i .i64 0,.l (l.map row),.i .i64 l.length,.i .i64 i,.l (l[i].1.map ent),.i .u64 l[i].2]=_:=agD o (by omega) q l[i] u (.l (l.map row)) (.i .i64 l.length) (.i .i64 i) o.length 0 (by omega);rw[jQ,bK]at f;have B:TT.lim 317 [.l ((oD o l[i]).map row),.l (l.map row),.i .i64 l.length,.i .i64 ((i:Int)+1)]=_:=agC l M z m (i+1) (oD o l[i]) (by omega) (by rw[axv];omega) (λx v=>by
   rcases aa3.1 v with rfl|v
   ·exact u
   ·exact q x v)
  have g:=Rw (K l[i]) o;have N:Jg o (l.drop i)=(Po o l[i]).bind λO=>Jg O (l.drop (i+1)):=by rw[dF a];rfl
  rw[N];have c:GV.g [GV.l (l[i].1.map ent),GV.i .u64 l[i].2]=row l[i]:=rfl;have j:=axu o l[i];have D:=au0 o (iy (K l[i]) o) g;have E:=auZ o (iy (K l[i]) o) g;have F:=ak1 (o.take (iy (K l[i]) o)) (by simp;omega);have G:=XB (o.take (iy (K l[i]) o)) l[i] (by simp;omega);have w:=XC (o.take (iy (K l[i]) o)++[l[i]]) (o.drop (iy (K l[i]) o)) (by simp;omega);rw[j]at w;have h:((i:Int)<l.length):=by omega
  have H:=wrap64 (n:=(i:Int)+1) (by omega) (by omega)
  have d:Po o l[i]=match o[iy (K l[i]) o]? with
   |some s=>if K s=K l[i]then none else some (oD o l[i])
   |none=>some (oD o l[i]):=rfl
  rw[d];generalize oD o l[i]=p at *;generalize Q:iy (K l[i]) o=A at *;clear j d;generalize S:(o.take A++[l[i]]).map row=T at *;generalize P:(o.take A).map row=U at *;generalize W:(o.drop A).map row=V at *;by_cases b:A<o.length
  ·have k:o[A]? =some o[A]:=bP b;have r:(A:Int)<(o.length:Int):=by omega
   have y:=q _ (dW b);have I:=zT o[A].1 y;have J:=zT l[i].1 u;simp only[PZ,k]at f;simp only[k];by_cases e:aU o[A].1=aU l[i].1
   ·have L:(aU o[A].1=aU l[i].1)=True:=eq_true e;simp only[L,if_true];clear e;refine au rfl rfl ?_;simp[h,a,f,b,r,I,J,L,U8]
   ·rw[ah e];simp only[vU];refine au rfl rfl ?_;simp[-nI,-rU,h,a,f,b,r,I,J,e,c,D,E,F,G,w,H,B]
  ·have k:o[A]? =none:=sZ (by omega);have r:¬(A:Int)<(o.length:Int):=by omega
   simp only[PZ,k]at f;simp only[k,vU];refine au rfl rfl ?_;simp[-nI,-rU,h,a,f,b,r,c,D,E,F,G,w,H,B]
def axt(x:Row)(o:List Row)(r:Row):oD (x::o) r=if Op.bytesLess (K x) (K r)=true then x::oD o r else r::x::o:=by
 have a:iy (K r) (x::o)=if Op.bytesLess (K x) (K r)=true then iy (K r) o+1 else 0:=rfl
 unfold oD;rw[a];by_cases h:Op.bytesLess (K x) (K r)=true
 ·simp[h]
 ·simp[h]
def ah5{r:Row}:∀{o:List Row},iH o->(∀s∈o,K s≠K r)->iH (oD o r)
 |[],_,_=>by simp[oD,iy,iH]
 |x::o,d,f=>by
  have a:=iK.1 d;rw[axt];by_cases h:Op.bytesLess (K x) (K r)=true
  ·rw[aj h];refine List.Pairwise.cons (λy b=>?_) (ah5 a.2 λs g=>f s (by simp[g]));rcases aa3.1 b with rfl|b
   ·exact(wB _ _).1 h
   ·exact a.1 y b
  ·rw[ah h];have c:K r<K x:=by
    rcases WS.1 (xF.1 λe=>h ((wB _ _).2 e))with e|e
    ·exact e
    ·exact absurd e.symm (f x (by simp))
   refine List.Pairwise.cons (λy b=>?_) d;rcases bD.1 b with rfl|b
   ·exact c
   ·exact vM c (a.1 y b)
def axw(o:List Row)(r:Row):(oD o r).Perm (r::o):=by unfold oD;refine QM.trans ?_;rw[EF]
def ahh:∀(l o:List Row),iH o->(∀r∈l,∀s∈o,K s≠K r)->(l.map K).Nodup->∃t,Jg o l=some t/\iH t/\t.Perm (o++l)
 |[],o,c,_,_=>⟨o,rfl,c,by simp⟩
 |r::l,o,c,d,f=>by
  rw[gX,List.nodup_cons]at f;have hi:Po o r=some (oD o r):=by
   unfold Po;split
   ·next s b=>rw[ah (d r (by simp) s (qp b))]
   ·rfl
  obtain⟨t,h,i,j⟩:=ahh l (oD o r) (ah5 c (d r (by simp))) (λx g s b=>by
   rcases aa3.1 b with rfl|b
   ·intro e;exact f.1 (nR.2 ⟨x,g,e.symm⟩)
   ·exact d x (by simp[g]) s b) f.2
  refine⟨t,by unfold Jg;rw[hi];exact h,i,j.trans ?_⟩;refine((axw o r).append_right l).trans ?_;simpa using(QM (a:=r) (l₁:=o) (l₂:=l)).symm
def agB(l:List Row)(e:l.length<=1000)(c:∀r∈l,lU r.1/\oG r=0):∀m i:Nat,i+m=l.length->TT.lim 316 [.l (l.map row),.i .i64 l.length,.i .i64 i]=some [.i .i64 1]
 |0,i,hi=>by
  have h:¬((i:Int)<l.length):=by omega
  refine au rfl rfl ?_;simp[h]
 |m+1,i,hi=>by
  have a:i<l.length:=by omega
  have d:=c _ (dW a);have k:=aiS l[i] d.1;rw[d.2]at k;have b:GV.g [GV.l (l[i].1.map ent),GV.i .u64 l[i].2]=row l[i]:=rfl;have f:TT.lim 316 [.l (l.map row),.i .i64 l.length,.i .i64 ((i:Int)+1)]=_:=agB l e c m (i+1) (by omega);have h:((i:Int)<l.length):=by omega
  have g:=wrap64 (n:=(i:Int)+1) (by omega) (by omega);refine au rfl rfl ?_;simp[h,a,b,k,g,f]
def av5(l:List Row)(e:l.length<=1000)(f:iF l)(g:∀r∈l,lU r.1/\oG r=0)(h:(l.map K).Nodup):∃t,iH t/\t.Perm l/\TT.lim 315 [.l (l.map row)]=some (if 256<l.length then[.l [],.i .i64 13]else[.l (t.map row),.i .i64 0]):=by
 obtain⟨t,i,j,d⟩:=ahh l [] List.Pairwise.nil (by simp) h;rw[aW]at d;refine⟨t,j,d,?_⟩;by_cases a:256<l.length
 ·have b:(256:Int)<(l.length:Int):=by omega
  rw[aj a];refine aG rfl rfl ?_ rfl;simp[a,b]
 ·have b:¬(256:Int)<(l.length:Int):=by omega
  rw[ah a];have k:TT.lim 316 [.l (l.map row),.i .i64 l.length,.i .i64 0]=_:=agB l e g l.length 0 (by omega);have c:TT.lim 317 [.l [],.l (l.map row),.i .i64 l.length,.i .i64 0]=_:=agC l (by omega) f l.length 0 [] (by omega) rfl (by intro r m;simp at m);rw[bK,i]at c;simp only[U8]at c;refine aG rfl rfl ?_ rfl;simp[a,b,k,c]
def uF(b:List Row):List Row->Option (List Row)
 |[]=>some []
 |r::a=>if 18446744073709551616<=r.2+val b (K r)then none else(uF b a).map ((r.1,r.2+val b (K r))::·)
def DY(a b c:List Row):Option (List Row)->List GV
 |some m=>[.i .i64 1,.l ((c++m).map row)]
 |none=>[.i .i64 0]
def agA(a b:List Row)(u:a.length<=300)(p:iF a)(pa:Pos a)(w:b.length<=300)(q:iF b)(r:Pos b):∀(m i:Nat)(c:List Row),i+m=a.length->c.length=i->
 TT.lim 313 [.l (a.map row),.l (b.map row),.l (c.map row),.i .i64 a.length,.i .i64 i]=some (DY a b c (uF b (a.drop i)))
 |0,i,c,hi,f=>by
  have h0:a.drop i=[]:=cO (by omega);have h:¬((i:Int)<a.length):=by omega
  refine au rfl rfl ?_;simp[h,h0,uF,DY]
 |m+1,i,c,hi,f=>by
  have d:i<a.length:=by omega
  have k:=TP b a[i].1 (by omega) q (p _ (dW d));have B:=pa _ (dW d);have D:=Nc r (aU a[i].1);have s:∀v,TT.lim 313 [.l (a.map row),.l (b.map row),.l ((c++[(a[i].1,v)]).map row),.i .i64 a.length,.i .i64 ((i:Int)+1)]=_:=λv=>agA a b u p pa w q r m (i+1) (c++[(a[i].1,v)]) (by omega) (by simp;omega);have t:uF b (a.drop i)=if 18446744073709551616<=a[i].2+val b (aU a[i].1)then none else(uF b (a.drop (i+1))).map ((a[i].1,a[i].2+val b (aU a[i].1))::·):=by rw[dF d];rfl
  rw[t];clear t;have g:=s (a[i].2+val b (aU a[i].1));clear s;have l:=XB c (a[i].1,a[i].2+val b (aU a[i].1)) (by omega);generalize val b (aU a[i].1)=v at *;have h:((i:Int)<a.length):=by omega
  have x:=wrap64 (n:=(i:Int)+1) (by omega) (by omega);have w1:=dn (n:=18446744073709551615-v) (by omega) (by omega);have j:GV.g [GV.l (a[i].1.map ent),GV.i .u64 (a[i].2+v)]=row (a[i].1,a[i].2+v):=rfl;by_cases e:18446744073709551616<=a[i].2+v
  ·rw[aj e];have o:18446744073709551615-v<a[i].2:=by omega
   refine au rfl rfl ?_;simp[h,d,k,w1,o,DY]
  ·rw[ah e];have o:¬18446744073709551615-v<a[i].2:=by omega
   have y:=dn (n:=a[i].2+v) (by omega) (by omega);have z:DY a b (c++[(a[i].1,a[i].2+v)]) (uF b (a.drop (i+1)))=DY a b c ((uF b (a.drop (i+1))).map ((a[i].1,a[i].2+v)::·)):=by cases uF b (a.drop (i+1))<;>simp[DY]
   rw[z]at g;generalize DY a b c ((uF b (a.drop (i+1))).map ((a[i].1,a[i].2+v)::·))=A at *;generalize E:(c++[(a[i].1,a[i].2+v)]).map row=F at *;refine au rfl rfl ?_;simp[-rU,h,d,k,w1,o,y,j,l,x,g]
def qJ(a:List Row)(b:List Row):List Row:=b.filter λr=>decide (val a (K r)=0)
def ZQ(a b:List Row)(q:a.length<=300)(l:iF a)(r:b.length<=300)(o:iF b):∀(m i:Nat)(c:List Row),i+m=b.length->c.length<=300+i->
 TT.lim 314 [.l (a.map row),.l (c.map row),.l (b.map row),.i .i64 b.length,.i .i64 i]=some [.i .i64 0,.l ((c++qJ a (b.drop i)).map row)]
 |0,i,c,hi,f=>by
  have h0:b.drop i=[]:=cO (by omega);have h:¬((i:Int)<b.length):=by omega
  refine au rfl rfl ?_;simp[h,h0,qJ]
 |m+1,i,c,hi,f=>by
  have d:i<b.length:=by omega
  have k:=TP a b[i].1 (by omega) l (o _ (dW d));have h:((i:Int)<b.length):=by omega
  have s:=wrap64 (n:=(i:Int)+1) (by omega) (by omega);have g:GV.g [GV.l (b[i].1.map ent),GV.i .u64 b[i].2]=row b[i]:=rfl;have t:qJ a (b.drop i)=if val a (aU b[i].1)=0 then b[i]::qJ a (b.drop (i+1))else qJ a (b.drop (i+1)):=by
   rw[dF d];unfold qJ;rw[acB];by_cases e:val a (aU b[i].1)=0
   ·simp[e]
   ·simp[e]
  rw[t];clear t;by_cases e:val a (aU b[i].1)=0
  ·have j:TT.lim 314 [.l (a.map row),.l ((c++[b[i]]).map row),.l (b.map row),.i .i64 b.length,.i .i64 ((i:Int)+1)]=_:=ZQ a b q l r o m (i+1) (c++[b[i]]) (by omega) (by simp;omega);have p:=XB c b[i] (by omega);rw[aj e];rw[List.append_assoc,Az]at j;rw[e]at k;clear e;generalize u:(c++b[i]::qJ a (b.drop (i+1))).map row=L at *;generalize w:(c++[b[i]]).map row=x at *;refine au rfl rfl ?_;simp[-rU,h,d,k,g,p,s,j]
  ·have j:TT.lim 314 [.l (a.map row),.l (c.map row),.l (b.map row),.i .i64 b.length,.i .i64 ((i:Int)+1)]=_:=ZQ a b q l r o m (i+1) c (by omega) (by omega);rw[ah e];generalize u:(c++qJ a (b.drop (i+1))).map row=L at *;generalize val a (aU b[i].1)=v at *;refine au rfl rfl ?_;simp[h,d,k,e,s,j]
def ajx{b:List Row}:∀a:List Row,iH a->Pos a->uF b a=none->∃k,18446744073709551616<=val a k+val b k
 |[],_,_,h=>by simp[uF]at h
 |r::a,g,pa,h=>by
  have c:=iK.1 g;have d:∀k,val (r::a) k=if K r=k then r.2 else val a k:=λ_=>rfl
  unfold uF at h;split at h
  ·next e=>exact⟨K r,by rw[d,aj rfl];exact e⟩
  ·obtain⟨k,f⟩:=ajx a c.2 (λx i=>pa x (by simp[i])) (Xf.1 h);refine⟨k,?_⟩;rw[d];by_cases e:K r=k
   ·rw[aj e];subst e;rw[Ew c.1]at f;have:=pa r (by simp);omega
   ·rw[ah e];exact f
def ajy{b:List Row}:∀(a:List Row){m:List Row},uF b a=some m->m.map K=a.map K/\(∀x∈m,∃r∈a,r.1=x.1/\x.2=r.2+val b (K r)/\x.2<18446744073709551616)/\(∀r∈a,(r.1,r.2+val b (K r))∈m/\r.2+val b (K r)<18446744073709551616)
 |[],m,h=>by simp[uF]at h;subst h;simp
 |r::a,m,h=>by
  unfold uF at h;split at h
  ·cases h
  next e=>
  obtain⟨n,d,rfl⟩:=bg.1 h;obtain⟨f,g,i⟩:=ajy a d;refine⟨by simp[f],λx c=>?_,λx c=>?_⟩
  ·rcases bD.1 c with rfl|c
   ·exact⟨r,by simp,rfl,rfl,by simp only;omega⟩
   ·obtain⟨y,j,e⟩:=g x c;exact⟨y,by simp[j],e⟩
  ·rcases bD.1 c with rfl|c
   ·exact⟨by simp,by omega⟩
   ·obtain⟨k,l⟩:=i x c;exact⟨by simp[k],l⟩
def aBJ(a b:List Row)(f:Tb a)(tb:Tb b):TT.lim 312 [.l (a.map row),.l (b.map row)]=some [.l ((tog a b).1.map row),.i .i64 (tog a b).2]:=by
 have Z:=f.ok.1;have lb:=tb.ok.1;have j:TT.lim 313 [.l (a.map row),.l (b.map row),.l [],.i .i64 a.length,.i .i64 0]=_:=agA a b (by omega) f.few f.pos (by omega) tb.few tb.pos a.length 0 [] (by omega) rfl;rw[bK]at j;cases u:uF b a with
 |none=>
  rw[u]at j;have B:tog a b=([],3):=by
   unfold tog;cases v:fO a b with
   |none=>rfl
   |some m=>exfalso;obtain⟨k,P⟩:=ajx a f.rise f.pos u;obtain⟨_,D,_,E⟩:=LQ a b f.rise tb.rise f.pos tb.pos v;have:=Nc E k;rw[D]at this;omega
  rw[B];refine aG rfl rfl ?_ rfl;simp[j,DY]
 |some m=>
  rw[u]at j;simp only[DY,aW]at j;obtain⟨F,Q,S⟩:=ajy a u;have T:m.length=a.length:=by simpa using tX List.length F
  have G:TT.lim 314 [.l (a.map row),.l (m.map row),.l (b.map row),.i .i64 b.length,.i .i64 0]=_:=ZQ a b (by omega) f.few (by omega) tb.few b.length 0 m (by omega) (by omega);rw[bK]at G;have h:∀x∈qJ a b,x∈b/\val a (K x)=0:=λx d=>by unfold qJ at d;have:=ED.1 d;simpa using this
  have src:∀x∈m++qJ a b,(∃r,(r∈a\/r∈b)/\r.1=x.1)/\0<x.2/\x.2<18446744073709551616:=by
   intro x d;rcases iW.1 d with d|d
   ·obtain⟨r,c,o,p,e3⟩:=Q x d;have n:=f.pos r c;have M:=Nc tb.pos (K r);exact⟨⟨r,.inl c,o⟩,by omega,by omega⟩
   ·have n:=h x d;have M:=tb.pos x n.1;exact⟨⟨x,.inr n.1,rfl⟩,M⟩
  have H:iF (m++qJ a b):=λx d=>by
   obtain⟨⟨r,c,e⟩,_⟩:=src x d;rw[<-e];rcases c with c|c
   ·exact f.few r c
   ·exact tb.few r c
  have chk:∀x∈m++qJ a b,lU x.1/\oG x=0:=λx d=>by
   obtain⟨⟨r,c,e⟩,n,_⟩:=src x d;rcases c with c|c
   ·exact⟨by rw[<-e];exact(f.rows.2 r c).1,(Ed x).2 ⟨by rw[<-e];exact((Ed r).1 (f.ok.2.2 r c)).1,by omega⟩⟩
   ·exact⟨by rw[<-e];exact(tb.rows.2 r c).1,(Ed x).2 ⟨by rw[<-e];exact((Ed r).1 (tb.ok.2.2 r c)).1,by omega⟩⟩
  have l:((m++qJ a b).map K).Nodup:=by
   rw[jG,QL];refine⟨by rw[F];exact aiK f.rise,?_,?_⟩
   ·exact(aiK tb.rise).sublist ((List.filter_sublist).map K)
   ·intro x d y U e;subst e;obtain⟨r,c,o⟩:=nR.1 (by rw[F]at d;exact d);obtain⟨s,I,p⟩:=nR.1 U;have n:=(h s I).2;rw[p,<-o,GU f.rise r c]at n;have:=f.pos r c;omega
  have V:(m++qJ a b).length<=1000:=by have:(qJ a b).length<=b.length:=Ny _ _;simp;omega
  obtain⟨t,J,q,w⟩:=av5 (m++qJ a b) V H chk l;have N:Pos t:=λx d=>(src x (q.mem_iff.1 d)).2;have O:∀k,val t k=val a k+val b k:=by
   intro k;rcases JK a k with⟨r,L,z,W⟩|⟨L,z⟩
   ·have g:(r.1,r.2+val b (K r))∈t:=q.mem_iff.2 (iW.2 (.inl (S r L).1));have:=GU J _ g;rw[W,<-z];exact this
   ·rw[z,Nv];rcases JK b k with⟨s,d1,d2,d3⟩|⟨d1,d2⟩
    ·have g:s∈t:=q.mem_iff.2 (iW.2 (.inr (ED.2 ⟨d1,by rw[decide_eq_true_iff,d2];exact z⟩)));have:=GU J _ g;rw[<-d2,this,GU tb.rise s d1]
    ·rw[d2];refine GX λx d e=>?_;obtain⟨⟨r,c,o⟩,_⟩:=src x (q.mem_iff.1 d);have p:K r=k:=by show aU r.1=k;rw[o];exact e
     rcases c with c|c
     ·exact L r c p
     ·exact d1 r c p
  have B:tog a b=if 256<(m++qJ a b).length then([],13)else(t,0):=by
   unfold tog;cases v:fO a b with
   |none=>exfalso;obtain⟨k,P⟩:=agY a b f.rise tb.rise v;have:=Nc N k;rw[O]at this;omega
   |some X=>
    obtain⟨Y,D,_,E⟩:=LQ a b f.rise tb.rise f.pos tb.pos v;have:X=t:=abX Y J E N λk=>by rw[D,O]
    rw[this];simp only[q.length_eq]
  rw[B];generalize hA:m++qJ a b=A at *;by_cases i:256<A.length
  ·rw[aj i]at w⊢;refine aG rfl rfl ?_ rfl;simp[j,G,w]
  ·rw[ah i]at w⊢;refine aG rfl rfl ?_ rfl;simp[j,G,w]
def ak4(s:Sn)(d:Dl)(i:dR s.2)(k:dR d.2.2):TT.lim 310 [sn s,dl d]=some [sn (lY s d).1,.i .i64 (lY s d).2]:=by
 have b:=Iu s.2 i.rows i.few;have f:=alL d k;have g:GV.g [.i .u64 d.1,.i .u64 d.2.1,.l (d.2.2.map row)]=dl d:=rfl;have h:GV.g [.i .u64 0,.l []]=sn zS:=rfl;have n:GV.g [.i .u64 d.2.1,.l ((tog s.2 d.2.2).1.map row)]=sn (d.2.1,(tog s.2 d.2.2).1):=rfl;unfold lY;by_cases a:jR s.2=0;rotate_left
 ·refine aG rfl rfl ?_ rfl;simp[b,a,h]
 by_cases c:tN d=0;rotate_left
 ·refine aG rfl rfl ?_ rfl;simp[b,a,g,f,c,h]
 by_cases j:s.1=d.1;rotate_left
 ·refine aG rfl rfl ?_ rfl;simp[b,a,g,f,c,h,j]
 have l:=aBJ s.2 d.2.2 (i.tb ((qB _).1 a)) (k.tb (ad7 c).2);have e:(s.1=d.1)=True:=eq_true j;clear j;by_cases m:(tog s.2 d.2.2).2=0;rotate_left
 ·refine aG rfl rfl ?_ rfl;simp[b,a,g,f,c,h,e,l,m]
 ·refine aG rfl rfl ?_ rfl;simp[b,a,g,f,c,n,e,l,m]
def common:Q0->List UInt8->Nat
 |a::x,b::y=>if a=b then common x y+1 else 0
 |_,_=>0
def SV(b:Q0):common [] b=0:=by unfold common;rfl
def amb(a:Q0):common a []=0:=by cases a<;>rfl
def OE:∀a b:Q0,common a b<=a.length/\common a b<=b.length
 |[],b=>by simp[common]
 |_::_,[]=>by simp[common]
 |a::x,b::y=>by
  unfold common;have:=OE x y;split
  ·simp only[jw];omega
  ·omega
def aeh(a b:Q0)(j:a.length<=140737488351232)(k:b.length<=140737488351232):∀m i:Nat,i+m=a.length->TT.lim 96 [.s a,.s b,.i .i64 i]=some [.i .i64 0,.i .i64 ((i+common (a.drop i) (b.drop i):Nat):Int)]
 |0,i,hi=>by
  have h0:a.drop i=[]:=cO (by omega);have h:¬((i:Int)<a.length):=by omega
  refine au rfl rfl ?_;simp[h,h0,SV]
 |m+1,i,hi=>by
  have c:i<a.length:=by omega
  have h:((i:Int)<a.length):=by omega
  by_cases d:i<b.length;rotate_left
  ·have h0:b.drop i=[]:=cO (by omega);have l:¬((i:Int)<b.length):=by omega
   refine au rfl rfl ?_;simp[h,h0,l,amb]
  have f:((i:Int)<b.length):=by omega
  have o:TT.lim 96 [.s a,.s b,.i .i64 ((i:Int)+1)]=_:=aeh a b j k m (i+1) (by omega);have p:=wrap64 (n:=(i:Int)+1) (by omega) (by omega);rw[dF c,dF d];unfold common;by_cases e:a[i]=b[i]
  ·rw[aj e];have g:((a[i].toNat:Int)=(b[i].toNat:Int))=True:=eq_true (by rw[e]);have q:((i+(common (a.drop (i+1)) (b.drop (i+1))+1):Nat):Int)=((i+1+common (a.drop (i+1)) (b.drop (i+1)):Nat):Int):=by omega
   rw[q];refine au rfl rfl ?_;simp[h,c,d,f,g,p,o]
  ·rw[ah e];have g:¬(a[i].toNat:Int)=(b[i].toNat:Int):=λh=>e (Q5.1 (by omega));refine au rfl rfl ?_;simp[h,c,d,f,g]
def X9(a b:Q0)(c:a.length<=140737488351232)(d:b.length<=140737488351232):TT.lim 95 [.s a,.s b]=some [.i .i64 (common a b)]:=by have k:TT.lim 96 [.s a,.s b,.i .i64 0]=_:=aeh a b c d a.length 0 (by omega);rw[bK,bK,jQ]at k;refine aG rfl rfl ?_ rfl;simp[k]
def aip(a b:Q0)(j:a.length<=140737488351232)(k:b.length<=140737488351232):∀m i:Nat,i+m=a.length->
 TT.lim 191 [.s a,.s b,.i .i64 i]=some (if common (a.drop i) (b.drop i)<a.length-i/\common (a.drop i) (b.drop i)<b.length-i then[.i .i64 0,.i .i64 ((i+common (a.drop i) (b.drop i):Nat):Int)]else[.i .i64 1])
 |0,i,hi=>by
  have h0:a.drop i=[]:=cO (by omega);have h:¬((i:Int)<a.length):=by omega
  have l:¬(common ([]:Q0) (b.drop i)<a.length-i/\common [] (b.drop i)<b.length-i):=by omega
  rw[h0,ah l];refine au rfl rfl ?_;simp[h]
 |m+1,i,hi=>by
  have c:i<a.length:=by omega
  have h:((i:Int)<a.length):=by omega
  by_cases d:i<b.length;rotate_left
  ·have o:¬((i:Int)<b.length):=by omega
   rw[ah (by omega)];refine au rfl rfl ?_;simp[h,o]
  have f:((i:Int)<b.length):=by omega
  have p:TT.lim 191 [.s a,.s b,.i .i64 ((i:Int)+1)]=_:=aip a b j k m (i+1) (by omega);have q:=wrap64 (n:=(i:Int)+1) (by omega) (by omega);have r:common (a.drop i) (b.drop i)=if a[i]=b[i]then common (a.drop (i+1)) (b.drop (i+1))+1 else 0:=by rw[dF c,dF d];rfl
  rw[r];by_cases e:a[i]=b[i]
  ·rw[aj e];have g:((a[i].toNat:Int)=(b[i].toNat:Int))=True:=eq_true (by rw[e]);have s:((i+(common (a.drop (i+1)) (b.drop (i+1))+1):Nat):Int)=((i+1+common (a.drop (i+1)) (b.drop (i+1)):Nat):Int):=by omega
   have t:(common (a.drop (i+1)) (b.drop (i+1))+1<a.length-i/\common (a.drop (i+1)) (b.drop (i+1))+1<b.length-i)=(common (a.drop (i+1)) (b.drop (i+1))<a.length-(i+1)/\common (a.drop (i+1)) (b.drop (i+1))<b.length-(i+1)):=by apply propext;omega
   rw[s];simp only[t];refine au rfl rfl ?_;simp[-Int.natCast_add,h,c,d,f,g,q,p]
  ·rw[ah e];have g:¬(a[i].toNat:Int)=(b[i].toNat:Int):=λh=>e (Q5.1 (by omega));rw[aj (by omega)];refine au rfl rfl ?_;simp[h,c,d,f,g]
def aiq(a b:Q0)(e:a.length<=140737488351232)(f:b.length<=140737488351232):TT.lim 190 [.s a,.s b]=some [.i .i64 (common a b)]:=by
 have k:TT.lim 191 [.s a,.s b,.i .i64 0]=_:=aip a b e f a.length 0 (by omega);rw[bK,bK,jQ,AO,AO]at k;have g:=OE a b;refine aG rfl rfl ?_ rfl;by_cases c:common a b<a.length/\common a b<b.length
 ·rw[aj c]at k;simp[k]
 ·rw[ah c]at k;by_cases d:(b.length:Int)<a.length
  ·have:(common a b:Int)=b.length:=by omega
   simp[k,d,this]
  ·have:(common a b:Int)=a.length:=by omega
   simp[k,d,this]
def uY(a s:Q0):Q0:=aV (common a s)++aV (s.length-common a s)++s.drop (common a s)
def awi(a s:Q0)(o:a.length<=100000000)(p:s.length<=100000000):TT.lim 94 [.s a,.s s]=some [.s (uY a s)]:=by
 have k:=X9 a s (by omega) (by omega);have q:=OE a s;have g:=yS (common a s) (by omega);have f:=yS (s.length-common a s) (by omega);have r:=jk (n:=common a s) (by omega);have t:=jk (n:=s.length-common a s) (by omega);have w1:=dn (n:=(common a s:Int)) (by omega) (by omega);have b:=dn (n:=(s.length:Int)-(common a s:Int)) (by omega) (by omega);have d:=wrap64 (n:=(s.length:Int)-(common a s:Int)) (by omega) (by omega);have e:(s.length:Int)-(common a s:Int)=((s.length-common a s:Nat):Int):=by omega
 rw[e]at b d;refine aG rfl rfl ?_ rfl;unfold uY;generalize common a s=c at *;have h:((aV c).length:Int)+((aV (s.length-c)).length:Int)<=9223372036854775807:=by omega
 have i:((aV c).length:Int)+((aV (s.length-c)).length:Int)+((s.length:Int)-(c:Int))<=9223372036854775807:=by omega
 have j:(c:Int)<=s.length:=by omega
 have l:((s.length-c:Nat):Int)=(s.length:Int)-c:=by omega
 have m:(s.take s.length).drop c=s.drop c:=by rw[pq]
 rw[<-e]at b d;rw[<-e]at f;simp[k,g,f,w1,b,d,h,i,j,l,m]
def iR:Q0->Nat
 |[]=>0
 |b::r=>b.toNat%128+128*iR r
def kD:Nat->List UInt8->Option Nat
 |0,_=>none
 |_+1,[]=>none
 |n+1,b::r=>if b.toNat<128 then some 1 else(kD n r).map (· +1)
def qM(k:Nat)(b:Nat):Int:=if k=10/\1<b then 3 else if 1<k/\b=0 then 2 else 0
def ay(s:Q0):Nat×Nat×Int:=match kD 10 s with
 |none=>(0,0,if 10<=s.length then 3 else 1)
 |some k=>if qM k (s.getD (k-1) 0).toNat≠0 then(0,0,qM k (s.getD (k-1) 0).toNat)else(iR (s.take k),k,0)
def Qy:∀{n:Nat}{s:Q0}{k:Nat},kD n s=some k->1<=k/\k<=n/\k<=s.length/\(s.getD (k-1) 0).toNat<128
 |0,s,k,h=>by simp[kD]at h
 |n+1,[],k,h=>by simp[kD]at h
 |n+1,b::r,k,h=>by
  unfold kD at h;split at h
  ·next a=>cases h;simpa using a
  ·obtain⟨j,c,rfl⟩:=bg.1 h;obtain⟨e,f,g,d⟩:=Qy c;obtain⟨i,rfl⟩:∃i,j=i+1:=⟨j-1,by omega⟩
   refine⟨by omega,by omega,by simp;omega,?_⟩;simpa using d
def ab5:∀(s:Q0),iR s<128^s.length
 |[]=>by simp[iR]
 |b::r=>by have:=ab5 r;simp only[iR,jw,EG];omega
def aje(b i:Nat)(g:b<128)(hi:i<=9)(c:i=9->b<=1):oW .shl .u64 (b:Int) ((7*i:Nat):Int)=some (.i .u64 ((b*128^i:Nat):Int)):=by
 have e:min ((7*i:Nat):Int).toNat 64=7*i:=by simp;omega
 have d:(2:Int)^(7*i)=((128^i:Nat):Int):=by rw[Int.pow_mul];simp
 have f:b*128^i<18446744073709551616:=by
  rcases vP i 9 with h|h
  ·have:(128:Nat)^i<=128^8:=J7 (by omega) (by omega);have j:b*128^i<=127*128^8:=Nat.mul_le_mul (by omega) this;omega
  ·have a:i=9:=by omega
   subst a;have:=c rfl;omega
 unfold oW;rw[ah (by omega)];show some (GV.i .u64 (IntKind.u64.wrap ((b:Int)*2^(min ((7*i:Nat):Int).toNat 64))))=_
 rw[e,d,<-Int.natCast_mul,dn (by omega) (by omega)]
def orI(a c i:Nat)(b:a<2^i)(h:a+c*2^i<18446744073709551616):gG .or .u64 (a:Int) ((c*2^i:Nat):Int)=some (.i .u64 ((a+c*2^i:Nat):Int)):=by
 have d:((BitVec.ofInt 64 (a:Int) |||BitVec.ofInt 64 ((c*2^i:Nat):Int)).toNat:Nat)=a+c*2^i:=by
  rw[BitVec.toNat_or,xB,xB];generalize e:c*2^i=C at *;have f:((a:Int)%((2^64:Nat):Int)).toNat=a:=by omega
  have g:((C:Int)%((2^64:Nat):Int)).toNat=C:=by omega
  rw[f,g,<-e,Nat.or_comm,CS,NC];exact(akA b c).symm
 show some (GV.i .u64 (IntKind.u64.wrap (((BitVec.ofInt 64 (a:Int) |||BitVec.ofInt 64 ((c*2^i:Nat):Int)).toNat:Nat):Int)))=_
 rw[d,dn (by omega) (by omega)]
def Mc(i:Nat):128^i=2^(7*i):=by rw[Nat.pow_mul]
def ajf(a b:Int)(c:0<=b):∃r,oW .shl .u64 a b=some (.i .u64 r):=by unfold oW;rw[ah (by omega)];exact⟨_,rfl⟩
def or_some(a b:Int):∃r,gG .or .u64 a b=some (.i .u64 r):=⟨_,rfl⟩
def Dv(s:Q0)(a:Int)(i:Nat):Q1:=match kD (10-i) (s.drop i)with
 |none=>[.i .i64 1,.s s]
 |some k=>if qM (i+k) (s.getD (i+k-1) 0).toNat≠0 then[.i .i64 0,.i .u64 0,.i .i64 0,.i .i64 (qM (i+k) (s.getD (i+k-1) 0).toNat)]
  else[.i .i64 0,.i .u64 (a+((128^i*iR ((s.drop i).take k):Nat):Int)),.i .i64 ((i+k:Nat):Int),.i .i64 0]
def getLoop(s:Q0)(W:s.length<=140737488351232):∀(m i:Nat)(a:Int),i+m=min s.length 10->(i<=9->0<=a/\a<((128^i:Nat):Int))->
 TT.lim 222 [.s s,.i .u64 a,.i .i64 ((min s.length 10:Nat):Int),.i .i64 i]=some (Dv s a i)
 |0,i,a,hi,G=>by
  have h:¬((i:Int)<((min s.length 10:Nat):Int)):=by omega
  have g:kD (10-i) (s.drop i)=none:=by
   rcases vP i 10 with h1|h1
   ·have:s.drop i=[]:=cO (by omega);rw[this];obtain⟨j,o⟩:∃j,10-i=j+1:=⟨10-i-1,by omega⟩
    rw[o];rfl
   ·have:10-i=0:=by omega
    rw[this];unfold kD;rfl
  unfold Dv;rw[g];generalize((min s.length 10:Nat):Int)=M at *;refine au rfl rfl ?_;simp[h]
 |m+1,i,a,hi,G=>by
  have d:i<s.length:=by omega
  have X:i<=9:=by omega
  have h:((i:Int)<((min s.length 10:Nat):Int)):=by omega
  obtain⟨a1,a2⟩:=G X;obtain⟨n,rfl⟩:∃n:Nat,a=n:=⟨a.toNat,by omega⟩
  have hb:=(s[i]).toNat_lt;have p:=ade (s[i]).toNat (by omega);have q:=dn (n:=(((s[i]).toNat%128:Nat):Int)) (by omega) (by omega);have H:=wrap64 (n:=7*(i:Int)) (by omega) (by omega);have I:=wrap64 (n:=(i:Int)+1) (by omega) (by omega);have J:s.drop i=s[i]::s.drop (i+1):=dF d;obtain⟨j,o⟩:∃j,10-i=j+1:=⟨10-i-1,by omega⟩
  have x:10-(i+1)=j:=by omega
  have L:(7*(i:Int))=((7*i:Nat):Int):=by omega
  have y:s.getD i 0=s[i]:=by simp[List.getD,d]
  by_cases hc:128<=(s[i]).toNat
  ·have f:((128:Int)<=((s[i]).toNat:Int)):=by omega
   have step:∃V:Int,(i+1<=9->0<=V/\V<((128^(i+1):Nat):Int)/\V=n+(((s[i]).toNat%128*128^i:Nat):Int))/\(∃S,oW .shl .u64 ((((s[i]).toNat%128:Nat)):Int) (7*(i:Int))=some (.i .u64 S)/\gG .or .u64 (n:Int) S=some (.i .u64 V)):=by
    rcases vP i 9 with h1|h1
    ·have r:=aje ((s[i]).toNat%128) i (by omega) (by omega) (by omega);have Y:(s[i]).toNat%128*128^i<=127*128^i:=vS _ (by omega);have z:128^(i+1)=128*128^i:=by rw[EG,CS]
     have N:(128:Nat)^i<=128^8:=J7 (by omega) (by omega);have l:=orI n ((s[i]).toNat%128) (7*i) (by rw[<-Mc];omega) (by rw[<-Mc];omega);rw[<-Mc]at l;refine⟨_,λ_=>⟨by omega,?_,rfl⟩,_,by rw[L];exact r,by rw[l];simp⟩;rw[z];omega
    ·obtain⟨S,e⟩:=ajf ((((s[i]).toNat%128:Nat)):Int) (7*(i:Int)) (by omega);obtain⟨V,b⟩:=or_some (n:Int) S;exact⟨V,λh=>by omega,S,e,b⟩
   obtain⟨V,b,S,e,A⟩:=step;have Z:TT.lim 222 [.s s,.i .u64 V,.i .i64 ((min s.length 10:Nat):Int),.i .i64 ((i:Int)+1)]=_:=getLoop s W m (i+1) V (by omega) (λh=>⟨(b h).1,(b h).2.1⟩);have c:Dv s n i=Dv s V (i+1):=by
    unfold Dv;rw[J,o,x];have g:kD (j+1) (s[i]::s.drop (i+1))=(kD j (s.drop (i+1))).map (· +1):=by
     show(if(s[i]).toNat<128 then _ else _)=_
     rw[ah (by omega)]
    rw[g];cases hx:kD j (s.drop (i+1))with
    |none=>rfl
    |some k=>
     obtain⟨t,u,_,_⟩:=Qy hx;have B:=b (by omega);have D:i+(k+1)=i+1+k:=by omega
     simp only[gB,D];split
     ·rfl
     ·have E:(n:Int)+((128^i*iR ((s[i]::s.drop (i+1)).take (k+1)):Nat):Int)=V+((128^(i+1)*iR ((s.drop (i+1)).take k):Nat):Int):=by
       rw[B.2.2,AA];have:128^i*iR (s[i]::(s.drop (i+1)).take k)=(s[i]).toNat%128*128^i+128^(i+1)*iR ((s.drop (i+1)).take k):=by
        show 128^i*((s[i]).toNat%128+128*iR _)=_
        rw[Xd,EG,Xe,CS (128^i) ((s[i]).toNat%128)]
       rw[this];omega
      rw[E]
   rw[c];generalize Dv s V (i+1)=O at *;generalize((min s.length 10:Nat):Int)=M at *;have em:(((s[i]).toNat%128:Nat):Int)=((s[i]).toNat:Int)%128:=by omega
   rw[em]at p q e;refine au rfl rfl ?_;simp[h,d,f,p,q,H,I,e,A,Z]
  ·have f:¬((128:Int)<=((s[i]).toNat:Int)):=by omega
   have g:kD (j+1) (s[i]::s.drop (i+1))=some 1:=by
    show(if(s[i]).toNat<128 then _ else _)=_
    rw[aj (by omega)]
   have c:Dv s n i=if qM (i+1) (s[i]).toNat≠0 then[.i .i64 0,.i .u64 0,.i .i64 0,.i .i64 (qM (i+1) (s[i]).toNat)]else[.i .i64 0,.i .u64 ((n+(s[i]).toNat*128^i:Nat):Int),.i .i64 ((i:Int)+1),.i .i64 0]:=by
    unfold Dv;rw[J,o,g];have D:i+1-1=i:=by omega
    have E:128^i*iR ((s[i]::s.drop (i+1)).take 1)=(s[i]).toNat*128^i:=by simp only[AA,QS,iR];rw[NG (by omega),CS];simp
    simp only[D,y,E];congr 1
   rw[c];have step:∃S V,oW .shl .u64 ((((s[i]).toNat%128:Nat)):Int) (7*(i:Int))=some (.i .u64 S)/\gG .or .u64 (n:Int) S=some (.i .u64 V)/\(qM (i+1) (s[i]).toNat=0->V=((n+(s[i]).toNat*128^i:Nat):Int)):=by
    by_cases P:i=9/\1<(s[i]).toNat
    ·obtain⟨S,e⟩:=ajf ((((s[i]).toNat%128:Nat)):Int) (7*(i:Int)) (by omega);obtain⟨V,b⟩:=or_some (n:Int) S;refine⟨S,V,e,b,λh=>?_⟩;unfold qM at h;rw[aj (by omega)]at h;cases h
    ·have r:=aje ((s[i]).toNat%128) i (by omega) (by omega) (by omega);have em:(s[i]).toNat%128=(s[i]).toNat:=NG (by omega);rw[em]at r;have Y:(s[i]).toNat*128^i<=127*128^i:=vS _ (by omega);have Q:n+(s[i]).toNat*128^i<18446744073709551616:=by
      rcases vP i 9 with h1|h1
      ·have N:(128:Nat)^i<=128^8:=J7 (by omega) (by omega);omega
      ·have F:i=9:=by omega
       have h1:(s[i]).toNat<=1:=by omega
       have N:(128:Nat)^i=128^9:=by rw[F]
       have aa:(s[i]).toNat*128^i<=1*128^i:=vS _ h1;omega
     have l:=orI n (s[i]).toNat (7*i) (by rw[<-Mc];omega) (by rw[<-Mc];omega);rw[<-Mc]at l;exact⟨_,_,by rw[L,em];exact r,l,λ_=>rfl⟩
   obtain⟨S,V,e,A,b⟩:=step;generalize((n+(s[i]).toNat*128^i:Nat):Int)=R at *;generalize((min s.length 10:Nat):Int)=M at *;have bd:qM (i+1) (s[i]).toNat=if(i:Int)=9/\(1:Int)<((s[i]).toNat:Int)then 3 else if(0:Int)<(i:Int)/\((s[i]).toNat:Int)=0 then 2 else 0:=by
    unfold qM;congr 1
    ·apply propext;omega
    ·congr 1;apply propext;omega
   rw[bd]at b⊢;have em:(((s[i]).toNat%128:Nat):Int)=((s[i]).toNat:Int)%128:=by omega
   rw[em]at p q e;refine au rfl rfl ?_
   rcases(zh ((i:Int)=9)).imp eq_true eq_false with t|t<;>rcases(zh ((1:Int)<((s[i]).toNat:Int))).imp eq_true eq_false with u|u<;>
    rcases(zh ((0:Int)<(i:Int))).imp eq_true eq_false with v|v<;>rcases(zh (((s[i]).toNat:Int)=0)).imp eq_true eq_false with w|w
   all_goals
    have T:(0<i)=((0:Int)<(i:Int)):=propext (by omega);have U:((s[i]).toNat=0)=(((s[i]).toNat:Int)=0):=propext (by omega);rw[v]at T;rw[w]at U;simp only[t,u,v,w,and_self,and_true,and_false,false_and,true_and,if_true,if_false]at b⊢;first
    |(have b:=b trivial;subst b)
    |skip
    simp[h,d,f,p,q,H,I,e,A,t,u,v,w,T,U]
def wO(s:Q0)(f:s.length<=140737488351232):TT.lim 221 [.s s]=some [.i .u64 ((ay s).1:Nat),.i .i64 ((ay s).2.1:Nat),.i .i64 (ay s).2.2]:=by
 have k:TT.lim 222 [.s s,.i .u64 0,.i .i64 ((min s.length 10:Nat):Int),.i .i64 0]=_:=getLoop s f (min s.length 10) 0 0 (by omega) (by simp);have b:(if(10:Int)<(s.length:Int)then(10:Int)else(s.length:Int))=((min s.length 10:Nat):Int):=by split<;>omega
 unfold Dv at k;rw[bK,AO]at k;unfold ay;generalize((min s.length 10:Nat):Int)=M at *;refine aG rfl rfl ?_ rfl;cases d:kD 10 s with
 |none=>
  rw[d]at k;by_cases a:10<=s.length
  ·have c:(10:Int)<=s.length:=by omega
   simp[b,k,a,c]
  ·have c:¬(10:Int)<=s.length:=by omega
   simp[b,k,a,c]
 |some j=>
  rw[d]at k;simp only[jQ,Nat.pow_zero,Hq,Nv]at k;by_cases e:qM j (s.getD (j-1) 0).toNat=0
  ·simp only[e,ne_eq,not_true_eq_false,if_false]at k⊢;simp[b,k]
  ·simp only[e,ne_eq,not_false_eq_true,if_true]at k⊢;simp[b,k]
def aym(s:Q0)(k i:Int)(h:¬k=0)(h0:0<=i):TT.lim 283 [.s s,.i .i64 k,.i .i64 i]=some [.i .i64 0,.s s,.i .i64 k]:=by refine au rfl rfl ?_;by_cases a:i<s.length<;>by_cases b:i<10<;>simp[h,a,b]
def aiE(s:Q0)(o:s.length<=140737488351232):∀m i:Nat,i+m=min s.length 10->
 TT.lim 283 [.s s,.i .i64 0,.i .i64 i]=some [.i .i64 0,.s s,.i .i64 ((match kD (10-i) (s.drop i)with|none=>0|some k=>i+k:Nat):Int)]
 |0,i,hi=>by
  have c:kD (10-i) (s.drop i)=none:=by
   rcases vP i 10 with h1|h1
   ·have:s.drop i=[]:=cO (by omega);rw[this];obtain⟨j,e⟩:∃j,10-i=j+1:=⟨10-i-1,by omega⟩
    rw[e];rfl
   ·have:10-i=0:=by omega
    rw[this];unfold kD;rfl
  rw[c];refine au rfl rfl ?_;by_cases h1:(i:Int)<s.length
  ·have d:¬(i:Int)<10:=by omega
   simp[h1,d]
  ·simp[h1]
 |m+1,i,hi=>by
  have a:i<s.length:=by omega
  have h1:(i:Int)<s.length:=by omega
  have d:(i:Int)<10:=by omega
  have g:=wrap64 (n:=(i:Int)+1) (by omega) (by omega);have p:s.drop i=s[i]::s.drop (i+1):=dF a;obtain⟨j,e⟩:∃j,10-i=j+1:=⟨10-i-1,by omega⟩
  have f:10-(i+1)=j:=by omega
  rw[p,e];by_cases h:(s[i]).toNat<128
  ·have b:((s[i]).toNat:Int)<128:=by omega
   have c:kD (j+1) (s[i]::s.drop (i+1))=some 1:=by
    show(if(s[i]).toNat<128 then _ else _)=_
    rw[aj h]
   rw[c];have k:=aym s ((i:Int)+1) ((i:Int)+1) (by omega) (by omega);refine au rfl rfl ?_;simp[h1,d,a,b,g,k]
  ·have b:¬((s[i]).toNat:Int)<128:=by omega
   have c:kD (j+1) (s[i]::s.drop (i+1))=(kD j (s.drop (i+1))).map (· +1):=by
    show(if(s[i]).toNat<128 then _ else _)=_
    rw[ah h]
   rw[c];have l:TT.lim 283 [.s s,.i .i64 0,.i .i64 ((i:Int)+1)]=_:=aiE s o m (i+1) (by omega);rw[f]at l;have q:(match(kD j (s.drop (i+1))).map (· +1)with|none=>0|some k=>i+k:Nat)=(match kD j (s.drop (i+1))with|none=>0|some k=>i+1+k:Nat):=by
    cases kD j (s.drop (i+1))with
    |none=>rfl
    |some k=>simp;omega
   rw[q];generalize(match kD j (s.drop (i+1))with|none=>0|some k=>i+1+k:Nat)=R at *;refine au rfl rfl ?_;simp[h1,d,a,b,g,l]
def aiF(s:Q0)(K:Nat)(g:K<=10)(j:K<=s.length):∀(m i a:Nat)(p:Int),i+m=K->(i<=9->p=((128^i:Nat):Int))->a+128^i*iR ((s.drop i).take m)<18446744073709551616->
 TT.lim 284 [.s s,.i .i64 K,.i .u64 a,.i .u64 p,.i .i64 i]=some [.i .i64 0,.i .i64 K,.i .u64 ((a+128^i*iR ((s.drop i).take m):Nat):Int)]
 |0,i,a,p,hi,c,d=>by
  have h:¬((i:Int)<(K:Int)):=by omega
  refine au rfl rfl ?_;simp[h,iR]
 |m+1,i,a,p,hi,c,d=>by
  have b:i<s.length:=by omega
  have h:((i:Int)<(K:Int)):=by omega
  have c:=c (by omega);subst c;have k:s.drop i=s[i]::s.drop (i+1):=dF b;have e:128^i*iR ((s.drop i).take (m+1))=(s[i]).toNat%128*128^i+128^(i+1)*iR ((s.drop (i+1)).take m):=by
   rw[k,AA];show 128^i*((s[i]).toNat%128+128*iR _)=_
   rw[Xd,EG,Xe,CS (128^i) ((s[i]).toNat%128)]
  rw[e]at d⊢;have l:=(s[i]).toNat_lt;have o:=wrap64 (n:=(i:Int)+1) (by omega) (by omega)
  have f:TT.lim 284 [.s s,.i .i64 K,.i .u64 ((a+(s[i]).toNat%128*128^i:Nat):Int),.i .u64 (IntKind.u64.wrap (((128^i:Nat):Int)*128)),.i .i64 ((i:Int)+1)]=_:=
   aiF s K g j m (i+1) (a+(s[i]).toNat%128*128^i) _ (by omega) (λw=>by have x:(128:Nat)^i<=128^8:=J7 (by omega) (by omega);have y:(0:Int)<=((128^i:Nat):Int):=Int.natCast_nonneg _;have:=dn (n:=((128^i:Nat):Int)*128) (by omega) (by omega);rw[this,EG];simp) (by omega)
  have em:((s[i]).toNat:Int).tmod 128=(((s[i]).toNat%128:Nat):Int):=by rw[QI (by omega)];omega
  have q:=dn (n:=(((s[i]).toNat%128:Nat):Int)) (by omega) (by omega);have r:(s[i]).toNat%128*128^i<18446744073709551616:=by omega
  have t:IntKind.u64.wrap ((((s[i]).toNat%128:Nat):Int)*((128^i:Nat):Int))=(((s[i]).toNat%128*128^i:Nat):Int):=by rw[<-Int.natCast_mul,dn (by omega) (by omega)]
  have u:IntKind.u64.wrap ((a:Int)+(((s[i]).toNat%128*128^i:Nat):Int))=((a+(s[i]).toNat%128*128^i:Nat):Int):=by rw[<-Int.natCast_add,dn (by omega) (by omega)]
  rw[jH]at f;generalize a+((s[i]).toNat%128*128^i+128^(i+1)*iR ((s.drop (i+1)).take m))=v at *;generalize((a+(s[i]).toNat%128*128^i:Nat):Int)=A at *;generalize(((s[i]).toNat%128*128^i:Nat):Int)=B at *;generalize(((s[i]).toNat%128:Nat):Int)=C at *;generalize((128^i:Nat):Int)=Q at *;refine au rfl rfl ?_;simp[h,b,em,q,t,u,o,f]
def Eb(s:Q0)(L:s.length<=140737488351232):TT.lim 282 [.s s]=some [.i .u64 ((ay s).1:Nat),.i .i64 ((ay s).2.1:Nat),.i .i64 (ay s).2.2]:=by
 have k:TT.lim 283 [.s s,.i .i64 0,.i .i64 0]=_:=aiE s L (min s.length 10) 0 (by omega);rw[bK,AO]at k;unfold ay;refine aG rfl rfl ?_ rfl;cases w:kD 10 s with
 |none=>
  rw[w]at k;have k:TT.lim 283 [.s s,.i .i64 0,.i .i64 0]=some [.i .i64 0,.s s,.i .i64 0]:=k;by_cases i:10<=s.length
  ·have l:(10:Int)<=s.length:=by omega
   simp[k,i,l]
  ·have l:¬(10:Int)<=s.length:=by omega
   simp[k,i,l]
 |some K=>
  rw[w]at k;obtain⟨W,M,N,O⟩:=Qy w;simp only[jQ]at k;have m:s.getD (K-1) 0=s[K-1]'(by omega):=by simp[List.getD,show K-1<s.length by omega]
  rw[m]at O;simp only[m];have f:s[K-1]? =some (s[K-1]'(by omega)):=bP (by omega);have x:¬((K:Int)=0):=by omega
  have y:¬(K=0):=by omega
  have z:(1:Int)<=(K:Int):=by omega
  have A:1<=K:=by omega
  have P:=wrap64 (n:=(K:Int)-1) (by omega) (by omega);have B:((K:Int)-1).toNat=K-1:=by omega
  have D:(0:Int)<=(K:Int)-1:=by omega
  have d:qM K (s[K-1]'(by omega)).toNat=0->TT.lim 284 [.s s,.i .i64 K,.i .u64 0,.i .u64 1,.i .i64 0]=some [.i .i64 0,.i .i64 K,.i .u64 ((iR (s.take K):Nat):Int)]:=by
   intro g;have E:iR (s.take K)<18446744073709551616:=by
    have l:iR (s.take K)=iR (s.take (K-1))+128^(K-1)*((s[K-1]'(by omega)).toNat%128):=by
     have:∀(a:Q0)(b:UInt8),iR (a++[b])=iR a+128^a.length*(b.toNat%128):=by
      intro a b;induction a with
      |nil=>simp[iR]
      |cons c a Q=>simp only[bJ,iR,Q,jw,EG,Xd,jH];rw[CS (128^a.length) 128,Xe]
     have e:s.take K=s.take (K-1)++[s[K-1]'(by omega)]:=by
      obtain⟨j,rfl⟩:∃j,K=j+1:=⟨K-1,by omega⟩
      simp
     rw[e,this,kN,Ho (by omega)]
    have S:=ab5 (s.take (K-1));rw[kN,Ho (by omega)]at S;rw[l];rcases vP K 10 with T|T
    ·have U:(128:Nat)^(K-1)<=128^8:=J7 (by omega) (by omega);have F:128^(K-1)*((s[K-1]'(by omega)).toNat%128)<=128^(K-1)*127:=NH _ (by omega);omega
    ·have o:K=10:=by omega
     have V:(s[K-1]'(by omega)).toNat<=1:=by
      unfold qM at g;split at g
      ·cases g
      ·next h=>omega
     have U:(128:Nat)^(K-1)=128^9:=by rw[o]
     have F:128^(K-1)*((s[K-1]'(by omega)).toNat%128)<=128^(K-1)*1:=NH _ (by omega);omega
   have:=aiF s K M N K 0 0 1 (by omega) (λ_=>rfl) (by simpa using E);simpa using this
  have H:qM K (s[K-1]'(by omega)).toNat=if(K:Int)=10/\(1:Int)<((s[K-1]'(by omega)).toNat:Int)then 3 else if(1:Int)<(K:Int)/\((s[K-1]'(by omega)).toNat:Int)=0 then 2 else 0:=by
   unfold qM;congr 1
   ·apply propext;omega
   ·congr 1;apply propext;omega
  have q:(K:Int)=10->s[9]? =some (s[K-1]'(by omega)):=by
   intro h;have:K-1=9:=by omega
   rw[<-this];exact f
  obtain⟨b,G⟩:∃b,s[K-1]'(by omega)=b:=⟨_,rfl⟩
  simp only[G]at d H q f⊢;rw[H]at d⊢
  rcases(zh ((K:Int)=10)).imp eq_true eq_false with r|r<;>rcases(zh ((1:Int)<(b.toNat:Int))).imp eq_true eq_false with t|t<;>
   rcases(zh ((1:Int)<(K:Int))).imp eq_true eq_false with u|u<;>rcases(zh ((b.toNat:Int)=0)).imp eq_true eq_false with v|v
  all_goals
   have p:(1<b.toNat)=((1:Int)<(b.toNat:Int)):=propext (by omega);have I:(1<K)=((1:Int)<(K:Int)):=propext (by omega);have J:(b.toNat=0)=((b.toNat:Int)=0):=propext (by omega);rw[t]at p;rw[u]at I;rw[v]at J;simp only[r,t,u,v,and_self,and_true,and_false,false_and,true_and,if_true,if_false,ne_eq,not_true_eq_false,not_false_eq_true]at d⊢;first
   |(have d:=d trivial)
   |skip
   first
   |(have q:=q (of_eq_true r))
   |skip
   simp[k,x,y,z,A,P,B,D,f,q,d,r,t,u,v,p,I,J]
def aCL(a:Q0)(b:UInt8):iR (a++[b])=iR a+128^a.length*(b.toNat%128):=by
 induction a with
 |nil=>simp[iR]
 |cons c a d=>simp only[bJ,iR,d,jw,EG,Xd,jH];rw[CS (128^a.length) 128,Xe]
def aia:∀(j k:Nat)(s:Q0),kD j s=some k->(1<k->(s.getD (k-1) 0)≠0)->aV (iR (s.take k))=s.take k/\(1<k\/s.getD (k-1) 0≠0->iR (s.take k)≠0)
 |0,k,s,h,_=>by simp[kD]at h
 |j+1,k,[],h,_=>by simp[kD]at h
 |j+1,k,b::r,h,g=>by
  unfold kD at h;split at h
  ·next d=>
   cases h;simp only[AA,QS,iR,Nat.mul_zero,lD];rw[NG d];refine⟨by rw[Cj d];simp,λc=>?_⟩;rcases c with c|c
   ·omega
   ·intro e;apply c;simp only[AL,List.getD_cons_zero];exact Q5.1 (by simpa using e)
  ·next d=>
   obtain⟨i,hi,rfl⟩:=bg.1 h;obtain⟨q,t,u,v⟩:=Qy hi;obtain⟨l,rfl⟩:∃l,i=l+1:=⟨i-1,by omega⟩
   have a:r.getD l 0≠0:=by have:=g (by omega);simpa using this
   obtain⟨m,f⟩:=aia j (l+1) r hi (λ_=>by simpa using a);have f:=f (.inr (by simpa using a));have n:=b.toNat_lt;rw[AA];simp only[iR];refine⟨?_,λ_=>by omega⟩;rw[Ey (by omega)];have o:(b.toNat%128+128*iR (r.take (l+1)))%128+128=b.toNat:=by omega
   have p:(b.toNat%128+128*iR (r.take (l+1)))/128=iR (r.take (l+1)):=by omega
   rw[o,p,m];simp
structure VOk(s:Q0)(n k:Nat):Prop where
 pos:1<=k
 ten:k<=10
 len:k<=s.length
 lt:n<18446744073709551616
 put:aV n=s.take k
def iQ{s:Q0}(h:(ay s).2.2=0):VOk s (ay s).1 (ay s).2.1:=by
 unfold ay at h⊢;cases c:kD 10 s with
 |none=>rw[c]at h;simp only at h;split at h<;>cases h
 |some k=>
  rw[c]at h;simp only at h⊢;obtain⟨g,i,l,r⟩:=Qy c;by_cases a:qM k (s.getD (k-1) 0).toNat=0
  ·simp only[a,ne_eq,not_true_eq_false,if_false];have m:1<k->s.getD (k-1) 0≠0:=by
    intro n d;unfold qM at a;rw[d]at a;split at a
    ·cases a
    ·rw[aj ⟨n,rfl⟩]at a;cases a
   refine⟨g,i,l,?_,(aia 10 k s c m).1⟩;have e:s.take k=s.take (k-1)++[s.getD (k-1) 0]:=by
    obtain⟨j,rfl⟩:∃j,k=j+1:=⟨k-1,by omega⟩
    have:j<s.length:=by omega
    simp[List.getD,this]
   have d:=ab5 (s.take (k-1));rw[e,aCL,kN,Ho (by omega)];rw[kN,Ho (by omega)]at d;rcases vP k 10 with o|o
   ·have p:(128:Nat)^(k-1)<=128^8:=J7 (by omega) (by omega);have f:128^(k-1)*((s.getD (k-1) 0).toNat%128)<=128^(k-1)*127:=NH _ (by omega);omega
   ·have b:k=10:=by omega
    have q:(s.getD (k-1) 0).toNat<=1:=by
     unfold qM at a;split at a
     ·cases a
     ·next h=>omega
    have p:(128:Nat)^(k-1)=128^9:=by rw[b]
    have f:128^(k-1)*((s.getD (k-1) 0).toNat%128)<=128^(k-1)*1:=NH _ (by omega);omega
  ·simp only[a,ne_eq,not_false_eq_true,if_true]at h
def GZ{s:Q0}(h:(ay s).2.2≠0):(ay s).1=0/\(ay s).2.1=0:=by
 unfold ay at h⊢;cases b:kD 10 s with
 |none=>exact⟨rfl,rfl⟩
 |some k=>
  rw[b]at h;simp only at h⊢;by_cases a:qM k (s.getD (k-1) 0).toNat=0
  ·simp only[a,ne_eq,not_true_eq_false,if_false]at h
  ·simp only[a,ne_eq,not_false_eq_true,if_true];exact⟨trivial,trivial⟩
def Ci(t:Q0)(a:Nat)(h:a<=t.length)(v:t.length<=140737488351232):
 TT.lim 227 [.s t,.i .i64 a]=some [.i .i64 0,.i .u64 ((ay (t.drop a)).1:Nat),.i .i64 (ay (t.drop a)).2.2,.s t,.i .i64 ((a+(ay (t.drop a)).2.1:Nat):Int)]:=by
 have k:=wO (t.drop a) (by rw[dH];omega);have c:(t.take t.length).drop a=t.drop a:=by rw[pq]
 have d:(a:Int)<=t.length:=by omega
 refine au rfl rfl ?_;by_cases b:(ay (t.drop a)).2.2=0
 ·have f:=iQ b;have g:=f.len;have i:=f.ten;rw[dH]at g;generalize(ay (t.drop a)).1=n at *;generalize(ay (t.drop a)).2.1=j at *;generalize(ay (t.drop a)).2.2=e at *;have w1:=dn (n:=(j:Int)) (by omega) (by omega);have l:=wrap64 (n:=(t.length:Int)-(a:Int)) (by omega) (by omega);have m:=dn (n:=(t.length:Int)-(a:Int)) (by omega) (by omega);have o:=wrap64 (n:=(j:Int)) (by omega) (by omega);have p:=wrap64 (n:=(a:Int)+(j:Int)) (by omega) (by omega);have q:¬((t.length:Int)-(a:Int)<(j:Int)):=by omega
  have r:(a:Int)<=(a:Int)+(j:Int)/\(a:Int)+(j:Int)<=t.length:=by omega
  subst b;simp[c,d,k,w1,l,m,o,p,q,r]
 ·obtain⟨s,u⟩:=GZ b;rw[s,u]at k⊢;generalize(ay (t.drop a)).2.2=e at *;simp[c,d,k,b]
def iM(e:Int):Q0×Nat×Int:=([],0,e)
def aY(s a0:Q0)(first:Bool):Q0×Nat×Int:=
 let a:=if first=true then[]else a0
 let v:=ay s
 if v.2.2≠0 then iM v.2.2 else
 if a.length<v.1 then iM 23 else
 let b:=ay (s.drop v.2.1)
 if b.2.2≠0 then iM b.2.2 else
 if s.length-(v.2.1+b.2.1)<b.1 then iM 1 else
 let t:=a.take v.1++(s.drop (v.2.1+b.2.1)).take b.1
 if first=false/\Op.bytesLess a t=false then iM 7 else
 if v.1<common a t then iM 23 else(t,v.2.1+b.2.1+b.1,0)
def auJ(a t:Q0):(Op.bytesLess t a ||t==a) = !(Op.bytesLess a t):=by
 rw[Ic,Ic,qN];simp only[mY,decide_eq_true_iff,beq_iff_eq,zf,decide_eq_false_iff_not];constructor
 ·rintro(h|h) b
  ·exact mJ _ (vM h b)
  ·subst h;exact mJ _ b
 ·intro h;by_cases c:t<a
  ·exact .inl c
  ·exact .inr (QK (xF.1 h) (xF.1 c))
def Yb:∀(k:Nat)(a x:Q0),k<=a.length->k<=common a (a.take k++x)
 |0,a,x,h=>by omega
 |k+1,[],x,h=>by simp at h
 |k+1,b::a,x,h=>by rw[AA,bJ];unfold common;rw[aj rfl];have:=Yb k a x (by simpa using h);omega
def axe(t a:Q0)(first:Bool)(b:Nat)(h:b<=t.length)(ht:t.length<=100000000)(ha:a.length<=100000000):
 ∃at2:Nat,TT.lim 251 [.s t,.i .i64 b,.s a,.b first]=some [.i .i64 0,.s (aY (t.drop b) a first).1,.i .i64 (aY (t.drop b) a first).2.2,.s t,.i .i64 at2]/\
  ((aY (t.drop b) a first).2.2=0->at2=b+(aY (t.drop b) a first).2.1):=by
 have f:=Ci t b h (by omega);by_cases u:(ay (t.drop b)).2.2=0;rotate_left
 ·obtain⟨e1,E⟩:=GZ u;have w:aY (t.drop b) a first=iM (ay (t.drop b)).2.2:=by unfold aY;simp only;rw[aj u]
  rw[e1,E]at f;rw[w];clear e1 E w;generalize(ay (t.drop b)).2.2=e at *;refine⟨b,au rfl rfl ?_,λh=>absurd h u⟩;cases first<;>simp[f,u,iM]
 have T:=iQ u;have hl:=T.len;have aa:=T.lt;have ab:=T.ten;rw[dH]at hl
 have p:∀x:Q0,x=(if first=true then[]else a)->aY (t.drop b) a first=(if x.length<(ay (t.drop b)).1 then iM 23 else
  if(ay (t.drop (b+(ay (t.drop b)).2.1))).2.2≠0 then iM (ay (t.drop (b+(ay (t.drop b)).2.1))).2.2 else
  if(t.length-b)-((ay (t.drop b)).2.1+(ay (t.drop (b+(ay (t.drop b)).2.1))).2.1)<(ay (t.drop (b+(ay (t.drop b)).2.1))).1 then iM 1 else
  if first=false/\Op.bytesLess x (x.take (ay (t.drop b)).1++(t.drop (b+((ay (t.drop b)).2.1+(ay (t.drop (b+(ay (t.drop b)).2.1))).2.1))).take (ay (t.drop (b+(ay (t.drop b)).2.1))).1)=false then iM 7 else
  if(ay (t.drop b)).1<common x (x.take (ay (t.drop b)).1++(t.drop (b+((ay (t.drop b)).2.1+(ay (t.drop (b+(ay (t.drop b)).2.1))).2.1))).take (ay (t.drop (b+(ay (t.drop b)).2.1))).1)then iM 23 else
  (x.take (ay (t.drop b)).1++(t.drop (b+((ay (t.drop b)).2.1+(ay (t.drop (b+(ay (t.drop b)).2.1))).2.1))).take (ay (t.drop (b+(ay (t.drop b)).2.1))).1,(ay (t.drop b)).2.1+(ay (t.drop (b+(ay (t.drop b)).2.1))).2.1+(ay (t.drop (b+(ay (t.drop b)).2.1))).1,0)):=by
  intro x U;unfold aY;simp only[nP,dH,<-U,u,ne_eq,not_true_eq_false,if_false]
 rw[u]at f;have q:=Ci t (b+(ay (t.drop b)).2.1) (by omega) (by omega);have F:=λh=>iQ (s:=t.drop (b+(ay (t.drop b)).2.1)) h;have G:=λh=>GZ (s:=t.drop (b+(ay (t.drop b)).2.1)) h;generalize V:ay (t.drop b)=v at *;obtain⟨n,i,e⟩:=v;simp only at *;generalize W:ay (t.drop (b+i))=v2 at *;obtain⟨m,j,E⟩:=v2;simp only at *;clear V W T;subst u;simp only[Int.natCast_add]at f q;cases first with
 |true=>
  have w:=p [] rfl;rw[w];clear w p;by_cases k:0<n
  ·have c:(0:Int)<n:=by omega
   rw[aj (by simpa using k)];refine⟨b+i,au rfl rfl ?_,λh=>by cases h⟩;simp[f,k,c,iM]
  have c:¬(0:Int)<n:=by omega
  rw[ah (by simpa using k)];by_cases l:E=0;rotate_left
  ·obtain⟨H,I⟩:=G l;subst H;subst I;rw[aj l];refine⟨b+i,au rfl rfl ?_,λh=>absurd h l⟩;simp[f,q,k,c,l,iM]
  subst l;obtain⟨H,I,Y,q4,_⟩:=F rfl;rw[dH]at Y;rw[ah (by simp)];have y:=wrap64 (n:=(t.length:Int)-((b:Int)+(i:Int)+(j:Int))) (by omega) (by omega);have z:=dn (n:=(t.length:Int)-((b:Int)+(i:Int)+(j:Int))) (by omega) (by omega);by_cases J:t.length-b-(i+j)<m
  ·have d:(t.length:Int)-((b:Int)+(i:Int)+(j:Int))<(m:Int):=by omega
   rw[aj J];refine⟨b+i+j,au rfl rfl ?_,λh=>by cases h⟩;simp[f,q,k,c,y,z,d,iM]
  have d:¬(t.length:Int)-((b:Int)+(i:Int)+(j:Int))<(m:Int):=by omega
  rw[ah J,ah (by simp)];have n0:n=0:=by omega
  subst n0;have hc:common [] ([]++(t.drop (b+(i+j))).take m)=0:=SV _;have L:=wrap64 (n:=(m:Int)) (by omega) (by omega);have M:=wrap64 (n:=(b:Int)+(i:Int)+(j:Int)+(m:Int)) (by omega) (by omega);have w0:=wrap64 (n:=(0:Int)) (by omega) (by omega);have N:((t.take (b+i+j+m)).drop (b+i+j))=(t.drop (b+(i+j))).take m:=by rw[<-jH,Aw];congr 1;omega
  have kc:=X9 [] ((t.drop (b+(i+j))).take m) (by simp) (by simp;omega);rw[SV]at kc;have O:(b:Int)+(i:Int)+(j:Int)<=(b:Int)+(i:Int)+(j:Int)+(m:Int)/\(b:Int)+(i:Int)+(j:Int)+(m:Int)<=t.length:=by omega
  have P:(0:Int)<=(b:Int)+(i:Int)+(j:Int):=by omega
  have Q:((b:Int)+(i:Int)+(j:Int)+(m:Int)).toNat=b+i+j+m:=by omega
  have S:((b:Int)+(i:Int)+(j:Int)).toNat=b+i+j:=by omega
  rw[List.take_nil,ah (by rw[hc];omega)];have o:(((t.drop (b+(i+j))).take m).length:Int)<=9223372036854775807:=by
   have:((t.drop (b+(i+j))).take m).length<=t.length:=by rw[kN,dH];omega
   omega
  refine⟨b+i+j+m,au rfl rfl ?_,λ_=>by simp only;omega⟩;rw[aW];generalize(t.drop (b+(i+j))).take m=X at *;simp[f,q,w0,y,z,L,M,d,O,P,Q,S,N,kc,o]
 |false=>
  have w:=p a rfl;rw[w];clear w p;have B:=dn (n:=(a.length:Int)) (by omega) (by omega);by_cases k:a.length<n
  ·have c:(a.length:Int)<n:=by omega
   rw[aj k];refine⟨b+i,au rfl rfl ?_,λh=>by cases h⟩;simp[f,k,c,B,iM]
  have c:¬(a.length:Int)<n:=by omega
  rw[ah k];by_cases l:E=0;rotate_left
  ·obtain⟨H,I⟩:=G l;subst H;subst I;rw[aj l];refine⟨b+i,au rfl rfl ?_,λh=>absurd h l⟩;simp[f,q,k,c,l,B,iM]
  subst l;obtain⟨H,I,Y,q4,_⟩:=F rfl;rw[dH]at Y;rw[ah (by simp)];have y:=wrap64 (n:=(t.length:Int)-((b:Int)+(i:Int)+(j:Int))) (by omega) (by omega);have z:=dn (n:=(t.length:Int)-((b:Int)+(i:Int)+(j:Int))) (by omega) (by omega);by_cases J:t.length-b-(i+j)<m
  ·have d:(t.length:Int)-((b:Int)+(i:Int)+(j:Int))<(m:Int):=by omega
   rw[aj J];refine⟨b+i+j,au rfl rfl ?_,λh=>by cases h⟩;simp[f,q,k,c,y,z,d,B,iM]
  have d:¬(t.length:Int)-((b:Int)+(i:Int)+(j:Int))<(m:Int):=by omega
  rw[ah J];have L:=wrap64 (n:=(m:Int)) (by omega) (by omega);have M:=wrap64 (n:=(b:Int)+(i:Int)+(j:Int)+(m:Int)) (by omega) (by omega);have Z:=wrap64 (n:=(n:Int)) (by omega) (by omega);have N:((t.take (b+i+j+m)).drop (b+i+j))=(t.drop (b+(i+j))).take m:=by rw[<-jH,Aw];congr 1;omega
  have ac:((t.drop (b+(i+j))).take m).length<=t.length:=by rw[kN,dH];omega
  have kc:=X9 a (a.take n++(t.drop (b+(i+j))).take m) (by omega) (by rw[eX,kN];omega);have O:(b:Int)+(i:Int)+(j:Int)<=(b:Int)+(i:Int)+(j:Int)+(m:Int)/\(b:Int)+(i:Int)+(j:Int)+(m:Int)<=t.length:=by omega
  have P:(0:Int)<=(b:Int)+(i:Int)+(j:Int):=by omega
  have c6:(n:Int)<=a.length:=by omega
  have Q:((b:Int)+(i:Int)+(j:Int)+(m:Int)).toNat=b+i+j+m:=by omega
  have S:((b:Int)+(i:Int)+(j:Int)).toNat=b+i+j:=by omega
  have A:(min n a.length:Nat)=n:=by omega
  have o:(n:Int)+(((t.drop (b+(i+j))).take m).length:Int)<=9223372036854775807:=by omega
  have r:=auJ a (a.take n++(t.drop (b+(i+j))).take m);generalize(t.drop (b+(i+j))).take m=X at *;by_cases D:Op.bytesLess a (a.take n++X)=false
  ·rw[aj ⟨rfl,D⟩];rw[D]at r;refine⟨b+i+j+m,au rfl rfl ?_,λh=>by cases h⟩;have g:(Op.bytesLess (a.take n++X) a=true\/a.take n++X=a)=True:=eq_true (by simpa using r);simp[f,q,B,Z,y,z,L,M,c,d,O,P,c6,Q,S,N,o,A,g,iM]
  ·rw[ah (λh=>D h.2)];have D:Op.bytesLess a (a.take n++X)=true:=by simpa using D
   rw[D]at r;have g:(Op.bytesLess (a.take n++X) a=true\/a.take n++X=a)=False:=eq_false (by simpa using r);by_cases c8:n<common a (a.take n++X)
   ·have xQ:(n:Int)<(common a (a.take n++X):Int):=by omega
    rw[aj c8];refine⟨b+i+j+m,au rfl rfl ?_,λh=>by cases h⟩;simp[f,q,B,Z,y,z,L,M,c,d,O,P,c6,Q,S,N,o,A,g,kc,xQ,iM]
   ·have xQ:¬(n:Int)<(common a (a.take n++X):Int):=by omega
    rw[ah c8];refine⟨b+i+j+m,au rfl rfl ?_,λ_=>by simp only;omega⟩;simp[f,q,B,Z,y,z,L,M,c,d,O,P,c6,Q,S,N,o,A,g,kc,xQ]
def Ve{s a:Q0}{first:Bool}(h:(aY s a first).2.2=0):2<=(aY s a first).2.1/\(aY s a first).2.1<=s.length/\(aY s a first).1.length<=(if first=true then 0 else a.length)+(aY s a first).2.1:=by
 have b:(if first=true then 0 else a.length)=(if first=true then[]else a).length:=by cases first<;>rfl
 rw[b];clear b;unfold aY at h⊢;simp only at h⊢;generalize(if first=true then[]else a)=n at h⊢;split at h
 ·next c=>exact absurd h c
 next d=>
 rw[ah d];split at h
 ·cases h
 next i=>
 rw[ah i];split at h
 ·next c=>exact absurd h c
 next e=>
 rw[ah e];split at h
 ·cases h
 next j=>
 rw[ah j];split at h
 ·cases h
 next k=>
 rw[ah k];split at h
 ·cases h
 next l=>
 rw[ah l];have f:=iQ (s:=s) (by simpa using d);have g:=iQ (s:=s.drop (ay s).2.1) (by simpa using e);have o:=f.pos;have p:=g.pos;have q:=f.len;have m:=g.len;rw[dH]at m;refine⟨by simp only;omega,by simp only;omega,?_⟩;simp only[eX,kN,dH];omega
def ayv(s a:Q0)(first:Bool)(hs:s.length<=100000000)(ha:a.length<=100000000):
 TT.lim 300 [.s s,.s a,.b first]=some [.s (aY s a first).1,.s (if(aY s a first).2.2=0 then s.drop (aY s a first).2.1 else[]),.i .i64 (aY s a first).2.2]:=by
 have d:=Eb s (by omega);by_cases y:(ay s).2.2=0;rotate_left
 ·have l:aY s a first=iM (ay s).2.2:=by unfold aY;simp only;rw[aj y]
  rw[l];clear l;generalize(ay s).2.2=e at *;refine aG rfl (by cases first<;>rfl) ?_ (by rfl);simp[d,y,iM]
 have Q:=iQ y;have hl:=Q.len;have ab:=Q.lt;have ac:=Q.ten;have o:=Eb (s.drop (ay s).2.1) (by rw[dH];omega);have p:(s.take s.length).drop (ay s).2.1=s.drop (ay s).2.1:=by rw[pq]
 have g:∀q:Q0,q=(if first=true then[]else a)->aY s a first=(if q.length<(ay s).1 then iM 23 else
  if(ay (s.drop (ay s).2.1)).2.2≠0 then iM (ay (s.drop (ay s).2.1)).2.2 else
  if s.length-((ay s).2.1+(ay (s.drop (ay s).2.1)).2.1)<(ay (s.drop (ay s).2.1)).1 then iM 1 else
  if first=false/\Op.bytesLess q (q.take (ay s).1++(s.drop ((ay s).2.1+(ay (s.drop (ay s).2.1)).2.1)).take (ay (s.drop (ay s).2.1)).1)=false then iM 7 else
  if(ay s).1<common q (q.take (ay s).1++(s.drop ((ay s).2.1+(ay (s.drop (ay s).2.1)).2.1)).take (ay (s.drop (ay s).2.1)).1)then iM 23 else
  (q.take (ay s).1++(s.drop ((ay s).2.1+(ay (s.drop (ay s).2.1)).2.1)).take (ay (s.drop (ay s).2.1)).1,(ay s).2.1+(ay (s.drop (ay s).2.1)).2.1+(ay (s.drop (ay s).2.1)).1,0)):=by
  intro q S;unfold aY;simp only[nP,dH,<-S,y,ne_eq,not_true_eq_false,if_false]
 rw[y]at d;have B:=λh=>iQ (s:=s.drop (ay s).2.1) h;have ad:=λh=>GZ (s:=s.drop (ay s).2.1) h;generalize T:ay s=v at *;obtain⟨n,i,e⟩:=v;simp only at *;generalize U:ay (s.drop i)=v2 at *;obtain⟨m,j,e2⟩:=v2;simp only at *;clear T U Q;subst y;have r:(i:Int)<=s.length:=by omega
 have k:=dn (n:=(a.length:Int)) (by omega) (by omega);cases first with
 |true=>
  have l:=g [] rfl;rw[l];clear l g;by_cases z:n=0;rotate_left
  ·rw[aj (by simp;omega)];refine aG rfl rfl ?_ rfl;simp[d,z,iM]
  subst z;have b:¬(a.length:Int)<0:=by omega
  rw[ah (by simp)];by_cases t:e2=0;rotate_left
  ·rw[aj t];refine aG rfl rfl ?_ rfl;simp[d,o,p,r,k,b,t,iM]
  subst t;obtain⟨q1,q2,V,q4,_⟩:=B rfl;rw[dH]at V;rw[ah (by simp)];have w1:=wrap64 (n:=(i:Int)+(j:Int)) (by omega) (by omega);have u:=wrap64 (n:=(s.length:Int)-((i:Int)+(j:Int))) (by omega) (by omega);have w:=dn (n:=(s.length:Int)-((i:Int)+(j:Int))) (by omega) (by omega);by_cases D:s.length-(i+j)<m
  ·have c:(s.length:Int)-((i:Int)+(j:Int))<(m:Int):=by omega
   rw[aj D];refine aG rfl rfl ?_ rfl;simp[d,o,p,r,k,b,w1,u,w,c,iM]
  have c:¬(s.length:Int)-((i:Int)+(j:Int))<(m:Int):=by omega
  rw[ah D,ah (by simp)];have hc:common [] ([]++(s.drop (i+j)).take m)=0:=SV _;have E:=wrap64 (n:=(m:Int)) (by omega) (by omega);have F:=wrap64 (n:=(i:Int)+(j:Int)+(m:Int)) (by omega) (by omega);have w0:=wrap64 (n:=(0:Int)) (by omega) (by omega);have G:((s.take (i+j+m)).drop (i+j))=(s.drop (i+j)).take m:=by rw[Aw];congr 1;omega
  have H:((s.take s.length).drop (i+j+m))=s.drop (i+j+m):=by rw[pq]
  have I:(i:Int)+(j:Int)<=(i:Int)+(j:Int)+(m:Int)/\(i:Int)+(j:Int)+(m:Int)<=s.length:=by omega
  have J:(0:Int)<=(i:Int)+(j:Int):=by omega
  have L:(0:Int)<=(i:Int)+(j:Int)+(m:Int):=by omega
  have M:((i:Int)+(j:Int)+(m:Int)).toNat=i+j+m:=by omega
  have N:((i:Int)+(j:Int)).toNat=i+j:=by omega
  rw[List.take_nil,ah (by rw[hc];omega)];have W:((s.drop (i+j)).take m).length<=s.length:=by rw[kN,dH];omega
  have f:(((s.drop (i+j)).take m).length:Int)<=9223372036854775807:=by omega
  refine aG rfl rfl ?_ rfl;rw[aW];generalize(s.drop (i+j)).take m=X at *;generalize O:s.drop (i+j+m)=Y at *;simp[d,o,p,r,k,b,w0,w1,u,w,E,F,c,I,J,L,M,N,G,H,O,f]
 |false=>
  have l:=g a rfl;rw[l];clear l g;by_cases z:a.length<n
  ·have b:(a.length:Int)<n:=by omega
   rw[aj z];refine aG rfl rfl ?_ rfl;simp[d,z,b,k,iM]
  have b:¬(a.length:Int)<n:=by omega
  rw[ah z];by_cases t:e2=0;rotate_left
  ·rw[aj t];refine aG rfl rfl ?_ rfl;simp[d,o,p,r,b,t,k,iM]
  subst t;obtain⟨q1,q2,V,q4,_⟩:=B rfl;rw[dH]at V;rw[ah (by simp)];have w1:=wrap64 (n:=(i:Int)+(j:Int)) (by omega) (by omega);have u:=wrap64 (n:=(s.length:Int)-((i:Int)+(j:Int))) (by omega) (by omega);have w:=dn (n:=(s.length:Int)-((i:Int)+(j:Int))) (by omega) (by omega);by_cases D:s.length-(i+j)<m
  ·have c:(s.length:Int)-((i:Int)+(j:Int))<(m:Int):=by omega
   rw[aj D];refine aG rfl rfl ?_ rfl;simp[d,o,p,r,b,w1,u,w,c,k,iM]
  have c:¬(s.length:Int)-((i:Int)+(j:Int))<(m:Int):=by omega
  rw[ah D];have E:=wrap64 (n:=(m:Int)) (by omega) (by omega);have F:=wrap64 (n:=(i:Int)+(j:Int)+(m:Int)) (by omega) (by omega);have Z:=wrap64 (n:=(n:Int)) (by omega) (by omega);have G:((s.take (i+j+m)).drop (i+j))=(s.drop (i+j)).take m:=by rw[Aw];congr 1;omega
  have H:((s.take s.length).drop (i+j+m))=s.drop (i+j+m):=by rw[pq]
  have W:((s.drop (i+j)).take m).length<=s.length:=by rw[kN,dH];omega
  have ae:(a.take n++(s.drop (i+j)).take m).length<=200000000:=by rw[eX,kN];omega
  have kc:=aiq a (a.take n++(s.drop (i+j)).take m) (by omega) (by omega);have P:=ZL a (a.take n++(s.drop (i+j)).take m) (by omega) (by omega);have af:=Yb n a ((s.drop (i+j)).take m) (by omega);have I:(i:Int)+(j:Int)<=(i:Int)+(j:Int)+(m:Int)/\(i:Int)+(j:Int)+(m:Int)<=s.length:=by omega
  have J:(0:Int)<=(i:Int)+(j:Int):=by omega
  have c9:(0:Int)<=(i:Int)+(j:Int)+(m:Int):=by omega
  have L:(n:Int)<=a.length:=by omega
  have M:((i:Int)+(j:Int)+(m:Int)).toNat=i+j+m:=by omega
  have N:((i:Int)+(j:Int)).toNat=i+j:=by omega
  have x:(min n a.length:Nat)=n:=by omega
  have f:(n:Int)+(((s.drop (i+j)).take m).length:Int)<=9223372036854775807:=by omega
  generalize(s.drop (i+j)).take m=X at *;generalize O:s.drop (i+j+m)=Y at *;by_cases A:Op.bytesLess a (a.take n++X)=false
  ·rw[aj ⟨rfl,A⟩];rw[A]at P;refine aG rfl rfl ?_ rfl;simp[d,o,p,r,k,Z,w1,u,w,E,F,b,c,I,J,L,c9,M,N,G,H,O,f,x,P,iM]
  ·rw[ah (λh=>A h.2)];have A:Op.bytesLess a (a.take n++X)=true:=by simpa using A
   rw[A]at P;by_cases c8:n<common a (a.take n++X)
   ·have xQ:¬((common a (a.take n++X):Int)=n):=by omega
    have aa:¬(common a (a.take n++X)=n):=by omega
    rw[aj c8];refine aG rfl rfl ?_ rfl;simp[d,o,p,r,k,Z,w1,u,w,E,F,b,c,I,J,L,c9,M,N,G,H,O,f,x,P,kc,xQ,aa,iM]
   ·have xQ:common a (a.take n++X)=n:=by omega
    rw[ah c8];rw[xQ]at kc;refine aG rfl rfl ?_ rfl;simp[d,o,p,r,k,Z,w1,u,w,E,F,b,c,I,J,L,c9,M,N,G,H,O,f,x,P,kc]
def strs(l:Wg):GV:=.l (l.map GV.s)
def U5(a s:Q0)(b:s.length<=100000000):(uY a s).length<=20+s.length:=by have c:=OE a s;have d:=jk (n:=common a s) (by omega);have e:=jk (n:=s.length-common a s) (by omega);unfold uY;simp only[eX,dH];omega
def aiR(a s:Q0)(o:a.length<=100000000)(p:s.length<=100000000):TT.lim 189 [.s a,.s s]=some [.s (uY a s)]:=by
 have k:=aiq a s (by omega) (by omega);have q:=OE a s;have g:=yT (common a s) (by omega);have f:=yT (s.length-common a s) (by omega);have r:=jk (n:=common a s) (by omega);have t:=jk (n:=s.length-common a s) (by omega);have w1:=dn (n:=(common a s:Int)) (by omega) (by omega);have b:=dn (n:=(s.length:Int)-(common a s:Int)) (by omega) (by omega);have d:=wrap64 (n:=(s.length:Int)-(common a s:Int)) (by omega) (by omega);have e:(s.length:Int)-(common a s:Int)=((s.length-common a s:Nat):Int):=by omega
 rw[e]at b d;refine aG rfl rfl ?_ rfl;unfold uY;generalize common a s=c at *;have h:((aV c).length:Int)+((aV (s.length-c)).length:Int)<=9223372036854775807:=by omega
 have i:((aV c).length:Int)+((aV (s.length-c)).length:Int)+((s.length:Int)-(c:Int))<=9223372036854775807:=by omega
 have j:(c:Int)<=s.length:=by omega
 have l:((s.length-c:Nat):Int)=(s.length:Int)-c:=by omega
 have m:(s.take s.length).drop c=s.drop c:=by rw[pq]
 rw[<-e]at b d;rw[<-e]at f;simp[k,g,f,w1,b,d,h,i,j,l,m]
def aeX(d e:Wg)(k:d.length=e.length)(l:d.length<=140737488351232):∀m i:Nat,i+m=d.length->
 TT.lim 212 [.l (d.map GV.s),.l (e.map GV.s),.i .i64 d.length,.i .i64 i]=some (if d.drop i=e.drop i then[.i .i64 1]else[.i .i64 0])
 |0,i,hi=>by
  have h0:d.drop i=[]:=cO (by omega);have b:e.drop i=[]:=cO (by omega);refine au rfl rfl ?_;have h:¬((i:Int)<d.length):=by omega
  simp[h,h0,b]
 |m+1,i,hi=>by
  have c:i<d.length:=by omega
  have a:i<e.length:=by omega
  have o:TT.lim 212 [.l (d.map GV.s),.l (e.map GV.s),.i .i64 d.length,.i .i64 ((i:Int)+1)]=_:=aeX d e k l m (i+1) (by omega);have j:(d.drop i=e.drop i)↔(d[i]=e[i]/\d.drop (i+1)=e.drop (i+1)):=by rw[dF c,dF a,xE]
  refine au rfl rfl ?_;have h:((i:Int)<d.length):=by omega
  have p:=wrap64 (n:=(i:Int)+1) (by omega) (by omega);by_cases b:d[i]=e[i]
  ·have f:(d.drop i=e.drop i)↔(d.drop (i+1)=e.drop (i+1)):=by rw[j];simp[b]
   have g:(d[i]=e[i])=True:=eq_true b;clear b;simp only[f];simp[h,c,a,g,p,o]
  ·have f:¬(d.drop i=e.drop i):=by rw[j];simp[b]
   rw[ah f];simp[h,c,a,b]
def aqP(d e:Wg)(f:d.length<=140737488351232)(g:e.length<=140737488351232):TT.lim 211 [strs d,strs e]=some [.b (decide (d=e))]:=by
 unfold strs;refine aG rfl rfl ?_ rfl;by_cases c:d.length=e.length
 ·have b:(d.length:Int)=(e.length:Int):=by omega
  have a:TT.lim 212 [.l (d.map GV.s),.l (e.map GV.s),.i .i64 d.length,.i .i64 0]=_:=aeX d e c f d.length 0 (by omega);rw[bK,bK]at a;by_cases h:d=e
  ·rw[aj h]at a;have i:(d=e)=True:=eq_true h;clear h;rw[b]at a;simp[b,a,i]
  ·rw[ah h]at a;rw[b]at a;simp[b,a,h]
 ·have b:¬(d.length:Int)=(e.length:Int):=by omega
  have h:¬d=e:=λh=>c (by rw[h]);simp[b,c,h]
