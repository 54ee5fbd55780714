/- What the trees compute: plain laws. -/
import Derived.Test.YteenmipdepcibaaGreatDoorKPe7
set_option linter.unusedSimpArgs false
set_option linter.unusedVariables false
namespace Go.Proofs.YteenmipdepcibaaGreatDoor
open Go Go.aN
set_option maxRecDepth 100000
namespace P
theorem avV(h:List It)(a n:Int)(t:Q0)(hl:h.length<=100000):TT.lim 140 [.i .u64 a,.i .u64 n,.s t,.l (h.map bJ)]=some [.i .i64 0,.l ((rX h (a,n,t)).map bJ)]:=by
 have h0:=aAH (h++[(a,n,t)]) h.length (.i .u64 n) (by simp) (by simp;omega);have hw:=wrap64 (n:=((h.length:Nat):Int)) (by omega) (by omega);have hfold:GV.g [.i .u64 a,.i .u64 n,.s t]=bJ (a,n,t):=rfl;have hel:(bJ (a,n,t)).fC 3=true:=rfl;rw[lX]at h0;simp only[iD,jl]at h0;have hb1:2*(h.length+1)*32<=281474976710656:=by omega
 have hb2:h.length<=281474976710655:=by omega
 unfold rX;refine au rfl rfl ?_;simp -implicitDefEqProofs[hfold,hel,hb1,hb2,hw,h0]
theorem apb(h:List It)(n:Nat)(c:GV)(hn:n<=h.length)(hl:h.length<=1000000):∃b:Bool,TT.lim 163 [.i .i64 (n:Int),.l (h.map bJ),c,.i .i64 0]=some [.i .i64 0,.b b,.l ((lZ (n+1) h 0 n).map bJ)]:=by obtain⟨i',h0⟩:=aeg (n+1) h 0 n (.i .i64 0) c (by omega) hn hl (by omega);have h0:TT.lim 164 [.i .i64 0,.i .i64 (n:Int),.i .i64 0,.l (h.map bJ),c]=some [.i .i64 0,.i .i64 (i':Int),.l ((lZ (n+1) h 0 n).map bJ)]:=h0;refine⟨decide ((0:Int)<(i':Int)),au rfl rfl ?_⟩;simp -implicitDefEqProofs[h0]
theorem avM(h:List It)(n:Nat)(c:GV)(hn:h.length=n+1)(hl:h.length<=1000000)(hh:Heap h (n+1)):
 TT.lim 162 [.l (h.map bJ),c]=some [.i .i64 0,.i .u64 (at_ h 0).1,.i .u64 (at_ h 0).2.1,.s (at_ h 0).2.2,.l ((mJ h).map bJ)]:=by
 have hS:(iH h 0 n).length=n+1:=by rw[DZ,hn]
 obtain⟨b,h0⟩:=apb (iH h 0 n) n c (by omega) (by omega);obtain⟨-,-,-,hlast⟩:=Va h n hn hh;have hdl:(lZ (n+1) (iH h 0 n) 0 n).length=n+1:=by rw[Yc,hS]
 have hr:mJ h=(lZ (n+1) (iH h 0 n) 0 n).take n:=by unfold mJ;rw[hn];rfl
 have u1:=Jo (h:=h) (k:=0) (by omega) (at_ h n);have u2:=Jo (h:=h.set 0 (at_ h n)) (k:=n) (by rw[F8];omega) (at_ h 0);have hsw:(h.set 0 (at_ h n)).set n (at_ h 0)=iH h 0 n:=rfl;rw[hsw]at u2;rw[hr];generalize iH h 0 n=S at *;generalize lZ (n+1) S 0 n=D at *;have a0:=zY (h:=h) (k:=0) (by omega);have i0:=zl (h:=h) (k:=0) (by omega);rw[show(((0:Nat)):Int)=0 from rfl]at a0 i0 u1;have an:=zY (h:=h) (k:=n) (by omega);have iN:=zl (h:=h) (k:=n) (by omega);have dn:=zY (h:=D) (k:=n) (by omega);have di:=zl (h:=D) (k:=n) (by omega);have u3:=Jo (h:=D) (k:=n) (by omega) (0,0,[]);rw[hlast]at dn;have ht:(D.set n (0,0,[])).take n=D.take n:=by rw[List.take_set_of_le (bV n)]
 rw[<-ht];have hsl:(D.set n (0,0,[])).length=n+1:=by rw[F8,hdl]
 generalize D.set n (0,0,[])=D2 at *;generalize h.set 0 (at_ h n)=h2 at *;have hw:=wrap64 (n:=((n:Nat):Int)) (by omega) (by omega);have hle:((n:Nat):Int)<=(n:Int)+1:=by omega
 clear hsw ht hr hlast hh hS;generalize at_ h n=y at *;generalize at_ h 0=z at *;refine au rfl rfl ?_;simp -implicitDefEqProofs[-jh,-dY,-sF,hn,hdl,hw,i0,a0,iN,an,u1,u2,h0,di,dn,u3,hsl,hle,acj]
theorem aws(h:List It)(n:Nat)(c:GV)(hn:h.length=n+1)(hl:h.length<=1000000)(hh:Heap h (n+1)):
 TT.lim 161 [.l (h.map bJ),c]=some [.i .i64 0,.i .u64 (at_ h 0).1,.s (at_ h 0).2.2,.b true,.l ((mJ h).map bJ)]:=by
 have h0:=avM h n c hn hl hh;have hne:¬((n:Int)+1=0):=by omega
 generalize at_ h 0=z at *;generalize mJ h=R at *;refine au rfl rfl ?_;simp -implicitDefEqProofs[hn,hne,h0]
theorem avW(h:List It)(a n:Int)(t:Q0)(hl:h.length<=100000)(hn:0<=n/\n<=1000000):
 TT.lim 142 [.i .u64 a,.l [.s t],.i .i64 1,.i .i64 0,.l (h.map bJ),.i .u64 n]=some [.i .i64 0,.l ((rX h (a,n,t)).map bJ),.i .u64 (n+1)]:=by
 have h0:=avV h a n t hl;generalize rX h (a,n,t)=R at *;have h1:TT.lim 142 [.i .u64 a,.l [.s t],.i .i64 1,.i .i64 1,.l (R.map bJ),.i .u64 (n+1)]=some [.i .i64 0,.l (R.map bJ),.i .u64 (n+1)]:=by refine au rfl rfl ?_;simp
 have hw:=gJ (n:=n+1) (by omega) (by omega);have hw1:IntKind.i64.wrap 1=1:=rfl;refine au rfl rfl ?_;simp -implicitDefEqProofs[h0,hw,hw1,h1]
theorem av2(h:List It)(a n:Int)(t:Q0)(hl:h.length<=100000)(hn:0<=n/\n<=1000000):
 TT.lim 141 [.i .u64 a,.l [.s t],.l (h.map bJ),.i .u64 n]=some [.i .i64 0,.l ((rX h (a,n,t)).map bJ),.i .u64 (n+1)]:=by
 have h0:=avW h a n t hl hn;generalize rX h (a,n,t)=R at *;refine au rfl rfl ?_;simp -implicitDefEqProofs[h0]
theorem ael(now:Int)(c:GV):∀(m:Nat)(h:List It)(out:Wg),h.length=m->out.length+m<=100000->Heap h h.length->
 TT.lim 160 [.i .u64 now,.l (out.map .s),.l (h.map bJ),c]=some [.i .i64 0,.l ((out++(fB m now h).1).map .s),.l ((fB m now h).2.map bJ)]
 |0,h,out,hm,hl,hh=>by obtain rfl:=Qy.1 hm;refine au rfl rfl ?_;simp -implicitDefEqProofs[fB]
 |m+1,h,out,hm,hl,hh=>by
  have hne:¬((m:Int)+1=0):=by omega
  have hnn:h≠[]:=by rintro rfl;simp at hm
  have a0:=zY (h:=h) (k:=0) (by omega);have i0:=zl (h:=h) (k:=0) (by omega);rw[show(((0:Nat)):Int)=0 from rfl]at a0 i0;by_cases hc:now<(at_ h 0).1
  ·rw[fB,aj (.inr hc)];generalize at_ h 0=z at *;refine au rfl rfl ?_;simp -implicitDefEqProofs[-jh,-dY,hm,hne,a0,i0,hc]
  ·obtain⟨r1,r2,r3,-⟩:=Va h m hm (by rw[<-hm];exact hh);have hp:=aws h m c hm (by omega) (by rw[<-hm];exact hh);have ih:=ael now c m (mJ h) (out++[(at_ h 0).2.2]) r1 (by simp;omega) (by rw[r1];exact r2);rw[fB,ah (λe=>e.elim hnn hc)];have afy:out++(at_ h 0).2.2::(fB m now (mJ h)).1=out++[(at_ h 0).2.2]++(fB m now (mJ h)).1:=by simp
   rw[show(out++((at_ h 0).2.2::(fB m now (mJ h)).1,(fB m now (mJ h)).2).1)=out++[(at_ h 0).2.2]++(fB m now (mJ h)).1 from afy];generalize out++[(at_ h 0).2.2]++(fB m now (mJ h)).1=O at *;show _=some [_,_,GV.l ((fB m now (mJ h)).2.map bJ)]
   generalize(fB m now (mJ h)).2=H2 at *;rw[lX]at ih;simp only[iD,jl]at ih;have hb2:2*(out.length+1)*16<=281474976710656:=by omega
   have hb3:out.length<=281474976710655:=by omega
   clear afy;generalize mJ h=R at *;generalize at_ h 0=z at *;have hel:(GV.s z.2.2).fC 1=true:=rfl;refine au rfl rfl ?_;simp -implicitDefEqProofs[-jh,-dY,hm,hne,a0,i0,hc,hp,hb2,hb3,hel,ih]
theorem aem(now:Int)(c:GV)(h:List It)(hl:h.length<=100000)(hh:Heap h h.length):
 TT.lim 159 [.i .u64 now,.l (h.map bJ),c]=some [.i .i64 0,.l ((fB h.length now h).1.map .s),.l ((fB h.length now h).2.map bJ)]:=by
 have h0:=ael now c h.length h [] rfl (by simpa using hl) hh;rw[aV]at h0;simp only[jl]at h0;generalize fB h.length now h=R at *;refine au rfl rfl ?_;simp -implicitDefEqProofs[h0]
def MO:Q0->Nat
 |[a,b,c,d]=>a.toNat+b.toNat*256+c.toNat*65536+d.toNat*16777216
 |_=>0
theorem alY(p s:Q0)(hp:p.length<=65536)(hs:s.length=4):TT.lim 172 [.s p,.s s]=some [.b (decide ((MO s:Int)=iL p))]:=by
 have hc:=X6 p (by omega);generalize iL p=n at *;match s,hs with
 |[x0,x1,x2,x3],_=>
  have wu:∀y:Int,IntKind.u32.wrap y=y%((4294967296:Nat):Int):=λy=>by simp[IntKind.wrap,IntKind.signed,IntKind.bits]
  obtain⟨c0,hc0⟩:∃c,x0.toNat=c:=⟨_,rfl⟩
  obtain⟨c1,hc1⟩:∃c,x1.toNat=c:=⟨_,rfl⟩
  obtain⟨c2,hc2⟩:∃c,x2.toNat=c:=⟨_,rfl⟩
  obtain⟨c3,hc3⟩:∃c,x3.toNat=c:=⟨_,rfl⟩
  have l0:=x0.toNat_lt;have l1:=x1.toNat_lt;have l2:=x2.toNat_lt;have l3:=x3.toNat_lt;rw[show MO [x0,x1,x2,x3]=x0.toNat+x1.toNat*256+x2.toNat*65536+x3.toNat*16777216 from rfl];rw[hc0]at l0⊢;rw[hc1]at l1⊢;rw[hc2]at l2⊢;rw[hc3]at l3⊢;have s1:jB .shl .u32 (c1:Int) 8=some (.i .u32 ((c1*256:Nat):Int)):=MJ (k:=8) wu rfl (by decide) (by omega);have s2:jB .shl .u32 (c2:Int) 16=some (.i .u32 ((c2*65536:Nat):Int)):=MJ (k:=16) wu rfl (by decide) (by omega);have s3:jB .shl .u32 (c3:Int) 24=some (.i .u32 ((c3*16777216:Nat):Int)):=MJ (k:=24) wu rfl (by decide) (by omega);have o1:=LH (a:=c0) (b:=c1) (k:=8) (m:=256) rfl (by omega) (by omega);have o2:=LH (a:=c0+c1*256) (b:=c2) (k:=16) (m:=65536) rfl (by omega) (by omega);have o3:=LH (a:=c0+c1*256+c2*65536) (b:=c3) (k:=24) (m:=16777216) rfl (by omega) (by omega);have w0:IntKind.u32.wrap (c0:Int)=c0:=by rw[wu];omega
  have w1:IntKind.u32.wrap (c1:Int)=c1:=by rw[wu];omega
  have w2:IntKind.u32.wrap (c2:Int)=c2:=by rw[wu];omega
  have w3:IntKind.u32.wrap (c3:Int)=c3:=by rw[wu];omega
  obtain⟨m3,h3'⟩:∃q:Int,((c0+c1*256+c2*65536+c3*16777216:Nat):Int)=q:=⟨_,rfl⟩
  obtain⟨q3,h3⟩:∃q:Int,((c3*16777216:Nat):Int)=q:=⟨_,rfl⟩
  obtain⟨m2,h2⟩:∃q:Int,((c0+c1*256+c2*65536:Nat):Int)=q:=⟨_,rfl⟩
  obtain⟨q2,h2'⟩:∃q:Int,((c2*65536:Nat):Int)=q:=⟨_,rfl⟩
  obtain⟨m1,h1⟩:∃q:Int,((c0+c1*256:Nat):Int)=q:=⟨_,rfl⟩
  obtain⟨q1,h1'⟩:∃q:Int,((c1*256:Nat):Int)=q:=⟨_,rfl⟩
  rw[h3']at o3⊢;rw[h3]at s3 o3;rw[h2]at o2 o3;rw[h2']at s2 o2;rw[h1]at o1 o2;rw[h1']at s1 o1;clear h3 h2 h2' h1 h1' h3';refine aP rfl rfl ?_ rfl;simp -implicitDefEqProofs[hc,hc0,hc1,hc2,hc3,w0,w1,w2,w3,s1,s2,s3,o1,o2,o3]
def Ij:Q0->Int
 |[]=>1
 |[a]=>if a=81 then 1 else 5
 |a::b::_=>if a=81 then(if b=70 then 0 else 5)else 5
theorem agI(a:UInt8):Ij [a]=if a=81 then 1 else 5:=rfl
theorem atq(a b:UInt8)(r:Q0):Ij (a::b::r)=if a=81 then(if b=70 then 0 else 5)else 5:=rfl
def kL(s:Q0):Q0×Int×Int:=
 if Ij s≠0 then([],0,Ij s)else
 if(aB (s.drop 2)).2.2≠0 then([],0,(aB (s.drop 2)).2.2)else
 if 65536<(aB (s.drop 2)).1 then([],0,4)else
 if(s.drop (2+(aB (s.drop 2)).2.1)).length<(aB (s.drop 2)).1+4 then([],0,1)else
 if(MO (((s.drop (2+(aB (s.drop 2)).2.1)).take ((aB (s.drop 2)).1+4)).drop (aB (s.drop 2)).1):Int)=iL ((s.drop (2+(aB (s.drop 2)).2.1)).take (aB (s.drop 2)).1)then
  ((s.drop (2+(aB (s.drop 2)).2.1)).take (aB (s.drop 2)).1,((2+fD (aB (s.drop 2)).1+(aB (s.drop 2)).1+4:Nat):Int),0)else([],0,6)
theorem aby(a:UInt8)(n:Nat)(hn:n<256):((a.toNat:Int)=(n:Int))=(a=UInt8.ofNat n):=by
 apply propext;constructor
 ·intro h;apply Xa.1;rw[acH];omega
 ·intro h;rw[h,acH];omega
theorem ato(s:Q0)(hs:s.length<=140737488351232):TT.lim 168 [.s s]=some [.i .i64 (Ij s)]:=by
 have w1:=wrap64 (n:=(1:Int)) (by omega) (by omega);have w2:=wrap64 (n:=(2:Int)) (by omega) (by omega);have a2:∀s:Q0,TT.lim 169 [.s s,.i .i64 2]=some [.i .i64 1]:=by intro s;refine au rfl rfl ?_;simp
 match s,hs with
 |[],_=>
  have m0:Ij []=1:=rfl;have b0:TT.lim 169 [.s [],.i .i64 0]=some [.i .i64 0,.i .i64 1]:=by refine au rfl rfl ?_;simp
  rw[m0];refine aP rfl rfl ?_ rfl;simp -implicitDefEqProofs[b0]
 |[a],_=>
  rw[agI];have e:=aby a 81 (by omega);have e:((a.toNat:Int)=81)=(a=81):=e;by_cases ha:a=81
  ·rw[aj ha];have c1:TT.lim 169 [.s [a],.i .i64 1]=some [.i .i64 0,.i .i64 1]:=by refine au rfl rfl ?_;simp
   have ha':(a=81)=True:=eq_true ha;clear ha;have c0:TT.lim 169 [.s [a],.i .i64 0]=some [.i .i64 0,.i .i64 1]:=by refine au rfl rfl ?_;simp -implicitDefEqProofs[w1,e,ha',c1]
   refine aP rfl rfl ?_ rfl;simp -implicitDefEqProofs[c0]
  ·rw[ah ha];have c0:TT.lim 169 [.s [a],.i .i64 0]=some [.i .i64 0,.i .i64 5]:=by refine au rfl rfl ?_;simp -implicitDefEqProofs[w1,e,ha]
   refine aP rfl rfl ?_ rfl;simp -implicitDefEqProofs[c0]
 |a::b::r,_=>
  rw[atq];have e:((a.toNat:Int)=81)=(a=81):=aby a 81 (by omega);have e2:((b.toNat:Int)=70)=(b=70):=aby b 70 (by omega);have l0:¬(0:Int)=(r.length:Int)+1+1:=by omega
  have l1:¬(1:Int)=(r.length:Int)+1+1:=by omega
  have a2:=a2 (a::b::r);by_cases ha:a=81
  ·rw[aj ha];have ha':(a=81)=True:=eq_true ha;clear ha;by_cases hb:b=70
   ·rw[aj hb];have hb':(b=70)=True:=eq_true hb;clear hb;have c1:TT.lim 169 [.s (a::b::r),.i .i64 1]=some [.i .i64 1]:=by refine au rfl rfl ?_;simp -implicitDefEqProofs[l1,w2,e2,hb',a2]
    have c0:TT.lim 169 [.s (a::b::r),.i .i64 0]=some [.i .i64 1]:=by refine au rfl rfl ?_;simp -implicitDefEqProofs[l0,w1,e,ha',c1]
    refine aP rfl rfl ?_ rfl;simp -implicitDefEqProofs[c0]
   ·rw[ah hb];have c1:TT.lim 169 [.s (a::b::r),.i .i64 1]=some [.i .i64 0,.i .i64 5]:=by refine au rfl rfl ?_;simp -implicitDefEqProofs[l1,w2,e2,hb]
    have c0:TT.lim 169 [.s (a::b::r),.i .i64 0]=some [.i .i64 0,.i .i64 5]:=by refine au rfl rfl ?_;simp -implicitDefEqProofs[l0,w1,e,ha',c1]
    refine aP rfl rfl ?_ rfl;simp -implicitDefEqProofs[c0]
  ·rw[ah ha];have c0:TT.lim 169 [.s (a::b::r),.i .i64 0]=some [.i .i64 0,.i .i64 5]:=by refine au rfl rfl ?_;simp -implicitDefEqProofs[l0,w1,e,ha]
   refine aP rfl rfl ?_ rfl;simp -implicitDefEqProofs[c0]
theorem ahk(s:Q0)(hs:s.length<=100000000):TT.lim 167 [.s s]=some [.s (kL s).1,.i .i64 (kL s).2.1,.i .i64 (kL s).2.2]:=by
 have hm:=ato s (by omega);unfold kL;by_cases c0:Ij s=0;rotate_left
 ·rw[aj c0];refine aP rfl rfl ?_ rfl;simp -implicitDefEqProofs[hm,c0]
 rw[ah (by simpa using c0)];rw[c0]at hm;have h2:2<=s.length:=by
  match s,c0 with
  |[],c0=>exact absurd c0 (by decide)
  |[a],c0=>rw[agI]at c0;split at c0<;>simp at c0
  |a::b::r,_=>simp
 have hg:=tN (s.drop 2) (by rw[eX];omega);have hle:=@jY (s.drop 2);have hd:(s.take s.length).drop 2=s.drop 2:=by rw[yO]
 have l2:(2:Int)<=(s.length:Int):=by omega
 generalize aB (s.drop 2)=G at *;obtain⟨n,k,e⟩:=G;simp only at hg hle⊢;by_cases c1:e=0;rotate_left
 ·rw[aj c1];refine aP rfl rfl ?_ rfl;simp -implicitDefEqProofs[hm,hd,l2,hg,c1]
 rw[ah (by simpa using c1)];have hle:=(hle c1).len;rw[eX]at hle;subst c1;by_cases c2:65536<n
 ·rw[aj c2];have c2':(65536:Int)<n:=by omega
  refine aP rfl rfl ?_ rfl;simp -implicitDefEqProofs[hm,hd,l2,hg,c2']
 rw[ah c2];have c2':¬(65536:Int)<n:=by omega
 have wn:=wrap64 (n:=(n:Int)) (by omega) (by omega);have wn4:=wrap64 (n:=(n:Int)+4) (by omega) (by omega);have wk:=wrap64 (n:=2+(k:Int)) (by omega) (by omega);have Zj:2+(k:Int)<=(s.length:Int):=by omega
 have k0:(0:Int)<=2+(k:Int):=by omega
 have hdk:s.drop (2+(k:Int)).toNat=s.drop (2+k):=by congr 1
 have hB:(s.drop (2+k)).length=s.length-(2+k):=eX;generalize s.drop (2+k)=B at *;by_cases c3:B.length<n+4
 ·rw[aj c3];have c3':(B.length:Int)<(n:Int)+4:=by omega
  refine aP rfl rfl ?_ rfl;simp -implicitDefEqProofs[hm,hd,l2,hg,c2',wn,wn4,wk,Zj,k0,hdk,c3']
 rw[ah c3];have c3':¬(B.length:Int)<(n:Int)+4:=by omega
 have n0:(0:Int)<=(n:Int):=by omega
 have n4:(n:Int)<=(n:Int)+4:=by omega
 have nB:(n:Int)<=(B.length:Int):=by omega
 have nB4:(n:Int)+4<=(B.length:Int):=by omega
 have t1:((n:Int)).toNat=n:=by omega
 have t2:((n:Int)+4).toNat=n+4:=by omega
 have hlp:(B.take n).length<=65536:=by rw[kF];omega
 have hlk:((B.take (n+4)).drop n).length=4:=by rw[eX,kF];omega
 have hk:=alY (B.take n) ((B.take (n+4)).drop n) hlp hlk;have hz:=ae6 n (by omega);generalize hK:(B.take (n+4)).drop n=K at *;generalize hP:B.take n=PP at *;by_cases c4:(MO K:Int)=iL PP
 ·rw[aj c4];have lY:decide ((MO K:Int)=iL PP)=true:=by simpa using c4
  rw[lY]at hk;refine aP rfl rfl ?_ rfl;simp -implicitDefEqProofs[hm,hd,l2,hg,c2',wn,wn4,wk,Zj,k0,hdk,c3',n0,n4,nB,nB4,t1,t2,hP,hK,hk,hz]
 ·rw[ah c4];have lY:decide ((MO K:Int)=iL PP)=false:=by simpa using c4
  rw[lY]at hk;refine aP rfl rfl ?_ rfl;simp -implicitDefEqProofs[hm,hd,l2,hg,c2',wn,wn4,wk,Zj,k0,hdk,c3',n0,n4,nB,nB4,t1,t2,hP,hK,hk,hz]
theorem au8{p:Q0}(hp:p.length<=65536):kL (ku p)=(p,(((ku p).length:Nat):Int),0):=by have h1:=au7 hp;have hl:=Yv p;have hv:=Nb 3 p.length (by omega) (by omega);have h2:=ahk (ku p) (by omega);rw[h1]at h2;simp only[aW,yL,GV.s.injEq,GV.i.injEq,and_true,true_and]at h2;obtain⟨e1,e2,e3⟩:=h2;generalize kL (ku p)=R at *;obtain⟨a,b,c⟩:=R;simp only at e1 e2 e3;rw[<-e1,<-e2,<-e3]
theorem au9(s:Q0):(kL s).1.length<=s.length:=by
 unfold kL;repeat' split
 all_goals first|simp;done|(simp only[kF,eX];omega)
structure Fa where
 dr:Bool
 c:Nat
 d:Nat
 cu:Int
 at_:Int
 vS:Nat
def aU(f:Fa):GV:=.g [.b f.dr,.i .u8 (f.c:Int),.i .u8 (f.d:Int),.i .i64 f.cu,.i .i64 f.at_,.i .u8 (f.vS:Int)]
@[simp] theorem aCd(f:Fa):(aU f).cells=[.b f.dr,.i .u8 (f.c:Int),.i .u8 (f.d:Int),.i .i64 f.cu,.i .i64 f.at_,.i .u8 (f.vS:Int)]:=rfl
structure Jz(f:Fa):Prop where
 c:f.c<=3
 d:f.d<256
 vS:f.vS<256
 cu:f.cu<=9223372036854775807
 at_:f.at_<=9223372036854775807
theorem aBh(x:UInt8):xQ x 0=x:=by unfold xQ;rw[Nat.xor_zero,UInt8.ofNat_toNat]
def Ai(f:Fa)(t:Q0):Q0:=if 0<f.cu/\f.cu<t.length then t.take f.cu.toNat else t
def MS(f:Fa)(u:Q0):Q0:=if f.at_<0 then u else if(u.length:Int)<=f.at_ then u else u.set f.at_.toNat (xQ (u.getD f.at_.toNat 0) f.vS)
def lg(f:Fa)(t:Q0):Q0:=MS f (Ai f t)
theorem al0(f:Fa)(t:Q0):(Ai f t).length<=t.length:=by
 unfold Ai;split
 ·rw[kF];omega
 ·omega
theorem aAy(f:Fa)(u:Q0):(MS f u).length=u.length:=by
 unfold MS;split
 ·rfl
 split
 ·rfl
 ·rw[F8]
theorem apa(f:Fa)(t:Q0):(lg f t).length<=t.length:=by unfold lg;rw[aAy];exact al0 f t
def lU:Nat->Int->List UInt8->List It->Int->List It×Int
 |0,_,_,h,n=>(h,n)
 |m+1,a,t,h,n=>lU m (a+1) t (rX h (a,n,t)) (n+1)
theorem aaK(a:Int)(t:Q0):∀(m:Nat)(h:List It)(n:Int),Heap h h.length->Heap (lU m a t h n).1 (lU m a t h n).1.length/\(lU m a t h n).1.length=h.length+m/\(lU m a t h n).2=n+m
 |0,h,n,hh=>⟨hh,rfl,by simp[lU]⟩
 |m+1,h,n,hh=>by have hp:=LY h (a,n,t) hh;have hl:=PI h (a,n,t) hh;have ih:=aaK (a+1) t m (rX h (a,n,t)) (n+1) (by rw[hl];exact hp.1);unfold lU;refine⟨ih.1,by rw[ih.2.1,hl];omega,by rw[ih.2.2];push_cast;omega⟩
theorem copies(now a:Int)(t:Q0)(L:Wg)(x4 x5 x8:GV)(M:Nat)(hM:M<=300)(ha:0<=a/\a<=1000000000000):∀(m i:Nat)(h:List It)(n:Int),i+m=M->h.length+m<=100000->0<=n->n+m<=1000000->Heap h h.length->
 TT.lim 145 [.i .u64 now,.s t,.i .u64 a,.l (L.map .s),x4,x5,.i .u64 (M:Int),.i .u64 (i:Int),x8,.l (h.map bJ),.i .u64 n]=some [.i .i64 0,.l ((lU m (a+i) t h n).1.map bJ),.i .u64 (lU m (a+i) t h n).2]
 |0,i,h,n,hi,hl,n0,hn,hh=>by
  have c:¬((i:Int)<(M:Int)):=by omega
  refine au rfl rfl ?_;simp -implicitDefEqProofs[c,lU]
 |m+1,i,h,n,hi,hl,n0,hn,hh=>by
  have c:(i:Int)<(M:Int):=by omega
  have hp:=LY h (a+i,n,t) hh;have hpl:=PI h (a+i,n,t) hh;have hput:=av2 h (a+i) n t (by omega) ⟨n0,by omega⟩;have ih:=copies now a t L x4 x5 x8 M hM ha m (i+1) (rX h (a+i,n,t)) (n+1) (by omega) (by rw[hpl];omega) (by omega) (by omega) (by rw[hpl];exact hp.1);have e:a+((i+1:Nat):Int)=a+i+1:=by omega
  rw[e]at ih;unfold lU;generalize lU m (a+i+1) t (rX h (a+i,n,t)) (n+1)=R at *;generalize rX h (a+i,n,t)=Q at *;have w1:=gJ (n:=a+(i:Int)) (by omega) (by omega);have w2:=gJ (n:=(i:Int)+1) (by omega) (by omega);rw[show((i+1:Nat):Int)=(i:Int)+1 from by omega]at ih;refine au rfl rfl ?_;simp -implicitDefEqProofs[c,w1,w2,hput,ih]
structure Lk where
 f:List Fa
 h:List It
 n:Int
def nM(now:Int)(t:Q0)(k:Lk):Lk:=match k.f with
 |[]=>{k with h:=(lU 1 now t k.h k.n).1,n:=(lU 1 now t k.h k.n).2}
 |f::r=>if f.dr=true then {k with f:=r}else {f:=r,h:=(lU (f.c+1) (now+f.d) (lg f t) k.h k.n).1,n:=(lU (f.c+1) (now+f.d) (lg f t) k.h k.n).2}
set_option maxHeartbeats 4000000 in
theorem aix(now:Int)(t:Q0)(k:Lk)(hf:∀f∈k.f,Jz f)(hk:k.f.length<=100000)(ht:t.length<=100000000)(jc:0<=now/\now<=900000000000)(hl:k.h.length+4<=100000)(n0:0<=k.n)(hn:k.n+4<=1000000)(hh:Heap k.h k.h.length):
 TT.lim 143 [.i .u64 now,.l [.s t],.l (k.f.map aU),.l (k.h.map bJ),.i .u64 k.n]=some [.i .i64 0,.l ((nM now t k).f.map aU),.l ((nM now t k).h.map bJ),.i .u64 (nM now t k).n]:=by
 have w1:IntKind.i64.wrap 1=1:=rfl;have e:∀(Fx:Q1)(H:List It)(n:Int),TT.lim 144 [.i .u64 now,.l [.s t],.i .i64 1,.i .i64 1,.l Fx,.l (H.map bJ),.i .u64 n]=some [.i .i64 0,.l Fx,.l (H.map bJ),.i .u64 n]:=by intro Fx H n;refine au rfl rfl ?_;simp
 suffices h:TT.lim 144 [.i .u64 now,.l [.s t],.i .i64 1,.i .i64 0,.l (k.f.map aU),.l (k.h.map bJ),.i .u64 k.n]=some [.i .i64 0,.l ((nM now t k).f.map aU),.l ((nM now t k).h.map bJ),.i .u64 (nM now t k).n] by generalize nM now t k=R at *;generalize k.f.map aU=FG at *;generalize k.h.map bJ=HG at *;refine au rfl rfl ?_;simp -implicitDefEqProofs[h]
 obtain⟨Fx,H,n⟩:=k;simp only at *;cases Fx with
 |nil=>
  unfold nM;simp only[jl];have hc:=copies now now t [t] (.i .i64 1) (.i .i64 0) (.l []) 1 (by omega) (by omega) 1 0 H n (by omega) (by omega) n0 (by omega) hh;rw[show now+((0:Nat):Int)=now from by omega]at hc;have hw:=gJ (n:=now) (by omega) (by omega);have e:=e [] (lU 1 now t H n).1 (lU 1 now t H n).2;generalize lU 1 now t H n=R at *;have hc:TT.lim 145 [.i .u64 now,.s t,.i .u64 now,.l [.s t],.i .i64 1,.i .i64 0,.i .u64 1,.i .u64 0,.l [],.l (H.map bJ),.i .u64 n]=some [.i .i64 0,.l (R.1.map bJ),.i .u64 R.2]:=hc;cases t with
  |nil=>refine au rfl rfl ?_;simp -implicitDefEqProofs[hw,w1,hc,e]
  |cons x r=>
   obtain⟨b1,b2,b3⟩:=aiA (u:=x::r) (k:=0) (by simp) (xQ x 0);have bx:=ajN x 0 (by omega);have b0:(x::r).set 0 (xQ x 0)=x::r:=by rw[aBh];rfl
   rw[b0]at b3;have b2:at2 1 (some (.l (bT (x::r)))) (some (.i .i64 0))=some (.i .u8 (x.toNat:Int)):=b2;have b1:Dc (some (.l (bT (x::r)))) (some (.i .i64 0))=some (.i .i64 0):=b1;have b3:D7 1 0 (some (.l (bT (x::r)))) (some (.i .i64 0)) (some [.i .u8 ((xQ x 0).toNat:Int)])=some (.l (bT (x::r))):=b3;have bk:=Xy (x::r);have bl:(bT (x::r)).length<=2^48:=by simp only[bT,fE];simp only[gQ]at ht⊢;omega
   have hne:¬((r.length:Int)+1<=0):=by omega
   have bx:bQ .xor .u8 (x.toNat:Int) 0=some (.i .u8 ((xQ x 0).toNat:Int)):=bx;have hA:at2 1 (some (.l [.s (x::r)])) (some (.i .i64 0))=some (.s (x::r)):=rfl;generalize hBG:bT (x::r)=BG at *;generalize xQ x 0=y at *;refine au rfl rfl ?_;simp -implicitDefEqProofs[-jh,-dY,-sF,hA,hBG,hw,w1,hne,b1,b2,bx,b3,bk,bl,hc,e]
 |cons f r=>
  unfold nM;simp only[iD];have fo:=hf f (by simp);have hrl:(r.length:Int)+1>0:=by omega
  have AA:((r.map aU).length:Int)=(r.length:Int):=by rw[fE]
  have hA:at2 1 (some (.l [.s t])) (some (.i .i64 0))=some (.s t):=rfl;have hB:at2 6 (some (.l (aU f::r.map aU))) (some (.i .i64 0))=some (aU f):=rfl;have hsub:Lj 6 (some (.l (aU f::r.map aU))) (some (.i .i64 1)) (some (.i .i64 ((r.length:Int)+1)))=some (.l (r.map aU)):=by
   rw[lD,aj]
   ·rw[show((r.length:Int)+1).toNat=r.length+1 from by omega,show(1:Int).toNat=1 from rfl,jZ (by simp)];rfl
   ·refine⟨by omega,by omega,by simp,?_⟩;rw[List.all_eq_true];intro g hg;rcases bG.1 hg with rfl|hg
    ·rfl
    ·obtain⟨x,-,rfl⟩:=qj.1 hg;rfl
  by_cases cd:f.dr=true
  ·rw[aj cd];have e:=e (r.map aU) H n;generalize r.map aU=RG at *;refine au rfl rfl ?_;simp -implicitDefEqProofs[-lD,-dY,hA,hB,AA,w1,cd,hsub,e]
  rw[ah cd];have Cj:f.dr=false:=by simpa using cd
  have c3:=fo.c;have hd:=fo.d;have hc:=copies now (now+f.d) (lg f t) [t] (.i .i64 1) (.i .i64 0) (.l (r.map aU)) (f.c+1) (by omega) (by omega) (f.c+1) 0 H n (by omega) (by omega) n0 (by omega) hh;rw[show now+(f.d:Int)+((0:Nat):Int)=now+f.d from by omega]at hc;have e:=e (r.map aU) (lU (f.c+1) (now+f.d) (lg f t) H n).1 (lU (f.c+1) (now+f.d) (lg f t) H n).2;generalize lU (f.c+1) (now+f.d) (lg f t) H n=R at *;have hc:TT.lim 145 [.i .u64 now,.s (lg f t),.i .u64 (now+f.d),.l [.s t],.i .i64 1,.i .i64 0,.i .u64 ((f.c:Int)+1),.i .u64 0,.l (r.map aU),.l (H.map bJ),.i .u64 n]=some [.i .i64 0,.l (R.1.map bJ),.i .u64 R.2]:=by
   have e2:((f.c+1:Nat):Int)=(f.c:Int)+1:=by omega
   rw[e2]at hc;exact hc
  have wd:=gJ (n:=(f.d:Int)) (by omega) (by omega);have wc:=gJ (n:=(f.c:Int)) (by omega) (by omega);have D8:=gJ (n:=(f.c:Int)+1) (by omega) (by omega);have wn:=gJ (n:=now+(f.d:Int)) (by omega) (by omega)
  have turn:∀u:Q0,Ai f t=u->u.length<=100000000->(f.at_<0/\lg f t=u)\/(¬f.at_<0/\(u.length:Int)<=f.at_/\lg f t=u)\/
   (¬f.at_<0/\¬(u.length:Int)<=f.at_/\∃(x:UInt8)(y:UInt8),Dc (some (.l (bT u))) (some (.i .i64 f.at_))=some (.i .i64 f.at_)/\at2 1 (some (.l (bT u))) (some (.i .i64 f.at_))=some (.i .u8 (x.toNat:Int))/\bQ .xor .u8 (x.toNat:Int) (f.vS:Int)=some (.i .u8 (y.toNat:Int))/\
    D7 1 0 (some (.l (bT u))) (some (.i .i64 f.at_)) (some [.i .u8 (y.toNat:Int)])=some (.l (bT (lg f t)))/\(bT (lg f t)).length<=2^48/\mY (bT (lg f t))=some (lg f t)):=by
   intro u hu C9;by_cases q1:f.at_<0
   ·refine .inl ⟨q1,?_⟩;unfold lg MS;rw[hu,aj q1]
   by_cases q2:(u.length:Int)<=f.at_
   ·refine .inr (.inl ⟨q1,q2,?_⟩);unfold lg MS;rw[hu,ah q1,aj q2]
   ·refine .inr (.inr ⟨q1,q2,u.getD f.at_.toNat 0,xQ (u.getD f.at_.toNat 0) f.vS,?_⟩);obtain⟨b1,b2,b3⟩:=aiA (u:=u) (k:=f.at_.toNat) (by omega) (xQ (u.getD f.at_.toNat 0) f.vS);rw[F6 (by omega)]at b1 b2 b3;have hdn:lg f t=u.set f.at_.toNat (xQ (u.getD f.at_.toNat 0) f.vS):=by unfold lg MS;rw[hu,ah q1,ah q2]
    refine⟨b1,b2,ajN _ _ fo.vS,by rw[hdn];exact b3,?_,Xy _⟩;rw[hdn];simp only[bT,fE,F8];omega
  by_cases c1:0<f.cu
  ·by_cases c2:f.cu<t.length
   ·have hu:Ai f t=t.take f.cu.toNat:=by unfold Ai;rw[aj ⟨c1,c2⟩]
    have C9:(t.take f.cu.toNat).length<=100000000:=by rw[kF];omega
    have hcl:f.cu<=(t.length:Int):=by omega
    have hc0:0<=f.cu:=by omega
    rcases turn _ hu C9 with⟨q1,qd⟩|⟨q1,q2,qd⟩|⟨q1,q2,x,y,b1,b2,b3,b4,b5,b6⟩
    ·rw[qd]at hc;generalize hu2:t.take f.cu.toNat=u at *;generalize r.map aU=RG at *;refine au rfl rfl ?_;simp -implicitDefEqProofs[-lD,-dY,hA,hB,AA,hu2,w1,Cj,hsub,c1,c2,hcl,hc0,q1,wd,wc,D8,wn,hc,e]
    ·rw[qd]at hc;generalize hu2:t.take f.cu.toNat=u at *;generalize r.map aU=RG at *;refine au rfl rfl ?_;simp -implicitDefEqProofs[-lD,-dY,hA,hB,AA,hu2,w1,Cj,hsub,c1,c2,hcl,hc0,q1,q2,wd,wc,D8,wn,hc,e]
    ·generalize lg f t=D at *;generalize hu2:t.take f.cu.toNat=u at *;generalize hBG:bT u=BG at *;generalize bT D=DG at *;generalize r.map aU=RG at *;refine au rfl rfl ?_;simp -implicitDefEqProofs[-jh,-dY,-sF,-lD,hA,hB,AA,hBG,hu2,w1,Cj,hsub,c1,c2,hcl,hc0,q1,q2,b1,b2,b3,b4,b5,b6,wd,wc,D8,wn,hc,e]
   ·have hu:Ai f t=t:=by unfold Ai;rw[ah (λh=>c2 h.2)]
    rcases turn _ hu ht with⟨q1,qd⟩|⟨q1,q2,qd⟩|⟨q1,q2,x,y,b1,b2,b3,b4,b5,b6⟩
    ·rw[qd]at hc;generalize r.map aU=RG at *;refine au rfl rfl ?_;simp -implicitDefEqProofs[-lD,-dY,hA,hB,AA,w1,Cj,hsub,c1,c2,q1,wd,wc,D8,wn,hc,e]
    ·rw[qd]at hc;generalize r.map aU=RG at *;refine au rfl rfl ?_;simp -implicitDefEqProofs[-lD,-dY,hA,hB,AA,w1,Cj,hsub,c1,c2,q1,q2,wd,wc,D8,wn,hc,e]
    ·generalize lg f t=D at *;generalize hBG:bT t=BG at *;generalize bT D=DG at *;generalize r.map aU=RG at *;refine au rfl rfl ?_;simp -implicitDefEqProofs[-jh,-dY,-sF,-lD,hA,hB,AA,hBG,w1,Cj,hsub,c1,c2,q1,q2,b1,b2,b3,b4,b5,b6,wd,wc,D8,wn,hc,e]
  ·have hu:Ai f t=t:=by unfold Ai;rw[ah (λh=>c1 h.1)]
   rcases turn _ hu ht with⟨q1,qd⟩|⟨q1,q2,qd⟩|⟨q1,q2,x,y,b1,b2,b3,b4,b5,b6⟩
   ·rw[qd]at hc;generalize r.map aU=RG at *;refine au rfl rfl ?_;simp -implicitDefEqProofs[-lD,-dY,hA,hB,AA,w1,Cj,hsub,c1,q1,wd,wc,D8,wn,hc,e]
   ·rw[qd]at hc;generalize r.map aU=RG at *;refine au rfl rfl ?_;simp -implicitDefEqProofs[-lD,-dY,hA,hB,AA,w1,Cj,hsub,c1,q1,q2,wd,wc,D8,wn,hc,e]
   ·generalize lg f t=D at *;generalize hBG:bT t=BG at *;generalize bT D=DG at *;generalize r.map aU=RG at *;refine au rfl rfl ?_;simp -implicitDefEqProofs[-jh,-dY,-sF,-lD,hA,hB,AA,hBG,w1,Cj,hsub,c1,q1,q2,b1,b2,b3,b4,b5,b6,wd,wc,D8,wn,hc,e]
structure Pr where
 s0:fK
 s1:fK
 k0:Lk
 k1:Lk
 now:Int
 rc:List (Int×Int×Int)
def lM(e:Int×Int×Int):GV:=.g [.i .u64 e.1,.i .i64 e.2.1,.i .i64 e.2.2]
@[simp] theorem aCa(e:Int×Int×Int):(lM e).cells=[.i .u64 e.1,.i .i64 e.2.1,.i .i64 e.2.2]:=rfl
theorem SE(a b c:Int):GV.g [.i .u64 a,.i .i64 b,.i .i64 c]=lM (a,b,c):=rfl
def fA(k:Lk):Q1:=[.l (k.f.map aU),.l (k.h.map bJ),.i .u64 k.n]
def bZ(x:Pr):Q1:=[.i .u64 x.now,.l (x.rc.map lM)]++(fA x.k1++(fA x.k0++(dL x.s1++dL x.s0)))
def iM(x:Pr):Q1:=.l (x.rc.map lM)::(fA x.k1++(fA x.k0++(lW x.s1++lW x.s0)))
def Dead(t:Q0):Prop:=(kL t).2.2=0->¬(kL t).2.1<t.length->F7 [2,7,8] (kL t).1
noncomputable def wT (t:Q0):Nat:=@ite Nat (Dead t) (Classical.propDecidable _) 2 5
theorem Qm(t:Q0):2<=wT t/\wT t<=5:=by unfold wT;split<;>omega
theorem ajF{t:Q0}(h:Dead t):wT t=2:=by unfold wT;rw[aj h]
theorem aA2{t:Q0}(h:¬Dead t):wT t=5:=by unfold wT;rw[ah h]
noncomputable def wQ:List It->Nat
 |[]=>0
 |x::r=>wT x.2.2+wQ r
noncomputable def wS:Wg->Nat
 |[]=>0
 |x::r=>wT x+wS r
theorem ajE{a b:List It}(h:a.Perm b):wQ a=wQ b:=by
 induction h with
 |nil=>rfl
 |cons x _ ih=>simp only[wQ];omega
 |swap x y l=>simp only[wQ];omega
 |trans _ _ h1 h2=>omega
theorem aA1(a b:List It):wQ (a++b)=wQ a+wQ b:=by
 induction a with
 |nil=>simp[wQ]
 |cons x r ih=>simp only[bC,wQ];omega
theorem abK(a:List It):2*a.length<=wQ a:=by
 induction a with
 |nil=>simp[wQ]
 |cons x r ih=>have:=Qm x.2.2;simp only[gQ,wQ];omega
theorem aaL(t:Q0):∀(m:Nat)(a:Int)(h:List It)(n:Int),Heap h h.length->wQ (lU m a t h n).1=wQ h+m*wT t
 |0,a,h,n,hh=>by simp[lU]
 |m+1,a,h,n,hh=>by have hp:=LY h (a,n,t) hh;have hl:=PI h (a,n,t) hh;have ih:=aaL t m (a+1) (rX h (a,n,t)) (n+1) (by rw[hl];exact hp.1);unfold lU;rw[ih,ajE hp.2,aA1];simp only[wQ];rw[qM];omega
theorem aaJ(t:Q0):∀(m:Nat)(a:Int)(h:List It)(n:Int),Heap h h.length->∀y∈(lU m a t h n).1,y∈h\/(y.2.2=t/\a<=y.1)
 |0,a,h,n,hh,y,hy=>.inl hy
 |m+1,a,h,n,hh,y,hy=>by
  have hp:=LY h (a,n,t) hh;have hl:=PI h (a,n,t) hh;rcases aaJ t m (a+1) (rX h (a,n,t)) (n+1) (by rw[hl];exact hp.1) y hy with q|⟨q1,q2⟩
  ·rcases kG.1 (hp.2.mem_iff.1 q)with q|q
   ·exact .inl q
   ·rw[uy.1 q];exact .inr ⟨rfl,zM _⟩
  ·exact .inr ⟨q1,by omega⟩
structure yP(k:Lk):Prop where
 f:∀f∈k.f,Jz f
 h:Heap k.h k.h.length
 n:0<=k.n
 t:∀y∈k.h,y.2.2.length<=70000
noncomputable def l9 (k:Lk):Nat:=k.n.toNat+wQ k.h+24*k.f.length
theorem aa1{now:Int}{t:Q0}{k:Lk}(hk:yP k)(ht:t.length<=70000):yP (nM now t k)/\l9 (nM now t k)<=l9 k+1+wT t/\(nM now t k).f.length<=k.f.length:=by
 obtain⟨Fx,H,n⟩:=k;have hkn:=hk.n;have hkh:=hk.h;have hkt:=hk.t;have OO:=hk.f;simp only at hkn hkh hkt OO;cases Fx with
 |nil=>
  unfold nM;simp only;obtain⟨p1,p2,p3⟩:=aaK now t 1 H n hkh;have pw:=aaL t 1 now H n hkh;have pm:=aaJ t 1 now H n hkh;refine⟨⟨(λf h=>by cases h),p1,by simp only;omega,λy hy=>?_⟩,?_,by simp⟩
  ·rcases pm y hy with q|⟨q,-⟩
   ·exact hkt y q
   ·rw[q];exact ht
  ·unfold l9;simp only[pw,p3,kT];omega
 |cons f r=>
  unfold nM;simp only;have hrf:∀g∈r,Jz g:=λg hg=>OO g (by simp[hg]);by_cases cd:f.dr=true
  ·rw[aj cd];refine⟨⟨hrf,hkh,hkn,hkt⟩,?_,by simp⟩;unfold l9;simp only[gQ];omega
  ·rw[ah cd];have fo:=OO f (by simp);have c3:=fo.c;obtain⟨p1,p2,p3⟩:=aaK (now+f.d) (lg f t) (f.c+1) H n hkh;have pw:=aaL (lg f t) (f.c+1) (now+f.d) H n hkh;have pm:=aaJ (lg f t) (f.c+1) (now+f.d) H n hkh;have hdl:=apa f t;refine⟨⟨hrf,p1,by simp only;omega,λy hy=>?_⟩,?_,by simp⟩
   ·rcases pm y hy with q|⟨q,-⟩
    ·exact hkt y q
    ·rw[q];omega
   ·have h5:=(Qm (lg f t)).2;have hmul:(f.c+1)*wT (lg f t)<=4*5:=Nat.mul_le_mul (by omega) h5;unfold l9;simp only[pw,p3,gQ];omega
def jR(now:Int):Wg->Lk->Lk
 |[],k=>k
 |t::r,k=>jR now r (nM now (ku t) k)
noncomputable def wW:Wg->Nat
 |[]=>0
 |x::r=>1+wT (ku x)+wW r
theorem Yu{t:Q0}(h:t.length<=65536):(ku t).length<=70000:=by have hv:=Nb 3 t.length (by omega) (by omega);rw[Yv];omega
theorem PY{now:Int}:∀(T:Wg){k:Lk},yP k->(∀t∈T,t.length<=65536)->yP (jR now T k)/\l9 (jR now T k)<=l9 k+wW T/\(jR now T k).f.length<=k.f.length
 |[],k,hk,_=>⟨hk,by simp[jR,wW],bV _⟩
 |t::r,k,hk,ht=>by obtain⟨h1,h2,h3⟩:=aa1 (now:=now) hk (Yu (ht t (by simp)));obtain⟨g1,g2,g3⟩:=PY (now:=now) r h1 (λu hu=>ht u (by simp[hu]));exact⟨g1,by simp only[jR,wW];omega,by simp only[jR];omega⟩
def aew(t:Q0):Int:=if(kL t).2.2=0 then 10 else(kL t).2.2
def oH(i:Nat)(t:Q0)(x:Pr):Pr:=
 if(kL t).2.2=0/\¬(kL t).2.1<t.length then
  (if i=0 then {x with s0:=(lq (kL t).1 x.s0).1,k0:=jR x.now (lq (kL t).1 x.s0).2.1 x.k0,rc:=x.rc++[(x.now,0,(lq (kL t).1 x.s0).2.2)]}
   else {x with s1:=(lq (kL t).1 x.s1).1,k1:=jR x.now (lq (kL t).1 x.s1).2.1 x.k1,rc:=x.rc++[(x.now,1,(lq (kL t).1 x.s1).2.2)]})
 else {x with rc:=x.rc++[(x.now,(i:Int),aew t)]}
structure gq(x:Pr):Prop where
 s0:qp x.s0
 s1:qp x.s1
 k0:yP x.k0
 k1:yP x.k1
 now:0<=x.now
noncomputable def dF (x:Pr):Nat:=l9 x.k0+l9 x.k1+x.rc.length
theorem Vk{b:aT}{v:Int}{u:Q0}(h:u∈lV b v)(hk:b.kind=2\/b.kind=7\/b.kind=8):u.length<=65536/\F7 [2,7,8] u:=by obtain⟨g1,g2⟩:=ayR h (by omega) (by omega);exact⟨g2,asI g1 λk hk'=>by rw[uy.1 hk'];rcases hk with e|e|e<;>rw[e]<;>simp⟩
theorem OE(t:Q0)(s:fK):∀u∈(lq t s).2.1,u.length<=65536/\F7 [2,7,8] u:=by
 intro u hu;unfold lq at hu;split at hu;rotate_left
 ·cases hu
 unfold Fz at hu;split at hu
 ·unfold oM at hu;repeat' split at hu
  all_goals first|(cases hu;done)|exact Vk hu (.inl rfl)|exact Vk hu (.inr (.inr rfl))
 split at hu
 ·unfold Hw at hu;repeat' split at hu
  all_goals cases hu
 split at hu
 ·unfold mM at hu;split at hu;rotate_left
  ·cases hu
  simp only at hu;split at hu
  ·cases hu
  next c=>
  rcases aAi (jg (lK t (qW s)).1 (lK t (qW s)).2.1 s.vs) s.vs (lK t (qW s)).1.kind (lK t (qW s)).1.epoch (lK t (qW s)).1.base (lK t (qW s)).1.t s.sm s.h with e|e|e
  ·exact absurd e c
  ·exact Vk hu (.inr (.inl e))
  ·exact Vk hu (.inr (.inr e))
 split at hu
 ·unfold qP at hu;split at hu<;>cases hu
 split at hu
 ·unfold noS at hu;repeat' split at hu
  all_goals cases hu
 ·cases hu
theorem afr{t:Q0}{s:fK}(h:F7 [2,7,8] t):(lq t s).2.1=[]:=by
 unfold lq;split;rotate_left
 ·rfl
 next e=>
 have hk:=h _ e;have hk:(lK t (qW s)).1.kind=2\/(lK t (qW s)).1.kind=7\/(lK t (qW s)).1.kind=8:=by simpa using hk
 unfold Fz;rw[ah (by omega)];split
 ·unfold Hw;repeat' split
  all_goals rfl
 rw[ah (by omega)];split
 ·unfold qP;split<;>rfl
 split
 ·unfold noS;repeat' split
  all_goals rfl
 ·rfl
theorem U9{t:Q0}{s:fK}:wW (lq t s).2.1<=3:=by
 have hl:=YN t s;have hd:=OE t s;generalize(lq t s).2.1=Uq at *;match Uq,hl with
 |[],_=>simp[wW]
 |[u],_=>
  obtain⟨h1,h2⟩:=hd u (by simp);have hq:Dead (ku u):=by intro _ _;rw[au8 h1];exact h2
  simp only[wW,ajF hq];omega
theorem adU{i:Nat}{t:Q0}{x:Pr}(hx:gq x):gq (oH i t x)/\dF (oH i t x)+1<=dF x+wT t:=by
 have hw:=Qm t;unfold oH;by_cases c:(kL t).2.2=0/\¬(kL t).2.1<t.length;rotate_left
 ·rw[ah c];refine⟨⟨hx.s0,hx.s1,hx.k0,hx.k1,hx.now⟩,?_⟩;unfold dF;simp only[fU,gQ,kT];omega
 rw[aj c];have hr0:=@U9 (kL t).1 x.s0;have hr1:=@U9 (kL t).1 x.s1;by_cases hd:Dead t
 ·have hk:=hd c.1 c.2;rw[ajF hd];rw[afr hk,afr hk];split
  ·refine⟨⟨KT hx.s0,hx.s1,hx.k0,hx.k1,hx.now⟩,?_⟩;unfold dF;simp only[jR,fU,gQ,kT];omega
  ·refine⟨⟨hx.s0,KT hx.s1,hx.k0,hx.k1,hx.now⟩,?_⟩;unfold dF;simp only[jR,fU,gQ,kT];omega
 ·rw[aA2 hd];split
  ·obtain⟨g1,g2,g3⟩:=PY (now:=x.now) (lq (kL t).1 x.s0).2.1 hx.k0 (λu hu=>(OE _ _ u hu).1);refine⟨⟨KT hx.s0,hx.s1,g1,hx.k1,hx.now⟩,?_⟩;unfold dF;simp only[fU,gQ,kT];omega
  ·obtain⟨g1,g2,g3⟩:=PY (now:=x.now) (lq (kL t).1 x.s1).2.1 hx.k1 (λu hu=>(OE _ _ u hu).1);refine⟨⟨hx.s0,KT hx.s1,hx.k0,g1,hx.now⟩,?_⟩;unfold dF;simp only[fU,gQ,kT];omega
theorem aen(t:Int):∀(m:Nat)(h:List It),h.length=m->Heap h h.length->wQ h=wS (fB m t h).1+wQ (fB m t h).2/\(∀y∈(fB m t h).2,y∈h)/\(∀u∈(fB m t h).1,∃y∈h,y.2.2=u)
 |0,h,hm,hh=>by obtain rfl:=Qy.1 hm;exact⟨rfl,λy hy=>hy,λu hu=>by cases hu⟩
 |m+1,h,hm,hh=>by
  unfold fB;split
  ·exact⟨by simp[wS],λy hy=>hy,λu hu=>by cases hu⟩
  ·obtain⟨r1,r2,r3,-⟩:=Va h m hm (by rw[<-hm];exact hh);obtain⟨g1,g2,g3⟩:=aen t m (mJ h) r1 (by rw[r1];exact r2);have hp:=ajE r3;simp only[wQ]at hp;refine⟨?_,λy hy=>r3.mem_iff.1 (wY _ (g2 y hy)),λu hu=>?_⟩
   ·simp only[wS];omega
   ·rcases bG.1 hu with e|hu
    ·exact⟨at_ h 0,r3.mem_iff.1 Qz,e.symm⟩
    ·obtain⟨y,hy,e⟩:=g3 u hu;exact⟨y,r3.mem_iff.1 (wY _ hy),e⟩
def tC(i:Nat):Wg->Pr->Pr
 |[],x=>x
 |t::r,x=>tC i r (oH i t x)
theorem XZ{i:Nat}:∀(T:Wg){x:Pr},gq x->gq (tC i T x)/\dF (tC i T x)+T.length<=dF x+wS T
 |[],x,hx=>⟨hx,by simp[tC,wS]⟩
 |t::r,x,hx=>by obtain⟨h1,h2⟩:=adU (i:=i) (t:=t) hx;obtain⟨g1,g2⟩:=XZ (i:=i) r h1;refine⟨g1,?_⟩;simp only[tC,wS,gQ];omega
def y7(x:Pr):Pr:={x with k0:={x.k0 with h:=(fB x.k0.h.length x.now x.k0.h).2}}
def Aq(x:Pr):Pr:={x with k1:={x.k1 with h:=(fB x.k1.h.length x.now x.k1.h).2}}
theorem SA{k:Lk}(t:Int)(hk:yP k):yP {k with h:=(fB k.h.length t k.h).2}/\l9 {k with h:=(fB k.h.length t k.h).2}+wS (fB k.h.length t k.h).1=l9 k/\∀u∈(fB k.h.length t k.h).1,u.length<=70000:=by
 obtain⟨g1,g2,g3⟩:=aen t k.h.length k.h rfl hk.h;have h2:=(Sz t k.h.length k.h rfl hk.h).1;refine⟨⟨hk.f,h2,hk.n,λy hy=>hk.t y (g2 y hy)⟩,?_,λu hu=>?_⟩
 ·unfold l9;simp only;omega
 ·obtain⟨y,hy,e⟩:=g3 u hu;rw[<-e];exact hk.t y hy
def yj(x:Pr):Pr:=tC 1 (fB x.k0.h.length x.now x.k0.h).1 (y7 x)
def zi(x:Pr):Pr:=tC 0 (fB x.k1.h.length x.now x.k1.h).1 (Aq x)
def uJ(x:Pr):Pr:=zi (yj x)
theorem afm{x:Pr}(hx:gq x):gq (yj x)/\dF (yj x)+(fB x.k0.h.length x.now x.k0.h).1.length<=dF x:=by
 obtain⟨d1,d2,d3⟩:=SA x.now hx.k0;obtain⟨g1,g2⟩:=XZ (i:=1) (fB x.k0.h.length x.now x.k0.h).1 (x:=y7 x) ⟨hx.s0,hx.s1,d1,hx.k1,hx.now⟩;refine⟨g1,?_⟩;have e:dF (y7 x)+wS (fB x.k0.h.length x.now x.k0.h).1=dF x:=by unfold dF y7;simp only;omega
 unfold yj;omega
theorem arn{x:Pr}(hx:gq x):gq (zi x)/\dF (zi x)+(fB x.k1.h.length x.now x.k1.h).1.length<=dF x:=by
 obtain⟨d1,d2,d3⟩:=SA x.now hx.k1;obtain⟨g1,g2⟩:=XZ (i:=0) (fB x.k1.h.length x.now x.k1.h).1 (x:=Aq x) ⟨hx.s0,hx.s1,hx.k0,d1,hx.now⟩;refine⟨g1,?_⟩;have e:dF (Aq x)+wS (fB x.k1.h.length x.now x.k1.h).1=dF x:=by unfold dF Aq;simp only;omega
 unfold zi;omega
theorem XU(i:Nat)(t:Q0)(x:Pr):(oH i t x).now=x.now:=by
 unfold oH;split
 ·split<;>rfl
 ·rfl
theorem XY(i:Nat):∀(T:Wg)(x:Pr),(tC i T x).now=x.now
 |[],x=>rfl
 |t::r,x=>(XY i r _).trans (XU i t x)
theorem afl(x:Pr):(yj x).now=x.now:=XY 1 _ _
theorem afo(x:Pr):(zi x).now=x.now:=XY 0 _ _
theorem RH(x:Pr):(uJ x).now=x.now:=(afo _).trans (afl x)
def nextL(h:List It):Option Int:=if h=[]then none else some (at_ h 0).1
def kK(x:Pr):Option Int:=match nextL x.k0.h,nextL x.k1.h with
 |some a,some b=>some (if b<a then b else a)
 |some a,none=>some a
 |none,o=>o
theorem aeo{h:List It}{a t:Int}(hn:nextL h=some a)(ha:a<=t):(fB h.length t h).1≠[]:=by
 unfold nextL at hn;split at hn
 ·cases hn
 next c=>
 injection hn with hn
 cases h with
 |nil=>exact absurd rfl c
 |cons y r=>simp only[gQ];unfold fB;rw[ah (λe=>e.elim (λe=>by cases e) (λe=>by omega))];simp
def wI:Nat->Pr->Pr
 |0,x=>x
 |f+1,x=>match kK x with
  |none=>x
  |some a=>if a<=x.now then wI f (uJ x)else x
theorem aph{h:List It}{t:Int}(hn:∀a,nextL h=some a->t<a):fB h.length t h=([],h):=by
 cases hl:h.length with
 |zero=>rfl
 |succ m=>
  unfold fB;rw[aj];by_cases c:h=[]
  ·exact .inl c
  ·exact .inr (hn _ (by unfold nextL;rw[ah c]))
theorem XG{x:Pr}(hx:gq x){a:Int}(hn:kK x=some a)(ha:a<=x.now):gq (uJ x)/\dF (uJ x)<dF x:=by
 obtain⟨g1,g2⟩:=afm hx;obtain⟨g3,g4⟩:=arn g1;refine⟨g3,?_⟩;unfold uJ;by_cases c:(fB x.k0.h.length x.now x.k0.h).1=[]
 rotate_left
 ·have:=JI.2 c;omega
 have h0:∀a,nextL x.k0.h=some a->x.now<a:=λa h=>by
  rcases Int.lt_or_le x.now a with q|q
  ·exact q
  ·exact absurd c (aeo h q)
 have e0:yj x=x:=by have e:=aph h0;unfold yj y7;rw[e];rfl
 have h1:∃b,nextL x.k1.h=some b/\b<=x.now:=by
  unfold kK at hn;cases q0:nextL x.k0.h with
  |none=>rw[q0]at hn;exact⟨a,hn,ha⟩
  |some a0=>
   have:=h0 a0 q0;rw[q0]at hn;cases q1:nextL x.k1.h with
   |none=>rw[q1]at hn;injection hn with hn;omega
   |some b=>
    rw[q1]at hn;injection hn with hn
    refine⟨b,rfl,?_⟩;split at hn<;>omega
 obtain⟨b,hb,hbn⟩:=h1;have:=JI.2 (aeo hb hbn);rw[e0]at g4⊢;omega
theorem aik:∀(f:Nat){x:Pr},gq x->gq (wI f x)/\dF (wI f x)<=dF x/\(wI f x).now=x.now
 |0,x,hx=>⟨hx,bV _,rfl⟩
 |f+1,x,hx=>by
  unfold wI;cases hn:kK x with
  |none=>exact⟨hx,bV _,rfl⟩
  |some a=>
   simp only;split
   ·next c=>
    obtain⟨h1,h2⟩:=XG hx hn c;obtain⟨g1,g2,g3⟩:=aik f h1;exact⟨g1,by omega,g3.trans (RH x)⟩
   ·exact⟨hx,bV _,rfl⟩
theorem run_end:∀(f:Nat){x:Pr},gq x->dF x<f->∀a,kK (wI f x)=some a->x.now<a
 |0,x,hx,hf=>by omega
 |f+1,x,hx,hf=>by
  intro a ha;unfold wI at ha;cases hn:kK x with
  |none=>rw[hn]at ha;simp only at ha;rw[hn]at ha;cases ha
  |some b=>
   rw[hn]at ha;simp only at ha;split at ha
   ·next c=>
    obtain⟨h1,h2⟩:=XG hx hn c;have:=run_end f h1 (by omega) a ha;rw[RH]at this;exact this
   ·next c=>rw[hn]at ha;injection ha with ha;omega
noncomputable def kY (a:Int) (x:Pr):Pr:=wI (dF x+1) {x with now:=if x.now+1<a then a else x.now+1}
noncomputable def ig:Nat->Int->Pr->Pr
 |0,_,x=>x
 |f+1,last,x=>if x.now<last then(match kK x with
   |none=>{x with now:=last}
   |some a=>if last<a then {x with now:=last}else ig f last (kY a x))else x
theorem NQ{a:Int}{x:Pr}(hx:gq x):gq (kY a x)/\dF (kY a x)<=dF x/\(kY a x).now=(if x.now+1<a then a else x.now+1)/\∀b,kK (kY a x)=some b->(kY a x).now<b:=by
 have h0:gq {x with now:=if x.now+1<a then a else x.now+1}:=⟨hx.s0,hx.s1,hx.k0,hx.k1,by have:=hx.now;simp only;split<;>omega⟩
 obtain⟨g1,g2,g3⟩:=aik (dF x+1) h0;have e:=run_end (dF x+1) h0 (show dF _<dF x+1 from BM _);refine⟨g1,g2,g3,λb hb=>?_⟩;have:=e b hb;rw[show(kY a x).now=_ from g3];exact this
noncomputable def uo (n:Int) (x:Pr):Pr:=ig (n.toNat+1) (x.now+n) x
theorem go_ok:∀(f:Nat){last:Int}{x:Pr},gq x->(last-x.now).toNat<f->gq (ig f last x)/\dF (ig f last x)<=dF x/\(x.now<=last->(ig f last x).now=last)
 |0,last,x,hx,hf=>by omega
 |f+1,last,x,hx,hf=>by
  unfold ig;split;rotate_left
  ·exact⟨hx,bV _,λh=>by omega⟩
  next c=>
  have hl:gq {x with now:=last}:=⟨hx.s0,hx.s1,hx.k0,hx.k1,by have:=hx.now;simp only;omega⟩
  cases hn:kK x with
  |none=>exact⟨hl,bV _,λ_=>rfl⟩
  |some a=>
   simp only;split
   ·exact⟨hl,bV _,λ_=>rfl⟩
   ·next c2=>
    obtain⟨h1,h2,h3,-⟩:=NQ (a:=a) hx;have hle:(kY a x).now<=last/\x.now<(kY a x).now:=by rw[h3];split<;>omega
    obtain⟨g1,g2,g3⟩:=go_ok f (last:=last) h1 (by omega);exact⟨g1,by omega,λ_=>g3 hle.1⟩
theorem Uu{k:Lk}(hk:yP k){B:Nat}(h:l9 k<=B):k.h.length<=B/\k.n<=B/\k.f.length<=B:=by have h1:=abK k.h;have h2:=hk.n;unfold l9 at h;omega
theorem ait(x:Pr)(T:Wg)(hT:T.length<=1000)(ht:∀t∈T,t.length<=65536)(jc:0<=x.now/\x.now<=800000000000):∀(m j:Nat)(k:Lk),j+m=T.length->yP k->l9 k+wW (T.drop j)<=90000->
 TT.lim 238 ([.i .i64 0,.l (T.map .s),.i .i64 (T.length:Int),.i .i64 (j:Int)]++bZ {x with k0:=k})=some (.i .i64 0::(fA x.k1++fA (jR x.now (T.drop j) k)))
 |0,j,k,hj,hk,hg=>by
  have hn:¬((j:Int)<T.length):=by omega
  rw[fZ (by omega)];simp only[jR,bZ,fA,dL,bC,aV];refine au rfl rfl ?_;simp -implicitDefEqProofs[hn]
 |m+1,j,k,hj,hk,hg=>by
  have hlt:j<T.length:=by omega
  have hn:(j:Int)<T.length:=by omega
  have hw:IntKind.i64.wrap ((j:Int)+1)=((j+1:Nat):Int):=by rw[wrap64 (by omega) (by omega)];omega
  have hd:T.drop j=T[j]::T.drop (j+1):=gY hlt;have hat:at2 1 (some (.l (T.map .s))) (some (.i .i64 (j:Int)))=some (.s T[j]):=by rw[dY,aj (by omega),wX,iP,bK hlt];rfl
  have hmem:T[j]∈T:=gK hlt;rw[hd]at hg⊢;generalize T[j]=t at *;have ht1:=ht t hmem;have hwr:=ajJ t ht1;have hfl:=Yu ht1;simp only[wW]at hg;obtain⟨l1,l2,l3⟩:=Uu hk (B:=90000) (by omega);have hs:=aix x.now (ku t) k hk.f (by omega) (by omega) ⟨jc.1,by omega⟩ (by omega) hk.n (by omega) hk.h;obtain⟨g1,g2,g3⟩:=aa1 (now:=x.now) hk hfl;have ih:=ait x T hT ht jc m (j+1) (nM x.now (ku t) k) (by omega) g1 (by omega);rw[show jR x.now (t::T.drop (j+1)) k=jR x.now (T.drop (j+1)) (nM x.now (ku t) k)from rfl];generalize jR x.now (T.drop (j+1)) (nM x.now (ku t) k)=E at *;generalize nM x.now (ku t) k=R at *;generalize ku t=ft at *;simp only[bZ,fA,dL,bC,aV]at ih⊢;rw[<-hw]at ih;generalize T.map GV.s=TG at *;generalize(T.length:Int)=n0 at *;refine au rfl rfl ?_;simp -implicitDefEqProofs[hn,hat,hwr,hs,ih]
theorem aiu(x:Pr)(T:Wg)(hT:T.length<=1000)(ht:∀t∈T,t.length<=65536)(jc:0<=x.now/\x.now<=800000000000):∀(m j:Nat)(k:Lk),j+m=T.length->yP k->l9 k+wW (T.drop j)<=90000->
 TT.lim 238 ([.i .i64 1,.l (T.map .s),.i .i64 (T.length:Int),.i .i64 (j:Int)]++bZ {x with k1:=k})=some (.i .i64 0::(fA (jR x.now (T.drop j) k)++fA x.k0))
 |0,j,k,hj,hk,hg=>by
  have hn:¬((j:Int)<T.length):=by omega
  rw[fZ (by omega)];simp only[jR,bZ,fA,dL,bC,aV];refine au rfl rfl ?_;simp -implicitDefEqProofs[hn]
 |m+1,j,k,hj,hk,hg=>by
  have hlt:j<T.length:=by omega
  have hn:(j:Int)<T.length:=by omega
  have hw:IntKind.i64.wrap ((j:Int)+1)=((j+1:Nat):Int):=by rw[wrap64 (by omega) (by omega)];omega
  have hd:T.drop j=T[j]::T.drop (j+1):=gY hlt;have hat:at2 1 (some (.l (T.map .s))) (some (.i .i64 (j:Int)))=some (.s T[j]):=by rw[dY,aj (by omega),wX,iP,bK hlt];rfl
  have hmem:T[j]∈T:=gK hlt;rw[hd]at hg⊢;generalize T[j]=t at *;have ht1:=ht t hmem;have hwr:=ajJ t ht1;have hfl:=Yu ht1;simp only[wW]at hg;obtain⟨l1,l2,l3⟩:=Uu hk (B:=90000) (by omega);have hs:=aix x.now (ku t) k hk.f (by omega) (by omega) ⟨jc.1,by omega⟩ (by omega) hk.n (by omega) hk.h;obtain⟨g1,g2,g3⟩:=aa1 (now:=x.now) hk hfl;have ih:=aiu x T hT ht jc m (j+1) (nM x.now (ku t) k) (by omega) g1 (by omega);rw[show jR x.now (t::T.drop (j+1)) k=jR x.now (T.drop (j+1)) (nM x.now (ku t) k)from rfl];generalize jR x.now (T.drop (j+1)) (nM x.now (ku t) k)=E at *;generalize nM x.now (ku t) k=R at *;generalize ku t=ft at *;simp only[bZ,fA,dL,bC,aV]at ih⊢;rw[<-hw]at ih;generalize T.map GV.s=TG at *;generalize(T.length:Int)=n0 at *;refine au rfl rfl ?_;simp -implicitDefEqProofs[hn,hat,hwr,hs,ih]
theorem Vl(x:Pr)(hx:gq x)(T:Wg)(hT:T.length<=1000)(ht:∀t∈T,t.length<=65536)(jc:x.now<=800000000000)(hg:l9 x.k0+wW T<=90000):
 TT.lim 237 ([.i .i64 0,.l (T.map .s)]++bZ x)=some (.i .i64 0::(fA x.k1++fA (jR x.now T x.k0))):=by
 have h:=ait x T hT ht ⟨hx.now,jc⟩ T.length 0 x.k0 (by omega) hx.k0 (by rw[dD];exact hg);rw[dD]at h;have hlen:((T.map GV.s).length:Int)=(T.length:Int):=by rw[fE]
 generalize jR x.now T x.k0=E at *;simp only[bZ,fA,dL,bC,aV,qZ]at h⊢;generalize T.map GV.s=TG at *;generalize(T.length:Int)=n0 at *;refine au rfl rfl ?_;simp -implicitDefEqProofs[hlen,h]
theorem Vm(x:Pr)(hx:gq x)(T:Wg)(hT:T.length<=1000)(ht:∀t∈T,t.length<=65536)(jc:x.now<=800000000000)(hg:l9 x.k1+wW T<=90000):
 TT.lim 237 ([.i .i64 1,.l (T.map .s)]++bZ x)=some (.i .i64 0::(fA (jR x.now T x.k1)++fA x.k0)):=by
 have h:=aiu x T hT ht ⟨hx.now,jc⟩ T.length 0 x.k1 (by omega) hx.k1 (by rw[dD];exact hg);rw[dD]at h;have hlen:((T.map GV.s).length:Int)=(T.length:Int):=by rw[fE]
 generalize jR x.now T x.k1=E at *;simp only[bZ,fA,dL,bC,aV,qZ]at h⊢;generalize T.map GV.s=TG at *;generalize(T.length:Int)=n0 at *;refine au rfl rfl ?_;simp -implicitDefEqProofs[hlen,h]
theorem Ri{l:List (Int×Int×Int)}(e:Int×Int×Int)(h:l.length<=100000):Gs 3 24 (some (.l (l.map lM))) (some (.l [lM e]))=some (.l ((l++[e]).map lM)):=by
 rw[Eo,aj]
 ·rw[lX];rfl
 ·refine⟨rfl,?_,?_⟩<;>simp only[fE,gQ,kT]<;>omega
set_option maxHeartbeats 4000000 in
theorem alN(i:Nat)(hi:i=0\/i=1)(t:Q0)(x:Pr)(hx:gq x)(ht:t.length<=70000)(jc:x.now<=800000000000)(hg:dF x<=80000):
 TT.lim 239 (.s t::(bZ x++[.i .i64 (i:Int)]))=some (.i .i64 0::iM (oH i t x)):=by
 have hp:=ahk t (by omega);have hpl:=au9 t;unfold dF at hg;have hrl:x.rc.length<=100000:=by omega
 unfold oH aew;generalize kL t=P at *;obtain⟨p,n,e⟩:=P;simp only at hp hpl⊢;by_cases c1:e=0;rotate_left
 ·rw[ah (λh=>c1 h.1),ah c1];have ha:=Ri (x.now,(i:Int),e) hrl;have hs:TT.lim 237 ([.i .i64 (i:Int),.l []]++bZ {x with rc:=x.rc++[(x.now,(i:Int),e)]})=some (.i .i64 0::(fA x.k1++fA x.k0)):=by
   rcases hi with rfl|rfl
   ·exact Vl {x with rc:=x.rc++[(x.now,((0:Nat):Int),e)]} ⟨hx.s0,hx.s1,hx.k0,hx.k1,hx.now⟩ [] (by simp) (λt h=>by cases h) jc (by simp only[wW];omega)
   ·exact Vm {x with rc:=x.rc++[(x.now,((1:Nat):Int),e)]} ⟨hx.s0,hx.s1,hx.k0,hx.k1,hx.now⟩ [] (by simp) (λt h=>by cases h) jc (by simp only[wW];omega)
  simp only[bZ,iM,fA,dL,lW,bC,aV]at hs⊢;generalize(x.rc++[(x.now,(i:Int),e)]).map lM=RG at *;generalize(i:Int)=ii at *;refine au rfl rfl ?_;simp -implicitDefEqProofs[hp,c1,SE,ha,hs]
 subst c1;by_cases c2:n<t.length
 ·rw[ah (λh=>h.2 c2),aj rfl];have ha:=Ri (x.now,(i:Int),10) hrl;have hs:TT.lim 237 ([.i .i64 (i:Int),.l []]++bZ {x with rc:=x.rc++[(x.now,(i:Int),10)]})=some (.i .i64 0::(fA x.k1++fA x.k0)):=by
   rcases hi with rfl|rfl
   ·exact Vl {x with rc:=x.rc++[(x.now,((0:Nat):Int),10)]} ⟨hx.s0,hx.s1,hx.k0,hx.k1,hx.now⟩ [] (by simp) (λt h=>by cases h) jc (by simp only[wW];omega)
   ·exact Vm {x with rc:=x.rc++[(x.now,((1:Nat):Int),10)]} ⟨hx.s0,hx.s1,hx.k0,hx.k1,hx.now⟩ [] (by simp) (λt h=>by cases h) jc (by simp only[wW];omega)
  simp only[bZ,iM,fA,dL,lW,bC,aV]at hs⊢;generalize(x.rc++[(x.now,(i:Int),10)]).map lM=RG at *;generalize(i:Int)=ii at *;refine au rfl rfl ?_;simp -implicitDefEqProofs[hp,c2,SE,ha,hs]
 rw[aj ⟨rfl,c2⟩];rcases hi with rfl|rfl
 ·rw[aj rfl];have hh:=afs p x.s0 (by omega) hx.s0;have hst:=TK p x.s0;have YX:=KT (t:=p) hx.s0;have hrw:=@U9 p x.s0;have hsd:=OE p x.s0;have hle:=YN p x.s0;generalize lq p x.s0=H at *;have ha:=Ri (x.now,0,H.2.2) hrl;have hs:=Vl {x with s0:=H.1,rc:=x.rc++[(x.now,0,H.2.2)]} ⟨YX,hx.s1,hx.k0,hx.k1,hx.now⟩ H.2.1 (by omega) (λu hu=>(hsd u hu).1) jc (by simp only;omega);simp only[bZ,iM,fA,dL,lW,TN,bC,aV]at hs hh⊢;rw[hst.1,hst.2.1,hst.2.2.1,hst.2.2.2]at hs;generalize jR x.now H.2.1 x.k0=K at *;generalize(x.rc++[(x.now,0,H.2.2)]).map lM=RG at *;generalize H.2.1.map GV.s=UG at *;refine au rfl rfl ?_;simp -implicitDefEqProofs[hp,c2,SE,hh,ha,hs]
 ·rw[ah (by omega)];have hh:=afs p x.s1 (by omega) hx.s1;have hst:=TK p x.s1;have YX:=KT (t:=p) hx.s1;have hrw:=@U9 p x.s1;have hsd:=OE p x.s1;have hle:=YN p x.s1;generalize lq p x.s1=H at *;have ha:=Ri (x.now,1,H.2.2) hrl;have hs:=Vm {x with s1:=H.1,rc:=x.rc++[(x.now,1,H.2.2)]} ⟨hx.s0,YX,hx.k0,hx.k1,hx.now⟩ H.2.1 (by omega) (λu hu=>(hsd u hu).1) jc (by simp only;omega);simp only[bZ,iM,fA,dL,lW,TN,bC,aV]at hs hh⊢;rw[hst.1,hst.2.1,hst.2.2.1,hst.2.2.2]at hs;generalize jR x.now H.2.1 x.k1=K at *;generalize(x.rc++[(x.now,1,H.2.2)]).map lM=RG at *;generalize H.2.1.map GV.s=UG at *;refine au rfl rfl ?_;simp -implicitDefEqProofs[hp,c2,SE,hh,ha,hs]
theorem XV(i:Nat)(t:Q0)(x:Pr):((oH i t x).s0.mn=x.s0.mn/\(oH i t x).s0.mx=x.s0.mx/\(oH i t x).s0.name=x.s0.name/\(oH i t x).s0.first=x.s0.first)/\((oH i t x).s1.mn=x.s1.mn/\(oH i t x).s1.mx=x.s1.mx/\(oH i t x).s1.name=x.s1.name/\(oH i t x).s1.first=x.s1.first):=by
 unfold oH;split
 ·split
  ·exact⟨TK _ _,rfl,rfl,rfl,rfl⟩
  ·exact⟨⟨rfl,rfl,rfl,rfl⟩,TK _ _⟩
 ·exact⟨⟨rfl,rfl,rfl,rfl⟩,rfl,rfl,rfl,rfl⟩
structure Fix(x y:Pr):Prop where
 a:y.s0.mn=x.s0.mn/\y.s0.mx=x.s0.mx/\y.s0.name=x.s0.name/\y.s0.first=x.s0.first
 b:y.s1.mn=x.s1.mn/\y.s1.mx=x.s1.mx/\y.s1.name=x.s1.name/\y.s1.first=x.s1.first
theorem Fix.refl(x:Pr):Fix x x:=⟨⟨rfl,rfl,rfl,rfl⟩,rfl,rfl,rfl,rfl⟩
theorem Fix.trans{x y z:Pr}(h:Fix x y)(g:Fix y z):Fix x z:=
 ⟨⟨g.a.1.trans h.a.1,g.a.2.1.trans h.a.2.1,g.a.2.2.1.trans h.a.2.2.1,g.a.2.2.2.trans h.a.2.2.2⟩,⟨g.b.1.trans h.b.1,g.b.2.1.trans h.b.2.1,g.b.2.2.1.trans h.b.2.2.1,g.b.2.2.2.trans h.b.2.2.2⟩⟩
theorem XW(i:Nat):∀(T:Wg)(x:Pr),Fix x (tC i T x)
 |[],x=>Fix.refl x
 |t::r,x=>Fix.trans ⟨(XV i t x).1,(XV i t x).2⟩ (XW i r _)
theorem afk(x:Pr):Fix x (yj x):=Fix.trans (y:=y7 x) ⟨⟨rfl,rfl,rfl,rfl⟩,rfl,rfl,rfl,rfl⟩ (XW 1 _ (y7 x))
theorem afn(x:Pr):Fix x (zi x):=Fix.trans (y:=Aq x) ⟨⟨rfl,rfl,rfl,rfl⟩,rfl,rfl,rfl,rfl⟩ (XW 0 _ (Aq x))
theorem ady(x:Pr):Fix x (uJ x):=(afk x).trans (afn _)
theorem aii:∀(f:Nat)(x:Pr),Fix x (wI f x)
 |0,x=>Fix.refl x
 |f+1,x=>by
  unfold wI;cases kK x with
  |none=>exact Fix.refl x
  |some a=>
   simp only;split
   ·exact(ady x).trans (aii f _)
   ·exact Fix.refl x
theorem ac0(a:Int)(x:Pr):Fix x (kY a x):=Fix.trans (y:={x with now:=if x.now+1<a then a else x.now+1}) ⟨⟨rfl,rfl,rfl,rfl⟩,rfl,rfl,rfl,rfl⟩ (aii _ _)
theorem aff:∀(f:Nat)(last:Int)(x:Pr),Fix x (ig f last x)
 |0,last,x=>Fix.refl x
 |f+1,last,x=>by
  unfold ig;split;rotate_left
  ·exact Fix.refl x
  cases kK x with
  |none=>exact⟨⟨rfl,rfl,rfl,rfl⟩,rfl,rfl,rfl,rfl⟩
  |some a=>
   simp only;split
   ·exact⟨⟨rfl,rfl,rfl,rfl⟩,rfl,rfl,rfl,rfl⟩
   ·exact(ac0 a x).trans (aff f last _)
theorem X0(i:Nat)(hi:i=0\/i=1)(T:Wg)(hT:T.length<=100000)(ht:∀t∈T,t.length<=70000):∀(m j:Nat)(x:Pr),j+m=T.length->gq x->x.now<=800000000000->dF x+wS (T.drop j)<=80000->
 TT.lim 248 ([.i .i64 (1-(i:Int)),.l (T.map .s),.i .i64 (T.length:Int),.i .i64 (j:Int)]++bZ x)=some (.i .i64 0::iM (tC i (T.drop j) x))
 |0,j,x,hj,hx,jc,hg=>by
  have hn:¬((j:Int)<T.length):=by omega
  rw[fZ (by omega)];simp only[tC,bZ,iM,fA,dL,lW,bC,aV];refine au rfl rfl ?_;simp -implicitDefEqProofs[hn]
 |m+1,j,x,hj,hx,jc,hg=>by
  have hlt:j<T.length:=by omega
  have hn:(j:Int)<T.length:=by omega
  have hw:IntKind.i64.wrap ((j:Int)+1)=((j+1:Nat):Int):=by rw[wrap64 (by omega) (by omega)];omega
  have hd:T.drop j=T[j]::T.drop (j+1):=gY hlt;have hat:at2 1 (some (.l (T.map .s))) (some (.i .i64 (j:Int)))=some (.s T[j]):=by rw[dY,aj (by omega),wX,iP,bK hlt];rfl
  have hidx:Dc (some (.l (T.map .s))) (some (.i .i64 (j:Int)))=some (.i .i64 (j:Int)):=by rw[jh,aj ⟨by omega,by rw[fE];omega⟩]
  have hmem:T[j]∈T:=gK hlt;rw[hd]at hg⊢;generalize T[j]=t at *;simp only[wS]at hg;have hwt:=Qm t;have hc:=alN i hi t x hx (ht t hmem) jc (by omega);obtain⟨g1,g2⟩:=adU (i:=i) (t:=t) hx;have ih:=X0 i hi T hT ht m (j+1) (oH i t x) (by omega) g1 (by rw[XU];exact jc) (by omega);have hst:=XV i t x;have hnw:=XU i t x;have wi:IntKind.i64.wrap (1-(1-(i:Int)))=(i:Int):=by rcases hi with rfl|rfl<;>rfl
  rw[show tC i (t::T.drop (j+1)) x=tC i (T.drop (j+1)) (oH i t x)from rfl];generalize tC i (T.drop (j+1)) (oH i t x)=E at *;generalize oH i t x=Y at *;simp only[bZ,iM,fA,dL,lW,bC,aV]at hc ih⊢;rw[hnw,hst.1.1,hst.1.2.1,hst.1.2.2.1,hst.1.2.2.2,hst.2.1,hst.2.2.1,hst.2.2.2.1,hst.2.2.2.2,<-hw]at ih;generalize T.map GV.s=TG at *;generalize(T.length:Int)=n0 at *;generalize(j:Int)=jj at *;refine au rfl rfl ?_;simp -implicitDefEqProofs[-jh,-dY,hn,hat,hidx,wi,hc,ih]
set_option maxHeartbeats 4000000 in
theorem ak3(x:Pr)(hx:gq x)(jc:x.now<=800000000000)(hg:dF x<=80000):TT.lim 246 (bZ x)=some (.i .i64 0::iM (uJ x)):=by
 have w1:IntKind.i64.wrap 1=1:=rfl;have w2:IntKind.i64.wrap 2=2:=rfl;have fin:∀y:Pr,TT.lim 247 (.i .i64 2::bZ y)=some (.i .i64 0::iM y):=by intro y;simp only[bZ,iM,fA,dL,lW,bC,aV];refine au rfl rfl ?_;simp
 have one:∀y:Pr,gq y->y.now<=800000000000->dF y<=80000->TT.lim 247 (.i .i64 1::bZ y)=some (.i .i64 0::iM (zi y)):=by
  intro y hy yn yg;obtain⟨d1,d2,d3⟩:=SA y.now hy.k1;have hl:=abK y.k1.h;have hgk:l9 y.k1<=80000:=by unfold dF at yg;omega
  have YM:=aem y.now (.i .u64 y.k1.n) y.k1.h (by unfold l9 at hgk;omega) hy.k1.h;have hdl:(fB y.k1.h.length y.now y.k1.h).1.length<=100000:=by have:=(Sz y.now y.k1.h.length y.k1.h rfl hy.k1.h).2;unfold l9 at hgk;omega
  have hcm:=X0 0 (.inl rfl) (fB y.k1.h.length y.now y.k1.h).1 hdl d3 (fB y.k1.h.length y.now y.k1.h).1.length 0 (Aq y) (by omega) ⟨hy.s0,hy.s1,hy.k0,d1,hy.now⟩ yn (by rw[dD];unfold dF Aq at *;simp only at *;omega)
  rw[dD]at hcm;have e:=fin (zi y);have hf:=afn y;have hnw:=afo y;rw[show tC 0 (fB y.k1.h.length y.now y.k1.h).1 (Aq y)=zi y from rfl]at hcm;generalize zi y=E at *;unfold Aq at hcm;generalize fB y.k1.h.length y.now y.k1.h=D at *;have hlen:((D.1.map GV.s).length:Int)=(D.1.length:Int):=by rw[fE]
  have hcm:TT.lim 248 ([.i .i64 1,.l (D.1.map .s),.i .i64 (D.1.length:Int),.i .i64 0]++bZ {y with k1:={y.k1 with h:=D.2}})=some (.i .i64 0::iM E):=hcm;simp only[bZ,iM,fA,dL,lW,bC,aV]at hcm e⊢;rw[hnw,hf.a.1,hf.a.2.1,hf.a.2.2.1,hf.a.2.2.2,hf.b.1,hf.b.2.1,hf.b.2.2.1,hf.b.2.2.2]at e;generalize D.1.map GV.s=DG at *;generalize(D.1.length:Int)=n0 at *;refine au rfl rfl ?_;simp -implicitDefEqProofs[w2,YM,hlen,hcm,e]
 have zero:∀y:Pr,gq y->y.now<=800000000000->dF y<=80000->TT.lim 247 (.i .i64 0::bZ y)=some (.i .i64 0::iM (uJ y)):=by
  intro y hy yn yg;obtain⟨d1,d2,d3⟩:=SA y.now hy.k0;have hl:=abK y.k0.h;have hgk:l9 y.k0<=80000:=by unfold dF at yg;omega
  have YM:=aem y.now (.i .u64 y.k0.n) y.k0.h (by unfold l9 at hgk;omega) hy.k0.h;have hdl:(fB y.k0.h.length y.now y.k0.h).1.length<=100000:=by have:=(Sz y.now y.k0.h.length y.k0.h rfl hy.k0.h).2;unfold l9 at hgk;omega
  have hcm:=X0 1 (.inr rfl) (fB y.k0.h.length y.now y.k0.h).1 hdl d3 (fB y.k0.h.length y.now y.k0.h).1.length 0 (y7 y) (by omega) ⟨hy.s0,hy.s1,d1,hy.k1,hy.now⟩ yn (by rw[dD];unfold dF y7 at *;simp only at *;omega)
  rw[dD]at hcm;obtain⟨g1,g2⟩:=afm hy;have hnw:=afl y;have e:=one (yj y) g1 (by rw[hnw];exact yn) (by omega);have hf:=afk y;rw[show zi (yj y)=uJ y from rfl]at e;rw[show tC 1 (fB y.k0.h.length y.now y.k0.h).1 (y7 y)=yj y from rfl]at hcm;generalize uJ y=C at *;generalize yj y=E at *;unfold y7 at hcm;generalize fB y.k0.h.length y.now y.k0.h=D at *;have hlen:((D.1.map GV.s).length:Int)=(D.1.length:Int):=by rw[fE]
  have hcm:TT.lim 248 ([.i .i64 0,.l (D.1.map .s),.i .i64 (D.1.length:Int),.i .i64 0]++bZ {y with k0:={y.k0 with h:=D.2}})=some (.i .i64 0::iM E):=hcm;simp only[bZ,iM,fA,dL,lW,bC,aV]at hcm e⊢;rw[hnw,hf.a.1,hf.a.2.1,hf.a.2.2.1,hf.a.2.2.2,hf.b.1,hf.b.2.1,hf.b.2.2.1,hf.b.2.2.2]at e;generalize D.1.map GV.s=DG at *;generalize(D.1.length:Int)=n0 at *;refine au rfl rfl ?_;simp -implicitDefEqProofs[w1,YM,hlen,hcm,e]
 have h:=zero x hx jc hg;generalize uJ x=C at *;simp only[bZ,iM,fA,dL,lW,bC,aV]at h⊢;refine au rfl rfl ?_;simp -implicitDefEqProofs[h]
def Pg(x:Pr):Int:=(kK x).getD 0
theorem ag4(x:Pr):(x.k0.h=[]/\x.k1.h=[]/\kK x=none)\/(∃n,x.k0.h.length=n+1/\x.k1.h=[]/\kK x=some (at_ x.k0.h 0).1)\/(∃n,x.k0.h=[]/\x.k1.h.length=n+1/\kK x=some (at_ x.k1.h 0).1)\/
 (∃n m,x.k0.h.length=n+1/\x.k1.h.length=m+1/\kK x=some (if(at_ x.k1.h 0).1<(at_ x.k0.h 0).1 then(at_ x.k1.h 0).1 else(at_ x.k0.h 0).1)):=by
 unfold kK nextL;cases h0:x.k0.h with
 |nil=>
  cases h1:x.k1.h with
  |nil=>exact .inl ⟨rfl,rfl,rfl⟩
  |cons y r=>exact .inr (.inr (.inl ⟨r.length,rfl,rfl,rfl⟩))
 |cons z q=>
  cases h1:x.k1.h with
  |nil=>exact .inr (.inl ⟨q.length,rfl,rfl,rfl⟩)
  |cons y r=>exact .inr (.inr (.inr ⟨q.length,r.length,rfl,rfl,rfl⟩))
