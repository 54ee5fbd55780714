/- What the trees compute: plain laws. -/
import Derived.Test.YteenmipdepcibaaGreatDoorKPe4
set_option linter.unusedSimpArgs false
set_option linter.unusedVariables false
namespace Go.Proofs.YteenmipdepcibaaGreatDoor
open Go Go.aN
set_option maxRecDepth 100000
namespace P
mutual
def Ti:aI->List UInt8
 |.mk t y n s k=>aY (4*t+y).toNat++(if y=0 then aY n.toNat else if y=1 then aY s.length++s else aY (dU k).length++dU k)
def dU:List aI->List UInt8
 |[]=>[]
 |f::l=>Ti f++dU l
end
mutual
def wF:aI->Nat
 |.mk _ _ _ s k=>s.length+40+wL k
def wL:List aI->Nat
 |[]=>0
 |f::l=>wF f+wL l
end
mutual
def MV:aI->Prop
 |.mk t y n s k=>(1<=t/\t<=4294967296)/\((y=0/\s=[]/\k=[])\/(y=1/\n=0/\k=[])\/(y=2/\n=0/\s=[]))/\wP k
def wP:List aI->Prop
 |[]=>True
 |f::l=>MV f/\wP l
end
theorem abx:∀{l:List aI},wP l->∀f∈l,MV f
 |f::l,h,g,hg=>by
  simp only[wP]at h;rcases bG.1 hg with rfl|hg
  ·exact h.1
  ·exact abx h.2 g hg
theorem XP:∀(N:Nat)(l:List aI),cO l<N->dS l->∀w a,jF w a l=0->0<=a->wP l
 |0,l,h,_,_,_,_,_=>by omega
 |N+1,[],_,_,_,_,_,_=>by simp only[wP]
 |N+1,.mk t y n s k::l,hN,hok,w,a,h,ha=>by
  simp only[cO,uq]at hN;simp only[dS,tK]at hok;unfold jF at h;by_cases h1:(aI.mk t y n s k).tag=0
  ·rw[aj h1]at h;exact absurd h (by decide)
  rw[ah h1]at h;by_cases h2:4294967296<(aI.mk t y n s k).tag
  ·rw[aj h2]at h;exact absurd h (by decide)
  rw[ah h2]at h;by_cases h3:(aI.mk t y n s k).tag<=a
  ·rw[aj h3]at h;exact absurd h (by decide)
  rw[ah h3]at h;by_cases h4:Ah w (.mk t y n s k)=0;rotate_left
  ·rw[aj h4]at h;exact absurd h h4
  rw[ah (λe=>e h4)]at h;have h1:¬t=0:=h1;have h2:¬4294967296<t:=h2;have h3:¬t<=a:=h3;simp only[wP,MV];refine⟨⟨by omega,?_,?_⟩,XP N l (by omega) hok.2 w t h (by omega)⟩
  ·simp only[Ah]at h4;split at h4
   ·rename_i hy
    split at h4
    ·rename_i hc;exact .inl ⟨hy,hc⟩
    ·cases h4
   ·split at h4
    ·rename_i hy
     split at h4
     ·rename_i hc;exact .inr (.inl ⟨hy,hc⟩)
     ·cases h4
    ·split at h4
     ·rename_i hy
      split at h4
      ·rename_i hc;exact .inr (.inr ⟨hy,hc⟩)
      ·cases h4
     ·cases h4
  ·simp only[Ah]at h4;split at h4
   ·split at h4
    ·rename_i hc;rw[hc.2];simp only[wP]
    ·cases h4
   ·split at h4
    ·split at h4
     ·rename_i hc;rw[hc.2];simp only[wP]
     ·cases h4
    ·split at h4
     ·split at h4
      ·split at h4
       ·cases h4
       ·exact XP N k (by omega) hok.1.2 _ _ h4 (by omega)
      ·cases h4
     ·cases h4
theorem Oy:∀(N:Nat)(l:List aI),cO l<N->dS l->wP l->wL l<=1000000000000->(dU l).length<=wL l
 |0,l,h,_,_,_=>by omega
 |N+1,[],_,_,_,_=>by simp[dU]
 |N+1,.mk t y n s k::l,hN,hok,hty,hw=>by
  simp only[cO,uq]at hN;simp only[dS,tK]at hok;simp only[wP,MV]at hty;simp only[wL,wF]at hw⊢;have h1:=Oy N l (by omega) hok.2 hty.2 (by omega);have h2:=Oy N k (by omega) hok.1.2 hty.1.2.2 (by omega);simp only[dU,Ti,fU];have v1:=ny (n:=(4*t+y).toNat) (by rcases hty.1.2.1 with h|h|h<;>omega);have v2:=ny (n:=n.toNat) (by omega);have v3:=ny (n:=s.length) (by omega);have v4:=ny (n:=(dU k).length) (by omega);split
  ·omega
  ·split
   ·rw[fU];omega
   ·rw[fU];omega
theorem afz(t y:Int)(ht:1<=t/\t<=4294967296)(hy:0<=y/\y<4):jB .shl .u64 t 2=some (.i .u64 (4*t))/\IntKind.u64.wrap y=y/\bQ .or .u64 (4*t) y=some (.i .u64 (4*t+y)):=by
 have wu:∀y:Int,IntKind.u64.wrap y=y%18446744073709551616:=λy=>by simp[IntKind.wrap,IntKind.signed,IntKind.bits]
 have hu:IntKind.u64.bits=64:=rfl;refine⟨?_,by rw[wu];omega,?_⟩
 ·have h2:jB .shl .u64 t 2=some (.i .u64 (IntKind.u64.wrap (t*2^2))):=rfl;rw[h2,wu];congr 2;omega
 ·simp only[bQ,wu,hu];obtain⟨T,rfl⟩:∃T:Nat,t=(T:Int):=⟨t.toNat,by omega⟩
  obtain⟨Y,rfl⟩:∃Y:Nat,y=(Y:Int):=⟨y.toNat,by omega⟩
  have e1:(BitVec.ofInt 64 (4*(T:Int))).toNat=4*T:=by rw[sJ];omega
  have e2:(BitVec.ofInt 64 (Y:Int)).toNat=Y:=by rw[sJ];omega
  have e3:4*T |||Y=4*T+Y:=(ajY (i:=2) (b:=Y) (by omega) T).symm;show some (GV.i IntKind.u64 (((BitVec.ofInt 64 (4*(T:Int)) |||BitVec.ofInt 64 (Y:Int)).toNat:Int)%18446744073709551616))=_
  rw[abU,e1,e2,e3];congr 2;omega
theorem aeZ{t y n:Int}{s:Q0}{k:List aI}(h:MV (.mk t y n s k)):1<=t/\t<=4294967296/\0<=y/\y<3/\(y=0\/y=1\/y=2)/\wP k:=by simp only[MV]at h;rcases h.2.1 with h1|h1|h1<;>exact⟨h.1.1,h.1.2,by omega,by omega,by omega,h.2.2⟩
theorem aa8:∀(N:Nat)(l:List aI),cO l<N->dS l->wP l->l.length<=1000000->wL l<=1000000000000->TT.lim 120 [.l (aG l)]=some [.i .i64 (dU l).length]
 |0,l,h,_,_,_,_=>by omega
 |N+1,l,hN,hok,hty,hlen,hw=>by
  have hl1:=nX l;have loop:∀m i,i+m=l.length->∀acc:Nat,acc+wL (l.drop i)<=1000000000000->TT.lim 121 [.l (aG l),.i .i64 acc,.i .i64 l.length,.i .i64 i]=some [.i .i64 0,.i .i64 ((acc+(dU (l.drop i)).length:Nat):Int)]:=by
   intro m;induction m with
   |zero=>
    intro i hi acc hacc;have e1:l.drop i=[]:=fZ (by omega);have h:¬((i:Int)<l.length):=by omega
    rw[e1];simp only[dU,kT,nC];refine au rfl rfl ?_;simp[h]
   |succ m ih=>
    intro i hi acc hacc;obtain⟨t,y,n,s,k,g1,g2,g3,g4⟩:=EP (l:=l) (i:=i) (by omega);have hf:=ER hok _ g4;have ht:=abx hty _ g4;simp only[tK]at hf;obtain⟨t1,t2,y1,y2,y3,tk⟩:=aeZ ht;have hs:=VW g4;simp only[uq]at hs;rw[g3]at hacc⊢;simp only[wL,wF]at hacc;have hk:=aa8 N k (by omega) hf.2 tk hf.1.2.2.2.2.2.2.2 (by omega);have hkl:=Oy (cO k+1) k (by omega) hf.2 tk (by omega);obtain⟨b1,b2,b3⟩:=afz t y ⟨t1,t2⟩ ⟨y1,by omega⟩;have v1:=MK (4*t+y).toNat (by omega);have v2:=MK n.toNat (by omega);have v3:=MK s.length (by omega);have v4:=MK (dU k).length (by omega);have z1:=FV (n:=(4*t+y).toNat) (by omega);have z2:=FV (n:=n.toNat) (by omega);have z3:=FV (n:=s.length) (by omega);have z4:=FV (n:=(dU k).length) (by omega);rw[show(((4*t+y).toNat:Nat):Int)=4*t+y by omega]at v1;rw[show((n.toNat:Nat):Int)=n by omega]at v2;have hcast:((i+1:Nat):Int)=(i:Int)+1:=by omega
    have hwr:=wrap64 (n:=(i:Int)+1) (by omega) (by omega);have h:((i:Int)<l.length):=by omega
    have ih':=λa ha=>ih (i+1) (by omega) a ha;simp only[hcast]at ih';have e1:(aY (4*t+y).toNat).length=fD (4*t+y).toNat:=rfl;have e2:(aY n.toNat).length=fD n.toNat:=rfl;have e3:(aY s.length).length=fD s.length:=rfl;have e4:(aY (dU k).length).length=fD (dU k).length:=rfl;have u3:=gJ (n:=(s.length:Int)) (by omega) (by omega);have u4:=gJ (n:=((dU k).length:Int)) (by omega) (by omega);simp only[dU,Ti,fU];rw[e1];generalize fD (4*t+y).toNat=A at *;have w1:=wrap64 (n:=(acc:Int)+A) (by omega) (by omega);rcases y3 with hy|hy|hy
    ·rw[aj hy,e2];generalize fD n.toNat=B at *;have w2:=wrap64 (n:=(acc:Int)+A+B) (by omega) (by omega);have rM:=ih' (acc+A+B) (by omega);rw[show((acc+A+B:Nat):Int)=(acc:Int)+A+B by omega,show acc+A+B+(dU (l.drop (i+1))).length=acc+(A+B+(dU (l.drop (i+1))).length) by omega]at rM;have q0:(y=0)=True:=eq_true hy;clear hy;refine au rfl rfl ?_;simp[h,g2,q0,b1,b2,b3,v1,v2,w1,w2,hwr,rM]
    ·rw[ah (by omega),aj hy,fU,e3];generalize fD s.length=B at *;have w2:=wrap64 (n:=(B:Int)+s.length) (by omega) (by omega);have w3:=wrap64 (n:=(acc:Int)+A+(B+s.length)) (by omega) (by omega);have rM:=ih' (acc+A+(B+s.length)) (by omega);rw[show((acc+A+(B+s.length):Nat):Int)=(acc:Int)+A+(B+s.length) by omega,show acc+A+(B+s.length)+(dU (l.drop (i+1))).length=acc+(A+(B+s.length)+(dU (l.drop (i+1))).length) by omega]at rM;have q0:(y=0)=False:=eq_false (by omega);have q1:(y=1)=True:=eq_true hy;clear hy;refine au rfl rfl ?_;simp[h,g2,q0,q1,b1,b2,b3,v1,v3,u3,w1,w2,w3,hwr,rM]
    ·rw[ah (by omega),ah (by omega),fU,e4];generalize fD (dU k).length=B at *;generalize(dU k).length=C at *;have w2:=wrap64 (n:=(B:Int)+C) (by omega) (by omega);have w3:=wrap64 (n:=(acc:Int)+A+(B+C)) (by omega) (by omega);have rM:=ih' (acc+A+(B+C)) (by omega);rw[show((acc+A+(B+C):Nat):Int)=(acc:Int)+A+(B+C) by omega,show acc+A+(B+C)+(dU (l.drop (i+1))).length=acc+(A+(B+C)+(dU (l.drop (i+1))).length) by omega]at rM;have q0:(y=0)=False:=eq_false (by omega);have q1:(y=1)=False:=eq_false (by omega);have q2:(y=2)=True:=eq_true hy;clear hy;refine au rfl rfl ?_;simp[h,g2,q0,q1,q2,b1,b2,b3,v1,hk,v4,u4,w1,w2,w3,hwr,rM]
  have h0:=loop l.length 0 (by omega) 0 (by rw[dD];omega);rw[dD,kH]at h0;have h0':TT.lim 121 [.l (aG l),.i .i64 0,.i .i64 (aG l).length,.i .i64 0]=some [.i .i64 0,.i .i64 ((dU l).length:Int)]:=by rw[hl1];exact h0
  rw[hl1]at h0';clear loop h0;refine aP rfl rfl ?_ rfl;simp[hl1,h0']
theorem Gz(a b:Q0):bT (a++b)=bT a++bT b:=by simp[bT]
theorem ajK:∀(N:Nat)(l:List aI),cO l<N->dS l->wP l->l.length<=1000000->∀B:Q0,B.length+wL l<=1000000000000->TT.lim 122 [.l (bT B),.l (aG l)]=some [.i .i64 0,.l (bT (B++dU l))]
 |0,l,h,_,_,_,_,_=>by omega
 |N+1,l,hN,hok,hty,hlen,B,hB=>by
  have hl1:=nX l;have loop:∀m i,i+m=l.length->∀acc:Q0,acc.length+wL (l.drop i)<=1000000000000->TT.lim 123 [.l (bT acc),.l (aG l),.i .i64 l.length,.i .i64 i]=some [.i .i64 0,.l (bT (acc++dU (l.drop i)))]:=by
   intro m;induction m with
   |zero=>
    intro i hi acc hacc;have e1:l.drop i=[]:=fZ (by omega);have h:¬((i:Int)<l.length):=by omega
    rw[e1];simp only[dU,qL];refine au rfl rfl ?_;simp[h]
   |succ m ih=>
    intro i hi acc hacc;obtain⟨t,y,n,s,k,g1,g2,g3,g4⟩:=EP (l:=l) (i:=i) (by omega);have hf:=ER hok _ g4;have ht:=abx hty _ g4;simp only[tK]at hf;obtain⟨t1,t2,y1,y2,y3,tk⟩:=aeZ ht;have hs:=VW g4;simp only[uq]at hs;rw[g3]at hacc⊢;simp only[wL,wF]at hacc;have hk:=aa8 N k (by omega) hf.2 tk hf.1.2.2.2.2.2.2.2 (by omega);have hkl:=Oy (cO k+1) k (by omega) hf.2 tk (by omega);obtain⟨b1,b2,b3⟩:=afz t y ⟨t1,t2⟩ ⟨y1,by omega⟩;have v1:=xG (4*t+y).toNat (by omega);have v2:=xG n.toNat (by omega);have v3:=xG s.length (by omega);have v4:=xG (dU k).length (by omega);have z1:=ny (n:=(4*t+y).toNat) (by omega);have z2:=ny (n:=n.toNat) (by omega);have z3:=ny (n:=s.length) (by omega);have z4:=ny (n:=(dU k).length) (by omega);rw[show(((4*t+y).toNat:Nat):Int)=4*t+y by omega]at v1;rw[show((n.toNat:Nat):Int)=n by omega]at v2;have hcast:((i+1:Nat):Int)=(i:Int)+1:=by omega
    have hwr:=wrap64 (n:=(i:Int)+1) (by omega) (by omega);have h:((i:Int)<l.length):=by omega
    have ih':=λa ha=>ih (i+1) (by omega) a ha;simp only[hcast]at ih';have u3:=gJ (n:=(s.length:Int)) (by omega) (by omega);have u4:=gJ (n:=((dU k).length:Int)) (by omega) (by omega);have o8:∀z:Q0,(bT z).all (λg=>g.fC 1)=true:=λz=>by simp[bT,GV.fC]
    have l8:∀z:Q0,(bT z).length=z.length:=λz=>by simp[bT]
    simp only[dU,Ti];rcases y3 with hy|hy|hy
    ·rw[aj hy];have rM:=ih' (acc++aY (4*t+y).toNat++aY n.toNat) (by simp only[fU];omega);rw[show acc++aY (4*t+y).toNat++aY n.toNat++dU (l.drop (i+1))=acc++(aY (4*t+y).toNat++aY n.toNat++dU (l.drop (i+1))) by simp,Gz,Gz]at rM;generalize aY (4*t+y).toNat=A at *;generalize aY n.toNat=C at *;have c1:2*(acc.length+A.length)<=281474976710656/\acc.length+A.length<=281474976710656:=by omega
     have c2:2*(acc.length+A.length+C.length)<=281474976710656/\acc.length+A.length+C.length<=281474976710656:=by omega
     have q0:(y=0)=True:=eq_true hy;clear hy;refine au rfl rfl ?_;simp[-List.append_assoc,h,g2,q0,b1,b2,b3,v1,v2,hwr,rM,o8,l8,c1,c2]
    ·rw[ah (by omega),aj hy];have rM:=ih' (acc++aY (4*t+y).toNat++aY s.length++s) (by simp only[fU];omega);rw[show acc++aY (4*t+y).toNat++aY s.length++s++dU (l.drop (i+1))=acc++(aY (4*t+y).toNat++(aY s.length++s)++dU (l.drop (i+1))) by simp,Gz,Gz,Gz]at rM;generalize aY (4*t+y).toNat=A at *;generalize aY s.length=C at *;have c1:2*(acc.length+A.length)<=281474976710656/\acc.length+A.length<=281474976710656:=by omega
     have c2:2*(acc.length+A.length+C.length)<=281474976710656/\acc.length+A.length+C.length<=281474976710656:=by omega
     have c3:2*(acc.length+A.length+C.length+s.length)<=281474976710656/\acc.length+A.length+C.length+s.length<=281474976710656:=by omega
     have q0:(y=0)=False:=eq_false (by omega);have q1:(y=1)=True:=eq_true hy;clear hy;refine au rfl rfl ?_;simp[-List.append_assoc,h,g2,q0,q1,b1,b2,b3,v1,v3,u3,hwr,rM,o8,l8,c1,c2,c3]
    ·rw[ah (by omega),ah (by omega)];have hwk:=ajK N k (by omega) hf.2 tk hf.1.2.2.2.2.2.2.2 (acc++aY (4*t+y).toNat++aY (dU k).length) (by simp only[fU];omega);have rM:=ih' (acc++aY (4*t+y).toNat++aY (dU k).length++dU k) (by simp only[fU];omega);rw[show acc++aY (4*t+y).toNat++aY (dU k).length++dU k++dU (l.drop (i+1))=acc++(aY (4*t+y).toNat++(aY (dU k).length++dU k)++dU (l.drop (i+1))) by simp]at rM;rw[Gz (acc++_),Gz acc]at hwk;generalize aY (4*t+y).toNat=A at *;generalize aY (dU k).length=C at *;have c1:2*(acc.length+A.length)<=281474976710656/\acc.length+A.length<=281474976710656:=by omega
     have c2:2*(acc.length+A.length+C.length)<=281474976710656/\acc.length+A.length+C.length<=281474976710656:=by omega
     generalize dU k=K at *;have q0:(y=0)=False:=eq_false (by omega);have q1:(y=1)=False:=eq_false (by omega);have q2:(y=2)=True:=eq_true hy;clear hy;refine au rfl rfl ?_;simp[-List.append_assoc,h,g2,q0,q1,q2,b1,b2,b3,v1,hk,v4,u4,hwk,hwr,rM,o8,l8,c1,c2]
  have h0:=loop l.length 0 (by omega) B (by rw[dD];omega);rw[dD]at h0;have h0':TT.lim 123 [.l (bT B),.l (aG l),.i .i64 l.length,.i .i64 0]=some [.i .i64 0,.l (bT (B++dU l))]:=h0;clear loop h0;generalize bT B=B' at *;refine au rfl rfl ?_;simp[hl1,h0']
theorem avc{α β:Type}{f:α->β}{ys zs:List β}(h:ys.Perm zs):∀l:List α,zs=l.map f->∃p:List α,p.Perm l/\ys=p.map f:=by
 induction h with
 |nil=>intro l e;exact⟨l,.refl _,e⟩
 |cons x _ ih=>
  intro l e;cases l with
  |nil=>cases e
  |cons a l=>
   injection e with e1 e2
   obtain⟨p,h1,h2⟩:=ih l e2;exact⟨a::p,h1.cons a,by rw[iD,<-h2,<-e1]⟩
 |swap x y l=>
  intro m e;rcases m with _|⟨a,_|⟨b,m⟩⟩
  ·cases e
  ·cases e
  ·simp only[iD,yL]at e;obtain⟨e1,e2,e3⟩:=e;exact⟨b::a::m,List.Perm.swap a b m,by rw[iD,iD,<-e1,<-e2,<-e3]⟩
 |trans _ _ ih1 ih2=>intro l e;obtain⟨p,h1,h2⟩:=ih2 l e;obtain⟨q,h3,h4⟩:=ih1 p h2;exact⟨q,h3.trans h1,h4⟩
theorem aiQ:∀(p q:List aI),p.Perm q->p.Pairwise (λa b=>a.tag<=b.tag)->q.Pairwise (λa b=>a.tag<b.tag)->p=q
 |[],q,h,_,_=>(List.nil_perm.1 h).symm
 |a::p,[],h,_,_=>by have:=h.length_eq;simp at this
 |a::p,b::q,h,hp,hq=>by
  have hb:b∈a::p:=h.mem_iff.2 (by simp);have ha:a∈b::q:=h.mem_iff.1 (by simp);rw[iV]at hp hq;have h1:a.tag<=b.tag:=by
   rcases bG.1 hb with e|hb
   ·rw[e];exact zM _
   ·exact hp.1 b hb
  have e:a=b:=by
   rcases bG.1 ha with e|ha
   ·exact e
   ·have:=hq.1 a ha;omega
  subst e;rw[aiQ p q (List.Perm.cons_inv h) hp.2 hq.2]
def LX(f:aI):List aI->Nat
 |[]=>0
 |g::l=>if g.tag<f.tag then LX f l+1 else 0
def EU(f:aI)(out:List aI):List aI:=out.take (LX f out)++f::out.drop (LX f out)
def KZ(out l:List aI):List aI:=l.foldl (λo f=>EU f o) out
theorem afR(f:aI)(out:List aI):(EU f out).Perm (f::out):=by unfold EU;refine List.perm_middle.trans ?_;rw[JL]
theorem afS(f:aI):∀out:List aI,out.Pairwise (λa b=>a.tag<b.tag)->(∀g∈out,g.tag≠f.tag)->(EU f out).Pairwise (λa b=>a.tag<b.tag)/\(∀g,out[LX f out]? =some g->g.tag≠f.tag)
 |[],_,_=>by simp[EU,LX]
 |g::l,hp,hn=>by
  rw[iV]at hp;unfold EU LX;by_cases h:g.tag<f.tag
  ·obtain⟨i1,i2⟩:=afS f l hp.2 λx hx=>hn x (by simp[hx]);rw[aj h];simp only[BL,WE,bC,uw];refine⟨List.pairwise_cons.2 ⟨λx hx=>?_,i1⟩,i2⟩;have:=(afR f l).mem_iff.1 hx;rcases bG.1 this with rfl|hx
   ·exact h
   ·exact hp.1 x hx
  ·rw[ah h];have hg:=hn g (by simp);simp only[QB,dD,aV,jS];refine⟨List.pairwise_cons.2 ⟨λx hx=>?_,iV.2 hp⟩,λx hx=>?_⟩
   ·rcases bG.1 hx with rfl|hx
    ·omega
    ·have:=hp.1 x hx;omega
   ·injection hx with hx
    rw[<-hx];exact hg
theorem Y8:∀(l out:List aI),out.Pairwise (λa b=>a.tag<b.tag)->((out++l).map aI.tag).Nodup->(KZ out l).Perm (out++l)/\(KZ out l).Pairwise (λa b=>a.tag<b.tag)
 |[],out,hp,_=>by simp only[KZ,List.foldl_nil,qL];exact⟨.refl _,hp⟩
 |f::l,out,hp,hn=>by
  have hf:∀g∈out,g.tag≠f.tag:=λg hg e=>by rw[lX,List.nodup_append]at hn;exact hn.2.2 g.tag (List.mem_map_of_mem hg) f.tag (by simp) e
  have hs:=(afS f out hp hf).1;have hq:(EU f out++l).Perm (out++f::l):=((afR f out).append_right l).trans (List.perm_middle.symm);have ih:=Y8 l (EU f out) hs ((hq.map aI.tag).nodup_iff.2 hn);exact⟨ih.1.trans hq,ih.2⟩
theorem aeY(l:List aI):(aG l).all (λg=>g.fC 5)=true:=by rw[Aw,List.all_eq_true];intro g hg;obtain⟨f,_,rfl⟩:=qj.1 hg;cases f;simp only[oJ];rfl
theorem Td(a b:List aI):aG (a++b)=aG a++aG b:=by simp only[Aw,lX]
def uT(a b:List aI):List aI:=KZ [] (a++b)
theorem agV{a b:List aI}(hn:((a++b).map aI.tag).Nodup):(uT a b).Perm (a++b)/\(uT a b).Pairwise (λx y=>x.tag<y.tag):=Y8 (a++b) [] List.Pairwise.nil hn
theorem Xy(s:Q0):mY (bT s)=some s:=by
 induction s with
 |nil=>rfl
 |cons a s ih=>
  have h1:(0:Int)<=a.toNat/\((a.toNat:Nat):Int)<256:=by have:=a.toNat_lt;omega
  show(if _ then _ else _)=_
  rw[aj h1];have e:(s.map λb=>GV.i .u8 b.toNat)=bT s:=rfl;rw[e,ih];simp
theorem aA4(l:List aI)(hok:dS l)(hlen:l.length<=1000000)(hw:wL l<=1000000000000)(hc:jF 0 0 l=0):TT.lim 119 [.l (aG l)]=some (if 65536<(dU l).length then[.s [],.i .i64 4]else[.s (dU l),.i .i64 0]):=by
 have ty:=XP (cO l+1) l (by omega) hok 0 0 hc (by omega);have k1:=SQ l hok hlen;rw[hc]at k1;have k2:=aa8 (cO l+1) l (by omega) hok ty hlen hw;have k3:=ajK (cO l+1) l (by omega) hok ty hlen [] (by simpa using hw);have e0:bT []=[]:=rfl;rw[e0,aV]at k3;have hfl:=Oy (cO l+1) l (by omega) hok ty hw;by_cases c:65536<(dU l).length
 ·have c':(65536:Int)<(dU l).length:=by omega
  rw[aj c];refine aP rfl rfl ?_ rfl;simp[k1,k2,c,c']
 ·have c':¬(65536:Int)<(dU l).length:=by omega
  have hb:=Xy (dU l);have hl8:(bT (dU l)).length=(dU l).length:=by simp[bT]
  have c2:(bT (dU l)).length<=281474976710656:=by omega
  have c3:(0:Int)<=(dU l).length/\((dU l).length:Int)<=281474976710656/\((dU l).length:Int)<=1152921504606846976:=by omega
  rw[ah c];clear hok hw hc ty hfl;generalize dU l=Fx at *;generalize aG l=G at *;generalize bT Fx=BF at *;refine aP rfl rfl ?_ rfl;simp[k1,k2,k3,c,c',hb,c2,c3,GV.fC]
theorem ai7(f:aI):Ji (oJ f)=f.tag:=by cases f;simp only[oJ,aI.tag];rfl
theorem aql(l:List aI):(aG l).all isTagged=true:=by rw[Aw,List.all_eq_true];intro g hg;obtain⟨f,_,rfl⟩:=qj.1 hg;cases f;simp only[oJ];rfl
theorem aAb{a b:List aI}(h:a.Perm b):cO a=cO b:=by
 induction h with
 |nil=>rfl
 |cons x _ ih=>simp only[cO,ih]
 |swap x y l=>simp only[cO];omega
 |trans _ _ h1 h2=>rw[h1,h2]
theorem aA0{a b:List aI}(h:a.Perm b):wL a=wL b:=by
 induction h with
 |nil=>rfl
 |cons x _ ih=>simp only[wL,ih]
 |swap x y l=>simp only[wL];omega
 |trans _ _ h1 h2=>rw[h1,h2]
theorem ai6:∀a b:List aI,cO (a++b)=cO a+cO b
 |[],b=>by simp[cO]
 |f::a,b=>by simp only[bC,cO,ai6 a b];omega
theorem ajD:∀a b:List aI,wL (a++b)=wL a+wL b
 |[],b=>by simp[wL]
 |f::a,b=>by simp only[bC,wL,ajD a b];omega
theorem Tf:∀{l:List aI},(∀f∈l,tK f)->dS l
 |[],_=>by simp only[dS]
 |f::l,h=>by simp only[dS];exact⟨h f (by simp),Tf λg hg=>h g (by simp[hg])⟩
theorem aqo{a b:List aI}(h:a.Perm b)(hb:dS b):dS a:=Tf λf hf=>ER hb f (h.mem_iff.1 hf)
theorem aqn{a b:List aI}(ha:dS a)(hb:dS b):dS (a++b):=Tf λf hf=>(kG.1 hf).elim (ER ha f) (ER hb f)
theorem azn(l:List aI)(hn:(l.map aI.tag).Nodup):vg (aG l)=aG (KZ [] l):=by
 have hp:=aa9 (aG l);have hs:=azm (aG l);rw[Aw]at hp;obtain⟨p,hp1,hp2⟩:=avc hp l rfl;rw[<-Aw]at hp2;have hq:=Y8 l [] List.Pairwise.nil hn;rw[aV]at hq;have hsp:p.Pairwise (λa b=>a.tag<=b.tag):=by rw[WS];intro i j hi hj hij;have:=hs i j (oJ p[i]) (oJ p[j]) hij (by rw[hp2,iP,bK hi];rfl) (by rw[hp2,iP,bK hj];rfl);rwa [ai7,ai7]at this
 have e:=aiQ p (KZ [] l) (hp1.trans hq.1.symm) hsp hq.2;rw[hp2,e,Aw]
theorem ahN(l:List aI)(hl:l.length<=10000000)(hp:l.Pairwise (λa b=>a.tag<b.tag)):∀m i:Nat,i+1+m=l.length->TT.lim 117 [.l (aG l),.i .i64 ((i:Int)+1)]=some [.i .i64 1]
 |0,i,hi=>by
  have h:¬((i:Int)+1<l.length):=by omega
  have hg:=nX l;refine au rfl rfl ?_;simp[hg,h]
 |m+1,i,hi=>by
  have h:((i:Int)+1<l.length):=by omega
  have hg:=nX l;have ih:=ahN l hl hp m (i+1) (by omega);obtain⟨t,y,n,s,k,g1,g2,g3,g4⟩:=EP (l:=l) (i:=i) (by omega);obtain⟨t',y',n',s',k',g1',g2',g3',g4'⟩:=EP (l:=l) (i:=i+1) (by omega);have hlt:t<t':=by
   have:=WS.1 hp i (i+1) (by omega) (by omega) (by omega);have e1:l[i]=.mk t y n s k:=by have:=bK (l:=l) (i:=i) (by omega);rw[g1]at this;injection this with this;exact this.symm
   have e2:l[i+1]=.mk t' y' n' s' k':=by have:=bK (l:=l) (i:=i+1) (by omega);rw[g1']at this;injection this with this;exact this.symm
   rw[e1,e2]at this;exact this
  have hne:¬t'=t:=by omega
  have hcast:((i+1:Nat):Int)=(i:Int)+1:=by omega
  rw[hcast]at ih;have hw:=wrap64 (n:=(i:Int)+1+1) (by omega) (by omega);have hw2:=wrap64 (n:=(i:Int)+1-1) (by omega) (by omega);have hw3:(i:Int)+1-1=i:=by omega
  rw[hw3]at hw2;have hn0:(0:Int)<=(i:Int)+1:=by omega
  have ht:((i:Int)+1).toNat=i+1:=by omega
  have hi0:i<l.length:=by omega
  have gi:∀h:i<(aG l).length,(aG l)[i]=qB t y n s k:=λh=>by have:=bK h;rw[g2]at this;injection this with this;exact this.symm
  have gi':∀h:i+1<(aG l).length,(aG l)[i+1]=qB t' y' n' s' k':=λh=>by have:=bK h;rw[g2']at this;injection this with this;exact this.symm
  refine au rfl rfl ?_;simp[gi,gi',hg,h,g2,g2',hne,hw,hw2,hw3,hn0,ht,hi0,ih]
theorem avI(a b:List aI)(oa:dS a)(ob:dS b)(la:a.length<=1000000)(lb:b.length<=1000000)(sa:cO a+cO b<=1000000)(ha:jF 0 0 a=0)(hb:jF 0 0 b=0)(hn:((a++b).map aI.tag).Nodup):TT.lim 115 [.l [.l (aG a),.l (aG b)]]=some [.l (aG (uT a b)),.i .i64 0]:=by
 have k1:=SQ a oa la;have k2:=SQ b ob lb;rw[ha]at k1;rw[hb]at k2;have hab:=Td a b;have l1:=nX a;have l2:=nX b;have o1:=aeY a;have o2:=aeY b;have hso:TT.lim 3 [.l (aG a++aG b)]=some [.l (aG (uT a b))]:=by
  refine yA (Ds:=Ds) (f:=P8) rfl ?_;have h1:(aG a++aG b).length<=281474976710656/\(aG a++aG b).all isTagged=true:=by rw[<-hab];exact⟨by rw[nX,fU];omega,aql _⟩
  show(if(aG a++aG b).length<=281474976710656/\(aG a++aG b).all isTagged=true then some [GV.l (vg (aG a++aG b))]else none)=_
  rw[aj h1,<-hab,azn _ hn];rfl
 obtain⟨mp,ms⟩:=agV hn;have hml:(uT a b).length=a.length+b.length:=by rw[mp.length_eq,fU]
 have hsl:(aG (uT a b)).length=(aG a++aG b).length:=by rw[nX,hml,fU,l1,l2]
 have hcl:=SS (uT a b) (by rw[aAb mp,ai6];exact sa);have h1:TT.lim 117 [.l (aG (uT a b)),.i .i64 1]=some [.i .i64 1]:=by
  rcases QD (uT a b).length with h0|h0
  ·have:uT a b=[]:=jw h0;rw[this];have fn:aG []=[]:=by simp only[aG]
   rw[fn];refine au rfl rfl ?_;simp
  ·have:=ahN (uT a b) (by omega) ms ((uT a b).length-1) 0 (by omega);simpa using this
 have w0:IntKind.i64.wrap 1=1:=by decide
 have w1:IntKind.i64.wrap 2=2:=by decide
 have c1:2*(aG a).length*64<=281474976710656/\(aG a).length<=281474976710656:=by omega
 have c2:2*((aG a).length+(aG b).length)*64<=281474976710656/\(aG a).length+(aG b).length<=281474976710656:=by omega
 clear hn mp ms hml ha hb oa ob sa hab l1 l2;generalize aG (uT a b)=M at *;generalize aG a=A at *;generalize aG b=B at *;have a3:TT.lim 116 [.l (A++B),.l [.l A,.l B],.i .i64 2,.i .i64 2]=some [.i .i64 1,.l (A++B)]:=by refine au rfl rfl ?_;simp
 have a2:TT.lim 116 [.l A,.l [.l A,.l B],.i .i64 2,.i .i64 1]=some [.i .i64 1,.l (A++B)]:=by refine au rfl rfl ?_;simp[-List.all_eq_true,k2,w1,o2,c2,a3]
 have a1:TT.lim 116 [.l [],.l [.l A,.l B],.i .i64 2,.i .i64 0]=some [.i .i64 1,.l (A++B)]:=by refine au rfl rfl ?_;simp[-List.all_eq_true,k1,w0,o1,c1,a2]
 rw[fU]at hsl;refine aP rfl rfl ?_ rfl;simp[a1,hso,hsl,h1,hcl]
def bf(r:Nat):Nat:=if r%2=1 then(r/2) ^^^ 3988292384 else r/2
theorem jv(a b:Nat):bf (a ^^^ b)=bf a ^^^ bf b:=by
 unfold bf;have h2:(a ^^^ b)/2=a/2 ^^^ b/2:=Nat.xor_div_two;have h1:(a ^^^ b)%2=(a+b)%2:=by have h:=Nat.xor_mod_two_eq_one (a:=a) (b:=b);generalize(a ^^^ b)=z at *;omega
 rw[h2,h1];have x1:∀u v:Nat,(u ^^^ 3988292384) ^^^ (v ^^^ 3988292384)=u ^^^ v:=λu v=>by rw[oD,Nat.xor_comm v,<-oD 3988292384,Nat.xor_self,Nat.zero_xor]
 rcases acy a with ha|ha<;>rcases acy b with hb|hb
 ·rw[ah (by omega),ah (by omega),ah (by omega)]
 ·rw[aj (by omega),ah (by omega),aj (by omega),oD]
 ·rw[aj (by omega),aj (by omega),ah (by omega),oD,oD,Nat.xor_comm (b/2)]
 ·rw[ah (by omega),aj (by omega),aj (by omega),x1]
theorem jJ(a:Nat):bf (2*a+1)=a ^^^ 3988292384:=by unfold bf;rw[aj (by omega),show(2*a+1)/2=a by omega]
theorem jI(a:Nat):bf (2*a)=a:=by unfold bf;rw[ah (by omega),show 2*a/2=a by omega]
def fO(r:Nat):Nat:=bf (bf (bf (bf r)))
theorem azw(q:Nat):fO (16*q)=q ^^^ 0:=by
 have e0:bf (16*q)=8*q:=by rw[show 16*q=2*(8*q) by omega];exact jI _
 have e1:bf (8*q)=4*q:=by rw[show 8*q=2*(4*q) by omega];exact jI _
 have e2:bf (4*q)=2*q:=by rw[show 4*q=2*(2*q) by omega];exact jI _
 have e3:bf (2*q)=q:=by exact jI _
 unfold fO;rw[e0];rw[e1];rw[e2];rw[e3];rw[Nat.xor_zero]
theorem azx(q:Nat):fO (16*q+1)=q ^^^ 498536548:=by
 have e0:bf (16*q+1)=(8*q) ^^^ 3988292384:=by rw[show 16*q+1=2*(8*q)+1 by omega];exact jJ _
 have e1:bf (8*q)=4*q:=by rw[show 8*q=2*(4*q) by omega];exact jI _
 have e2:bf (4*q)=2*q:=by rw[show 4*q=2*(2*q) by omega];exact jI _
 have e3:bf (2*q)=q:=by exact jI _
 unfold fO;rw[e0];rw[jv,e1,show bf 3988292384=1994146192 by decide];rw[jv,e2,show bf 1994146192=997073096 by decide];rw[jv,e3,show bf 997073096=498536548 by decide]
theorem azE(q:Nat):fO (16*q+2)=q ^^^ 997073096:=by
 have e0:bf (16*q+2)=8*q+1:=by rw[show 16*q+2=2*(8*q+1) by omega];exact jI _
 have e1:bf (8*q+1)=(4*q) ^^^ 3988292384:=by rw[show 8*q+1=2*(4*q)+1 by omega];exact jJ _
 have e2:bf (4*q)=2*q:=by rw[show 4*q=2*(2*q) by omega];exact jI _
 have e3:bf (2*q)=q:=by exact jI _
 unfold fO;rw[e0];rw[e1];rw[jv,e2,show bf 3988292384=1994146192 by decide];rw[jv,e3,show bf 1994146192=997073096 by decide]
theorem azF(q:Nat):fO (16*q+3)=q ^^^ 651767980:=by
 have e0:bf (16*q+3)=(8*q+1) ^^^ 3988292384:=by rw[show 16*q+3=2*(8*q+1)+1 by omega];exact jJ _
 have e1:bf (8*q+1)=(4*q) ^^^ 3988292384:=by rw[show 8*q+1=2*(4*q)+1 by omega];exact jJ _
 have e2:bf (4*q)=2*q:=by rw[show 4*q=2*(2*q) by omega];exact jI _
 have e3:bf (2*q)=q:=by exact jI _
 unfold fO;rw[e0];rw[jv,e1,show bf 3988292384=1994146192 by decide];rw[oD,show 3988292384 ^^^ 1994146192=2607071920 by decide];rw[jv,e2,show bf 2607071920=1303535960 by decide];rw[jv,e3,show bf 1303535960=651767980 by decide]
theorem azG(q:Nat):fO (16*q+4)=q ^^^ 1994146192:=by
 have e0:bf (16*q+4)=8*q+2:=by rw[show 16*q+4=2*(8*q+2) by omega];exact jI _
 have e1:bf (8*q+2)=4*q+1:=by rw[show 8*q+2=2*(4*q+1) by omega];exact jI _
 have e2:bf (4*q+1)=(2*q) ^^^ 3988292384:=by rw[show 4*q+1=2*(2*q)+1 by omega];exact jJ _
 have e3:bf (2*q)=q:=by exact jI _
 unfold fO;rw[e0];rw[e1];rw[e2];rw[jv,e3,show bf 3988292384=1994146192 by decide]
theorem azH(q:Nat):fO (16*q+5)=q ^^^ 1802195444:=by
 have e0:bf (16*q+5)=(8*q+2) ^^^ 3988292384:=by rw[show 16*q+5=2*(8*q+2)+1 by omega];exact jJ _
 have e1:bf (8*q+2)=4*q+1:=by rw[show 8*q+2=2*(4*q+1) by omega];exact jI _
 have e2:bf (4*q+1)=(2*q) ^^^ 3988292384:=by rw[show 4*q+1=2*(2*q)+1 by omega];exact jJ _
 have e3:bf (2*q)=q:=by exact jI _
 unfold fO;rw[e0];rw[jv,e1,show bf 3988292384=1994146192 by decide];rw[jv,e2,show bf 1994146192=997073096 by decide];rw[oD,show 3988292384 ^^^ 997073096=3604390888 by decide];rw[jv,e3,show bf 3604390888=1802195444 by decide]
theorem azI(q:Nat):fO (16*q+6)=q ^^^ 1303535960:=by
 have e0:bf (16*q+6)=8*q+3:=by rw[show 16*q+6=2*(8*q+3) by omega];exact jI _
 have e1:bf (8*q+3)=(4*q+1) ^^^ 3988292384:=by rw[show 8*q+3=2*(4*q+1)+1 by omega];exact jJ _
 have e2:bf (4*q+1)=(2*q) ^^^ 3988292384:=by rw[show 4*q+1=2*(2*q)+1 by omega];exact jJ _
 have e3:bf (2*q)=q:=by exact jI _
 unfold fO;rw[e0];rw[e1];rw[jv,e2,show bf 3988292384=1994146192 by decide];rw[oD,show 3988292384 ^^^ 1994146192=2607071920 by decide];rw[jv,e3,show bf 2607071920=1303535960 by decide]
theorem azJ(q:Nat):fO (16*q+7)=q ^^^ 1342533948:=by
 have e0:bf (16*q+7)=(8*q+3) ^^^ 3988292384:=by rw[show 16*q+7=2*(8*q+3)+1 by omega];exact jJ _
 have e1:bf (8*q+3)=(4*q+1) ^^^ 3988292384:=by rw[show 8*q+3=2*(4*q+1)+1 by omega];exact jJ _
 have e2:bf (4*q+1)=(2*q) ^^^ 3988292384:=by rw[show 4*q+1=2*(2*q)+1 by omega];exact jJ _
 have e3:bf (2*q)=q:=by exact jI _
 unfold fO;rw[e0];rw[jv,e1,show bf 3988292384=1994146192 by decide];rw[oD,show 3988292384 ^^^ 1994146192=2607071920 by decide];rw[jv,e2,show bf 2607071920=1303535960 by decide];rw[oD,show 3988292384 ^^^ 1303535960=2685067896 by decide];rw[jv,e3,show bf 2685067896=1342533948 by decide]
theorem azK(q:Nat):fO (16*q+8)=q ^^^ 3988292384:=by
 have e0:bf (16*q+8)=8*q+4:=by rw[show 16*q+8=2*(8*q+4) by omega];exact jI _
 have e1:bf (8*q+4)=4*q+2:=by rw[show 8*q+4=2*(4*q+2) by omega];exact jI _
 have e2:bf (4*q+2)=2*q+1:=by rw[show 4*q+2=2*(2*q+1) by omega];exact jI _
 have e3:bf (2*q+1)=q ^^^ 3988292384:=by exact jJ _
 unfold fO;rw[e0];rw[e1];rw[e2];rw[e3]
theorem azL(q:Nat):fO (16*q+9)=q ^^^ 4027552580:=by
 have e0:bf (16*q+9)=(8*q+4) ^^^ 3988292384:=by rw[show 16*q+9=2*(8*q+4)+1 by omega];exact jJ _
 have e1:bf (8*q+4)=4*q+2:=by rw[show 8*q+4=2*(4*q+2) by omega];exact jI _
 have e2:bf (4*q+2)=2*q+1:=by rw[show 4*q+2=2*(2*q+1) by omega];exact jI _
 have e3:bf (2*q+1)=q ^^^ 3988292384:=by exact jJ _
 unfold fO;rw[e0];rw[jv,e1,show bf 3988292384=1994146192 by decide];rw[jv,e2,show bf 1994146192=997073096 by decide];rw[jv,e3,show bf 997073096=498536548 by decide];rw[oD,show 3988292384 ^^^ 498536548=4027552580 by decide]
theorem azy(q:Nat):fO (16*q+10)=q ^^^ 3604390888:=by
 have e0:bf (16*q+10)=8*q+5:=by rw[show 16*q+10=2*(8*q+5) by omega];exact jI _
 have e1:bf (8*q+5)=(4*q+2) ^^^ 3988292384:=by rw[show 8*q+5=2*(4*q+2)+1 by omega];exact jJ _
 have e2:bf (4*q+2)=2*q+1:=by rw[show 4*q+2=2*(2*q+1) by omega];exact jI _
 have e3:bf (2*q+1)=q ^^^ 3988292384:=by exact jJ _
 unfold fO;rw[e0];rw[e1];rw[jv,e2,show bf 3988292384=1994146192 by decide];rw[jv,e3,show bf 1994146192=997073096 by decide];rw[oD,show 3988292384 ^^^ 997073096=3604390888 by decide]
theorem azz(q:Nat):fO (16*q+11)=q ^^^ 3412177804:=by
 have e0:bf (16*q+11)=(8*q+5) ^^^ 3988292384:=by rw[show 16*q+11=2*(8*q+5)+1 by omega];exact jJ _
 have e1:bf (8*q+5)=(4*q+2) ^^^ 3988292384:=by rw[show 8*q+5=2*(4*q+2)+1 by omega];exact jJ _
 have e2:bf (4*q+2)=2*q+1:=by rw[show 4*q+2=2*(2*q+1) by omega];exact jI _
 have e3:bf (2*q+1)=q ^^^ 3988292384:=by exact jJ _
 unfold fO;rw[e0];rw[jv,e1,show bf 3988292384=1994146192 by decide];rw[oD,show 3988292384 ^^^ 1994146192=2607071920 by decide];rw[jv,e2,show bf 2607071920=1303535960 by decide];rw[jv,e3,show bf 1303535960=651767980 by decide];rw[oD,show 3988292384 ^^^ 651767980=3412177804 by decide]
theorem azA(q:Nat):fO (16*q+12)=q ^^^ 2607071920:=by
 have e0:bf (16*q+12)=8*q+6:=by rw[show 16*q+12=2*(8*q+6) by omega];exact jI _
 have e1:bf (8*q+6)=4*q+3:=by rw[show 8*q+6=2*(4*q+3) by omega];exact jI _
 have e2:bf (4*q+3)=(2*q+1) ^^^ 3988292384:=by rw[show 4*q+3=2*(2*q+1)+1 by omega];exact jJ _
 have e3:bf (2*q+1)=q ^^^ 3988292384:=by exact jJ _
 unfold fO;rw[e0];rw[e1];rw[e2];rw[jv,e3,show bf 3988292384=1994146192 by decide];rw[oD,show 3988292384 ^^^ 1994146192=2607071920 by decide]
theorem azB(q:Nat):fO (16*q+13)=q ^^^ 2262029012:=by
 have e0:bf (16*q+13)=(8*q+6) ^^^ 3988292384:=by rw[show 16*q+13=2*(8*q+6)+1 by omega];exact jJ _
 have e1:bf (8*q+6)=4*q+3:=by rw[show 8*q+6=2*(4*q+3) by omega];exact jI _
 have e2:bf (4*q+3)=(2*q+1) ^^^ 3988292384:=by rw[show 4*q+3=2*(2*q+1)+1 by omega];exact jJ _
 have e3:bf (2*q+1)=q ^^^ 3988292384:=by exact jJ _
 unfold fO;rw[e0];rw[jv,e1,show bf 3988292384=1994146192 by decide];rw[jv,e2,show bf 1994146192=997073096 by decide];rw[oD,show 3988292384 ^^^ 997073096=3604390888 by decide];rw[jv,e3,show bf 3604390888=1802195444 by decide];rw[oD,show 3988292384 ^^^ 1802195444=2262029012 by decide]
theorem azC(q:Nat):fO (16*q+14)=q ^^^ 2685067896:=by
 have e0:bf (16*q+14)=8*q+7:=by rw[show 16*q+14=2*(8*q+7) by omega];exact jI _
 have e1:bf (8*q+7)=(4*q+3) ^^^ 3988292384:=by rw[show 8*q+7=2*(4*q+3)+1 by omega];exact jJ _
 have e2:bf (4*q+3)=(2*q+1) ^^^ 3988292384:=by rw[show 4*q+3=2*(2*q+1)+1 by omega];exact jJ _
 have e3:bf (2*q+1)=q ^^^ 3988292384:=by exact jJ _
 unfold fO;rw[e0];rw[e1];rw[jv,e2,show bf 3988292384=1994146192 by decide];rw[oD,show 3988292384 ^^^ 1994146192=2607071920 by decide];rw[jv,e3,show bf 2607071920=1303535960 by decide];rw[oD,show 3988292384 ^^^ 1303535960=2685067896 by decide]
theorem azD(q:Nat):fO (16*q+15)=q ^^^ 3183342108:=by
 have e0:bf (16*q+15)=(8*q+7) ^^^ 3988292384:=by rw[show 16*q+15=2*(8*q+7)+1 by omega];exact jJ _
 have e1:bf (8*q+7)=(4*q+3) ^^^ 3988292384:=by rw[show 8*q+7=2*(4*q+3)+1 by omega];exact jJ _
 have e2:bf (4*q+3)=(2*q+1) ^^^ 3988292384:=by rw[show 4*q+3=2*(2*q+1)+1 by omega];exact jJ _
 have e3:bf (2*q+1)=q ^^^ 3988292384:=by exact jJ _
 unfold fO;rw[e0];rw[jv,e1,show bf 3988292384=1994146192 by decide];rw[oD,show 3988292384 ^^^ 1994146192=2607071920 by decide];rw[jv,e2,show bf 2607071920=1303535960 by decide];rw[oD,show 3988292384 ^^^ 1303535960=2685067896 by decide];rw[jv,e3,show bf 2685067896=1342533948 by decide];rw[oD,show 3988292384 ^^^ 1342533948=3183342108 by decide]
def AP(b:aT)(s:fJ):Option aI:=match placeOf s.name with
 |some p=>if(dw b p).1=0/\(dw b p).2=[]then none else some (.mk s.tag (fH p) (dw b p).1 (dw b p).2 [])
 |none=>none
def pR(b:aT)(l:List fJ):List aI:=l.filterMap (AP b)
theorem Uo(b:aT)(s:fJ)(l:List fJ):pR b (s::l)=(match AP b s with|some f=>[f]|none=>[])++pR b l:=by unfold pR;rw[List.filterMap_cons];cases AP b s<;>rfl
theorem ahm{b:aT}{fl:List aI}(hM:rE b fl)(ls:List fJ)(hl:ls.length<=1000)(hls:∀s∈ls,placeOf s.name≠none/\s.use=abB s.name):∀(m i:Nat)(acc:List aI),i+m=ls.length->acc.length+m<=2000->
 TT.lim 108 ([.l (aG acc),.l (ls.map fG),.i .i64 ls.length,.i .i64 i]++(iq b (aG fl)).cells)=some [.i .i64 0,.l (aG (acc++pR b (ls.drop i)))]
 |0,i,acc,hi,ha=>by
  have h:¬((i:Int)<ls.length):=by omega
  have e:ls.drop i=[]:=fZ (by omega);rw[e];have:pR b []=[]:=rfl;rw[this,qL,dO];simp only[bC,aV];refine au rfl rfl ?_;simp[h]
 |m+1,i,acc,hi,ha=>by
  have hlt:i<ls.length:=by omega
  have h:((i:Int)<ls.length):=by omega
  obtain⟨p,v1⟩:∃p,placeOf ls[i].name=some p:=by
   cases e:placeOf ls[i].name with
   |some p=>exact⟨p,rfl⟩
   |none=>exact absurd e (hls _ (gK hlt)).1
  have v2:=auf hM v1;have hdr:ls.drop i=ls[i]::ls.drop (i+1):=gY hlt;have hat:(ls.map fG)[i]? =some (fG ls[i]):=by rw[iP,bK hlt];rfl
  have hcast:((i+1:Nat):Int)=(i:Int)+1:=by omega
  have hw:=wrap64 (n:=(i:Int)+1) (by omega) (by omega);rw[hdr,Uo];have hk:AP b ls[i]=if(dw b p).1=0/\(dw b p).2=[]then none else some (.mk ls[i].tag (fH p) (dw b p).1 (dw b p).2 []):=by unfold AP;rw[v1]
  rw[hk];have ih:=ahm hM ls hl hls m (i+1);generalize ls[i]=s at *;clear hk hdr v1;have la:=nX acc;have fn:aG []=[]:=by simp only[aG]
  have hel:(qB s.tag (fH p) (dw b p).1 (dw b p).2 []).fC 5=true:=rfl;have hfe:GV.g [.i .u64 s.tag,.i .i64 (fH p),.i .u64 (dw b p).1,.s (dw b p).2,.l []]=qB s.tag (fH p) (dw b p).1 (dw b p).2 []:=by unfold qB;rw[fn]
  have c1:2*((aG acc).length+1)*64<=281474976710656/\(aG acc).length+1<=281474976710656:=by omega
  by_cases hz:(dw b p).1=0/\(dw b p).2=[]
  ·rw[aj hz];have ih:=ih acc (by omega) (by omega);rw[dO,hcast]at ih;rw[dO];simp only[bC,aV]at ih⊢;clear hel hfe c1 la;obtain⟨z1,z2⟩:=hz;rw[z1,z2]at v2;generalize aG acc=A at *;generalize aG fl=r at *;generalize ls.map fG=SP at *;generalize fH p=ty at *;refine au rfl rfl ?_;simp[h,hat,jW,v2,hw,ih]
  ·rw[ah hz];have ih:=ih (acc++[.mk s.tag (fH p) (dw b p).1 (dw b p).2 []]) (by omega) (by rw[fU,Ed];omega);have hfa:aG (acc++[.mk s.tag (fH p) (dw b p).1 (dw b p).2 []])=aG acc++[qB s.tag (fH p) (dw b p).1 (dw b p).2 []]:=by rw[Td];simp only[aG,oJ];rfl
   rw[dO,hcast,hfa,List.append_assoc]at ih;rw[dO];simp only[bC,aV]at ih⊢;generalize hR:aG (acc++.mk s.tag (fH p) (dw b p).1 (dw b p).2 []::pR b (ls.drop (i+1)))=R at *;clear hR hfa la;generalize qB s.tag (fH p) (dw b p).1 (dw b p).2 []=E at *;generalize aG acc=A at *;generalize aG fl=r at *;generalize ls.map fG=SP at *;generalize fH p=ty at *;generalize dw b p=vv at *;obtain⟨n,t⟩:=vv;simp only at *;by_cases hn:n=0
   ·have ht:¬t=[]:=λe=>hz ⟨hn,e⟩;subst hn;refine au rfl rfl ?_;simp[h,hat,jW,v2,ht,hfe,hel,c1,hw,ih]
   ·refine au rfl rfl ?_;simp[h,hat,jW,v2,hn,hfe,hel,c1,hw,ih]
theorem RY:∀(l:List aI)(w:Nat)(a:Int),jF w a l=0->(∀f∈l,f.tag≠0/\f.tag<=4294967296/\Ah w f=0/\a<f.tag)/\l.Pairwise (λx y=>x.tag<y.tag)
 |[],w,a,_=>⟨by simp,List.Pairwise.nil⟩
 |f::l,w,a,h=>by
  unfold jF at h;by_cases h1:f.tag=0
  ·rw[aj h1]at h;exact absurd h (by decide)
  rw[ah h1]at h;by_cases h2:4294967296<f.tag
  ·rw[aj h2]at h;exact absurd h (by decide)
  rw[ah h2]at h;by_cases h3:f.tag<=a
  ·rw[aj h3]at h;exact absurd h (by decide)
  rw[ah h3]at h;by_cases h4:Ah w f=0;rotate_left
  ·rw[aj h4]at h;exact absurd h h4
  rw[ah (λe=>e h4)]at h;obtain⟨i1,i2⟩:=RY l w f.tag h;refine⟨λg hg=>?_,iV.2 ⟨λg hg=>(i1 g hg).2.2.2,i2⟩⟩;rcases bG.1 hg with rfl|hg
  ·exact⟨h1,by omega,h4,by omega⟩
  ·obtain⟨q1,q2,q3,q4⟩:=i1 g hg;exact⟨q1,q2,q3,by omega⟩
theorem XO:∀(l:List aI)(w:Nat)(a:Int),(∀f∈l,f.tag≠0/\f.tag<=4294967296/\Ah w f=0/\a<f.tag)->l.Pairwise (λx y=>x.tag<y.tag)->jF w a l=0
 |[],w,a,_,_=>by unfold jF;rfl
 |f::l,w,a,h,hp=>by obtain⟨q1,q2,q3,q4⟩:=h f (by simp);rw[iV]at hp;unfold jF;rw[ah q1,ah (by omega),ah (by omega),ah (λe=>e q3)];refine XO l w f.tag (λg hg=>?_) hp.2;obtain⟨r1,r2,r3,r4⟩:=h g (by simp[hg]);exact⟨r1,r2,r3,hp.1 g hg⟩
theorem azr(k:Int):(xJ k).Pairwise (λs t=>s.tag<t.tag)/\∀s∈xJ k,1<=s.tag/\s.tag<=5:=by
 unfold xJ;repeat' split
 all_goals first|(unfold sp1;decide)|(unfold sp2;decide)|(unfold DN;decide)|(unfold DR;decide)|(unfold DT;decide)|(unfold DU;decide)|(unfold DV;decide)|(unfold DW;decide)|exact⟨List.Pairwise.nil,λs hs=>by cases hs⟩
theorem Un(k v:Int):(bM k v).Pairwise (λs t=>s.tag<t.tag)/\∀s∈bM k v,1<=s.tag/\s.tag<=5:=by obtain⟨h1,h2⟩:=azr k;exact⟨h1.sublist List.filter_sublist,λs hs=>h2 s (JJ.1 hs).1⟩
theorem Uj{b:aT}{s:fJ}{f:aI}(h:AP b s=some f):∃p,placeOf s.name=some p/\f=.mk s.tag (fH p) (dw b p).1 (dw b p).2 []/\¬((dw b p).1=0/\(dw b p).2=[]):=by
 unfold AP at h;cases hp:placeOf s.name with
 |none=>rw[hp]at h;cases h
 |some p=>
  rw[hp]at h;simp only at h;by_cases hz:(dw b p).1=0/\(dw b p).2=[]
  ·rw[aj hz]at h;cases h
  ·rw[ah hz]at h;injection h with h
   exact⟨p,rfl,h.symm,hz⟩
theorem Ur{b:aT}{l:List fJ}{f:aI}(h:f∈pR b l):∃s∈l,∃p,placeOf s.name=some p/\f=.mk s.tag (fH p) (dw b p).1 (dw b p).2 []/\¬((dw b p).1=0/\(dw b p).2=[]):=by unfold pR at h;obtain⟨s,hs,hf⟩:=List.mem_filterMap.1 h;exact⟨s,hs,Uj hf⟩
theorem Zk(b:aT):∀(l:List fJ),l.Pairwise (λs t=>s.tag<t.tag)->(pR b l).Pairwise (λx y=>x.tag<y.tag)
 |[],_=>List.Pairwise.nil
 |s::l,h=>by
  rw[iV]at h;rw[Uo];have ih:=Zk b l h.2;cases hk:AP b s with
  |none=>exact ih
  |some f=>obtain⟨p,-,rfl,-⟩:=Uj hk;refine iV.2 ⟨λg hg=>?_,ih⟩;obtain⟨s',hs',p',-,rfl,-⟩:=Ur hg;exact h.1 s' hs'
theorem aAO(b:aT)(p:Pl):(fH p=0/\(dw b p).2=[])\/(fH p=1/\(dw b p).1=0):=by cases p<;>simp[fH,dw]
theorem af9(b:aT)(k v:Int):jF 0 0 (pR b (bM k v))=0:=by
 obtain⟨h1,h2⟩:=Un k v;refine XO _ 0 0 (λf hf=>?_) (Zk b _ h1);obtain⟨s,hs,p,-,rfl,-⟩:=Ur hf;have:=h2 s hs;refine⟨by show s.tag≠0;omega,by show s.tag<=_;omega,?_,by show 0<s.tag;omega⟩;unfold Ah;rcases aAO b p with⟨q1,q2⟩|⟨q1,q2⟩
 ·rw[q1,q2];simp
 ·rw[q1,q2];simp
def Short(b:aT):Prop:=b.name.length<=600/\b.region.length<=600/\b.note.length<=600
theorem aju{b:aT}{fl:List aI}(h:rE b fl)(hw:Short b)(p:Pl):(0<=(dw b p).1/\(dw b p).1<18446744073709551616)/\(dw b p).2.length<=100000000:=by
 have q:=h.body;obtain⟨w1,w2,w3⟩:=hw;cases p with
 |rem=>have hr:=q.remaining;exact⟨by simp only[dw];unfold zz;split<;>omega,by simp[dw]⟩
 |allow=>refine⟨?_,by simp[dw]⟩;simp only[dw];split<;>omega
 |name=>exact⟨by simp[dw],by simp only[dw];omega⟩
 |region=>exact⟨by simp[dw],by simp only[dw];omega⟩
 |note=>exact⟨by simp[dw],by simp only[dw];omega⟩
 |d=>
  refine⟨by simp[dw],?_⟩;simp only[dw];have:=Zf h.d;split
  ·simp
  ·omega
 |t=>
  refine⟨by simp[dw],?_⟩;simp only[dw];have:=au1 b.t h.t;split
  ·simp
  ·unfold PK;split
   ·simp
   ·simp only;omega
 |num k=>refine⟨?_,by simp[dw]⟩;simp only[dw];unfold Fq;split<;>first|exact q.id|exact q.min|exact q.max|exact q.chosen|exact q.flags|exact q.cost|exact q.priority|exact q.deadline|exact q.retry|exact q.epoch|exact q.base|exact q.digest|exact q.lag|exact q.code|exact q.want
theorem af6{b:aT}{fl:List aI}(h:rE b fl)(hw:Short b)(k v:Int):dS (pR b (bM k v)):=Tf λf hf=>by
 obtain⟨s,hs,p,-,rfl,-⟩:=Ur hf;have ht:=(Un k v).2 s hs;have hv:=aju h hw p;have hy:0<=fH p/\fH p<=1:=by cases p<;>simp[fH]
 simp only[tK,dS];refine⟨⟨?_,?_,?_,?_,hv.1.1,hv.1.2,hv.2,?_⟩,trivial⟩;all_goals first|omega|simp
theorem af5(b:aT)(k v:Int):(pR b (bM k v)).length<=8:=jD (List.length_filterMap_le _ _) (EZ k v)
theorem af7(b:aT):∀l:List fJ,cO (pR b l)<=2*l.length
 |[]=>by simp[pR,cO]
 |s::l=>by
  rw[Uo];have ih:=af7 b l;cases hk:AP b s with
  |none=>simp only[aV,gQ];omega
  |some f=>obtain⟨p,-,rfl,-⟩:=Uj hk;simp only[bC,aV,cO,uq,gQ];omega
theorem af8{b:aT}{fl:List aI}(h:rE b fl)(hw:Short b):∀l:List fJ,wL (pR b l)<=100000040*l.length
 |[]=>by simp[pR,wL]
 |s::l=>by
  rw[Uo];have ih:=af8 h hw l;cases hk:AP b s with
  |none=>simp only[aV,gQ];omega
  |some f=>obtain⟨p,-,rfl,-⟩:=Uj hk;have hv:=(aju h hw p).2;simp only[bC,aV,wL,wF,gQ];omega
structure zT(b:aT)(fl:List aI):Prop where
 msg:rE b fl
 short:Short b
 sz:cO fl<=900000
 w:wL fl<=2000000000
theorem RV{b:aT}{fl:List aI}{v:Int}(h:jg b fl v=0):1<=v/\v<=3/\bM b.kind v≠[]/\jF 0 0 fl=0/\∀f∈fl,hasTag (bM b.kind v) f.tag=false:=by
 unfold jg at h;by_cases h1:v<1
 ·rw[aj h1]at h;exact absurd h (by decide)
 rw[ah h1]at h;by_cases h2:3<v
 ·rw[aj h2]at h;exact absurd h (by decide)
 rw[ah h2]at h;by_cases h3:bM b.kind v=[]
 ·rw[aj h3]at h;exact absurd h (by decide)
 rw[ah h3]at h;by_cases h4:iG.all (λn=>AB (bM b.kind v) n ||tY b n)=false
 ·rw[aj h4]at h;exact absurd h (by decide)
 rw[ah h4]at h;by_cases h5:pV b (bM b.kind v)≠0
 ·rw[aj h5]at h;exact absurd h h5
 rw[ah h5]at h;by_cases h6:Gy b≠0
 ·rw[aj h6]at h;exact absurd h h6
 rw[ah h6]at h;unfold L9 at h;by_cases h7:jF 0 0 fl≠0
 ·rw[aj h7]at h;exact absurd h h7
 rw[ah h7]at h;by_cases h8:fl.any (λf=>hasTag (bM b.kind v) f.tag)=true
 ·rw[aj h8]at h;exact absurd h (by decide)
 refine⟨by omega,by omega,h3,by simpa using h7,λf hf=>?_⟩;cases e:hasTag (bM b.kind v) f.tag with
 |false=>rfl
 |true=>exact absurd (List.any_eq_true.2 ⟨f,hf,e⟩) h8
theorem acS{b:aT}{fl:List aI}{v:Int}(h:jg b fl v=0):((pR b (bM b.kind v)++fl).map aI.tag).Nodup:=by
 obtain⟨-,-,-,h1,h2⟩:=RV h;have p1:=Zk b _ (Un b.kind v).1;have p2:=(RY fl 0 0 h1).2;rw[lX,List.nodup_append];have nd:∀l:List aI,l.Pairwise (λx y=>x.tag<y.tag)->(l.map aI.tag).Nodup:=λl hl=>by unfold List.Nodup;rw[List.pairwise_map];exact hl.imp λh e=>by omega
 refine⟨nd _ p1,nd _ p2,λx hx y hy e=>?_⟩;obtain⟨f,hf,rfl⟩:=qj.1 hx;obtain⟨g,hg,rfl⟩:=qj.1 hy;obtain⟨s,hs,p,-,rfl,-⟩:=Ur hf;have:=h2 g hg;unfold hasTag at this;have h3:(bM b.kind v).any (λs=>decide (g.tag=s.tag))=true:=List.any_eq_true.2 ⟨s,hs,G7 (show g.tag=s.tag from e.symm)⟩;rw[h3]at this;cases this
def En(b:aT)(fl:List aI)(v:Int):List aI:=uT (pR b (bM b.kind v)) fl
def SX(b:aT)(fl:List aI)(v:Int):List aI×Int:=if jg b fl v=0 then(En b fl v,0)else([],jg b fl v)
structure ajO(l:List aI):Prop where
 ok:dS l
 len:l.length<=1000000
 w:wL l<=1000000000000
 chk:jF 0 0 l=0
theorem akl{b:aT}{fl:List aI}{v:Int}(hm:zT b fl)(h:jg b fl v=0):ajO (En b fl v):=by
 obtain⟨-,-,-,h1,h2⟩:=RV h;obtain⟨mp,ms⟩:=agV (acS h);have hl:fl.length<=900000:=by
  have:∀l:List aI,l.length<=cO l:=λl=>by
   induction l with
   |nil=>simp[cO]
   |cons f l ih=>simp only[gQ,cO];omega
  have:=this fl;have:=hm.sz;omega
 have kl:=af5 b b.kind v;have kw:=af8 hm.msg hm.short (bM b.kind v);have k8:=EZ b.kind v;have mw:=hm.w;refine⟨aqo mp (aqn (af6 hm.msg hm.short _ _) hm.msg.f8),?_,?_,?_⟩
 ·unfold En;rw[mp.length_eq,fU];omega
 ·unfold En;rw[aA0 mp,ajD];have:100000040*(bM b.kind v).length<=100000040*8:=WW _ k8;omega
 ·refine XO _ 0 0 (λf hf=>?_) ms;rcases kG.1 (mp.mem_iff.1 hf)with hf|hf
  ·exact(RY _ 0 0 (af9 b b.kind v)).1 f hf
  ·exact(RY _ 0 0 h1).1 f hf
theorem asH{k v:Int}(h:bM k v≠[]):1<=k/\k<=8:=by
 by_cases c:1<=k/\k<=8
 ·exact c
 ·exfalso;apply h;unfold bM xJ;rw[ah (by omega),ah (by omega),ah (by omega),ah (by omega),ah (by omega),ah (by omega),ah (by omega),ah (by omega)];rfl
theorem avd{b:aT}{fl:List aI}(hm:zT b fl)(v:Int):TT.lim 63 [iq b (aG fl),.i .i64 v]=some [.l (aG (SX b fl v).1),.i .i64 (SX b fl v).2]:=by
 have hc:=ZC b fl v hm.msg.body hm.msg.t.few hm.msg.f8 hm.msg.len;unfold SX;by_cases c:jg b fl v=0;rotate_left
 ·rw[ah c];have fn:aG []=[]:=by simp only[aG]
  rw[fn];generalize aG fl=r at *;generalize jg b fl v=ck at *;refine aP rfl rfl ?_ rfl;simp[jW,hc,c]
 rw[aj c];rw[c]at hc;obtain⟨v1,v3,hne,h8,-⟩:=RV c;have hk:=Um b.kind v v1 v3 (by have:=mt (aga b.kind v v1 v3).2 hne;omega)
 have h0:=ahm hm.msg (bM b.kind v) (by have:=EZ b.kind v;omega) (asL b.kind v) (bM b.kind v).length 0 [] (by omega) (by have:=EZ b.kind v;simp;omega);have fn:aG []=[]:=by simp only[aG]
 rw[dD,aV,dO,fn]at h0;simp only[bC,aV,qZ]at h0;have hsz:=af7 b (bM b.kind v);have k8:=EZ b.kind v;have mo:=avI _ fl (af6 hm.msg hm.short b.kind v) hm.msg.f8 (by have:=af5 b b.kind v;omega) hm.msg.len (by have:=hm.sz;omega) (af9 b b.kind v) h8 (acS c);have hal:(((bM b.kind v).map fG).length:Int)=((bM b.kind v).length:Int):=by rw[fE]
 unfold En;generalize aG (uT (pR b (bM b.kind v)) fl)=M at *;generalize aG (pR b (bM b.kind v))=KV at *;generalize(bM b.kind v).map fG=SP at *;generalize((bM b.kind v).length:Int)=L at *;generalize aG fl=r at *;clear hsz k8 hne h8 c hm v1 v3;refine aP rfl rfl ?_ rfl;simp[jW,hc,hk,hal,h0,mo]
def bytesV(b:aT)(fl:List aI)(v:Int):Q0:=aY b.kind.toNat++dU (En b fl v)
def y8(b:aT)(fl:List aI)(v:Int):Q0×Int:=if jg b fl v=0 then(if 65536<(bytesV b fl v).length then([],4)else(bytesV b fl v,0))else([],jg b fl v)
theorem avb{b:aT}{fl:List aI}(hm:zT b fl)(v:Int):TT.lim 62 [iq b (aG fl),.i .i64 v]=some [.s (y8 b fl v).1,.i .i64 (y8 b fl v).2]:=by
 have hf:=avd hm v;unfold SX at hf;unfold y8;by_cases c:jg b fl v=0;rotate_left
 ·rw[ah c]at hf⊢;generalize aG fl=r at *;generalize jg b fl v=ck at *;refine aP rfl rfl ?_ rfl;simp[jW,hf,c]
 rw[aj c]at hf⊢;have ao:=akl hm c;have hw:=aA4 (En b fl v) ao.ok ao.len ao.w ao.chk;obtain⟨-,-,hne,-,-⟩:=RV c;obtain⟨k1,k8⟩:=asH hne;have hp:=xG b.kind.toNat (by omega);have hpl:=ny (n:=b.kind.toNat) (by omega);rw[show((b.kind.toNat:Nat):Int)=b.kind by omega]at hp;have wk:=gJ (n:=b.kind) (by omega) (by omega);unfold bytesV;rw[fU];clear ao c hm hne;generalize En b fl v=AF at *;generalize aY b.kind.toNat=V at *;generalize aG fl=r at *;generalize aG AF=G at *;generalize dU AF=Fx at *;by_cases c1:65536<Fx.length
 ·rw[aj c1]at hw;rw[aj (by omega)];refine aP rfl rfl ?_ rfl;simp[jW,hf,hw]
 ·rw[ah c1]at hw;have c3:(V.length:Int)+Fx.length<=9223372036854775807:=by omega
  by_cases c2:65536<V.length+Fx.length
  ·have c2':(65536:Int)<V.length+Fx.length:=by omega
   rw[aj c2];refine aP rfl rfl ?_ rfl;simp[jW,hf,hw,wk,hp,c2',c3]
  ·have c2':¬(65536:Int)<V.length+Fx.length:=by omega
   rw[ah c2];refine aP rfl rfl ?_ rfl;simp[jW,hf,hw,wk,hp,c2',c3]
theorem wrap32{n:Int}(h0:0<=n)(h1:n<4294967296):IntKind.u32.wrap n=n:=by
 have wu:∀y:Int,IntKind.u32.wrap y=y%4294967296:=λy=>by simp[IntKind.wrap,IntKind.signed,IntKind.bits]
 rw[wu];omega
theorem ofInt32(a:Nat)(ha:a<4294967296):(BitVec.ofInt 32 (a:Int)).toNat=a:=by rw[sJ];omega
theorem Ws{a b:Nat}(ha:a<4294967296)(hb:b<4294967296):a ^^^ b<4294967296:=Nat.xor_lt_two_pow (n:=32) ha hb
theorem x32(a b:Nat)(ha:a<4294967296)(hb:b<4294967296):bQ .xor .u32 (a:Int) (b:Int)=some (.i .u32 ((a ^^^ b:Nat):Int)):=by
 show some (GV.i IntKind.u32 (IntKind.u32.wrap ((BitVec.ofInt 32 (a:Int) ^^^ BitVec.ofInt 32 (b:Int)).toNat:Int)))=_
 have hlt:=Ws ha hb;rw[BitVec.toNat_xor,ofInt32 a ha,ofInt32 b hb,wrap32 (by omega) (by omega)]
theorem akp(a:Nat)(ha:a<4294967296):bQ .and .u32 (a:Int) 15=some (.i .u32 ((a%16:Nat):Int)):=by
 have h:=ofInt32 15 (by decide);show some (GV.i IntKind.u32 (IntKind.u32.wrap ((BitVec.ofInt 32 (a:Int) &&& BitVec.ofInt 32 15).toNat:Int)))=_
 have e:a &&& 15=a%16:=acu a 4;rw[Wy,ofInt32 a ha,show(BitVec.ofInt 32 15).toNat=15 from h,e,wrap32 (by omega) (by omega)]
theorem aiH(a:Nat):jB .shr .u32 (a:Int) 4=some (.i .u32 ((a:Int)/16)):=by
 show some (GV.i IntKind.u32 ((a:Int).fdiv (2^4)))=_
 rw[Ea _ (by decide)];rfl
theorem VA{r:Nat}(h:r<4294967296):bf r<4294967296:=by
 unfold bf;split
 ·exact Ws (by omega) (by decide)
 ·omega
theorem abd{r:Nat}(h:r<4294967296):fO r<4294967296:=VA (VA (VA (VA h)))
theorem nib(y:Nat)(hy:y<4294967296):(bQ .and .u32 (y:Int) 15=some (.i .u32 0)/\bQ .xor .u32 ((y:Int)/16) 0=some (.i .u32 (fO y:Nat)))\/(bQ .and .u32 (y:Int) 15=some (.i .u32 1)/\bQ .xor .u32 ((y:Int)/16) 498536548=some (.i .u32 (fO y:Nat)))\/(bQ .and .u32 (y:Int) 15=some (.i .u32 2)/\bQ .xor .u32 ((y:Int)/16) 997073096=some (.i .u32 (fO y:Nat)))\/(bQ .and .u32 (y:Int) 15=some (.i .u32 3)/\bQ .xor .u32 ((y:Int)/16) 651767980=some (.i .u32 (fO y:Nat)))\/(bQ .and .u32 (y:Int) 15=some (.i .u32 4)/\bQ .xor .u32 ((y:Int)/16) 1994146192=some (.i .u32 (fO y:Nat)))\/(bQ .and .u32 (y:Int) 15=some (.i .u32 5)/\bQ .xor .u32 ((y:Int)/16) 1802195444=some (.i .u32 (fO y:Nat)))\/(bQ .and .u32 (y:Int) 15=some (.i .u32 6)/\bQ .xor .u32 ((y:Int)/16) 1303535960=some (.i .u32 (fO y:Nat)))\/(bQ .and .u32 (y:Int) 15=some (.i .u32 7)/\bQ .xor .u32 ((y:Int)/16) 1342533948=some (.i .u32 (fO y:Nat)))\/(bQ .and .u32 (y:Int) 15=some (.i .u32 8)/\bQ .xor .u32 ((y:Int)/16) 3988292384=some (.i .u32 (fO y:Nat)))\/(bQ .and .u32 (y:Int) 15=some (.i .u32 9)/\bQ .xor .u32 ((y:Int)/16) 4027552580=some (.i .u32 (fO y:Nat)))\/(bQ .and .u32 (y:Int) 15=some (.i .u32 10)/\bQ .xor .u32 ((y:Int)/16) 3604390888=some (.i .u32 (fO y:Nat)))\/(bQ .and .u32 (y:Int) 15=some (.i .u32 11)/\bQ .xor .u32 ((y:Int)/16) 3412177804=some (.i .u32 (fO y:Nat)))\/(bQ .and .u32 (y:Int) 15=some (.i .u32 12)/\bQ .xor .u32 ((y:Int)/16) 2607071920=some (.i .u32 (fO y:Nat)))\/(bQ .and .u32 (y:Int) 15=some (.i .u32 13)/\bQ .xor .u32 ((y:Int)/16) 2262029012=some (.i .u32 (fO y:Nat)))\/(bQ .and .u32 (y:Int) 15=some (.i .u32 14)/\bQ .xor .u32 ((y:Int)/16) 2685067896=some (.i .u32 (fO y:Nat)))\/(bQ .and .u32 (y:Int) 15=some (.i .u32 15)/\bQ .xor .u32 ((y:Int)/16) 3183342108=some (.i .u32 (fO y:Nat))):=by
 have ha:=akp y hy;have hx:∀T:Nat,T<4294967296->bQ .xor .u32 ((y/16:Nat):Int) (T:Int)=some (.i .u32 ((y/16 ^^^ T:Nat):Int)):=λT hT=>x32 _ T (by omega) hT;have h16:y%16=0\/y%16=1\/y%16=2\/y%16=3\/y%16=4\/y%16=5\/y%16=6\/y%16=7\/y%16=8\/y%16=9\/y%16=10\/y%16=11\/y%16=12\/y%16=13\/y%16=14\/y%16=15:=by omega
 rcases h16 with h|h|h|h|h|h|h|h|h|h|h|h|h|h|h|h
 ·refine .inl ⟨?_,?_⟩
  ·rw[ha,h];rfl
  ·have e:=azw (y/16);rw[show 16*(y/16)=y by omega]at e;rw[e];have hq:((y/16:Nat):Int)=(y:Int)/16:=by omega
   rw[<-hq];exact hx 0 (by decide)
 ·refine .inr (.inl ⟨?_,?_⟩)
  ·rw[ha,h];rfl
  ·have e:=azx (y/16);rw[show 16*(y/16)+1=y by omega]at e;rw[e];have hq:((y/16:Nat):Int)=(y:Int)/16:=by omega
   rw[<-hq];exact hx 498536548 (by decide)
 ·refine .inr (.inr (.inl ⟨?_,?_⟩))
  ·rw[ha,h];rfl
  ·have e:=azE (y/16);rw[show 16*(y/16)+2=y by omega]at e;rw[e];have hq:((y/16:Nat):Int)=(y:Int)/16:=by omega
   rw[<-hq];exact hx 997073096 (by decide)
 ·refine .inr (.inr (.inr (.inl ⟨?_,?_⟩)))
  ·rw[ha,h];rfl
  ·have e:=azF (y/16);rw[show 16*(y/16)+3=y by omega]at e;rw[e];have hq:((y/16:Nat):Int)=(y:Int)/16:=by omega
   rw[<-hq];exact hx 651767980 (by decide)
 ·refine .inr (.inr (.inr (.inr (.inl ⟨?_,?_⟩))))
  ·rw[ha,h];rfl
  ·have e:=azG (y/16);rw[show 16*(y/16)+4=y by omega]at e;rw[e];have hq:((y/16:Nat):Int)=(y:Int)/16:=by omega
   rw[<-hq];exact hx 1994146192 (by decide)
 ·refine .inr (.inr (.inr (.inr (.inr (.inl ⟨?_,?_⟩)))))
  ·rw[ha,h];rfl
  ·have e:=azH (y/16);rw[show 16*(y/16)+5=y by omega]at e;rw[e];have hq:((y/16:Nat):Int)=(y:Int)/16:=by omega
   rw[<-hq];exact hx 1802195444 (by decide)
 ·refine .inr (.inr (.inr (.inr (.inr (.inr (.inl ⟨?_,?_⟩))))))
  ·rw[ha,h];rfl
  ·have e:=azI (y/16);rw[show 16*(y/16)+6=y by omega]at e;rw[e];have hq:((y/16:Nat):Int)=(y:Int)/16:=by omega
   rw[<-hq];exact hx 1303535960 (by decide)
 ·refine .inr (.inr (.inr (.inr (.inr (.inr (.inr (.inl ⟨?_,?_⟩)))))))
  ·rw[ha,h];rfl
  ·have e:=azJ (y/16);rw[show 16*(y/16)+7=y by omega]at e;rw[e];have hq:((y/16:Nat):Int)=(y:Int)/16:=by omega
   rw[<-hq];exact hx 1342533948 (by decide)
 ·refine .inr (.inr (.inr (.inr (.inr (.inr (.inr (.inr (.inl ⟨?_,?_⟩))))))))
  ·rw[ha,h];rfl
  ·have e:=azK (y/16);rw[show 16*(y/16)+8=y by omega]at e;rw[e];have hq:((y/16:Nat):Int)=(y:Int)/16:=by omega
   rw[<-hq];exact hx 3988292384 (by decide)
 ·refine .inr (.inr (.inr (.inr (.inr (.inr (.inr (.inr (.inr (.inl ⟨?_,?_⟩)))))))))
  ·rw[ha,h];rfl
  ·have e:=azL (y/16);rw[show 16*(y/16)+9=y by omega]at e;rw[e];have hq:((y/16:Nat):Int)=(y:Int)/16:=by omega
   rw[<-hq];exact hx 4027552580 (by decide)
 ·refine .inr (.inr (.inr (.inr (.inr (.inr (.inr (.inr (.inr (.inr (.inl ⟨?_,?_⟩))))))))))
  ·rw[ha,h];rfl
  ·have e:=azy (y/16);rw[show 16*(y/16)+10=y by omega]at e;rw[e];have hq:((y/16:Nat):Int)=(y:Int)/16:=by omega
   rw[<-hq];exact hx 3604390888 (by decide)
 ·refine .inr (.inr (.inr (.inr (.inr (.inr (.inr (.inr (.inr (.inr (.inr (.inl ⟨?_,?_⟩)))))))))))
  ·rw[ha,h];rfl
  ·have e:=azz (y/16);rw[show 16*(y/16)+11=y by omega]at e;rw[e];have hq:((y/16:Nat):Int)=(y:Int)/16:=by omega
   rw[<-hq];exact hx 3412177804 (by decide)
 ·refine .inr (.inr (.inr (.inr (.inr (.inr (.inr (.inr (.inr (.inr (.inr (.inr (.inl ⟨?_,?_⟩))))))))))))
  ·rw[ha,h];rfl
  ·have e:=azA (y/16);rw[show 16*(y/16)+12=y by omega]at e;rw[e];have hq:((y/16:Nat):Int)=(y:Int)/16:=by omega
   rw[<-hq];exact hx 2607071920 (by decide)
 ·refine .inr (.inr (.inr (.inr (.inr (.inr (.inr (.inr (.inr (.inr (.inr (.inr (.inr (.inl ⟨?_,?_⟩)))))))))))))
  ·rw[ha,h];rfl
  ·have e:=azB (y/16);rw[show 16*(y/16)+13=y by omega]at e;rw[e];have hq:((y/16:Nat):Int)=(y:Int)/16:=by omega
   rw[<-hq];exact hx 2262029012 (by decide)
 ·refine .inr (.inr (.inr (.inr (.inr (.inr (.inr (.inr (.inr (.inr (.inr (.inr (.inr (.inr (.inl ⟨?_,?_⟩))))))))))))))
  ·rw[ha,h];rfl
  ·have e:=azC (y/16);rw[show 16*(y/16)+14=y by omega]at e;rw[e];have hq:((y/16:Nat):Int)=(y:Int)/16:=by omega
   rw[<-hq];exact hx 2685067896 (by decide)
 ·refine .inr (.inr (.inr (.inr (.inr (.inr (.inr (.inr (.inr (.inr (.inr (.inr (.inr (.inr (.inr (⟨?_,?_⟩)))))))))))))))
  ·rw[ha,h];rfl
  ·have e:=azD (y/16);rw[show 16*(y/16)+15=y by omega]at e;rw[e];have hq:((y/16:Nat):Int)=(y:Int)/16:=by omega
   rw[<-hq];exact hx 3183342108 (by decide)
def NY(r c:Nat):Nat:=fO (fO (r ^^^ c))
theorem adf{r c:Nat}(hr:r<4294967296)(hc:c<256):NY r c<4294967296:=abd (abd (Ws hr (by omega)))
def MQ(r:Nat)(s:Q0):Nat:=s.foldl (λr c=>NY r c.toNat) r
theorem ai0:∀(s:Q0)(r:Nat),r<4294967296->MQ r s<4294967296
 |[],r,h=>h
 |c::s,r,h=>ai0 s _ (adf h (by have:=c.toNat_lt;omega))
set_option maxHeartbeats 8000000 in
theorem auP(r:Nat)(hr:r<4294967296)(c:UInt8)(s:Q0)(x2 x3 x4:GV)(L:Int)(i:Nat)(out:Q1)(h:(i:Int)<L)(hat:s[i]? =some c)(hw:IntKind.i64.wrap ((i:Int)+1)=(i:Int)+1)
 (ih:TT.lim 131 [.i .u32 (NY r c.toNat:Nat),.s s,x2,x3,x4,.i .i64 L,.i .i64 ((i:Int)+1),.i .u32 0,.i .u32 498536548,.i .u32 997073096,.i .u32 651767980,.i .u32 1994146192,.i .u32 1802195444,.i .u32 1303535960,.i .u32 1342533948,.i .u32 3988292384,.i .u32 4027552580,.i .u32 3604390888,.i .u32 3412177804,.i .u32 2607071920,.i .u32 2262029012,.i .u32 2685067896,.i .u32 3183342108]=some out):TT.lim 131 [.i .u32 (r:Nat),.s s,x2,x3,x4,.i .i64 L,.i .i64 i,.i .u32 0,.i .u32 498536548,.i .u32 997073096,.i .u32 651767980,.i .u32 1994146192,.i .u32 1802195444,.i .u32 1303535960,.i .u32 1342533948,.i .u32 3988292384,.i .u32 4027552580,.i .u32 3604390888,.i .u32 3412177804,.i .u32 2607071920,.i .u32 2262029012,.i .u32 2685067896,.i .u32 3183342108]=some out:=by
 have hc:=c.toNat_lt;have wc:=wrap32 (n:=(c.toNat:Int)) (by omega) (by omega);have X:=x32 r c.toNat hr (by omega);have hx:=Ws hr (show c.toNat<4294967296 by omega);unfold NY at ih;generalize r ^^^ c.toNat=x at *;have S1:=aiH x;have hy:=abd hx;have N1:=nib x hx;generalize fO x=y at *;have S2:=aiH y;have N2:=nib y hy;generalize fO y=z at *;rcases N1 with⟨A1,X1⟩|⟨A1,X1⟩|⟨A1,X1⟩|⟨A1,X1⟩|⟨A1,X1⟩|⟨A1,X1⟩|⟨A1,X1⟩|⟨A1,X1⟩|⟨A1,X1⟩|⟨A1,X1⟩|⟨A1,X1⟩|⟨A1,X1⟩|⟨A1,X1⟩|⟨A1,X1⟩|⟨A1,X1⟩|⟨A1,X1⟩
 all_goals as_aux_lemma=>
  refine au rfl rfl ?_;simp -implicitDefEqProofs[h,hat,wc,X,A1,S1,X1];rcases N2 with⟨A2,X2⟩|⟨A2,X2⟩|⟨A2,X2⟩|⟨A2,X2⟩|⟨A2,X2⟩|⟨A2,X2⟩|⟨A2,X2⟩|⟨A2,X2⟩|⟨A2,X2⟩|⟨A2,X2⟩|⟨A2,X2⟩|⟨A2,X2⟩|⟨A2,X2⟩|⟨A2,X2⟩|⟨A2,X2⟩|⟨A2,X2⟩
  all_goals simp -implicitDefEqProofs[A2,S2,X2,hw,ih]
theorem ahf(s:Q0)(hs:s.length<=100000000)(x2 x3 x4:GV):∀(m i:Nat)(r:Nat),i+m=s.length->r<4294967296->
 TT.lim 131 [.i .u32 (r:Nat),.s s,x2,x3,x4,.i .i64 s.length,.i .i64 i,.i .u32 0,.i .u32 498536548,.i .u32 997073096,.i .u32 651767980,.i .u32 1994146192,.i .u32 1802195444,.i .u32 1303535960,.i .u32 1342533948,.i .u32 3988292384,.i .u32 4027552580,.i .u32 3604390888,.i .u32 3412177804,.i .u32 2607071920,.i .u32 2262029012,.i .u32 2685067896,.i .u32 3183342108]=some [.i .i64 0,.i .u32 (MQ r (s.drop i):Nat)]
 |0,i,r,hi,hr=>by
  have e:s.drop i=[]:=fZ (by omega);have h:¬((i:Int)<s.length):=by omega
  rw[e];show _=some [GV.i .i64 0,.i .u32 (r:Nat)]
  refine au rfl rfl ?_;simp[h]
 |m+1,i,r,hi,hr=>by
  have hlt:i<s.length:=by omega
  have hdr:s.drop i=s[i]::s.drop (i+1):=gY hlt;have hat:s[i]? =some s[i]:=bK hlt;have hcast:((i+1:Nat):Int)=(i:Int)+1:=by omega
  have hw:=wrap64 (n:=(i:Int)+1) (by omega) (by omega);have ih:=ahf s hs x2 x3 x4 m (i+1) (NY r s[i].toNat) (by omega) (adf hr (by have:=s[i].toNat_lt;omega));rw[hcast]at ih;rw[hdr];exact auP r hr s[i] s x2 x3 x4 s.length i _ (by omega) hat hw ih
theorem ag6(a:Nat)(ha:a<4294967296):bQ .xor .u32 4294967295 (a:Int)=some (.i .u32 ((4294967295-a:Nat):Int)):=by
 show some (GV.i IntKind.u32 (IntKind.u32.wrap ((BitVec.ofInt 32 4294967295 ^^^ BitVec.ofInt 32 (a:Int)).toNat:Int)))=_
 have e:BitVec.ofInt 32 4294967295=BitVec.allOnes 32:=by decide
 rw[e,BitVec.xor_comm,abV,abT,ofInt32 a ha,wrap32 (by omega) (by omega)]
def iL(s:Q0):Nat:=4294967295-MQ 4294967295 s
theorem ad1(s:Q0):iL s<4294967296:=by unfold iL;omega
theorem azU:TT.lim 129 []=some [.g [.i .u32 0,.i .u32 498536548,.i .u32 997073096,.i .u32 651767980,.i .u32 1994146192,.i .u32 1802195444,.i .u32 1303535960,.i .u32 1342533948,.i .u32 3988292384,.i .u32 4027552580,.i .u32 3604390888,.i .u32 3412177804,.i .u32 2607071920,.i .u32 2262029012,.i .u32 2685067896,.i .u32 3183342108]]:=yA (Ds:=Ds) (f:=VF) rfl rfl
theorem X6(s:Q0)(hs:s.length<=100000000):TT.lim 127 [.l [.s s]]=some [.i .u32 (iL s:Nat)]:=by
 have h0:=ahf s hs (.l [.s s]) (.i .i64 1) (.i .i64 0) s.length 0 4294967295 (by omega) (by decide);rw[dD]at h0;have h0:TT.lim 131 [.i .u32 4294967295,.s s,.l [.s s],.i .i64 1,.i .i64 0,.i .i64 s.length,.i .i64 0,.i .u32 0,.i .u32 498536548,.i .u32 997073096,.i .u32 651767980,.i .u32 1994146192,.i .u32 1802195444,.i .u32 1303535960,.i .u32 1342533948,.i .u32 3988292384,.i .u32 4027552580,.i .u32 3604390888,.i .u32 3412177804,.i .u32 2607071920,.i .u32 2262029012,.i .u32 2685067896,.i .u32 3183342108]=some [.i .i64 0,.i .u32 (MQ 4294967295 s:Nat)]:=h0;have hlt:=ai0 s 4294967295 (by decide);have hn:=ag6 (MQ 4294967295 s) hlt;unfold iL;have ht:=azU;have w0:IntKind.i64.wrap 1=1:=by decide
 generalize MQ 4294967295 s=Z at *;have h2:TT.lim 130 [.i .u32 (Z:Nat),.l [.s s],.i .i64 1,.i .i64 1,.i .u32 0,.i .u32 498536548,.i .u32 997073096,.i .u32 651767980,.i .u32 1994146192,.i .u32 1802195444,.i .u32 1303535960,.i .u32 1342533948,.i .u32 3988292384,.i .u32 4027552580,.i .u32 3604390888,.i .u32 3412177804,.i .u32 2607071920,.i .u32 2262029012,.i .u32 2685067896,.i .u32 3183342108]=some [.i .i64 0,.i .u32 (Z:Nat)]:=by refine au rfl rfl ?_;simp
 have h1:TT.lim 130 [.i .u32 4294967295,.l [.s s],.i .i64 1,.i .i64 0,.i .u32 0,.i .u32 498536548,.i .u32 997073096,.i .u32 651767980,.i .u32 1994146192,.i .u32 1802195444,.i .u32 1303535960,.i .u32 1342533948,.i .u32 3988292384,.i .u32 4027552580,.i .u32 3604390888,.i .u32 3412177804,.i .u32 2607071920,.i .u32 2262029012,.i .u32 2685067896,.i .u32 3183342108]=some [.i .i64 0,.i .u32 (Z:Nat)]:=by refine au rfl rfl ?_;simp[h0,w0,h2]
 have hz:bQ .xor .u32 4294967295 0=some (.i .u32 4294967295):=ag6 0 (by decide);have hu:∀n:Int,V7 .xor (some (.i .u32 n))=bQ .xor .u32 4294967295 n:=λ_=>rfl;have hov:TT.lim 128 [.i .u32 0,.l [.s s]]=some [.i .u32 (4294967295-Z:Nat)]:=by refine aP rfl rfl ?_ rfl;simp[ht,hu,hz,h1,hn]
 refine aP rfl rfl ?_ rfl;simp[hov]
theorem Qo(n:Int):IntKind.u8.wrap n=n%256:=by simp[IntKind.wrap,IntKind.signed,IntKind.bits]
def le4(n:Nat):Q0:=[UInt8.ofNat (n%256),UInt8.ofNat (n/256%256),UInt8.ofNat (n/65536%256),UInt8.ofNat (n/16777216%256)]
def ku(p:Q0):Q0:=[81,70]++aY p.length++p++le4 (iL p)
theorem asY(n:Nat):mY [.i .u8 ((n:Int)%256),.i .u8 ((n:Int)/256%256),.i .u8 ((n:Int)/65536%256),.i .u8 ((n:Int)/16777216%256)]=some (le4 n):=by
 have key:∀(x:Int)(r:Q1),0<=x->x<256->mY (.i .u8 x::r)=(mY r).map (UInt8.ofNat x.toNat::·):=λx r h0 h1=>by
  show(if _ then _ else _)=_
  rw[aj ⟨h0,h1⟩]
 rw[key _ _ (by omega) (by omega),key _ _ (by omega) (by omega),key _ _ (by omega) (by omega),key _ _ (by omega) (by omega)];show some _=_
 unfold le4;congr 5<;>omega
theorem azb(a:Nat):jB .shr .u32 (a:Int) 8=some (.i .u32 ((a:Int)/256)):=by
 show some (GV.i IntKind.u32 ((a:Int).fdiv (2^8)))=_
 rw[Ea _ (by decide)];rfl
theorem ay7(a:Nat):jB .shr .u32 (a:Int) 16=some (.i .u32 ((a:Int)/65536)):=by
 show some (GV.i IntKind.u32 ((a:Int).fdiv (2^16)))=_
 rw[Ea _ (by decide)];rfl
theorem ay9(a:Nat):jB .shr .u32 (a:Int) 24=some (.i .u32 ((a:Int)/16777216)):=by
 show some (GV.i IntKind.u32 ((a:Int).fdiv (2^24)))=_
 rw[Ea _ (by decide)];rfl
theorem ajJ(p:Q0)(hp:p.length<=65536):TT.lim 126 [.s p]=some [.s (ku p),.i .i64 0]:=by
 have hc:=X6 p (by omega);have hlt:=ad1 p;have hv:=xG p.length (by omega);have hvl:=ny (n:=p.length) (by omega);have wu:=gJ (n:=(p.length:Int)) (by omega) (by omega);have h1:¬(65536:Int)<p.length:=by omega
 have c1:(2:Int)+(aY p.length).length<=9223372036854775807:=by omega
 have c2:((aY p.length).length:Int)+1+1+p.length<=9223372036854775807:=by omega
 have c3:((aY p.length).length:Int)+p.length+1+1+4<=9223372036854775807:=by omega
 unfold ku;have b4:=asY (iL p);have l4:(le4 (iL p)).length=4:=rfl;have s8:=azb (iL p);have s16:=ay7 (iL p);have s24:=ay9 (iL p);generalize iL p=n at *;generalize aY p.length=V at *;have w0:=Qo (n:Int);have w1:=Qo ((n:Int)/256);have w2:=Qo ((n:Int)/65536);have w3:=Qo ((n:Int)/16777216);generalize le4 n=Fx at *;generalize(n:Int)%256=a0 at *;generalize(n:Int)/256%256=a1 at *;generalize(n:Int)/65536%256=a2 at *;generalize(n:Int)/16777216%256=a3 at *;refine aP rfl rfl ?_ rfl;simp -implicitDefEqProofs[-List.append_assoc,h1,hc,hv,wu,s8,s16,s24,w0,w1,w2,w3,b4,l4,c1,c2,c3]
theorem aeu(b:aT)(fl:List aI)(v:Int):(y8 b fl v).1.length<=65536:=by
 unfold y8;split
 ·split
  ·simp
  ·simp only;omega
 ·simp
