/- What the trees compute: plain laws. -/
import Derived.Test.YtilkjidelblkfaaGreatDoorKMe4
namespace Go.Proofs.YtilkjidelblkfaaGreatDoor
open Go Go.aJ
set_option linter.unusedSimpArgs false
set_option linter.unusedVariables false
set_option maxRecDepth 100000
namespace M
mutual
def PO:aH->List UInt8
 | .mk t y n s k=>bG (4 * t+y).toNat++(if y=0 then bG n.toNat else if y=1 then bG s.length++s else bG (dK k).length++dK k)
def dK:List aH->List UInt8
 | []=>[]
 | f::l=>PO f++dK l
end
mutual
def wF:aH->Nat
 | .mk _ _ _ s k=>s.length+40+wL k
def wL:List aH->Nat
 | []=>0
 | f::l=>wF f+wL l
end
mutual
/-- Tags and types that may be. -/
def Jv:aH->Prop
 | .mk t y n s k=>(1<=t/\t<=4294967296)/\((y=0/\s=[]/\k=[])\/(y=1/\n=0/\k=[])\/(y=2/\n=0/\s=[]))/\vw k
def vw:List aH->Prop
 | []=>True
 | f::l=>Jv f/\vw l
end
theorem YL:∀ {l:List aH},vw l->∀f∈l,Jv f
 | f::l,h,g,hg=>by
   simp only [vw] at h;rcases bC.1 hg with rfl | hg
   ·exact h.1
   ·exact YL h.2 g hg
theorem UD:∀ (N:Nat) (l:List aH),bU l < N->dJ l->∀w a,jm w a l=0->0<=a->vw l
 | 0,l,h,_,_,_,_,_=>by omega
 | N+1,[],_,_,_,_,_,_=>by simp only [vw]
 | N+1,.mk t y n s k::l,hN,hok,w,a,h,ha=>by
   simp only [bU,su] at hN;simp only [dJ,rJ] at hok;unfold jm at h;by_cases h1:(aH.mk t y n s k).tag=0
   ·rw [aj h1] at h;exact absurd h (by decide)
   rw [ah h1] at h;by_cases h2:4294967296 < (aH.mk t y n s k).tag
   ·rw [aj h2] at h;exact absurd h (by decide)
   rw [ah h2] at h;by_cases h3:(aH.mk t y n s k).tag<=a
   ·rw [aj h3] at h;exact absurd h (by decide)
   rw [ah h3] at h;by_cases h4:yV w (.mk t y n s k)=0;rotate_left
   ·rw [aj h4] at h;exact absurd h h4
   rw [ah (λe=>e h4)] at h;have h1:¬ t=0:=h1;have h2:¬ 4294967296 < t:=h2;have h3:¬ t<=a:=h3;simp only [vw,Jv];refine ⟨⟨by omega, ?_, ?_⟩,UD N l (by omega) hok.2 w t h (by omega)⟩
   ·simp only [yV] at h4
    split at h4
    ·rename_i hy
     split at h4
     ·rename_i hc;exact .inl ⟨hy,hc⟩
     ·cases h4
    ·split at h4
     ·rename_i hy
      split at h4
      ·rename_i hc;exact .inr (.inl ⟨hy,hc⟩)
      ·cases h4
     ·split at h4
      ·rename_i hy
       split at h4
       ·rename_i hc;exact .inr (.inr ⟨hy,hc⟩)
       ·cases h4
      ·cases h4
   ·simp only [yV] at h4
    split at h4
    ·split at h4
     ·rename_i hc;rw [hc.2];simp only [vw]
     ·cases h4
    ·split at h4
     ·split at h4
      ·rename_i hc;rw [hc.2];simp only [vw]
      ·cases h4
     ·split at h4
      ·split at h4
       ·split at h4
        ·cases h4
        ·exact UD N k (by omega) hok.1.2 _ _ h4 (by omega)
       ·cases h4
      ·cases h4
theorem KX:∀ (N:Nat) (l:List aH),bU l < N->dJ l->vw l->wL l<=1000000000000->(dK l).length<=wL l
 | 0,l,h,_,_,_=>by omega
 | N+1,[],_,_,_,_=>by simp [dK]
 | N+1,.mk t y n s k::l,hN,hok,hty,hw=>by
   simp only [bU,su] at hN;simp only [dJ,rJ] at hok;simp only [vw,Jv] at hty;simp only [wL,wF] at hw ⊢;have h1:=KX N l (by omega) hok.2 hty.2 (by omega);have h2:=KX N k (by omega) hok.1.2 hty.1.2.2 (by omega);simp only [dK,PO,fG];have v1:=lS (n:=(4 * t+y).toNat) (by rcases hty.1.2.1 with h | h | h<;>omega);have v2:=lS (n:=n.toNat) (by omega);have v3:=lS (n:=s.length) (by omega);have v4:=lS (n:=(dK k).length) (by omega);split
   ·omega
   ·split
    ·rw [fG];omega
    ·rw [fG];omega
theorem ach (t y:Int) (ht:1<=t/\t<=4294967296) (hy:0<=y/\y < 4):nJ .shl .u64 t 2=some (.i .u64 (4 * t))/\IntKind.u64.wrap y=y/\fO .or .u64 (4 * t) y=some (.i .u64 (4 * t+y)):=by
 have wu:∀y:Int,IntKind.u64.wrap y=y % 18446744073709551616:=λy=>by simp [IntKind.wrap,IntKind.signed,IntKind.bits]
 have hu:IntKind.u64.bits=64:=rfl;refine ⟨?_,by rw [wu];omega, ?_⟩
 ·have h2:nJ .shl .u64 t 2=some (.i .u64 (IntKind.u64.wrap (t * 2 ^ 2))):=rfl
  rw [h2,wu];congr 2;omega
 ·simp only [fO,wu,hu]
  obtain ⟨T,rfl⟩:∃T:Nat,t=(T:Int):=⟨t.toNat,by omega⟩
  obtain ⟨Y,rfl⟩:∃Y:Nat,y=(Y:Int):=⟨y.toNat,by omega⟩
  have e1:(BitVec.ofInt 64 (4 * (T:Int))).toNat=4 * T:=by rw [xC];omega
  have e2:(BitVec.ofInt 64 (Y:Int)).toNat=Y:=by rw [xC];omega
  have e3:4 * T ||| Y=4 * T+Y:=(agz (i:=2) (b:=Y) (by omega) T).symm;show some (GV.i IntKind.u64 (((BitVec.ofInt 64 (4 * (T:Int)) ||| BitVec.ofInt 64 (Y:Int)).toNat:Int) % 18446744073709551616))=_
  rw [BitVec.toNat_or,e1,e2,e3];congr 2;omega
theorem abR {t y n:Int} {s:List UInt8} {k:List aH} (h:Jv (.mk t y n s k)):1<=t/\t<=4294967296/\0<=y/\y < 3/\(y=0\/y=1\/y=2)/\vw k:=by
 simp only [Jv] at h;rcases h.2.1 with h1 | h1 | h1<;>exact ⟨h.1.1,h.1.2,by omega,by omega,by omega,h.2.2⟩
theorem Yt:∀ (N:Nat) (l:List aH),bU l < N->dJ l->vw l->l.length<=1000000->wL l<=1000000000000->TT.lim 108 [.l (aC l)]=some [.i .i64 (dK l).length]
 | 0,l,h,_,_,_,_=>by omega
 | N+1,l,hN,hok,hty,hlen,hw=>by
   have hl1:=l9 l;have loop:∀m i,i+m=l.length->∀acc:Nat,acc+wL (l.drop i)<=1000000000000->TT.lim 109 [.l (aC l),.i .i64 acc,.i .i64 l.length,.i .i64 i]=some [.i .i64 0,.i .i64 ((acc+(dK (l.drop i)).length:Nat):Int)]:=by
    intro m;induction m with
    | zero=>
      intro i hi acc hacc;have e1:l.drop i=[]:=fJ (by omega);have h:¬ ((i:Int) < l.length):=by omega
      rw [e1];simp only [dK,qy,jR];refine aB rfl rfl ?_;simp -implicitDefEqProofs [h]
    | succ m ih=>
      intro i hi acc hacc;obtain ⟨t,y,n,s,k,g1,g2,g3,g4⟩:=Dn (l:=l) (i:=i) (by omega);have hf:=Dp hok _ g4;have ht:=YL hty _ g4;simp only [rJ] at hf;obtain ⟨t1,t2,y1,y2,y3,tk⟩:=abR ht;have hs:=Sz g4;simp only [su] at hs;rw [g3] at hacc ⊢;simp only [wL,wF] at hacc;have hk:=Yt N k (by omega) hf.2 tk hf.1.2.2.2.2.2.2.2 (by omega);have hkl:=KX (bU k+1) k (by omega) hf.2 tk (by omega);obtain ⟨b1,b2,b3⟩:=ach t y ⟨t1,t2⟩ ⟨y1,by omega⟩;have v1:=MR (4 * t+y).toNat (by omega);have v2:=MR n.toNat (by omega);have v3:=MR s.length (by omega);have v4:=MR (dK k).length (by omega);have z1:=DX (n:=(4 * t+y).toNat) (by omega);have z2:=DX (n:=n.toNat) (by omega);have z3:=DX (n:=s.length) (by omega);have z4:=DX (n:=(dK k).length) (by omega);rw [show (((4 * t+y).toNat:Nat):Int)=4 * t+y by omega] at v1;rw [show ((n.toNat:Nat):Int)=n by omega] at v2;have hcast:((i+1:Nat):Int)=(i:Int)+1:=by omega
      have hwr:=wrap64 (n:=(i:Int)+1) (by omega) (by omega);have h:((i:Int) < l.length):=by omega
      have ih':=λa ha=>ih (i+1) (by omega) a ha;simp only [hcast] at ih';have e1:(bG (4 * t+y).toNat).length=gY (4 * t+y).toNat:=rfl;have e2:(bG n.toNat).length=gY n.toNat:=rfl;have e3:(bG s.length).length=gY s.length:=rfl;have e4:(bG (dK k).length).length=gY (dK k).length:=rfl;have u3:=jJ (n:=(s.length:Int)) (by omega) (by omega);have u4:=jJ (n:=((dK k).length:Int)) (by omega) (by omega);simp only [dK,PO,fG];rw [e1];generalize gY (4 * t+y).toNat=A at *;have w1:=wrap64 (n:=(acc:Int)+A) (by omega) (by omega);rcases y3 with hy | hy | hy
      ·rw [aj hy,e2]
       generalize gY n.toNat=B at *;have w2:=wrap64 (n:=(acc:Int)+A+B) (by omega) (by omega);have qI:=ih' (acc+A+B) (by omega);rw [show ((acc+A+B:Nat):Int)=(acc:Int)+A+B by omega,show acc+A+B+(dK (l.drop (i+1))).length=acc+(A+B+(dK (l.drop (i+1))).length) by omega] at qI;have q0:(y=0)=True:=eq_true hy;clear hy;refine aB rfl rfl ?_;simp -implicitDefEqProofs [h,g2,q0,b1,b2,b3,v1,v2,w1,w2,hwr,qI]
      ·rw [ah (by omega),aj hy,fG,e3]
       generalize gY s.length=B at *;have w2:=wrap64 (n:=(B:Int)+s.length) (by omega) (by omega);have w3:=wrap64 (n:=(acc:Int)+A+(B+s.length)) (by omega) (by omega);have qI:=ih' (acc+A+(B+s.length)) (by omega);rw [show ((acc+A+(B+s.length):Nat):Int)=(acc:Int)+A+(B+s.length) by omega,show acc+A+(B+s.length)+(dK (l.drop (i+1))).length=acc+(A+(B+s.length)+(dK (l.drop (i+1))).length) by omega] at qI;have q0:(y=0)=False:=eq_false (by omega);have q1:(y=1)=True:=eq_true hy;clear hy;refine aB rfl rfl ?_;simp -implicitDefEqProofs [h,g2,q0,q1,b1,b2,b3,v1,v3,u3,w1,w2,w3,hwr,qI]
      ·rw [ah (by omega),ah (by omega),fG,e4]
       generalize gY (dK k).length=B at *;generalize (dK k).length=C at *;have w2:=wrap64 (n:=(B:Int)+C) (by omega) (by omega);have w3:=wrap64 (n:=(acc:Int)+A+(B+C)) (by omega) (by omega);have qI:=ih' (acc+A+(B+C)) (by omega);rw [show ((acc+A+(B+C):Nat):Int)=(acc:Int)+A+(B+C) by omega,show acc+A+(B+C)+(dK (l.drop (i+1))).length=acc+(A+(B+C)+(dK (l.drop (i+1))).length) by omega] at qI;have q0:(y=0)=False:=eq_false (by omega);have q1:(y=1)=False:=eq_false (by omega);have q2:(y=2)=True:=eq_true hy;clear hy;refine aB rfl rfl ?_;simp -implicitDefEqProofs [h,g2,q0,q1,q2,b1,b2,b3,v1,hk,v4,u4,w1,w2,w3,hwr,qI]
   have h0:=loop l.length 0 (by omega) 0 (by rw [dO];omega);rw [dO,jk] at h0;have h0':TT.lim 109 [.l (aC l),.i .i64 0,.i .i64 (aC l).length,.i .i64 0]=some [.i .i64 0,.i .i64 ((dK l).length:Int)]:=by rw [hl1];exact h0
   rw [hl1] at h0';clear loop h0;refine aQ rfl rfl ?_ rfl;simp -implicitDefEqProofs [hl1,h0']
/-- The bytes for fields, put behind others. -/
theorem Eo (a b:List UInt8):eU (a++b)=eU a++eU b:=by simp [eU]
theorem agj:∀ (N:Nat) (l:List aH),bU l < N->dJ l->vw l->l.length<=1000000->∀B:List UInt8,B.length+wL l<=1000000000000->TT.lim 110 [.l (eU B),.l (aC l)]=some [.i .i64 0,.l (eU (B++dK l))]
 | 0,l,h,_,_,_,_,_=>by omega
 | N+1,l,hN,hok,hty,hlen,B,hB=>by
   have hl1:=l9 l;have loop:∀m i,i+m=l.length->∀acc:List UInt8,acc.length+wL (l.drop i)<=1000000000000->TT.lim 111 [.l (eU acc),.l (aC l),.i .i64 l.length,.i .i64 i]=some [.i .i64 0,.l (eU (acc++dK (l.drop i)))]:=by
    intro m;induction m with
    | zero=>
      intro i hi acc hacc;have e1:l.drop i=[]:=fJ (by omega);have h:¬ ((i:Int) < l.length):=by omega
      rw [e1];simp only [dK,pI];refine aB rfl rfl ?_;simp -implicitDefEqProofs [h]
    | succ m ih=>
      intro i hi acc hacc;obtain ⟨t,y,n,s,k,g1,g2,g3,g4⟩:=Dn (l:=l) (i:=i) (by omega);have hf:=Dp hok _ g4;have ht:=YL hty _ g4;simp only [rJ] at hf;obtain ⟨t1,t2,y1,y2,y3,tk⟩:=abR ht;have hs:=Sz g4;simp only [su] at hs;rw [g3] at hacc ⊢;simp only [wL,wF] at hacc;have hk:=Yt N k (by omega) hf.2 tk hf.1.2.2.2.2.2.2.2 (by omega);have hkl:=KX (bU k+1) k (by omega) hf.2 tk (by omega);obtain ⟨b1,b2,b3⟩:=ach t y ⟨t1,t2⟩ ⟨y1,by omega⟩;have v1:=xk (4 * t+y).toNat (by omega);have v2:=xk n.toNat (by omega);have v3:=xk s.length (by omega);have v4:=xk (dK k).length (by omega);have z1:=lS (n:=(4 * t+y).toNat) (by omega);have z2:=lS (n:=n.toNat) (by omega);have z3:=lS (n:=s.length) (by omega);have z4:=lS (n:=(dK k).length) (by omega);rw [show (((4 * t+y).toNat:Nat):Int)=4 * t+y by omega] at v1;rw [show ((n.toNat:Nat):Int)=n by omega] at v2;have hcast:((i+1:Nat):Int)=(i:Int)+1:=by omega
      have hwr:=wrap64 (n:=(i:Int)+1) (by omega) (by omega);have h:((i:Int) < l.length):=by omega
      have ih':=λa ha=>ih (i+1) (by omega) a ha;simp only [hcast] at ih';have u3:=jJ (n:=(s.length:Int)) (by omega) (by omega);have u4:=jJ (n:=((dK k).length:Int)) (by omega) (by omega);have o8:∀z:List UInt8,(eU z).all (λg=>g.fA 1)=true:=λz=>by simp [eU,GV.fA]
      have l8:∀z:List UInt8,(eU z).length=z.length:=λz=>by simp [eU]
      simp only [dK,PO];rcases y3 with hy | hy | hy
      ·rw [aj hy]
       have qI:=ih' (acc++bG (4 * t+y).toNat++bG n.toNat) (by simp only [fG];omega);rw [show acc++bG (4 * t+y).toNat++bG n.toNat++dK (l.drop (i+1))=acc++(bG (4 * t+y).toNat++bG n.toNat++dK (l.drop (i+1))) by simp,Eo,Eo] at qI;generalize bG (4 * t+y).toNat=A at *;generalize bG n.toNat=C at *;have c1:2 * (acc.length+A.length)<=281474976710656/\acc.length+A.length<=281474976710656:=by omega
       have c2:2 * (acc.length+A.length+C.length)<=281474976710656/\acc.length+A.length+C.length<=281474976710656:=by omega
       have q0:(y=0)=True:=eq_true hy;clear hy;refine aB rfl rfl ?_;simp -implicitDefEqProofs [-List.append_assoc,h,g2,q0,b1,b2,b3,v1,v2,hwr,qI,o8,l8,c1,c2]
      ·rw [ah (by omega),aj hy]
       have qI:=ih' (acc++bG (4 * t+y).toNat++bG s.length++s) (by simp only [fG];omega);rw [show acc++bG (4 * t+y).toNat++bG s.length++s++dK (l.drop (i+1))=acc++(bG (4 * t+y).toNat++(bG s.length++s)++dK (l.drop (i+1))) by simp,Eo,Eo,Eo] at qI;generalize bG (4 * t+y).toNat=A at *;generalize bG s.length=C at *;have c1:2 * (acc.length+A.length)<=281474976710656/\acc.length+A.length<=281474976710656:=by omega
       have c2:2 * (acc.length+A.length+C.length)<=281474976710656/\acc.length+A.length+C.length<=281474976710656:=by omega
       have c3:2 * (acc.length+A.length+C.length+s.length)<=281474976710656/\acc.length+A.length+C.length+s.length<=281474976710656:=by omega
       have q0:(y=0)=False:=eq_false (by omega);have q1:(y=1)=True:=eq_true hy;clear hy;refine aB rfl rfl ?_;simp -implicitDefEqProofs [-List.append_assoc,h,g2,q0,q1,b1,b2,b3,v1,v3,u3,hwr,qI,o8,l8,c1,c2,c3]
      ·rw [ah (by omega),ah (by omega)]
       have hwk:=agj N k (by omega) hf.2 tk hf.1.2.2.2.2.2.2.2 (acc++bG (4 * t+y).toNat++bG (dK k).length) (by simp only [fG];omega);have qI:=ih' (acc++bG (4 * t+y).toNat++bG (dK k).length++dK k) (by simp only [fG];omega);rw [show acc++bG (4 * t+y).toNat++bG (dK k).length++dK k++dK (l.drop (i+1))=acc++(bG (4 * t+y).toNat++(bG (dK k).length++dK k)++dK (l.drop (i+1))) by simp] at qI;rw [Eo (acc++_),Eo acc] at hwk;generalize bG (4 * t+y).toNat=A at *;generalize bG (dK k).length=C at *;have c1:2 * (acc.length+A.length)<=281474976710656/\acc.length+A.length<=281474976710656:=by omega
       have c2:2 * (acc.length+A.length+C.length)<=281474976710656/\acc.length+A.length+C.length<=281474976710656:=by omega
       generalize dK k=K at *;have q0:(y=0)=False:=eq_false (by omega);have q1:(y=1)=False:=eq_false (by omega);have q2:(y=2)=True:=eq_true hy;clear hy;refine aB rfl rfl ?_;simp -implicitDefEqProofs [-List.append_assoc,h,g2,q0,q1,q2,b1,b2,b3,v1,hk,v4,u4,hwk,hwr,qI,o8,l8,c1,c2]
   have h0:=loop l.length 0 (by omega) B (by rw [dO];omega);rw [dO] at h0;have h0':TT.lim 111 [.l (eU B),.l (aC l),.i .i64 l.length,.i .i64 0]=some [.i .i64 0,.l (eU (B++dK l))]:=h0;clear loop h0;generalize eU B=B' at *;refine aB rfl rfl ?_;simp -implicitDefEqProofs [hl1,h0']
theorem aoy {α β:Type} {f:α->β} {ys zs:List β} (h:ys.Perm zs):∀l:List α,zs=l.map f->∃p:List α,p.Perm l/\ys=p.map f:=by
 induction h with
 | nil=>intro l e;exact ⟨l,.refl _,e⟩
 | cons x _ ih=>
   intro l e;cases l with
   | nil=>cases e
   | cons a l=>
     injection e with e1 e2
     obtain ⟨p,h1,h2⟩:=ih l e2;exact ⟨a::p,h1.cons a,by rw [gV,<- h2,<- e1]⟩
 | swap x y l=>
   intro m e;rcases m with _ | ⟨a,_ | ⟨b,m⟩⟩
   ·cases e
   ·cases e
   ·simp only [gV,yE] at e
    obtain ⟨e1,e2,e3⟩:=e;exact ⟨b::a::m,List.Perm.swap a b m,by rw [gV,gV,<- e1,<- e2,<- e3]⟩
 | trans _ _ ih1 ih2=>
   intro l e;obtain ⟨p,h1,h2⟩:=ih2 l e;obtain ⟨q,h3,h4⟩:=ih1 p h2;exact ⟨q,h3.trans h1,h4⟩
theorem afs:∀ (p q:List aH),p.Perm q->p.Pairwise (λa b=>a.tag<=b.tag)->q.Pairwise (λa b=>a.tag < b.tag)->p=q
 | [],q,h,_,_=>(List.nil_perm.1 h).symm
 | a::p,[],h,_,_=>by have:=h.length_eq;simp at this
 | a::p,b::q,h,hp,hq=>by
   have hb:b∈a::p:=h.mem_iff.2 (by simp);have ha:a∈b::q:=h.mem_iff.1 (by simp);rw [iV] at hp hq;have h1:a.tag<=b.tag:=by
    rcases bC.1 hb with e | hb
    ·rw [e];exact NI _
    ·exact hp.1 b hb
   have e:a=b:=by
    rcases bC.1 ha with e | ha
    ·exact e
    ·have:=hq.1 a ha;omega
   subst e;rw [afs p q (List.Perm.cons_inv h) hp.2 hq.2]
def Jk (f:aH):List aH->Nat
 | []=>0
 | g::l=>if g.tag < f.tag then Jk f l+1 else 0
def Dt (f:aH) (out:List aH):List aH:=out.take (Jk f out)++f::out.drop (Jk f out)
def IV (out l:List aH):List aH:=l.foldl (λo f=>Dt f o) out
theorem acD (f:aH) (out:List aH):(Dt f out).Perm (f::out):=by
 unfold Dt;refine List.perm_middle.trans ?_;rw [G5]
theorem acE (f:aH):∀out:List aH,out.Pairwise (λa b=>a.tag < b.tag)->(∀g∈out,g.tag≠f.tag)->(Dt f out).Pairwise (λa b=>a.tag < b.tag)/\(∀g,out[Jk f out]? = some g->g.tag≠f.tag)
 | [],_,_=>by simp [Dt,Jk]
 | g::l,hp,hn=>by
   rw [iV] at hp;unfold Dt Jk;by_cases h:g.tag < f.tag
   ·obtain ⟨i1,i2⟩:=acE f l hp.2 λx hx=>hn x (by simp [hx])
    rw [aj h];simp only [zZ,Tz,bJ,qp];refine ⟨List.pairwise_cons.2 ⟨λx hx=>?_,i1⟩,i2⟩;have:=(acD f l).mem_iff.1 hx;rcases bC.1 this with rfl | hx
    ·exact h
    ·exact hp.1 x hx
   ·rw [ah h]
    have hg:=hn g (by simp);simp only [TL,dO,bn,iQ];refine ⟨List.pairwise_cons.2 ⟨λx hx=>?_,iV.2 hp⟩,λx hx=>?_⟩
    ·rcases bC.1 hx with rfl | hx
     ·omega
     ·have:=hp.1 x hx;omega
    ·injection hx with hx
     rw [<- hx];exact hg
theorem V3:∀ (l out:List aH),out.Pairwise (λa b=>a.tag < b.tag)->((out++l).map aH.tag).Nodup->(IV out l).Perm (out++l)/\(IV out l).Pairwise (λa b=>a.tag < b.tag)
 | [],out,hp,_=>by simp only [IV,List.foldl_nil,pI];exact ⟨.refl _,hp⟩
 | f::l,out,hp,hn=>by
   have hf:∀g∈out,g.tag≠f.tag:=λg hg e=>by
    rw [mQ,List.nodup_append] at hn;exact hn.2.2 g.tag (List.mem_map_of_mem hg) f.tag (by simp) e
   have hs:=(acE f out hp hf).1;have hq:(Dt f out++l).Perm (out++f::l):=((acD f out).append_right l).trans (List.perm_middle.symm);have ih:=V3 l (Dt f out) hs ((hq.map aH.tag).nodup_iff.2 hn);exact ⟨ih.1.trans hq,ih.2⟩
theorem abQ (l:List aH):(aC l).all (λg=>g.fA 5)=true:=by
 rw [zf,List.all_eq_true];intro g hg;obtain ⟨f,_,rfl⟩:=nO.1 hg;cases f;simp only [ng];rfl
theorem PI (a b:List aH):aC (a++b)=aC a++aC b:=by simp only [zf,mQ]
/-- Both lists brought together, where all tags differ. -/
def tu (a b:List aH):List aH:=IV [] (a++b)
theorem adJ {a b:List aH} (hn:((a++b).map aH.tag).Nodup):(tu a b).Perm (a++b)/\(tu a b).Pairwise (λx y=>x.tag < y.tag):=V3 (a++b) [] List.Pairwise.nil hn
theorem ahk (s:List UInt8):nT (eU s)=some s:=by
 induction s with
 | nil=>rfl
 | cons a s ih=>
   have h1:(0:Int)<=a.toNat/\((a.toNat:Nat):Int) < 256:=by have:=a.toNat_lt;omega
   show (if _ then _ else _)=_
   rw [aj h1];have e:(s.map λb=>GV.i .u8 b.toNat)=eU s:=rfl;rw [e,ih];simp
theorem atf (l:List aH) (hok:dJ l) (hlen:l.length<=1000000) (hw:wL l<=1000000000000) (hc:jm 0 0 l=0):TT.lim 107 [.l (aC l)]=some (if 65536 < (dK l).length then [.s [],.i .i64 4] else [.s (dK l),.i .i64 0]):=by
 have ty:=UD (bU l+1) l (by omega) hok 0 0 hc (by omega);have k1:=Px l hok hlen;rw [hc] at k1;have k2:=Yt (bU l+1) l (by omega) hok ty hlen hw;have k3:=agj (bU l+1) l (by omega) hok ty hlen [] (by simpa using hw);have e0:eU []=[]:=rfl;rw [e0,bn] at k3;have hfl:=KX (bU l+1) l (by omega) hok ty hw;by_cases c:65536 < (dK l).length
 ·have c':(65536:Int) < (dK l).length:=by omega
  rw [aj c];refine aQ rfl rfl ?_ rfl;simp -implicitDefEqProofs [k1,k2,c,c']
 ·have c':¬ (65536:Int) < (dK l).length:=by omega
  have hb:=ahk (dK l);have hl8:(eU (dK l)).length=(dK l).length:=by simp [eU]
  have c2:(eU (dK l)).length<=281474976710656:=by omega
  have c3:(0:Int)<=(dK l).length/\((dK l).length:Int)<=281474976710656/\((dK l).length:Int)<=1152921504606846976:=by omega
  rw [ah c];clear hok hw hc ty hfl;generalize dK l=F at *;generalize aC l=G at *;generalize eU F=BF at *;refine aQ rfl rfl ?_ rfl;simp -implicitDefEqProofs [k1,k2,k3,c,c',hb,c2,c3,GV.fA]
theorem afG (f:aH):Gj (ng f)=f.tag:=by
 cases f;simp only [ng,aH.tag];rfl
theorem akH (l:List aH):(aC l).all isTagged=true:=by
 rw [zf,List.all_eq_true];intro g hg;obtain ⟨f,_,rfl⟩:=nO.1 hg;cases f;simp only [ng];rfl
theorem asi {a b:List aH} (h:a.Perm b):bU a=bU b:=by
 induction h with
 | nil=>rfl
 | cons x _ ih=>simp only [bU,ih]
 | swap x y l=>simp only [bU];omega
 | trans _ _ h1 h2=>rw [h1,h2]
theorem atd {a b:List aH} (h:a.Perm b):wL a=wL b:=by
 induction h with
 | nil=>rfl
 | cons x _ ih=>simp only [wL,ih]
 | swap x y l=>simp only [wL];omega
 | trans _ _ h1 h2=>rw [h1,h2]
theorem afF:∀a b:List aH,bU (a++b)=bU a+bU b
 | [],b=>by simp [bU]
 | f::a,b=>by simp only [bJ,bU,afF a b];omega
theorem agd:∀a b:List aH,wL (a++b)=wL a+wL b
 | [],b=>by simp [wL]
 | f::a,b=>by simp only [bJ,wL,agd a b];omega
theorem PK:∀ {l:List aH},(∀f∈l,rJ f)->dJ l
 | [],_=>by simp only [dJ]
 | f::l,h=>by
   simp only [dJ];exact ⟨h f (by simp),PK λg hg=>h g (by simp [hg])⟩
theorem akK {a b:List aH} (h:a.Perm b) (hb:dJ b):dJ a:=PK λf hf=>Dp hb f (h.mem_iff.1 hf)
theorem akJ {a b:List aH} (ha:dJ a) (hb:dJ b):dJ (a++b):=PK λf hf=>(jO.1 hf).elim (Dp ha f) (Dp hb f)
/-- Slices.SortFunc puts them as the document does. -/
theorem arN (l:List aH) (hn:(l.map aH.tag).Nodup):tK (aC l)=aC (IV [] l):=by
 have hp:=Yu (aC l);have hs:=arM (aC l);rw [zf] at hp;obtain ⟨p,hp1,hp2⟩:=aoy hp l rfl;rw [<- zf] at hp2;have hq:=V3 l [] List.Pairwise.nil hn;rw [bn] at hq;have hsp:p.Pairwise (λa b=>a.tag<=b.tag):=by
  rw [TJ];intro i j hi hj hij;have:=hs i j (ng p[i]) (ng p[j]) hij (by rw [hp2,iF,bM hi];rfl) (by rw [hp2,iF,bM hj];rfl);rwa [afG,afG] at this
 have e:=afs p (IV [] l) (hp1.trans hq.1.symm) hsp hq.2;rw [hp2,e,zf]
theorem aeG (l:List aH) (hl:l.length<=10000000) (hp:l.Pairwise (λa b=>a.tag < b.tag)):∀m i:Nat,i+1+m=l.length->TT.lim 105 [.l (aC l),.i .i64 ((i:Int)+1)]=some [.i .i64 1]
 | 0,i,hi=>by
   have h:¬ ((i:Int)+1 < l.length):=by omega
   have hg:=l9 l;refine aB rfl rfl ?_;simp -implicitDefEqProofs [hg,h]
 | m+1,i,hi=>by
   have h:((i:Int)+1 < l.length):=by omega
   have hg:=l9 l;have ih:=aeG l hl hp m (i+1) (by omega);obtain ⟨t,y,n,s,k,g1,g2,g3,g4⟩:=Dn (l:=l) (i:=i) (by omega);obtain ⟨t',y',n',s',k',g1',g2',g3',g4'⟩:=Dn (l:=l) (i:=i+1) (by omega);have hlt:t < t':=by
    have:=TJ.1 hp i (i+1) (by omega) (by omega) (by omega);have e1:l[i]=.mk t y n s k:=by have:=bM (l:=l) (i:=i) (by omega);rw [g1] at this;injection this with this;exact this.symm
    have e2:l[i+1]=.mk t' y' n' s' k':=by have:=bM (l:=l) (i:=i+1) (by omega);rw [g1'] at this;injection this with this;exact this.symm
    rw [e1,e2] at this;exact this
   have hne:¬ t'=t:=by omega
   have hcast:((i+1:Nat):Int)=(i:Int)+1:=by omega
   rw [hcast] at ih;have hw:=wrap64 (n:=(i:Int)+1+1) (by omega) (by omega);have hw2:=wrap64 (n:=(i:Int)+1 - 1) (by omega) (by omega);have hw3:(i:Int)+1 - 1=i:=by omega
   rw [hw3] at hw2;have hn0:(0:Int)<=(i:Int)+1:=by omega
   have ht:((i:Int)+1).toNat=i+1:=by omega
   have hi0:i < l.length:=by omega
   have gi:∀h:i < (aC l).length,(aC l)[i]=oP t y n s k:=λh=>by have:=bM h;rw [g2] at this;injection this with this;exact this.symm
   have gi':∀h:i+1 < (aC l).length,(aC l)[i+1]=oP t' y' n' s' k':=λh=>by have:=bM h;rw [g2'] at this;injection this with this;exact this.symm
   refine aB rfl rfl ?_;simp -implicitDefEqProofs [gi,gi',hg,h,g2,g2',hne,hw,hw2,hw3,hn0,ht,hi0,ih]
theorem ao2 (a b:List aH) (oa:dJ a) (ob:dJ b) (la:a.length<=1000000) (lb:b.length<=1000000) (sa:bU a+bU b<=1000000) (ha:jm 0 0 a=0) (hb:jm 0 0 b=0) (hn:((a++b).map aH.tag).Nodup):TT.lim 103 [.l [.l (aC a),.l (aC b)]]=some [.l (aC (tu a b)),.i .i64 0]:=by
 have k1:=Px a oa la;have k2:=Px b ob lb;rw [ha] at k1;rw [hb] at k2;have hab:=PI a b;have l1:=l9 a;have l2:=l9 b;have o1:=abQ a;have o2:=abQ b;have hso:TT.lim 0 [.l (aC a++aC b)]=some [.l (aC (tu a b))]:=by
  refine FX (Ds:=Ds) (f:=MV) rfl ?_;have h1:(aC a++aC b).length<=281474976710656/\(aC a++aC b).all isTagged=true:=by
   rw [<- hab];exact ⟨by rw [l9,fG];omega,akH _⟩
  show (if (aC a++aC b).length<=281474976710656/\(aC a++aC b).all isTagged=true then some [GV.l (tK (aC a++aC b))] else none)=_
  rw [aj h1,<- hab,arN _ hn];rfl
 obtain ⟨mp,ms⟩:=adJ hn;have hml:(tu a b).length=a.length+b.length:=by rw [mp.length_eq,fG]
 have hsl:(aC (tu a b)).length=(aC a++aC b).length:=by rw [l9,hml,fG,l1,l2]
 have hcl:=Py (tu a b) (by rw [asi mp,afF];exact sa);have h1:TT.lim 105 [.l (aC (tu a b)),.i .i64 1]=some [.i .i64 1]:=by
  rcases ZE (tu a b).length with h0 | h0
  ·have:tu a b=[]:=jh h0
   rw [this];have fn:aC []=[]:=by simp only [aC]
   rw [fn];refine aB rfl rfl ?_;simp
  ·have:=aeG (tu a b) (by omega) ms ((tu a b).length - 1) 0 (by omega)
   simpa using this
 have w0:IntKind.i64.wrap 1=1:=by decide
 have w1:IntKind.i64.wrap 2=2:=by decide
 have c1:2 * (aC a).length * 64<=281474976710656/\(aC a).length<=281474976710656:=by omega
 have c2:2 * ((aC a).length+(aC b).length) * 64<=281474976710656/\(aC a).length+(aC b).length<=281474976710656:=by omega
 clear hn mp ms hml ha hb oa ob sa hab l1 l2;generalize aC (tu a b)=M at *;generalize aC a=A at *;generalize aC b=B at *;have a3:TT.lim 104 [.l (A++B),.l [.l A,.l B],.i .i64 2,.i .i64 2]=some [.i .i64 1,.l (A++B)]:=by
  refine aB rfl rfl ?_;simp
 have a2:TT.lim 104 [.l A,.l [.l A,.l B],.i .i64 2,.i .i64 1]=some [.i .i64 1,.l (A++B)]:=by
  refine aB rfl rfl ?_;simp -implicitDefEqProofs [-List.all_eq_true,k2,w1,o2,c2,a3]
 have a1:TT.lim 104 [.l [],.l [.l A,.l B],.i .i64 2,.i .i64 0]=some [.i .i64 1,.l (A++B)]:=by
  refine aB rfl rfl ?_;simp -implicitDefEqProofs [-List.all_eq_true,k1,w0,o1,c1,a2]
 rw [fG] at hsl;refine aQ rfl rfl ?_ rfl;simp -implicitDefEqProofs [a1,hso,hsl,h1,hcl]
def zk (b:aS) (s:eG):Option aH:=match placeOf s.name with
 | some p=>if (bZ b p).1=0/\(bZ b p).2=[] then none else some (.mk s.tag (eF p) (bZ b p).1 (bZ b p).2 [])
 | none=>none
def oq (b:aS) (l:List eG):List aH:=l.filterMap (zk b)
theorem Qw (b:aS) (s:eG) (l:List eG):oq b (s::l)=(match zk b s with | some f=>[f] | none=>[])++oq b l:=by
 unfold oq;rw [List.filterMap_cons];cases zk b s<;>rfl
theorem aec {b:aS} {fl:List aH} (hM:qB b fl) (ls:List eG) (hl:ls.length<=1000) (hls:∀s∈ls,placeOf s.name≠none/\s.use=YQ s.name):∀ (m i:Nat) (acc:List aH),i+m=ls.length->acc.length+m<=2000->
 TT.lim 96 ([.l (aC acc),.l (ls.map dZ),.i .i64 ls.length,.i .i64 i]++(gI b (aC fl)).cells)=some [.i .i64 0,.l (aC (acc++oq b (ls.drop i)))]
 | 0,i,acc,hi,ha=>by
   have h:¬ ((i:Int) < ls.length):=by omega
   have e:ls.drop i=[]:=fJ (by omega);rw [e];have:oq b []=[]:=rfl;rw [this,pI,dG];simp only [bJ,bn];refine aB rfl rfl ?_;simp -implicitDefEqProofs [h]
 | m+1,i,acc,hi,ha=>by
   have hlt:i < ls.length:=by omega
   have h:((i:Int) < ls.length):=by omega
   obtain ⟨p,v1⟩:∃p,placeOf ls[i].name=some p:=by
    cases e:placeOf ls[i].name with
    | some p=>exact ⟨p,rfl⟩
    | none=>exact absurd e (hls _ (gU hlt)).1
   have v2:=anP hM v1;have hdr:ls.drop i=ls[i]::ls.drop (i+1):=iC hlt;have hat:(ls.map dZ)[i]? = some (dZ ls[i]):=by rw [iF,bM hlt];rfl
   have hcast:((i+1:Nat):Int)=(i:Int)+1:=by omega
   have hw:=wrap64 (n:=(i:Int)+1) (by omega) (by omega);rw [hdr,Qw];have hk:zk b ls[i]=if (bZ b p).1=0/\(bZ b p).2=[] then none else some (.mk ls[i].tag (eF p) (bZ b p).1 (bZ b p).2 []):=by unfold zk;rw [v1]
   rw [hk];have ih:=aec hM ls hl hls m (i+1);generalize ls[i]=s at *;clear hk hdr v1;have la:=l9 acc;have fn:aC []=[]:=by simp only [aC]
   have hel:(oP s.tag (eF p) (bZ b p).1 (bZ b p).2 []).fA 5=true:=rfl;have hfe:GV.g [.i .u64 s.tag,.i .i64 (eF p),.i .u64 (bZ b p).1,.s (bZ b p).2,.l []]=oP s.tag (eF p) (bZ b p).1 (bZ b p).2 []:=by unfold oP;rw [fn]
   have c1:2 * ((aC acc).length+1) * 64<=281474976710656/\(aC acc).length+1<=281474976710656:=by omega
   by_cases hz:(bZ b p).1=0/\(bZ b p).2=[]
   ·rw [aj hz]
    have ih:=ih acc (by omega) (by omega);rw [dG,hcast] at ih;rw [dG];simp only [bJ,bn] at ih ⊢;clear hel hfe c1 la;obtain ⟨z1,z2⟩:=hz;rw [z1,z2] at v2;generalize aC acc=A at *;generalize aC fl=r at *;generalize ls.map dZ=SP at *;generalize eF p=ty at *;refine aB rfl rfl ?_;simp -implicitDefEqProofs [h,hat,jI,v2,hw,ih]
   ·rw [ah hz]
    have ih:=ih (acc++[.mk s.tag (eF p) (bZ b p).1 (bZ b p).2 []]) (by omega) (by rw [fG,Cj];omega);have hfa:aC (acc++[.mk s.tag (eF p) (bZ b p).1 (bZ b p).2 []])=aC acc++[oP s.tag (eF p) (bZ b p).1 (bZ b p).2 []]:=by rw [PI];simp only [aC,ng];rfl
    rw [dG,hcast,hfa,List.append_assoc] at ih;rw [dG];simp only [bJ,bn] at ih ⊢;generalize hR:aC (acc++.mk s.tag (eF p) (bZ b p).1 (bZ b p).2 []::oq b (ls.drop (i+1)))=R at *;clear hR hfa la;generalize oP s.tag (eF p) (bZ b p).1 (bZ b p).2 []=E at *;generalize aC acc=A at *;generalize aC fl=r at *;generalize ls.map dZ=SP at *;generalize eF p=ty at *;generalize bZ b p=vv at *;obtain ⟨n,t⟩:=vv;simp only at *;by_cases hn:n=0
    ·have ht:¬ t=[]:=λe=>hz ⟨hn,e⟩
     subst hn;refine aB rfl rfl ?_;simp -implicitDefEqProofs [h,hat,jI,v2,ht,hfe,hel,c1,hw,ih]
    ·refine aB rfl rfl ?_
     simp -implicitDefEqProofs [h,hat,jI,v2,hn,hfe,hel,c1,hw,ih]
theorem OX:∀ (l:List aH) (w:Nat) (a:Int),jm w a l=0->(∀f∈l,f.tag≠0/\f.tag<=4294967296/\yV w f=0/\a < f.tag)/\l.Pairwise (λx y=>x.tag < y.tag)
 | [],w,a,_=>⟨by simp,List.Pairwise.nil⟩
 | f::l,w,a,h=>by
   unfold jm at h;by_cases h1:f.tag=0
   ·rw [aj h1] at h;exact absurd h (by decide)
   rw [ah h1] at h;by_cases h2:4294967296 < f.tag
   ·rw [aj h2] at h;exact absurd h (by decide)
   rw [ah h2] at h;by_cases h3:f.tag<=a
   ·rw [aj h3] at h;exact absurd h (by decide)
   rw [ah h3] at h;by_cases h4:yV w f=0;rotate_left
   ·rw [aj h4] at h;exact absurd h h4
   rw [ah (λe=>e h4)] at h;obtain ⟨i1,i2⟩:=OX l w f.tag h;refine ⟨λg hg=>?_,iV.2 ⟨λg hg=>(i1 g hg).2.2.2,i2⟩⟩;rcases bC.1 hg with rfl | hg
   ·exact ⟨h1,by omega,h4,by omega⟩
   ·obtain ⟨q1,q2,q3,q4⟩:=i1 g hg
    exact ⟨q1,q2,q3,by omega⟩
theorem UC:∀ (l:List aH) (w:Nat) (a:Int),(∀f∈l,f.tag≠0/\f.tag<=4294967296/\yV w f=0/\a < f.tag)->l.Pairwise (λx y=>x.tag < y.tag)->jm w a l=0
 | [],w,a,_,_=>by unfold jm;rfl
 | f::l,w,a,h,hp=>by
   obtain ⟨q1,q2,q3,q4⟩:=h f (by simp);rw [iV] at hp;unfold jm;rw [ah q1,ah (by omega),ah (by omega),ah (λe=>e q3)];refine UC l w f.tag (λg hg=>?_) hp.2;obtain ⟨r1,r2,r3,r4⟩:=h g (by simp [hg]);exact ⟨r1,r2,r3,hp.1 g hg⟩
theorem arR (k:Int):(wC k).Pairwise (λs t=>s.tag < t.tag)/\∀s∈wC k,1<=s.tag/\s.tag<=5:=by
 unfold wC;repeat' split
 all_goals first | (unfold sp1;decide) | (unfold sp2;decide) | (unfold BK;decide) | (unfold BL;decide) | (unfold BM;decide) | (unfold BN;decide) | (unfold BO;decide) | (unfold BP;decide) | exact ⟨List.Pairwise.nil,λs hs=>by cases hs⟩
theorem Qv (k v:Int):(bI k v).Pairwise (λs t=>s.tag < t.tag)/\∀s∈bI k v,1<=s.tag/\s.tag<=5:=by
 obtain ⟨h1,h2⟩:=arR k;exact ⟨h1.sublist List.filter_sublist,λs hs=>h2 s (GY.1 hs).1⟩
theorem Qq {b:aS} {s:eG} {f:aH} (h:zk b s=some f):∃p,placeOf s.name=some p/\f=.mk s.tag (eF p) (bZ b p).1 (bZ b p).2 []/\¬ ((bZ b p).1=0/\(bZ b p).2=[]):=by
 unfold zk at h;cases hp:placeOf s.name with
 | none=>rw [hp] at h;cases h
 | some p=>
   rw [hp] at h;simp only at h;by_cases hz:(bZ b p).1=0/\(bZ b p).2=[]
   ·rw [aj hz] at h;cases h
   ·rw [ah hz] at h
    injection h with h
    exact ⟨p,rfl,h.symm,hz⟩
theorem Qx {b:aS} {l:List eG} {f:aH} (h:f∈oq b l):∃s∈l,∃p,placeOf s.name=some p/\f=.mk s.tag (eF p) (bZ b p).1 (bZ b p).2 []/\¬ ((bZ b p).1=0/\(bZ b p).2=[]):=by
 unfold oq at h;obtain ⟨s,hs,hf⟩:=List.mem_filterMap.1 h;exact ⟨s,hs,Qq hf⟩
theorem Wl (b:aS):∀ (l:List eG),l.Pairwise (λs t=>s.tag < t.tag)->(oq b l).Pairwise (λx y=>x.tag < y.tag)
 | [],_=>List.Pairwise.nil
 | s::l,h=>by
   rw [iV] at h;rw [Qw];have ih:=Wl b l h.2;cases hk:zk b s with
   | none=>exact ih
   | some f=>
     obtain ⟨p, -,rfl, -⟩:=Qq hk;refine iV.2 ⟨λg hg=>?_,ih⟩;obtain ⟨s',hs',p', -,rfl, -⟩:=Qx hg;exact h.1 s' hs'
theorem asZ (b:aS) (p:Pl):(eF p=0/\(bZ b p).2=[])\/(eF p=1/\(bZ b p).1=0):=by
 cases p<;>simp [eF,bZ]
theorem acS (b:aS) (k v:Int):jm 0 0 (oq b (bI k v))=0:=by
 obtain ⟨h1,h2⟩:=Qv k v;refine UC _ 0 0 (λf hf=>?_) (Wl b _ h1);obtain ⟨s,hs,p, -,rfl, -⟩:=Qx hf;have:=h2 s hs;refine ⟨by show s.tag≠0;omega,by show s.tag<=_;omega, ?_,by show 0 < s.tag;omega⟩;unfold yV;rcases asZ b p with ⟨q1,q2⟩ | ⟨q1,q2⟩
 ·rw [q1,q2];simp
 ·rw [q1,q2];simp
def Short (b:aS):Prop:=b.name.length<=600/\b.region.length<=600/\b.note.length<=600
theorem af4 {b:aS} {fl:List aH} (h:qB b fl) (hw:Short b) (p:Pl):(0<=(bZ b p).1/\(bZ b p).1 < 18446744073709551616)/\(bZ b p).2.length<=100000000:=by
 have q:=h.body;obtain ⟨w1,w2,w3⟩:=hw;cases p with
 | rem=>
   have hr:=q.remaining;exact ⟨by simp only [bZ];unfold zz;split<;>omega,by simp [bZ]⟩
 | allow=>refine ⟨?_,by simp [bZ]⟩;simp only [bZ];split<;>omega
 | name=>exact ⟨by simp [bZ],by simp only [bZ];omega⟩
 | region=>exact ⟨by simp [bZ],by simp only [bZ];omega⟩
 | note=>exact ⟨by simp [bZ],by simp only [bZ];omega⟩
 | d=>
   refine ⟨by simp [bZ], ?_⟩;simp only [bZ];have:=V9 h.d;split
   ·simp
   ·omega
 | t=>
   refine ⟨by simp [bZ], ?_⟩;simp only [bZ];have:=aov b.t h.t;split
   ·simp
   ·unfold MF
    split
    ·simp
    ·simp only;omega
 | num k=>
   refine ⟨?_,by simp [bZ]⟩;simp only [bZ];unfold DK;split<;>first | exact q.id | exact q.min | exact q.max | exact q.chosen | exact q.flags | exact q.cost | exact q.priority | exact q.deadline | exact q.retry | exact q.epoch | exact q.base | exact q.digest | exact q.lag | exact q.code | exact q.want
theorem acP {b:aS} {fl:List aH} (h:qB b fl) (hw:Short b) (k v:Int):dJ (oq b (bI k v)):=PK λf hf=>by
 obtain ⟨s,hs,p, -,rfl, -⟩:=Qx hf;have ht:=(Qv k v).2 s hs;have hv:=af4 h hw p;have hy:0<=eF p/\eF p<=1:=by cases p<;>simp [eF]
 simp only [rJ,dJ];refine ⟨⟨?_, ?_, ?_, ?_,hv.1.1,hv.1.2,hv.2, ?_⟩,trivial⟩;all_goals first | omega | simp
theorem acO (b:aS) (k v:Int):(oq b (bI k v)).length<=8:=jw (List.length_filterMap_le _ _) (Dx k v)
theorem acQ (b:aS):∀l:List eG,bU (oq b l)<=2 * l.length
 | []=>by simp [oq,bU]
 | s::l=>by
   rw [Qw];have ih:=acQ b l;cases hk:zk b s with
   | none=>simp only [bn,jK];omega
   | some f=>
     obtain ⟨p, -,rfl, -⟩:=Qq hk;simp only [bJ,bn,bU,su,jK];omega
theorem acR {b:aS} {fl:List aH} (h:qB b fl) (hw:Short b):∀l:List eG,wL (oq b l)<=100000040 * l.length
 | []=>by simp [oq,wL]
 | s::l=>by
   rw [Qw];have ih:=acR h hw l;cases hk:zk b s with
   | none=>simp only [bn,jK];omega
   | some f=>
     obtain ⟨p, -,rfl, -⟩:=Qq hk;have hv:=(af4 h hw p).2;simp only [bJ,bn,wL,wF,jK];omega
/-- What is needed for a message that is written. -/
structure yL (b:aS) (fl:List aH):Prop where
 msg:qB b fl
 short:Short b
 sz:bU fl<=900000
 w:wL fl<=2000000000
theorem OV {b:aS} {fl:List aH} {v:Int} (h:iM b fl v=0):1<=v/\v<=3/\bI b.kind v≠[]/\jm 0 0 fl=0/\∀f∈fl,hasTag (bI b.kind v) f.tag=false:=by
 unfold iM at h;by_cases h1:v < 1
 ·rw [aj h1] at h;exact absurd h (by decide)
 rw [ah h1] at h;by_cases h2:3 < v
 ·rw [aj h2] at h;exact absurd h (by decide)
 rw [ah h2] at h;by_cases h3:bI b.kind v=[]
 ·rw [aj h3] at h;exact absurd h (by decide)
 rw [ah h3] at h;by_cases h4:gQ.all (λn=>zh (bI b.kind v) n || rW b n)=false
 ·rw [aj h4] at h;exact absurd h (by decide)
 rw [ah h4] at h;by_cases h5:oz b (bI b.kind v)≠0
 ·rw [aj h5] at h;exact absurd h h5
 rw [ah h5] at h;by_cases h6:En b≠0
 ·rw [aj h6] at h;exact absurd h h6
 rw [ah h6] at h;unfold Jo at h;by_cases h7:jm 0 0 fl≠0
 ·rw [aj h7] at h;exact absurd h h7
 rw [ah h7] at h;by_cases h8:fl.any (λf=>hasTag (bI b.kind v) f.tag)=true
 ·rw [aj h8] at h;exact absurd h (by decide)
 refine ⟨by omega,by omega,h3,by simpa using h7,λf hf=>?_⟩;cases e:hasTag (bI b.kind v) f.tag with
 | false=>rfl
 | true=>exact absurd (List.any_eq_true.2 ⟨f,hf,e⟩) h8
theorem Z9 {b:aS} {fl:List aH} {v:Int} (h:iM b fl v=0):((oq b (bI b.kind v)++fl).map aH.tag).Nodup:=by
 obtain ⟨-, -, -,h1,h2⟩:=OV h;have p1:=Wl b _ (Qv b.kind v).1;have p2:=(OX fl 0 0 h1).2;rw [mQ,List.nodup_append];have nd:∀l:List aH,l.Pairwise (λx y=>x.tag < y.tag)->(l.map aH.tag).Nodup:=λl hl=>by
  unfold List.Nodup;rw [List.pairwise_map];exact hl.imp λh e=>by omega
 refine ⟨nd _ p1,nd _ p2,λx hx y hy e=>?_⟩;obtain ⟨f,hf,rfl⟩:=nO.1 hx;obtain ⟨g,hg,rfl⟩:=nO.1 hy;obtain ⟨s,hs,p, -,rfl, -⟩:=Qx hf;have:=h2 g hg;unfold hasTag at this;have h3:(bI b.kind v).any (λs=>decide (g.tag=s.tag))=true:=List.any_eq_true.2 ⟨s,hs,Ic (show g.tag=s.tag from e.symm)⟩;rw [h3] at this;cases this
def CS (b:aS) (fl:List aH) (v:Int):List aH:=tu (oq b (bI b.kind v)) fl
def Pz (b:aS) (fl:List aH) (v:Int):List aH×Int:=if iM b fl v=0 then (CS b fl v,0) else ([],iM b fl v)
structure agm (l:List aH):Prop where
 ok:dJ l
 len:l.length<=1000000
 w:wL l<=1000000000000
 chk:jm 0 0 l=0
theorem agW {b:aS} {fl:List aH} {v:Int} (hm:yL b fl) (h:iM b fl v=0):agm (CS b fl v):=by
 obtain ⟨-, -, -,h1,h2⟩:=OV h;obtain ⟨mp,ms⟩:=adJ (Z9 h);have hl:fl.length<=900000:=by
  have:∀l:List aH,l.length<=bU l:=λl=>by
   induction l with
   | nil=>simp [bU]
   | cons f l ih=>simp only [jK,bU];omega
  have:=this fl;have:=hm.sz;omega
 have kl:=acO b b.kind v;have kw:=acR hm.msg hm.short (bI b.kind v);have k8:=Dx b.kind v;have mw:=hm.w;refine ⟨akK mp (akJ (acP hm.msg hm.short _ _) hm.msg.f8), ?_, ?_, ?_⟩
 ·unfold CS;rw [mp.length_eq,fG];omega
 ·unfold CS;rw [atd mp,agd]
  have:100000040 * (bI b.kind v).length<=100000040 * 8:=TP _ k8;omega
 ·refine UC _ 0 0 (λf hf=>?_) ms
  rcases jO.1 (mp.mem_iff.1 hf) with hf | hf
  ·exact (OX _ 0 0 (acS b b.kind v)).1 f hf
  ·exact (OX _ 0 0 h1).1 f hf
theorem amr {k v:Int} (h:bI k v≠[]):1<=k/\k<=8:=by
 by_cases c:1<=k/\k<=8
 ·exact c
 ·exfalso
  apply h;unfold bI wC;rw [ah (by omega),ah (by omega),ah (by omega),ah (by omega),ah (by omega),ah (by omega),ah (by omega),ah (by omega)];rfl
theorem aoz {b:aS} {fl:List aH} (hm:yL b fl) (v:Int):TT.lim 51 [gI b (aC fl),.i .i64 v]=some [.l (aC (Pz b fl v).1),.i .i64 (Pz b fl v).2]:=by
 have hc:=WO b fl v hm.msg.body hm.msg.t.few hm.msg.f8 hm.msg.len;unfold Pz;by_cases c:iM b fl v=0;rotate_left
 ·rw [ah c]
  have fn:aC []=[]:=by simp only [aC]
  rw [fn];generalize aC fl=r at *;generalize iM b fl v=ck at *;refine aQ rfl rfl ?_ rfl;simp -implicitDefEqProofs [jI,hc,c]
 rw [aj c];rw [c] at hc;obtain ⟨v1,v3,hne,h8, -⟩:=OV c;have hk:=Qu b.kind v v1 v3 (by
  have:=mt (acT b.kind v v1 v3).2 hne;omega)
 have h0:=aec hm.msg (bI b.kind v) (by have:=Dx b.kind v;omega) (amv b.kind v) (bI b.kind v).length 0 [] (by omega) (by have:=Dx b.kind v;simp;omega);have fn:aC []=[]:=by simp only [aC]
 rw [dO,bn,dG,fn] at h0;simp only [bJ,bn,wM] at h0;have hsz:=acQ b (bI b.kind v);have k8:=Dx b.kind v;have mo:=ao2 _ fl (acP hm.msg hm.short b.kind v) hm.msg.f8 (by have:=acO b b.kind v;omega) hm.msg.len (by have:=hm.sz;omega) (acS b b.kind v) h8 (Z9 c);have hal:(((bI b.kind v).map dZ).length:Int)=((bI b.kind v).length:Int):=by rw [kR]
 unfold CS;generalize aC (tu (oq b (bI b.kind v)) fl)=M at *;generalize aC (oq b (bI b.kind v))=KV at *;generalize (bI b.kind v).map dZ=SP at *;generalize ((bI b.kind v).length:Int)=L at *;generalize aC fl=r at *;clear hsz k8 hne h8 c hm v1 v3;refine aQ rfl rfl ?_ rfl;simp -implicitDefEqProofs [jI,hc,hk,hal,h0,mo]
/-- What is written, or why not. -/
def bytesV (b:aS) (fl:List aH) (v:Int):List UInt8:=bG b.kind.toNat++dK (CS b fl v)
def uH (b:aS) (fl:List aH) (v:Int):List UInt8×Int:=if iM b fl v=0 then (if 65536 < (bytesV b fl v).length then ([],4) else (bytesV b fl v,0)) else ([],iM b fl v)
theorem aox {b:aS} {fl:List aH} (hm:yL b fl) (v:Int):TT.lim 50 [gI b (aC fl),.i .i64 v]=some [.s (uH b fl v).1,.i .i64 (uH b fl v).2]:=by
 have hf:=aoz hm v;unfold Pz at hf;unfold uH;by_cases c:iM b fl v=0;rotate_left
 ·rw [ah c] at hf ⊢
  generalize aC fl=r at *;generalize iM b fl v=ck at *;refine aQ rfl rfl ?_ rfl;simp -implicitDefEqProofs [jI,hf,c]
 rw [aj c] at hf ⊢;have ao:=agW hm c;have hw:=atf (CS b fl v) ao.ok ao.len ao.w ao.chk;obtain ⟨-, -,hne, -, -⟩:=OV c;obtain ⟨k1,k8⟩:=amr hne;have hp:=xk b.kind.toNat (by omega);have hpl:=lS (n:=b.kind.toNat) (by omega);rw [show ((b.kind.toNat:Nat):Int)=b.kind by omega] at hp;have wk:=jJ (n:=b.kind) (by omega) (by omega);unfold bytesV;rw [fG];clear ao c hm hne;generalize CS b fl v=AF at *;generalize bG b.kind.toNat=V at *;generalize aC fl=r at *;generalize aC AF=G at *;generalize dK AF=F at *;by_cases c1:65536 < F.length
 ·rw [aj c1] at hw
  rw [aj (by omega)];refine aQ rfl rfl ?_ rfl;simp -implicitDefEqProofs [jI,hf,hw]
 ·rw [ah c1] at hw
  have c3:(V.length:Int)+F.length<=9223372036854775807:=by omega
  by_cases c2:65536 < V.length+F.length
  ·have c2':(65536:Int) < V.length+F.length:=by omega
   rw [aj c2];refine aQ rfl rfl ?_ rfl;simp -implicitDefEqProofs [jI,hf,hw,wk,hp,c2',c3]
  ·have c2':¬ (65536:Int) < V.length+F.length:=by omega
   rw [ah c2];refine aQ rfl rfl ?_ rfl;simp -implicitDefEqProofs [jI,hf,hw,wk,hp,c2',c3]
theorem O8 (b:aS) (fl:List aH) (v:Int):(uH b fl v).1.length<=65536:=by
 unfold uH;split
 ·split
  ·simp
  ·simp only;omega
 ·simp
end M
end Go.Proofs.YtilkjidelblkfaaGreatDoor
