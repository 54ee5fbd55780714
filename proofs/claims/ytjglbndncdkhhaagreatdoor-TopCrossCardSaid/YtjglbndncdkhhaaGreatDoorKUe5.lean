/- What the trees compute: plain laws. -/
import Derived.Test.YtjglbndncdkhhaaGreatDoorKUe4
namespace Go.Proofs.YtjglbndncdkhhaaGreatDoor
open Go Go.aN
set_option linter.unusedSimpArgs false
set_option linter.unusedVariables false
set_option maxRecDepth 100000
namespace U
mutual
def Jy:aC->List UInt8
 | .mk t y n s k=>aS (4 * t+y).toNat++(if y=0 then aS n.toNat else if y=1 then aS s.length++s else aS (bK k).length++bK k)
def bK:List aC->List UInt8
 | []=>[]
 | f::l=>Jy f++bK l
end
mutual
def wF:aC->Nat
 | .mk _ _ _ s k=>s.length+40+wL k
def wL:List aC->Nat
 | []=>0
 | f::l=>wF f+wL l
end
mutual
/-- Tags and types that may be. -/
def Cm:aC->Prop
 | .mk t y n s k=>(1<=t/\t<=4294967296)/\((y=0/\s=[]/\k=[])\/(y=1/\n=0/\k=[])\/(y=2/\n=0/\s=[]))/\oP k
def oP:List aC->Prop
 | []=>True
 | f::l=>Cm f/\oP l
end
theorem Lu:∀ {l:List aC},oP l->∀f∈l,Cm f
 | f::l,h,g,hg=>by
   simp only [oP] at h;rcases bU.1 hg with rfl | hg
   ·exact h.1
   ·exact Lu h.2 g hg
theorem NQ:∀ (N:Nat) (l:List aC),bH l < N->bY l->∀w a,iM w a l=0->0<=a->oP l
 | 0,l,h,_,_,_,_,_=>by omega
 | N+1,[],_,_,_,_,_,_=>by simp only [oP]
 | N+1,.mk t y n s k::l,hN,hok,w,a,h,ha=>by
   simp only [bH,oN] at hN;simp only [bY,nX] at hok;unfold iM at h;by_cases h1:(aC.mk t y n s k).tag=0
   ·rw [aj h1] at h;exact absurd h (by decide)
   rw [ah h1] at h;by_cases h2:4294967296 < (aC.mk t y n s k).tag
   ·rw [aj h2] at h;exact absurd h (by decide)
   rw [ah h2] at h;by_cases h3:(aC.mk t y n s k).tag<=a
   ·rw [aj h3] at h;exact absurd h (by decide)
   rw [ah h3] at h;by_cases h4:vP w (.mk t y n s k)=0;rotate_left
   ·rw [aj h4] at h;exact absurd h h4
   rw [ah (λe=>e h4)] at h;have h1:¬ t=0:=h1;have h2:¬ 4294967296 < t:=h2;have h3:¬ t<=a:=h3;simp only [oP,Cm];refine ⟨⟨by omega, ?_, ?_⟩,NQ N l (by omega) hok.2 w t h (by omega)⟩
   ·simp only [vP] at h4
    split at h4
    ·rename_i hy
     split at h4
     ·rename_i hc;exact .inl ⟨hy,hc⟩
     ·cases h4
    ·split at h4
     ·rename_i hy
      split at h4
      ·rename_i hc;exact .inr (.inl ⟨hy,hc⟩)
      ·cases h4
     ·split at h4
      ·rename_i hy
       split at h4
       ·rename_i hc;exact .inr (.inr ⟨hy,hc⟩)
       ·cases h4
      ·cases h4
   ·simp only [vP] at h4
    split at h4
    ·split at h4
     ·rename_i hc;rw [hc.2];simp only [oP]
     ·cases h4
    ·split at h4
     ·split at h4
      ·rename_i hc;rw [hc.2];simp only [oP]
      ·cases h4
     ·split at h4
      ·split at h4
       ·split at h4
        ·cases h4
        ·exact NQ N k (by omega) hok.1.2 _ _ h4 (by omega)
       ·cases h4
      ·cases h4
theorem Gn:∀ (N:Nat) (l:List aC),bH l < N->bY l->oP l->wL l<=1000000000000->(bK l).length<=wL l
 | 0,l,h,_,_,_=>by omega
 | N+1,[],_,_,_,_=>by simp [bK]
 | N+1,.mk t y n s k::l,hN,hok,hty,hw=>by
   simp only [bH,oN] at hN;simp only [bY,nX] at hok;simp only [oP,Cm] at hty;simp only [wL,wF] at hw ⊢;have h1:=Gn N l (by omega) hok.2 hty.2 (by omega);have h2:=Gn N k (by omega) hok.1.2 hty.1.2.2 (by omega);simp only [bK,Jy,dH];have v1:=lI (n:=(4 * t+y).toNat) (by rcases hty.1.2.1 with h | h | h<;>omega);have v2:=lI (n:=n.toNat) (by omega);have v3:=lI (n:=s.length) (by omega);have v4:=lI (n:=(bK k).length) (by omega);split
   ·omega
   ·split
    ·rw [dH];omega
    ·rw [dH];omega
theorem abl (t y:Int) (ht:1<=t/\t<=4294967296) (hy:0<=y/\y < 4):mM .shl .u64 t 2=some (.i .u64 (4 * t))/\IntKind.u64.wrap y=y/\fG .or .u64 (4 * t) y=some (.i .u64 (4 * t+y)):=by
 have wu:∀y:Int,IntKind.u64.wrap y=y % 18446744073709551616:=λy=>by simp [IntKind.wrap,IntKind.signed,IntKind.bits]
 have hu:IntKind.u64.bits=64:=rfl;refine ⟨?_,by rw [wu];omega, ?_⟩
 ·have h2:mM .shl .u64 t 2=some (.i .u64 (IntKind.u64.wrap (t * 2 ^ 2))):=rfl
  rw [h2,wu];congr 2;omega
 ·simp only [fG,wu,hu]
  obtain ⟨T,rfl⟩:∃T:Nat,t=(T:Int):=⟨t.toNat,by omega⟩
  obtain ⟨Y,rfl⟩:∃Y:Nat,y=(Y:Int):=⟨y.toNat,by omega⟩
  have e1:(BitVec.ofInt 64 (4 * (T:Int))).toNat=4 * T:=by rw [wG];omega
  have e2:(BitVec.ofInt 64 (Y:Int)).toNat=Y:=by rw [wG];omega
  have e3:4 * T ||| Y=4 * T+Y:=(afg (i:=2) (b:=Y) (by omega) T).symm;show some (GV.i IntKind.u64 (((BitVec.ofInt 64 (4 * (T:Int)) ||| BitVec.ofInt 64 (Y:Int)).toNat:Int) % 18446744073709551616))=_
  rw [BitVec.toNat_or,e1,e2,e3];congr 2;omega
theorem Uf {t y n:Int} {s:List UInt8} {k:List aC} (h:Cm (.mk t y n s k)):1<=t/\t<=4294967296/\0<=y/\y < 3/\(y=0\/y=1\/y=2)/\oP k:=by
 simp only [Cm] at h;rcases h.2.1 with h1 | h1 | h1<;>exact ⟨h.1.1,h.1.2,by omega,by omega,by omega,h.2.2⟩
theorem XD:∀ (N:Nat) (l:List aC),bH l < N->bY l->oP l->l.length<=1000000->wL l<=1000000000000->TT.lim 88 [.l (aA l)]=some [.i .i64 (bK l).length]
 | 0,l,h,_,_,_,_=>by omega
 | N+1,l,hN,hok,hty,hlen,hw=>by
   have hl1:=kQ l;have loop:∀m i,i+m=l.length->∀acc:Nat,acc+wL (l.drop i)<=1000000000000->TT.lim 89 [.l (aA l),.i .i64 acc,.i .i64 l.length,.i .i64 i]=some [.i .i64 0,.i .i64 ((acc+(bK (l.drop i)).length:Nat):Int)]:=by
    intro m;induction m with
    | zero=>
      intro i hi acc hacc;have e1:l.drop i=[]:=gY (by omega);have h:¬ ((i:Int) < l.length):=by omega
      rw [e1];simp only [bK,qQ,kY];refine aG rfl rfl ?_;simp [h]
    | succ m ih=>
      intro i hi acc hacc;obtain ⟨t,y,n,s,k,g1,g2,g3,g4⟩:=BH (l:=l) (i:=i) (by omega);have hf:=BI hok _ g4;have ht:=Lu hty _ g4;simp only [nX] at hf;obtain ⟨t1,t2,y1,y2,y3,tk⟩:=Uf ht;have hs:=QU g4;simp only [oN] at hs;rw [g3] at hacc ⊢;simp only [wL,wF] at hacc;have hk:=XD N k (by omega) hf.2 tk hf.1.2.2.2.2.2.2.2 (by omega);have hkl:=Gn (bH k+1) k (by omega) hf.2 tk (by omega);obtain ⟨b1,b2,b3⟩:=abl t y ⟨t1,t2⟩ ⟨y1,by omega⟩;have v1:=Ld (4 * t+y).toNat (by omega);have v2:=Ld n.toNat (by omega);have v3:=Ld s.length (by omega);have v4:=Ld (bK k).length (by omega);have z1:=CP (n:=(4 * t+y).toNat) (by omega);have z2:=CP (n:=n.toNat) (by omega);have z3:=CP (n:=s.length) (by omega);have z4:=CP (n:=(bK k).length) (by omega);rw [show (((4 * t+y).toNat:Nat):Int)=4 * t+y by omega] at v1;rw [show ((n.toNat:Nat):Int)=n by omega] at v2;have hcast:((i+1:Nat):Int)=(i:Int)+1:=by omega
      have hwr:=wrap64 (n:=(i:Int)+1) (by omega) (by omega);have h:((i:Int) < l.length):=by omega
      have ih':=λa ha=>ih (i+1) (by omega) a ha;simp only [hcast] at ih';have e1:(aS (4 * t+y).toNat).length=gy (4 * t+y).toNat:=rfl;have e2:(aS n.toNat).length=gy n.toNat:=rfl;have e3:(aS s.length).length=gy s.length:=rfl;have e4:(aS (bK k).length).length=gy (bK k).length:=rfl;have u3:=kE (n:=(s.length:Int)) (by omega) (by omega);have u4:=kE (n:=((bK k).length:Int)) (by omega) (by omega);simp only [bK,Jy,dH];rw [e1];generalize gy (4 * t+y).toNat=A at *;have w1:=wrap64 (n:=(acc:Int)+A) (by omega) (by omega);rcases y3 with hy | hy | hy
      ·rw [aj hy,e2]
       generalize gy n.toNat=B at *;have w2:=wrap64 (n:=(acc:Int)+A+B) (by omega) (by omega);have pK:=ih' (acc+A+B) (by omega);rw [show ((acc+A+B:Nat):Int)=(acc:Int)+A+B by omega,show acc+A+B+(bK (l.drop (i+1))).length=acc+(A+B+(bK (l.drop (i+1))).length) by omega] at pK;have q0:(y=0)=True:=eq_true hy;clear hy;refine aG rfl rfl ?_;simp [h,g2,q0,b1,b2,b3,v1,v2,w1,w2,hwr,pK]
      ·rw [ah (by omega),aj hy,dH,e3]
       generalize gy s.length=B at *;have w2:=wrap64 (n:=(B:Int)+s.length) (by omega) (by omega);have w3:=wrap64 (n:=(acc:Int)+A+(B+s.length)) (by omega) (by omega);have pK:=ih' (acc+A+(B+s.length)) (by omega);rw [show ((acc+A+(B+s.length):Nat):Int)=(acc:Int)+A+(B+s.length) by omega,show acc+A+(B+s.length)+(bK (l.drop (i+1))).length=acc+(A+(B+s.length)+(bK (l.drop (i+1))).length) by omega] at pK;have q0:(y=0)=False:=eq_false (by omega);have q1:(y=1)=True:=eq_true hy;clear hy;refine aG rfl rfl ?_;simp [h,g2,q0,q1,b1,b2,b3,v1,v3,u3,w1,w2,w3,hwr,pK]
      ·rw [ah (by omega),ah (by omega),dH,e4]
       generalize gy (bK k).length=B at *;generalize (bK k).length=C at *;have w2:=wrap64 (n:=(B:Int)+C) (by omega) (by omega);have w3:=wrap64 (n:=(acc:Int)+A+(B+C)) (by omega) (by omega);have pK:=ih' (acc+A+(B+C)) (by omega);rw [show ((acc+A+(B+C):Nat):Int)=(acc:Int)+A+(B+C) by omega,show acc+A+(B+C)+(bK (l.drop (i+1))).length=acc+(A+(B+C)+(bK (l.drop (i+1))).length) by omega] at pK;have q0:(y=0)=False:=eq_false (by omega);have q1:(y=1)=False:=eq_false (by omega);have q2:(y=2)=True:=eq_true hy;clear hy;refine aG rfl rfl ?_;simp [h,g2,q0,q1,q2,b1,b2,b3,v1,hk,v4,u4,w1,w2,w3,hwr,pK]
   have h0:=loop l.length 0 (by omega) 0 (by rw [eH];omega);rw [eH,jk] at h0;have h0':TT.lim 89 [.l (aA l),.i .i64 0,.i .i64 (aA l).length,.i .i64 0]=some [.i .i64 0,.i .i64 ((bK l).length:Int)]:=by rw [hl1];exact h0
   rw [hl1] at h0';clear loop h0;refine bD rfl rfl ?_ rfl;simp [hl1,h0']
/-- The bytes for fields, put behind others. -/
theorem Dt (a b:List UInt8):dZ (a++b)=dZ a++dZ b:=by simp [dZ]
theorem aeZ:∀ (N:Nat) (l:List aC),bH l < N->bY l->oP l->l.length<=1000000->∀B:List UInt8,B.length+wL l<=1000000000000->TT.lim 90 [.l (dZ B),.l (aA l)]=some [.i .i64 0,.l (dZ (B++bK l))]
 | 0,l,h,_,_,_,_,_=>by omega
 | N+1,l,hN,hok,hty,hlen,B,hB=>by
   have hl1:=kQ l;have loop:∀m i,i+m=l.length->∀acc:List UInt8,acc.length+wL (l.drop i)<=1000000000000->TT.lim 91 [.l (dZ acc),.l (aA l),.i .i64 l.length,.i .i64 i]=some [.i .i64 0,.l (dZ (acc++bK (l.drop i)))]:=by
    intro m;induction m with
    | zero=>
      intro i hi acc hacc;have e1:l.drop i=[]:=gY (by omega);have h:¬ ((i:Int) < l.length):=by omega
      rw [e1];simp only [bK,kK];refine aG rfl rfl ?_;simp [h]
    | succ m ih=>
      intro i hi acc hacc;obtain ⟨t,y,n,s,k,g1,g2,g3,g4⟩:=BH (l:=l) (i:=i) (by omega);have hf:=BI hok _ g4;have ht:=Lu hty _ g4;simp only [nX] at hf;obtain ⟨t1,t2,y1,y2,y3,tk⟩:=Uf ht;have hs:=QU g4;simp only [oN] at hs;rw [g3] at hacc ⊢;simp only [wL,wF] at hacc;have hk:=XD N k (by omega) hf.2 tk hf.1.2.2.2.2.2.2.2 (by omega);have hkl:=Gn (bH k+1) k (by omega) hf.2 tk (by omega);obtain ⟨b1,b2,b3⟩:=abl t y ⟨t1,t2⟩ ⟨y1,by omega⟩;have v1:=vW (4 * t+y).toNat (by omega);have v2:=vW n.toNat (by omega);have v3:=vW s.length (by omega);have v4:=vW (bK k).length (by omega);have z1:=lI (n:=(4 * t+y).toNat) (by omega);have z2:=lI (n:=n.toNat) (by omega);have z3:=lI (n:=s.length) (by omega);have z4:=lI (n:=(bK k).length) (by omega);rw [show (((4 * t+y).toNat:Nat):Int)=4 * t+y by omega] at v1;rw [show ((n.toNat:Nat):Int)=n by omega] at v2;have hcast:((i+1:Nat):Int)=(i:Int)+1:=by omega
      have hwr:=wrap64 (n:=(i:Int)+1) (by omega) (by omega);have h:((i:Int) < l.length):=by omega
      have ih':=λa ha=>ih (i+1) (by omega) a ha;simp only [hcast] at ih';have u3:=kE (n:=(s.length:Int)) (by omega) (by omega);have u4:=kE (n:=((bK k).length:Int)) (by omega) (by omega);have o8:∀z:List UInt8,(dZ z).all (λg=>g.fO 1)=true:=λz=>by simp [dZ,GV.fO]
      have l8:∀z:List UInt8,(dZ z).length=z.length:=λz=>by simp [dZ]
      simp only [bK,Jy];rcases y3 with hy | hy | hy
      ·rw [aj hy]
       have pK:=ih' (acc++aS (4 * t+y).toNat++aS n.toNat) (by simp only [dH];omega);rw [show acc++aS (4 * t+y).toNat++aS n.toNat++bK (l.drop (i+1))=acc++(aS (4 * t+y).toNat++aS n.toNat++bK (l.drop (i+1))) by simp,Dt,Dt] at pK;generalize aS (4 * t+y).toNat=A at *;generalize aS n.toNat=C at *;have c1:2 * (acc.length+A.length)<=281474976710656/\acc.length+A.length<=281474976710656:=by omega
       have c2:2 * (acc.length+A.length+C.length)<=281474976710656/\acc.length+A.length+C.length<=281474976710656:=by omega
       have q0:(y=0)=True:=eq_true hy;clear hy;refine aG rfl rfl ?_;simp [-List.append_assoc,h,g2,q0,b1,b2,b3,v1,v2,hwr,pK,o8,l8,c1,c2]
      ·rw [ah (by omega),aj hy]
       have pK:=ih' (acc++aS (4 * t+y).toNat++aS s.length++s) (by simp only [dH];omega);rw [show acc++aS (4 * t+y).toNat++aS s.length++s++bK (l.drop (i+1))=acc++(aS (4 * t+y).toNat++(aS s.length++s)++bK (l.drop (i+1))) by simp,Dt,Dt,Dt] at pK;generalize aS (4 * t+y).toNat=A at *;generalize aS s.length=C at *;have c1:2 * (acc.length+A.length)<=281474976710656/\acc.length+A.length<=281474976710656:=by omega
       have c2:2 * (acc.length+A.length+C.length)<=281474976710656/\acc.length+A.length+C.length<=281474976710656:=by omega
       have c3:2 * (acc.length+A.length+C.length+s.length)<=281474976710656/\acc.length+A.length+C.length+s.length<=281474976710656:=by omega
       have q0:(y=0)=False:=eq_false (by omega);have q1:(y=1)=True:=eq_true hy;clear hy;refine aG rfl rfl ?_;simp [-List.append_assoc,h,g2,q0,q1,b1,b2,b3,v1,v3,u3,hwr,pK,o8,l8,c1,c2,c3]
      ·rw [ah (by omega),ah (by omega)]
       have hwk:=aeZ N k (by omega) hf.2 tk hf.1.2.2.2.2.2.2.2 (acc++aS (4 * t+y).toNat++aS (bK k).length) (by simp only [dH];omega);have pK:=ih' (acc++aS (4 * t+y).toNat++aS (bK k).length++bK k) (by simp only [dH];omega);rw [show acc++aS (4 * t+y).toNat++aS (bK k).length++bK k++bK (l.drop (i+1))=acc++(aS (4 * t+y).toNat++(aS (bK k).length++bK k)++bK (l.drop (i+1))) by simp] at pK;rw [Dt (acc++_),Dt acc] at hwk;generalize aS (4 * t+y).toNat=A at *;generalize aS (bK k).length=C at *;have c1:2 * (acc.length+A.length)<=281474976710656/\acc.length+A.length<=281474976710656:=by omega
       have c2:2 * (acc.length+A.length+C.length)<=281474976710656/\acc.length+A.length+C.length<=281474976710656:=by omega
       generalize bK k=K at *;have q0:(y=0)=False:=eq_false (by omega);have q1:(y=1)=False:=eq_false (by omega);have q2:(y=2)=True:=eq_true hy;clear hy;refine aG rfl rfl ?_;simp [-List.append_assoc,h,g2,q0,q1,q2,b1,b2,b3,v1,hk,v4,u4,hwk,hwr,pK,o8,l8,c1,c2]
   have h0:=loop l.length 0 (by omega) B (by rw [eH];omega);rw [eH] at h0;have h0':TT.lim 91 [.l (dZ B),.l (aA l),.i .i64 l.length,.i .i64 0]=some [.i .i64 0,.l (dZ (B++bK l))]:=h0;clear loop h0;generalize dZ B=B' at *;refine aG rfl rfl ?_;simp [hl1,h0']
theorem aly {α β:Type} {f:α->β} {ys zs:List β} (h:ys.Perm zs):∀l:List α,zs=l.map f->∃p:List α,p.Perm l/\ys=p.map f:=by
 induction h with
 | nil=>intro l e;exact ⟨l,.refl _,e⟩
 | cons x _ ih=>
   intro l e;cases l with
   | nil=>cases e
   | cons a l=>
     injection e with e1 e2
     obtain ⟨p,h1,h2⟩:=ih l e2;exact ⟨a::p,h1.cons a,by rw [iQ,<- h2,<- e1]⟩
 | swap x y l=>
   intro m e;rcases m with _ | ⟨a,_ | ⟨b,m⟩⟩
   ·cases e
   ·cases e
   ·simp only [iQ,Md] at e
    obtain ⟨e1,e2,e3⟩:=e;exact ⟨b::a::m,List.Perm.swap a b m,by rw [iQ,iQ,<- e1,<- e2,<- e3]⟩
 | trans _ _ ih1 ih2=>
   intro l e;obtain ⟨p,h1,h2⟩:=ih2 l e;obtain ⟨q,h3,h4⟩:=ih1 p h2;exact ⟨q,h3.trans h1,h4⟩
theorem H9:∀ (p q:List aC),p.Perm q->p.Pairwise (λa b=>a.tag<=b.tag)->q.Pairwise (λa b=>a.tag < b.tag)->p=q
 | [],q,h,_,_=>(List.nil_perm.1 h).symm
 | a::p,[],h,_,_=>by have:=h.length_eq;simp at this
 | a::p,b::q,h,hp,hq=>by
   have hb:b∈a::p:=h.mem_iff.2 (by simp);have ha:a∈b::q:=h.mem_iff.1 (by simp);rw [qR] at hp hq;have h1:a.tag<=b.tag:=by
    rcases bU.1 hb with e | hb
    ·rw [e];exact E9 _
    ·exact hp.1 b hb
   have e:a=b:=by
    rcases bU.1 ha with e | ha
    ·exact e
    ·have:=hq.1 a ha;omega
   subst e;rw [H9 p q (List.Perm.cons_inv h) hp.2 hq.2]
def Hu (f:aC):List aC->Nat
 | []=>0
 | g::l=>if g.tag < f.tag then Hu f l+1 else 0
def BK (f:aC) (out:List aC):List aC:=out.take (Hu f out)++f::out.drop (Hu f out)
def GH (out l:List aC):List aC:=l.foldl (λo f=>BK f o) out
theorem abC (f:aC) (out:List aC):(BK f out).Perm (f::out):=by
 unfold BK;refine List.perm_middle.trans ?_;rw [CV]
theorem abD (f:aC):∀out:List aC,out.Pairwise (λa b=>a.tag < b.tag)->(∀g∈out,g.tag≠f.tag)->(BK f out).Pairwise (λa b=>a.tag < b.tag)/\(∀g,out[Hu f out]? = some g->g.tag≠f.tag)
 | [],_,_=>by simp [BK,Hu]
 | g::l,hp,hn=>by
   rw [qR] at hp;unfold BK Hu;by_cases h:g.tag < f.tag
   ·obtain ⟨i1,i2⟩:=abD f l hp.2 λx hx=>hn x (by simp [hx])
    rw [aj h];simp only [wK,Iw,dV,pq];refine ⟨List.pairwise_cons.2 ⟨λx hx=>?_,i1⟩,i2⟩;have:=(abC f l).mem_iff.1 hx;rcases bU.1 this with rfl | hx
    ·exact h
    ·exact hp.1 x hx
   ·rw [ah h]
    have hg:=hn g (by simp);simp only [RN,eH,bV,iL];refine ⟨List.pairwise_cons.2 ⟨λx hx=>?_,qR.2 hp⟩,λx hx=>?_⟩
    ·rcases bU.1 hx with rfl | hx
     ·omega
     ·have:=hp.1 x hx;omega
    ·injection hx with hx
     rw [<- hx];exact hg
theorem U1:∀ (l out:List aC),out.Pairwise (λa b=>a.tag < b.tag)->((out++l).map aC.tag).Nodup->(GH out l).Perm (out++l)/\(GH out l).Pairwise (λa b=>a.tag < b.tag)
 | [],out,hp,_=>by simp only [GH,List.foldl_nil,kK];exact ⟨.refl _,hp⟩
 | f::l,out,hp,hn=>by
   have hf:∀g∈out,g.tag≠f.tag:=λg hg e=>by
    rw [sD,List.nodup_append] at hn;exact hn.2.2 g.tag (List.mem_map_of_mem hg) f.tag (by simp) e
   have hs:=(abD f out hp hf).1;have hq:(BK f out++l).Perm (out++f::l):=((abC f out).append_right l).trans (List.perm_middle.symm);have ih:=U1 l (BK f out) hs ((hq.map aC.tag).nodup_iff.2 hn);exact ⟨ih.1.trans hq,ih.2⟩
theorem aaU (l:List aC):(aA l).all (λg=>g.fO 5)=true:=by
 rw [yB,List.all_eq_true];intro g hg;obtain ⟨f,_,rfl⟩:=kX.1 hg;cases f;simp only [l7];rfl
theorem Oz (a b:List aC):aA (a++b)=aA a++aA b:=by simp only [yB,sD]
/-- Both lists brought together, where all tags differ. -/
def oL (a b:List aC):List aC:=GH [] (a++b)
theorem zY {a b:List aC} (hn:((a++b).map aC.tag).Nodup):(oL a b).Perm (a++b)/\(oL a b).Pairwise (λx y=>x.tag < y.tag):=U1 (a++b) [] List.Pairwise.nil hn
theorem afL (s:List UInt8):mY (dZ s)=some s:=by
 induction s with
 | nil=>rfl
 | cons a s ih=>
   have h1:(0:Int)<=a.toNat/\((a.toNat:Nat):Int) < 256:=by have:=a.toNat_lt;omega
   show (if _ then _ else _)=_
   rw [aj h1];have e:(s.map λb=>GV.i .u8 b.toNat)=dZ s:=rfl;rw [e,ih];simp
theorem apS (l:List aC) (hok:bY l) (hlen:l.length<=1000000) (hw:wL l<=1000000000000) (hc:iM 0 0 l=0):TT.lim 87 [.l (aA l)]=some (if 65536 < (bK l).length then [.s [],.i .i64 4] else [.s (bK l),.i .i64 0]):=by
 have ty:=NQ (bH l+1) l (by omega) hok 0 0 hc (by omega);have k1:=Ot l hok hlen;rw [hc] at k1;have k2:=XD (bH l+1) l (by omega) hok ty hlen hw;have k3:=aeZ (bH l+1) l (by omega) hok ty hlen [] (by simpa using hw);have e0:dZ []=[]:=rfl;rw [e0,bV] at k3;have hfl:=Gn (bH l+1) l (by omega) hok ty hw;by_cases c:65536 < (bK l).length
 ·have c':(65536:Int) < (bK l).length:=by omega
  rw [aj c];refine bD rfl rfl ?_ rfl;simp [k1,k2,c,c']
 ·have c':¬ (65536:Int) < (bK l).length:=by omega
  have hb:=afL (bK l);have hl8:(dZ (bK l)).length=(bK l).length:=by simp [dZ]
  have c2:(dZ (bK l)).length<=281474976710656:=by omega
  have c3:(0:Int)<=(bK l).length/\((bK l).length:Int)<=281474976710656/\((bK l).length:Int)<=1152921504606846976:=by omega
  rw [ah c];clear hok hw hc ty hfl;generalize bK l=F at *;generalize aA l=G at *;generalize dZ F=BF at *;refine bD rfl rfl ?_ rfl;simp [k1,k2,k3,c,c',hb,c2,c3,GV.fO]
theorem aeh (f:aC):EL (l7 f)=f.tag:=by
 cases f;simp only [l7,aC.tag];rfl
theorem air (l:List aC):(aA l).all isTagged=true:=by
 rw [yB,List.all_eq_true];intro g hg;obtain ⟨f,_,rfl⟩:=kX.1 hg;cases f;simp only [l7];rfl
theorem aeg {a b:List aC} (h:a.Perm b):bH a=bH b:=by
 induction h with
 | nil=>rfl
 | cons x _ ih=>simp only [bH,ih]
 | swap x y l=>simp only [bH];omega
 | trans _ _ h1 h2=>rw [h1,h2]
theorem aeU {a b:List aC} (h:a.Perm b):wL a=wL b:=by
 induction h with
 | nil=>rfl
 | cons x _ ih=>simp only [wL,ih]
 | swap x y l=>simp only [wL];omega
 | trans _ _ h1 h2=>rw [h1,h2]
theorem XR:∀a b:List aC,bH (a++b)=bH a+bH b
 | [],b=>by simp [bH]
 | f::a,b=>by simp only [dV,bH,XR a b];omega
theorem Ye:∀a b:List aC,wL (a++b)=wL a+wL b
 | [],b=>by simp [wL]
 | f::a,b=>by simp only [dV,wL,Ye a b];omega
theorem OA:∀ {l:List aC},(∀f∈l,nX f)->bY l
 | [],_=>by simp only [bY]
 | f::l,h=>by
   simp only [bY];exact ⟨h f (by simp),OA λg hg=>h g (by simp [hg])⟩
theorem aiu {a b:List aC} (h:a.Perm b) (hb:bY b):bY a:=OA λf hf=>BI hb f (h.mem_iff.1 hf)
theorem ait {a b:List aC} (ha:bY a) (hb:bY b):bY (a++b):=OA λf hf=>(kV.1 hf).elim (BI ha f) (BI hb f)
/-- Slices.SortFunc puts them as the document does. -/
theorem aoF (l:List aC) (hn:(l.map aC.tag).Nodup):rV (aA l)=aA (GH [] l):=by
 have hp:=XE (aA l);have hs:=aoE (aA l);rw [yB] at hp;obtain ⟨p,hp1,hp2⟩:=aly hp l rfl;rw [<- yB] at hp2;have hq:=U1 l [] List.Pairwise.nil hn;rw [bV] at hq;have hsp:p.Pairwise (λa b=>a.tag<=b.tag):=by
  rw [afc];intro i j hi hj hij;have:=hs i j (l7 p[i]) (l7 p[j]) hij (by rw [hp2,iq,bP hi];rfl) (by rw [hp2,iq,bP hj];rfl);rwa [aeh,aeh] at this
 have e:=H9 p (GH [] l) (hp1.trans hq.1.symm) hsp hq.2;rw [hp2,e,yB]
theorem adi (l:List aC) (hl:l.length<=10000000) (hp:l.Pairwise (λa b=>a.tag < b.tag)):∀m i:Nat,i+1+m=l.length->TT.lim 85 [.l (aA l),.i .i64 ((i:Int)+1)]=some [.i .i64 1]
 | 0,i,hi=>by
   have h:¬ ((i:Int)+1 < l.length):=by omega
   have hg:=kQ l;refine aG rfl rfl ?_;simp [hg,h]
 | m+1,i,hi=>by
   have h:((i:Int)+1 < l.length):=by omega
   have hg:=kQ l;have ih:=adi l hl hp m (i+1) (by omega);obtain ⟨t,y,n,s,k,g1,g2,g3,g4⟩:=BH (l:=l) (i:=i) (by omega);obtain ⟨t',y',n',s',k',g1',g2',g3',g4'⟩:=BH (l:=l) (i:=i+1) (by omega);have hlt:t < t':=by
    have:=afc.1 hp i (i+1) (by omega) (by omega) (by omega);have e1:l[i]=.mk t y n s k:=by have:=bP (l:=l) (i:=i) (by omega);rw [g1] at this;injection this with this;exact this.symm
    have e2:l[i+1]=.mk t' y' n' s' k':=by have:=bP (l:=l) (i:=i+1) (by omega);rw [g1'] at this;injection this with this;exact this.symm
    rw [e1,e2] at this;exact this
   have hne:¬ t'=t:=by omega
   have hcast:((i+1:Nat):Int)=(i:Int)+1:=by omega
   rw [hcast] at ih;have hw:=wrap64 (n:=(i:Int)+1+1) (by omega) (by omega);have hw2:=wrap64 (n:=(i:Int)+1 - 1) (by omega) (by omega);have hw3:(i:Int)+1 - 1=i:=by omega
   rw [hw3] at hw2;have hn0:(0:Int)<=(i:Int)+1:=by omega
   have ht:((i:Int)+1).toNat=i+1:=by omega
   have hi0:i < l.length:=by omega
   have gi:∀h:i < (aA l).length,(aA l)[i]=nV t y n s k:=λh=>by have:=bP h;rw [g2] at this;injection this with this;exact this.symm
   have gi':∀h:i+1 < (aA l).length,(aA l)[i+1]=nV t' y' n' s' k':=λh=>by have:=bP h;rw [g2'] at this;injection this with this;exact this.symm
   refine aG rfl rfl ?_;simp [gi,gi',hg,h,g2,g2',hne,hw,hw2,hw3,hn0,ht,hi0,ih]
theorem amf (a b:List aC) (oa:bY a) (ob:bY b) (la:a.length<=1000000) (lb:b.length<=1000000) (sa:bH a+bH b<=1000000) (ha:iM 0 0 a=0) (hb:iM 0 0 b=0) (hn:((a++b).map aC.tag).Nodup):TT.lim 83 [.l [.l (aA a),.l (aA b)]]=some [.l (aA (oL a b)),.i .i64 0]:=by
 have k1:=Ot a oa la;have k2:=Ot b ob lb;rw [ha] at k1;rw [hb] at k2;have hab:=Oz a b;have l1:=kQ a;have l2:=kQ b;have o1:=aaU a;have o2:=aaU b;have hso:TT.lim 0 [.l (aA a++aA b)]=some [.l (aA (oL a b))]:=by
  refine KW (Ds:=Ds) (f:=Lh) rfl ?_;have h1:(aA a++aA b).length<=281474976710656/\(aA a++aA b).all isTagged=true:=by
   rw [<- hab];exact ⟨by rw [kQ,dH];omega,air _⟩
  show (if (aA a++aA b).length<=281474976710656/\(aA a++aA b).all isTagged=true then some [GV.l (rV (aA a++aA b))] else none)=_
  rw [aj h1,<- hab,aoF _ hn];rfl
 obtain ⟨mp,ms⟩:=zY hn;have hml:(oL a b).length=a.length+b.length:=by rw [mp.length_eq,dH]
 have hsl:(aA (oL a b)).length=(aA a++aA b).length:=by rw [kQ,hml,dH,l1,l2]
 have hcl:=Ou (oL a b) (by rw [aeg mp,XR];exact sa);have h1:TT.lim 85 [.l (aA (oL a b)),.i .i64 1]=some [.i .i64 1]:=by
  rcases RS (oL a b).length with h0 | h0
  ·have:oL a b=[]:=jh h0
   rw [this];have fn:aA []=[]:=by simp only [aA]
   rw [fn];refine aG rfl rfl ?_;simp
  ·have:=adi (oL a b) (by omega) ms ((oL a b).length - 1) 0 (by omega)
   simpa using this
 have w0:IntKind.i64.wrap 1=1:=by decide
 have w1:IntKind.i64.wrap 2=2:=by decide
 have c1:2 * (aA a).length * 64<=281474976710656/\(aA a).length<=281474976710656:=by omega
 have c2:2 * ((aA a).length+(aA b).length) * 64<=281474976710656/\(aA a).length+(aA b).length<=281474976710656:=by omega
 clear hn mp ms hml ha hb oa ob sa hab l1 l2;generalize aA (oL a b)=M at *;generalize aA a=A at *;generalize aA b=B at *;have a3:TT.lim 84 [.l (A++B),.l [.l A,.l B],.i .i64 2,.i .i64 2]=some [.i .i64 1,.l (A++B)]:=by
  refine aG rfl rfl ?_;simp
 have a2:TT.lim 84 [.l A,.l [.l A,.l B],.i .i64 2,.i .i64 1]=some [.i .i64 1,.l (A++B)]:=by
  refine aG rfl rfl ?_;simp [-List.all_eq_true,k2,w1,o2,c2,a3]
 have a1:TT.lim 84 [.l [],.l [.l A,.l B],.i .i64 2,.i .i64 0]=some [.i .i64 1,.l (A++B)]:=by
  refine aG rfl rfl ?_;simp [-List.all_eq_true,k1,w0,o1,c1,a2]
 rw [dH] at hsl;refine bD rfl rfl ?_ rfl;simp [a1,hso,hsl,h1,hcl]
def rH (b:aJ) (s:bJ):Option aC:=match placeOf s.name with
 | some p=>if (aK b p).1=0/\(aK b p).2=[] then none else some (.mk s.tag (bF p) (aK b p).1 (aK b p).2 [])
 | none=>none
def gu (b:aJ) (l:List bJ):List aC:=l.filterMap (rH b)
theorem yD (b:aJ) (s:bJ) (l:List bJ):gu b (s::l)=(match rH b s with | some f=>[f] | none=>[])++gu b l:=by
 unfold gu;rw [List.filterMap_cons];cases rH b s<;>rfl
theorem ac7 {b:aJ} {fl:List aC} (hM:jE b fl) (ls:List bJ) (hl:ls.length<=1000) (hls:∀s∈ls,placeOf s.name≠none/\s.use=X6 s.name):∀ (m i:Nat) (acc:List aC),i+m=ls.length->acc.length+m<=2000->
 TT.lim 76 ([.l (aA acc),.l (ls.map dG),.i .i64 ls.length,.i .i64 i]++(dU b (aA fl)).cells)=some [.i .i64 0,.l (aA (acc++gu b (ls.drop i)))]
 | 0,i,acc,hi,ha=>by
   have h:¬ ((i:Int) < ls.length):=by omega
   have e:ls.drop i=[]:=gY (by omega);rw [e];have:gu b []=[]:=rfl;rw [this,kK,xB];simp only [dV,bV];refine aG rfl rfl ?_;simp [h]
 | m+1,i,acc,hi,ha=>by
   have hlt:i < ls.length:=by omega
   have h:((i:Int) < ls.length):=by omega
   obtain ⟨p,v1⟩:∃p,placeOf ls[i].name=some p:=by
    cases e:placeOf ls[i].name with
    | some p=>exact ⟨p,rfl⟩
    | none=>exact absurd e (hls _ (je hlt)).1
   have v2:=VH hM v1;have hdr:ls.drop i=ls[i]::ls.drop (i+1):=jw hlt;have hat:(ls.map dG)[i]? = some (dG ls[i]):=by rw [iq,bP hlt];rfl
   have hcast:((i+1:Nat):Int)=(i:Int)+1:=by omega
   have hw:=wrap64 (n:=(i:Int)+1) (by omega) (by omega);rw [hdr,yD];have hk:rH b ls[i]=if (aK b p).1=0/\(aK b p).2=[] then none else some (.mk ls[i].tag (bF p) (aK b p).1 (aK b p).2 []):=by unfold rH;rw [v1]
   rw [hk];have ih:=ac7 hM ls hl hls m (i+1);generalize ls[i]=s at *;clear hk hdr v1;have la:=kQ acc;have fn:aA []=[]:=by simp only [aA]
   have hel:(nV s.tag (bF p) (aK b p).1 (aK b p).2 []).fO 5=true:=rfl;have hfe:GV.g [.i .u64 s.tag,.i .i64 (bF p),.i .u64 (aK b p).1,.s (aK b p).2,.l []]=nV s.tag (bF p) (aK b p).1 (aK b p).2 []:=by unfold nV;rw [fn]
   have c1:2 * ((aA acc).length+1) * 64<=281474976710656/\(aA acc).length+1<=281474976710656:=by omega
   by_cases hz:(aK b p).1=0/\(aK b p).2=[]
   ·rw [aj hz]
    have ih:=ih acc (by omega) (by omega);rw [xB,hcast] at ih;rw [xB];simp only [dV,bV] at ih ⊢;clear hel hfe c1 la;obtain ⟨z1,z2⟩:=hz;rw [z1,z2] at v2;generalize aA acc=A at *;generalize aA fl=r at *;generalize ls.map dG=SP at *;generalize bF p=ty at *;refine aG rfl rfl ?_;simp [h,hat,jY,v2,hw,ih]
   ·rw [ah hz]
    have ih:=ih (acc++[.mk s.tag (bF p) (aK b p).1 (aK b p).2 []]) (by omega) (by rw [dH,xM];omega);have hfa:aA (acc++[.mk s.tag (bF p) (aK b p).1 (aK b p).2 []])=aA acc++[nV s.tag (bF p) (aK b p).1 (aK b p).2 []]:=by rw [Oz];simp only [aA,l7];rfl
    rw [xB,hcast,hfa,List.append_assoc] at ih;rw [xB];simp only [dV,bV] at ih ⊢;generalize hR:aA (acc++.mk s.tag (bF p) (aK b p).1 (aK b p).2 []::gu b (ls.drop (i+1)))=R at *;clear hR hfa la;generalize nV s.tag (bF p) (aK b p).1 (aK b p).2 []=E at *;generalize aA acc=A at *;generalize aA fl=r at *;generalize ls.map dG=SP at *;generalize bF p=ty at *;generalize aK b p=vv at *;obtain ⟨n,t⟩:=vv;simp only at *;by_cases hn:n=0
    ·have ht:¬ t=[]:=λe=>hz ⟨hn,e⟩
     subst hn;refine aG rfl rfl ?_;simp [h,hat,jY,v2,ht,hfe,hel,c1,hw,ih]
    ·refine aG rfl rfl ?_
     simp [h,hat,jY,v2,hn,hfe,hel,c1,hw,ih]
theorem DF:∀ (l:List aC) (w:Nat) (a:Int),iM w a l=0->(∀f∈l,f.tag≠0/\f.tag<=4294967296/\vP w f=0/\a < f.tag)/\l.Pairwise (λx y=>x.tag < y.tag)
 | [],w,a,_=>⟨by simp,List.Pairwise.nil⟩
 | f::l,w,a,h=>by
   unfold iM at h;by_cases h1:f.tag=0
   ·rw [aj h1] at h;exact absurd h (by decide)
   rw [ah h1] at h;by_cases h2:4294967296 < f.tag
   ·rw [aj h2] at h;exact absurd h (by decide)
   rw [ah h2] at h;by_cases h3:f.tag<=a
   ·rw [aj h3] at h;exact absurd h (by decide)
   rw [ah h3] at h;by_cases h4:vP w f=0;rotate_left
   ·rw [aj h4] at h;exact absurd h h4
   rw [ah (λe=>e h4)] at h;obtain ⟨i1,i2⟩:=DF l w f.tag h;refine ⟨λg hg=>?_,qR.2 ⟨λg hg=>(i1 g hg).2.2.2,i2⟩⟩;rcases bU.1 hg with rfl | hg
   ·exact ⟨h1,by omega,h4,by omega⟩
   ·obtain ⟨q1,q2,q3,q4⟩:=i1 g hg
    exact ⟨q1,q2,q3,by omega⟩
theorem NP:∀ (l:List aC) (w:Nat) (a:Int),(∀f∈l,f.tag≠0/\f.tag<=4294967296/\vP w f=0/\a < f.tag)->l.Pairwise (λx y=>x.tag < y.tag)->iM w a l=0
 | [],w,a,_,_=>by unfold iM;rfl
 | f::l,w,a,h,hp=>by
   obtain ⟨q1,q2,q3,q4⟩:=h f (by simp);rw [qR] at hp;unfold iM;rw [ah q1,ah (by omega),ah (by omega),ah (λe=>e q3)];refine NP l w f.tag (λg hg=>?_) hp.2;obtain ⟨r1,r2,r3,r4⟩:=h g (by simp [hg]);exact ⟨r1,r2,r3,hp.1 g hg⟩
theorem aoK (k:Int):(kU k).Pairwise (λs t=>s.tag < t.tag)/\∀s∈kU k,1<=s.tag/\s.tag<=5:=by
 unfold kU;repeat' split
 all_goals first | (unfold sp1;decide) | (unfold sp2;decide) | (unfold pY;decide) | (unfold yO;decide) | (unfold qg;decide) | (unfold qh;decide) | (unfold yP;decide) | (unfold yQ;decide) | exact ⟨List.Pairwise.nil,λs hs=>by cases hs⟩
theorem zV (k v:Int):(aB k v).Pairwise (λs t=>s.tag < t.tag)/\∀s∈aB k v,1<=s.tag/\s.tag<=5:=by
 obtain ⟨h1,h2⟩:=aoK k;exact ⟨h1.sublist Me,λs hs=>h2 s (lY.1 hs).1⟩
theorem JW {b:aJ} {s:bJ} {f:aC} (h:rH b s=some f):∃p,placeOf s.name=some p/\f=.mk s.tag (bF p) (aK b p).1 (aK b p).2 []/\¬ ((aK b p).1=0/\(aK b p).2=[]):=by
 unfold rH at h;cases hp:placeOf s.name with
 | none=>rw [hp] at h;cases h
 | some p=>
   rw [hp] at h;simp only at h;by_cases hz:(aK b p).1=0/\(aK b p).2=[]
   ·rw [aj hz] at h;cases h
   ·rw [ah hz] at h
    injection h with h
    exact ⟨p,rfl,h.symm,hz⟩
theorem JY {b:aJ} {l:List bJ} {f:aC} (h:f∈gu b l):∃s∈l,∃p,placeOf s.name=some p/\f=.mk s.tag (bF p) (aK b p).1 (aK b p).2 []/\¬ ((aK b p).1=0/\(aK b p).2=[]):=by
 unfold gu at h;obtain ⟨s,hs,hf⟩:=List.mem_filterMap.1 h;exact ⟨s,hs,JW hf⟩
theorem Ph (b:aJ):∀ (l:List bJ),l.Pairwise (λs t=>s.tag < t.tag)->(gu b l).Pairwise (λx y=>x.tag < y.tag)
 | [],_=>List.Pairwise.nil
 | s::l,h=>by
   rw [qR] at h;rw [yD];have ih:=Ph b l h.2;cases hk:rH b s with
   | none=>exact ih
   | some f=>
     obtain ⟨p, -,rfl, -⟩:=JW hk;refine qR.2 ⟨λg hg=>?_,ih⟩;obtain ⟨s',hs',p', -,rfl, -⟩:=JY hg;exact h.1 s' hs'
theorem aeJ (b:aJ) (p:Pl):(bF p=0/\(aK b p).2=[])\/(bF p=1/\(aK b p).1=0):=by
 cases p<;>simp [bF,aK]
theorem Vg (b:aJ) (k v:Int):iM 0 0 (gu b (aB k v))=0:=by
 obtain ⟨h1,h2⟩:=zV k v;refine NP _ 0 0 (λf hf=>?_) (Ph b _ h1);obtain ⟨s,hs,p, -,rfl, -⟩:=JY hf;have:=h2 s hs;refine ⟨by show s.tag≠0;omega,by show s.tag<=_;omega, ?_,by show 0 < s.tag;omega⟩;unfold vP;rcases aeJ b p with ⟨q1,q2⟩ | ⟨q1,q2⟩
 ·rw [q1,q2];simp
 ·rw [q1,q2];simp
def Short (b:aJ):Prop:=b.name.length<=600/\b.region.length<=600/\b.note.length<=600
theorem LK {b:aJ} {fl:List aC} (h:jE b fl) (hw:Short b) (p:Pl):(0<=(aK b p).1/\(aK b p).1 < 18446744073709551616)/\(aK b p).2.length<=100000000:=by
 have q:=h.body;obtain ⟨w1,w2,w3⟩:=hw;cases p with
 | rem=>
   have hr:=q.remaining;exact ⟨by simp only [aK];unfold zz;split<;>omega,by simp [aK]⟩
 | allow=>refine ⟨?_,by simp [aK]⟩;simp only [aK];split<;>omega
 | name=>exact ⟨by simp [aK],by simp only [aK];omega⟩
 | region=>exact ⟨by simp [aK],by simp only [aK];omega⟩
 | note=>exact ⟨by simp [aK],by simp only [aK];omega⟩
 | d=>
   refine ⟨by simp [aK], ?_⟩;simp only [aK];have:=JV h.d;split
   ·simp
   ·omega
 | t=>
   refine ⟨by simp [aK], ?_⟩;simp only [aK];have:=ac4 b.t h.t;split
   ·simp
   ·unfold vX
    split
    ·simp
    ·simp only;omega
 | num k=>
   refine ⟨?_,by simp [aK]⟩;simp only [aK];unfold jG;split<;>first | exact q.id | exact q.min | exact q.max | exact q.chosen | exact q.flags | exact q.cost | exact q.priority | exact q.deadline | exact q.retry | exact q.epoch | exact q.base | exact q.digest | exact q.lag | exact q.code | exact q.want
theorem Vb {b:aJ} {fl:List aC} (h:jE b fl) (hw:Short b) (k v:Int):bY (gu b (aB k v)):=OA λf hf=>by
 obtain ⟨s,hs,p, -,rfl, -⟩:=JY hf;have ht:=(zV k v).2 s hs;have hv:=LK h hw p;have hy:0<=bF p/\bF p<=1:=by cases p<;>simp [bF]
 simp only [nX,bY];refine ⟨⟨?_, ?_, ?_, ?_,hv.1.1,hv.1.2,hv.2, ?_⟩,trivial⟩;all_goals first | omega | simp
theorem abR (b:aJ) (k v:Int):(gu b (aB k v)).length<=8:=iF (List.length_filterMap_le _ _) (vT k v)
theorem Ve (b:aJ):∀l:List bJ,bH (gu b l)<=2 * l.length
 | []=>by simp [gu,bH]
 | s::l=>by
   rw [yD];have ih:=Ve b l;cases hk:rH b s with
   | none=>simp only [bV,iY];omega
   | some f=>
     obtain ⟨p, -,rfl, -⟩:=JW hk;simp only [dV,bV,bH,oN,iY];omega
theorem Vf {b:aJ} {fl:List aC} (h:jE b fl) (hw:Short b):∀l:List bJ,wL (gu b l)<=100000040 * l.length
 | []=>by simp [gu,wL]
 | s::l=>by
   rw [yD];have ih:=Vf h hw l;cases hk:rH b s with
   | none=>simp only [bV,iY];omega
   | some f=>
     obtain ⟨p, -,rfl, -⟩:=JW hk;have hv:=(LK h hw p).2;simp only [dV,bV,wL,wF,iY];omega
theorem OE:∀ (n:Nat) (l:List One) (deep:Int),(∀x∈l,x.text.length<=300)->wL (fA n l deep).1+340 * (fA n l deep).2.length<=340 * l.length
 | 0,l,deep,_=>by simp [fA,wL]
 | n+1,[],deep,_=>by simp [fA,wL]
 | n+1,x::l,deep,h=>by
   have hx:=h x (by simp);have hl:∀y∈l,y.text.length<=300:=λy hy=>h y (by simp [hy]);simp only [fA];split
   ·by_cases hd:x.deep=255
    ·rw [aj hd]
     have h1:=OE n l deep hl;simp only [wL,wF,iY];omega
    ·rw [ah hd]
     have h1:=OE n l (x.deep+1) hl;obtain ⟨k,hk⟩:=(DT n l (x.deep+1)).2;have h2:=OE n (fA n l (x.deep+1)).2 deep (λy hy=>hl y (by rw [hk] at hy;exact AL hy));simp only [wL,wF,iY];omega
   ·simp [wL]
theorem akB (l:List One) (hf:sZ l=true):wL (qI l)<=20400:=by
 unfold sZ at hf;rw [aI,decide_eq_true_iff,List.all_eq_true] at hf;have:=OE (l.length+1) l 0 λx hx=>by simpa using hf.1 x hx
 unfold qI;omega
/-- What is needed for a message that is written. -/
structure wO (b:aJ) (fl:List aC):Prop where
 msg:jE b fl
 short:Short b
 sz:bH fl<=900000
 w:wL fl<=2000000000
theorem yh {b:aJ} {fl:List aC} {v:Int} (h:eY b fl v=0):1<=v/\v<=3/\aB b.kind v≠[]/\iM 0 0 fl=0/\∀f∈fl,hasTag (aB b.kind v) f.tag=false:=by
 unfold eY at h;by_cases h1:v < 1
 ·rw [aj h1] at h;exact absurd h (by decide)
 rw [ah h1] at h;by_cases h2:3 < v
 ·rw [aj h2] at h;exact absurd h (by decide)
 rw [ah h2] at h;by_cases h3:aB b.kind v=[]
 ·rw [aj h3] at h;exact absurd h (by decide)
 rw [ah h3] at h;by_cases h4:dF.all (λn=>jA (aB b.kind v) n || lF b n)=false
 ·rw [aj h4] at h;exact absurd h (by decide)
 rw [ah h4] at h;by_cases h5:lD b (aB b.kind v)≠0
 ·rw [aj h5] at h;exact absurd h h5
 rw [ah h5] at h;by_cases h6:qZ b≠0
 ·rw [aj h6] at h;exact absurd h h6
 rw [ah h6] at h;unfold EC at h;by_cases h7:iM 0 0 fl≠0
 ·rw [aj h7] at h;exact absurd h h7
 rw [ah h7] at h;by_cases h8:fl.any (λf=>hasTag (aB b.kind v) f.tag)=true
 ·rw [aj h8] at h;exact absurd h (by decide)
 refine ⟨by omega,by omega,h3,by simpa using h7,λf hf=>?_⟩;cases e:hasTag (aB b.kind v) f.tag with
 | false=>rfl
 | true=>exact absurd (List.any_eq_true.2 ⟨f,hf,e⟩) h8
theorem A8 {b:aJ} {fl:List aC} {v:Int} (h:eY b fl v=0):((gu b (aB b.kind v)++fl).map aC.tag).Nodup:=by
 obtain ⟨-, -, -,h1,h2⟩:=yh h;have p1:=Ph b _ (zV b.kind v).1;have p2:=(DF fl 0 0 h1).2;rw [sD,List.nodup_append];have nd:∀l:List aC,l.Pairwise (λx y=>x.tag < y.tag)->(l.map aC.tag).Nodup:=λl hl=>by
  unfold List.Nodup;rw [List.pairwise_map];exact hl.imp λh e=>by omega
 refine ⟨nd _ p1,nd _ p2,λx hx y hy e=>?_⟩;obtain ⟨f,hf,rfl⟩:=kX.1 hx;obtain ⟨g,hg,rfl⟩:=kX.1 hy;obtain ⟨s,hs,p, -,rfl, -⟩:=JY hf;have:=h2 g hg;unfold hasTag at this;have h3:(aB b.kind v).any (λs=>decide (g.tag=s.tag))=true:=List.any_eq_true.2 ⟨s,hs,Bl (show g.tag=s.tag from e.symm)⟩;rw [h3] at this;cases this
def fE (b:aJ) (fl:List aC) (v:Int):List aC:=oL (gu b (aB b.kind v)) fl
def Ov (b:aJ) (fl:List aC) (v:Int):List aC×Int:=if eY b fl v=0 then (fE b fl v,0) else ([],eY b fl v)
structure Ro (l:List aC):Prop where
 ok:bY l
 len:l.length<=1000000
 w:wL l<=1000000000000
 chk:iM 0 0 l=0
theorem Sz {b:aJ} {fl:List aC} {v:Int} (hm:wO b fl) (h:eY b fl v=0):Ro (fE b fl v):=by
 obtain ⟨-, -, -,h1,h2⟩:=yh h;obtain ⟨mp,ms⟩:=zY (A8 h);have hl:fl.length<=900000:=by
  have:∀l:List aC,l.length<=bH l:=λl=>by
   induction l with
   | nil=>simp [bH]
   | cons f l ih=>simp only [iY,bH];omega
  have:=this fl;have:=hm.sz;omega
 have kl:=abR b b.kind v;have kw:=Vf hm.msg hm.short (aB b.kind v);have k8:=vT b.kind v;have mw:=hm.w;refine ⟨aiu mp (ait (Vb hm.msg hm.short _ _) hm.msg.f8), ?_, ?_, ?_⟩
 ·unfold fE;rw [mp.length_eq,dH];omega
 ·unfold fE;rw [aeU mp,Ye]
  have:100000040 * (aB b.kind v).length<=100000040 * 8:=MK _ k8;omega
 ·refine NP _ 0 0 (λf hf=>?_) ms
  rcases kV.1 (mp.mem_iff.1 hf) with hf | hf
  ·exact (DF _ 0 0 (Vg b b.kind v)).1 f hf
  ·exact (DF _ 0 0 h1).1 f hf
theorem U8 {k v:Int} (h:aB k v≠[]):1<=k/\k<=8:=by
 by_cases c:1<=k/\k<=8
 ·exact c
 ·exfalso
  apply h;unfold aB kU;rw [ah (by omega),ah (by omega),ah (by omega),ah (by omega),ah (by omega),ah (by omega),ah (by omega),ah (by omega)];rfl
theorem alz {b:aJ} {fl:List aC} (hm:wO b fl) (v:Int):TT.lim 31 [dU b (aA fl),.i .i64 v]=some [.l (aA (Ov b fl v).1),.i .i64 (Ov b fl v).2]:=by
 have hc:=acv b fl v hm.msg.body hm.msg.t.few hm.msg.f8 hm.msg.len;unfold Ov;by_cases c:eY b fl v=0;rotate_left
 ·rw [ah c]
  have fn:aA []=[]:=by simp only [aA]
  rw [fn];generalize aA fl=r at *;generalize eY b fl v=ck at *;refine bD rfl rfl ?_ rfl;simp [jY,hc,c]
 rw [aj c];rw [c] at hc;obtain ⟨v1,v3,hne,h8, -⟩:=yh c;have hk:=JX b.kind v v1 v3 (by
  have:=mt (Pj b.kind v v1 v3).2 hne;omega)
 have h0:=ac7 hm.msg (aB b.kind v) (by have:=vT b.kind v;omega) (aj6 b.kind v) (aB b.kind v).length 0 [] (by omega) (by have:=vT b.kind v;simp;omega);have fn:aA []=[]:=by simp only [aA]
 rw [eH,bV,xB,fn] at h0;simp only [dV,bV,qO] at h0;have hsz:=Ve b (aB b.kind v);have k8:=vT b.kind v;have mo:=amf _ fl (Vb hm.msg hm.short b.kind v) hm.msg.f8 (by have:=abR b b.kind v;omega) hm.msg.len (by have:=hm.sz;omega) (Vg b b.kind v) h8 (A8 c);have hal:(((aB b.kind v).map dG).length:Int)=((aB b.kind v).length:Int):=by rw [kM]
 unfold fE;generalize aA (oL (gu b (aB b.kind v)) fl)=M at *;generalize aA (gu b (aB b.kind v))=KV at *;generalize (aB b.kind v).map dG=SP at *;generalize ((aB b.kind v).length:Int)=L at *;generalize aA fl=r at *;clear hsz k8 hne h8 c hm v1 v3;refine bD rfl rfl ?_ rfl;simp [jY,hc,hk,hal,h0,mo]
/-- What is written, or why not. -/
def bytesV (b:aJ) (fl:List aC) (v:Int):List UInt8:=aS b.kind.toNat++bK (fE b fl v)
def sW (b:aJ) (fl:List aC) (v:Int):List UInt8×Int:=if eY b fl v=0 then (if 65536 < (bytesV b fl v).length then ([],4) else (bytesV b fl v,0)) else ([],eY b fl v)
theorem Ws {b:aJ} {fl:List aC} (hm:wO b fl) (v:Int):TT.lim 30 [dU b (aA fl),.i .i64 v]=some [.s (sW b fl v).1,.i .i64 (sW b fl v).2]:=by
 have hf:=alz hm v;unfold Ov at hf;unfold sW;by_cases c:eY b fl v=0;rotate_left
 ·rw [ah c] at hf ⊢
  generalize aA fl=r at *;generalize eY b fl v=ck at *;refine bD rfl rfl ?_ rfl;simp [jY,hf,c]
 rw [aj c] at hf ⊢;have ao:=Sz hm c;have hw:=apS (fE b fl v) ao.ok ao.len ao.w ao.chk;obtain ⟨-, -,hne, -, -⟩:=yh c;obtain ⟨k1,k8⟩:=U8 hne;have hp:=vW b.kind.toNat (by omega);have hpl:=lI (n:=b.kind.toNat) (by omega);rw [show ((b.kind.toNat:Nat):Int)=b.kind by omega] at hp;have wk:=kE (n:=b.kind) (by omega) (by omega);unfold bytesV;rw [dH];clear ao c hm hne;generalize fE b fl v=AF at *;generalize aS b.kind.toNat=V at *;generalize aA fl=r at *;generalize aA AF=G at *;generalize bK AF=F at *;by_cases c1:65536 < F.length
 ·rw [aj c1] at hw
  rw [aj (by omega)];refine bD rfl rfl ?_ rfl;simp [jY,hf,hw]
 ·rw [ah c1] at hw
  have c3:(V.length:Int)+F.length<=9223372036854775807:=by omega
  by_cases c2:65536 < V.length+F.length
  ·have c2':(65536:Int) < V.length+F.length:=by omega
   rw [aj c2];refine bD rfl rfl ?_ rfl;simp [jY,hf,hw,wk,hp,c2',c3]
  ·have c2':¬ (65536:Int) < V.length+F.length:=by omega
   rw [ah c2];refine bD rfl rfl ?_ rfl;simp [jY,hf,hw,wk,hp,c2',c3]
end U
end Go.Proofs.YtjglbndncdkhhaaGreatDoor
