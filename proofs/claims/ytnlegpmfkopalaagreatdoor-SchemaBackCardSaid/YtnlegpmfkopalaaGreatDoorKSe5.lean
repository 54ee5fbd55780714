/- What the trees compute: plain laws. -/
import Derived.Test.YtnlegpmfkopalaaGreatDoorKSe4
namespace Go.Proofs.YtnlegpmfkopalaaGreatDoor
open Go Go.aN
set_option linter.unusedSimpArgs false
set_option linter.unusedVariables false
set_option maxRecDepth 100000
namespace S
mutual
def zI:aC->List UInt8
 | .mk t y n s k=>aJ (4 * t+y).toNat++(if y=0 then aJ n.toNat else if y=1 then aJ s.length++s else aJ (bP k).length++bP k)
def bP:List aC->List UInt8
 | []=>[]
 | f::l=>zI f++bP l
end
mutual
def wF:aC->Nat
 | .mk _ _ _ s k=>s.length+40+wL k
def wL:List aC->Nat
 | []=>0
 | f::l=>wF f+wL l
end
mutual
/-- Tags and types that may be. -/
def CU:aC->Prop
 | .mk t y n s k=>(1<=t/\t<=4294967296)/\((y=0/\s=[]/\k=[])\/(y=1/\n=0/\k=[])\/(y=2/\n=0/\s=[]))/\pG k
def pG:List aC->Prop
 | []=>True
 | f::l=>CU f/\pG l
end
theorem LH:∀ {l:List aC},pG l->∀f∈l,CU f
 | f::l,h,g,hg=>by
   simp only [pG] at h;rcases dh.1 hg with rfl | hg
   ·exact h.1
   ·exact LH h.2 g hg
theorem NP:∀ (N:Nat) (l:List aC),bV l < N->cu l->∀w a,iH w a l=0->0<=a->pG l
 | 0,l,h,_,_,_,_,_=>by omega
 | N+1,[],_,_,_,_,_,_=>by simp only [pG]
 | N+1,.mk t y n s k::l,hN,hok,w,a,h,ha=>by
   simp only [bV,pz] at hN;simp only [cu,nK] at hok;unfold iH at h;by_cases h1:(aC.mk t y n s k).tag=0
   ·rw [aj h1] at h;exact absurd h (by decide)
   rw [ah h1] at h;by_cases h2:4294967296 < (aC.mk t y n s k).tag
   ·rw [aj h2] at h;exact absurd h (by decide)
   rw [ah h2] at h;by_cases h3:(aC.mk t y n s k).tag<=a
   ·rw [aj h3] at h;exact absurd h (by decide)
   rw [ah h3] at h;by_cases h4:vZ w (.mk t y n s k)=0;rotate_left
   ·rw [aj h4] at h;exact absurd h h4
   rw [ah (λe=>e h4)] at h;have h1:¬ t=0:=h1;have h2:¬ 4294967296 < t:=h2;have h3:¬ t<=a:=h3;simp only [pG,CU];refine ⟨⟨by omega, ?_, ?_⟩,NP N l (by omega) hok.2 w t h (by omega)⟩
   ·simp only [vZ] at h4
    split at h4
    ·rename_i hy
     split at h4
     ·rename_i hc;exact .inl ⟨hy,hc⟩
     ·cases h4
    ·split at h4
     ·rename_i hy
      split at h4
      ·rename_i hc;exact .inr (.inl ⟨hy,hc⟩)
      ·cases h4
     ·split at h4
      ·rename_i hy
       split at h4
       ·rename_i hc;exact .inr (.inr ⟨hy,hc⟩)
       ·cases h4
      ·cases h4
   ·simp only [vZ] at h4
    split at h4
    ·split at h4
     ·rename_i hc;rw [hc.2];simp only [pG]
     ·cases h4
    ·split at h4
     ·split at h4
      ·rename_i hc;rw [hc.2];simp only [pG]
      ·cases h4
     ·split at h4
      ·split at h4
       ·split at h4
        ·cases h4
        ·exact NP N k (by omega) hok.1.2 _ _ h4 (by omega)
       ·cases h4
      ·cases h4
theorem Ho:∀ (N:Nat) (l:List aC),bV l < N->cu l->pG l->wL l<=1000000000000->(bP l).length<=wL l
 | 0,l,h,_,_,_=>by omega
 | N+1,[],_,_,_,_=>by simp [bP]
 | N+1,.mk t y n s k::l,hN,hok,hty,hw=>by
   simp only [bV,pz] at hN;simp only [cu,nK] at hok;simp only [pG,CU] at hty;simp only [wL,wF] at hw ⊢;have h1:=Ho N l (by omega) hok.2 hty.2 (by omega);have h2:=Ho N k (by omega) hok.1.2 hty.1.2.2 (by omega);simp only [bP,zI,dS];have v1:=lD (n:=(4 * t+y).toNat) (by rcases hty.1.2.1 with h | h | h<;>omega);have v2:=lD (n:=n.toNat) (by omega);have v3:=lD (n:=s.length) (by omega);have v4:=lD (n:=(bP k).length) (by omega);split
   ·omega
   ·split
    ·rw [dS];omega
    ·rw [dS];omega
theorem aa0 (t y:Int) (ht:1<=t/\t<=4294967296) (hy:0<=y/\y < 4):jI .shl .u64 t 2=some (.i .u64 (4 * t))/\IntKind.u64.wrap y=y/\bU .or .u64 (4 * t) y=some (.i .u64 (4 * t+y)):=by
 have wu:∀y:Int,IntKind.u64.wrap y=y % 18446744073709551616:=λy=>by simp [IntKind.wrap,IntKind.signed,IntKind.bits]
 have hu:IntKind.u64.bits=64:=rfl;refine ⟨?_,by rw [wu];omega, ?_⟩
 ·have h2:jI .shl .u64 t 2=some (.i .u64 (IntKind.u64.wrap (t * 2 ^ 2))):=rfl
  rw [h2,wu];congr 2;omega
 ·simp only [bU,wu,hu]
  obtain ⟨T,rfl⟩:∃T:Nat,t=(T:Int):=⟨t.toNat,by omega⟩
  obtain ⟨Y,rfl⟩:∃Y:Nat,y=(Y:Int):=⟨y.toNat,by omega⟩
  have e1:(BitVec.ofInt 64 (4 * (T:Int))).toNat=4 * T:=by rw [qH];omega
  have e2:(BitVec.ofInt 64 (Y:Int)).toNat=Y:=by rw [qH];omega
  have e3:4 * T ||| Y=4 * T+Y:=(afg (i:=2) (b:=Y) (by omega) T).symm;show some (GV.i IntKind.u64 (((BitVec.ofInt 64 (4 * (T:Int)) ||| BitVec.ofInt 64 (Y:Int)).toNat:Int) % 18446744073709551616))=_
  rw [Ry,e1,e2,e3];congr 2;omega
theorem TV {t y n:Int} {s:List UInt8} {k:List aC} (h:CU (.mk t y n s k)):1<=t/\t<=4294967296/\0<=y/\y < 3/\(y=0\/y=1\/y=2)/\pG k:=by
 simp only [CU] at h;rcases h.2.1 with h1 | h1 | h1<;>exact ⟨h.1.1,h.1.2,by omega,by omega,by omega,h.2.2⟩
theorem Xl:∀ (N:Nat) (l:List aC),bV l < N->cu l->pG l->l.length<=1000000->wL l<=1000000000000->TT.lim 87 [.l (aA l)]=some [.i .i64 (bP l).length]
 | 0,l,h,_,_,_,_=>by omega
 | N+1,l,hN,hok,hty,hlen,hw=>by
   have hl1:=kY l;have loop:∀m i,i+m=l.length->∀acc:Nat,acc+wL (l.drop i)<=1000000000000->TT.lim 88 [.l (aA l),.i .i64 acc,.i .i64 l.length,.i .i64 i]=some [.i .i64 0,.i .i64 ((acc+(bP (l.drop i)).length:Nat):Int)]:=by
    intro m;induction m with
    | zero=>
      intro i hi acc hacc;have e1:l.drop i=[]:=gJ (by omega);have h:¬ ((i:Int) < l.length):=by omega
      rw [e1];simp only [bP,qI,lG];refine aB rfl rfl ?_;simp [h]
    | succ m ih=>
      intro i hi acc hacc;obtain ⟨t,y,n,s,k,g1,g2,g3,g4⟩:=BH (l:=l) (i:=i) (by omega);have hf:=BI hok _ g4;have ht:=LH hty _ g4;simp only [nK] at hf;obtain ⟨t1,t2,y1,y2,y3,tk⟩:=TV ht;have hs:=QU g4;simp only [pz] at hs;rw [g3] at hacc ⊢;simp only [wL,wF] at hacc;have hk:=Xl N k (by omega) hf.2 tk hf.1.2.2.2.2.2.2.2 (by omega);have hkl:=Ho (bV k+1) k (by omega) hf.2 tk (by omega);obtain ⟨b1,b2,b3⟩:=aa0 t y ⟨t1,t2⟩ ⟨y1,by omega⟩;have v1:=IX (4 * t+y).toNat (by omega);have v2:=IX n.toNat (by omega);have v3:=IX s.length (by omega);have v4:=IX (bP k).length (by omega);have z1:=CY (n:=(4 * t+y).toNat) (by omega);have z2:=CY (n:=n.toNat) (by omega);have z3:=CY (n:=s.length) (by omega);have z4:=CY (n:=(bP k).length) (by omega);rw [show (((4 * t+y).toNat:Nat):Int)=4 * t+y by omega] at v1;rw [show ((n.toNat:Nat):Int)=n by omega] at v2;have hcast:((i+1:Nat):Int)=(i:Int)+1:=by omega
      have hwr:=wrap64 (n:=(i:Int)+1) (by omega) (by omega);have h:((i:Int) < l.length):=by omega
      have ih':=λa ha=>ih (i+1) (by omega) a ha;simp only [hcast] at ih';have e1:(aJ (4 * t+y).toNat).length=bM (4 * t+y).toNat:=rfl;have e2:(aJ n.toNat).length=bM n.toNat:=rfl;have e3:(aJ s.length).length=bM s.length:=rfl;have e4:(aJ (bP k).length).length=bM (bP k).length:=rfl;have u3:=jS (n:=(s.length:Int)) (by omega) (by omega);have u4:=jS (n:=((bP k).length:Int)) (by omega) (by omega);simp only [bP,zI,dS];rw [e1];generalize bM (4 * t+y).toNat=A at *;have w1:=wrap64 (n:=(acc:Int)+A) (by omega) (by omega);rcases y3 with hy | hy | hy
      ·rw [aj hy,e2]
       generalize bM n.toNat=B at *;have w2:=wrap64 (n:=(acc:Int)+A+B) (by omega) (by omega);have qh:=ih' (acc+A+B) (by omega);rw [show ((acc+A+B:Nat):Int)=(acc:Int)+A+B by omega,show acc+A+B+(bP (l.drop (i+1))).length=acc+(A+B+(bP (l.drop (i+1))).length) by omega] at qh;have q0:(y=0)=True:=eq_true hy;clear hy;refine aB rfl rfl ?_;simp [h,g2,q0,b1,b2,b3,v1,v2,w1,w2,hwr,qh]
      ·rw [ah (by omega),aj hy,dS,e3]
       generalize bM s.length=B at *;have w2:=wrap64 (n:=(B:Int)+s.length) (by omega) (by omega);have w3:=wrap64 (n:=(acc:Int)+A+(B+s.length)) (by omega) (by omega);have qh:=ih' (acc+A+(B+s.length)) (by omega);rw [show ((acc+A+(B+s.length):Nat):Int)=(acc:Int)+A+(B+s.length) by omega,show acc+A+(B+s.length)+(bP (l.drop (i+1))).length=acc+(A+(B+s.length)+(bP (l.drop (i+1))).length) by omega] at qh;have q0:(y=0)=False:=eq_false (by omega);have q1:(y=1)=True:=eq_true hy;clear hy;refine aB rfl rfl ?_;simp [h,g2,q0,q1,b1,b2,b3,v1,v3,u3,w1,w2,w3,hwr,qh]
      ·rw [ah (by omega),ah (by omega),dS,e4]
       generalize bM (bP k).length=B at *;generalize (bP k).length=C at *;have w2:=wrap64 (n:=(B:Int)+C) (by omega) (by omega);have w3:=wrap64 (n:=(acc:Int)+A+(B+C)) (by omega) (by omega);have qh:=ih' (acc+A+(B+C)) (by omega);rw [show ((acc+A+(B+C):Nat):Int)=(acc:Int)+A+(B+C) by omega,show acc+A+(B+C)+(bP (l.drop (i+1))).length=acc+(A+(B+C)+(bP (l.drop (i+1))).length) by omega] at qh;have q0:(y=0)=False:=eq_false (by omega);have q1:(y=1)=False:=eq_false (by omega);have q2:(y=2)=True:=eq_true hy;clear hy;refine aB rfl rfl ?_;simp [h,g2,q0,q1,q2,b1,b2,b3,v1,hk,v4,u4,w1,w2,w3,hwr,qh]
   have h0:=loop l.length 0 (by omega) 0 (by rw [eP];omega);rw [eP,jr] at h0;have h0':TT.lim 88 [.l (aA l),.i .i64 0,.i .i64 (aA l).length,.i .i64 0]=some [.i .i64 0,.i .i64 ((bP l).length:Int)]:=by rw [hl1];exact h0
   rw [hl1] at h0';clear loop h0;refine aY rfl rfl ?_ rfl;simp [hl1,h0']
/-- The bytes for fields, put behind others. -/
theorem DI (a b:List UInt8):bK (a++b)=bK a++bK b:=by simp [bK]
theorem aeZ:∀ (N:Nat) (l:List aC),bV l < N->cu l->pG l->l.length<=1000000->∀B:List UInt8,B.length+wL l<=1000000000000->TT.lim 89 [.l (bK B),.l (aA l)]=some [.i .i64 0,.l (bK (B++bP l))]
 | 0,l,h,_,_,_,_,_=>by omega
 | N+1,l,hN,hok,hty,hlen,B,hB=>by
   have hl1:=kY l;have loop:∀m i,i+m=l.length->∀acc:List UInt8,acc.length+wL (l.drop i)<=1000000000000->TT.lim 90 [.l (bK acc),.l (aA l),.i .i64 l.length,.i .i64 i]=some [.i .i64 0,.l (bK (acc++bP (l.drop i)))]:=by
    intro m;induction m with
    | zero=>
      intro i hi acc hacc;have e1:l.drop i=[]:=gJ (by omega);have h:¬ ((i:Int) < l.length):=by omega
      rw [e1];simp only [bP,mD];refine aB rfl rfl ?_;simp [h]
    | succ m ih=>
      intro i hi acc hacc;obtain ⟨t,y,n,s,k,g1,g2,g3,g4⟩:=BH (l:=l) (i:=i) (by omega);have hf:=BI hok _ g4;have ht:=LH hty _ g4;simp only [nK] at hf;obtain ⟨t1,t2,y1,y2,y3,tk⟩:=TV ht;have hs:=QU g4;simp only [pz] at hs;rw [g3] at hacc ⊢;simp only [wL,wF] at hacc;have hk:=Xl N k (by omega) hf.2 tk hf.1.2.2.2.2.2.2.2 (by omega);have hkl:=Ho (bV k+1) k (by omega) hf.2 tk (by omega);obtain ⟨b1,b2,b3⟩:=aa0 t y ⟨t1,t2⟩ ⟨y1,by omega⟩;have v1:=vk (4 * t+y).toNat (by omega);have v2:=vk n.toNat (by omega);have v3:=vk s.length (by omega);have v4:=vk (bP k).length (by omega);have z1:=lD (n:=(4 * t+y).toNat) (by omega);have z2:=lD (n:=n.toNat) (by omega);have z3:=lD (n:=s.length) (by omega);have z4:=lD (n:=(bP k).length) (by omega);rw [show (((4 * t+y).toNat:Nat):Int)=4 * t+y by omega] at v1;rw [show ((n.toNat:Nat):Int)=n by omega] at v2;have hcast:((i+1:Nat):Int)=(i:Int)+1:=by omega
      have hwr:=wrap64 (n:=(i:Int)+1) (by omega) (by omega);have h:((i:Int) < l.length):=by omega
      have ih':=λa ha=>ih (i+1) (by omega) a ha;simp only [hcast] at ih';have u3:=jS (n:=(s.length:Int)) (by omega) (by omega);have u4:=jS (n:=((bP k).length:Int)) (by omega) (by omega);have o8:∀z:List UInt8,(bK z).all (λg=>g.fJ 1)=true:=λz=>by simp [bK,GV.fJ]
      have l8:∀z:List UInt8,(bK z).length=z.length:=λz=>by simp [bK]
      simp only [bP,zI];rcases y3 with hy | hy | hy
      ·rw [aj hy]
       have qh:=ih' (acc++aJ (4 * t+y).toNat++aJ n.toNat) (by simp only [dS];omega);rw [show acc++aJ (4 * t+y).toNat++aJ n.toNat++bP (l.drop (i+1))=acc++(aJ (4 * t+y).toNat++aJ n.toNat++bP (l.drop (i+1))) by simp,DI,DI] at qh;generalize aJ (4 * t+y).toNat=A at *;generalize aJ n.toNat=C at *;have c1:2 * (acc.length+A.length)<=281474976710656/\acc.length+A.length<=281474976710656:=by omega
       have c2:2 * (acc.length+A.length+C.length)<=281474976710656/\acc.length+A.length+C.length<=281474976710656:=by omega
       have q0:(y=0)=True:=eq_true hy;clear hy;refine aB rfl rfl ?_;simp [-List.append_assoc,h,g2,q0,b1,b2,b3,v1,v2,hwr,qh,o8,l8,c1,c2]
      ·rw [ah (by omega),aj hy]
       have qh:=ih' (acc++aJ (4 * t+y).toNat++aJ s.length++s) (by simp only [dS];omega);rw [show acc++aJ (4 * t+y).toNat++aJ s.length++s++bP (l.drop (i+1))=acc++(aJ (4 * t+y).toNat++(aJ s.length++s)++bP (l.drop (i+1))) by simp,DI,DI,DI] at qh;generalize aJ (4 * t+y).toNat=A at *;generalize aJ s.length=C at *;have c1:2 * (acc.length+A.length)<=281474976710656/\acc.length+A.length<=281474976710656:=by omega
       have c2:2 * (acc.length+A.length+C.length)<=281474976710656/\acc.length+A.length+C.length<=281474976710656:=by omega
       have c3:2 * (acc.length+A.length+C.length+s.length)<=281474976710656/\acc.length+A.length+C.length+s.length<=281474976710656:=by omega
       have q0:(y=0)=False:=eq_false (by omega);have q1:(y=1)=True:=eq_true hy;clear hy;refine aB rfl rfl ?_;simp [-List.append_assoc,h,g2,q0,q1,b1,b2,b3,v1,v3,u3,hwr,qh,o8,l8,c1,c2,c3]
      ·rw [ah (by omega),ah (by omega)]
       have hwk:=aeZ N k (by omega) hf.2 tk hf.1.2.2.2.2.2.2.2 (acc++aJ (4 * t+y).toNat++aJ (bP k).length) (by simp only [dS];omega);have qh:=ih' (acc++aJ (4 * t+y).toNat++aJ (bP k).length++bP k) (by simp only [dS];omega);rw [show acc++aJ (4 * t+y).toNat++aJ (bP k).length++bP k++bP (l.drop (i+1))=acc++(aJ (4 * t+y).toNat++(aJ (bP k).length++bP k)++bP (l.drop (i+1))) by simp] at qh;rw [DI (acc++_),DI acc] at hwk;generalize aJ (4 * t+y).toNat=A at *;generalize aJ (bP k).length=C at *;have c1:2 * (acc.length+A.length)<=281474976710656/\acc.length+A.length<=281474976710656:=by omega
       have c2:2 * (acc.length+A.length+C.length)<=281474976710656/\acc.length+A.length+C.length<=281474976710656:=by omega
       generalize bP k=K at *;have q0:(y=0)=False:=eq_false (by omega);have q1:(y=1)=False:=eq_false (by omega);have q2:(y=2)=True:=eq_true hy;clear hy;refine aB rfl rfl ?_;simp [-List.append_assoc,h,g2,q0,q1,q2,b1,b2,b3,v1,hk,v4,u4,hwk,hwr,qh,o8,l8,c1,c2]
   have h0:=loop l.length 0 (by omega) B (by rw [eP];omega);rw [eP] at h0;have h0':TT.lim 90 [.l (bK B),.l (aA l),.i .i64 l.length,.i .i64 0]=some [.i .i64 0,.l (bK (B++bP l))]:=h0;clear loop h0;generalize bK B=B' at *;refine aB rfl rfl ?_;simp [hl1,h0']
theorem amA {α β:Type} {f:α->β} {ys zs:List β} (h:ys.Perm zs):∀l:List α,zs=l.map f->∃p:List α,p.Perm l/\ys=p.map f:=by
 induction h with
 | nil=>intro l e;exact ⟨l,.refl _,e⟩
 | cons x _ ih=>
   intro l e;cases l with
   | nil=>cases e
   | cons a l=>
     injection e with e1 e2
     obtain ⟨p,h1,h2⟩:=ih l e2;exact ⟨a::p,h1.cons a,by rw [jq,<- h2,<- e1]⟩
 | swap x y l=>
   intro m e;rcases m with _ | ⟨a,_ | ⟨b,m⟩⟩
   ·cases e
   ·cases e
   ·simp only [jq,FX] at e
    obtain ⟨e1,e2,e3⟩:=e;exact ⟨b::a::m,List.Perm.swap a b m,by rw [jq,jq,<- e1,<- e2,<- e3]⟩
 | trans _ _ ih1 ih2=>
   intro l e;obtain ⟨p,h1,h2⟩:=ih2 l e;obtain ⟨q,h3,h4⟩:=ih1 p h2;exact ⟨q,h3.trans h1,h4⟩
theorem IZ:∀ (p q:List aC),p.Perm q->p.Pairwise (λa b=>a.tag<=b.tag)->q.Pairwise (λa b=>a.tag < b.tag)->p=q
 | [],q,h,_,_=>(List.nil_perm.1 h).symm
 | a::p,[],h,_,_=>by have:=h.length_eq;simp at this
 | a::p,b::q,h,hp,hq=>by
   have hb:b∈a::p:=h.mem_iff.2 (by simp);have ha:a∈b::q:=h.mem_iff.1 (by simp);rw [pV] at hp hq;have h1:a.tag<=b.tag:=by
    rcases dh.1 hb with e | hb
    ·rw [e];exact FW _
    ·exact hp.1 b hb
   have e:a=b:=by
    rcases dh.1 ha with e | ha
    ·exact e
    ·have:=hq.1 a ha;omega
   subst e;rw [IZ p q (List.Perm.cons_inv h) hp.2 hq.2]
def IE (f:aC):List aC->Nat
 | []=>0
 | g::l=>if g.tag < f.tag then IE f l+1 else 0
def BM (f:aC) (out:List aC):List aC:=out.take (IE f out)++f::out.drop (IE f out)
def H8 (out l:List aC):List aC:=l.foldl (λo f=>BM f o) out
theorem abf (f:aC) (out:List aC):(BM f out).Perm (f::out):=by
 unfold BM;refine List.perm_middle.trans ?_;rw [xR]
theorem abg (f:aC):∀out:List aC,out.Pairwise (λa b=>a.tag < b.tag)->(∀g∈out,g.tag≠f.tag)->(BM f out).Pairwise (λa b=>a.tag < b.tag)/\(∀g,out[IE f out]? = some g->g.tag≠f.tag)
 | [],_,_=>by simp [BM,IE]
 | g::l,hp,hn=>by
   rw [pV] at hp;unfold BM IE;by_cases h:g.tag < f.tag
   ·obtain ⟨i1,i2⟩:=abg f l hp.2 λx hx=>hn x (by simp [hx])
    rw [aj h];simp only [wP,Jl,eG,pR];refine ⟨List.pairwise_cons.2 ⟨λx hx=>?_,i1⟩,i2⟩;have:=(abf f l).mem_iff.1 hx;rcases dh.1 this with rfl | hx
    ·exact h
    ·exact hp.1 x hx
   ·rw [ah h]
    have hg:=hn g (by simp);simp only [F5,eP,dA,iG];refine ⟨List.pairwise_cons.2 ⟨λx hx=>?_,pV.2 hp⟩,λx hx=>?_⟩
    ·rcases dh.1 hx with rfl | hx
     ·omega
     ·have:=hp.1 x hx;omega
    ·injection hx with hx
     rw [<- hx];exact hg
theorem UO:∀ (l out:List aC),out.Pairwise (λa b=>a.tag < b.tag)->((out++l).map aC.tag).Nodup->(H8 out l).Perm (out++l)/\(H8 out l).Pairwise (λa b=>a.tag < b.tag)
 | [],out,hp,_=>by simp only [H8,List.foldl_nil,mD];exact ⟨.refl _,hp⟩
 | f::l,out,hp,hn=>by
   have hf:∀g∈out,g.tag≠f.tag:=λg hg e=>by
    rw [xP,List.nodup_append] at hn;exact hn.2.2 g.tag (List.mem_map_of_mem hg) f.tag (by simp) e
   have hs:=(abg f out hp hf).1;have hq:(BM f out++l).Perm (out++f::l):=((abf f out).append_right l).trans (List.perm_middle.symm);have ih:=UO l (BM f out) hs ((hq.map aC.tag).nodup_iff.2 hn);exact ⟨ih.1.trans hq,ih.2⟩
theorem aaF (l:List aC):(aA l).all (λg=>g.fJ 5)=true:=by
 rw [yD,List.all_eq_true];intro g hg;obtain ⟨f,_,rfl⟩:=mF.1 hg;cases f;simp only [mP];rfl
theorem Ot (a b:List aC):aA (a++b)=aA a++aA b:=by simp only [yD,xP]
/-- Both lists brought together, where all tags differ. -/
def qZ (a b:List aC):List aC:=H8 [] (a++b)
theorem Ij {a b:List aC} (hn:((a++b).map aC.tag).Nodup):(qZ a b).Perm (a++b)/\(qZ a b).Pairwise (λx y=>x.tag < y.tag):=UO (a++b) [] List.Pairwise.nil hn
theorem afO (s:List UInt8):lH (bK s)=some s:=by
 induction s with
 | nil=>rfl
 | cons a s ih=>
   have h1:(0:Int)<=a.toNat/\((a.toNat:Nat):Int) < 256:=by have:=a.toNat_lt;omega
   show (if _ then _ else _)=_
   rw [aj h1];have e:(s.map λb=>GV.i .u8 b.toNat)=bK s:=rfl;rw [e,ih];simp
theorem aqX (l:List aC) (hok:cu l) (hlen:l.length<=1000000) (hw:wL l<=1000000000000) (hc:iH 0 0 l=0):TT.lim 86 [.l (aA l)]=some (if 65536 < (bP l).length then [.s [],.i .i64 4] else [.s (bP l),.i .i64 0]):=by
 have ty:=NP (bV l+1) l (by omega) hok 0 0 hc (by omega);have k1:=Ol l hok hlen;rw [hc] at k1;have k2:=Xl (bV l+1) l (by omega) hok ty hlen hw;have k3:=aeZ (bV l+1) l (by omega) hok ty hlen [] (by simpa using hw);have e0:bK []=[]:=rfl;rw [e0,dA] at k3;have hfl:=Ho (bV l+1) l (by omega) hok ty hw;by_cases c:65536 < (bP l).length
 ·have c':(65536:Int) < (bP l).length:=by omega
  rw [aj c];refine aY rfl rfl ?_ rfl;simp [k1,k2,c,c']
 ·have c':¬ (65536:Int) < (bP l).length:=by omega
  have hb:=afO (bP l);have hl8:(bK (bP l)).length=(bP l).length:=by simp [bK]
  have c2:(bK (bP l)).length<=281474976710656:=by omega
  have c3:(0:Int)<=(bP l).length/\((bP l).length:Int)<=281474976710656/\((bP l).length:Int)<=1152921504606846976:=by omega
  rw [ah c];clear hok hw hc ty hfl;generalize bP l=F at *;generalize aA l=G at *;generalize bK F=BF at *;refine aY rfl rfl ?_ rfl;simp [k1,k2,k3,c,c',hb,c2,c3,GV.fJ]
theorem aek (f:aC):Fv (mP f)=f.tag:=by
 cases f;simp only [mP,aC.tag];rfl
theorem aiQ (l:List aC):(aA l).all isTagged=true:=by
 rw [yD,List.all_eq_true];intro g hg;obtain ⟨f,_,rfl⟩:=mF.1 hg;cases f;simp only [mP];rfl
theorem aqc {a b:List aC} (h:a.Perm b):bV a=bV b:=by
 induction h with
 | nil=>rfl
 | cons x _ ih=>simp only [bV,ih]
 | swap x y l=>simp only [bV];omega
 | trans _ _ h1 h2=>rw [h1,h2]
theorem aqV {a b:List aC} (h:a.Perm b):wL a=wL b:=by
 induction h with
 | nil=>rfl
 | cons x _ ih=>simp only [wL,ih]
 | swap x y l=>simp only [wL];omega
 | trans _ _ h1 h2=>rw [h1,h2]
theorem aej:∀a b:List aC,bV (a++b)=bV a+bV b
 | [],b=>by simp [bV]
 | f::a,b=>by simp only [eG,bV,aej a b];omega
theorem aeR:∀a b:List aC,wL (a++b)=wL a+wL b
 | [],b=>by simp [wL]
 | f::a,b=>by simp only [eG,wL,aeR a b];omega
theorem Ou:∀ {l:List aC},(∀f∈l,nK f)->cu l
 | [],_=>by simp only [cu]
 | f::l,h=>by
   simp only [cu];exact ⟨h f (by simp),Ou λg hg=>h g (by simp [hg])⟩
theorem aiT {a b:List aC} (h:a.Perm b) (hb:cu b):cu a:=Ou λf hf=>BI hb f (h.mem_iff.1 hf)
theorem aiS {a b:List aC} (ha:cu a) (hb:cu b):cu (a++b):=Ou λf hf=>(lF.1 hf).elim (BI ha f) (BI hb f)
/-- Slices.SortFunc puts them as the document does. -/
theorem apo (l:List aC) (hn:(l.map aC.tag).Nodup):sH (aA l)=aA (H8 [] l):=by
 have hp:=Xm (aA l);have hs:=apn (aA l);rw [yD] at hp;obtain ⟨p,hp1,hp2⟩:=amA hp l rfl;rw [<- yD] at hp2;have hq:=UO l [] List.Pairwise.nil hn;rw [dA] at hq;have hsp:p.Pairwise (λa b=>a.tag<=b.tag):=by
  rw [afd];intro i j hi hj hij;have:=hs i j (mP p[i]) (mP p[j]) hij (by rw [hp2,jm,cO hi];rfl) (by rw [hp2,jm,cO hj];rfl);rwa [aek,aek] at this
 have e:=IZ p (H8 [] l) (hp1.trans hq.1.symm) hsp hq.2;rw [hp2,e,yD]
theorem adl (l:List aC) (hl:l.length<=10000000) (hp:l.Pairwise (λa b=>a.tag < b.tag)):∀m i:Nat,i+1+m=l.length->TT.lim 84 [.l (aA l),.i .i64 ((i:Int)+1)]=some [.i .i64 1]
 | 0,i,hi=>by
   have h:¬ ((i:Int)+1 < l.length):=by omega
   have hg:=kY l;refine aB rfl rfl ?_;simp [hg,h]
 | m+1,i,hi=>by
   have h:((i:Int)+1 < l.length):=by omega
   have hg:=kY l;have ih:=adl l hl hp m (i+1) (by omega);obtain ⟨t,y,n,s,k,g1,g2,g3,g4⟩:=BH (l:=l) (i:=i) (by omega);obtain ⟨t',y',n',s',k',g1',g2',g3',g4'⟩:=BH (l:=l) (i:=i+1) (by omega);have hlt:t < t':=by
    have:=afd.1 hp i (i+1) (by omega) (by omega) (by omega);have e1:l[i]=.mk t y n s k:=by have:=cO (l:=l) (i:=i) (by omega);rw [g1] at this;injection this with this;exact this.symm
    have e2:l[i+1]=.mk t' y' n' s' k':=by have:=cO (l:=l) (i:=i+1) (by omega);rw [g1'] at this;injection this with this;exact this.symm
    rw [e1,e2] at this;exact this
   have hne:¬ t'=t:=by omega
   have hcast:((i+1:Nat):Int)=(i:Int)+1:=by omega
   rw [hcast] at ih;have hw:=wrap64 (n:=(i:Int)+1+1) (by omega) (by omega);have hw2:=wrap64 (n:=(i:Int)+1 - 1) (by omega) (by omega);have hw3:(i:Int)+1 - 1=i:=by omega
   rw [hw3] at hw2;have hn0:(0:Int)<=(i:Int)+1:=by omega
   have ht:((i:Int)+1).toNat=i+1:=by omega
   have hi0:i < l.length:=by omega
   have gi:∀h:i < (aA l).length,(aA l)[i]=oD t y n s k:=λh=>by have:=cO h;rw [g2] at this;injection this with this;exact this.symm
   have gi':∀h:i+1 < (aA l).length,(aA l)[i+1]=oD t' y' n' s' k':=λh=>by have:=cO h;rw [g2'] at this;injection this with this;exact this.symm
   refine aB rfl rfl ?_;simp [gi,gi',hg,h,g2,g2',hne,hw,hw2,hw3,hn0,ht,hi0,ih]
theorem amX (a b:List aC) (oa:cu a) (ob:cu b) (la:a.length<=1000000) (lb:b.length<=1000000) (sa:bV a+bV b<=1000000) (ha:iH 0 0 a=0) (hb:iH 0 0 b=0) (hn:((a++b).map aC.tag).Nodup):TT.lim 82 [.l [.l (aA a),.l (aA b)]]=some [.l (aA (qZ a b)),.i .i64 0]:=by
 have k1:=Ol a oa la;have k2:=Ol b ob lb;rw [ha] at k1;rw [hb] at k2;have hab:=Ot a b;have l1:=kY a;have l2:=kY b;have o1:=aaF a;have o2:=aaF b;have hso:TT.lim 0 [.l (aA a++aA b)]=some [.l (aA (qZ a b))]:=by
  refine IG (Ds:=Ds) (f:=Lp) rfl ?_;have h1:(aA a++aA b).length<=281474976710656/\(aA a++aA b).all isTagged=true:=by
   rw [<- hab];exact ⟨by rw [kY,dS];omega,aiQ _⟩
  show (if (aA a++aA b).length<=281474976710656/\(aA a++aA b).all isTagged=true then some [GV.l (sH (aA a++aA b))] else none)=_
  rw [aj h1,<- hab,apo _ hn];rfl
 obtain ⟨mp,ms⟩:=Ij hn;have hml:(qZ a b).length=a.length+b.length:=by rw [mp.length_eq,dS]
 have hsl:(aA (qZ a b)).length=(aA a++aA b).length:=by rw [kY,hml,dS,l1,l2]
 have hcl:=Om (qZ a b) (by rw [aqc mp,aej];exact sa);have h1:TT.lim 84 [.l (aA (qZ a b)),.i .i64 1]=some [.i .i64 1]:=by
  rcases RU (qZ a b).length with h0 | h0
  ·have:qZ a b=[]:=jd h0
   rw [this];have fn:aA []=[]:=by simp only [aA]
   rw [fn];refine aB rfl rfl ?_;simp
  ·have:=adl (qZ a b) (by omega) ms ((qZ a b).length - 1) 0 (by omega)
   simpa using this
 have w0:IntKind.i64.wrap 1=1:=by decide
 have w1:IntKind.i64.wrap 2=2:=by decide
 have c1:2 * (aA a).length * 64<=281474976710656/\(aA a).length<=281474976710656:=by omega
 have c2:2 * ((aA a).length+(aA b).length) * 64<=281474976710656/\(aA a).length+(aA b).length<=281474976710656:=by omega
 clear hn mp ms hml ha hb oa ob sa hab l1 l2;generalize aA (qZ a b)=M at *;generalize aA a=A at *;generalize aA b=B at *;have a3:TT.lim 83 [.l (A++B),.l [.l A,.l B],.i .i64 2,.i .i64 2]=some [.i .i64 1,.l (A++B)]:=by
  refine aB rfl rfl ?_;simp
 have a2:TT.lim 83 [.l A,.l [.l A,.l B],.i .i64 2,.i .i64 1]=some [.i .i64 1,.l (A++B)]:=by
  refine aB rfl rfl ?_;simp [-List.all_eq_true,k2,w1,o2,c2,a3]
 have a1:TT.lim 83 [.l [],.l [.l A,.l B],.i .i64 2,.i .i64 0]=some [.i .i64 1,.l (A++B)]:=by
  refine aB rfl rfl ?_;simp [-List.all_eq_true,k1,w0,o1,c1,a2]
 rw [dS] at hsl;refine aY rfl rfl ?_ rfl;simp [a1,hso,hsl,h1,hcl]
def aX (r:Nat):Nat:=if r % 2=1 then (r / 2) ^^^ 3988292384 else r / 2
theorem iR (a b:Nat):aX (a ^^^ b)=aX a ^^^ aX b:=by
 unfold aX;have h2:(a ^^^ b) / 2=a / 2 ^^^ b / 2:=Nat.xor_div_two;have h1:(a ^^^ b) % 2=(a+b) % 2:=by
  have h:=Nat.xor_mod_two_eq_one (a:=a) (b:=b);generalize (a ^^^ b)=z at *;omega
 rw [h2,h1];have x1:∀u v:Nat,(u ^^^ 3988292384) ^^^ (v ^^^ 3988292384)=u ^^^ v:=λu v=>by
  rw [mG,Nat.xor_comm v,<- mG 3988292384,Nat.xor_self,Nat.zero_xor]
 rcases YA a with ha | ha<;>rcases YA b with hb | hb
 ·rw [ah (by omega),ah (by omega),ah (by omega)]
 ·rw [aj (by omega),ah (by omega),aj (by omega),mG]
 ·rw [aj (by omega),aj (by omega),ah (by omega),mG,mG,Nat.xor_comm (b / 2)]
 ·rw [ah (by omega),aj (by omega),aj (by omega),x1]
theorem jh (a:Nat):aX (2 * a+1)=a ^^^ 3988292384:=by
 unfold aX;rw [aj (by omega),show (2 * a+1) / 2=a by omega]
theorem jg (a:Nat):aX (2 * a)=a:=by
 unfold aX;rw [ah (by omega),show 2 * a / 2=a by omega]
def eX (r:Nat):Nat:=aX (aX (aX (aX r)))
theorem apy (q:Nat):eX (16 * q)=q ^^^ 0:=by
 have e0:aX (16 * q)=8 * q:=by rw [show 16 * q=2 * (8 * q) by omega];exact jg _
 have e1:aX (8 * q)=4 * q:=by rw [show 8 * q=2 * (4 * q) by omega];exact jg _
 have e2:aX (4 * q)=2 * q:=by rw [show 4 * q=2 * (2 * q) by omega];exact jg _
 have e3:aX (2 * q)=q:=by exact jg _
 unfold eX;rw [e0];rw [e1];rw [e2];rw [e3];rw [Nat.xor_zero]
theorem apz (q:Nat):eX (16 * q+1)=q ^^^ 498536548:=by
 have e0:aX (16 * q+1)=(8 * q) ^^^ 3988292384:=by rw [show 16 * q+1=2 * (8 * q)+1 by omega];exact jh _
 have e1:aX (8 * q)=4 * q:=by rw [show 8 * q=2 * (4 * q) by omega];exact jg _
 have e2:aX (4 * q)=2 * q:=by rw [show 4 * q=2 * (2 * q) by omega];exact jg _
 have e3:aX (2 * q)=q:=by exact jg _
 unfold eX;rw [e0];rw [iR,e1,show aX 3988292384=1994146192 by decide];rw [iR,e2,show aX 1994146192=997073096 by decide];rw [iR,e3,show aX 997073096=498536548 by decide]
theorem apG (q:Nat):eX (16 * q+2)=q ^^^ 997073096:=by
 have e0:aX (16 * q+2)=8 * q+1:=by rw [show 16 * q+2=2 * (8 * q+1) by omega];exact jg _
 have e1:aX (8 * q+1)=(4 * q) ^^^ 3988292384:=by rw [show 8 * q+1=2 * (4 * q)+1 by omega];exact jh _
 have e2:aX (4 * q)=2 * q:=by rw [show 4 * q=2 * (2 * q) by omega];exact jg _
 have e3:aX (2 * q)=q:=by exact jg _
 unfold eX;rw [e0];rw [e1];rw [iR,e2,show aX 3988292384=1994146192 by decide];rw [iR,e3,show aX 1994146192=997073096 by decide]
theorem apH (q:Nat):eX (16 * q+3)=q ^^^ 651767980:=by
 have e0:aX (16 * q+3)=(8 * q+1) ^^^ 3988292384:=by rw [show 16 * q+3=2 * (8 * q+1)+1 by omega];exact jh _
 have e1:aX (8 * q+1)=(4 * q) ^^^ 3988292384:=by rw [show 8 * q+1=2 * (4 * q)+1 by omega];exact jh _
 have e2:aX (4 * q)=2 * q:=by rw [show 4 * q=2 * (2 * q) by omega];exact jg _
 have e3:aX (2 * q)=q:=by exact jg _
 unfold eX;rw [e0];rw [iR,e1,show aX 3988292384=1994146192 by decide];rw [mG,show 3988292384 ^^^ 1994146192=2607071920 by decide];rw [iR,e2,show aX 2607071920=1303535960 by decide];rw [iR,e3,show aX 1303535960=651767980 by decide]
theorem apI (q:Nat):eX (16 * q+4)=q ^^^ 1994146192:=by
 have e0:aX (16 * q+4)=8 * q+2:=by rw [show 16 * q+4=2 * (8 * q+2) by omega];exact jg _
 have e1:aX (8 * q+2)=4 * q+1:=by rw [show 8 * q+2=2 * (4 * q+1) by omega];exact jg _
 have e2:aX (4 * q+1)=(2 * q) ^^^ 3988292384:=by rw [show 4 * q+1=2 * (2 * q)+1 by omega];exact jh _
 have e3:aX (2 * q)=q:=by exact jg _
 unfold eX;rw [e0];rw [e1];rw [e2];rw [iR,e3,show aX 3988292384=1994146192 by decide]
theorem apJ (q:Nat):eX (16 * q+5)=q ^^^ 1802195444:=by
 have e0:aX (16 * q+5)=(8 * q+2) ^^^ 3988292384:=by rw [show 16 * q+5=2 * (8 * q+2)+1 by omega];exact jh _
 have e1:aX (8 * q+2)=4 * q+1:=by rw [show 8 * q+2=2 * (4 * q+1) by omega];exact jg _
 have e2:aX (4 * q+1)=(2 * q) ^^^ 3988292384:=by rw [show 4 * q+1=2 * (2 * q)+1 by omega];exact jh _
 have e3:aX (2 * q)=q:=by exact jg _
 unfold eX;rw [e0];rw [iR,e1,show aX 3988292384=1994146192 by decide];rw [iR,e2,show aX 1994146192=997073096 by decide];rw [mG,show 3988292384 ^^^ 997073096=3604390888 by decide];rw [iR,e3,show aX 3604390888=1802195444 by decide]
theorem apK (q:Nat):eX (16 * q+6)=q ^^^ 1303535960:=by
 have e0:aX (16 * q+6)=8 * q+3:=by rw [show 16 * q+6=2 * (8 * q+3) by omega];exact jg _
 have e1:aX (8 * q+3)=(4 * q+1) ^^^ 3988292384:=by rw [show 8 * q+3=2 * (4 * q+1)+1 by omega];exact jh _
 have e2:aX (4 * q+1)=(2 * q) ^^^ 3988292384:=by rw [show 4 * q+1=2 * (2 * q)+1 by omega];exact jh _
 have e3:aX (2 * q)=q:=by exact jg _
 unfold eX;rw [e0];rw [e1];rw [iR,e2,show aX 3988292384=1994146192 by decide];rw [mG,show 3988292384 ^^^ 1994146192=2607071920 by decide];rw [iR,e3,show aX 2607071920=1303535960 by decide]
theorem apL (q:Nat):eX (16 * q+7)=q ^^^ 1342533948:=by
 have e0:aX (16 * q+7)=(8 * q+3) ^^^ 3988292384:=by rw [show 16 * q+7=2 * (8 * q+3)+1 by omega];exact jh _
 have e1:aX (8 * q+3)=(4 * q+1) ^^^ 3988292384:=by rw [show 8 * q+3=2 * (4 * q+1)+1 by omega];exact jh _
 have e2:aX (4 * q+1)=(2 * q) ^^^ 3988292384:=by rw [show 4 * q+1=2 * (2 * q)+1 by omega];exact jh _
 have e3:aX (2 * q)=q:=by exact jg _
 unfold eX;rw [e0];rw [iR,e1,show aX 3988292384=1994146192 by decide];rw [mG,show 3988292384 ^^^ 1994146192=2607071920 by decide];rw [iR,e2,show aX 2607071920=1303535960 by decide];rw [mG,show 3988292384 ^^^ 1303535960=2685067896 by decide];rw [iR,e3,show aX 2685067896=1342533948 by decide]
theorem apM (q:Nat):eX (16 * q+8)=q ^^^ 3988292384:=by
 have e0:aX (16 * q+8)=8 * q+4:=by rw [show 16 * q+8=2 * (8 * q+4) by omega];exact jg _
 have e1:aX (8 * q+4)=4 * q+2:=by rw [show 8 * q+4=2 * (4 * q+2) by omega];exact jg _
 have e2:aX (4 * q+2)=2 * q+1:=by rw [show 4 * q+2=2 * (2 * q+1) by omega];exact jg _
 have e3:aX (2 * q+1)=q ^^^ 3988292384:=by exact jh _
 unfold eX;rw [e0];rw [e1];rw [e2];rw [e3]
theorem apN (q:Nat):eX (16 * q+9)=q ^^^ 4027552580:=by
 have e0:aX (16 * q+9)=(8 * q+4) ^^^ 3988292384:=by rw [show 16 * q+9=2 * (8 * q+4)+1 by omega];exact jh _
 have e1:aX (8 * q+4)=4 * q+2:=by rw [show 8 * q+4=2 * (4 * q+2) by omega];exact jg _
 have e2:aX (4 * q+2)=2 * q+1:=by rw [show 4 * q+2=2 * (2 * q+1) by omega];exact jg _
 have e3:aX (2 * q+1)=q ^^^ 3988292384:=by exact jh _
 unfold eX;rw [e0];rw [iR,e1,show aX 3988292384=1994146192 by decide];rw [iR,e2,show aX 1994146192=997073096 by decide];rw [iR,e3,show aX 997073096=498536548 by decide];rw [mG,show 3988292384 ^^^ 498536548=4027552580 by decide]
theorem apA (q:Nat):eX (16 * q+10)=q ^^^ 3604390888:=by
 have e0:aX (16 * q+10)=8 * q+5:=by rw [show 16 * q+10=2 * (8 * q+5) by omega];exact jg _
 have e1:aX (8 * q+5)=(4 * q+2) ^^^ 3988292384:=by rw [show 8 * q+5=2 * (4 * q+2)+1 by omega];exact jh _
 have e2:aX (4 * q+2)=2 * q+1:=by rw [show 4 * q+2=2 * (2 * q+1) by omega];exact jg _
 have e3:aX (2 * q+1)=q ^^^ 3988292384:=by exact jh _
 unfold eX;rw [e0];rw [e1];rw [iR,e2,show aX 3988292384=1994146192 by decide];rw [iR,e3,show aX 1994146192=997073096 by decide];rw [mG,show 3988292384 ^^^ 997073096=3604390888 by decide]
theorem apB (q:Nat):eX (16 * q+11)=q ^^^ 3412177804:=by
 have e0:aX (16 * q+11)=(8 * q+5) ^^^ 3988292384:=by rw [show 16 * q+11=2 * (8 * q+5)+1 by omega];exact jh _
 have e1:aX (8 * q+5)=(4 * q+2) ^^^ 3988292384:=by rw [show 8 * q+5=2 * (4 * q+2)+1 by omega];exact jh _
 have e2:aX (4 * q+2)=2 * q+1:=by rw [show 4 * q+2=2 * (2 * q+1) by omega];exact jg _
 have e3:aX (2 * q+1)=q ^^^ 3988292384:=by exact jh _
 unfold eX;rw [e0];rw [iR,e1,show aX 3988292384=1994146192 by decide];rw [mG,show 3988292384 ^^^ 1994146192=2607071920 by decide];rw [iR,e2,show aX 2607071920=1303535960 by decide];rw [iR,e3,show aX 1303535960=651767980 by decide];rw [mG,show 3988292384 ^^^ 651767980=3412177804 by decide]
theorem apC (q:Nat):eX (16 * q+12)=q ^^^ 2607071920:=by
 have e0:aX (16 * q+12)=8 * q+6:=by rw [show 16 * q+12=2 * (8 * q+6) by omega];exact jg _
 have e1:aX (8 * q+6)=4 * q+3:=by rw [show 8 * q+6=2 * (4 * q+3) by omega];exact jg _
 have e2:aX (4 * q+3)=(2 * q+1) ^^^ 3988292384:=by rw [show 4 * q+3=2 * (2 * q+1)+1 by omega];exact jh _
 have e3:aX (2 * q+1)=q ^^^ 3988292384:=by exact jh _
 unfold eX;rw [e0];rw [e1];rw [e2];rw [iR,e3,show aX 3988292384=1994146192 by decide];rw [mG,show 3988292384 ^^^ 1994146192=2607071920 by decide]
theorem apD (q:Nat):eX (16 * q+13)=q ^^^ 2262029012:=by
 have e0:aX (16 * q+13)=(8 * q+6) ^^^ 3988292384:=by rw [show 16 * q+13=2 * (8 * q+6)+1 by omega];exact jh _
 have e1:aX (8 * q+6)=4 * q+3:=by rw [show 8 * q+6=2 * (4 * q+3) by omega];exact jg _
 have e2:aX (4 * q+3)=(2 * q+1) ^^^ 3988292384:=by rw [show 4 * q+3=2 * (2 * q+1)+1 by omega];exact jh _
 have e3:aX (2 * q+1)=q ^^^ 3988292384:=by exact jh _
 unfold eX;rw [e0];rw [iR,e1,show aX 3988292384=1994146192 by decide];rw [iR,e2,show aX 1994146192=997073096 by decide];rw [mG,show 3988292384 ^^^ 997073096=3604390888 by decide];rw [iR,e3,show aX 3604390888=1802195444 by decide];rw [mG,show 3988292384 ^^^ 1802195444=2262029012 by decide]
theorem apE (q:Nat):eX (16 * q+14)=q ^^^ 2685067896:=by
 have e0:aX (16 * q+14)=8 * q+7:=by rw [show 16 * q+14=2 * (8 * q+7) by omega];exact jg _
 have e1:aX (8 * q+7)=(4 * q+3) ^^^ 3988292384:=by rw [show 8 * q+7=2 * (4 * q+3)+1 by omega];exact jh _
 have e2:aX (4 * q+3)=(2 * q+1) ^^^ 3988292384:=by rw [show 4 * q+3=2 * (2 * q+1)+1 by omega];exact jh _
 have e3:aX (2 * q+1)=q ^^^ 3988292384:=by exact jh _
 unfold eX;rw [e0];rw [e1];rw [iR,e2,show aX 3988292384=1994146192 by decide];rw [mG,show 3988292384 ^^^ 1994146192=2607071920 by decide];rw [iR,e3,show aX 2607071920=1303535960 by decide];rw [mG,show 3988292384 ^^^ 1303535960=2685067896 by decide]
theorem apF (q:Nat):eX (16 * q+15)=q ^^^ 3183342108:=by
 have e0:aX (16 * q+15)=(8 * q+7) ^^^ 3988292384:=by rw [show 16 * q+15=2 * (8 * q+7)+1 by omega];exact jh _
 have e1:aX (8 * q+7)=(4 * q+3) ^^^ 3988292384:=by rw [show 8 * q+7=2 * (4 * q+3)+1 by omega];exact jh _
 have e2:aX (4 * q+3)=(2 * q+1) ^^^ 3988292384:=by rw [show 4 * q+3=2 * (2 * q+1)+1 by omega];exact jh _
 have e3:aX (2 * q+1)=q ^^^ 3988292384:=by exact jh _
 unfold eX;rw [e0];rw [iR,e1,show aX 3988292384=1994146192 by decide];rw [mG,show 3988292384 ^^^ 1994146192=2607071920 by decide];rw [iR,e2,show aX 2607071920=1303535960 by decide];rw [mG,show 3988292384 ^^^ 1303535960=2685067896 by decide];rw [iR,e3,show aX 2685067896=1342533948 by decide];rw [mG,show 3988292384 ^^^ 1342533948=3183342108 by decide]
def um (b:aK) (s:cZ):Option aC:=match placeOf s.name with
 | some p=>if (aP b p).1=0/\(aP b p).2=[] then none else some (.mk s.tag (bJ p) (aP b p).1 (aP b p).2 [])
 | none=>none
def jF (b:aK) (l:List cZ):List aC:=l.filterMap (um b)
theorem BQ (b:aK) (s:cZ) (l:List cZ):jF b (s::l)=(match um b s with | some f=>[f] | none=>[])++jF b l:=by
 unfold jF;rw [List.filterMap_cons];cases um b s<;>rfl
theorem acT {b:aK} {fl:List aC} (hM:ou b fl) (ls:List cZ) (hl:ls.length<=1000) (hls:∀s∈ls,placeOf s.name≠none/\s.use=XI s.name):∀ (m i:Nat) (acc:List aC),i+m=ls.length->acc.length+m<=2000->
 TT.lim 75 ([.l (aA acc),.l (ls.map eF),.i .i64 ls.length,.i .i64 i]++(fC b (aA fl)).cells)=some [.i .i64 0,.l (aA (acc++jF b (ls.drop i)))]
 | 0,i,acc,hi,ha=>by
   have h:¬ ((i:Int) < ls.length):=by omega
   have e:ls.drop i=[]:=gJ (by omega);rw [e];have:jF b []=[]:=rfl;rw [this,mD,dX];simp only [eG,dA];refine aB rfl rfl ?_;simp [h]
 | m+1,i,acc,hi,ha=>by
   have hlt:i < ls.length:=by omega
   have h:((i:Int) < ls.length):=by omega
   obtain ⟨p,v1⟩:∃p,placeOf ls[i].name=some p:=by
    cases e:placeOf ls[i].name with
    | some p=>exact ⟨p,rfl⟩
    | none=>exact absurd e (hls _ (jo hlt)).1
   have v2:=alP hM v1;have hdr:ls.drop i=ls[i]::ls.drop (i+1):=jc hlt;have hat:(ls.map eF)[i]? = some (eF ls[i]):=by rw [jm,cO hlt];rfl
   have hcast:((i+1:Nat):Int)=(i:Int)+1:=by omega
   have hw:=wrap64 (n:=(i:Int)+1) (by omega) (by omega);rw [hdr,BQ];have hk:um b ls[i]=if (aP b p).1=0/\(aP b p).2=[] then none else some (.mk ls[i].tag (bJ p) (aP b p).1 (aP b p).2 []):=by unfold um;rw [v1]
   rw [hk];have ih:=acT hM ls hl hls m (i+1);generalize ls[i]=s at *;clear hk hdr v1;have la:=kY acc;have fn:aA []=[]:=by simp only [aA]
   have hel:(oD s.tag (bJ p) (aP b p).1 (aP b p).2 []).fJ 5=true:=rfl;have hfe:GV.g [.i .u64 s.tag,.i .i64 (bJ p),.i .u64 (aP b p).1,.s (aP b p).2,.l []]=oD s.tag (bJ p) (aP b p).1 (aP b p).2 []:=by unfold oD;rw [fn]
   have c1:2 * ((aA acc).length+1) * 64<=281474976710656/\(aA acc).length+1<=281474976710656:=by omega
   by_cases hz:(aP b p).1=0/\(aP b p).2=[]
   ·rw [aj hz]
    have ih:=ih acc (by omega) (by omega);rw [dX,hcast] at ih;rw [dX];simp only [eG,dA] at ih ⊢;clear hel hfe c1 la;obtain ⟨z1,z2⟩:=hz;rw [z1,z2] at v2;generalize aA acc=A at *;generalize aA fl=r at *;generalize ls.map eF=SP at *;generalize bJ p=ty at *;refine aB rfl rfl ?_;simp [h,hat,kQ,v2,hw,ih]
   ·rw [ah hz]
    have ih:=ih (acc++[.mk s.tag (bJ p) (aP b p).1 (aP b p).2 []]) (by omega) (by rw [dS,AO];omega);have hfa:aA (acc++[.mk s.tag (bJ p) (aP b p).1 (aP b p).2 []])=aA acc++[oD s.tag (bJ p) (aP b p).1 (aP b p).2 []]:=by rw [Ot];simp only [aA,mP];rfl
    rw [dX,hcast,hfa,List.append_assoc] at ih;rw [dX];simp only [eG,dA] at ih ⊢;generalize hR:aA (acc++.mk s.tag (bJ p) (aP b p).1 (aP b p).2 []::jF b (ls.drop (i+1)))=R at *;clear hR hfa la;generalize oD s.tag (bJ p) (aP b p).1 (aP b p).2 []=E at *;generalize aA acc=A at *;generalize aA fl=r at *;generalize ls.map eF=SP at *;generalize bJ p=ty at *;generalize aP b p=vv at *;obtain ⟨n,t⟩:=vv;simp only at *;by_cases hn:n=0
    ·have ht:¬ t=[]:=λe=>hz ⟨hn,e⟩
     subst hn;refine aB rfl rfl ?_;simp [h,hat,kQ,v2,ht,hfe,hel,c1,hw,ih]
    ·refine aB rfl rfl ?_
     simp [h,hat,kQ,v2,hn,hfe,hel,c1,hw,ih]
theorem DV:∀ (l:List aC) (w:Nat) (a:Int),iH w a l=0->(∀f∈l,f.tag≠0/\f.tag<=4294967296/\vZ w f=0/\a < f.tag)/\l.Pairwise (λx y=>x.tag < y.tag)
 | [],w,a,_=>⟨by simp,List.Pairwise.nil⟩
 | f::l,w,a,h=>by
   unfold iH at h;by_cases h1:f.tag=0
   ·rw [aj h1] at h;exact absurd h (by decide)
   rw [ah h1] at h;by_cases h2:4294967296 < f.tag
   ·rw [aj h2] at h;exact absurd h (by decide)
   rw [ah h2] at h;by_cases h3:f.tag<=a
   ·rw [aj h3] at h;exact absurd h (by decide)
   rw [ah h3] at h;by_cases h4:vZ w f=0;rotate_left
   ·rw [aj h4] at h;exact absurd h h4
   rw [ah (λe=>e h4)] at h;obtain ⟨i1,i2⟩:=DV l w f.tag h;refine ⟨λg hg=>?_,pV.2 ⟨λg hg=>(i1 g hg).2.2.2,i2⟩⟩;rcases dh.1 hg with rfl | hg
   ·exact ⟨h1,by omega,h4,by omega⟩
   ·obtain ⟨q1,q2,q3,q4⟩:=i1 g hg
    exact ⟨q1,q2,q3,by omega⟩
theorem NM:∀ (l:List aC) (w:Nat) (a:Int),(∀f∈l,f.tag≠0/\f.tag<=4294967296/\vZ w f=0/\a < f.tag)->l.Pairwise (λx y=>x.tag < y.tag)->iH w a l=0
 | [],w,a,_,_=>by unfold iH;rfl
 | f::l,w,a,h,hp=>by
   obtain ⟨q1,q2,q3,q4⟩:=h f (by simp);rw [pV] at hp;unfold iH;rw [ah q1,ah (by omega),ah (by omega),ah (λe=>e q3)];refine NM l w f.tag (λg hg=>?_) hp.2;obtain ⟨r1,r2,r3,r4⟩:=h g (by simp [hg]);exact ⟨r1,r2,r3,hp.1 g hg⟩
theorem apt (k:Int):(lq k).Pairwise (λs t=>s.tag < t.tag)/\∀s∈lq k,1<=s.tag/\s.tag<=5:=by
 unfold lq;repeat' split
 all_goals first | (unfold sp1;decide) | (unfold sp2;decide) | (unfold qB;decide) | (unfold yP;decide) | (unfold qC;decide) | (unfold qE;decide) | (unfold yQ;decide) | (unfold yR;decide) | exact ⟨List.Pairwise.nil,λs hs=>by cases hs⟩
theorem yF (k v:Int):(aH k v).Pairwise (λs t=>s.tag < t.tag)/\∀s∈aH k v,1<=s.tag/\s.tag<=5:=by
 obtain ⟨h1,h2⟩:=apt k;exact ⟨h1.sublist Md,λs hs=>h2 s (qJ.1 hs).1⟩
theorem KH {b:aK} {s:cZ} {f:aC} (h:um b s=some f):∃p,placeOf s.name=some p/\f=.mk s.tag (bJ p) (aP b p).1 (aP b p).2 []/\¬ ((aP b p).1=0/\(aP b p).2=[]):=by
 unfold um at h;cases hp:placeOf s.name with
 | none=>rw [hp] at h;cases h
 | some p=>
   rw [hp] at h;simp only at h;by_cases hz:(aP b p).1=0/\(aP b p).2=[]
   ·rw [aj hz] at h;cases h
   ·rw [ah hz] at h
    injection h with h
    exact ⟨p,rfl,h.symm,hz⟩
theorem Ic {b:aK} {l:List cZ} {f:aC} (h:f∈jF b l):∃s∈l,∃p,placeOf s.name=some p/\f=.mk s.tag (bJ p) (aP b p).1 (aP b p).2 []/\¬ ((aP b p).1=0/\(aP b p).2=[]):=by
 unfold jF at h;obtain ⟨s,hs,hf⟩:=Yo.1 h;exact ⟨s,hs,KH hf⟩
theorem KI (b:aK):∀ (l:List cZ),l.Pairwise (λs t=>s.tag < t.tag)->(jF b l).Pairwise (λx y=>x.tag < y.tag)
 | [],_=>List.Pairwise.nil
 | s::l,h=>by
   rw [pV] at h;rw [BQ];have ih:=KI b l h.2;cases hk:um b s with
   | none=>exact ih
   | some f=>
     obtain ⟨p, -,rfl, -⟩:=KH hk;refine pV.2 ⟨λg hg=>?_,ih⟩;obtain ⟨s',hs',p', -,rfl, -⟩:=Ic hg;exact h.1 s' hs'
theorem aqF (b:aK) (p:Pl):(bJ p=0/\(aP b p).2=[])\/(bJ p=1/\(aP b p).1=0):=by
 cases p<;>simp [bJ,aP]
theorem U2 (b:aK) (k v:Int):iH 0 0 (jF b (aH k v))=0:=by
 obtain ⟨h1,h2⟩:=yF k v;refine NM _ 0 0 (λf hf=>?_) (KI b _ h1);obtain ⟨s,hs,p, -,rfl, -⟩:=Ic hf;have:=h2 s hs;refine ⟨by show s.tag≠0;omega,by show s.tag<=_;omega, ?_,by show 0 < s.tag;omega⟩;unfold vZ;rcases aqF b p with ⟨q1,q2⟩ | ⟨q1,q2⟩
 ·rw [q1,q2];simp
 ·rw [q1,q2];simp
def Short (b:aK):Prop:=b.name.length<=600/\b.region.length<=600/\b.note.length<=600
theorem aeK {b:aK} {fl:List aC} (h:ou b fl) (hw:Short b) (p:Pl):(0<=(aP b p).1/\(aP b p).1 < 18446744073709551616)/\(aP b p).2.length<=100000000:=by
 have q:=h.body;obtain ⟨w1,w2,w3⟩:=hw;cases p with
 | rem=>
   have hr:=q.remaining;exact ⟨by simp only [aP];unfold zz;split<;>omega,by simp [aP]⟩
 | allow=>refine ⟨?_,by simp [aP]⟩;simp only [aP];split<;>omega
 | name=>exact ⟨by simp [aP],by simp only [aP];omega⟩
 | region=>exact ⟨by simp [aP],by simp only [aP];omega⟩
 | note=>exact ⟨by simp [aP],by simp only [aP];omega⟩
 | d=>
   refine ⟨by simp [aP], ?_⟩;simp only [aP];have:=KG h.d;split
   ·simp
   ·omega
 | t=>
   refine ⟨by simp [aP], ?_⟩;simp only [aP];have:=acO b.t h.t;split
   ·simp
   ·unfold yM
    split
    ·simp
    ·simp only;omega
 | num k=>
   refine ⟨?_,by simp [aP]⟩;simp only [aP];unfold jH;split<;>first | exact q.id | exact q.min | exact q.max | exact q.chosen | exact q.flags | exact q.cost | exact q.priority | exact q.deadline | exact q.retry | exact q.epoch | exact q.base | exact q.digest | exact q.lag | exact q.code | exact q.want
theorem abu {b:aK} {fl:List aC} (h:ou b fl) (hw:Short b) (k v:Int):cu (jF b (aH k v)):=Ou λf hf=>by
 obtain ⟨s,hs,p, -,rfl, -⟩:=Ic hf;have ht:=(yF k v).2 s hs;have hv:=aeK h hw p;have hy:0<=bJ p/\bJ p<=1:=by cases p<;>simp [bJ]
 simp only [nK,cu];refine ⟨⟨?_, ?_, ?_, ?_,hv.1.1,hv.1.2,hv.2, ?_⟩,trivial⟩;all_goals first | omega | simp
theorem abt (b:aK) (k v:Int):(jF b (aH k v)).length<=8:=iV (List.length_filterMap_le _ _) (BR k v)
theorem abv (b:aK):∀l:List cZ,bV (jF b l)<=2 * l.length
 | []=>by simp [jF,bV]
 | s::l=>by
   rw [BQ];have ih:=abv b l;cases hk:um b s with
   | none=>simp only [dA,iT];omega
   | some f=>
     obtain ⟨p, -,rfl, -⟩:=KH hk;simp only [eG,dA,bV,pz,iT];omega
theorem abw {b:aK} {fl:List aC} (h:ou b fl) (hw:Short b):∀l:List cZ,wL (jF b l)<=100000040 * l.length
 | []=>by simp [jF,wL]
 | s::l=>by
   rw [BQ];have ih:=abw h hw l;cases hk:um b s with
   | none=>simp only [dA,iT];omega
   | some f=>
     obtain ⟨p, -,rfl, -⟩:=KH hk;have hv:=(aeK h hw p).2;simp only [eG,dA,wL,wF,iT];omega
theorem Oz:∀ (n:Nat) (l:List One) (deep:Int),(∀x∈l,x.text.length<=300)->wL (fE n l deep).1+340 * (fE n l deep).2.length<=340 * l.length
 | 0,l,deep,_=>by simp [fE,wL]
 | n+1,[],deep,_=>by simp [fE,wL]
 | n+1,x::l,deep,h=>by
   have hx:=h x (by simp);have hl:∀y∈l,y.text.length<=300:=λy hy=>h y (by simp [hy]);simp only [fE];split
   ·by_cases hd:x.deep=255
    ·rw [aj hd]
     have h1:=Oz n l deep hl;simp only [wL,wF,iT];omega
    ·rw [ah hd]
     have h1:=Oz n l (x.deep+1) hl;obtain ⟨k,hk⟩:=(D7 n l (x.deep+1)).2;have h2:=Oz n (fE n l (x.deep+1)).2 deep (λy hy=>hl y (by rw [hk] at hy;exact AP hy));simp only [wL,wF,iT];omega
   ·simp [wL]
theorem ak6 (l:List One) (hf:tX l=true):wL (rX l)<=20400:=by
 unfold tX at hf;rw [aI,decide_eq_true_iff,List.all_eq_true] at hf;have:=Oz (l.length+1) l 0 λx hx=>by simpa using hf.1 x hx
 unfold rX;omega
/-- What is needed for a message that is written. -/
structure zq (b:aK) (fl:List aC):Prop where
 msg:ou b fl
 short:Short b
 sz:bV fl<=900000
 w:wL fl<=2000000000
theorem zF {b:aK} {fl:List aC} {v:Int} (h:fZ b fl v=0):1<=v/\v<=3/\aH b.kind v≠[]/\iH 0 0 fl=0/\∀f∈fl,hasTag (aH b.kind v) f.tag=false:=by
 unfold fZ at h;by_cases h1:v < 1
 ·rw [aj h1] at h;exact absurd h (by decide)
 rw [ah h1] at h;by_cases h2:3 < v
 ·rw [aj h2] at h;exact absurd h (by decide)
 rw [ah h2] at h;by_cases h3:aH b.kind v=[]
 ·rw [aj h3] at h;exact absurd h (by decide)
 rw [ah h3] at h;by_cases h4:gB.all (λn=>nM (aH b.kind v) n || ng b n)=false
 ·rw [aj h4] at h;exact absurd h (by decide)
 rw [ah h4] at h;by_cases h5:lX b (aH b.kind v)≠0
 ·rw [aj h5] at h;exact absurd h h5
 rw [ah h5] at h;by_cases h6:tK b≠0
 ·rw [aj h6] at h;exact absurd h h6
 rw [ah h6] at h;unfold Fa at h;by_cases h7:iH 0 0 fl≠0
 ·rw [aj h7] at h;exact absurd h h7
 rw [ah h7] at h;by_cases h8:fl.any (λf=>hasTag (aH b.kind v) f.tag)=true
 ·rw [aj h8] at h;exact absurd h (by decide)
 refine ⟨by omega,by omega,h3,by simpa using h7,λf hf=>?_⟩;cases e:hasTag (aH b.kind v) f.tag with
 | false=>rfl
 | true=>exact absurd (List.any_eq_true.2 ⟨f,hf,e⟩) h8
theorem Gp {b:aK} {fl:List aC} {v:Int} (h:fZ b fl v=0):((jF b (aH b.kind v)++fl).map aC.tag).Nodup:=by
 obtain ⟨-, -, -,h1,h2⟩:=zF h;have p1:=KI b _ (yF b.kind v).1;have p2:=(DV fl 0 0 h1).2;rw [xP,List.nodup_append];have nd:∀l:List aC,l.Pairwise (λx y=>x.tag < y.tag)->(l.map aC.tag).Nodup:=λl hl=>by
  unfold List.Nodup;rw [List.pairwise_map];exact hl.imp λh e=>by omega
 refine ⟨nd _ p1,nd _ p2,λx hx y hy e=>?_⟩;obtain ⟨f,hf,rfl⟩:=mF.1 hx;obtain ⟨g,hg,rfl⟩:=mF.1 hy;obtain ⟨s,hs,p, -,rfl, -⟩:=Ic hf;have:=h2 g hg;unfold hasTag at this;have h3:(aH b.kind v).any (λs=>decide (g.tag=s.tag))=true:=List.any_eq_true.2 ⟨s,hs,DY (show g.tag=s.tag from e.symm)⟩;rw [h3] at this;cases this
def qN (b:aK) (fl:List aC) (v:Int):List aC:=qZ (jF b (aH b.kind v)) fl
def Oo (b:aK) (fl:List aC) (v:Int):List aC×Int:=if fZ b fl v=0 then (qN b fl v,0) else ([],fZ b fl v)
structure Rt (l:List aC):Prop where
 ok:cu l
 len:l.length<=1000000
 w:wL l<=1000000000000
 chk:iH 0 0 l=0
theorem YR {b:aK} {fl:List aC} {v:Int} (hm:zq b fl) (h:fZ b fl v=0):Rt (qN b fl v):=by
 obtain ⟨-, -, -,h1,h2⟩:=zF h;obtain ⟨mp,ms⟩:=Ij (Gp h);have hl:fl.length<=900000:=by
  have:∀l:List aC,l.length<=bV l:=λl=>by
   induction l with
   | nil=>simp [bV]
   | cons f l ih=>simp only [iT,bV];omega
  have:=this fl;have:=hm.sz;omega
 have kl:=abt b b.kind v;have kw:=abw hm.msg hm.short (aH b.kind v);have k8:=BR b.kind v;have mw:=hm.w;refine ⟨aiT mp (aiS (abu hm.msg hm.short _ _) hm.msg.f8), ?_, ?_, ?_⟩
 ·unfold qN;rw [mp.length_eq,dS];omega
 ·unfold qN;rw [aqV mp,aeR]
  have:100000040 * (aH b.kind v).length<=100000040 * 8:=RX _ k8;omega
 ·refine NM _ 0 0 (λf hf=>?_) ms
  rcases lF.1 (mp.mem_iff.1 hf) with hf | hf
  ·exact (DV _ 0 0 (U2 b b.kind v)).1 f hf
  ·exact (DV _ 0 0 h1).1 f hf
theorem abp {k v:Int} (h:aH k v≠[]):1<=k/\k<=8:=by
 by_cases c:1<=k/\k<=8
 ·exact c
 ·exfalso
  apply h;unfold aH lq;rw [ah (by omega),ah (by omega),ah (by omega),ah (by omega),ah (by omega),ah (by omega),ah (by omega),ah (by omega)];rfl
theorem amB {b:aK} {fl:List aC} (hm:zq b fl) (v:Int):TT.lim 21 [fC b (aA fl),.i .i64 v]=some [.l (aA (Oo b fl v).1),.i .i64 (Oo b fl v).2]:=by
 have hc:=Vp b fl v hm.msg.body hm.msg.t.few hm.msg.f8 hm.msg.len;unfold Oo;by_cases c:fZ b fl v=0;rotate_left
 ·rw [ah c]
  have fn:aA []=[]:=by simp only [aA]
  rw [fn];generalize aA fl=r at *;generalize fZ b fl v=ck at *;refine aY rfl rfl ?_ rfl;simp [kQ,hc,c]
 rw [aj c];rw [c] at hc;obtain ⟨v1,v3,hne,h8, -⟩:=zF c;have hk:=O9 b.kind v v1 v3 (by
  have:=mt (KJ b.kind v v1 v3).2 hne;omega)
 have h0:=acT hm.msg (aH b.kind v) (by have:=BR b.kind v;omega) (akA b.kind v) (aH b.kind v).length 0 [] (by omega) (by have:=BR b.kind v;simp;omega);have fn:aA []=[]:=by simp only [aA]
 rw [eP,dA,dX,fn] at h0;simp only [eG,dA,zf] at h0;have hsz:=abv b (aH b.kind v);have k8:=BR b.kind v;have mo:=amX _ fl (abu hm.msg hm.short b.kind v) hm.msg.f8 (by have:=abt b b.kind v;omega) hm.msg.len (by have:=hm.sz;omega) (U2 b b.kind v) h8 (Gp c);have hal:(((aH b.kind v).map eF).length:Int)=((aH b.kind v).length:Int):=by rw [vO]
 unfold qN;generalize aA (qZ (jF b (aH b.kind v)) fl)=M at *;generalize aA (jF b (aH b.kind v))=KV at *;generalize (aH b.kind v).map eF=SP at *;generalize ((aH b.kind v).length:Int)=L at *;generalize aA fl=r at *;clear hsz k8 hne h8 c hm v1 v3;refine aY rfl rfl ?_ rfl;simp [kQ,hc,hk,hal,h0,mo]
/-- What is written, or why not. -/
def bytesV (b:aK) (fl:List aC) (v:Int):List UInt8:=aJ b.kind.toNat++bP (qN b fl v)
def lV (b:aK) (fl:List aC) (v:Int):List UInt8×Int:=if fZ b fl v=0 then (if 65536 < (bytesV b fl v).length then ([],4) else (bytesV b fl v,0)) else ([],fZ b fl v)
theorem P8 {b:aK} {fl:List aC} (hm:zq b fl) (v:Int):TT.lim 20 [fC b (aA fl),.i .i64 v]=some [.s (lV b fl v).1,.i .i64 (lV b fl v).2]:=by
 have hf:=amB hm v;unfold Oo at hf;unfold lV;by_cases c:fZ b fl v=0;rotate_left
 ·rw [ah c] at hf ⊢
  generalize aA fl=r at *;generalize fZ b fl v=ck at *;refine aY rfl rfl ?_ rfl;simp [kQ,hf,c]
 rw [aj c] at hf ⊢;have ao:=YR hm c;have hw:=aqX (qN b fl v) ao.ok ao.len ao.w ao.chk;obtain ⟨-, -,hne, -, -⟩:=zF c;obtain ⟨k1,k8⟩:=abp hne;have hp:=vk b.kind.toNat (by omega);have hpl:=lD (n:=b.kind.toNat) (by omega);rw [show ((b.kind.toNat:Nat):Int)=b.kind by omega] at hp;have wk:=jS (n:=b.kind) (by omega) (by omega);unfold bytesV;rw [dS];clear ao c hm hne;generalize qN b fl v=AF at *;generalize aJ b.kind.toNat=V at *;generalize aA fl=r at *;generalize aA AF=G at *;generalize bP AF=F at *;by_cases c1:65536 < F.length
 ·rw [aj c1] at hw
  rw [aj (by omega)];refine aY rfl rfl ?_ rfl;simp [kQ,hf,hw]
 ·rw [ah c1] at hw
  have c3:(V.length:Int)+F.length<=9223372036854775807:=by omega
  by_cases c2:65536 < V.length+F.length
  ·have c2':(65536:Int) < V.length+F.length:=by omega
   rw [aj c2];refine aY rfl rfl ?_ rfl;simp [kQ,hf,hw,wk,hp,c2',c3]
  ·have c2':¬ (65536:Int) < V.length+F.length:=by omega
   rw [ah c2];refine aY rfl rfl ?_ rfl;simp [kQ,hf,hw,wk,hp,c2',c3]
end S
end Go.Proofs.YtnlegpmfkopalaaGreatDoor
