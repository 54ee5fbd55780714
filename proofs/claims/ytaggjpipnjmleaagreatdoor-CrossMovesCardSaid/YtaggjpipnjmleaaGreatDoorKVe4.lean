/- What the trees compute: plain laws. -/
import Derived.Test.YtaggjpipnjmleaaGreatDoorKVe3
namespace Go.Proofs.YtaggjpipnjmleaaGreatDoor
open Go Go.aJ
set_option linter.unusedSimpArgs false
set_option linter.unusedVariables false
set_option maxRecDepth 100000
namespace V
theorem asO {n:Int} (hn:0<=n/\n < 18446744073709551616) : -9223372036854775808<=C9 n/\C9 n<=9223372036854775807:=by
 unfold C9;split<;>omega
theorem aeb {b:aU} {n:Int} {s:List UInt8} {p:Pl} {ty:Int} (hb:kG b) (hd:gZ b.d=true) (ht:rX b.t) (hn:0<=n/\n < 18446744073709551616) (hs:s.length<=100000000) (h:dY ty n s p=0):kG (setB b n s p)/\gZ (setB b n s p).d=true/\rX (setB b n s p).t:=by
 have hE:pz n s p=0:=by
  unfold dY at h;split at h
  ·split at h<;>split at h<;>first | exact h | exact absurd h (by decide)
  ·exact absurd h (by decide)
 cases p with
 | rem=>exact ⟨{ hb with remaining:=asO hn },hd,ht⟩
 | allow=>exact ⟨{ hb with },hd,ht⟩
 | name=>exact ⟨{ hb with name:=by show s.length<=_;omega },hd,ht⟩
 | region=>exact ⟨{ hb with region:=by show s.length<=_;omega },hd,ht⟩
 | note=>exact ⟨{ hb with note:=by show s.length<=_;omega },hd,ht⟩
 | d=>
   have hp:=aan (s:=s) hE hs;exact ⟨{ hb with d:=hp.ents },hp.few,ht⟩
 | t=>
   have hp:=(arX (s:=s) hs).1;exact ⟨{ hb with t:=hp.rows },hd,hp.good⟩
 | num k=>
   unfold setB;split<;>rename_i hk
   ·exact absurd hk (by simp)
   ·exact absurd hk (by simp)
   ·exact absurd hk (by simp)
   ·exact absurd hk (by simp)
   ·exact absurd hk (by simp)
   ·exact absurd hk (by simp)
   ·exact absurd hk (by simp)
   ·split<;>exact ⟨by constructor<;>first | exact hn | exact hb.kind | exact hb.id | exact hb.min | exact hb.max | exact hb.chosen | exact hb.flags | exact hb.cost | exact hb.priority | exact hb.deadline | exact hb.retry | exact hb.epoch | exact hb.base | exact hb.digest | exact hb.lag | exact hb.code | exact hb.want | exact hb.remaining | exact hb.name | exact hb.region | exact hb.note | exact hb.d | exact hb.t,hd,ht⟩
structure qB (b:aU) (fl:List aF):Prop where
 body:kG b
 d:gZ b.d=true
 t:rX b.t
 f8:dw fl
 len:fl.length<=1000000
theorem nY:qB fJ []:=⟨by constructor<;>simp [fJ,oJ,Rows],by simp [fJ,gZ],⟨by simp [fJ],by intro r hr;simp [fJ] at hr,by simp [fJ,Rows]⟩,by simp only [dw],by simp⟩
theorem aoE {b:aU} {l:List One} (hb:kG b) (hl:Ones l) (h:Gp b l=true):qB b (rC l)/\bQ (rC l)<=1000000/\sZ l=true:=by
 unfold Gp at h;simp only [aI] at h;obtain ⟨hok,hlen⟩:=ama l hl h.2.2.2.2.2;have h60:l.length<=60:=by
  have:=h.2.2.2.2.2;unfold sZ at this;rw [aI,decide_eq_true_iff] at this;exact this.2
 have hsz:=ach l;exact ⟨⟨hb,h.2.2.2.1,akt hb.t h.2.2.2.2.1,hok,hlen⟩,by omega,h.2.2.2.2.2⟩
theorem amr (b:aU) (r:List GV) (hb:kG b) (hd:gZ b.d=true) (hf:oK b.t) (n:List UInt8):(∃p,placeOf n=some p/\TT.lim 78 [bP b r,.s n]=some [.g [.i .u64 0,.i .i64 (bH p),.i .u64 (aS b p).1,.s (aS b p).2,.l []],.b true])\/
 (placeOf n=none/\TT.lim 78 [bP b r,.s n]=some [.g [.i .u64 0,.i .i64 0,.i .u64 0,.s [],.l []],.b false]):=by
 cases hp:placeOf n with
 | some p=>exact .inl ⟨p,rfl,acG b r hb (λ_=>hd) (λ_=>hf) hp⟩
 | none=>exact .inr ⟨rfl,acH b r hp⟩
theorem ams {b:aU} {fl:List aF} (h:qB b fl) {n:List UInt8} {p:Pl} (hp:placeOf n=some p):TT.lim 78 [bP b (au fl),.s n]=some [.g [.i .u64 0,.i .i64 (bH p),.i .u64 (aS b p).1,.s (aS b p).2,.l []],.b true]:=by
 rcases amr b (au fl) h.body h.d h.t.few n with ⟨q,hq,hv⟩ | ⟨hq, -⟩
 ·rw [hp] at hq
  injection hq with hq
  rw [hq];exact hv
 ·rw [hp] at hq;cases hq
theorem am9 (t:List Row) (ht:rX t):(tZ t).length<=90000000:=by
 have h:=Xc t [] (λr hr=>⟨ht.few r hr,(ht.rows.2 r hr).2⟩);have h3:=ht.len;have hv:(aW t.length).length<=20:=by
  have:=iO (n:=t.length) (by omega);omega
 unfold tZ;rw [dX];have:40000 * t.length<=40000 * 300:=Jc _ h3;omega
theorem acr (b:aU):∀ (l:List bW),kS b l=0->∀s∈l,qJ b s.name=0
 | [],_,s,hs=>by cases hs
 | x::l,h,s,hs=>by
   unfold kS at h;split at h
   ·rename_i h0
    rcases dO.1 hs with rfl | hs
    ·exact h0
    ·exact acr b l h s hs
   ·rename_i h0
    exact absurd h h0
mutual
def JW:aF->List UInt8
 | .mk t y n s k=>aW (4 * t+y).toNat++(if y=0 then aW n.toNat else if y=1 then aW s.length++s else aW (bM k).length++bM k)
def bM:List aF->List UInt8
 | []=>[]
 | f::l=>JW f++bM l
end
mutual
def wF:aF->Nat
 | .mk _ _ _ s k=>s.length+40+wL k
def wL:List aF->Nat
 | []=>0
 | f::l=>wF f+wL l
end
mutual
/-- Tags and types that may be. -/
def EX:aF->Prop
 | .mk t y n s k=>(1<=t/\t<=4294967296)/\((y=0/\s=[]/\k=[])\/(y=1/\n=0/\k=[])\/(y=2/\n=0/\s=[]))/\rU k
def rU:List aF->Prop
 | []=>True
 | f::l=>EX f/\rU l
end
theorem QU:∀ {l:List aF},rU l->∀f∈l,EX f
 | f::l,h,g,hg=>by
   simp only [rU] at h;rcases dO.1 hg with rfl | hg
   ·exact h.1
   ·exact QU h.2 g hg
theorem NH:∀ (N:Nat) (l:List aF),bQ l < N->dw l->∀w a,fZ w a l=0->0<=a->rU l
 | 0,l,h,_,_,_,_,_=>by omega
 | N+1,[],_,_,_,_,_,_=>by simp only [rU]
 | N+1,.mk t y n s k::l,hN,hok,w,a,h,ha=>by
   simp only [bQ,nX] at hN;simp only [dw,l9] at hok;unfold fZ at h;by_cases h1:(aF.mk t y n s k).tag=0
   ·rw [aj h1] at h;exact absurd h (by decide)
   rw [ah h1] at h;by_cases h2:4294967296 < (aF.mk t y n s k).tag
   ·rw [aj h2] at h;exact absurd h (by decide)
   rw [ah h2] at h;by_cases h3:(aF.mk t y n s k).tag<=a
   ·rw [aj h3] at h;exact absurd h (by decide)
   rw [ah h3] at h;by_cases h4:vT w (.mk t y n s k)=0;rotate_left
   ·rw [aj h4] at h;exact absurd h h4
   rw [ah (λe=>e h4)] at h;have h1:¬ t=0:=h1;have h2:¬ 4294967296 < t:=h2;have h3:¬ t<=a:=h3;simp only [rU,EX];refine ⟨⟨by omega, ?_, ?_⟩,NH N l (by omega) hok.2 w t h (by omega)⟩
   ·simp only [vT] at h4
    split at h4
    ·rename_i hy
     split at h4
     ·rename_i hc;exact .inl ⟨hy,hc⟩
     ·cases h4
    ·split at h4
     ·rename_i hy
      split at h4
      ·rename_i hc;exact .inr (.inl ⟨hy,hc⟩)
      ·cases h4
     ·split at h4
      ·rename_i hy
       split at h4
       ·rename_i hc;exact .inr (.inr ⟨hy,hc⟩)
       ·cases h4
      ·cases h4
   ·simp only [vT] at h4
    split at h4
    ·split at h4
     ·rename_i hc;rw [hc.2];simp only [rU]
     ·cases h4
    ·split at h4
     ·split at h4
      ·rename_i hc;rw [hc.2];simp only [rU]
      ·cases h4
     ·split at h4
      ·split at h4
       ·split at h4
        ·cases h4
        ·exact NH N k (by omega) hok.1.2 _ _ h4 (by omega)
       ·cases h4
      ·cases h4
theorem DX:∀ (N:Nat) (l:List aF),bQ l < N->dw l->rU l->wL l<=1000000000000->(bM l).length<=wL l
 | 0,l,h,_,_,_=>by omega
 | N+1,[],_,_,_,_=>by simp [bM]
 | N+1,.mk t y n s k::l,hN,hok,hty,hw=>by
   simp only [bQ,nX] at hN;simp only [dw,l9] at hok;simp only [rU,EX] at hty;simp only [wL,wF] at hw ⊢;have h1:=DX N l (by omega) hok.2 hty.2 (by omega);have h2:=DX N k (by omega) hok.1.2 hty.1.2.2 (by omega);simp only [bM,JW,dX];have v1:=iO (n:=(4 * t+y).toNat) (by rcases hty.1.2.1 with h | h | h<;>omega);have v2:=iO (n:=n.toNat) (by omega);have v3:=iO (n:=s.length) (by omega);have v4:=iO (n:=(bM k).length) (by omega);split
   ·omega
   ·split
    ·rw [dX];omega
    ·rw [dX];omega
theorem abd (t y:Int) (ht:1<=t/\t<=4294967296) (hy:0<=y/\y < 4):mQ .shl .u64 t 2=some (.i .u64 (4 * t))/\IntKind.u64.wrap y=y/\fU .or .u64 (4 * t) y=some (.i .u64 (4 * t+y)):=by
 have wu:∀y:Int,IntKind.u64.wrap y=y % 18446744073709551616:=λy=>by simp [IntKind.wrap,IntKind.signed,IntKind.bits]
 have hu:IntKind.u64.bits=64:=rfl;refine ⟨?_,by rw [wu];omega, ?_⟩
 ·have h2:mQ .shl .u64 t 2=some (.i .u64 (IntKind.u64.wrap (t * 2 ^ 2))):=rfl
  rw [h2,wu];congr 2;omega
 ·simp only [fU,wu,hu]
  obtain ⟨T,rfl⟩:∃T:Nat,t=(T:Int):=⟨t.toNat,by omega⟩
  obtain ⟨Y,rfl⟩:∃Y:Nat,y=(Y:Int):=⟨y.toNat,by omega⟩
  have e1:(BitVec.ofInt 64 (4 * (T:Int))).toNat=4 * T:=by rw [wM];omega
  have e2:(BitVec.ofInt 64 (Y:Int)).toNat=Y:=by rw [wM];omega
  have e3:4 * T ||| Y=4 * T+Y:=(afo (i:=2) (b:=Y) (by omega) T).symm;show some (GV.i IntKind.u64 (((BitVec.ofInt 64 (4 * (T:Int)) ||| BitVec.ofInt 64 (Y:Int)).toNat:Int) % 18446744073709551616))=_
  rw [BitVec.toNat_or,e1,e2,e3];congr 2;omega
theorem Uc {t y n:Int} {s:List UInt8} {k:List aF} (h:EX (.mk t y n s k)):1<=t/\t<=4294967296/\0<=y/\y < 3/\(y=0\/y=1\/y=2)/\rU k:=by
 simp only [EX] at h;rcases h.2.1 with h1 | h1 | h1<;>exact ⟨h.1.1,h.1.2,by omega,by omega,by omega,h.2.2⟩
theorem Xr:∀ (N:Nat) (l:List aF),bQ l < N->dw l->rU l->l.length<=1000000->wL l<=1000000000000->TT.lim 89 [.l (au l)]=some [.i .i64 (bM l).length]
 | 0,l,h,_,_,_,_=>by omega
 | N+1,l,hN,hok,hty,hlen,hw=>by
   have hl1:=iw l;have loop:∀m i,i+m=l.length->∀acc:Nat,acc+wL (l.drop i)<=1000000000000->TT.lim 90 [.l (au l),.i .i64 acc,.i .i64 l.length,.i .i64 i]=some [.i .i64 0,.i .i64 ((acc+(bM (l.drop i)).length:Nat):Int)]:=by
    intro m;induction m with
    | zero=>
      intro i hi acc hacc;have e1:l.drop i=[]:=dN (by omega);have h:¬ ((i:Int) < l.length):=by omega
      rw [e1];simp only [bM,uD,kV];refine aB rfl rfl ?_;simp [h]
    | succ m ih=>
      intro i hi acc hacc;obtain ⟨t,y,n,s,k,g1,g2,g3,g4⟩:=vU (l:=l) (i:=i) (by omega);have hf:=tq hok _ g4;have ht:=QU hty _ g4;simp only [l9] at hf;obtain ⟨t1,t2,y1,y2,y3,tk⟩:=Uc ht;have hs:=CW g4;simp only [nX] at hs;rw [g3] at hacc ⊢;simp only [wL,wF] at hacc;have hk:=Xr N k (by omega) hf.2 tk hf.1.2.2.2.2.2.2.2 (by omega);have hkl:=DX (bQ k+1) k (by omega) hf.2 tk (by omega);obtain ⟨b1,b2,b3⟩:=abd t y ⟨t1,t2⟩ ⟨y1,by omega⟩;have v1:=Lc (4 * t+y).toNat (by omega);have v2:=Lc n.toNat (by omega);have v3:=Lc s.length (by omega);have v4:=Lc (bM k).length (by omega);have z1:=EZ (n:=(4 * t+y).toNat) (by omega);have z2:=EZ (n:=n.toNat) (by omega);have z3:=EZ (n:=s.length) (by omega);have z4:=EZ (n:=(bM k).length) (by omega);rw [show (((4 * t+y).toNat:Nat):Int)=4 * t+y by omega] at v1;rw [show ((n.toNat:Nat):Int)=n by omega] at v2;have hcast:((i+1:Nat):Int)=(i:Int)+1:=by omega
      have hwr:=wrap64 (n:=(i:Int)+1) (by omega) (by omega);have h:((i:Int) < l.length):=by omega
      have ih':=λa ha=>ih (i+1) (by omega) a ha;simp only [hcast] at ih';have e1:(aW (4 * t+y).toNat).length=jV (4 * t+y).toNat:=rfl;have e2:(aW n.toNat).length=jV n.toNat:=rfl;have e3:(aW s.length).length=jV s.length:=rfl;have e4:(aW (bM k).length).length=jV (bM k).length:=rfl;have u3:=dF (n:=(s.length:Int)) (by omega) (by omega);have u4:=dF (n:=((bM k).length:Int)) (by omega) (by omega);simp only [bM,JW,dX];rw [e1];generalize jV (4 * t+y).toNat=A at *;have w1:=wrap64 (n:=(acc:Int)+A) (by omega) (by omega);rcases y3 with hy | hy | hy
      ·rw [aj hy,e2]
       generalize jV n.toNat=B at *;have w2:=wrap64 (n:=(acc:Int)+A+B) (by omega) (by omega);have kM:=ih' (acc+A+B) (by omega);rw [show ((acc+A+B:Nat):Int)=(acc:Int)+A+B by omega,show acc+A+B+(bM (l.drop (i+1))).length=acc+(A+B+(bM (l.drop (i+1))).length) by omega] at kM;have q0:(y=0)=True:=eq_true hy;clear hy;refine aB rfl rfl ?_;simp [h,g2,q0,b1,b2,b3,v1,v2,w1,w2,hwr,kM]
      ·rw [ah (by omega),aj hy,dX,e3]
       generalize jV s.length=B at *;have w2:=wrap64 (n:=(B:Int)+s.length) (by omega) (by omega);have w3:=wrap64 (n:=(acc:Int)+A+(B+s.length)) (by omega) (by omega);have kM:=ih' (acc+A+(B+s.length)) (by omega);rw [show ((acc+A+(B+s.length):Nat):Int)=(acc:Int)+A+(B+s.length) by omega,show acc+A+(B+s.length)+(bM (l.drop (i+1))).length=acc+(A+(B+s.length)+(bM (l.drop (i+1))).length) by omega] at kM;have q0:(y=0)=False:=eq_false (by omega);have q1:(y=1)=True:=eq_true hy;clear hy;refine aB rfl rfl ?_;simp [h,g2,q0,q1,b1,b2,b3,v1,v3,u3,w1,w2,w3,hwr,kM]
      ·rw [ah (by omega),ah (by omega),dX,e4]
       generalize jV (bM k).length=B at *;generalize (bM k).length=C at *;have w2:=wrap64 (n:=(B:Int)+C) (by omega) (by omega);have w3:=wrap64 (n:=(acc:Int)+A+(B+C)) (by omega) (by omega);have kM:=ih' (acc+A+(B+C)) (by omega);rw [show ((acc+A+(B+C):Nat):Int)=(acc:Int)+A+(B+C) by omega,show acc+A+(B+C)+(bM (l.drop (i+1))).length=acc+(A+(B+C)+(bM (l.drop (i+1))).length) by omega] at kM;have q0:(y=0)=False:=eq_false (by omega);have q1:(y=1)=False:=eq_false (by omega);have q2:(y=2)=True:=eq_true hy;clear hy;refine aB rfl rfl ?_;simp [h,g2,q0,q1,q2,b1,b2,b3,v1,hk,v4,u4,w1,w2,w3,hwr,kM]
   have h0:=loop l.length 0 (by omega) 0 (by rw [bY];omega);rw [bY,iV] at h0;have h0':TT.lim 90 [.l (au l),.i .i64 0,.i .i64 (au l).length,.i .i64 0]=some [.i .i64 0,.i .i64 ((bM l).length:Int)]:=by rw [hl1];exact h0
   rw [hl1] at h0';clear loop h0;refine aG rfl rfl ?_ rfl;simp [hl1,h0']
/-- The bytes for fields, put behind others. -/
theorem DC (a b:List UInt8):eP (a++b)=eP a++eP b:=by simp [eP]
theorem afc:∀ (N:Nat) (l:List aF),bQ l < N->dw l->rU l->l.length<=1000000->∀B:List UInt8,B.length+wL l<=1000000000000->TT.lim 91 [.l (eP B),.l (au l)]=some [.i .i64 0,.l (eP (B++bM l))]
 | 0,l,h,_,_,_,_,_=>by omega
 | N+1,l,hN,hok,hty,hlen,B,hB=>by
   have hl1:=iw l;have loop:∀m i,i+m=l.length->∀acc:List UInt8,acc.length+wL (l.drop i)<=1000000000000->TT.lim 92 [.l (eP acc),.l (au l),.i .i64 l.length,.i .i64 i]=some [.i .i64 0,.l (eP (acc++bM (l.drop i)))]:=by
    intro m;induction m with
    | zero=>
      intro i hi acc hacc;have e1:l.drop i=[]:=dN (by omega);have h:¬ ((i:Int) < l.length):=by omega
      rw [e1];simp only [bM,lq];refine aB rfl rfl ?_;simp [h]
    | succ m ih=>
      intro i hi acc hacc;obtain ⟨t,y,n,s,k,g1,g2,g3,g4⟩:=vU (l:=l) (i:=i) (by omega);have hf:=tq hok _ g4;have ht:=QU hty _ g4;simp only [l9] at hf;obtain ⟨t1,t2,y1,y2,y3,tk⟩:=Uc ht;have hs:=CW g4;simp only [nX] at hs;rw [g3] at hacc ⊢;simp only [wL,wF] at hacc;have hk:=Xr N k (by omega) hf.2 tk hf.1.2.2.2.2.2.2.2 (by omega);have hkl:=DX (bQ k+1) k (by omega) hf.2 tk (by omega);obtain ⟨b1,b2,b3⟩:=abd t y ⟨t1,t2⟩ ⟨y1,by omega⟩;have v1:=wC (4 * t+y).toNat (by omega);have v2:=wC n.toNat (by omega);have v3:=wC s.length (by omega);have v4:=wC (bM k).length (by omega);have z1:=iO (n:=(4 * t+y).toNat) (by omega);have z2:=iO (n:=n.toNat) (by omega);have z3:=iO (n:=s.length) (by omega);have z4:=iO (n:=(bM k).length) (by omega);rw [show (((4 * t+y).toNat:Nat):Int)=4 * t+y by omega] at v1;rw [show ((n.toNat:Nat):Int)=n by omega] at v2;have hcast:((i+1:Nat):Int)=(i:Int)+1:=by omega
      have hwr:=wrap64 (n:=(i:Int)+1) (by omega) (by omega);have h:((i:Int) < l.length):=by omega
      have ih':=λa ha=>ih (i+1) (by omega) a ha;simp only [hcast] at ih';have u3:=dF (n:=(s.length:Int)) (by omega) (by omega);have u4:=dF (n:=((bM k).length:Int)) (by omega) (by omega);have o8:∀z:List UInt8,(eP z).all (λg=>g.eU 1)=true:=λz=>by simp [eP,GV.eU]
      have l8:∀z:List UInt8,(eP z).length=z.length:=λz=>by simp [eP]
      simp only [bM,JW];rcases y3 with hy | hy | hy
      ·rw [aj hy]
       have kM:=ih' (acc++aW (4 * t+y).toNat++aW n.toNat) (by simp only [dX];omega);rw [show acc++aW (4 * t+y).toNat++aW n.toNat++bM (l.drop (i+1))=acc++(aW (4 * t+y).toNat++aW n.toNat++bM (l.drop (i+1))) by simp,DC,DC] at kM;generalize aW (4 * t+y).toNat=A at *;generalize aW n.toNat=C at *;have c1:2 * (acc.length+A.length)<=281474976710656/\acc.length+A.length<=281474976710656:=by omega
       have c2:2 * (acc.length+A.length+C.length)<=281474976710656/\acc.length+A.length+C.length<=281474976710656:=by omega
       have q0:(y=0)=True:=eq_true hy;clear hy;refine aB rfl rfl ?_;simp [-List.append_assoc,h,g2,q0,b1,b2,b3,v1,v2,hwr,kM,o8,l8,c1,c2]
      ·rw [ah (by omega),aj hy]
       have kM:=ih' (acc++aW (4 * t+y).toNat++aW s.length++s) (by simp only [dX];omega);rw [show acc++aW (4 * t+y).toNat++aW s.length++s++bM (l.drop (i+1))=acc++(aW (4 * t+y).toNat++(aW s.length++s)++bM (l.drop (i+1))) by simp,DC,DC,DC] at kM;generalize aW (4 * t+y).toNat=A at *;generalize aW s.length=C at *;have c1:2 * (acc.length+A.length)<=281474976710656/\acc.length+A.length<=281474976710656:=by omega
       have c2:2 * (acc.length+A.length+C.length)<=281474976710656/\acc.length+A.length+C.length<=281474976710656:=by omega
       have c3:2 * (acc.length+A.length+C.length+s.length)<=281474976710656/\acc.length+A.length+C.length+s.length<=281474976710656:=by omega
       have q0:(y=0)=False:=eq_false (by omega);have q1:(y=1)=True:=eq_true hy;clear hy;refine aB rfl rfl ?_;simp [-List.append_assoc,h,g2,q0,q1,b1,b2,b3,v1,v3,u3,hwr,kM,o8,l8,c1,c2,c3]
      ·rw [ah (by omega),ah (by omega)]
       have hwk:=afc N k (by omega) hf.2 tk hf.1.2.2.2.2.2.2.2 (acc++aW (4 * t+y).toNat++aW (bM k).length) (by simp only [dX];omega);have kM:=ih' (acc++aW (4 * t+y).toNat++aW (bM k).length++bM k) (by simp only [dX];omega);rw [show acc++aW (4 * t+y).toNat++aW (bM k).length++bM k++bM (l.drop (i+1))=acc++(aW (4 * t+y).toNat++(aW (bM k).length++bM k)++bM (l.drop (i+1))) by simp] at kM;rw [DC (acc++_),DC acc] at hwk;generalize aW (4 * t+y).toNat=A at *;generalize aW (bM k).length=C at *;have c1:2 * (acc.length+A.length)<=281474976710656/\acc.length+A.length<=281474976710656:=by omega
       have c2:2 * (acc.length+A.length+C.length)<=281474976710656/\acc.length+A.length+C.length<=281474976710656:=by omega
       generalize bM k=K at *;have q0:(y=0)=False:=eq_false (by omega);have q1:(y=1)=False:=eq_false (by omega);have q2:(y=2)=True:=eq_true hy;clear hy;refine aB rfl rfl ?_;simp [-List.append_assoc,h,g2,q0,q1,q2,b1,b2,b3,v1,hk,v4,u4,hwk,hwr,kM,o8,l8,c1,c2]
   have h0:=loop l.length 0 (by omega) B (by rw [bY];omega);rw [bY] at h0;have h0':TT.lim 92 [.l (eP B),.l (au l),.i .i64 l.length,.i .i64 0]=some [.i .i64 0,.l (eP (B++bM l))]:=h0;clear loop h0;generalize eP B=B' at *;refine aB rfl rfl ?_;simp [hl1,h0']
theorem anb {α β:Type} {f:α->β} {ys zs:List β} (h:ys.Perm zs):∀l:List α,zs=l.map f->∃p:List α,p.Perm l/\ys=p.map f:=by
 induction h with
 | nil=>intro l e;exact ⟨l,.refl _,e⟩
 | cons x _ ih=>
   intro l e;cases l with
   | nil=>cases e
   | cons a l=>
     injection e with e1 e2
     obtain ⟨p,h1,h2⟩:=ih l e2;exact ⟨a::p,h1.cons a,by rw [iU,<- h2,<- e1]⟩
 | swap x y l=>
   intro m e;rcases m with _ | ⟨a,_ | ⟨b,m⟩⟩
   ·cases e
   ·cases e
   ·simp only [iU,Dh] at e
    obtain ⟨e1,e2,e3⟩:=e;exact ⟨b::a::m,List.Perm.swap a b m,by rw [iU,iU,<- e1,<- e2,<- e3]⟩
 | trans _ _ ih1 ih2=>
   intro l e;obtain ⟨p,h1,h2⟩:=ih2 l e;obtain ⟨q,h3,h4⟩:=ih1 p h2;exact ⟨q,h3.trans h1,h4⟩
theorem aek:∀ (p q:List aF),p.Perm q->p.Pairwise (λa b=>a.tag<=b.tag)->q.Pairwise (λa b=>a.tag < b.tag)->p=q
 | [],q,h,_,_=>(List.nil_perm.1 h).symm
 | a::p,[],h,_,_=>by have:=h.length_eq;simp at this
 | a::p,b::q,h,hp,hq=>by
   have hb:b∈a::p:=h.mem_iff.2 (by simp);have ha:a∈b::q:=h.mem_iff.1 (by simp);rw [wS] at hp hq;have h1:a.tag<=b.tag:=by
    rcases dO.1 hb with e | hb
    ·rw [e];exact LV _
    ·exact hp.1 b hb
   have e:a=b:=by
    rcases dO.1 ha with e | ha
    ·exact e
    ·have:=hq.1 a ha;omega
   subst e;rw [aek p q (List.Perm.cons_inv h) hp.2 hq.2]
def lK (f:aF):List aF->Nat
 | []=>0
 | g::l=>if g.tag < f.tag then lK f l+1 else 0
theorem ade (f:aF):∀l,lK f l<=l.length
 | []=>dL _
 | g::l=>by
   unfold lK;have:=ade f l;split
   ·simp only [jc];omega
   ·omega
def uT (f:aF) (out:List aF):List aF:=out.take (lK f out)++f::out.drop (lK f out)
def pY (out l:List aF):List aF:=l.foldl (λo f=>uT f o) out
theorem OW (f:aF) (out:List aF):(uT f out).Perm (f::out):=by
 unfold uT;refine YJ.trans ?_;rw [Fv]
theorem U0 (f:aF):∀out:List aF,out.Pairwise (λa b=>a.tag < b.tag)->(∀g∈out,g.tag≠f.tag)->(uT f out).Pairwise (λa b=>a.tag < b.tag)/\(∀g,out[lK f out]? = some g->g.tag≠f.tag)
 | [],_,_=>by simp [uT,lK]
 | g::l,hp,hn=>by
   rw [wS] at hp;unfold uT lK;by_cases h:g.tag < f.tag
   ·obtain ⟨i1,i2⟩:=U0 f l hp.2 λx hx=>hn x (by simp [hx])
    rw [aj h];simp only [yw,IZ,gu,pK];refine ⟨List.pairwise_cons.2 ⟨λx hx=>?_,i1⟩,i2⟩;have:=(OW f l).mem_iff.1 hx;rcases dO.1 this with rfl | hx
    ·exact h
    ·exact hp.1 x hx
   ·rw [ah h]
    have hg:=hn g (by simp);simp only [RF,bY,dK,iP];refine ⟨List.pairwise_cons.2 ⟨λx hx=>?_,wS.2 hp⟩,λx hx=>?_⟩
    ·rcases dO.1 hx with rfl | hx
     ·omega
     ·have:=hp.1 x hx;omega
    ·injection hx with hx
     rw [<- hx];exact hg
theorem OV:∀ (l out:List aF),out.Pairwise (λa b=>a.tag < b.tag)->((out++l).map aF.tag).Nodup->(pY out l).Perm (out++l)/\(pY out l).Pairwise (λa b=>a.tag < b.tag)
 | [],out,hp,_=>by simp only [pY,List.foldl_nil,lq];exact ⟨.refl _,hp⟩
 | f::l,out,hp,hn=>by
   have hf:∀g∈out,g.tag≠f.tag:=λg hg e=>by
    rw [pR,RD] at hn;exact hn.2.2 g.tag (YD hg) f.tag (by simp) e
   have hs:=(U0 f out hp hf).1;have hq:(uT f out++l).Perm (out++f::l):=((OW f out).append_right l).trans (YJ.symm);have ih:=OV l (uT f out) hs ((hq.map aF.tag).nodup_iff.2 hn);exact ⟨ih.1.trans hq,ih.2⟩
theorem Ol (l:List aF):(au l).all (λg=>g.eU 5)=true:=by
 rw [oV,List.all_eq_true];intro g hg;obtain ⟨f,_,rfl⟩:=l7.1 hg;cases f;simp only [fG];rfl
theorem ajN (l:List aF):(au l).all (λg=>Nat.beq g.cells.length 5)=true:=by
 rw [oV,List.all_eq_true];intro g hg;obtain ⟨f,_,rfl⟩:=l7.1 hg;cases f;simp only [fG];rfl
theorem ajQ (l:List aF) (n:Nat):(au l).take n=au (l.take n):=by simp only [oV,YB]
theorem ajP (l:List aF) (n:Nat):(au l).drop n=au (l.drop n):=by simp only [oV,List.map_drop]
theorem BP (a b:List aF):au (a++b)=au a++au b:=by simp only [oV,pR]
/-- What the document's Merge finds: the place for a field. -/
theorem adQ (out:List aF) (hlen:out.length<=10000000) (t y n:Int) (s:List UInt8) (k:List aF) (x2 x3 x4 x5 x6 x7:GV):∀m i:Nat,i+m=out.length->∃r,TT.lim 190 [.l (au out),.i .i64 i,x2,x3,x4,x5,x6,x7,.i .u64 t,.i .i64 y,.i .u64 n,.s s,.l (au k)]=some r/\
 ((∃g,out[i+lK (.mk t y n s k) (out.drop i)]? = some g/\r=[.i .i64 0,.i .i64 (i+lK (.mk t y n s k) (out.drop i):Nat),fG g,.i .u64 g.tag])\/(i+lK (.mk t y n s k) (out.drop i)=out.length/\r=[.i .i64 1,.i .i64 (i+lK (.mk t y n s k) (out.drop i):Nat)]))
 | 0,i,hi=>by
   have h:¬ ((i:Int) < out.length):=by omega
   have hl:=iw out;have e1:out.drop i=[]:=dN (by omega);rw [e1];simp only [lK,kV];refine ⟨_, ?_,.inr ⟨by omega,rfl⟩⟩;refine aB rfl rfl ?_;simp [hl,h]
 | m+1,i,hi=>by
   have h:((i:Int) < out.length):=by omega
   have hl:=iw out;have hw:=wrap64 (n:=(i:Int)+1) (by omega) (by omega);obtain ⟨t',y',n',s',k',g1,g2,g3,g4⟩:=vU (l:=out) (i:=i) (by omega);obtain ⟨r,ih1,ih2⟩:=adQ out hlen t y n s k x2 x3 x4 x5 x6 x7 m (i+1) (by omega);have hcast:((i+1:Nat):Int)=(i:Int)+1:=by omega
   rw [hcast] at ih1;rw [g3];unfold lK;by_cases c:t' < t
   ·have hp:lK (.mk t y n s k) (.mk t' y' n' s' k'::out.drop (i+1))=lK (.mk t y n s k) (out.drop (i+1))+1:=by
     show (if t' < t then _ else _)=_
     rw [aj c]
    rw [aj (show aF.tag (.mk t' y' n' s' k') < aF.tag (.mk t y n s k) from c)];rw [show i+(lK (.mk t y n s k) (out.drop (i+1))+1)=i+1+lK (.mk t y n s k) (out.drop (i+1)) by omega];refine ⟨r, ?_,ih2⟩;refine aB rfl rfl ?_;simp [hl,h,g2,c,hw,ih1]
   ·rw [ah (show ¬ aF.tag (.mk t' y' n' s' k') < aF.tag (.mk t y n s k) from c)]
    refine ⟨_, ?_,.inl ⟨_,g1,rfl⟩⟩;have hg:fG (.mk t' y' n' s' k')=gK t' y' n' s' k':=by simp only [fG];rfl
    rw [hg];refine aB rfl rfl ?_;simp [hl,h,g2,c,aF.tag]
theorem Xb (lists F:List aF) (L x2 x3:GV) (hF:F.length<=1000000):∀ (m j:Nat) (out:List aF),j+m=F.length->out.length+m<=5000000->out.Pairwise (λa b=>a.tag < b.tag)->((out++F.drop j).map aF.tag).Nodup->
 TT.lim 189 [.l (au out),L,x2,x3,.l (au F),.i .i64 F.length,.i .i64 j]=some [.i .i64 1,.l (au (pY out (F.drop j)))]
 | 0,j,out,hj,ho,hp,hn=>by
   have h:¬ ((j:Int) < F.length):=by omega
   have e1:F.drop j=[]:=dN (by omega);rw [e1];simp only [pY,List.foldl_nil];refine aB rfl rfl ?_;simp [h]
 | m+1,j,out,hj,ho,hp,hn=>by
   have h:((j:Int) < F.length):=by omega
   obtain ⟨t,y,n,s,k,g1,g2,g3,g4⟩:=vU (l:=F) (i:=j) (by omega);have hw:=wrap64 (n:=(j:Int)+1) (by omega) (by omega);have hcast:((j+1:Nat):Int)=(j:Int)+1:=by omega
   rw [g3] at hn ⊢;have hf:∀g∈out,g.tag≠aF.tag (.mk t y n s k):=λg hg e=>by
    rw [pR,RD] at hn;exact hn.2.2 g.tag (YD hg) _ (by simp) e
   obtain ⟨hs,hne⟩:=U0 (.mk t y n s k) out hp hf;have hq:(uT (.mk t y n s k) out++F.drop (j+1)).Perm (out++.mk t y n s k::F.drop (j+1)):=((OW _ out).append_right _).trans (YJ.symm);have hil:(uT (.mk t y n s k) out).length=out.length+1:=(OW _ out).length_eq;have ih:=Xb lists F L x2 x3 hF m (j+1) (uT (.mk t y n s k) out) (by omega) (by omega) hs ((hq.map aF.tag).nodup_iff.2 hn);rw [hcast] at ih;have hfold:pY out (.mk t y n s k::F.drop (j+1))=pY (uT (.mk t y n s k) out) (F.drop (j+1)):=rfl;rw [hfold];obtain ⟨r,hr1,hr2⟩:=adQ out (by omega) t y n s k L x2 x3 (.l (au F)) (.i .i64 F.length) (.i .i64 j) out.length 0 (by omega);rw [bY,iV] at hr2;simp only [lZ] at hr1;have aut:=ade (.mk t y n s k) out;unfold uT at ih ⊢;have hl:=iw out;have e1:=ajQ out (lK (.mk t y n s k) out);have e2:=ajP out (lK (.mk t y n s k) out);have e3:(au out).take out.length=au out:=kU (by omega);have hel:(gK t y n s k).eU 5=true:=rfl;have hfg:au (.mk t y n s k::out.drop (lK (.mk t y n s k) out))=gK t y n s k::au (out.drop (lK (.mk t y n s k) out)):=by simp only [au,fG];rfl
   rw [BP,hfg] at ih;generalize lK (.mk t y n s k) out=P at *;have o1:=Ol (out.take P);have o2:=Ol (out.drop P);have c5:=ajN out;have l1:=iw (out.take P);have l2:=iw (out.drop P);rw [jL] at l1;rw [dh] at l2;have hfe:GV.g [.i .u64 t,.i .i64 y,.i .u64 n,.s s,.l (au k)]=gK t y n s k:=rfl;have hP0:(0:Int)<=P/\(P:Int)<=out.length:=by omega
   have hdt:((au out).take P).drop 0=au (out.take P):=by rw [bY,e1]
   have hdd:((au out).take out.length).drop P=au (out.drop P):=by rw [e3,e2]
   have q1:(au (out.take P)).length<=10000000:=by omega
   have q2:(au (out.drop P)).length<=10000000:=by omega
   clear e1 e2 e3 l1 l2;generalize au (out.take P)=T1 at *;generalize au (out.drop P)=T2 at *;have ap:T1++gK t y n s k::T2=T1++[gK t y n s k]++T2:=by simp
   rw [ap] at ih;have c1:2 * T1.length * 64<=281474976710656/\T1.length<=281474976710656:=by omega
   have c2:2 * (T1.length+1) * 64<=281474976710656/\T1.length+1<=281474976710656:=by omega
   have c3:2 * (T1.length+1+T2.length) * 64<=281474976710656/\T1.length+1+T2.length<=281474976710656:=by omega
   rcases hr2 with ⟨g,hg,rfl⟩ | ⟨hP,rfl⟩
   ·have hlt:(P:Int) < out.length:=by
     have:=(dU.1 hg).1;omega
    have hg2:=hne g hg;obtain ⟨t1,y1,n1,s1,k1⟩:=g;have hg3:(au out)[P]? = some (gK t1 y1 n1 s1 k1):=by rw [oV,iF,hg];simp only [gU,fG];rfl
    have hg5:¬ (t1=t):=hg2;have hg6:fG (.mk t1 y1 n1 s1 k1)=gK t1 y1 n1 s1 k1:=by simp only [fG];rfl
    rw [hg6] at hr1;clear hne hn hq hs hp hil hfold hg hg2 hg6;refine aB rfl rfl ?_;simp [-List.all_eq_true, -List.append_assoc,aF.tag,h,g2,hr1,hl,hlt,hg3,hg5,hfe,hel,hw,c5,hP0,hdt,hdd,o1,o2,c1,c2,c3,ih]
   ·clear hne hn hq hs hp hil hfold
    have hlt:¬ ((P:Int) < out.length):=by omega
    refine aB rfl rfl ?_;simp [-List.all_eq_true, -List.append_assoc,h,g2,hr1,hl,hlt,hfe,hel,hw,c5,hP0,hdt,hdd,o1,o2,c1,c2,c3,ih]
/-- Both lists brought together, where all tags differ. -/
def nP (a b:List aF):List aF:=pY [] (a++b)
theorem acF {a b:List aF} (hn:((a++b).map aF.tag).Nodup):(nP a b).Perm (a++b)/\(nP a b).Pairwise (λx y=>x.tag < y.tag):=OV (a++b) [] List.Pairwise.nil hn
theorem ao2 (a b:List aF) (oa:dw a) (ob:dw b) (la:a.length<=1000000) (lb:b.length<=1000000) (ha:fZ 0 0 a=0) (hb:fZ 0 0 b=0) (hn:((a++b).map aF.tag).Nodup):TT.lim 186 [.l [.l (au a),.l (au b)]]=some [.l (au (nP a b)),.i .i64 0]:=by
 have k1:=Qh (bQ a+1) a (by omega) oa la 0 (by omega);have k2:=Qh (bQ b+1) b (by omega) ob lb 0 (by omega);rw [ha] at k1;rw [hb] at k2;simp only [lZ] at k1 k2;have hna:(([]++a).map aF.tag).Nodup:=by
  rw [pR,RD] at hn;exact hn.1
 obtain ⟨p1,p2⟩:=OV a [] List.Pairwise.nil hna;rw [dK] at p1;have hnb:((pY [] a++b).map aF.tag).Nodup:=(((p1.append_right b).map aF.tag).nodup_iff).2 hn;have hla:(pY [] a).length=a.length:=p1.length_eq;have m1:=Xb a a (.l [.l (au a),.l (au b)]) (.i .i64 2) (.i .i64 0) la a.length 0 [] (by omega) (by simp;omega) List.Pairwise.nil hna;have m2:=Xb a b (.l [.l (au a),.l (au b)]) (.i .i64 2) (.i .i64 1) lb b.length 0 (pY [] a) (by omega) (by omega) p2 hnb;have hm:pY (pY [] a) b=nP a b:=by unfold nP pY;rw [List.foldl_append]
 rw [bY] at m1 m2;rw [hm] at m2;simp only [lZ] at m1 m2;have fn:au []=[]:=by simp only [au]
 rw [fn] at m1;have l1:=iw a;have l2:=iw b;have w0:IntKind.i64.wrap 1=1:=by decide
 have w1:IntKind.i64.wrap 2=2:=by decide
 clear hn hna hnb p1 p2 hla hm ha hb oa ob;generalize au (pY [] a)=o1 at *;generalize au (nP a b)=o2 at *;generalize au a=A at *;generalize au b=B at *;have a3:TT.lim 187 [.l [.l A,.l B],.i .i64 2,.i .i64 2]=some [.i .i64 1]:=by
  refine aB rfl rfl ?_;simp
 have a2:TT.lim 187 [.l [.l A,.l B],.i .i64 2,.i .i64 1]=some [.i .i64 1]:=by
  refine aB rfl rfl ?_;simp [k2,w1,a3]
 have a1:TT.lim 187 [.l [.l A,.l B],.i .i64 2,.i .i64 0]=some [.i .i64 1]:=by
  refine aB rfl rfl ?_;simp [k1,w0,a2]
 have b3:TT.lim 188 [.l o2,.l [.l A,.l B],.i .i64 2,.i .i64 2]=some [.i .i64 1,.l o2]:=by
  refine aB rfl rfl ?_;simp
 have b2:TT.lim 188 [.l o1,.l [.l A,.l B],.i .i64 2,.i .i64 1]=some [.i .i64 1,.l o2]:=by
  refine aB rfl rfl ?_;simp [l2,m2,w1,b3]
 have b1:TT.lim 188 [.l [],.l [.l A,.l B],.i .i64 2,.i .i64 0]=some [.i .i64 1,.l o2]:=by
  refine aB rfl rfl ?_;simp [l1,m1,w0,b2]
 refine aG rfl rfl ?_ rfl;simp [a1,b1]
theorem aeG:∀ (N:Nat) (l:List aF),bQ l < N->dw l->rU l->l.length<=1000000->wL l<=1000000000000->TT.lim 191 [.l (au l)]=some [.s (bM l)]
 | 0,l,h,_,_,_,_=>by omega
 | N+1,l,hN,hok,hty,hlen,hw=>by
   have hl1:=iw l;have loop:∀m i,i+m=l.length->∀acc:List UInt8,acc.length+wL (l.drop i)<=1000000000000->TT.lim 192 [.s acc,.l (au l),.i .i64 l.length,.i .i64 i]=some [.i .i64 0,.s (acc++bM (l.drop i))]:=by
    intro m;induction m with
    | zero=>
      intro i hi acc hacc;have e1:l.drop i=[]:=dN (by omega);have h:¬ ((i:Int) < l.length):=by omega
      rw [e1];simp only [bM,lq];refine aB rfl rfl ?_;simp [h]
    | succ m ih=>
      intro i hi acc hacc;obtain ⟨t,y,n,s,k,g1,g2,g3,g4⟩:=vU (l:=l) (i:=i) (by omega);have hf:=tq hok _ g4;have ht:=QU hty _ g4;simp only [l9] at hf;obtain ⟨t1,t2,y1,y2,y3,tk⟩:=Uc ht;have hs:=CW g4;simp only [nX] at hs;rw [g3] at hacc ⊢;simp only [wL,wF] at hacc;have hk:=aeG N k (by omega) hf.2 tk hf.1.2.2.2.2.2.2.2 (by omega);have hkl:=DX (bQ k+1) k (by omega) hf.2 tk (by omega);have v1:=wE (4 * t+y).toNat (by omega);have v2:=wE n.toNat (by omega);have v3:=wE s.length (by omega);have v4:=wE (bM k).length (by omega);have z1:=iO (n:=(4 * t+y).toNat) (by omega);have z2:=iO (n:=n.toNat) (by omega);have z3:=iO (n:=s.length) (by omega);have z4:=iO (n:=(bM k).length) (by omega);rw [show (((4 * t+y).toNat:Nat):Int)=4 * t+y by omega] at v1;rw [show ((n.toNat:Nat):Int)=n by omega] at v2;have hcast:((i+1:Nat):Int)=(i:Int)+1:=by omega
      have hwr:=wrap64 (n:=(i:Int)+1) (by omega) (by omega);have h:((i:Int) < l.length):=by omega
      have ih':=λa ha=>ih (i+1) (by omega) a ha;simp only [hcast] at ih';have u0:=dF (n:=4 * t) (by omega) (by omega);have u1:=dF (n:=y) (by omega) (by omega);have u2:=dF (n:=4 * t+y) (by omega) (by omega);have u3:=dF (n:=(s.length:Int)) (by omega) (by omega);have u4:=dF (n:=((bM k).length:Int)) (by omega) (by omega);have abo:y≠1->y=2->s=[]:=λh1 h2=>by
       simp only [EX] at ht;rcases ht.2.1 with h | h | h
       ·omega
       ·omega
       ·exact h.2.2
      simp only [bM,JW];rcases y3 with hy | hy | hy
      ·rw [aj hy]
       have kM:=ih' (acc++aW (4 * t+y).toNat++aW n.toNat) (by simp only [dX];omega);rw [show acc++aW (4 * t+y).toNat++aW n.toNat++bM (l.drop (i+1))=acc++(aW (4 * t+y).toNat++aW n.toNat++bM (l.drop (i+1))) by simp] at kM;generalize aW (4 * t+y).toNat=A at *;generalize aW n.toNat=C at *;have c1:(acc.length:Int)+A.length<=9223372036854775807:=by omega
       have c2:(acc.length:Int)+A.length+C.length<=9223372036854775807:=by omega
       have q0:(y=0)=True:=eq_true hy;clear hy;refine aB rfl rfl ?_;simp [-List.append_assoc,h,g2,q0,u0,u1,u2,v1,v2,hwr,kM,c1,c2]
      ·rw [ah (by omega),aj hy]
       have kM:=ih' (acc++aW (4 * t+y).toNat++aW s.length++s) (by simp only [dX];omega);rw [show acc++aW (4 * t+y).toNat++aW s.length++s++bM (l.drop (i+1))=acc++(aW (4 * t+y).toNat++(aW s.length++s)++bM (l.drop (i+1))) by simp] at kM;generalize aW (4 * t+y).toNat=A at *;generalize aW s.length=C at *;have c1:(acc.length:Int)+A.length<=9223372036854775807:=by omega
       have c2:(acc.length:Int)+A.length+C.length<=9223372036854775807:=by omega
       have c3:(acc.length:Int)+A.length+C.length+s.length<=9223372036854775807:=by omega
       have q0:(y=0)=False:=eq_false (by omega);have q2:(y=2)=False:=eq_false (by omega);clear hy;refine aB rfl rfl ?_;simp [-List.append_assoc,h,g2,q0,q2,u0,u1,u2,v1,v3,u3,hwr,kM,c1,c2,c3]
      ·rw [ah (by omega),ah (by omega)]
       have kM:=ih' (acc++aW (4 * t+y).toNat++aW (bM k).length++bM k) (by simp only [dX];omega);rw [show acc++aW (4 * t+y).toNat++aW (bM k).length++bM k++bM (l.drop (i+1))=acc++(aW (4 * t+y).toNat++(aW (bM k).length++bM k)++bM (l.drop (i+1))) by simp] at kM;generalize aW (4 * t+y).toNat=A at *;generalize aW (bM k).length=C at *;generalize bM k=K at *;have c1:(acc.length:Int)+A.length<=9223372036854775807:=by omega
       have c2:(acc.length:Int)+A.length+C.length<=9223372036854775807:=by omega
       have c3:(acc.length:Int)+A.length+C.length+K.length<=9223372036854775807:=by omega
       have q0:(y=0)=False:=eq_false (by omega);have q2:(y=2)=True:=eq_true hy;clear hy;refine aB rfl rfl ?_;simp [-List.append_assoc,h,g2,q0,q2,u0,u1,u2,v1,hk,v4,u4,hwr,kM,c1,c2,c3]
   have h0:=loop l.length 0 (by omega) [] (by rw [bY];simpa using hw);rw [bY,dK] at h0;simp only [lZ] at h0;clear loop;refine aG rfl rfl ?_ rfl;simp [hl1,h0]
theorem afT (s:List UInt8):lC (eP s)=some s:=by
 induction s with
 | nil=>rfl
 | cons a s ih=>
   have h1:(0:Int)<=a.toNat/\((a.toNat:Nat):Int) < 256:=by have:=a.toNat_lt;omega
   show (if _ then _ else _)=_
   rw [aj h1];have e:(s.map λb=>GV.i .u8 b.toNat)=eP s:=rfl;rw [e,ih];simp
theorem asu (l:List aF) (hok:dw l) (hlen:l.length<=1000000) (hw:wL l<=1000000000000) (hc:fZ 0 0 l=0):TT.lim 88 [.l (au l)]=some (if 65536 < (bM l).length then [.s [],.i .i64 4] else [.s (bM l),.i .i64 0]):=by
 have ty:=NH (bQ l+1) l (by omega) hok 0 0 hc (by omega);have k1:=Oe l hok hlen;rw [hc] at k1;have k2:=Xr (bQ l+1) l (by omega) hok ty hlen hw;have k3:=afc (bQ l+1) l (by omega) hok ty hlen [] (by simpa using hw);have e0:eP []=[]:=rfl;rw [e0,dK] at k3;have hfl:=DX (bQ l+1) l (by omega) hok ty hw;by_cases c:65536 < (bM l).length
 ·have c':(65536:Int) < (bM l).length:=by omega
  rw [aj c];refine aG rfl rfl ?_ rfl;simp [k1,k2,c,c']
 ·have c':¬ (65536:Int) < (bM l).length:=by omega
  have hb:=afT (bM l);have hl8:(eP (bM l)).length=(bM l).length:=by simp [eP]
  have c2:(eP (bM l)).length<=281474976710656:=by omega
  have c3:(0:Int)<=(bM l).length/\((bM l).length:Int)<=281474976710656/\((bM l).length:Int)<=1152921504606846976:=by omega
  rw [ah c];clear hok hw hc ty hfl;generalize bM l=F at *;generalize au l=G at *;generalize eP F=BF at *;refine aG rfl rfl ?_ rfl;simp [k1,k2,k3,c,c',hb,c2,c3,GV.eU]
theorem aeB (f:aF):ET (fG f)=f.tag:=by
 cases f;simp only [fG,aF.tag];rfl
theorem ajO (l:List aF):(au l).all isTagged=true:=by
 rw [oV,List.all_eq_true];intro g hg;obtain ⟨f,_,rfl⟩:=l7.1 hg;cases f;simp only [fG];rfl
theorem arJ {a b:List aF} (h:a.Perm b):bQ a=bQ b:=by
 induction h with
 | nil=>rfl
 | cons x _ ih=>simp only [bQ,ih]
 | swap x y l=>simp only [bQ];omega
 | trans _ _ h1 h2=>rw [h1,h2]
theorem asq {a b:List aF} (h:a.Perm b):wL a=wL b:=by
 induction h with
 | nil=>rfl
 | cons x _ ih=>simp only [wL,ih]
 | swap x y l=>simp only [wL];omega
 | trans _ _ h1 h2=>rw [h1,h2]
theorem aeA:∀a b:List aF,bQ (a++b)=bQ a+bQ b
 | [],b=>by simp [bQ]
 | f::a,b=>by simp only [gu,bQ,aeA a b];omega
theorem ae7:∀a b:List aF,wL (a++b)=wL a+wL b
 | [],b=>by simp [wL]
 | f::a,b=>by simp only [gu,wL,ae7 a b];omega
theorem Om:∀ {l:List aF},(∀f∈l,l9 f)->dw l
 | [],_=>by simp only [dw]
 | f::l,h=>by
   simp only [dw];exact ⟨h f (by simp),Om λg hg=>h g (by simp [hg])⟩
theorem ajS {a b:List aF} (h:a.Perm b) (hb:dw b):dw a:=Om λf hf=>tq hb f (h.mem_iff.1 hf)
theorem ajR {a b:List aF} (ha:dw a) (hb:dw b):dw (a++b):=Om λf hf=>(oL.1 hf).elim (tq ha f) (tq hb f)
/-- Slices.SortFunc puts them as the document does. -/
theorem ara (l:List aF) (hn:(l.map aF.tag).Nodup):rJ (au l)=au (pY [] l):=by
 have hp:=Xt (au l);have hs:=aq9 (au l);rw [oV] at hp;obtain ⟨p,hp1,hp2⟩:=anb hp l rfl;rw [<- oV] at hp2;have hq:=OV l [] List.Pairwise.nil hn;rw [dK] at hq;have hsp:p.Pairwise (λa b=>a.tag<=b.tag):=by
  rw [afl];intro i j hi hj hij;have:=hs i j (fG p[i]) (fG p[j]) hij (by rw [hp2,iF,bV hi];rfl) (by rw [hp2,iF,bV hj];rfl);rwa [aeB,aeB] at this
 have e:=aek p (pY [] l) (hp1.trans hq.1.symm) hsp hq.2;rw [hp2,e,oV]
theorem adb (l:List aF) (hl:l.length<=10000000) (hp:l.Pairwise (λa b=>a.tag < b.tag)):∀m i:Nat,i+1+m=l.length->TT.lim 86 [.l (au l),.i .i64 ((i:Int)+1)]=some [.i .i64 1]
 | 0,i,hi=>by
   have h:¬ ((i:Int)+1 < l.length):=by omega
   have hg:=iw l;refine aB rfl rfl ?_;simp [hg,h]
 | m+1,i,hi=>by
   have h:((i:Int)+1 < l.length):=by omega
   have hg:=iw l;have ih:=adb l hl hp m (i+1) (by omega);obtain ⟨t,y,n,s,k,g1,g2,g3,g4⟩:=vU (l:=l) (i:=i) (by omega);obtain ⟨t',y',n',s',k',g1',g2',g3',g4'⟩:=vU (l:=l) (i:=i+1) (by omega);have hlt:t < t':=by
    have:=afl.1 hp i (i+1) (by omega) (by omega) (by omega);have e1:l[i]=.mk t y n s k:=by have:=bV (l:=l) (i:=i) (by omega);rw [g1] at this;injection this with this;exact this.symm
    have e2:l[i+1]=.mk t' y' n' s' k':=by have:=bV (l:=l) (i:=i+1) (by omega);rw [g1'] at this;injection this with this;exact this.symm
    rw [e1,e2] at this;exact this
   have hne:¬ t'=t:=by omega
   have hcast:((i+1:Nat):Int)=(i:Int)+1:=by omega
   rw [hcast] at ih;have hw:=wrap64 (n:=(i:Int)+1+1) (by omega) (by omega);have hw2:=wrap64 (n:=(i:Int)+1 - 1) (by omega) (by omega);have hw3:(i:Int)+1 - 1=i:=by omega
   rw [hw3] at hw2;have hn0:(0:Int)<=(i:Int)+1:=by omega
   have ht:((i:Int)+1).toNat=i+1:=by omega
   have hi0:i < l.length:=by omega
   have gi:∀h:i < (au l).length,(au l)[i]=gK t y n s k:=λh=>by have:=bV h;rw [g2] at this;injection this with this;exact this.symm
   have gi':∀h:i+1 < (au l).length,(au l)[i+1]=gK t' y' n' s' k':=λh=>by have:=bV h;rw [g2'] at this;injection this with this;exact this.symm
   refine aB rfl rfl ?_;simp [gi,gi',hg,h,g2,g2',hne,hw,hw2,hw3,hn0,ht,hi0,ih]
theorem anY (a b:List aF) (oa:dw a) (ob:dw b) (la:a.length<=1000000) (lb:b.length<=1000000) (sa:bQ a+bQ b<=1000000) (ha:fZ 0 0 a=0) (hb:fZ 0 0 b=0) (hn:((a++b).map aF.tag).Nodup):TT.lim 84 [.l [.l (au a),.l (au b)]]=some [.l (au (nP a b)),.i .i64 0]:=by
 have k1:=Oe a oa la;have k2:=Oe b ob lb;rw [ha] at k1;rw [hb] at k2;have hab:=BP a b;have l1:=iw a;have l2:=iw b;have o1:=Ol a;have o2:=Ol b;have hso:TT.lim 0 [.l (au a++au b)]=some [.l (au (nP a b))]:=by
  refine KT (Ds:=Ds) (f:=Le) rfl ?_;have h1:(au a++au b).length<=281474976710656/\(au a++au b).all isTagged=true:=by
   rw [<- hab];exact ⟨by rw [iw,dX];omega,ajO _⟩
  show (if (au a++au b).length<=281474976710656/\(au a++au b).all isTagged=true then some [GV.l (rJ (au a++au b))] else none)=_
  rw [aj h1,<- hab,ara _ hn];rfl
 obtain ⟨mp,ms⟩:=acF hn;have hml:(nP a b).length=a.length+b.length:=by rw [mp.length_eq,dX]
 have hsl:(au (nP a b)).length=(au a++au b).length:=by rw [iw,hml,dX,l1,l2]
 have hcl:=Og (nP a b) (by rw [arJ mp,aeA];exact sa);have h1:TT.lim 86 [.l (au (nP a b)),.i .i64 1]=some [.i .i64 1]:=by
  rcases YM (nP a b).length with h0 | h0
  ·have:nP a b=[]:=jQ h0
   rw [this];have fn:au []=[]:=by simp only [au]
   rw [fn];refine aB rfl rfl ?_;simp
  ·have:=adb (nP a b) (by omega) ms ((nP a b).length - 1) 0 (by omega)
   simpa using this
 have w0:IntKind.i64.wrap 1=1:=by decide
 have w1:IntKind.i64.wrap 2=2:=by decide
 have c1:2 * (au a).length * 64<=281474976710656/\(au a).length<=281474976710656:=by omega
 have c2:2 * ((au a).length+(au b).length) * 64<=281474976710656/\(au a).length+(au b).length<=281474976710656:=by omega
 clear hn mp ms hml ha hb oa ob sa hab l1 l2;generalize au (nP a b)=M at *;generalize au a=A at *;generalize au b=B at *;have a3:TT.lim 85 [.l (A++B),.l [.l A,.l B],.i .i64 2,.i .i64 2]=some [.i .i64 1,.l (A++B)]:=by
  refine aB rfl rfl ?_;simp
 have a2:TT.lim 85 [.l A,.l [.l A,.l B],.i .i64 2,.i .i64 1]=some [.i .i64 1,.l (A++B)]:=by
  refine aB rfl rfl ?_;simp [-List.all_eq_true,k2,w1,o2,c2,a3]
 have a1:TT.lim 85 [.l [],.l [.l A,.l B],.i .i64 2,.i .i64 0]=some [.i .i64 1,.l (A++B)]:=by
  refine aB rfl rfl ?_;simp [-List.all_eq_true,k1,w0,o1,c1,a2]
 rw [dX] at hsl;refine aG rfl rfl ?_ rfl;simp [a1,hso,hsl,h1,hcl]
def vY (b:aU) (s:bW):Option aF:=match placeOf s.name with
 | some p=>if (aS b p).1=0/\(aS b p).2=[] then none else some (.mk s.tag (bH p) (aS b p).1 (aS b p).2 [])
 | none=>none
def kR (b:aU) (l:List bW):List aF:=l.filterMap (vY b)
theorem Kv (b:aU) (s:bW) (l:List bW):kR b (s::l)=(match vY b s with | some f=>[f] | none=>[])++kR b l:=by
 unfold kR;rw [List.filterMap_cons];cases vY b s<;>rfl
theorem asi {b:aU} {fl:List aF} (h:qB b fl) {s:bW} (hs:placeOf s.name≠none/\s.use=rV s.name):∃p,placeOf s.name=some p/\TT.lim 78 [bP b (au fl),.s s.name]=some [.g [.i .u64 0,.i .i64 (bH p),.i .u64 (aS b p).1,.s (aS b p).2,.l []],.b true]/\TT.lim 145 [bP b (au fl),.s s.name]=some [.i .u64 (aS b p).1,.s (aS b p).2]/\s.use.tdiv 3=bH p/\0<=s.use/\s.use<=5:=by
 rcases ash b (au fl) h.body h.d h.t.few s.name with ⟨p,h1,h2,h3,h4⟩ | ⟨h1,h2⟩
 ·obtain ⟨g1,g2,g3⟩:=aeZ p
  rw [<- h4,<- hs.2] at g1 g2 g3;exact ⟨p,h1,h2,h3,g2,g1,g3⟩
 ·cases hp:placeOf s.name with
  | none=>exact absurd hp hs.1
  | some p=>
    unfold rV at h2;rw [hp] at h2;have:=(aeZ p).1;simp only at h2;omega
theorem ac3 {b:aU} {fl:List aF} (hM:qB b fl) (ls:List bW) (hl:ls.length<=1000) (hls:∀s∈ls,placeOf s.name≠none/\s.use=rV s.name):∀ (m i:Nat) (acc:List aF),i+m=ls.length->acc.length+m<=2000->
 TT.lim 77 ([.l (au acc),.l (ls.map bD),.i .i64 ls.length,.i .i64 i]++(bP b (au fl)).cells)=some [.i .i64 0,.l (au (acc++kR b (ls.drop i)))]
 | 0,i,acc,hi,ha=>by
   have h:¬ ((i:Int) < ls.length):=by omega
   have e:ls.drop i=[]:=dN (by omega);rw [e];have:kR b []=[]:=rfl;rw [this,lq,jT];simp only [gu,dK];refine aB rfl rfl ?_;simp [h]
 | m+1,i,acc,hi,ha=>by
   have hlt:i < ls.length:=by omega
   have h:((i:Int) < ls.length):=by omega
   obtain ⟨p,v1⟩:∃p,placeOf ls[i].name=some p:=by
    cases e:placeOf ls[i].name with
    | some p=>exact ⟨p,rfl⟩
    | none=>exact absurd e (hls _ (fP hlt)).1
   have v2:=ams hM v1;have hdr:ls.drop i=ls[i]::ls.drop (i+1):=dZ hlt;have hat:(ls.map bD)[i]? = some (bD ls[i]):=by rw [iF,bV hlt];rfl
   have hcast:((i+1:Nat):Int)=(i:Int)+1:=by omega
   have hw:=wrap64 (n:=(i:Int)+1) (by omega) (by omega);rw [hdr,Kv];have hk:vY b ls[i]=if (aS b p).1=0/\(aS b p).2=[] then none else some (.mk ls[i].tag (bH p) (aS b p).1 (aS b p).2 []):=by unfold vY;rw [v1]
   rw [hk];have ih:=ac3 hM ls hl hls m (i+1);generalize ls[i]=s at *;clear hk hdr v1;have la:=iw acc;have fn:au []=[]:=by simp only [au]
   have hel:(gK s.tag (bH p) (aS b p).1 (aS b p).2 []).eU 5=true:=rfl;have hfe:GV.g [.i .u64 s.tag,.i .i64 (bH p),.i .u64 (aS b p).1,.s (aS b p).2,.l []]=gK s.tag (bH p) (aS b p).1 (aS b p).2 []:=by unfold gK;rw [fn]
   have c1:2 * ((au acc).length+1) * 64<=281474976710656/\(au acc).length+1<=281474976710656:=by omega
   by_cases hz:(aS b p).1=0/\(aS b p).2=[]
   ·rw [aj hz]
    have ih:=ih acc (by omega) (by omega);rw [jT,hcast] at ih;rw [jT];simp only [gu,dK] at ih ⊢;clear hel hfe c1 la;obtain ⟨z1,z2⟩:=hz;rw [z1,z2] at v2;generalize au acc=A at *;generalize au fl=r at *;generalize ls.map bD=SP at *;generalize bH p=ty at *;refine aB rfl rfl ?_;simp [h,hat,fM,v2,hw,ih]
   ·rw [ah hz]
    have ih:=ih (acc++[.mk s.tag (bH p) (aS b p).1 (aS b p).2 []]) (by omega) (by rw [dX,qO];omega);have hfa:au (acc++[.mk s.tag (bH p) (aS b p).1 (aS b p).2 []])=au acc++[gK s.tag (bH p) (aS b p).1 (aS b p).2 []]:=by rw [BP];simp only [au,fG];rfl
    rw [jT,hcast,hfa,List.append_assoc] at ih;rw [jT];simp only [gu,dK] at ih ⊢;generalize hR:au (acc++.mk s.tag (bH p) (aS b p).1 (aS b p).2 []::kR b (ls.drop (i+1)))=R at *;clear hR hfa la;generalize gK s.tag (bH p) (aS b p).1 (aS b p).2 []=E at *;generalize au acc=A at *;generalize au fl=r at *;generalize ls.map bD=SP at *;generalize bH p=ty at *;generalize aS b p=vv at *;obtain ⟨n,t⟩:=vv;simp only at *;by_cases hn:n=0
    ·have ht:¬ t=[]:=λe=>hz ⟨hn,e⟩
     subst hn;refine aB rfl rfl ?_;simp [h,hat,fM,v2,ht,hfe,hel,c1,hw,ih]
    ·refine aB rfl rfl ?_
     simp [h,hat,fM,v2,hn,hfe,hel,c1,hw,ih]
theorem adM {b:aU} {fl:List aF} (hM:qB b fl) (ls:List bW) (hl:ls.length<=1000) (hls:∀s∈ls,placeOf s.name≠none/\s.use=rV s.name):∀ (m i:Nat) (acc:List aF),i+m=ls.length->acc.length+m<=2000->
 TT.lim 185 ([.l (au acc),.l (ls.map bD),.i .i64 ls.length,.i .i64 i]++(bP b (au fl)).cells)=some [.i .i64 0,.l (au (acc++kR b (ls.drop i)))]
 | 0,i,acc,hi,ha=>by
   have h:¬ ((i:Int) < ls.length):=by omega
   have e:ls.drop i=[]:=dN (by omega);rw [e];have:kR b []=[]:=rfl;rw [this,lq,jT];simp only [gu,dK];refine aB rfl rfl ?_;simp [h]
 | m+1,i,acc,hi,ha=>by
   have hlt:i < ls.length:=by omega
   have h:((i:Int) < ls.length):=by omega
   obtain ⟨p,v1, -,v2,u1,u2,u3⟩:=asi hM (hls _ (fP hlt));have hdr:ls.drop i=ls[i]::ls.drop (i+1):=dZ hlt;have hat:(ls.map bD)[i]? = some (bD ls[i]):=by rw [iF,bV hlt];rfl
   have hcast:((i+1:Nat):Int)=(i:Int)+1:=by omega
   have hw:=wrap64 (n:=(i:Int)+1) (by omega) (by omega);rw [hdr,Kv];have hk:vY b ls[i]=if (aS b p).1=0/\(aS b p).2=[] then none else some (.mk ls[i].tag (bH p) (aS b p).1 (aS b p).2 []):=by unfold vY;rw [v1]
   rw [hk];have ih:=adM hM ls hl hls m (i+1);generalize ls[i]=s at *;clear hk hdr v1;have hty:0<=bH p/\bH p<=1:=by cases p<;>simp [bH]
   have hwt:=wrap64 (n:=bH p) (by omega) (by omega);have la:=iw acc;have fn:au []=[]:=by simp only [au]
   have hel:(gK s.tag (bH p) (aS b p).1 (aS b p).2 []).eU 5=true:=rfl;have hfe:GV.g [.i .u64 s.tag,.i .i64 (bH p),.i .u64 (aS b p).1,.s (aS b p).2,.l []]=gK s.tag (bH p) (aS b p).1 (aS b p).2 []:=by unfold gK;rw [fn]
   have c1:2 * ((au acc).length+1) * 64<=281474976710656/\(au acc).length+1<=281474976710656:=by omega
   by_cases hz:(aS b p).1=0/\(aS b p).2=[]
   ·rw [aj hz]
    have ih:=ih acc (by omega) (by omega);rw [jT,hcast] at ih;rw [jT];simp only [gu,dK] at ih ⊢;clear hel hfe c1 la;obtain ⟨z1,z2⟩:=hz;rw [z1,z2] at v2;generalize au acc=A at *;generalize au fl=r at *;generalize ls.map bD=SP at *;generalize bH p=ty at *;refine aB rfl rfl ?_;simp [h,hat,fM,v2,hw,ih]
   ·rw [ah hz]
    have ih:=ih (acc++[.mk s.tag (bH p) (aS b p).1 (aS b p).2 []]) (by omega) (by rw [dX,qO];omega);have hfa:au (acc++[.mk s.tag (bH p) (aS b p).1 (aS b p).2 []])=au acc++[gK s.tag (bH p) (aS b p).1 (aS b p).2 []]:=by rw [BP];simp only [au,fG];rfl
    rw [jT,hcast,hfa,List.append_assoc] at ih;rw [jT];simp only [gu,dK] at ih ⊢;generalize hR:au (acc++.mk s.tag (bH p) (aS b p).1 (aS b p).2 []::kR b (ls.drop (i+1)))=R at *;clear hR hfa la;generalize gK s.tag (bH p) (aS b p).1 (aS b p).2 []=E at *;generalize au acc=A at *;generalize au fl=r at *;generalize ls.map bD=SP at *;rw [<- u1] at hwt hfe;clear u1 hty;generalize aS b p=vv at *;obtain ⟨n,t⟩:=vv;simp only at *;by_cases hn:n=0
    ·have ht:¬ t=[]:=λe=>hz ⟨hn,e⟩
     subst hn;refine aB rfl rfl ?_;simp [h,hat,fM,v2,ht,hwt,hfe,hel,c1,hw,ih]
    ·refine aB rfl rfl ?_
     simp [h,hat,fM,v2,hn,hwt,hfe,hel,c1,hw,ih]
theorem NG:∀ (l:List aF) (w:Nat) (a:Int),fZ w a l=0->(∀f∈l,f.tag≠0/\f.tag<=4294967296/\vT w f=0/\a < f.tag)/\l.Pairwise (λx y=>x.tag < y.tag)
 | [],w,a,_=>⟨by simp,List.Pairwise.nil⟩
 | f::l,w,a,h=>by
   unfold fZ at h;by_cases h1:f.tag=0
   ·rw [aj h1] at h;exact absurd h (by decide)
   rw [ah h1] at h;by_cases h2:4294967296 < f.tag
   ·rw [aj h2] at h;exact absurd h (by decide)
   rw [ah h2] at h;by_cases h3:f.tag<=a
   ·rw [aj h3] at h;exact absurd h (by decide)
   rw [ah h3] at h;by_cases h4:vT w f=0;rotate_left
   ·rw [aj h4] at h;exact absurd h h4
   rw [ah (λe=>e h4)] at h;obtain ⟨i1,i2⟩:=NG l w f.tag h;refine ⟨λg hg=>?_,wS.2 ⟨λg hg=>(i1 g hg).2.2.2,i2⟩⟩;rcases dO.1 hg with rfl | hg
   ·exact ⟨h1,by omega,h4,by omega⟩
   ·obtain ⟨q1,q2,q3,q4⟩:=i1 g hg
    exact ⟨q1,q2,q3,by omega⟩
theorem Td:∀ (l:List aF) (w:Nat) (a:Int),(∀f∈l,f.tag≠0/\f.tag<=4294967296/\vT w f=0/\a < f.tag)->l.Pairwise (λx y=>x.tag < y.tag)->fZ w a l=0
 | [],w,a,_,_=>by unfold fZ;rfl
 | f::l,w,a,h,hp=>by
   obtain ⟨q1,q2,q3,q4⟩:=h f (by simp);rw [wS] at hp;unfold fZ;rw [ah q1,ah (by omega),ah (by omega),ah (λe=>e q3)];refine Td l w f.tag (λg hg=>?_) hp.2;obtain ⟨r1,r2,r3,r4⟩:=h g (by simp [hg]);exact ⟨r1,r2,r3,hp.1 g hg⟩
theorem ard (k:Int):(jO k).Pairwise (λs t=>s.tag < t.tag)/\∀s∈jO k,1<=s.tag/\s.tag<=5:=by
 unfold jO;repeat' split
 all_goals first | (unfold sp1;decide) | (unfold sp2;decide) | (unfold xU;decide) | (unfold xW;decide) | (unfold xX;decide) | (unfold xY;decide) | (unfold xZ;decide) | (unfold yc;decide) | exact ⟨List.Pairwise.nil,λs hs=>by cases hs⟩
theorem Ku (k v:Int):(aQ k v).Pairwise (λs t=>s.tag < t.tag)/\∀s∈aQ k v,1<=s.tag/\s.tag<=5:=by
 obtain ⟨h1,h2⟩:=ard k;exact ⟨h1.sublist List.filter_sublist,λs hs=>h2 s (Fj.1 hs).1⟩
theorem O1 {b:aU} {s:bW} {f:aF} (h:vY b s=some f):∃p,placeOf s.name=some p/\f=.mk s.tag (bH p) (aS b p).1 (aS b p).2 []/\¬ ((aS b p).1=0/\(aS b p).2=[]):=by
 unfold vY at h;cases hp:placeOf s.name with
 | none=>rw [hp] at h;cases h
 | some p=>
   rw [hp] at h;simp only at h;by_cases hz:(aS b p).1=0/\(aS b p).2=[]
   ·rw [aj hz] at h;cases h
   ·rw [ah hz] at h
    injection h with h
    exact ⟨p,rfl,h.symm,hz⟩
theorem O6 {b:aU} {l:List bW} {f:aF} (h:f∈kR b l):∃s∈l,∃p,placeOf s.name=some p/\f=.mk s.tag (bH p) (aS b p).1 (aS b p).2 []/\¬ ((aS b p).1=0/\(aS b p).2=[]):=by
 unfold kR at h;obtain ⟨s,hs,hf⟩:=List.mem_filterMap.1 h;exact ⟨s,hs,O1 hf⟩
theorem Va (b:aU):∀ (l:List bW),l.Pairwise (λs t=>s.tag < t.tag)->(kR b l).Pairwise (λx y=>x.tag < y.tag)
 | [],_=>List.Pairwise.nil
 | s::l,h=>by
   rw [wS] at h;rw [Kv];have ih:=Va b l h.2;cases hk:vY b s with
   | none=>exact ih
   | some f=>
     obtain ⟨p, -,rfl, -⟩:=O1 hk;refine wS.2 ⟨λg hg=>?_,ih⟩;obtain ⟨s',hs',p', -,rfl, -⟩:=O6 hg;exact h.1 s' hs'
theorem asg (b:aU) (p:Pl):(bH p=0/\(aS b p).2=[])\/(bH p=1/\(aS b p).1=0):=by
 cases p<;>simp [bH,aS]
theorem Vb (b:aU) (k v:Int):fZ 0 0 (kR b (aQ k v))=0:=by
 obtain ⟨h1,h2⟩:=Ku k v;refine Td _ 0 0 (λf hf=>?_) (Va b _ h1);obtain ⟨s,hs,p, -,rfl, -⟩:=O6 hf;have:=h2 s hs;refine ⟨by show s.tag≠0;omega,by show s.tag<=_;omega, ?_,by show 0 < s.tag;omega⟩;unfold vT;rcases asg b p with ⟨q1,q2⟩ | ⟨q1,q2⟩
 ·rw [q1,q2];simp
 ·rw [q1,q2];simp
def Short (b:aU):Prop:=b.name.length<=600/\b.region.length<=600/\b.note.length<=600
theorem ae2 {b:aU} {fl:List aF} (h:qB b fl) (hw:Short b) (p:Pl):(0<=(aS b p).1/\(aS b p).1 < 18446744073709551616)/\(aS b p).2.length<=100000000:=by
 have q:=h.body;obtain ⟨w1,w2,w3⟩:=hw;cases p with
 | rem=>
   have hr:=q.remaining;exact ⟨by simp only [aS];unfold zz;split<;>omega,by simp [aS]⟩
 | allow=>refine ⟨?_,by simp [aS]⟩;simp only [aS];split<;>omega
 | name=>exact ⟨by simp [aS],by simp only [aS];omega⟩
 | region=>exact ⟨by simp [aS],by simp only [aS];omega⟩
 | note=>exact ⟨by simp [aS],by simp only [aS];omega⟩
 | d=>
   refine ⟨by simp [aS], ?_⟩;simp only [aS];have:=Ei h.d;split
   ·simp
   ·omega
 | t=>
   refine ⟨by simp [aS], ?_⟩;simp only [aS];have:=am9 b.t h.t;split
   ·simp
   ·unfold CJ
    split
    ·simp
    ·simp only;omega
 | num k=>
   refine ⟨?_,by simp [aS]⟩;simp only [aS];unfold Ag;split<;>first | exact q.id | exact q.min | exact q.max | exact q.chosen | exact q.flags | exact q.cost | exact q.priority | exact q.deadline | exact q.retry | exact q.epoch | exact q.base | exact q.digest | exact q.lag | exact q.code | exact q.want
theorem U9 {b:aU} {fl:List aF} (h:qB b fl) (hw:Short b) (k v:Int):dw (kR b (aQ k v)):=Om λf hf=>by
 obtain ⟨s,hs,p, -,rfl, -⟩:=O6 hf;have ht:=(Ku k v).2 s hs;have hv:=ae2 h hw p;have hy:0<=bH p/\bH p<=1:=by cases p<;>simp [bH]
 simp only [l9,dw];refine ⟨⟨?_, ?_, ?_, ?_,hv.1.1,hv.1.2,hv.2, ?_⟩,trivial⟩;all_goals first | omega | simp
theorem U8 (b:aU) (k v:Int):(kR b (aQ k v)).length<=8:=jl (List.length_filterMap_le _ _) (vZ k v)
theorem abC (b:aU):∀l:List bW,bQ (kR b l)<=2 * l.length
 | []=>by simp [kR,bQ]
 | s::l=>by
   rw [Kv];have ih:=abC b l;cases hk:vY b s with
   | none=>simp only [dK,jc];omega
   | some f=>
     obtain ⟨p, -,rfl, -⟩:=O1 hk;simp only [gu,dK,bQ,nX,jc];omega
theorem abD {b:aU} {fl:List aF} (h:qB b fl) (hw:Short b):∀l:List bW,wL (kR b l)<=100000040 * l.length
 | []=>by simp [kR,wL]
 | s::l=>by
   rw [Kv];have ih:=abD h hw l;cases hk:vY b s with
   | none=>simp only [dK,jc];omega
   | some f=>
     obtain ⟨p, -,rfl, -⟩:=O1 hk;have hv:=(ae2 h hw p).2;simp only [gu,dK,wL,wF,jc];omega
theorem Ou:∀ (n:Nat) (l:List One) (deep:Int),(∀x∈l,x.text.length<=300)->wL (fE n l deep).1+340 * (fE n l deep).2.length<=340 * l.length
 | 0,l,deep,_=>by simp [fE,wL]
 | n+1,[],deep,_=>by simp [fE,wL]
 | n+1,x::l,deep,h=>by
   have hx:=h x (by simp);have hl:∀y∈l,y.text.length<=300:=λy hy=>h y (by simp [hy]);simp only [fE];split
   ·by_cases hd:x.deep=255
    ·rw [aj hd]
     have h1:=Ou n l deep hl;simp only [wL,wF,jc];omega
    ·rw [ah hd]
     have h1:=Ou n l (x.deep+1) hl;obtain ⟨k,hk⟩:=(DY n l (x.deep+1)).2;have h2:=Ou n (fE n l (x.deep+1)).2 deep (λy hy=>hl y (by rw [hk] at hy;exact A8 hy));simp only [wL,wF,jc];omega
   ·simp [wL]
theorem amc (l:List One) (hf:sZ l=true):wL (rC l)<=20400:=by
 unfold sZ at hf;rw [aI,decide_eq_true_iff,List.all_eq_true] at hf;have:=Ou (l.length+1) l 0 λx hx=>by simpa using hf.1 x hx
 unfold rC;omega
/-- What is needed for a message that is written. -/
structure wV (b:aU) (fl:List aF):Prop where
 msg:qB b fl
 short:Short b
 sz:bQ fl<=900000
 w:wL fl<=2000000000
theorem F6 {b:aU} {fl:List aF} {v:Int} (h:jG b fl v=0):1<=v/\v<=3/\aQ b.kind v≠[]/\fZ 0 0 fl=0/\∀f∈fl,hasTag (aQ b.kind v) f.tag=false:=by
 unfold jG at h;by_cases h1:v < 1
 ·rw [aj h1] at h;exact absurd h (by decide)
 rw [ah h1] at h;by_cases h2:3 < v
 ·rw [aj h2] at h;exact absurd h (by decide)
 rw [ah h2] at h;by_cases h3:aQ b.kind v=[]
 ·rw [aj h3] at h;exact absurd h (by decide)
 rw [ah h3] at h;by_cases h4:fH.all (λn=>lV (aQ b.kind v) n || mM b n)=false
 ·rw [aj h4] at h;exact absurd h (by decide)
 rw [ah h4] at h;by_cases h5:kS b (aQ b.kind v)≠0
 ·rw [aj h5] at h;exact absurd h h5
 rw [ah h5] at h;by_cases h6:Bv b≠0
 ·rw [aj h6] at h;exact absurd h h6
 rw [ah h6] at h;unfold EK at h;by_cases h7:fZ 0 0 fl≠0
 ·rw [aj h7] at h;exact absurd h h7
 rw [ah h7] at h;by_cases h8:fl.any (λf=>hasTag (aQ b.kind v) f.tag)=true
 ·rw [aj h8] at h;exact absurd h (by decide)
 refine ⟨by omega,by omega,h3,by simpa using h7,λf hf=>?_⟩;cases e:hasTag (aQ b.kind v) f.tag with
 | false=>rfl
 | true=>exact absurd (List.any_eq_true.2 ⟨f,hf,e⟩) h8
theorem Sm {b:aU} {fl:List aF} {v:Int} (h:jG b fl v=0):((kR b (aQ b.kind v)++fl).map aF.tag).Nodup:=by
 obtain ⟨-, -, -,h1,h2⟩:=F6 h;have p1:=Va b _ (Ku b.kind v).1;have p2:=(NG fl 0 0 h1).2;rw [pR,RD];have nd:∀l:List aF,l.Pairwise (λx y=>x.tag < y.tag)->(l.map aF.tag).Nodup:=λl hl=>by
  unfold List.Nodup;rw [List.pairwise_map];exact hl.imp λh e=>by omega
 refine ⟨nd _ p1,nd _ p2,λx hx y hy e=>?_⟩;obtain ⟨f,hf,rfl⟩:=l7.1 hx;obtain ⟨g,hg,rfl⟩:=l7.1 hy;obtain ⟨s,hs,p, -,rfl, -⟩:=O6 hf;have:=h2 g hg;unfold hasTag at this;have h3:(aQ b.kind v).any (λs=>decide (g.tag=s.tag))=true:=List.any_eq_true.2 ⟨s,hs,zN (show g.tag=s.tag from e.symm)⟩;rw [h3] at this;cases this
def sK (b:aU) (fl:List aF) (v:Int):List aF:=nP (kR b (aQ b.kind v)) fl
def BO (b:aU) (fl:List aF) (v:Int):List aF×Int:=if jG b fl v=0 then (sK b fl v,0) else ([],jG b fl v)
structure afe (l:List aF):Prop where
 ok:dw l
 len:l.length<=1000000
 w:wL l<=1000000000000
 chk:fZ 0 0 l=0
theorem Y4 {b:aU} {fl:List aF} {v:Int} (hm:wV b fl) (h:jG b fl v=0):afe (sK b fl v):=by
 obtain ⟨-, -, -,h1,h2⟩:=F6 h;obtain ⟨mp,ms⟩:=acF (Sm h);have hl:fl.length<=900000:=by
  have:∀l:List aF,l.length<=bQ l:=λl=>by
   induction l with
   | nil=>simp [bQ]
   | cons f l ih=>simp only [jc,bQ];omega
  have:=this fl;have:=hm.sz;omega
 have kl:=U8 b b.kind v;have kw:=abD hm.msg hm.short (aQ b.kind v);have k8:=vZ b.kind v;have mw:=hm.w;refine ⟨ajS mp (ajR (U9 hm.msg hm.short _ _) hm.msg.f8), ?_, ?_, ?_⟩
 ·unfold sK;rw [mp.length_eq,dX];omega
 ·unfold sK;rw [asq mp,ae7]
  have:100000040 * (aQ b.kind v).length<=100000040 * 8:=Jc _ k8;omega
 ·refine Td _ 0 0 (λf hf=>?_) ms
  rcases oL.1 (mp.mem_iff.1 hf) with hf | hf
  ·exact (NG _ 0 0 (Vb b b.kind v)).1 f hf
  ·exact (NG _ 0 0 h1).1 f hf
theorem abA {k v:Int} (h:aQ k v≠[]):1<=k/\k<=8:=by
 by_cases c:1<=k/\k<=8
 ·exact c
 ·exfalso
  apply h;unfold aQ jO;rw [ah (by omega),ah (by omega),ah (by omega),ah (by omega),ah (by omega),ah (by omega),ah (by omega),ah (by omega)];rfl
theorem ane {b:aU} {fl:List aF} (hm:wV b fl) (v:Int):TT.lim 23 [bP b (au fl),.i .i64 v]=some [.l (au (BO b fl v).1),.i .i64 (BO b fl v).2]:=by
 have hc:=acs b fl v hm.msg.body hm.msg.t.few hm.msg.f8 hm.msg.len;unfold BO;by_cases c:jG b fl v=0;rotate_left
 ·rw [ah c]
  have fn:au []=[]:=by simp only [au]
  rw [fn];generalize au fl=r at *;generalize jG b fl v=ck at *;refine aG rfl rfl ?_ rfl;simp [fM,hc,c]
 rw [aj c];rw [c] at hc;obtain ⟨v1,v3,hne,h8, -⟩:=F6 c;have hk:=O5 b.kind v v1 v3 (by
  have:=mt (abE b.kind v v1 v3).2 hne;omega)
 have h0:=ac3 hm.msg (aQ b.kind v) (by have:=vZ b.kind v;omega) (Vd b.kind v) (aQ b.kind v).length 0 [] (by omega) (by have:=vZ b.kind v;simp;omega);have fn:au []=[]:=by simp only [au]
 rw [bY,dK,jT,fn] at h0;simp only [gu,dK,lZ] at h0;have hsz:=abC b (aQ b.kind v);have k8:=vZ b.kind v;have mo:=anY _ fl (U9 hm.msg hm.short b.kind v) hm.msg.f8 (by have:=U8 b b.kind v;omega) hm.msg.len (by have:=hm.sz;omega) (Vb b b.kind v) h8 (Sm c);have hal:(((aQ b.kind v).map bD).length:Int)=((aQ b.kind v).length:Int):=by rw [vH]
 unfold sK;generalize au (nP (kR b (aQ b.kind v)) fl)=M at *;generalize au (kR b (aQ b.kind v))=KV at *;generalize (aQ b.kind v).map bD=SP at *;generalize ((aQ b.kind v).length:Int)=L at *;generalize au fl=r at *;clear hsz k8 hne h8 c hm v1 v3;refine aG rfl rfl ?_ rfl;simp [fM,hc,hk,hal,h0,mo]
theorem aoW {b:aU} {fl:List aF} (hm:wV b fl) (v:Int):TT.lim 184 [bP b (au fl),.i .i64 v]=some [.l (au (BO b fl v).1),.i .i64 (BO b fl v).2]:=by
 have hc:=WU b fl v hm.msg.body hm.msg.t.few hm.msg.f8 hm.msg.len;unfold BO;by_cases c:jG b fl v=0;rotate_left
 ·rw [ah c]
  have fn:au []=[]:=by simp only [au]
  rw [fn];generalize au fl=r at *;generalize jG b fl v=ck at *;refine aG rfl rfl ?_ rfl;simp [fM,hc,c]
 rw [aj c];rw [c] at hc;obtain ⟨v1,v3,hne,h8, -⟩:=F6 c;have hk:=Xa b.kind v v3;have h0:=adM hm.msg (aQ b.kind v) (by have:=vZ b.kind v;omega) (Vd b.kind v) (aQ b.kind v).length 0 [] (by omega) (by have:=vZ b.kind v;simp;omega);have fn:au []=[]:=by simp only [au]
 rw [bY,dK,jT,fn] at h0;simp only [gu,dK,lZ] at h0;have mo:=ao2 _ fl (U9 hm.msg hm.short b.kind v) hm.msg.f8 (by have:=U8 b b.kind v;omega) hm.msg.len (Vb b b.kind v) h8 (Sm c);have hal:(((aQ b.kind v).map bD).length:Int)=((aQ b.kind v).length:Int):=by rw [vH]
 unfold sK;generalize au (nP (kR b (aQ b.kind v)) fl)=M at *;generalize au (kR b (aQ b.kind v))=KV at *;generalize (aQ b.kind v).map bD=SP at *;generalize ((aQ b.kind v).length:Int)=L at *;generalize au fl=r at *;clear hne h8 c hm v1 v3;refine aG rfl rfl ?_ rfl;simp [fM,hc,hk,hal,h0,mo]
/-- What is written, or why not. -/
def bytesV (b:aU) (fl:List aF) (v:Int):List UInt8:=aW b.kind.toNat++bM (sK b fl v)
def oQ (b:aU) (fl:List aF) (v:Int):List UInt8×Int:=if jG b fl v=0 then (if 65536 < (bytesV b fl v).length then ([],4) else (bytesV b fl v,0)) else ([],jG b fl v)
theorem ac2 {b:aU} {fl:List aF} (hm:wV b fl) (v:Int):TT.lim 22 [bP b (au fl),.i .i64 v]=some [.s (oQ b fl v).1,.i .i64 (oQ b fl v).2]:=by
 have hf:=ane hm v;unfold BO at hf;unfold oQ;by_cases c:jG b fl v=0;rotate_left
 ·rw [ah c] at hf ⊢
  generalize au fl=r at *;generalize jG b fl v=ck at *;refine aG rfl rfl ?_ rfl;simp [fM,hf,c]
 rw [aj c] at hf ⊢;have ao:=Y4 hm c;have hw:=asu (sK b fl v) ao.ok ao.len ao.w ao.chk;obtain ⟨-, -,hne, -, -⟩:=F6 c;obtain ⟨k1,k8⟩:=abA hne;have hp:=wC b.kind.toNat (by omega);have hpl:=iO (n:=b.kind.toNat) (by omega);rw [show ((b.kind.toNat:Nat):Int)=b.kind by omega] at hp;have wk:=dF (n:=b.kind) (by omega) (by omega);unfold bytesV;rw [dX];clear ao c hm hne;generalize sK b fl v=AF at *;generalize aW b.kind.toNat=V at *;generalize au fl=r at *;generalize au AF=G at *;generalize bM AF=F at *;by_cases c1:65536 < F.length
 ·rw [aj c1] at hw
  rw [aj (by omega)];refine aG rfl rfl ?_ rfl;simp [fM,hf,hw]
 ·rw [ah c1] at hw
  have c3:(V.length:Int)+F.length<=9223372036854775807:=by omega
  by_cases c2:65536 < V.length+F.length
  ·have c2':(65536:Int) < V.length+F.length:=by omega
   rw [aj c2];refine aG rfl rfl ?_ rfl;simp [fM,hf,hw,wk,hp,c2',c3]
  ·have c2':¬ (65536:Int) < V.length+F.length:=by omega
   rw [ah c2];refine aG rfl rfl ?_ rfl;simp [fM,hf,hw,wk,hp,c2',c3]
theorem adH {b:aU} {fl:List aF} (hm:wV b fl) (v:Int):TT.lim 136 [bP b (au fl),.i .i64 v]=some [.s (oQ b fl v).1,.i .i64 (oQ b fl v).2]:=by
 have hc:=WU b fl v hm.msg.body hm.msg.t.few hm.msg.f8 hm.msg.len;have hf:=aoW hm v;unfold BO at hf;unfold oQ;by_cases c:jG b fl v=0;rotate_left
 ·rw [ah c] at hf ⊢
  generalize au fl=r at *;generalize jG b fl v=ck at *;refine aG rfl rfl ?_ rfl;simp [fM,hc,c]
 rw [aj c] at hf ⊢;rw [c] at hc;have ao:=Y4 hm c;have hty:=NH (bQ (sK b fl v)+1) _ (by omega) ao.ok 0 0 ao.chk (by omega);have hw:=aeG (bQ (sK b fl v)+1) (sK b fl v) (by omega) ao.ok hty ao.len ao.w;have hfl:=DX (bQ (sK b fl v)+1) _ (by omega) ao.ok hty ao.w;have haw:=ao.w;obtain ⟨-, -,hne, -, -⟩:=F6 c;obtain ⟨k1,k8⟩:=abA hne;have hp:=wE b.kind.toNat (by omega);have hpl:=iO (n:=b.kind.toNat) (by omega);rw [show ((b.kind.toNat:Nat):Int)=b.kind by omega] at hp;have wk:=dF (n:=b.kind) (by omega) (by omega);unfold bytesV;rw [dX];clear ao c hm hne hty;generalize sK b fl v=AF at *;generalize aW b.kind.toNat=V at *;generalize au fl=r at *;generalize au AF=G at *;have c3:(V.length:Int)+(bM AF).length<=9223372036854775807:=by omega
 generalize bM AF=F at *;clear hfl haw;have ht:TT.lim 183 [bP b r,.i .i64 v]=some [.s (V++F)]:=by
  refine aG rfl rfl ?_ rfl;simp [fM,hf,hw,wk,hp,c3]
 by_cases c2:65536 < V.length+F.length
 ·have c2':(65536:Int) < V.length+F.length:=by omega
  rw [aj c2];refine aG rfl rfl ?_ rfl;simp [fM,hc,ht,c2']
 ·have c2':¬ (65536:Int) < V.length+F.length:=by omega
  rw [ah c2];refine aG rfl rfl ?_ rfl;simp [fM,hc,ht,c2']
end V
end Go.Proofs.YtaggjpipnjmleaaGreatDoor
