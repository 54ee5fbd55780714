/- What the trees compute: plain laws. -/
import Derived.Test.YtpioimdhbbgniaaGreatDoorKLe3
import Derived.Test.YtpioimdhbbgniaaGreatDoorKLe4
namespace Go.Proofs.YtpioimdhbbgniaaGreatDoor
open Go Go.aJ
set_option linter.unusedSimpArgs false
set_option linter.unusedVariables false
set_option maxRecDepth 100000
namespace L
theorem apm {n:Int} (hn:0<=n/\n < 18446744073709551616) : -9223372036854775808<=Ae n/\Ae n<=9223372036854775807:=by
 unfold Ae;split<;>omega
theorem acu {b:aB} {n:Int} {s:List UInt8} {p:Pl} {ty:Int} (hb:oq b) (hd:iV b.d=true) (ht:xE b.t) (hn:0<=n/\n < 18446744073709551616) (hs:s.length<=100000000) (h:aO ty n s p=0):oq (setB b n s p)/\iV (setB b n s p).d=true/\xE (setB b n s p).t:=by
 have hE:gG n s p=0:=by
  unfold aO at h;split at h
  ·split at h<;>split at h<;>first | exact h | exact absurd h (by decide)
  ·exact absurd h (by decide)
 cases p with
 | rem=>exact ⟨{ hb with remaining:=apm hn },hd,ht⟩
 | allow=>exact ⟨{ hb with },hd,ht⟩
 | name=>exact ⟨{ hb with name:=by show s.length<=_;omega },hd,ht⟩
 | region=>exact ⟨{ hb with region:=by show s.length<=_;omega },hd,ht⟩
 | note=>exact ⟨{ hb with note:=by show s.length<=_;omega },hd,ht⟩
 | d=>
   have hp:=YZ (s:=s) hE hs;exact ⟨{ hb with d:=hp.ents },hp.few,ht⟩
 | t=>
   have hp:=(aoc (s:=s) hs).1;exact ⟨{ hb with t:=hp.rows },hd,hp.good⟩
 | num k=>
   unfold setB;split<;>rename_i hk
   ·exact absurd hk (by simp)
   ·exact absurd hk (by simp)
   ·exact absurd hk (by simp)
   ·exact absurd hk (by simp)
   ·exact absurd hk (by simp)
   ·exact absurd hk (by simp)
   ·exact absurd hk (by simp)
   ·split<;>exact ⟨by constructor<;>first | exact hn | exact hb.kind | exact hb.id | exact hb.min | exact hb.max | exact hb.chosen | exact hb.flags | exact hb.cost | exact hb.priority | exact hb.deadline | exact hb.retry | exact hb.epoch | exact hb.base | exact hb.digest | exact hb.lag | exact hb.code | exact hb.want | exact hb.remaining | exact hb.name | exact hb.region | exact hb.note | exact hb.d | exact hb.t,hd,ht⟩
structure vI (b:aB) (fl:List aH):Prop where
 body:oq b
 d:iV b.d=true
 t:xE b.t
 f8:dS fl
 len:fl.length<=1000000
theorem KQ:vI dG []:=⟨by constructor<;>simp [dG,yS,Rows],by simp [dG,iV],⟨by simp [dG],by intro r hr;simp [dG] at hr,by simp [dG,Rows]⟩,by simp only [dS],by simp⟩
def nameOf:Pl->List UInt8
 | .rem=>lX
 | .allow=>lq
 | .name=>lT
 | .region=>lW
 | .note=>lU
 | .d=>lH
 | .t=>lZ
 | .num k=>match k with
   | 0=>lM
   | 1=>lS
   | 2=>lQ
   | 3=>lC
   | 4=>lK
   | 5=>lF
   | 6=>lV
   | 7=>lG
   | 8=>lY
   | 9=>lJ
   | 10=>lu
   | 11=>lI
   | 12=>lN
   | 13=>lD
   | _=>l7
def jg:Pl->Prop
 | .num k=>k < 15
 | _=>True
theorem BH (n:List UInt8):∀p,placeOf n=some p->n=nameOf p/\jg p/\n∈l9:=by
 refine I8 (Q:=λn=>∀p,placeOf n=some p->n=nameOf p/\jg p/\n∈l9) (λp h=>by rw [Hq] at h;cases h;exact ⟨rfl,by simp [jg],by rw [kN];simp⟩) (λp h=>by rw [GI] at h;cases h;exact ⟨rfl,by simp [jg],by rw [kN];simp⟩) (λp h=>by rw [Hf] at h;cases h;exact ⟨rfl,by simp [jg],by rw [kN];simp⟩) (λp h=>by rw [Ho] at h;cases h;exact ⟨rfl,by simp [jg],by rw [kN];simp⟩) (λp h=>by rw [Hg] at h;cases h;exact ⟨rfl,by simp [jg],by rw [kN];simp⟩) (λp h=>by rw [GY] at h;cases h;exact ⟨rfl,by simp [jg],by rw [kN];simp⟩) (λp h=>by rw [Ht] at h;cases h;exact ⟨rfl,by simp [jg],by rw [kN];simp⟩) (λp h=>by rw [G7] at h;cases h;exact ⟨rfl,by simp [jg],by rw [kN];simp⟩) (λp h=>by rw [He] at h;cases h;exact ⟨rfl,by simp [jg],by rw [kN];simp⟩) (λp h=>by rw [G9] at h;cases h;exact ⟨rfl,by simp [jg],by rw [kN];simp⟩) (λp h=>by rw [GL] at h;cases h;exact ⟨rfl,by simp [jg],by rw [kN];simp⟩) (λp h=>by rw [G6] at h;cases h;exact ⟨rfl,by simp [jg],by rw [kN];simp⟩) (λp h=>by rw [GU] at h;cases h;exact ⟨rfl,by simp [jg],by rw [kN];simp⟩) (λp h=>by rw [Hl] at h;cases h;exact ⟨rfl,by simp [jg],by rw [kN];simp⟩) (λp h=>by rw [GX] at h;cases h;exact ⟨rfl,by simp [jg],by rw [kN];simp⟩) (λp h=>by rw [Hr] at h;cases h;exact ⟨rfl,by simp [jg],by rw [kN];simp⟩) (λp h=>by rw [G5] at h;cases h;exact ⟨rfl,by simp [jg],by rw [kN];simp⟩) (λp h=>by rw [GK] at h;cases h;exact ⟨rfl,by simp [jg],by rw [kN];simp⟩) (λp h=>by rw [GZ] at h;cases h;exact ⟨rfl,by simp [jg],by rw [kN];simp⟩) (λp h=>by rw [G8] at h;cases h;exact ⟨rfl,by simp [jg],by rw [kN];simp⟩) (λp h=>by rw [GN] at h;cases h;exact ⟨rfl,by simp [jg],by rw [kN];simp⟩) (λp h=>by rw [Hu] at h;cases h;exact ⟨rfl,by simp [jg],by rw [kN];simp⟩) (λn e0 e1 e2 e3 e4 e5 e6 e7 e8 e9 e10 e11 e12 e13 e14 e15 e16 e17 e18 e19 e20 e21 p h=>?_) n;rw [J6 n e0 e1 e2 e3 e4 e5 e6 e7 e8 e9 e10 e11 e12 e13 e14 e15 e16 e17 e18 e19 e20 e21] at h;cases h
theorem ajX {a b:List UInt8} {p:Pl} (ha:placeOf a=some p) (hb:placeOf b=some p):a=b:=by rw [(BH a p ha).1,(BH b p hb).1]
theorem aiT (b:aB) (r:List GV) (hb:oq b) (hd:iV b.d=true) (hf:EF b.t) (n:List UInt8):(∃p,placeOf n=some p/\TT.lim 69 [jf b r,.s n]=some [.g [.i .u64 0,.i .i64 (aY p),.i .u64 (aV b p).1,.s (aV b p).2,.l []],.b true])\/
 (placeOf n=none/\TT.lim 69 [jf b r,.s n]=some [.g [.i .u64 0,.i .i64 0,.i .u64 0,.s [],.l []],.b false]):=by
 refine I8 (Q:=λn=>(∃p,placeOf n=some p/\TT.lim 69 [jf b r,.s n]=some [.g [.i .u64 0,.i .i64 (aY p),.i .u64 (aV b p).1,.s (aV b p).2,.l []],.b true])\/
  (placeOf n=none/\TT.lim 69 [jf b r,.s n]=some [.g [.i .u64 0,.i .i64 0,.i .u64 0,.s [],.l []],.b false])) (.inl ⟨_,Hq,aoL b r hb⟩) (.inl ⟨_,GI,aot b r⟩) (.inl ⟨_,Hf,aoH b r⟩) (.inl ⟨_,Ho,aoK b r⟩) (.inl ⟨_,Hg,aoI b r⟩) (.inl ⟨_,GY,aoz b r hd⟩) (.inl ⟨_,Ht,aoN b r hb hf⟩) (.inl ⟨_,G7,aoD b r⟩) (.inl ⟨_,He,aoG b r⟩) (.inl ⟨_,G9,aoF b r⟩) (.inl ⟨_,GL,aov b r⟩) (.inl ⟨_,G6,aoC b r⟩) (.inl ⟨_,GU,aox b r⟩) (.inl ⟨_,Hl,aoJ b r⟩) (.inl ⟨_,GX,aoy b r⟩) (.inl ⟨_,Hr,aoM b r⟩) (.inl ⟨_,G5,aoB b r⟩) (.inl ⟨_,GK,aou b r⟩) (.inl ⟨_,GZ,aoA b r⟩) (.inl ⟨_,G8,aoE b r⟩) (.inl ⟨_,GN,aow b r⟩) (.inl ⟨_,Hu,aoO b r⟩) (λn e0 e1 e2 e3 e4 e5 e6 e7 e8 e9 e10 e11 e12 e13 e14 e15 e16 e17 e18 e19 e20 e21=>.inr ⟨J6 n e0 e1 e2 e3 e4 e5 e6 e7 e8 e9 e10 e11 e12 e13 e14 e15 e16 e17 e18 e19 e20 e21,aiV b r n e0 e1 e2 e3 e4 e5 e6 e7 e8 e9 e10 e11 e12 e13 e14 e15 e16 e17 e18 e19 e20 e21⟩) n
theorem aiU {b:aB} {fl:List aH} (h:vI b fl) {n:List UInt8} {p:Pl} (hp:placeOf n=some p):TT.lim 69 [jf b (aF fl),.s n]=some [.g [.i .u64 0,.i .i64 (aY p),.i .u64 (aV b p).1,.s (aV b p).2,.l []],.b true]:=by
 rcases aiT b (aF fl) h.body h.d h.t.few n with ⟨q,hq,hv⟩ | ⟨hq, -⟩
 ·rw [hp] at hq
  injection hq with hq
  rw [hq];exact hv
 ·rw [hp] at hq;cases hq
/-- A message, one part told anew. -/
def uY (b c:aB):Pl->aB
 | .rem=>{ c with remaining:=b.remaining }
 | .allow=>{ c with allowed:=b.allowed }
 | .name=>{ c with name:=b.name }
 | .region=>{ c with region:=b.region }
 | .note=>{ c with note:=b.note }
 | .d=>{ c with d:=b.d }
 | .t=>{ c with t:=b.t }
 | .num k=>match k with
   | 0=>{ c with id:=b.id }
   | 1=>{ c with min:=b.min }
   | 2=>{ c with max:=b.max }
   | 3=>{ c with chosen:=b.chosen }
   | 4=>{ c with flags:=b.flags }
   | 5=>{ c with cost:=b.cost }
   | 6=>{ c with priority:=b.priority }
   | 7=>{ c with deadline:=b.deadline }
   | 8=>{ c with retry:=b.retry }
   | 9=>{ c with epoch:=b.epoch }
   | 10=>{ c with base:=b.base }
   | 11=>{ c with digest:=b.digest }
   | 12=>{ c with lag:=b.lag }
   | 13=>{ c with code:=b.code }
   | _=>{ c with want:=b.want }
theorem akd (b c:aB) (p:Pl):(uY b c p).kind=c.kind:=by
 unfold uY;split<;>first | rfl | (split<;>rfl)
theorem ake (b c:aB) (j k:Nat) (hk:k < 15) (hj:j < 15) (hne:j≠k):fK (uY b c (.num k)) j=fK c j:=by
 rcases k with _ | _ | _ | _ | _ | _ | _ | _ | _ | _ | _ | _ | _ | _ | _ | k
 all_goals first | (exfalso;omega) | skip
 all_goals (rcases j with _ | _ | _ | _ | _ | _ | _ | _ | _ | _ | _ | _ | _ | _ | _ | j)<;>first | rfl | exact absurd rfl hne | (exfalso;omega)
theorem apn (x:Int) (h : -9223372036854775808<=x/\x<=9223372036854775807):Ae (zz x)=x:=by
 unfold Ae zz;split<;>split<;>omega
theorem apk (x:Int) (h : -9223372036854775808<=x/\x<=9223372036854775807):0<=zz x/\zz x < 18446744073709551616:=by
 unfold zz;split<;>omega
theorem abL (t:List Row) (ht:xE t):(mD t).length<=90000000:=by
 have h:=Vy t [] (λr hr=>⟨ht.few r hr,(ht.rows.2 r hr).2⟩);have h3:=ht.len;have hv:(aP t.length).length<=20:=by
  have:=kQ (n:=t.length) (by omega);omega
 unfold mD;rw [bY];have:40000 * t.length<=40000 * 300:=QF _ h3;omega
/-- What may be, and is something, is put as it was read. -/
theorem alR {b:aB} {fl:List aH} (h:vI b fl) (hw:b.name.length<=600/\b.region.length<=600/\b.note.length<=600) (p:Pl) (hm:qw b p=0) (hne:¬ ((aV b p).1=0/\(aV b p).2=[])) :
 aO (aY p) (aV b p).1 (aV b p).2 p=0/\(0<=(aV b p).1/\(aV b p).1 < 18446744073709551616)/\(aV b p).2.length<=100000000/\∀c,setB c (aV b p).1 (aV b p).2 p=uY b c p:=by
 cases p with
 | rem=>
   have hx:=h.body.remaining;have hz:=apn b.remaining hx;have hl:=apk b.remaining hx;simp only [aV] at hne ⊢;have hn0:¬ zz b.remaining=0:=λe=>hne ⟨e,trivial⟩;refine ⟨by unfold aO;simp [aY,hn0,gG],hl,by simp,λc=>?_⟩;simp only [setB,hz,uY]
 | allow=>
   simp only [aV] at hne ⊢;cases ha:b.allowed with
   | false=>rw [ha] at hne;exact absurd ⟨rfl,trivial⟩ hne
   | true=>
     refine ⟨by unfold aO;simp [aY,gG],by simp,by simp,λc=>?_⟩;simp only [setB,uY,ha]
 | name=>
   simp only [aV] at hne ⊢;have hn0:¬ b.name=[]:=λe=>hne ⟨trivial,e⟩;simp only [qw] at hm;refine ⟨by unfold aO;simp [aY,hn0,gG,hm],by simp,by omega,λc=>rfl⟩
 | region=>
   simp only [aV] at hne ⊢;have hn0:¬ b.region=[]:=λe=>hne ⟨trivial,e⟩;simp only [qw] at hm;refine ⟨by unfold aO;simp [aY,hn0,gG,hm],by simp,by omega,λc=>rfl⟩
 | note=>
   simp only [aV] at hne ⊢;have hn0:¬ b.note=[]:=λe=>hne ⟨trivial,e⟩;simp only [qw] at hm;refine ⟨by unfold aO;simp [aY,hn0,gG,hm],by simp,by omega,λc=>rfl⟩
 | d=>
   simp only [aV] at hne ⊢;have hd0:b.d≠[]:=λe=>hne ⟨trivial,by rw [ak e]⟩;simp only [qw,ah hd0] at hm;have hp:=YX b.d hm;have hk:=JH h.d;have hk0:iF b.d≠[]:=λe=>hne ⟨trivial,by rw [ah hd0];exact e⟩;rw [ah hd0];refine ⟨?_,by simp,by omega,λc=>?_⟩
   ·unfold aO
    simp [aY,hk0,gG,hp]
   ·simp only [setB,uY,hp]
 | t=>
   simp only [aV] at hne ⊢;have ht0:b.t≠[]:=λe=>hne ⟨trivial,by rw [ak e]⟩;simp only [qw] at hm;have hk:yE b.t=(mD b.t,0):=by unfold yE;rw [ah (by simpa using hm)]
   rw [ah ht0,hk] at hne ⊢;have hp:=aob b.t ⟨(Rf _).1 hm,h.t.few,h.t.rows⟩;have hl:=abL b.t h.t;have hk0:mD b.t≠[]:=λe=>hne ⟨trivial,e⟩;refine ⟨?_,by simp,by simp only;omega,λc=>?_⟩
   ·have hl0:¬ b.t.length=0:=λe=>ht0 (jD e)
    unfold aO;simp [aY,hk0,gG,hp,hl0,ht0]
   ·simp only [setB,uY,hp]
 | num k=>
   simp only [aV] at hne ⊢;have hn0:¬ fK b k=0:=λe=>hne ⟨e,trivial⟩;refine ⟨by unfold aO;simp [aY,hn0,gG], ?_,by simp,λc=>?_⟩
   ·have q:=h.body
    unfold fK;split<;>first | exact q.id | exact q.min | exact q.max | exact q.chosen | exact q.flags | exact q.cost | exact q.priority | exact q.deadline | exact q.retry | exact q.epoch | exact q.base | exact q.digest | exact q.lag | exact q.code | exact q.want
   ·rcases k with _ | _ | _ | _ | _ | _ | _ | _ | _ | _ | _ | _ | _ | _ | k<;>rfl
theorem Uh (b:aB):∀ (l:List bP),kZ b l=0->∀s∈l,tX b s.name=0
 | [],_,s,hs=>by cases hs
 | x::l,h,s,hs=>by
   unfold kZ at h;split at h
   ·rename_i h0
    rcases dn.1 hs with rfl | hs
    ·exact h0
    ·exact Uh b l h s hs
   ·rename_i h0
    exact absurd h h0
theorem ai7 (b:aB) (p:Pl) (h:dF b p=true):(aV b p).1=0/\(aV b p).2=[]:=by
 cases p with
 | rem=>simp only [dF,decide_eq_true_iff] at h;simp [aV,h,zz]
 | allow=>simp only [dF,vC] at h;simp [aV,h]
 | num k=>simp only [dF,decide_eq_true_iff] at h;simp [aV,h]
 | _=>simp only [dF,decide_eq_true_iff] at h;simp [aV,h]
theorem aer {b:aB} {fl:List aH} {v:Int} (h:gJ b fl v=0) {n:List UInt8} {p:Pl} (hp:placeOf n=some p) (hne:¬ ((aV b p).1=0/\(aV b p).2=[])):qw b p=0:=by
 unfold gJ at h;split at h; · cases h
 split at h; · cases h
 split at h; · cases h
 split at h; · cases h
 rename_i hall
 split at h
 ·rename_i hm;exact absurd h hm
 rename_i hm
 have hm:kZ b (aN b.kind v)=0:=by simpa using hm
 have hall:l9.all (λn=>qN (aN b.kind v) n || nD b n)=true:=by rw [Qo] at hall;exact hall
 have h1:=List.all_eq_true.1 hall n (BH n p hp).2.2;have h2:nD b n=dF b p:=by unfold nD;rw [hp]
 rw [h2] at h1;cases hn:dF b p with
 | true=>exact absurd (ai7 b p hn) hne
 | false=>
   rw [hn,yQ] at h1;unfold qN at h1;rw [List.any_eq_true] at h1;obtain ⟨s,hs,e⟩:=h1;have e:s.name=n:=by simpa using e
   have h3:=Uh b _ hm s hs;unfold tX at h3;rw [e,hp] at h3;exact h3
mutual
def FT:aH->List UInt8
 | .mk t y n s k=>aP (4 * t+y).toNat++(if y=0 then aP n.toNat else if y=1 then aP s.length++s else aP (bH k).length++bH k)
def bH:List aH->List UInt8
 | []=>[]
 | f::l=>FT f++bH l
end
mutual
def wF:aH->Nat
 | .mk _ _ _ s k=>s.length+40+wL k
def wL:List aH->Nat
 | []=>0
 | f::l=>wF f+wL l
end
mutual
/-- Tags and types that may be. -/
def BO:aH->Prop
 | .mk t y n s k=>(1<=t/\t<=4294967296)/\((y=0/\s=[]/\k=[])\/(y=1/\n=0/\k=[])\/(y=2/\n=0/\s=[]))/\pO k
def pO:List aH->Prop
 | []=>True
 | f::l=>BO f/\pO l
end
theorem KG:∀ {l:List aH},pO l->∀f∈l,BO f
 | f::l,h,g,hg=>by
   simp only [pO] at h;rcases dn.1 hg with rfl | hg
   ·exact h.1
   ·exact KG h.2 g hg
theorem MK:∀ (N:Nat) (l:List aH),cu l < N->dS l->∀w a,gK w a l=0->0<=a->pO l
 | 0,l,h,_,_,_,_,_=>by omega
 | N+1,[],_,_,_,_,_,_=>by simp only [pO]
 | N+1,.mk t y n s k::l,hN,hok,w,a,h,ha=>by
   simp only [cu,su] at hN;simp only [dS,pG] at hok;unfold gK at h;by_cases h1:(aH.mk t y n s k).tag=0
   ·rw [ak h1] at h;exact absurd h (by decide)
   rw [ah h1] at h;by_cases h2:4294967296 < (aH.mk t y n s k).tag
   ·rw [ak h2] at h;exact absurd h (by decide)
   rw [ah h2] at h;by_cases h3:(aH.mk t y n s k).tag<=a
   ·rw [ak h3] at h;exact absurd h (by decide)
   rw [ah h3] at h;by_cases h4:uM w (.mk t y n s k)=0;rotate_left
   ·rw [ak h4] at h;exact absurd h h4
   rw [ah (λe=>e h4)] at h;have h1:¬ t=0:=h1;have h2:¬ 4294967296 < t:=h2;have h3:¬ t<=a:=h3;simp only [pO,BO];refine ⟨⟨by omega, ?_, ?_⟩,MK N l (by omega) hok.2 w t h (by omega)⟩
   ·simp only [uM] at h4
    split at h4
    ·rename_i hy
     split at h4
     ·rename_i hc;exact .inl ⟨hy,hc⟩
     ·cases h4
    ·split at h4
     ·rename_i hy
      split at h4
      ·rename_i hc;exact .inr (.inl ⟨hy,hc⟩)
      ·cases h4
     ·split at h4
      ·rename_i hy
       split at h4
       ·rename_i hc;exact .inr (.inr ⟨hy,hc⟩)
       ·cases h4
      ·cases h4
   ·simp only [uM] at h4
    split at h4
    ·split at h4
     ·rename_i hc;rw [hc.2];simp only [pO]
     ·cases h4
    ·split at h4
     ·split at h4
      ·rename_i hc;rw [hc.2];simp only [pO]
      ·cases h4
     ·split at h4
      ·split at h4
       ·split at h4
        ·cases h4
        ·exact MK N k (by omega) hok.1.2 _ _ h4 (by omega)
       ·cases h4
      ·cases h4
theorem FU:∀ (N:Nat) (l:List aH),cu l < N->dS l->pO l->wL l<=1000000000000->(bH l).length<=wL l
 | 0,l,h,_,_,_=>by omega
 | N+1,[],_,_,_,_=>by simp [bH]
 | N+1,.mk t y n s k::l,hN,hok,hty,hw=>by
   simp only [cu,su] at hN;simp only [dS,pG] at hok;simp only [pO,BO] at hty;simp only [wL,wF] at hw ⊢;have h1:=FU N l (by omega) hok.2 hty.2 (by omega);have h2:=FU N k (by omega) hok.1.2 hty.1.2.2 (by omega);simp only [bH,FT,bY];have v1:=kQ (n:=(4 * t+y).toNat) (by rcases hty.1.2.1 with h | h | h<;>omega);have v2:=kQ (n:=n.toNat) (by omega);have v3:=kQ (n:=s.length) (by omega);have v4:=kQ (n:=(bH k).length) (by omega);split
   ·omega
   ·split
    ·rw [bY];omega
    ·rw [bY];omega
theorem aah (t y:Int) (ht:1<=t/\t<=4294967296) (hy:0<=y/\y < 4):nH .shl .u64 t 2=some (.i .u64 (4 * t))/\IntKind.u64.wrap y=y/\eH .or .u64 (4 * t) y=some (.i .u64 (4 * t+y)):=by
 have wu:∀y:Int,IntKind.u64.wrap y=y % 18446744073709551616:=λy=>by simp [IntKind.wrap,IntKind.signed,IntKind.bits]
 have hu:IntKind.u64.bits=64:=rfl;refine ⟨?_,by rw [wu];omega, ?_⟩
 ·have h2:nH .shl .u64 t 2=some (.i .u64 (IntKind.u64.wrap (t * 2 ^ 2))):=rfl
  rw [h2,wu];congr 2;omega
 ·simp only [eH,wu,hu]
  obtain ⟨T,rfl⟩:∃T:Nat,t=(T:Int):=⟨t.toNat,by omega⟩
  obtain ⟨Y,rfl⟩:∃Y:Nat,y=(Y:Int):=⟨y.toNat,by omega⟩
  have e1:(BitVec.ofInt 64 (4 * (T:Int))).toNat=4 * T:=by rw [wC];omega
  have e2:(BitVec.ofInt 64 (Y:Int)).toNat=Y:=by rw [wC];omega
  have e3:4 * T ||| Y=4 * T+Y:=(adF (i:=2) (b:=Y) (by omega) T).symm;show some (GV.i IntKind.u64 (((BitVec.ofInt 64 (4 * (T:Int)) ||| BitVec.ofInt 64 (Y:Int)).toNat:Int) % 18446744073709551616))=_
  rw [BitVec.toNat_or,e1,e2,e3];congr 2;omega
theorem RV {t y n:Int} {s:List UInt8} {k:List aH} (h:BO (.mk t y n s k)):1<=t/\t<=4294967296/\0<=y/\y < 3/\(y=0\/y=1\/y=2)/\pO k:=by
 simp only [BO] at h;rcases h.2.1 with h1 | h1 | h1<;>exact ⟨h.1.1,h.1.2,by omega,by omega,by omega,h.2.2⟩
theorem VP:∀ (N:Nat) (l:List aH),cu l < N->dS l->pO l->l.length<=1000000->wL l<=1000000000000->TT.lim 80 [.l (aF l)]=some [.i .i64 (bH l).length]
 | 0,l,h,_,_,_,_=>by omega
 | N+1,l,hN,hok,hty,hlen,hw=>by
   have hl1:=pI l;have loop:∀m i,i+m=l.length->∀acc:Nat,acc+wL (l.drop i)<=1000000000000->TT.lim 81 [.l (aF l),.i .i64 acc,.i .i64 l.length,.i .i64 i]=some [.i .i64 0,.i .i64 ((acc+(bH (l.drop i)).length:Nat):Int)]:=by
    intro m;induction m with
    | zero=>
      intro i hi acc hacc;have e1:l.drop i=[]:=iZ (by omega);have h:¬ ((i:Int) < l.length):=by omega
      rw [e1];simp only [bH,sJ,jU];refine aA rfl rfl ?_;simp [h]
    | succ m ih=>
      intro i hi acc hacc;obtain ⟨t,y,n,s,k,g1,g2,g3,g4⟩:=FQ (l:=l) (i:=i) (by omega);have hf:=Bc hok _ g4;have ht:=KG hty _ g4;simp only [pG] at hf;obtain ⟨t1,t2,y1,y2,y3,tk⟩:=RV ht;have hs:=PW g4;simp only [su] at hs;rw [g3] at hacc ⊢;simp only [wL,wF] at hacc;have hk:=VP N k (by omega) hf.2 tk hf.1.2.2.2.2.2.2.2 (by omega);have hkl:=FU (cu k+1) k (by omega) hf.2 tk (by omega);obtain ⟨b1,b2,b3⟩:=aah t y ⟨t1,t2⟩ ⟨y1,by omega⟩;have v1:=Kv (4 * t+y).toNat (by omega);have v2:=Kv n.toNat (by omega);have v3:=Kv s.length (by omega);have v4:=Kv (bH k).length (by omega);have z1:=BR (n:=(4 * t+y).toNat) (by omega);have z2:=BR (n:=n.toNat) (by omega);have z3:=BR (n:=s.length) (by omega);have z4:=BR (n:=(bH k).length) (by omega);rw [show (((4 * t+y).toNat:Nat):Int)=4 * t+y by omega] at v1;rw [show ((n.toNat:Nat):Int)=n by omega] at v2;have hcast:((i+1:Nat):Int)=(i:Int)+1:=by omega
      have hwr:=wrap64 (n:=(i:Int)+1) (by omega) (by omega);have h:((i:Int) < l.length):=by omega
      have ih':=λa ha=>ih (i+1) (by omega) a ha;simp only [hcast] at ih';have e1:(aP (4 * t+y).toNat).length=fF (4 * t+y).toNat:=rfl;have e2:(aP n.toNat).length=fF n.toNat:=rfl;have e3:(aP s.length).length=fF s.length:=rfl;have e4:(aP (bH k).length).length=fF (bH k).length:=rfl;have u3:=jL (n:=(s.length:Int)) (by omega) (by omega);have u4:=jL (n:=((bH k).length:Int)) (by omega) (by omega);simp only [bH,FT,bY];rw [e1];generalize fF (4 * t+y).toNat=A at *;have w1:=wrap64 (n:=(acc:Int)+A) (by omega) (by omega);rcases y3 with hy | hy | hy
      ·rw [ak hy,e2]
       generalize fF n.toNat=B at *;have w2:=wrap64 (n:=(acc:Int)+A+B) (by omega) (by omega);have qj:=ih' (acc+A+B) (by omega);rw [show ((acc+A+B:Nat):Int)=(acc:Int)+A+B by omega,show acc+A+B+(bH (l.drop (i+1))).length=acc+(A+B+(bH (l.drop (i+1))).length) by omega] at qj;have q0:(y=0)=True:=eq_true hy;clear hy;refine aA rfl rfl ?_;simp [h,g2,q0,b1,b2,b3,v1,v2,w1,w2,hwr,qj]
      ·rw [ah (by omega),ak hy,bY,e3]
       generalize fF s.length=B at *;have w2:=wrap64 (n:=(B:Int)+s.length) (by omega) (by omega);have w3:=wrap64 (n:=(acc:Int)+A+(B+s.length)) (by omega) (by omega);have qj:=ih' (acc+A+(B+s.length)) (by omega);rw [show ((acc+A+(B+s.length):Nat):Int)=(acc:Int)+A+(B+s.length) by omega,show acc+A+(B+s.length)+(bH (l.drop (i+1))).length=acc+(A+(B+s.length)+(bH (l.drop (i+1))).length) by omega] at qj;have q0:(y=0)=False:=eq_false (by omega);have q1:(y=1)=True:=eq_true hy;clear hy;refine aA rfl rfl ?_;simp [h,g2,q0,q1,b1,b2,b3,v1,v3,u3,w1,w2,w3,hwr,qj]
      ·rw [ah (by omega),ah (by omega),bY,e4]
       generalize fF (bH k).length=B at *;generalize (bH k).length=C at *;have w2:=wrap64 (n:=(B:Int)+C) (by omega) (by omega);have w3:=wrap64 (n:=(acc:Int)+A+(B+C)) (by omega) (by omega);have qj:=ih' (acc+A+(B+C)) (by omega);rw [show ((acc+A+(B+C):Nat):Int)=(acc:Int)+A+(B+C) by omega,show acc+A+(B+C)+(bH (l.drop (i+1))).length=acc+(A+(B+C)+(bH (l.drop (i+1))).length) by omega] at qj;have q0:(y=0)=False:=eq_false (by omega);have q1:(y=1)=False:=eq_false (by omega);have q2:(y=2)=True:=eq_true hy;clear hy;refine aA rfl rfl ?_;simp [h,g2,q0,q1,q2,b1,b2,b3,v1,hk,v4,u4,w1,w2,w3,hwr,qj]
   have h0:=loop l.length 0 (by omega) 0 (by rw [fH];omega);rw [fH,iH] at h0;have h0':TT.lim 81 [.l (aF l),.i .i64 0,.i .i64 (aF l).length,.i .i64 0]=some [.i .i64 0,.i .i64 ((bH l).length:Int)]:=by rw [hl1];exact h0
   rw [hl1] at h0';clear loop h0;refine bF rfl rfl ?_ rfl;simp [hl1,h0']
/-- The bytes for fields, put behind others. -/
theorem CW (a b:List UInt8):dU (a++b)=dU a++dU b:=by simp [dU]
theorem ads:∀ (N:Nat) (l:List aH),cu l < N->dS l->pO l->l.length<=1000000->∀B:List UInt8,B.length+wL l<=1000000000000->TT.lim 82 [.l (dU B),.l (aF l)]=some [.i .i64 0,.l (dU (B++bH l))]
 | 0,l,h,_,_,_,_,_=>by omega
 | N+1,l,hN,hok,hty,hlen,B,hB=>by
   have hl1:=pI l;have loop:∀m i,i+m=l.length->∀acc:List UInt8,acc.length+wL (l.drop i)<=1000000000000->TT.lim 83 [.l (dU acc),.l (aF l),.i .i64 l.length,.i .i64 i]=some [.i .i64 0,.l (dU (acc++bH (l.drop i)))]:=by
    intro m;induction m with
    | zero=>
      intro i hi acc hacc;have e1:l.drop i=[]:=iZ (by omega);have h:¬ ((i:Int) < l.length):=by omega
      rw [e1];simp only [bH,mM];refine aA rfl rfl ?_;simp [h]
    | succ m ih=>
      intro i hi acc hacc;obtain ⟨t,y,n,s,k,g1,g2,g3,g4⟩:=FQ (l:=l) (i:=i) (by omega);have hf:=Bc hok _ g4;have ht:=KG hty _ g4;simp only [pG] at hf;obtain ⟨t1,t2,y1,y2,y3,tk⟩:=RV ht;have hs:=PW g4;simp only [su] at hs;rw [g3] at hacc ⊢;simp only [wL,wF] at hacc;have hk:=VP N k (by omega) hf.2 tk hf.1.2.2.2.2.2.2.2 (by omega);have hkl:=FU (cu k+1) k (by omega) hf.2 tk (by omega);obtain ⟨b1,b2,b3⟩:=aah t y ⟨t1,t2⟩ ⟨y1,by omega⟩;have v1:=vX (4 * t+y).toNat (by omega);have v2:=vX n.toNat (by omega);have v3:=vX s.length (by omega);have v4:=vX (bH k).length (by omega);have z1:=kQ (n:=(4 * t+y).toNat) (by omega);have z2:=kQ (n:=n.toNat) (by omega);have z3:=kQ (n:=s.length) (by omega);have z4:=kQ (n:=(bH k).length) (by omega);rw [show (((4 * t+y).toNat:Nat):Int)=4 * t+y by omega] at v1;rw [show ((n.toNat:Nat):Int)=n by omega] at v2;have hcast:((i+1:Nat):Int)=(i:Int)+1:=by omega
      have hwr:=wrap64 (n:=(i:Int)+1) (by omega) (by omega);have h:((i:Int) < l.length):=by omega
      have ih':=λa ha=>ih (i+1) (by omega) a ha;simp only [hcast] at ih';have u3:=jL (n:=(s.length:Int)) (by omega) (by omega);have u4:=jL (n:=((bH k).length:Int)) (by omega) (by omega);have o8:∀z:List UInt8,(dU z).all (λg=>g.fQ 1)=true:=λz=>by simp [dU,GV.fQ]
      have l8:∀z:List UInt8,(dU z).length=z.length:=λz=>by simp [dU]
      simp only [bH,FT];rcases y3 with hy | hy | hy
      ·rw [ak hy]
       have qj:=ih' (acc++aP (4 * t+y).toNat++aP n.toNat) (by simp only [bY];omega);rw [show acc++aP (4 * t+y).toNat++aP n.toNat++bH (l.drop (i+1))=acc++(aP (4 * t+y).toNat++aP n.toNat++bH (l.drop (i+1))) by simp,CW,CW] at qj;generalize aP (4 * t+y).toNat=A at *;generalize aP n.toNat=C at *;have c1:2 * (acc.length+A.length)<=281474976710656/\acc.length+A.length<=281474976710656:=by omega
       have c2:2 * (acc.length+A.length+C.length)<=281474976710656/\acc.length+A.length+C.length<=281474976710656:=by omega
       have q0:(y=0)=True:=eq_true hy;clear hy;refine aA rfl rfl ?_;simp [-List.append_assoc,h,g2,q0,b1,b2,b3,v1,v2,hwr,qj,o8,l8,c1,c2]
      ·rw [ah (by omega),ak hy]
       have qj:=ih' (acc++aP (4 * t+y).toNat++aP s.length++s) (by simp only [bY];omega);rw [show acc++aP (4 * t+y).toNat++aP s.length++s++bH (l.drop (i+1))=acc++(aP (4 * t+y).toNat++(aP s.length++s)++bH (l.drop (i+1))) by simp,CW,CW,CW] at qj;generalize aP (4 * t+y).toNat=A at *;generalize aP s.length=C at *;have c1:2 * (acc.length+A.length)<=281474976710656/\acc.length+A.length<=281474976710656:=by omega
       have c2:2 * (acc.length+A.length+C.length)<=281474976710656/\acc.length+A.length+C.length<=281474976710656:=by omega
       have c3:2 * (acc.length+A.length+C.length+s.length)<=281474976710656/\acc.length+A.length+C.length+s.length<=281474976710656:=by omega
       have q0:(y=0)=False:=eq_false (by omega);have q1:(y=1)=True:=eq_true hy;clear hy;refine aA rfl rfl ?_;simp [-List.append_assoc,h,g2,q0,q1,b1,b2,b3,v1,v3,u3,hwr,qj,o8,l8,c1,c2,c3]
      ·rw [ah (by omega),ah (by omega)]
       have hwk:=ads N k (by omega) hf.2 tk hf.1.2.2.2.2.2.2.2 (acc++aP (4 * t+y).toNat++aP (bH k).length) (by simp only [bY];omega);have qj:=ih' (acc++aP (4 * t+y).toNat++aP (bH k).length++bH k) (by simp only [bY];omega);rw [show acc++aP (4 * t+y).toNat++aP (bH k).length++bH k++bH (l.drop (i+1))=acc++(aP (4 * t+y).toNat++(aP (bH k).length++bH k)++bH (l.drop (i+1))) by simp] at qj;rw [CW (acc++_),CW acc] at hwk;generalize aP (4 * t+y).toNat=A at *;generalize aP (bH k).length=C at *;have c1:2 * (acc.length+A.length)<=281474976710656/\acc.length+A.length<=281474976710656:=by omega
       have c2:2 * (acc.length+A.length+C.length)<=281474976710656/\acc.length+A.length+C.length<=281474976710656:=by omega
       generalize bH k=K at *;have q0:(y=0)=False:=eq_false (by omega);have q1:(y=1)=False:=eq_false (by omega);have q2:(y=2)=True:=eq_true hy;clear hy;refine aA rfl rfl ?_;simp [-List.append_assoc,h,g2,q0,q1,q2,b1,b2,b3,v1,hk,v4,u4,hwk,hwr,qj,o8,l8,c1,c2]
   have h0:=loop l.length 0 (by omega) B (by rw [fH];omega);rw [fH] at h0;have h0':TT.lim 83 [.l (dU B),.l (aF l),.i .i64 l.length,.i .i64 0]=some [.i .i64 0,.l (dU (B++bH l))]:=h0;clear loop h0;generalize dU B=B' at *;refine aA rfl rfl ?_;simp [hl1,h0']
theorem ajB {α β:Type} {f:α->β} {ys zs:List β} (h:ys.Perm zs):∀l:List α,zs=l.map f->∃p:List α,p.Perm l/\ys=p.map f:=by
 induction h with
 | nil=>intro l e;exact ⟨l,.refl _,e⟩
 | cons x _ ih=>
   intro l e;cases l with
   | nil=>cases e
   | cons a l=>
     injection e with e1 e2
     obtain ⟨p,h1,h2⟩:=ih l e2;exact ⟨a::p,h1.cons a,by rw [iy,<- h2,<- e1]⟩
 | swap x y l=>
   intro m e;rcases m with _ | ⟨a,_ | ⟨b,m⟩⟩
   ·cases e
   ·cases e
   ·simp only [iy,Qr] at e
    obtain ⟨e1,e2,e3⟩:=e;exact ⟨b::a::m,List.Perm.swap a b m,by rw [iy,iy,<- e1,<- e2,<- e3]⟩
 | trans _ _ ih1 ih2=>
   intro l e;obtain ⟨p,h1,h2⟩:=ih2 l e;obtain ⟨q,h3,h4⟩:=ih1 p h2;exact ⟨q,h3.trans h1,h4⟩
theorem Pm:∀ (p q:List aH),p.Perm q->p.Pairwise (λa b=>a.tag<=b.tag)->q.Pairwise (λa b=>a.tag < b.tag)->p=q
 | [],q,h,_,_=>(List.nil_perm.1 h).symm
 | a::p,[],h,_,_=>by have:=h.length_eq;simp at this
 | a::p,b::q,h,hp,hq=>by
   have hb:b∈a::p:=h.mem_iff.2 (by simp);have ha:a∈b::q:=h.mem_iff.1 (by simp);rw [vG] at hp hq;have h1:a.tag<=b.tag:=by
    rcases dn.1 hb with e | hb
    ·rw [e];exact Iy _
    ·exact hp.1 b hb
   have e:a=b:=by
    rcases dn.1 ha with e | ha
    ·exact e
    ·have:=hq.1 a ha;omega
   subst e;rw [Pm p q (List.Perm.cons_inv h) hp.2 hq.2]
def Hy (f:aH):List aH->Nat
 | []=>0
 | g::l=>if g.tag < f.tag then Hy f l+1 else 0
def Bf (f:aH) (out:List aH):List aH:=out.take (Hy f out)++f::out.drop (Hy f out)
def Gg (out l:List aH):List aH:=l.foldl (λo f=>Bf f o) out
theorem aat (f:aH) (out:List aH):(Bf f out).Perm (f::out):=by
 unfold Bf;refine List.perm_middle.trans ?_;rw [BZ]
theorem aau (f:aH):∀out:List aH,out.Pairwise (λa b=>a.tag < b.tag)->(∀g∈out,g.tag≠f.tag)->(Bf f out).Pairwise (λa b=>a.tag < b.tag)/\(∀g,out[Hy f out]? = some g->g.tag≠f.tag)
 | [],_,_=>by simp [Bf,Hy]
 | g::l,hp,hn=>by
   rw [vG] at hp;unfold Bf Hy;by_cases h:g.tag < f.tag
   ·obtain ⟨i1,i2⟩:=aau f l hp.2 λx hx=>hn x (by simp [hx])
    rw [ak h];simp only [wI,Qu,jM,pW];refine ⟨List.pairwise_cons.2 ⟨λx hx=>?_,i1⟩,i2⟩;have:=(aat f l).mem_iff.1 hx;rcases dn.1 this with rfl | hx
    ·exact h
    ·exact hp.1 x hx
   ·rw [ah h]
    have hg:=hn g (by simp);simp only [QC,fH,fJ,gW];refine ⟨List.pairwise_cons.2 ⟨λx hx=>?_,vG.2 hp⟩,λx hx=>?_⟩
    ·rcases dn.1 hx with rfl | hx
     ·omega
     ·have:=hp.1 x hx;omega
    ·injection hx with hx
     rw [<- hx];exact hg
theorem Tq:∀ (l out:List aH),out.Pairwise (λa b=>a.tag < b.tag)->((out++l).map aH.tag).Nodup->(Gg out l).Perm (out++l)/\(Gg out l).Pairwise (λa b=>a.tag < b.tag)
 | [],out,hp,_=>by simp only [Gg,List.foldl_nil,mM];exact ⟨.refl _,hp⟩
 | f::l,out,hp,hn=>by
   have hf:∀g∈out,g.tag≠f.tag:=λg hg e=>by
    rw [xH,List.nodup_append] at hn;exact hn.2.2 g.tag (List.mem_map_of_mem hg) f.tag (by simp) e
   have hs:=(aau f out hp hf).1;have hq:(Bf f out++l).Perm (out++f::l):=((aat f out).append_right l).trans (List.perm_middle.symm);have ih:=Tq l (Bf f out) hs ((hq.map aH.tag).nodup_iff.2 hn);exact ⟨ih.1.trans hq,ih.2⟩
theorem ZQ (l:List aH):(aF l).all (λg=>g.fQ 5)=true:=by
 rw [yt,List.all_eq_true];intro g hg;obtain ⟨f,_,rfl⟩:=oC.1 hg;cases f;simp only [kW];rfl
theorem NC (a b:List aH):aF (a++b)=aF a++aF b:=by simp only [yt,xH]
/-- Both lists brought together, where all tags differ. -/
def rU (a b:List aH):List aH:=Gg [] (a++b)
theorem Gp {a b:List aH} (hn:((a++b).map aH.tag).Nodup):(rU a b).Perm (a++b)/\(rU a b).Pairwise (λx y=>x.tag < y.tag):=Tq (a++b) [] List.Pairwise.nil hn
theorem ad8 (s:List UInt8):nP (dU s)=some s:=by
 induction s with
 | nil=>rfl
 | cons a s ih=>
   have h1:(0:Int)<=a.toNat/\((a.toNat:Nat):Int) < 256:=by have:=a.toNat_lt;omega
   show (if _ then _ else _)=_
   rw [ak h1];have e:(s.map λb=>GV.i .u8 b.toNat)=dU s:=rfl;rw [e,ih];simp
theorem ao0 (l:List aH) (hok:dS l) (hlen:l.length<=1000000) (hw:wL l<=1000000000000) (hc:gK 0 0 l=0):TT.lim 79 [.l (aF l)]=some (if 65536 < (bH l).length then [.s [],.i .i64 4] else [.s (bH l),.i .i64 0]):=by
 have ty:=MK (cu l+1) l (by omega) hok 0 0 hc (by omega);have k1:=Nu l hok hlen;rw [hc] at k1;have k2:=VP (cu l+1) l (by omega) hok ty hlen hw;have k3:=ads (cu l+1) l (by omega) hok ty hlen [] (by simpa using hw);have e0:dU []=[]:=rfl;rw [e0,fJ] at k3;have hfl:=FU (cu l+1) l (by omega) hok ty hw;by_cases c:65536 < (bH l).length
 ·have c':(65536:Int) < (bH l).length:=by omega
  rw [ak c];refine bF rfl rfl ?_ rfl;simp [k1,k2,c,c']
 ·have c':¬ (65536:Int) < (bH l).length:=by omega
  have hb:=ad8 (bH l);have hl8:(dU (bH l)).length=(bH l).length:=by simp [dU]
  have c2:(dU (bH l)).length<=281474976710656:=by omega
  have c3:(0:Int)<=(bH l).length/\((bH l).length:Int)<=281474976710656/\((bH l).length:Int)<=1152921504606846976:=by omega
  rw [ah c];clear hok hw hc ty hfl;generalize bH l=F at *;generalize aF l=G at *;generalize dU F=BF at *;refine bF rfl rfl ?_ rfl;simp [k1,k2,k3,c,c',hb,c2,c3,GV.fQ]
theorem acR (f:aH):Em (kW f)=f.tag:=by
 cases f;simp only [kW,aH.tag];rfl
theorem af6 (l:List aH):(aF l).all isTagged=true:=by
 rw [yt,List.all_eq_true];intro g hg;obtain ⟨f,_,rfl⟩:=oC.1 hg;cases f;simp only [kW];rfl
theorem an0 {a b:List aH} (h:a.Perm b):cu a=cu b:=by
 induction h with
 | nil=>rfl
 | cons x _ ih=>simp only [cu,ih]
 | swap x y l=>simp only [cu];omega
 | trans _ _ h1 h2=>rw [h1,h2]
theorem aoY {a b:List aH} (h:a.Perm b):wL a=wL b:=by
 induction h with
 | nil=>rfl
 | cons x _ ih=>simp only [wL,ih]
 | swap x y l=>simp only [wL];omega
 | trans _ _ h1 h2=>rw [h1,h2]
theorem acQ:∀a b:List aH,cu (a++b)=cu a+cu b
 | [],b=>by simp [cu]
 | f::a,b=>by simp only [jM,cu,acQ a b];omega
theorem ado:∀a b:List aH,wL (a++b)=wL a+wL b
 | [],b=>by simp [wL]
 | f::a,b=>by simp only [jM,wL,ado a b];omega
theorem NG:∀ {l:List aH},(∀f∈l,pG f)->dS l
 | [],_=>by simp only [dS]
 | f::l,h=>by
   simp only [dS];exact ⟨h f (by simp),NG λg hg=>h g (by simp [hg])⟩
theorem af9 {a b:List aH} (h:a.Perm b) (hb:dS b):dS a:=NG λf hf=>Bc hb f (h.mem_iff.1 hf)
theorem af8 {a b:List aH} (ha:dS a) (hb:dS b):dS (a++b):=NG λf hf=>(oz.1 hf).elim (Bc ha f) (Bc hb f)
/-- Slices.SortFunc puts them as the document does. -/
theorem amK (l:List aH) (hn:(l.map aH.tag).Nodup):rZ (aF l)=aF (Gg [] l):=by
 have hp:=VQ (aF l);have hs:=amJ (aF l);rw [yt] at hp;obtain ⟨p,hp1,hp2⟩:=ajB hp l rfl;rw [<- yt] at hp2;have hq:=Tq l [] List.Pairwise.nil hn;rw [fJ] at hq;have hsp:p.Pairwise (λa b=>a.tag<=b.tag):=by
  rw [adC];intro i j hi hj hij;have:=hs i j (kW p[i]) (kW p[j]) hij (by rw [hp2,iQ,bK hi];rfl) (by rw [hp2,iQ,bK hj];rfl);rwa [acR,acR] at this
 have e:=Pm p (Gg [] l) (hp1.trans hq.1.symm) hsp hq.2;rw [hp2,e,yt]
theorem abV (l:List aH) (hl:l.length<=10000000) (hp:l.Pairwise (λa b=>a.tag < b.tag)):∀m i:Nat,i+1+m=l.length->TT.lim 77 [.l (aF l),.i .i64 ((i:Int)+1)]=some [.i .i64 1]
 | 0,i,hi=>by
   have h:¬ ((i:Int)+1 < l.length):=by omega
   have hg:=pI l;refine aA rfl rfl ?_;simp [hg,h]
 | m+1,i,hi=>by
   have h:((i:Int)+1 < l.length):=by omega
   have hg:=pI l;have ih:=abV l hl hp m (i+1) (by omega);obtain ⟨t,y,n,s,k,g1,g2,g3,g4⟩:=FQ (l:=l) (i:=i) (by omega);obtain ⟨t',y',n',s',k',g1',g2',g3',g4'⟩:=FQ (l:=l) (i:=i+1) (by omega);have hlt:t < t':=by
    have:=adC.1 hp i (i+1) (by omega) (by omega) (by omega);have e1:l[i]=.mk t y n s k:=by have:=bK (l:=l) (i:=i) (by omega);rw [g1] at this;injection this with this;exact this.symm
    have e2:l[i+1]=.mk t' y' n' s' k':=by have:=bK (l:=l) (i:=i+1) (by omega);rw [g1'] at this;injection this with this;exact this.symm
    rw [e1,e2] at this;exact this
   have hne:¬ t'=t:=by omega
   have hcast:((i+1:Nat):Int)=(i:Int)+1:=by omega
   rw [hcast] at ih;have hw:=wrap64 (n:=(i:Int)+1+1) (by omega) (by omega);have hw2:=wrap64 (n:=(i:Int)+1 - 1) (by omega) (by omega);have hw3:(i:Int)+1 - 1=i:=by omega
   rw [hw3] at hw2;have hn0:(0:Int)<=(i:Int)+1:=by omega
   have ht:((i:Int)+1).toNat=i+1:=by omega
   have hi0:i < l.length:=by omega
   have gi:∀h:i < (aF l).length,(aF l)[i]=pF t y n s k:=λh=>by have:=bK h;rw [g2] at this;injection this with this;exact this.symm
   have gi':∀h:i+1 < (aF l).length,(aF l)[i+1]=pF t' y' n' s' k':=λh=>by have:=bK h;rw [g2'] at this;injection this with this;exact this.symm
   refine aA rfl rfl ?_;simp [gi,gi',hg,h,g2,g2',hne,hw,hw2,hw3,hn0,ht,hi0,ih]
theorem ajZ (a b:List aH) (oa:dS a) (ob:dS b) (la:a.length<=1000000) (lb:b.length<=1000000) (sa:cu a+cu b<=1000000) (ha:gK 0 0 a=0) (hb:gK 0 0 b=0) (hn:((a++b).map aH.tag).Nodup):TT.lim 75 [.l [.l (aF a),.l (aF b)]]=some [.l (aF (rU a b)),.i .i64 0]:=by
 have k1:=Nu a oa la;have k2:=Nu b ob lb;rw [ha] at k1;rw [hb] at k2;have hab:=NC a b;have l1:=pI a;have l2:=pI b;have o1:=ZQ a;have o2:=ZQ b;have hso:TT.lim 0 [.l (aF a++aF b)]=some [.l (aF (rU a b))]:=by
  refine Hz (Ds:=Ds) (f:=Ky) rfl ?_;have h1:(aF a++aF b).length<=281474976710656/\(aF a++aF b).all isTagged=true:=by
   rw [<- hab];exact ⟨by rw [pI,bY];omega,af6 _⟩
  show (if (aF a++aF b).length<=281474976710656/\(aF a++aF b).all isTagged=true then some [GV.l (rZ (aF a++aF b))] else none)=_
  rw [ak h1,<- hab,amK _ hn];rfl
 obtain ⟨mp,ms⟩:=Gp hn;have hml:(rU a b).length=a.length+b.length:=by rw [mp.length_eq,bY]
 have hsl:(aF (rU a b)).length=(aF a++aF b).length:=by rw [pI,hml,bY,l1,l2]
 have hcl:=Nv (rU a b) (by rw [an0 mp,acQ];exact sa);have h1:TT.lim 77 [.l (aF (rU a b)),.i .i64 1]=some [.i .i64 1]:=by
  rcases Xt (rU a b).length with h0 | h0
  ·have:rU a b=[]:=jD h0
   rw [this];have fn:aF []=[]:=by simp only [aF]
   rw [fn];refine aA rfl rfl ?_;simp
  ·have:=abV (rU a b) (by omega) ms ((rU a b).length - 1) 0 (by omega)
   simpa using this
 have w0:IntKind.i64.wrap 1=1:=by decide
 have w1:IntKind.i64.wrap 2=2:=by decide
 have c1:2 * (aF a).length * 64<=281474976710656/\(aF a).length<=281474976710656:=by omega
 have c2:2 * ((aF a).length+(aF b).length) * 64<=281474976710656/\(aF a).length+(aF b).length<=281474976710656:=by omega
 clear hn mp ms hml ha hb oa ob sa hab l1 l2;generalize aF (rU a b)=M at *;generalize aF a=A at *;generalize aF b=B at *;have a3:TT.lim 76 [.l (A++B),.l [.l A,.l B],.i .i64 2,.i .i64 2]=some [.i .i64 1,.l (A++B)]:=by
  refine aA rfl rfl ?_;simp
 have a2:TT.lim 76 [.l A,.l [.l A,.l B],.i .i64 2,.i .i64 1]=some [.i .i64 1,.l (A++B)]:=by
  refine aA rfl rfl ?_;simp [-List.all_eq_true,k2,w1,o2,c2,a3]
 have a1:TT.lim 76 [.l [],.l [.l A,.l B],.i .i64 2,.i .i64 0]=some [.i .i64 1,.l (A++B)]:=by
  refine aA rfl rfl ?_;simp [-List.all_eq_true,k1,w0,o1,c1,a2]
 rw [bY] at hsl;refine bF rfl rfl ?_ rfl;simp [a1,hso,hsl,h1,hcl]
def vU (b:aB) (s:bP):Option aH:=match placeOf s.name with
 | some p=>if (aV b p).1=0/\(aV b p).2=[] then none else some (.mk s.tag (aY p) (aV b p).1 (aV b p).2 [])
 | none=>none
def je (b:aB) (l:List bP):List aH:=l.filterMap (vU b)
theorem Bl (b:aB) (s:bP) (l:List bP):je b (s::l)=(match vU b s with | some f=>[f] | none=>[])++je b l:=by
 unfold je;rw [List.filterMap_cons];cases vU b s<;>rfl
theorem abP {b:aB} {fl:List aH} (hM:vI b fl) (ls:List bP) (hl:ls.length<=1000) (hls:∀s∈ls,placeOf s.name≠none/\s.use=Wv s.name):∀ (m i:Nat) (acc:List aH),i+m=ls.length->acc.length+m<=2000->
 TT.lim 68 ([.l (aF acc),.l (ls.map dQ),.i .i64 ls.length,.i .i64 i]++(jf b (aF fl)).cells)=some [.i .i64 0,.l (aF (acc++je b (ls.drop i)))]
 | 0,i,acc,hi,ha=>by
   have h:¬ ((i:Int) < ls.length):=by omega
   have e:ls.drop i=[]:=iZ (by omega);rw [e];have:je b []=[]:=rfl;rw [this,mM,xq];simp only [jM,fJ];refine aA rfl rfl ?_;simp [h]
 | m+1,i,acc,hi,ha=>by
   have hlt:i < ls.length:=by omega
   have h:((i:Int) < ls.length):=by omega
   obtain ⟨p,v1⟩:∃p,placeOf ls[i].name=some p:=by
    cases e:placeOf ls[i].name with
    | some p=>exact ⟨p,rfl⟩
    | none=>exact absurd e (hls _ (jE hlt)).1
   have v2:=aiU hM v1;have hdr:ls.drop i=ls[i]::ls.drop (i+1):=kS hlt;have hat:(ls.map dQ)[i]? = some (dQ ls[i]):=by rw [iQ,bK hlt];rfl
   have hcast:((i+1:Nat):Int)=(i:Int)+1:=by omega
   have hw:=wrap64 (n:=(i:Int)+1) (by omega) (by omega);rw [hdr,Bl];have hk:vU b ls[i]=if (aV b p).1=0/\(aV b p).2=[] then none else some (.mk ls[i].tag (aY p) (aV b p).1 (aV b p).2 []):=by unfold vU;rw [v1]
   rw [hk];have ih:=abP hM ls hl hls m (i+1);generalize ls[i]=s at *;clear hk hdr v1;have la:=pI acc;have fn:aF []=[]:=by simp only [aF]
   have hel:(pF s.tag (aY p) (aV b p).1 (aV b p).2 []).fQ 5=true:=rfl;have hfe:GV.g [.i .u64 s.tag,.i .i64 (aY p),.i .u64 (aV b p).1,.s (aV b p).2,.l []]=pF s.tag (aY p) (aV b p).1 (aV b p).2 []:=by unfold pF;rw [fn]
   have c1:2 * ((aF acc).length+1) * 64<=281474976710656/\(aF acc).length+1<=281474976710656:=by omega
   by_cases hz:(aV b p).1=0/\(aV b p).2=[]
   ·rw [ak hz]
    have ih:=ih acc (by omega) (by omega);rw [xq,hcast] at ih;rw [xq];simp only [jM,fJ] at ih ⊢;clear hel hfe c1 la;obtain ⟨z1,z2⟩:=hz;rw [z1,z2] at v2;generalize aF acc=A at *;generalize aF fl=r at *;generalize ls.map dQ=SP at *;generalize aY p=ty at *;refine aA rfl rfl ?_;simp [h,hat,qQ,v2,hw,ih]
   ·rw [ah hz]
    have ih:=ih (acc++[.mk s.tag (aY p) (aV b p).1 (aV b p).2 []]) (by omega) (by rw [bY,uy];omega);have hfa:aF (acc++[.mk s.tag (aY p) (aV b p).1 (aV b p).2 []])=aF acc++[pF s.tag (aY p) (aV b p).1 (aV b p).2 []]:=by rw [NC];simp only [aF,kW];rfl
    rw [xq,hcast,hfa,List.append_assoc] at ih;rw [xq];simp only [jM,fJ] at ih ⊢;generalize hR:aF (acc++.mk s.tag (aY p) (aV b p).1 (aV b p).2 []::je b (ls.drop (i+1)))=R at *;clear hR hfa la;generalize pF s.tag (aY p) (aV b p).1 (aV b p).2 []=E at *;generalize aF acc=A at *;generalize aF fl=r at *;generalize ls.map dQ=SP at *;generalize aY p=ty at *;generalize aV b p=vv at *;obtain ⟨n,t⟩:=vv;simp only at *;by_cases hn:n=0
    ·have ht:¬ t=[]:=λe=>hz ⟨hn,e⟩
     subst hn;refine aA rfl rfl ?_;simp [h,hat,qQ,v2,ht,hfe,hel,c1,hw,ih]
    ·refine aA rfl rfl ?_
     simp [h,hat,qQ,v2,hn,hfe,hel,c1,hw,ih]
theorem Dj:∀ (l:List aH) (w:Nat) (a:Int),gK w a l=0->(∀f∈l,f.tag≠0/\f.tag<=4294967296/\uM w f=0/\a < f.tag)/\l.Pairwise (λx y=>x.tag < y.tag)
 | [],w,a,_=>⟨by simp,List.Pairwise.nil⟩
 | f::l,w,a,h=>by
   unfold gK at h;by_cases h1:f.tag=0
   ·rw [ak h1] at h;exact absurd h (by decide)
   rw [ah h1] at h;by_cases h2:4294967296 < f.tag
   ·rw [ak h2] at h;exact absurd h (by decide)
   rw [ah h2] at h;by_cases h3:f.tag<=a
   ·rw [ak h3] at h;exact absurd h (by decide)
   rw [ah h3] at h;by_cases h4:uM w f=0;rotate_left
   ·rw [ak h4] at h;exact absurd h h4
   rw [ah (λe=>e h4)] at h;obtain ⟨i1,i2⟩:=Dj l w f.tag h;refine ⟨λg hg=>?_,vG.2 ⟨λg hg=>(i1 g hg).2.2.2,i2⟩⟩;rcases dn.1 hg with rfl | hg
   ·exact ⟨h1,by omega,h4,by omega⟩
   ·obtain ⟨q1,q2,q3,q4⟩:=i1 g hg
    exact ⟨q1,q2,q3,by omega⟩
theorem MJ:∀ (l:List aH) (w:Nat) (a:Int),(∀f∈l,f.tag≠0/\f.tag<=4294967296/\uM w f=0/\a < f.tag)->l.Pairwise (λx y=>x.tag < y.tag)->gK w a l=0
 | [],w,a,_,_=>by unfold gK;rfl
 | f::l,w,a,h,hp=>by
   obtain ⟨q1,q2,q3,q4⟩:=h f (by simp);rw [vG] at hp;unfold gK;rw [ah q1,ah (by omega),ah (by omega),ah (λe=>e q3)];refine MJ l w f.tag (λg hg=>?_) hp.2;obtain ⟨r1,r2,r3,r4⟩:=h g (by simp [hg]);exact ⟨r1,r2,r3,hp.1 g hg⟩
theorem amO (k:Int):(nI k).Pairwise (λs t=>s.tag < t.tag)/\∀s∈nI k,1<=s.tag/\s.tag<=5:=by
 unfold nI;repeat' split
 all_goals first | (unfold sp1;decide) | (unfold sp2;decide) | (unfold qW;decide) | (unfold zV;decide) | (unfold qX;decide) | (unfold qY;decide) | (unfold qZ;decide) | (unfold zW;decide) | exact ⟨List.Pairwise.nil,λs hs=>by cases hs⟩
theorem DK (k v:Int):(aN k v).Pairwise (λs t=>s.tag < t.tag)/\∀s∈aN k v,1<=s.tag/\s.tag<=5:=by
 obtain ⟨h1,h2⟩:=amO k;exact ⟨h1.sublist Qv,λs hs=>h2 s (uz.1 hs).1⟩
theorem JI {b:aB} {s:bP} {f:aH} (h:vU b s=some f):∃p,placeOf s.name=some p/\f=.mk s.tag (aY p) (aV b p).1 (aV b p).2 []/\¬ ((aV b p).1=0/\(aV b p).2=[]):=by
 unfold vU at h;cases hp:placeOf s.name with
 | none=>rw [hp] at h;cases h
 | some p=>
   rw [hp] at h;simp only at h;by_cases hz:(aV b p).1=0/\(aV b p).2=[]
   ·rw [ak hz] at h;cases h
   ·rw [ah hz] at h
    injection h with h
    exact ⟨p,rfl,h.symm,hz⟩
theorem JJ {b:aB} {l:List bP} {f:aH} (h:f∈je b l):∃s∈l,∃p,placeOf s.name=some p/\f=.mk s.tag (aY p) (aV b p).1 (aV b p).2 []/\¬ ((aV b p).1=0/\(aV b p).2=[]):=by
 unfold je at h;obtain ⟨s,hs,hf⟩:=List.mem_filterMap.1 h;exact ⟨s,hs,JI hf⟩
theorem Oi (b:aB):∀ (l:List bP),l.Pairwise (λs t=>s.tag < t.tag)->(je b l).Pairwise (λx y=>x.tag < y.tag)
 | [],_=>List.Pairwise.nil
 | s::l,h=>by
   rw [vG] at h;rw [Bl];have ih:=Oi b l h.2;cases hk:vU b s with
   | none=>exact ih
   | some f=>
     obtain ⟨p, -,rfl, -⟩:=JI hk;refine vG.2 ⟨λg hg=>?_,ih⟩;obtain ⟨s',hs',p', -,rfl, -⟩:=JJ hg;exact h.1 s' hs'
theorem aos (b:aB) (p:Pl):(aY p=0/\(aV b p).2=[])\/(aY p=1/\(aV b p).1=0):=by
 cases p<;>simp [aY,aV]
theorem TK (b:aB) (k v:Int):gK 0 0 (je b (aN k v))=0:=by
 obtain ⟨h1,h2⟩:=DK k v;refine MJ _ 0 0 (λf hf=>?_) (Oi b _ h1);obtain ⟨s,hs,p, -,rfl, -⟩:=JJ hf;have:=h2 s hs;refine ⟨by show s.tag≠0;omega,by show s.tag<=_;omega, ?_,by show 0 < s.tag;omega⟩;unfold uM;rcases aos b p with ⟨q1,q2⟩ | ⟨q1,q2⟩
 ·rw [q1,q2];simp
 ·rw [q1,q2];simp
def Short (b:aB):Prop:=b.name.length<=600/\b.region.length<=600/\b.note.length<=600
theorem ade {b:aB} {fl:List aH} (h:vI b fl) (hw:Short b) (p:Pl):(0<=(aV b p).1/\(aV b p).1 < 18446744073709551616)/\(aV b p).2.length<=100000000:=by
 have q:=h.body;obtain ⟨w1,w2,w3⟩:=hw;cases p with
 | rem=>
   have hr:=q.remaining;exact ⟨by simp only [aV];unfold zz;split<;>omega,by simp [aV]⟩
 | allow=>refine ⟨?_,by simp [aV]⟩;simp only [aV];split<;>omega
 | name=>exact ⟨by simp [aV],by simp only [aV];omega⟩
 | region=>exact ⟨by simp [aV],by simp only [aV];omega⟩
 | note=>exact ⟨by simp [aV],by simp only [aV];omega⟩
 | d=>
   refine ⟨by simp [aV], ?_⟩;simp only [aV];have:=JH h.d;split
   ·simp
   ·omega
 | t=>
   refine ⟨by simp [aV], ?_⟩;simp only [aV];have:=abL b.t h.t;split
   ·simp
   ·unfold yE
    split
    ·simp
    ·simp only;omega
 | num k=>
   refine ⟨?_,by simp [aV]⟩;simp only [aV];unfold fK;split<;>first | exact q.id | exact q.min | exact q.max | exact q.chosen | exact q.flags | exact q.cost | exact q.priority | exact q.deadline | exact q.retry | exact q.epoch | exact q.base | exact q.digest | exact q.lag | exact q.code | exact q.want
theorem aaF {b:aB} {fl:List aH} (h:vI b fl) (hw:Short b) (k v:Int):dS (je b (aN k v)):=NG λf hf=>by
 obtain ⟨s,hs,p, -,rfl, -⟩:=JJ hf;have ht:=(DK k v).2 s hs;have hv:=ade h hw p;have hy:0<=aY p/\aY p<=1:=by cases p<;>simp [aY]
 simp only [pG,dS];refine ⟨⟨?_, ?_, ?_, ?_,hv.1.1,hv.1.2,hv.2, ?_⟩,trivial⟩;all_goals first | omega | simp
theorem aaE (b:aB) (k v:Int):(je b (aN k v)).length<=8:=jF (List.length_filterMap_le _ _) (Bo k v)
theorem aaG (b:aB):∀l:List bP,cu (je b l)<=2 * l.length
 | []=>by simp [je,cu]
 | s::l=>by
   rw [Bl];have ih:=aaG b l;cases hk:vU b s with
   | none=>simp only [fJ,jT];omega
   | some f=>
     obtain ⟨p, -,rfl, -⟩:=JI hk;simp only [jM,fJ,cu,su,jT];omega
theorem aaH {b:aB} {fl:List aH} (h:vI b fl) (hw:Short b):∀l:List bP,wL (je b l)<=100000040 * l.length
 | []=>by simp [je,wL]
 | s::l=>by
   rw [Bl];have ih:=aaH h hw l;cases hk:vU b s with
   | none=>simp only [fJ,jT];omega
   | some f=>
     obtain ⟨p, -,rfl, -⟩:=JI hk;have hv:=(ade h hw p).2;simp only [jM,fJ,wL,wF,jT];omega
/-- What is needed for a message that is written. -/
structure EU (b:aB) (fl:List aH):Prop where
 msg:vI b fl
 short:Short b
 sz:cu fl<=900000
 w:wL fl<=2000000000
theorem AP {b:aB} {fl:List aH} {v:Int} (h:gJ b fl v=0):1<=v/\v<=3/\aN b.kind v≠[]/\gK 0 0 fl=0/\∀f∈fl,hasTag (aN b.kind v) f.tag=false:=by
 unfold gJ at h;by_cases h1:v < 1
 ·rw [ak h1] at h;exact absurd h (by decide)
 rw [ah h1] at h;by_cases h2:3 < v
 ·rw [ak h2] at h;exact absurd h (by decide)
 rw [ah h2] at h;by_cases h3:aN b.kind v=[]
 ·rw [ak h3] at h;exact absurd h (by decide)
 rw [ah h3] at h;by_cases h4:l9.all (λn=>qN (aN b.kind v) n || nD b n)=false
 ·rw [ak h4] at h;exact absurd h (by decide)
 rw [ah h4] at h;by_cases h5:kZ b (aN b.kind v)≠0
 ·rw [ak h5] at h;exact absurd h h5
 rw [ah h5] at h;by_cases h6:uK b≠0
 ·rw [ak h6] at h;exact absurd h h6
 rw [ah h6] at h;unfold Eb at h;by_cases h7:gK 0 0 fl≠0
 ·rw [ak h7] at h;exact absurd h h7
 rw [ah h7] at h;by_cases h8:fl.any (λf=>hasTag (aN b.kind v) f.tag)=true
 ·rw [ak h8] at h;exact absurd h (by decide)
 refine ⟨by omega,by omega,h3,by simpa using h7,λf hf=>?_⟩;cases e:hasTag (aN b.kind v) f.tag with
 | false=>rfl
 | true=>exact absurd (List.any_eq_true.2 ⟨f,hf,e⟩) h8
theorem E5 {b:aB} {fl:List aH} {v:Int} (h:gJ b fl v=0):((je b (aN b.kind v)++fl).map aH.tag).Nodup:=by
 obtain ⟨-, -, -,h1,h2⟩:=AP h;have p1:=Oi b _ (DK b.kind v).1;have p2:=(Dj fl 0 0 h1).2;rw [xH,List.nodup_append];have nd:∀l:List aH,l.Pairwise (λx y=>x.tag < y.tag)->(l.map aH.tag).Nodup:=λl hl=>by
  unfold List.Nodup;rw [List.pairwise_map];exact hl.imp λh e=>by omega
 refine ⟨nd _ p1,nd _ p2,λx hx y hy e=>?_⟩;obtain ⟨f,hf,rfl⟩:=oC.1 hx;obtain ⟨g,hg,rfl⟩:=oC.1 hy;obtain ⟨s,hs,p, -,rfl, -⟩:=JJ hf;have:=h2 g hg;unfold hasTag at this;have h3:(aN b.kind v).any (λs=>decide (g.tag=s.tag))=true:=List.any_eq_true.2 ⟨s,hs,Rq (show g.tag=s.tag from e.symm)⟩;rw [h3] at this;cases this
def qH (b:aB) (fl:List aH) (v:Int):List aH:=rU (je b (aN b.kind v)) fl
def Nw (b:aB) (fl:List aH) (v:Int):List aH×Int:=if gJ b fl v=0 then (qH b fl v,0) else ([],gJ b fl v)
structure Qk (l:List aH):Prop where
 ok:dS l
 len:l.length<=1000000
 w:wL l<=1000000000000
 chk:gK 0 0 l=0
theorem XK {b:aB} {fl:List aH} {v:Int} (hm:EU b fl) (h:gJ b fl v=0):Qk (qH b fl v):=by
 obtain ⟨-, -, -,h1,h2⟩:=AP h;obtain ⟨mp,ms⟩:=Gp (E5 h);have hl:fl.length<=900000:=by
  have:∀l:List aH,l.length<=cu l:=λl=>by
   induction l with
   | nil=>simp [cu]
   | cons f l ih=>simp only [jT,cu];omega
  have:=this fl;have:=hm.sz;omega
 have kl:=aaE b b.kind v;have kw:=aaH hm.msg hm.short (aN b.kind v);have k8:=Bo b.kind v;have mw:=hm.w;refine ⟨af9 mp (af8 (aaF hm.msg hm.short _ _) hm.msg.f8), ?_, ?_, ?_⟩
 ·unfold qH;rw [mp.length_eq,bY];omega
 ·unfold qH;rw [aoY mp,ado]
  have:100000040 * (aN b.kind v).length<=100000040 * 8:=QF _ k8;omega
 ·refine MJ _ 0 0 (λf hf=>?_) ms
  rcases oz.1 (mp.mem_iff.1 hf) with hf | hf
  ·exact (Dj _ 0 0 (TK b b.kind v)).1 f hf
  ·exact (Dj _ 0 0 h1).1 f hf
theorem aaB {k v:Int} (h:aN k v≠[]):1<=k/\k<=8:=by
 by_cases c:1<=k/\k<=8
 ·exact c
 ·exfalso
  apply h;unfold aN nI;rw [ah (by omega),ah (by omega),ah (by omega),ah (by omega),ah (by omega),ah (by omega),ah (by omega),ah (by omega)];rfl
theorem ajC {b:aB} {fl:List aH} (hm:EU b fl) (v:Int):TT.lim 7 [jf b (aF fl),.i .i64 v]=some [.l (aF (Nw b fl v).1),.i .i64 (Nw b fl v).2]:=by
 have hc:=abd b fl v hm.msg.body hm.msg.t.few hm.msg.f8 hm.msg.len;unfold Nw;by_cases c:gJ b fl v=0;rotate_left
 ·rw [ah c]
  have fn:aF []=[]:=by simp only [aF]
  rw [fn];generalize aF fl=r at *;generalize gJ b fl v=ck at *;refine bF rfl rfl ?_ rfl;simp [qQ,hc,c]
 rw [ak c];rw [c] at hc;obtain ⟨v1,v3,hne,h8, -⟩:=AP c;have hk:=Og b.kind v v1 v3 (by
  have:=mt (Oj b.kind v v1 v3).2 hne;omega)
 have h0:=abP hm.msg (aN b.kind v) (by have:=Bo b.kind v;omega) (ahS b.kind v) (aN b.kind v).length 0 [] (by omega) (by have:=Bo b.kind v;simp;omega);have fn:aF []=[]:=by simp only [aF]
 rw [fH,fJ,xq,fn] at h0;simp only [jM,fJ,Ag] at h0;have hsz:=aaG b (aN b.kind v);have k8:=Bo b.kind v;have mo:=ajZ _ fl (aaF hm.msg hm.short b.kind v) hm.msg.f8 (by have:=aaE b b.kind v;omega) hm.msg.len (by have:=hm.sz;omega) (TK b b.kind v) h8 (E5 c);have hal:(((aN b.kind v).map dQ).length:Int)=((aN b.kind v).length:Int):=by rw [BX]
 unfold qH;generalize aF (rU (je b (aN b.kind v)) fl)=M at *;generalize aF (je b (aN b.kind v))=KV at *;generalize (aN b.kind v).map dQ=SP at *;generalize ((aN b.kind v).length:Int)=L at *;generalize aF fl=r at *;clear hsz k8 hne h8 c hm v1 v3;refine bF rfl rfl ?_ rfl;simp [qQ,hc,hk,hal,h0,mo]
/-- What is written, or why not. -/
def bytesV (b:aB) (fl:List aH) (v:Int):List UInt8:=aP b.kind.toNat++bH (qH b fl v)
def Dp (b:aB) (fl:List aH) (v:Int):List UInt8×Int:=if gJ b fl v=0 then (if 65536 < (bytesV b fl v).length then ([],4) else (bytesV b fl v,0)) else ([],gJ b fl v)
theorem abO {b:aB} {fl:List aH} (hm:EU b fl) (v:Int):TT.lim 6 [jf b (aF fl),.i .i64 v]=some [.s (Dp b fl v).1,.i .i64 (Dp b fl v).2]:=by
 have hf:=ajC hm v;unfold Nw at hf;unfold Dp;by_cases c:gJ b fl v=0;rotate_left
 ·rw [ah c] at hf ⊢
  generalize aF fl=r at *;generalize gJ b fl v=ck at *;refine bF rfl rfl ?_ rfl;simp [qQ,hf,c]
 rw [ak c] at hf ⊢;have ao:=XK hm c;have hw:=ao0 (qH b fl v) ao.ok ao.len ao.w ao.chk;obtain ⟨-, -,hne, -, -⟩:=AP c;obtain ⟨k1,k8⟩:=aaB hne;have hp:=vX b.kind.toNat (by omega);have hpl:=kQ (n:=b.kind.toNat) (by omega);rw [show ((b.kind.toNat:Nat):Int)=b.kind by omega] at hp;have wk:=jL (n:=b.kind) (by omega) (by omega);unfold bytesV;rw [bY];clear ao c hm hne;generalize qH b fl v=AF at *;generalize aP b.kind.toNat=V at *;generalize aF fl=r at *;generalize aF AF=G at *;generalize bH AF=F at *;by_cases c1:65536 < F.length
 ·rw [ak c1] at hw
  rw [ak (by omega)];refine bF rfl rfl ?_ rfl;simp [qQ,hf,hw]
 ·rw [ah c1] at hw
  have c3:(V.length:Int)+F.length<=9223372036854775807:=by omega
  by_cases c2:65536 < V.length+F.length
  ·have c2':(65536:Int) < V.length+F.length:=by omega
   rw [ak c2];refine bF rfl rfl ?_ rfl;simp [qQ,hf,hw,wk,hp,c2',c3]
  ·have c2':¬ (65536:Int) < V.length+F.length:=by omega
   rw [ah c2];refine bF rfl rfl ?_ rfl;simp [qQ,hf,hw,wk,hp,c2',c3]
/-- The field that stands next, within so many lists, above a tag; how many bytes it took; the code. -/
def gZ (rec:List UInt8->List aH×Int) (w:Nat) (ahead:Nat) (s:List UInt8):aH×Nat×Int:=
 if (au s).2.2≠0 then (.mk 0 0 0 [] [],0,(au s).2.2)
 else if (au s).1 / 4=0 then (.mk 0 0 0 [] [],0,18)
 else if 4294967296 < (au s).1 / 4 then (.mk 0 0 0 [] [],0,18)
 else if 3<=(au s).1 % 4 then (.mk 0 0 0 [] [],0,8)
 else if (au s).1 / 4<=ahead then (.mk 0 0 0 [] [],0,7)
 else
  let r:=s.drop (au s).2.1
  let k:=(au s).2.1+(au r).2.1
  if (au r).2.2≠0 then (.mk 0 0 0 [] [],0,(au r).2.2)
  else if (au s).1 % 4=0 then (.mk ((au s).1 / 4:Nat) 0 (au r).1 [] [],k,0)
  else if s.length - k < (au r).1 then (.mk 0 0 0 [] [],0,1)
  else if (au s).1 % 4=1 then (.mk ((au s).1 / 4:Nat) 1 0 ((s.drop k).take (au r).1) [],k+(au r).1,0)
  else if 8<=w then (.mk 0 0 0 [] [],0,9)
  else if (rec ((s.drop k).take (au r).1)).2≠0 then (.mk 0 0 0 [] [],0,(rec ((s.drop k).take (au r).1)).2)
  else (.mk ((au s).1 / 4:Nat) 2 0 [] (rec ((s.drop k).take (au r).1)).1,k+(au r).1,0)
/-- Fields, within so many lists, above a tag. -/
def dh:Nat->Nat->Nat->List UInt8->List aH×Int
 | 0,_,_,_=>([],0)
 | N+1,w,ahead,s=>if s=[] then ([],0) else
   if (gZ (λt=>dh N (w+1) 0 t) w ahead s).2.2≠0 then ([],(gZ (λt=>dh N (w+1) 0 t) w ahead s).2.2)
   else if (dh N w ((au s).1 / 4) (s.drop (gZ (λt=>dh N (w+1) 0 t) w ahead s).2.1)).2≠0 then ([],(dh N w ((au s).1 / 4) (s.drop (gZ (λt=>dh N (w+1) 0 t) w ahead s).2.1)).2)
   else ((gZ (λt=>dh N (w+1) 0 t) w ahead s).1::(dh N w ((au s).1 / 4) (s.drop (gZ (λt=>dh N (w+1) 0 t) w ahead s).2.1)).1,0)
theorem adS (n:Nat) (hn:n < 18446744073709551616):eH .and .u64 (n:Int) 3=some (.i .u64 ((n:Int) % 4)):=by
 have wu:∀y:Int,IntKind.u64.wrap y=y % 18446744073709551616:=λy=>by simp [IntKind.wrap,IntKind.signed,IntKind.bits]
 have e:n &&& 3=n % 4:=adD n 2;have h1:(BitVec.ofInt 64 (n:Int)).toNat=n:=by rw [wC];omega
 have h3:(BitVec.ofInt 64 3).toNat=3:=by decide
 show some (GV.i IntKind.u64 (IntKind.u64.wrap ((BitVec.ofInt 64 (n:Int) &&& BitVec.ofInt 64 3).toNat:Int)))=_
 rw [WQ,h1,h3,e,wu];congr 2;omega
theorem amf (n:Nat):nH .shr .u64 (n:Int) 2=some (.i .u64 ((n:Int) / 4)):=by
 show some (GV.i IntKind.u64 ((n:Int).fdiv (2 ^ 2)))=_
 rw [KU _ (by decide)];rfl
theorem akM (t y w:GV) (s:List UInt8) (at':Nat) (h:at'<=s.length) (hs:s.length<=100000000) (n x:GV) :
 TT.lim 92 [t,y,w,.s s,.i .i64 at',n,x]=some [.i .i64 0,.i .i64 (au (s.drop at')).2.2,.i .u64 ((au (s.drop at')).1:Nat),.s s,.i .i64 ((at'+(au (s.drop at')).2.1:Nat):Int)]:=by
 have k:=yJ s at' h (by omega);refine aA rfl rfl ?_;simp [k]
theorem akO (t y w:GV) (s:List UInt8) (at':Nat) (h:at'<=s.length) (hs:s.length<=100000000) (n:GV) :
 ∃a,TT.lim 93 [t,y,w,.s s,.i .i64 at',n,.s []]=some
  (if (au (s.drop at')).2.2≠0 then [.i .i64 0,.i .i64 (au (s.drop at')).2.2,.s [],.s s,.i .i64 (a:Nat)]
  else if s.length - (at'+(au (s.drop at')).2.1) < (au (s.drop at')).1 then [.i .i64 0,.i .i64 1,.s [],.s s,.i .i64 (a:Nat)]
  else [.i .i64 0,.i .i64 0,.s ((s.drop (at'+(au (s.drop at')).2.1)).take (au (s.drop at')).1),.s s,.i .i64 ((at'+(au (s.drop at')).2.1+(au (s.drop at')).1:Nat):Int)]):=by
 have k:=yJ s at' h (by omega);by_cases he:(au (s.drop at')).2.2=0;rotate_left
 ·refine ⟨at'+(au (s.drop at')).2.1, ?_⟩
  rw [ak he];generalize (au (s.drop at')).2.2=e at *;refine aA rfl rfl ?_;simp [k,he]
 have hv:=iY he;have hl:=hv.len;have hlt:=hv.lt;rw [dY] at hl;rw [he] at k;refine ⟨at'+(au (s.drop at')).2.1, ?_⟩;rw [ah (λx=>x he)];clear he;generalize (au (s.drop at')).1=m at *;generalize (au (s.drop at')).2.1=j at *;have w1:=wrap64 (n:=(s.length:Int) - ((at'+j:Nat):Int)) (by omega) (by omega);have w2:=jL (n:=(s.length:Int) - ((at'+j:Nat):Int)) (by omega) (by omega);by_cases c:s.length - (at'+j) < m
 ·have c':(s.length:Int) - ((at'+j:Nat):Int) < (m:Int):=by omega
  rw [ak c];generalize ((at'+j:Nat):Int)=A at *;refine aA rfl rfl ?_;simp [k,w1,w2,c']
 ·have c':¬ ((s.length:Int) - ((at'+j:Nat):Int) < (m:Int)):=by omega
  rw [ah c];have w3:=wrap64 (n:=(m:Int)) (by omega) (by omega);have w4:=wrap64 (n:=((at'+j:Nat):Int)+(m:Int)) (by omega) (by omega);have e4:((at'+j:Nat):Int)+(m:Int)=((at'+j+m:Nat):Int):=by omega
  rw [e4] at w4;have b1:(0:Int)<=((at'+j:Nat):Int)/\((at'+j:Nat):Int)<=((at'+j+m:Nat):Int)/\((at'+j+m:Nat):Int)<=s.length:=by omega
  have hsl:(s.take (at'+j+m)).drop (at'+j)=(s.drop (at'+j)).take m:=by rw [EJ,show at'+j+m - (at'+j)=m by omega]
  have t1:(((at'+j:Nat):Int)).toNat=at'+j:=by omega
  have t2:(((at'+j+m:Nat):Int)).toNat=at'+j+m:=by omega
  generalize hA:((at'+j:Nat):Int)=A at *;generalize hB:((at'+j+m:Nat):Int)=B at *;refine aA rfl rfl ?_;simp [k,w1,w2,c',w3,e4,w4,b1,t1,t2,hsl]
/-- What is told for reading up to a size. -/
def IL (N:Nat):Prop:=∀ (w ahead at':Nat) (s:List UInt8),at'<=s.length->s.length<=100000000->(s.drop at').length < N->w<=8->ahead < 18446744073709551616->∃a b,TT.lim 88 [.s s,.i .i64 (w:Nat),.i .u64 (ahead:Nat),.i .i64 (at':Nat)]=some [.i .i64 0,.l (aF (dh N w ahead (s.drop at')).1),.i .i64 (dh N w ahead (s.drop at')).2,.i .u64 (a:Nat),.s s,.i .i64 (b:Nat)]
theorem akJ {N:Nat} (hN:IL N) (t y:GV) (w:Nat) (hw:w<=8) (s:List UInt8) (at':Nat) (h:at'<=s.length) (hs:s.length<=100000000) (Sz:(s.drop at').length<=N) (n x:GV) :
 ∃a,TT.lim 94 [t,y,.i .i64 (w:Nat),.s s,.i .i64 at',n,x]=some
  (if (au (s.drop at')).2.2≠0 then [.i .i64 0,.i .i64 (au (s.drop at')).2.2,.l [],.s s,.i .i64 (a:Nat)]
  else if s.length - (at'+(au (s.drop at')).2.1) < (au (s.drop at')).1 then [.i .i64 0,.i .i64 1,.l [],.s s,.i .i64 (a:Nat)]
  else if 8<=w then [.i .i64 0,.i .i64 9,.l [],.s s,.i .i64 (a:Nat)]
  else [.i .i64 0,.i .i64 (dh N (w+1) 0 ((s.drop (at'+(au (s.drop at')).2.1)).take (au (s.drop at')).1)).2,.l (aF (dh N (w+1) 0 ((s.drop (at'+(au (s.drop at')).2.1)).take (au (s.drop at')).1)).1),.s s,.i .i64 ((at'+(au (s.drop at')).2.1+(au (s.drop at')).1:Nat):Int)]):=by
 have k:=yJ s at' h (by omega);by_cases he:(au (s.drop at')).2.2=0;rotate_left
 ·refine ⟨at'+(au (s.drop at')).2.1, ?_⟩
  rw [ak he];generalize (au (s.drop at')).2.2=e at *;refine aA rfl rfl ?_;simp [k,he]
 have hv:=iY he;have hl:=hv.len;have hlt:=hv.lt;have hp:=hv.pos;rw [dY] at hl Sz;rw [he] at k;by_cases c:s.length - (at'+(au (s.drop at')).2.1) < (au (s.drop at')).1
 ·refine ⟨at'+(au (s.drop at')).2.1, ?_⟩
  rw [ah (λx=>x he),ak c];clear he;generalize (au (s.drop at')).1=m at *;generalize (au (s.drop at')).2.1=j at *;have w1:=wrap64 (n:=(s.length:Int) - ((at'+j:Nat):Int)) (by omega) (by omega);have w2:=jL (n:=(s.length:Int) - ((at'+j:Nat):Int)) (by omega) (by omega);have c':(s.length:Int) - ((at'+j:Nat):Int) < (m:Int):=by omega
  generalize ((at'+j:Nat):Int)=A at *;refine aA rfl rfl ?_;simp [k,w1,w2,c']
 by_cases c8:8<=w
 ·refine ⟨at'+(au (s.drop at')).2.1+(au (s.drop at')).1, ?_⟩
  rw [ah (λx=>x he),ah c,ak c8];clear he;generalize (au (s.drop at')).1=m at *;generalize (au (s.drop at')).2.1=j at *;have w1:=wrap64 (n:=(s.length:Int) - ((at'+j:Nat):Int)) (by omega) (by omega);have w2:=jL (n:=(s.length:Int) - ((at'+j:Nat):Int)) (by omega) (by omega);have c':¬ ((s.length:Int) - ((at'+j:Nat):Int) < (m:Int)):=by omega
  have w3:=wrap64 (n:=(m:Int)) (by omega) (by omega);have w4:=wrap64 (n:=((at'+j:Nat):Int)+(m:Int)) (by omega) (by omega);have e4:((at'+j:Nat):Int)+(m:Int)=((at'+j+m:Nat):Int):=by omega
  rw [e4] at w4;have b1:(0:Int)<=((at'+j:Nat):Int)/\((at'+j:Nat):Int)<=((at'+j+m:Nat):Int)/\((at'+j+m:Nat):Int)<=s.length:=by omega
  have CX:(8:Int)<=(w:Int):=by omega
  generalize hA:((at'+j:Nat):Int)=A at *;generalize hB:((at'+j+m:Nat):Int)=B at *;refine aA rfl rfl ?_;simp [k,w1,w2,c',w3,e4,w4,b1,CX]
 ·refine ⟨0, ?_⟩
  rw [ah (λx=>x he),ah c,ah c8];clear he;generalize (au (s.drop at')).1=m at *;generalize (au (s.drop at')).2.1=j at *;have hr:=hN (w+1) 0 0 ((s.drop (at'+j)).take m) (by omega) (by rw [nK,dY];omega) (by rw [fH,nK,dY];omega) (by omega) (by omega);obtain ⟨a,b,hr⟩:=hr;rw [fH] at hr;have w1:=wrap64 (n:=(s.length:Int) - ((at'+j:Nat):Int)) (by omega) (by omega);have w2:=jL (n:=(s.length:Int) - ((at'+j:Nat):Int)) (by omega) (by omega);have c':¬ ((s.length:Int) - ((at'+j:Nat):Int) < (m:Int)):=by omega
  have w3:=wrap64 (n:=(m:Int)) (by omega) (by omega);have w4:=wrap64 (n:=((at'+j:Nat):Int)+(m:Int)) (by omega) (by omega);have e4:((at'+j:Nat):Int)+(m:Int)=((at'+j+m:Nat):Int):=by omega
  rw [e4] at w4;have b1:(0:Int)<=((at'+j:Nat):Int)/\((at'+j:Nat):Int)<=((at'+j+m:Nat):Int)/\((at'+j+m:Nat):Int)<=s.length:=by omega
  have hsl:(s.take (at'+j+m)).drop (at'+j)=(s.drop (at'+j)).take m:=by rw [EJ,show at'+j+m - (at'+j)=m by omega]
  have t1:(((at'+j:Nat):Int)).toNat=at'+j:=by omega
  have t2:(((at'+j+m:Nat):Int)).toNat=at'+j+m:=by omega
  have CX:¬ (8:Int)<=(w:Int):=by omega
  have w5:=wrap64 (n:=(w:Int)+1) (by omega) (by omega);have e5:(w:Int)+1=((w+1:Nat):Int):=by omega
  simp only [Ag] at hr;rw [<- e5] at hr;generalize (s.drop (at'+j)).take m=T at *;generalize dh N (w+1) 0 T=R at *;generalize hA:((at'+j:Nat):Int)=A at *;generalize hB:((at'+j+m:Nat):Int)=B at *;generalize hW:(w:Int)=W at *;clear e5;refine aA rfl rfl ?_;simp [k,w1,w2,c',w3,e4,w4,b1,t1,t2,hsl,CX,w5,hr]
theorem akL {N:Nat} (hN:IL N) (w ahead:Nat) (hw:w<=8) (ha:ahead < 18446744073709551616) (s:List UInt8) (at':Nat) (h:at'<=s.length) (hs:s.length<=100000000) (Sz:(s.drop at').length<=N+1) :
 ∃a b:Nat,TT.lim 90 [.i .i64 (w:Nat),.i .u64 (ahead:Nat),.s s,.i .i64 at']=some (.i .i64 0::((kW (gZ (λt=>dh N (w+1) 0 t) w ahead (s.drop at')).1).cells++[.i .i64 (gZ (λt=>dh N (w+1) 0 t) w ahead (s.drop at')).2.2,.i .u64 (a:Nat),.s s,.i .i64 (b:Nat)]))/\
  ((gZ (λt=>dh N (w+1) 0 t) w ahead (s.drop at')).2.2=0->a=(au (s.drop at')).1 / 4/\b=at'+(gZ (λt=>dh N (w+1) 0 t) w ahead (s.drop at')).2.1/\1<=(gZ (λt=>dh N (w+1) 0 t) w ahead (s.drop at')).2.1/\b<=s.length):=by
 have k:=yJ s at' h (by omega);have fn:aF []=[]:=by simp only [aF]
 have hz:(kW (.mk 0 0 0 [] [])).cells=[.i .u64 0,.i .i64 0,.i .u64 0,.s [],.l []]:=by rw [FP,fn]
 unfold gZ;by_cases he:(au (s.drop at')).2.2=0;rotate_left
 ·refine ⟨ahead,at'+(au (s.drop at')).2.1, ?_, ?_⟩
  ·simp only [ak he]
   rw [hz];generalize (au (s.drop at')).2.2=e at *;refine aA rfl rfl ?_;simp [k,he]
  ·simp only [ak he];exact λx=>absurd x he
 have hv:=iY he;have hl:=hv.len;have hlt:=hv.lt;have hp:=hv.pos;rw [dY] at hl Sz;have hdd:(s.drop at').drop (au (s.drop at')).2.1=s.drop (at'+(au (s.drop at')).2.1):=by rw [oQ]
 rw [hdd];have hud:(s.drop at').length=s.length - at':=dY;rw [hud];rw [he] at k;simp only [ah (λx=>x he:¬ (au (s.drop at')).2.2≠0)];have hdk:∀j2:Nat,(s.drop at').drop ((au (s.drop at')).2.1+j2)=s.drop (at'+(au (s.drop at')).2.1+j2):=λj2=>by rw [oQ,gX]
 rw [hdk];clear he hv hdd hud hdk;generalize (au (s.drop at')).1=n at *;generalize (au (s.drop at')).2.1=j at *;have S:=amf n;have A:=adS n hlt;have wA:=wrap64 (n:=(n:Int) % 4) (by omega) (by omega);by_cases c1:n / 4=0
 ·refine ⟨ahead,at'+j, ?_, ?_⟩
  ·simp only [ak c1]
   rw [hz];have c1':(n:Int) / 4=0:=by omega
   generalize (n:Int) / 4=q at *;refine aA rfl rfl ?_;simp [k,S,A,wA,c1']
  ·simp only [ak c1];exact λx=>absurd x (by decide)
 have c1':¬ (n:Int) / 4=0:=by omega
 simp only [ah c1];by_cases c2:4294967296 < n / 4
 ·refine ⟨ahead,at'+j, ?_, ?_⟩
  ·simp only [ak c2]
   rw [hz];have c2':4294967296 < (n:Int) / 4:=by omega
   generalize (n:Int) / 4=q at *;refine aA rfl rfl ?_;simp [k,S,A,wA,c1',c2']
  ·simp only [ak c2];exact λx=>absurd x (by decide)
 have c2':¬ 4294967296 < (n:Int) / 4:=by omega
 simp only [ah c2];by_cases c3:3<=n % 4
 ·refine ⟨ahead,at'+j, ?_, ?_⟩
  ·simp only [ak c3]
   rw [hz];have c3':3<=(n:Int) % 4:=by omega
   generalize (n:Int) / 4=q at *;generalize (n:Int) % 4=y at *;refine aA rfl rfl ?_;simp [k,S,A,wA,c1',c2',c3']
  ·simp only [ak c3];exact λx=>absurd x (by decide)
 have c3':¬ 3<=(n:Int) % 4:=by omega
 simp only [ah c3];by_cases c4:n / 4<=ahead
 ·refine ⟨ahead,at'+j, ?_, ?_⟩
  ·simp only [ak c4]
   rw [hz];have mW:(n:Int) / 4<=(ahead:Int):=by omega
   generalize (n:Int) / 4=q at *;generalize (n:Int) % 4=y at *;generalize (ahead:Int)=AH at *;refine aA rfl rfl ?_;simp [k,S,A,wA,c1',c2',c3',mW]
  ·simp only [ak c4];exact λx=>absurd x (by decide)
 have mW:¬ (n:Int) / 4<=(ahead:Int):=by omega
 simp only [ah c4];have qn:((n / 4:Nat):Int)=(n:Int) / 4:=by omega
 have hj:at'+j<=s.length:=by omega
 rcases (show n % 4=0\/n % 4=1\/n % 4=2 by omega) with y0 | y1 | y2
 ·have y':(n:Int) % 4=0:=by omega
  have kn:=akM (.i .u64 ((n:Int) / 4)) (.i .i64 0) (.i .i64 (w:Nat)) s (at'+j) hj hs (.i .u64 0) (.s []);rw [y'] at A wA;by_cases e2:(au (s.drop (at'+j))).2.2=0
  ·have hv2:=iY e2
   have hl2:=hv2.len;rw [dY] at hl2;refine ⟨n / 4,at'+j+(au (s.drop (at'+j))).2.1, ?_, ?_⟩
   ·simp only [ah (λx=>x e2:¬ (au (s.drop (at'+j))).2.2≠0),ak y0]
    rw [FP,fn,qn];rw [e2] at kn;clear hv2 hl2 e2;generalize (au (s.drop (at'+j))).1=m at *;generalize ((at'+j+(au (s.drop (at'+j))).2.1:Nat):Int)=B at *;generalize ((at'+j:Nat):Int)=AT at *;generalize (n:Int) / 4=q at *;generalize (ahead:Int)=AH at *;refine aA rfl rfl ?_;simp [k,S,A,wA,c1',c2',mW,kn]
   ·simp only [ah (λx=>x e2:¬ (au (s.drop (at'+j))).2.2≠0),ak y0]
    refine λ_=>⟨?_, ?_, ?_, ?_⟩<;>first | trivial | rfl | omega
  ·refine ⟨n / 4,at'+j+(au (s.drop (at'+j))).2.1, ?_, ?_⟩
   ·simp only [ak e2]
    rw [hz,qn];generalize (au (s.drop (at'+j))).1=m at *;generalize ((at'+j+(au (s.drop (at'+j))).2.1:Nat):Int)=B at *;generalize (au (s.drop (at'+j))).2.2=e at *;generalize ((at'+j:Nat):Int)=AT at *;generalize (n:Int) / 4=q at *;generalize (ahead:Int)=AH at *;refine aA rfl rfl ?_;simp [k,S,A,wA,c1',c2',mW,kn,e2]
   ·simp only [ak e2];exact λx=>absurd x e2
 ·have y':(n:Int) % 4=1:=by omega
  have y0:¬ n % 4=0:=by omega
  obtain ⟨a,kn⟩:=akO (.i .u64 ((n:Int) / 4)) (.i .i64 1) (.i .i64 (w:Nat)) s (at'+j) hj hs (.i .u64 0);rw [y'] at A wA;have hlen:s.length - at' - (j+(au (s.drop (at'+j))).2.1)=s.length - (at'+j+(au (s.drop (at'+j))).2.1):=by omega
  by_cases e2:(au (s.drop (at'+j))).2.2=0
  ·have hv2:=iY e2
   have hl2:=hv2.len;rw [dY] at hl2;rw [ah (λx=>x e2)] at kn;simp only [ah (λx=>x e2:¬ (au (s.drop (at'+j))).2.2≠0),ah y0];rw [hlen];by_cases c:s.length - (at'+j+(au (s.drop (at'+j))).2.1) < (au (s.drop (at'+j))).1
   ·rw [ak c] at kn
    simp only [ak c];refine ⟨n / 4,a, ?_,λx=>absurd x (by decide)⟩;rw [hz,qn];generalize ((at'+j:Nat):Int)=AT at *;generalize (n:Int) / 4=q at *;generalize (ahead:Int)=AH at *;refine aA rfl rfl ?_;simp [k,S,A,wA,c1',c2',mW,kn]
   ·rw [ah c] at kn
    simp only [ah c,ak y1];refine ⟨n / 4,at'+j+(au (s.drop (at'+j))).2.1+(au (s.drop (at'+j))).1, ?_,λ_=>⟨rfl,by omega,by omega,by omega⟩⟩;rw [FP,fn,qn];generalize (s.drop (at'+j+(au (s.drop (at'+j))).2.1)).take (au (s.drop (at'+j))).1=T at *;generalize ((at'+j+(au (s.drop (at'+j))).2.1+(au (s.drop (at'+j))).1:Nat):Int)=B at *;generalize ((at'+j:Nat):Int)=AT at *;generalize (n:Int) / 4=q at *;generalize (ahead:Int)=AH at *;refine aA rfl rfl ?_;simp [k,S,A,wA,c1',c2',mW,kn]
  ·rw [ak e2] at kn
   simp only [ak e2];refine ⟨n / 4,a, ?_,λx=>absurd x e2⟩;rw [hz,qn];generalize (au (s.drop (at'+j))).2.2=e at *;generalize ((at'+j:Nat):Int)=AT at *;generalize (n:Int) / 4=q at *;generalize (ahead:Int)=AH at *;refine aA rfl rfl ?_;simp [k,S,A,wA,c1',c2',mW,kn,e2]
 ·have y':(n:Int) % 4=2:=by omega
  have y0:¬ n % 4=0:=by omega
  have y1:¬ n % 4=1:=by omega
  obtain ⟨a,kn⟩:=akJ hN (.i .u64 ((n:Int) / 4)) (.i .i64 2) w hw s (at'+j) hj hs (by rw [dY];omega) (.i .u64 0) (.s []);rw [y'] at A wA;have hlen:s.length - at' - (j+(au (s.drop (at'+j))).2.1)=s.length - (at'+j+(au (s.drop (at'+j))).2.1):=by omega
  by_cases e2:(au (s.drop (at'+j))).2.2=0
  ·have hv2:=iY e2
   have hl2:=hv2.len;rw [dY] at hl2;rw [ah (λx=>x e2)] at kn;simp only [ah (λx=>x e2:¬ (au (s.drop (at'+j))).2.2≠0),ah y0];rw [hlen];by_cases c:s.length - (at'+j+(au (s.drop (at'+j))).2.1) < (au (s.drop (at'+j))).1
   ·rw [ak c] at kn
    simp only [ak c];refine ⟨n / 4,a, ?_,λx=>absurd x (by decide)⟩;rw [hz,qn];generalize ((at'+j:Nat):Int)=AT at *;generalize (n:Int) / 4=q at *;generalize (ahead:Int)=AH at *;refine aA rfl rfl ?_;simp [k,S,A,wA,c1',c2',mW,kn]
   ·rw [ah c] at kn
    simp only [ah c,ah y1];by_cases c8:8<=w
    ·rw [ak c8] at kn
     simp only [ak c8];refine ⟨n / 4,a, ?_,λx=>absurd x (by decide)⟩;rw [hz,qn];generalize ((at'+j:Nat):Int)=AT at *;generalize (n:Int) / 4=q at *;generalize (ahead:Int)=AH at *;refine aA rfl rfl ?_;simp [k,S,A,wA,c1',c2',mW,kn]
    ·rw [ah c8] at kn
     simp only [ah c8];generalize (s.drop (at'+j+(au (s.drop (at'+j))).2.1)).take (au (s.drop (at'+j))).1=T at *;by_cases e3:(dh N (w+1) 0 T).2=0
     ·simp only [ah (λx=>x e3:¬ (dh N (w+1) 0 T).2≠0)]
      refine ⟨n / 4,at'+j+(au (s.drop (at'+j))).2.1+(au (s.drop (at'+j))).1, ?_,λ_=>⟨rfl,by omega,by omega,by omega⟩⟩;rw [FP,qn];rw [e3] at kn;clear e3 c e2 hv2 hl2 hlen;generalize dh N (w+1) 0 T=R at *;generalize ((at'+j+(au (s.drop (at'+j))).2.1+(au (s.drop (at'+j))).1:Nat):Int)=B at *;generalize ((at'+j:Nat):Int)=AT at *;generalize (n:Int) / 4=q at *;generalize (ahead:Int)=AH at *;refine aA rfl rfl ?_;simp [k,S,A,wA,c1',c2',mW,kn]
     ·simp only [ak e3]
      refine ⟨n / 4,at'+j+(au (s.drop (at'+j))).2.1+(au (s.drop (at'+j))).1, ?_,λx=>absurd x e3⟩;rw [hz,qn];clear c e2 hv2 hl2 hlen;generalize dh N (w+1) 0 T=R at *;generalize ((at'+j+(au (s.drop (at'+j))).2.1+(au (s.drop (at'+j))).1:Nat):Int)=B at *;generalize ((at'+j:Nat):Int)=AT at *;generalize (n:Int) / 4=q at *;generalize (ahead:Int)=AH at *;refine aA rfl rfl ?_;simp [k,S,A,wA,c1',c2',mW,kn,e3]
  ·rw [ak e2] at kn
   simp only [ak e2];refine ⟨n / 4,a, ?_,λx=>absurd x e2⟩;rw [hz,qn];generalize (au (s.drop (at'+j))).2.2=e at *;generalize ((at'+j:Nat):Int)=AT at *;generalize (n:Int) / 4=q at *;generalize (ahead:Int)=AH at *;refine aA rfl rfl ?_;simp [k,S,A,wA,c1',c2',mW,kn,e2]
def Lj (N:Nat):Prop:=∀ (w:Nat) (acc:List aH) (ahead at':Nat) (s:List UInt8),w<=8->acc.length+(s.drop at').length<=200000000->at'<=s.length->s.length<=100000000->(s.drop at').length < N->ahead < 18446744073709551616->
    ∃a b:Nat,TT.lim 89 [.l (aF acc),.i .i64 (w:Nat),.i .u64 (ahead:Nat),.s s,.i .i64 (at':Nat)]=some (if (dh N w ahead (s.drop at')).2=0 then [.i .i64 1,.l (aF (acc++(dh N w ahead (s.drop at')).1)),.i .u64 (a:Nat),.s s,.i .i64 (b:Nat)] else [.i .i64 0,.i .i64 (dh N w ahead (s.drop at')).2,.i .u64 (a:Nat),.s s,.i .i64 (b:Nat)])
theorem akH:∀ (N w ahead:Nat) (s:List UInt8),(dh N w ahead s).2≠0->(dh N w ahead s).1=[]
 | 0,_,_,_,_=>rfl
 | N+1,w,ahead,s,h=>by
   unfold dh at h ⊢;by_cases h1:s=[]
   ·rw [ak h1]
   rw [ah h1] at h ⊢;by_cases h2:(gZ (λt=>dh N (w+1) 0 t) w ahead s).2.2≠0
   ·rw [ak h2]
   rw [ah h2] at h ⊢;by_cases h3:(dh N w ((au s).1 / 4) (s.drop (gZ (λt=>dh N (w+1) 0 t) w ahead s).2.1)).2≠0
   ·rw [ak h3]
   ·rw [ah h3] at h;exact absurd rfl h
theorem akK {N:Nat} (hN:IL N) (hL:Lj N):Lj (N+1):=by
 intro w acc ahead at' s hw hac h hs hl ha;have hud:(s.drop at').length=s.length - at':=dY;have wl:=wrap64 (n:=(s.length:Int) - (at':Int)) (by omega) (by omega);unfold dh;by_cases h1:s.drop at'=[]
 ·have hle:s.length - at'=0:=by rw [<- hud,h1];rfl
  have hp:¬ at' < s.length:=by omega
  refine ⟨ahead,at', ?_⟩;rw [ak h1];simp only [if_true,mM];refine aA rfl rfl ?_;simp [wl,hp]
 have hlp:0 < s.length - at':=by
  rw [<- hud];exact KY.2 h1
 have hp:at' < s.length:=by omega
 simp only [ah h1];obtain ⟨a,b,hn,hok⟩:=akL hN w ahead hw ha s at' h hs (by omega);have la:=pI acc;by_cases he:(gZ (λt=>dh N (w+1) 0 t) w ahead (s.drop at')).2.2=0;rotate_left
 ·refine ⟨a,b, ?_⟩
  rw [ak he];generalize gZ (λt=>dh N (w+1) 0 t) w ahead (s.drop at')=o at *;obtain ⟨f,used,e⟩:=o;obtain ⟨t,y,n,tx,k⟩:=f;simp only at *;rw [ah he];rw [FP] at hn;simp only [jM,fJ] at hn;refine aA rfl rfl ?_;simp [wl,hp,hn,he]
 obtain ⟨ea,eb,hu,hb⟩:=hok he;have hv0:(au (s.drop at')).2.2=0:=by
  by_cases c:(au (s.drop at')).2.2=0
  ·exact c
  ·exfalso
   unfold gZ at he;rw [ak c] at he;exact c he
 have ahw:=(iY hv0).lt;simp only [ah (λx=>x he:¬ (gZ (λt=>dh N (w+1) 0 t) w ahead (s.drop at')).2.2≠0)];rw [he] at hn;have hdd:(s.drop at').drop (gZ (λt=>dh N (w+1) 0 t) w ahead (s.drop at')).2.1=s.drop b:=by rw [oQ,<- eb]
 rw [hdd];rw [<- ea];clear hdd he hok;have ahq:(s.drop b).length=s.length - b:=dY;obtain ⟨a2,b2,h2⟩:=hL w (acc++[(gZ (λt=>dh N (w+1) 0 t) w ahead (s.drop at')).1]) a b s hw (by rw [bY,uy];omega) hb hs (by omega) (by omega);refine ⟨a2,b2, ?_⟩;generalize gZ (λt=>dh N (w+1) 0 t) w ahead (s.drop at')=o at *;obtain ⟨f,used,e⟩:=o;obtain ⟨t,y,n,tx,k⟩:=f;simp only at *;rw [FP] at hn;simp only [jM,fJ] at hn;have hfa:aF (acc++[.mk t y n tx k])=aF acc++[pF t y n tx k]:=by rw [NC];simp only [aF,kW];rfl
 have hel:(pF t y n tx k).fQ 5=true:=rfl;have hfe:GV.g [.i .u64 t,.i .i64 y,.i .u64 n,.s tx,.l (aF k)]=pF t y n tx k:=rfl;have c1:2 * ((aF acc).length+1) * 64<=281474976710656/\(aF acc).length+1<=281474976710656:=by omega
 rw [hfa] at h2;clear hfa ea eb ahw hv0 hu hb hud ahq hac hlp h1 la;by_cases h3:(dh N w a (s.drop b)).2=0
 ·rw [ak h3] at h2
  simp only [ah (λx=>x h3:¬ (dh N w a (s.drop b)).2≠0)];simp only [if_true];have happ:acc++[aH.mk t y n tx k]++(dh N w a (s.drop b)).1=acc++(aH.mk t y n tx k::(dh N w a (s.drop b)).1):=by simp
  rw [happ] at h2;clear happ h3;generalize aF (acc++(aH.mk t y n tx k::(dh N w a (s.drop b)).1))=R at *;generalize pF t y n tx k=E at *;generalize aF acc=A at *;refine aA rfl rfl ?_;simp [wl,hp,hn,hfe,hel,c1,h2]
 ·rw [ah h3] at h2
  simp only [ak h3];rw [ah h3];generalize dh N w a (s.drop b)=RR at *;generalize pF t y n tx k=E at *;generalize aF acc=A at *;refine aA rfl rfl ?_;simp [wl,hp,hn,hfe,hel,c1,h2]
theorem akN {N:Nat} (hL:Lj N):IL N:=by
 intro w ahead at' s h hs hl hw ha;have hud:(s.drop at').length=s.length - at':=dY;obtain ⟨a,b,h0⟩:=hL w [] ahead at' s hw (by simp only [sJ];omega) h hs hl ha;have fn:aF []=[]:=by simp only [aF]
 refine ⟨a,b, ?_⟩;rw [fn,fJ] at h0;have hbad:=akH N w ahead (s.drop at');generalize dh N w ahead (s.drop at')=R at *;by_cases h3:R.2=0
 ·rw [ak h3] at h0
  rw [h3];refine aA rfl rfl ?_;simp [h0]
 ·rw [ah h3] at h0
  rw [hbad h3,fn];refine aA rfl rfl ?_;simp [h0]
theorem ab7:∀N:Nat,IL N/\Lj N
 | 0=>⟨λw ahead at' s _ _ hl _ _=>absurd hl (by omega),λw acc ahead at' s _ _ _ _ hl _=>absurd hl (by omega)⟩
 | N+1=>by
   have ih:=ab7 N;have hl:=akK ih.1 ih.2;exact ⟨akN hl,hl⟩
/-- What wire.Get reads. -/
def uQ (s:List UInt8):List aH×Int:=if 65536 < s.length then ([],4) else dh (s.length+1) 0 0 s
theorem aoZ (s:List UInt8) (hs:s.length<=140737488351232):TT.lim 87 [.s s]=some [.l (aF (uQ s).1),.i .i64 (uQ s).2]:=by
 unfold uQ;have fn:aF []=[]:=by simp only [aF]
 by_cases c:65536 < s.length
 ·have c':(65536:Int) < s.length:=by omega
  rw [ak c,fn];refine bF rfl rfl ?_ rfl;simp [c']
 ·have c':¬ (65536:Int) < s.length:=by omega
  obtain ⟨a,b,h0⟩:=(ab7 (s.length+1)).1 0 0 0 s (by omega) (by omega) (by rw [fH];omega) (by omega) (by omega);rw [fH] at h0;rw [ah c];simp only [Ag] at h0;generalize dh (s.length+1) 0 0 s=R at *;refine bF rfl rfl ?_ rfl;simp [c',h0]
def qB (l:List bP):List GV:=l.map λs=>GV.i .u64 s.tag
theorem aaK (l:List bP) (hl:l.length<=1000):∀ (m i:Nat) (acc:List GV),i+m=l.length->acc.length+m<=2000->TT.lim 97 [.l acc,.l (l.map dQ),.i .i64 l.length,.i .i64 i]=some [.i .i64 0,.l (acc++qB (l.drop i))]
 | 0,i,acc,hi,ha=>by
   have h:¬ ((i:Int) < l.length):=by omega
   have e:l.drop i=[]:=iZ (by omega);rw [e];show _=some [GV.i .i64 0,.l (acc++[])]
   rw [mM];refine aA rfl rfl ?_;simp [h]
 | m+1,i,acc,hi,ha=>by
   have hlt:i < l.length:=by omega
   have h:((i:Int) < l.length):=by omega
   have hat:(l.map dQ)[i]? = some (dQ l[i]):=by rw [iQ,bK hlt];rfl
   have hcast:((i+1:Nat):Int)=(i:Int)+1:=by omega
   have hw:=wrap64 (n:=(i:Int)+1) (by omega) (by omega);have hd:l.drop i=l[i]::l.drop (i+1):=kS hlt;have ih:=aaK l hl m (i+1) (acc++[.i .u64 l[i].tag]) (by omega) (by rw [bY,uy];omega);rw [hd];have hq:acc++qB (l[i]::l.drop (i+1))=acc++[GV.i .u64 l[i].tag]++qB (l.drop (i+1)):=by
    rw [show qB (l[i]::l.drop (i+1))=GV.i .u64 l[i].tag::qB (l.drop (i+1)) from rfl,List.append_assoc];rfl
   rw [hq];rw [hcast] at ih;have c1:2 * (acc.length+1) * 8<=281474976710656/\acc.length+1<=281474976710656:=by omega
   clear hq hd;generalize acc++[GV.i .u64 l[i].tag]++qB (l.drop (i+1))=R at *;generalize l[i]=s at *;generalize l.map dQ=SP at *;refine aA rfl rfl ?_;simp [h,hat,c1,GV.fQ,hw,ih]
theorem ahV (k v:Int) (h1:1<=v) (h3:v<=3) (hk:jH k<=v):TT.lim 96 [.i .i64 k,.i .i64 v]=some [.l (qB (aN k v))]:=by
 have hkn:=Og k v h1 h3 hk;have k8:=Bo k v;have h0:=aaK (aN k v) (by omega) (aN k v).length 0 [] (by omega) (by simp;omega);rw [fH,fJ] at h0;simp only [Ag] at h0;have hal:(((aN k v).map dQ).length:Int)=((aN k v).length:Int):=by rw [BX]
 generalize qB (aN k v)=TG at *;generalize (aN k v).map dQ=SP at *;generalize ((aN k v).length:Int)=L at *;refine bF rfl rfl ?_ rfl;simp [hkn,hal,h0]
/-- The names for tags, as a map. -/
def zG (xs:List GV) (l:List bP):List GV:=l.foldl (λm s=>jw (.i .u64 s.tag) (.s s.name) m) xs
theorem YJ (l:List bP) (hl:l.length<=1000) (x0 x1 x2:GV):∀ (m i:Nat) (xs:List GV),i+m=l.length->TT.lim 95 [x0,x1,x2,.l (l.map dQ),.i .i64 l.length,.i .i64 i,.l xs]=some [.i .i64 0,.l (zG xs (l.drop i))]
 | 0,i,xs,hi=>by
   have h:¬ ((i:Int) < l.length):=by omega
   have e:l.drop i=[]:=iZ (by omega);rw [e];show _=some [GV.i .i64 0,.l xs]
   refine aA rfl rfl ?_;simp [h]
 | m+1,i,xs,hi=>by
   have hlt:i < l.length:=by omega
   have h:((i:Int) < l.length):=by omega
   have hat:(l.map dQ)[i]? = some (dQ l[i]):=by rw [iQ,bK hlt];rfl
   have hcast:((i+1:Nat):Int)=(i:Int)+1:=by omega
   have hw:=wrap64 (n:=(i:Int)+1) (by omega) (by omega);have hd:l.drop i=l[i]::l.drop (i+1):=kS hlt;have ih:=YJ l hl x0 x1 x2 m (i+1) (jw (.i .u64 l[i].tag) (.s l[i].name) xs) (by omega);rw [hd];show _=some [GV.i .i64 0,.l (zG (jw (.i .u64 l[i].tag) (.s l[i].name) xs) (l.drop (i+1)))]
   rw [hcast] at ih;generalize zG (jw (.i .u64 l[i].tag) (.s l[i].name) xs) (l.drop (i+1))=R at *;generalize l[i]=s at *;generalize l.map dQ=SP at *;refine aA rfl rfl ?_;simp [h,hat,hw,ih]
theorem abu (t:Int):∀ (l:List bP) (xs:List GV),l.Pairwise (λa b=>a.tag < b.tag)->iD (.i .u64 t) (zG xs l)=(match l.find? (λs=>decide (s.tag=t)) with
 | some s=>some (.s s.name)
 | none=>iD (.i .u64 t) xs)
 | [],xs,_=>rfl
 | s::l,xs,hp=>by
   rw [vG] at hp;have ih:=abu t l (jw (.i .u64 s.tag) (.s s.name) xs) hp.2;show iD (.i .u64 t) (zG (jw (.i .u64 s.tag) (.s s.name) xs) l)=_
   rw [ih,List.find?_cons];by_cases h:s.tag=t
   ·have hno:l.find? (λs=>decide (s.tag=t))=none:=by
     rw [List.find?_eq_none];intro x hx;have:=hp.1 x hx;simp;omega
    rw [hno];simp only [h,decide_true];rw [wO,ak rfl]
   ·simp only [h,decide_false]
    cases hf:l.find? (λs=>decide (s.tag=t)) with
    | some x=>rfl
    | none=>
      simp only;rw [wO,ah (λe=>h e.symm)]
def zf (xs:List GV) (l:List bP):List GV:=l.foldl (λm s=>jw (.i .u64 s.tag) (.b true) m) xs
theorem acE (l:List bP) (hl:l.length<=1000) (x0:GV):∀ (m i:Nat) (xs:List GV),i+m=l.length->TT.lim 99 [x0,.l (qB l),.i .i64 l.length,.i .i64 i,.l xs]=some [.i .i64 0,.l (zf xs (l.drop i))]
 | 0,i,xs,hi=>by
   have h:¬ ((i:Int) < l.length):=by omega
   have e:l.drop i=[]:=iZ (by omega);rw [e];show _=some [GV.i .i64 0,.l xs]
   refine aA rfl rfl ?_;simp [h]
 | m+1,i,xs,hi=>by
   have hlt:i < l.length:=by omega
   have h:((i:Int) < l.length):=by omega
   have hat:(qB l)[i]? = some (.i .u64 l[i].tag):=by unfold qB;rw [iQ,bK hlt];rfl
   have hcast:((i+1:Nat):Int)=(i:Int)+1:=by omega
   have hw:=wrap64 (n:=(i:Int)+1) (by omega) (by omega);have hd:l.drop i=l[i]::l.drop (i+1):=kS hlt;have ih:=acE l hl x0 m (i+1) (jw (.i .u64 l[i].tag) (.b true) xs) (by omega);rw [hd];show _=some [GV.i .i64 0,.l (zf (jw (.i .u64 l[i].tag) (.b true) xs) (l.drop (i+1)))]
   rw [hcast] at ih;generalize zf (jw (.i .u64 l[i].tag) (.b true) xs) (l.drop (i+1))=R at *;generalize l[i]=s at *;generalize qB l=TG at *;refine aA rfl rfl ?_;simp [h,hat,hw,ih]
theorem X4 (t:Int):∀ (l:List bP) (xs:List GV),iD (.i .u64 t) (zf xs l)=if hasTag l t=true then some (.b true) else iD (.i .u64 t) xs
 | [],xs=>rfl
 | s::l,xs=>by
   have ih:=X4 t l (jw (.i .u64 s.tag) (.b true) xs);show iD (.i .u64 t) (zf (jw (.i .u64 s.tag) (.b true) xs) l)=_
   rw [ih,wO];unfold hasTag;rw [List.any_cons];by_cases h:t=s.tag
   ·simp [h]
   ·simp [h]
def ji (l:List bP) (fs:List aH):List aH:=fs.filter λf=>hasTag l f.tag
def jv (l:List bP) (fs:List aH):List aH:=fs.filter λf=>!hasTag l f.tag
theorem acF (l:List bP) (fs:List aH) (hfs:fs.length<=1000000):∀ (m i:Nat) (a b:List aH),i+m=fs.length->a.length+b.length+m<=3000000->TT.lim 100 [.l (aF fs),.l (aF a),.l (aF b),.i .i64 fs.length,.i .i64 i,.l (zf [] l)]=some [.i .i64 0,.l (aF (a++ji l (fs.drop i))),.l (aF (b++jv l (fs.drop i)))]
 | 0,i,a,b,hi,ha=>by
   have h:¬ ((i:Int) < fs.length):=by omega
   have e:fs.drop i=[]:=iZ (by omega);rw [e];have e1:ji l []=[]:=rfl;have e2:jv l []=[]:=rfl;rw [e1,e2,mM,mM];refine aA rfl rfl ?_;simp [h]
 | m+1,i,a,b,hi,ha=>by
   have h:((i:Int) < fs.length):=by omega
   obtain ⟨t,y,n,s,k,g1,g2,g3,g4⟩:=FQ (l:=fs) (i:=i) (by omega);have hcast:((i+1:Nat):Int)=(i:Int)+1:=by omega
   have hw:=wrap64 (n:=(i:Int)+1) (by omega) (by omega);have hg:=X4 t l [];have hfa:∀z:List aH,aF (z++[.mk t y n s k])=aF z++[pF t y n s k]:=λz=>by rw [NC];simp only [aF,kW];rfl
   have hel:(pF t y n s k).fQ 5=true:=rfl;have hfe:GV.g [.i .u64 t,.i .i64 y,.i .u64 n,.s s,.l (aF k)]=pF t y n s k:=rfl;have la:=pI a;have lb:=pI b;have ih:=λa b ha=>acF l fs hfs m (i+1) a b (by omega) ha;simp only [hcast] at ih;rw [g3];have hn0:iD (.i .u64 t) []=none:=rfl;cases ht:hasTag l t with
   | true=>
     have e1:ji l (.mk t y n s k::fs.drop (i+1))=.mk t y n s k::ji l (fs.drop (i+1)):=by unfold ji;rw [adz (by exact ht)]
     have e2:jv l (.mk t y n s k::fs.drop (i+1))=jv l (fs.drop (i+1)):=by unfold jv;rw [ady (by show ¬ (!hasTag l t)=true;rw [ht];decide)]
     rw [e1,e2];have ih:=ih (a++[.mk t y n s k]) b (by rw [bY,uy];omega);rw [hfa,List.append_assoc,Xp] at ih;rw [ht,ak rfl] at hg;have c1:2 * ((aF a).length+1) * 64<=281474976710656/\(aF a).length+1<=281474976710656:=by omega
     generalize aF (a++.mk t y n s k::ji l (fs.drop (i+1)))=R1 at *;generalize aF (b++jv l (fs.drop (i+1)))=R2 at *;clear hfa la lb e1 e2;generalize zf [] l=MP at *;generalize aF a=A at *;generalize aF b=B at *;refine aA rfl rfl ?_;simp [h,g2,hg,hfe,hel,c1,hw,ih]
   | false=>
     have e1:ji l (.mk t y n s k::fs.drop (i+1))=ji l (fs.drop (i+1)):=by unfold ji;rw [ady (by show ¬ hasTag l t=true;rw [ht];decide)]
     have e2:jv l (.mk t y n s k::fs.drop (i+1))=.mk t y n s k::jv l (fs.drop (i+1)):=by unfold jv;rw [adz (by show (!hasTag l t)=true;rw [ht];rfl)]
     rw [e1,e2];have ih:=ih a (b++[.mk t y n s k]) (by rw [bY,uy];omega);rw [hfa,List.append_assoc,Xp] at ih;rw [ht,ah (by decide),hn0] at hg;have c1:2 * ((aF b).length+1) * 64<=281474976710656/\(aF b).length+1<=281474976710656:=by omega
     generalize aF (a++ji l (fs.drop (i+1)))=R1 at *;generalize aF (b++.mk t y n s k::jv l (fs.drop (i+1)))=R2 at *;clear hfa la lb e1 e2;generalize zf [] l=MP at *;generalize aF a=A at *;generalize aF b=B at *;refine aA rfl rfl ?_;simp [h,g2,hg,hfe,hel,c1,hw,ih]
theorem akI {rec:List UInt8->List aH×Int} {w ahead:Nat} {s:List UInt8} (hs:s.length<=100000000) (hr:∀t:List UInt8,t.length+2<=s.length->dS (rec t).1/\(rec t).1.length<=1000000/\cu (rec t).1<=t.length) (h:(gZ rec w ahead s).2.2=0) :
 pG (gZ rec w ahead s).1/\su (gZ rec w ahead s).1+1<=(gZ rec w ahead s).2.1/\(gZ rec w ahead s).2.1<=s.length/\(gZ rec w ahead s).1.tag=((au s).1 / 4:Nat):=by
 unfold gZ at h ⊢;by_cases e1:(au s).2.2=0;rotate_left
 ·simp only [ak e1] at h;exact absurd h e1
 have v1:=iY e1;simp only [ah (λx=>x e1:¬ (au s).2.2≠0)] at h ⊢;by_cases c1:(au s).1 / 4=0
 ·simp only [ak c1] at h;exact absurd h (by decide)
 simp only [ah c1] at h ⊢;by_cases c2:4294967296 < (au s).1 / 4
 ·simp only [ak c2] at h;exact absurd h (by decide)
 simp only [ah c2] at h ⊢;by_cases c3:3<=(au s).1 % 4
 ·simp only [ak c3] at h;exact absurd h (by decide)
 simp only [ah c3] at h ⊢;by_cases c4:(au s).1 / 4<=ahead
 ·simp only [ak c4] at h;exact absurd h (by decide)
 simp only [ah c4] at h ⊢;by_cases e2:(au (s.drop (au s).2.1)).2.2=0;rotate_left
 ·simp only [ak e2] at h;exact absurd h e2
 have v2:=iY e2;have l1:=v1.len;have p1:=v1.pos;have l2:=v2.len;have p2:=v2.pos;have t1:=v1.lt;have t2:=v2.lt;rw [dY] at l2;simp only [ah (λx=>x e2:¬ (au (s.drop (au s).2.1)).2.2≠0)] at h ⊢;by_cases y0:(au s).1 % 4=0
 ·simp only [ak y0] at h ⊢
  simp only [pG,dS,su,cu];refine ⟨⟨⟨by omega,by omega,by omega,by omega,by omega,by omega,by simp,by simp⟩,trivial⟩,by omega,by omega,rfl⟩
 simp only [ah y0] at h ⊢;by_cases c:s.length - ((au s).2.1+(au (s.drop (au s).2.1)).2.1) < (au (s.drop (au s).2.1)).1
 ·simp only [ak c] at h;exact absurd h (by decide)
 simp only [ah c] at h ⊢;by_cases y1:(au s).1 % 4=1
 ·simp only [ak y1] at h ⊢
  simp only [pG,dS,su,cu];refine ⟨⟨⟨by omega,by omega,by omega,by omega,by omega,by omega,by rw [nK,dY];omega,by simp⟩,trivial⟩,by omega,by omega,rfl⟩
 simp only [ah y1] at h ⊢;by_cases c8:8<=w
 ·simp only [ak c8] at h;exact absurd h (by decide)
 simp only [ah c8] at h ⊢;have hl:((s.drop ((au s).2.1+(au (s.drop (au s).2.1)).2.1)).take (au (s.drop (au s).2.1)).1).length=(au (s.drop (au s).2.1)).1:=by rw [nK,dY];omega
 obtain ⟨r1,r2,r3⟩:=hr ((s.drop ((au s).2.1+(au (s.drop (au s).2.1)).2.1)).take (au (s.drop (au s).2.1)).1) (by rw [hl];omega);rw [hl] at r3;generalize (s.drop ((au s).2.1+(au (s.drop (au s).2.1)).2.1)).take (au (s.drop (au s).2.1)).1=T at *;by_cases e3:(rec T).2=0;rotate_left
 ·simp only [ak e3] at h;exact absurd h e3
 simp only [ah (λx=>x e3:¬ (rec T).2≠0)] at h ⊢;simp only [pG,su];refine ⟨⟨⟨by omega,by omega,by omega,by omega,by omega,by omega,by simp,r2⟩,r1⟩,by omega,by omega,rfl⟩
theorem Vq:∀ (N w ahead:Nat) (s:List UInt8),s.length<=1000000->dS (dh N w ahead s).1/\(dh N w ahead s).1.length<=1000000/\cu (dh N w ahead s).1<=s.length
 | 0,w,ahead,s,_=>by simp only [dh,dS,cu];simp
 | N+1,w,ahead,s,hs=>by
   unfold dh;by_cases h1:s=[]
   ·rw [ak h1];simp only [dS,cu];simp
   rw [ah h1];by_cases h2:(gZ (λt=>dh N (w+1) 0 t) w ahead s).2.2=0;rotate_left
   ·rw [ak h2];simp only [dS,cu];simp
   rw [ah (λx=>x h2)];obtain ⟨o1,o2,o3,o4⟩:=akI (rec:=λt=>dh N (w+1) 0 t) (w:=w) (ahead:=ahead) (s:=s) (by omega) (λt ht=>Vq N (w+1) 0 t (by omega)) h2;have hd:(s.drop (gZ (λt=>dh N (w+1) 0 t) w ahead s).2.1).length=s.length - (gZ (λt=>dh N (w+1) 0 t) w ahead s).2.1:=dY;obtain ⟨i1,i2,i3⟩:=Vq N w ((au s).1 / 4) (s.drop (gZ (λt=>dh N (w+1) 0 t) w ahead s).2.1) (by omega);rw [hd] at i3;split
   ·simp only [dS,cu];simp
   ·simp only [dS,cu]
    have:∀l:List aH,l.length<=cu l:=λl=>by
     induction l with
     | nil=>simp [cu]
     | cons f l ih=>simp only [jT,cu];omega
    have hl:=this (dh N w ((au s).1 / 4) (s.drop (gZ (λt=>dh N (w+1) 0 t) w ahead s).2.1)).1;refine ⟨⟨o1,i1⟩, ?_, ?_⟩
    ·simp only [jT];omega
    ·omega
theorem agn (s:List UInt8):dS (uQ s).1/\(uQ s).1.length<=1000000/\cu (uQ s).1<=65536:=by
 unfold uQ;by_cases c:65536 < s.length
 ·rw [ak c];simp only [dS,cu];simp
 ·rw [ah c]
  obtain ⟨h1,h2,h3⟩:=Vq (s.length+1) 0 0 s (by omega);exact ⟨h1,h2,by omega⟩
def aH.typ:aH->Int
 | .mk _ y _ _ _=>y
def aH.num:aH->Int
 | .mk _ _ n _ _=>n
def aH.txt:aH->List UInt8
 | .mk _ _ _ s _=>s
/-- What the known fields make for a message. -/
def oH (l:List bP):aB->List aH->aB×Int
 | b,[]=>(b,0)
 | b,f::r=>match l.find? (λs=>decide (s.tag=f.tag)) with
   | some s=>(match placeOf s.name with
     | some p=>if aO f.typ f.num f.txt p=0 then oH l (setB b f.num f.txt p) r else (dG,aO f.typ f.num f.txt p)
     | none=>(dG,26))
   | none=>(dG,26)
theorem YK (l:List bP) (hl:l.Pairwise (λa b=>a.tag < b.tag)) (hpl:∀s∈l,placeOf s.name≠none) (fs:List aH) (hok:dS fs) (hlen:fs.length<=1000000) (hin:∀f∈fs,hasTag l f.tag=true) (x0 x1:GV):∀ (m i:Nat) (b:aB),i+m=fs.length->vI b []->
 TT.lim 101 ([x0,x1,.l (aF fs),.i .i64 fs.length,.i .i64 i]++(jf b []).cells++[.l (zG [] l)])=some (if (oH l b (fs.drop i)).2=0 then .i .i64 1::(jf (oH l b (fs.drop i)).1 []).cells else [.i .i64 0,.i .i64 (oH l b (fs.drop i)).2])
 | 0,i,b,hi,hb=>by
   have h:¬ ((i:Int) < fs.length):=by omega
   have e:fs.drop i=[]:=iZ (by omega);rw [e];unfold oH;rw [ak rfl];rw [xq];simp only [jM,fJ];refine aA rfl rfl ?_;simp [h]
 | m+1,i,b,hi,hb=>by
   have h:((i:Int) < fs.length):=by omega
   obtain ⟨t,y,n,s,k,g1,g2,g3,g4⟩:=FQ (l:=fs) (i:=i) (by omega);have hcast:((i+1:Nat):Int)=(i:Int)+1:=by omega
   have hw:=wrap64 (n:=(i:Int)+1) (by omega) (by omega);have hf:=Bc hok _ g4;simp only [pG] at hf;have ht:=hin _ g4;have NV:=abu t l [] hl;have fn:aF []=[]:=by simp only [aF]
   obtain ⟨sp,hsp⟩:∃sp,l.find? (λs=>decide (s.tag=t))=some sp:=by
    unfold hasTag at ht;obtain ⟨sp,h1,h2⟩:=List.any_eq_true.1 ht;cases hq:l.find? (λs=>decide (s.tag=t)) with
    | some x=>exact ⟨x,rfl⟩
    | none=>
      have:=(List.find?_eq_none.1 hq) sp h1;have h3:t=sp.tag:=Gt h2;simp [h3] at this
   have hmem:=List.mem_of_find?_eq_some hsp;rw [hsp] at NV;simp only at NV;obtain ⟨p,hp⟩:∃p,placeOf sp.name=some p:=by
    cases hq:placeOf sp.name with
    | some p=>exact ⟨p,rfl⟩
    | none=>exact absurd hq (hpl sp hmem)
   have hwt:=aiW (aF k) b [] (afV hb.d) hb.t (by simp [cu]) t y n s ⟨hf.1.2.2.2.2.1,hf.1.2.2.2.2.2.1⟩ hf.1.2.2.2.2.2.2.1 sp.name;rw [fn] at hwt;unfold WE at hwt;rw [hp] at hwt;simp only at hwt;unfold WG at hwt;rw [g3];unfold oH;have e1:aH.tag (.mk t y n s k)=t:=rfl;have e2:aH.typ (.mk t y n s k)=y:=rfl;have e3:aH.num (.mk t y n s k)=n:=rfl;have e4:aH.txt (.mk t y n s k)=s:=rfl;rw [e1,hsp,e2,e3,e4];simp only [hp];have hfe:GV.g [.i .u64 t,.i .i64 y,.i .u64 n,.s s,.l (aF k)]=pF t y n s k:=rfl;rw [hfe] at hwt;by_cases hc:aO y n s p=0
   ·rw [ak hc] at hwt
    simp only [ak hc];obtain ⟨q1,q2,q3⟩:=acu hb.body hb.d hb.t ⟨hf.1.2.2.2.2.1,hf.1.2.2.2.2.2.1⟩ hf.1.2.2.2.2.2.2.1 hc;have ih:=YK l hl hpl fs hok hlen hin x0 x1 m (i+1) (setB b n s p) (by omega) ⟨q1,q2,q3,by simp only [dS],by simp⟩;rw [hcast] at ih;generalize oH l (setB b n s p) (fs.drop (i+1))=R at *;generalize setB b n s p=B at *;clear q1 q2 q3 hc hsp hmem hp ht hf;generalize zG [] l=MP at *;generalize sp.name=nm at *;generalize aF fs=G at *;rw [xq] at ih;rw [xq];simp only [jM,fJ] at ih ⊢;refine aA rfl rfl ?_;simp [↓FY,h,g2,hfe,NV,qQ,hwt,hw,ih]
   ·rw [ah hc] at hwt
    simp only [ah hc];generalize aO y n s p=e at *;clear hsp hmem hp ht hf;generalize zG [] l=MP at *;generalize sp.name=nm at *;generalize aF fs=G at *;rw [xq];simp only [jM,fJ];refine aA rfl rfl ?_;simp [↓FY,h,g2,hfe,NV,qQ,hwt,hc]
/-- What is read, or why not. -/
def zk (s:List UInt8) (v:Int):aB×List aH×Int:=
 if v < 1 then (dG,[],16) else if 3 < v then (dG,[],16) else
 if 65536 < s.length then (dG,[],4) else
 if (au s).2.2≠0 then (dG,[],(au s).2.2) else
 if 8 < (au s).1 then (dG,[],15) else
 if jH (au s).1=0 then (dG,[],15) else if v < jH (au s).1 then (dG,[],15) else
 if (uQ (s.drop (au s).2.1)).2≠0 then (dG,[],(uQ (s.drop (au s).2.1)).2) else
 let l:=aN (au s).1 v
 let fs:=(uQ (s.drop (au s).2.1)).1
 let r:=oH l { dG with kind:=(au s).1 } (ji l fs)
 if r.2≠0 then (dG,[],r.2) else
 if gJ r.1 (jv l fs) v≠0 then (dG,[],gJ r.1 (jv l fs) v) else (r.1,jv l fs,0)
theorem V8 (p:aH->Bool):∀l:List aH,cu (l.filter p)<=cu l
 | []=>by simp [cu]
 | f::l=>by
   have ih:=V8 p l;rw [KX];split
   ·simp only [cu];omega
   ·simp only [cu];omega
theorem split_ok (l:List bP) (hl:l.length<=1000) (fs:List aH) (hlen:fs.length<=1000000) (hsz:cu fs<=1000000):TT.lim 98 [.l (aF fs),.l (qB l)]=some [.l (aF (ji l fs)),.l (aF (jv l fs))]:=by
 have h0:=acE l hl (.l (aF fs)) l.length 0 [] (by omega);have h1:=acF l fs hlen fs.length 0 [] [] (by omega) (by simp;omega);have fn:aF []=[]:=by simp only [aF]
 rw [fH] at h0 h1;rw [fJ,fJ,fn] at h1;simp only [Ag] at h0 h1;have c1:=Nv (ji l fs) (jF (V8 _ fs) hsz);have c2:=Nv (jv l fs) (jF (V8 _ fs) hsz);have lt:(qB l).length=l.length:=by unfold qB;rw [BX]
 have lf:=pI fs;generalize aF (ji l fs)=W at *;generalize aF (jv l fs)=O at *;generalize aF fs=G at *;generalize zf [] l=MP at *;generalize qB l=TG at *;refine bF rfl rfl ?_ rfl;simp [lt,lf,h0,h1,c1,c2]
theorem YM (l:List bP):∀ (fs:List aH) (b:aB),dS fs->vI b []->vI (oH l b fs).1 []
 | [],b,_,hb=>hb
 | f::fs,b,hf,hb=>by
   simp only [dS] at hf;unfold oH;cases l.find? (λs=>decide (s.tag=f.tag)) with
   | none=>exact KQ
   | some s=>
     simp only;cases placeOf s.name with
     | none=>exact KQ
     | some p=>
       simp only;by_cases hc:aO f.typ f.num f.txt p=0
       ·rw [ak hc]
        have h1:=hf.1;cases f with
        | mk t y n s k=>
          simp only [pG] at h1;obtain ⟨q1,q2,q3⟩:=acu hb.body hb.d hb.t ⟨h1.1.2.2.2.2.1,h1.1.2.2.2.2.2.1⟩ h1.1.2.2.2.2.2.2.1 hc;exact YM l fs _ hf.2 ⟨q1,q2,q3,by simp only [dS],by simp⟩
       ·rw [ah hc];exact KQ
theorem adt (k:Int) (h : -9223372036854775808<=k/\k<=9223372036854775807):vI { dG with kind:=k } []:=by
 have z:=KQ;exact ⟨{ z.body with kind:=h },z.d,z.t,z.f8,z.len⟩
theorem ND (p:aH->Bool):∀ {l:List aH},dS l->dS (l.filter p)
 | [],_=>by simp only [List.filter_nil,dS]
 | f::l,h=>by
   simp only [dS] at h;have ih:=ND p h.2;rw [KX];split
   ·simp only [dS];exact ⟨h.1,ih⟩
   ·exact ih
set_option maxHeartbeats 4000000 in
theorem decode_ok (s:List UInt8) (v:Int) (hs:s.length<=140737488351232):TT.lim 84 [.s s,.i .i64 v]=some [jf (zk s v).1 (aF (zk s v).2.1),.i .i64 (zk s v).2.2]:=by
 have fn:aF []=[]:=by simp only [aF]
 have hz:GV.g [.i .i64 0,.i .u64 0,.i .u64 0,.i .u64 0,.i .u64 0,.i .u64 0,.i .u64 0,.i .u64 0,.i .u64 0,.i .u64 0,.i .u64 0,.i .u64 0,.i .u64 0,.i .u64 0,.i .u64 0,.i .u64 0,.i .i64 0,.b false,.s [],.s [],.s [],.l [],.l [],.l []]=jf dG []:=rfl;unfold zk;by_cases c1:v < 1
 ·rw [ak c1]
  simp only;rw [fn,<- hz];refine bF rfl rfl ?_ rfl;simp [c1]
 rw [ah c1];by_cases c2:3 < v
 ·rw [ak c2]
  simp only;rw [fn,<- hz];refine bF rfl rfl ?_ rfl;simp [c1,c2]
 rw [ah c2];by_cases c3:65536 < s.length
 ·rw [ak c3]
  have c3':(65536:Int) < s.length:=by omega
  simp only;rw [fn,<- hz];refine bF rfl rfl ?_ rfl;simp [c1,c2,c3']
 rw [ah c3];have c3':¬ (65536:Int) < s.length:=by omega
 have kg:=tH s (by omega);by_cases e1:(au s).2.2=0;rotate_left
 ·rw [ak e1]
  simp only;rw [fn,<- hz];generalize (au s).2.2=e at *;refine bF rfl rfl ?_ rfl;simp [c1,c2,c3',kg,e1]
 rw [ah (λx=>x e1)];rw [e1] at kg;have v1:=iY e1;have l1:=v1.len;have t1:=v1.lt;have hdl:(s.drop (au s).2.1).length=s.length - (au s).2.1:=dY;have hwg:=aoZ (s.drop (au s).2.1) (by omega);obtain ⟨g1,g2,g3⟩:=agn (s.drop (au s).2.1);clear v1 e1 hdl;generalize uQ (s.drop (au s).2.1)=F at *;generalize hT:s.drop (au s).2.1=T at *;generalize (au s).1=n at *;generalize (au s).2.1=j at *;have hsub:(s.take s.length).drop j=T:=by rw [xI];exact hT
 have j0:(j:Int)<=s.length:=by omega
 have f0:=TF 0;have f00:jH 0=0:=rfl;rw [f00] at f0;by_cases c4:8 < n
 ·rw [ak c4]
  have mW:¬ (n:Int)<=8:=by omega
  simp only;rw [fn,<- hz];refine bF rfl rfl ?_ rfl;simp [c1,c2,c3',kg,mW,f0]
 rw [ah c4];have mW:(n:Int)<=8:=by omega
 have wn:=wrap64 (n:=(n:Int)) (by omega) (by omega);have kf:=TF (n:Int);by_cases c5:jH n=0
 ·rw [ak c5]
  rw [c5] at kf;simp only;rw [fn,<- hz];refine bF rfl rfl ?_ rfl;simp [c1,c2,c3',kg,mW,wn,kf]
 rw [ah c5];by_cases c6:v < jH n
 ·rw [ak c6]
  simp only;rw [fn,<- hz];generalize jH n=fk at *;refine bF rfl rfl ?_ rfl;simp [c1,c2,c3',kg,mW,wn,kf,c5,c6]
 rw [ah c6];by_cases e2:F.2=0;rotate_left
 ·rw [ak e2]
  simp only;rw [fn,<- hz];generalize jH n=fk at *;refine bF rfl rfl ?_ rfl;simp [c1,c2,c3',kg,mW,wn,kf,c5,c6,hsub,hT,j0,hwg,e2]
 rw [ah (λx=>x e2)];rw [e2] at hwg;have kn:=Og n v (by omega) (by omega) (by omega);have kt:=ahV n v (by omega) (by omega) (by omega);have k8:=Bo n v;have kz:=YJ (aN n v) (by omega) (.i .i64 v) (.i .i64 n) (.l (aF F.1)) (aN n v).length 0 [] (by omega);rw [fH] at kz;simp only [Ag] at kz;have ks:=split_ok (aN n v) (by omega) F.1 g2 (by omega);have kd:=YK (aN n v) (DK n v).1 (aaI n v) (ji (aN n v) F.1) (ND _ g1) (jF (Xh _ _) g2) (λf hf=>(uz.1 hf).2) (.i .i64 v) (.l (aF (jv (aN n v) F.1))) (ji (aN n v) F.1).length 0 { dG with kind:=n } (by omega) (adt n (by omega));rw [fH] at kd;simp only [Ag] at kd;have hdw:=YM (aN n v) (ji (aN n v) F.1) { dG with kind:=n } (ND _ g1) (adt n (by omega));have kc:=abd (oH (aN n v) { dG with kind:=n } (ji (aN n v) F.1)).1 (jv (aN n v) F.1) v hdw.body hdw.t.few (ND _ g1) (jF (Xh _ _) g2);have hal:(((aN n v).map dQ).length:Int)=((aN n v).length:Int):=by rw [BX]
 have hwl:=pI (ji (aN n v) F.1);have hcz:(jf { dG with kind:=(n:Int) } []).cells=[.i .i64 (n:Int),.i .u64 0,.i .u64 0,.i .u64 0,.i .u64 0,.i .u64 0,.i .u64 0,.i .u64 0,.i .u64 0,.i .u64 0,.i .u64 0,.i .u64 0,.i .u64 0,.i .u64 0,.i .u64 0,.i .u64 0,.i .i64 0,.b false,.s [],.s [],.s [],.l [],.l [],.l []]:=rfl;rw [hcz] at kd;simp only [jM,fJ] at kd;simp only;clear hdw hcz g1 g2 g3 k8;generalize oH (aN n v) { dG with kind:=(n:Int) } (ji (aN n v) F.1)=R at *;generalize jv (aN n v) F.1=O at *;generalize aF (ji (aN n v) F.1)=W at *;generalize (ji (aN n v) F.1).length=WL at *;generalize aF F.1=FG at *;generalize zG [] (aN n v)=MP at *;generalize (aN n v).map dQ=SP at *;generalize qB (aN n v)=TG at *;generalize ((aN n v).length:Int)=L at *;generalize jH n=fk at *;by_cases e3:R.2=0;rotate_left
 ·rw [ah e3] at kd
  rw [ak e3];simp only;rw [fn,<- hz];generalize aF O=OG at *;clear kc;refine bF rfl rfl ?_ rfl;simp -implicitDefEqProofs (maxSteps:=10000000) [↓FY,c1,c2,c3',kg,mW,wn,kf,c5,c6,hsub,hT,j0,hwg,kn,hal,kz,kt,ks,hwl,kd,e3]
 rw [ak e3] at kd;rw [ah (λx=>x e3)];rw [xq] at kd;by_cases e4:gJ R.1 O v=0
 ·rw [ah (λx=>x e4)]
  rw [e4] at kc;simp only;generalize aF O=OG at *;clear e3 e4;refine bF rfl rfl ?_ rfl;simp -implicitDefEqProofs (maxSteps:=10000000) [↓FY,c1,c2,c3',kg,mW,wn,kf,c5,c6,hsub,hT,j0,hwg,kn,hal,kz,kt,ks,hwl,kd,qQ,kc]
 ·rw [ak e4]
  simp only;rw [fn,<- hz];generalize aF O=OG at *;generalize gJ R.1 O v=ck at *;refine bF rfl rfl ?_ rfl;simp -implicitDefEqProofs (maxSteps:=10000000) [↓FY,c1,c2,c3',kg,mW,wn,kf,c5,c6,hsub,hT,j0,hwg,kn,hal,kz,kt,ks,hwl,kd,qQ,kc,e4]
theorem KO (n:Nat) (x:List UInt8) (hn:n < 18446744073709551616):au (aP n++x)=(n,(aP n).length,0):=Es n x hn
theorem aoU (n:Nat):1<=(aP n).length:=yK n
theorem Vr:∀ (N:Nat) (L:List aH) (w ahead:Nat),dS L->pO L->wL L<=1000000000000->gK w (ahead:Int) L=0->w<=8->(bH L).length < N->dh N w ahead (bH L)=(L,0)
 | 0,L,w,ahead,_,_,_,_,_,h=>by omega
 | N+1,[],w,ahead,_,_,_,_,_,_=>by
   unfold dh;rw [ak (by simp only [bH])]
 | N+1,.mk t y n s k::L,w,ahead,hok,hty,hw,hc,h8,hl=>by
   have hwl:=hw;simp only [wL,wF] at hw;have hkl:=FU (cu k+1) k (by omega) (by simp only [dS,pG] at hok;exact hok.1.2) (by simp only [pO,BO] at hty;exact hty.1.2.2) (by omega);obtain ⟨t1,t2,y1,y2,y3,tk⟩:=RV (KG hty (.mk t y n s k) (by simp));simp only [dS,pG] at hok;have NZ:=KG hty (.mk t y n s k) (by simp);simp only [BO] at NZ;have aho:pO L:=by simp only [pO] at hty;exact hty.2
   -- the checks
   unfold gK at hc;by_cases h1:(aH.mk t y n s k).tag=0
   ·rw [ak h1] at hc;exact absurd hc (by decide)
   rw [ah h1] at hc;by_cases h2:4294967296 < (aH.mk t y n s k).tag
   ·rw [ak h2] at hc;exact absurd hc (by decide)
   rw [ah h2] at hc;by_cases h3:(aH.mk t y n s k).tag<=(ahead:Int)
   ·rw [ak h3] at hc;exact absurd hc (by decide)
   rw [ah h3] at hc;by_cases h4:uM w (.mk t y n s k)=0;rotate_left
   ·rw [ak h4] at hc;exact absurd hc h4
   rw [ah (λe=>e h4)] at hc;have h3:¬ t<=(ahead:Int):=h3;have hc:gK w t L=0:=hc;clear h1 h2;have hT:((t.toNat:Nat):Int)=t:=by omega
   have hN:(4 * t+y).toNat=4 * t.toNat+y.toNat:=by omega
   have hv1:∀x,au (aP (4 * t+y).toNat++x)=((4 * t+y).toNat,(aP (4 * t+y).toNat).length,0):=λx=>KO _ x (by omega);have hd4:(4 * t+y).toNat / 4=t.toNat:=by omega
   have hm4:(4 * t+y).toNat % 4=y.toNat:=by omega
   have ih:=Vr N L w t.toNat hok.2 aho (by omega) (by rw [hT];exact hc) h8;simp only [bH,FT] at hl ⊢;simp only [bY] at hl;have p1:=aoU (4 * t+y).toNat;have hne:¬ (aP (4 * t+y).toNat++(if y=0 then aP n.toNat else if y=1 then aP s.length++s else aP (bH k).length++bH k)++bH L=[]):=by
    intro e;have:=tq List.length e;simp only [bY,sJ] at this;omega
   unfold dh;rw [ah hne]
   -- one field
   have one:gZ (λt=>dh N (w+1) 0 t) w ahead (aP (4 * t+y).toNat++(if y=0 then aP n.toNat else if y=1 then aP s.length++s else aP (bH k).length++bH k)++bH L)=(.mk t y n s k,(aP (4 * t+y).toNat).length+(if y=0 then aP n.toNat else if y=1 then aP s.length++s else aP (bH k).length++bH k).length,0):=by
    unfold gZ;rw [List.append_assoc,hv1];simp only [ne_eq,not_true_eq_false,if_false,hd4,hm4,qE];rw [ah (by omega),ah (by omega),ah (by omega),ah (by omega)];rcases y3 with hy | hy | hy
    ·subst hy
     have e:=NZ.2.1;obtain ⟨e1,e2⟩:s=[]/\k=[]:=by
      rcases e with e | e | e
      ·exact e.2
      ·exact absurd e.1 (by decide)
      ·exact absurd e.1 (by decide)
     subst e1;subst e2;simp only [if_true];rw [KO _ _ (by omega)];simp only [not_true_eq_false,if_false,Int.toNat_zero,if_true];rw [hT,show ((n.toNat:Nat):Int)=n by omega]
    ·subst hy
     have e:=NZ.2.1;obtain ⟨e1,e2⟩:n=0/\k=[]:=by
      rcases e with e | e | e
      ·exact absurd e.1 (by decide)
      ·exact e.2
      ·exact absurd e.1 (by decide)
     subst e1;subst e2;simp only [show ((1:Int)=0)=False from by simp,show ((1:Int)=1)=True from by simp,if_false,if_true];rw [List.append_assoc,KO _ _ (by omega)];simp only [not_true_eq_false,if_false];rw [ah (show ¬ Int.toNat 1=0 by decide),ah (by simp only [bY];omega),ak (show Int.toNat 1=1 by decide)];rw [<- oQ,qE,qE,QB];rw [hT];simp only [bY,gX]
    ·subst hy
     have e:=NZ.2.1;obtain ⟨e1,e2⟩:n=0/\s=[]:=by
      rcases e with e | e | e
      ·exact absurd e.1 (by decide)
      ·exact absurd e.1 (by decide)
      ·exact e.2
     subst e1;subst e2;have h5:¬ 8<=w/\gK (w+1) 0 k=0:=by
      unfold uM at h4;rw [ah (by decide),ah (by decide),ak rfl,ak ⟨rfl,rfl⟩] at h4;by_cases c:8<=w
      ·rw [ak c] at h4;exact absurd h4 (by decide)
      ·rw [ah c] at h4;exact ⟨c,h4⟩
     have ik:=Vr N k (w+1) 0 hok.1.2 tk (by omega) h5.2 (by omega) (by
      simp only [ah (show ¬ (2:Int)=0 by decide),ah (show ¬ (2:Int)=1 by decide),bY] at hl;omega)
     simp only [show ((2:Int)=0)=False from by simp,show ((2:Int)=1)=False from by simp,if_false];rw [List.append_assoc,KO _ _ (by omega)];simp only [not_true_eq_false,if_false];rw [ah (show ¬ Int.toNat 2=0 by decide),ah (by simp only [bY];omega),ah (show ¬ Int.toNat 2=1 by decide),ah h5.1];rw [<- oQ,qE,qE,QB];rw [ik];simp only [not_true_eq_false,if_false];rw [hT];simp only [bY,gX]
   rw [one];simp only [ne_eq,not_true_eq_false,if_false];rw [List.append_assoc,hv1];simp only [hd4];have hdrop:∀A B C:List UInt8,(A++(B++C)).drop (A.length+B.length)=C:=λA B C=>by rw [<- oQ,qE,qE]
   rw [hdrop,ih (by omega)];simp
theorem agp {L:List aH} (h:Qk L) (hl:(bH L).length<=65536):uQ (bH L)=(L,0):=by
 unfold uQ;rw [ah (by omega)];exact Vr ((bH L).length+1) L 0 0 h.ok (MK (cu L+1) L (by omega) h.ok 0 0 h.chk (by omega)) h.w h.chk (by omega) (by omega)
theorem afc {k w:Int} (hk:1<=k/\k<=8) (h1:1<=w) (h3:w<=3) (hf:jH k<=w) {L:List aH} (h:Qk L) (hl:(aP k.toNat++bH L).length<=65536) :
 zk (aP k.toNat++bH L) w=(if (oH (aN k w) { dG with kind:=k } (ji (aN k w) L)).2≠0 then (dG,[],(oH (aN k w) { dG with kind:=k } (ji (aN k w) L)).2) else
  if gJ (oH (aN k w) { dG with kind:=k } (ji (aN k w) L)).1 (jv (aN k w) L) w≠0 then (dG,[],gJ (oH (aN k w) { dG with kind:=k } (ji (aN k w) L)).1 (jv (aN k w) L) w) else ((oH (aN k w) { dG with kind:=k } (ji (aN k w) L)).1,jv (aN k w) L,0)):=by
 have hlf:(bH L).length<=65536:=by rw [bY] at hl;omega
 have hv:=KO k.toNat (bH L) (by omega);have hkk:((k.toNat:Nat):Int)=k:=by omega
 have hf0:jH k≠0:=by
  unfold jH;obtain ⟨a,b⟩:=hk;rcases (show k=1\/k=2\/k=3\/k=4\/k=5\/k=6\/k=7\/k=8 by omega) with rfl | rfl | rfl | rfl | rfl | rfl | rfl | rfl<;>decide
 have hg:=agp h hlf;unfold zk;rw [ah (by omega),ah (by omega),ah (by omega),hv];simp only [ne_eq,not_true_eq_false,if_false,hkk,qE];rw [ah (by omega),ah hf0,ah (by omega),hg];simp only [not_true_eq_false,if_false]
/-- The parts for a message that some names tell, put into another one. -/
def jS (b c:aB):List bP->aB
 | []=>c
 | s::l=>match placeOf s.name with
   | some p=>if (aV b p).1=0/\(aV b p).2=[] then jS b c l else jS b (uY b c p) l
   | none=>jS b c l
theorem Nz (s:bP):∀l:List bP,l.Pairwise (λa b=>a.tag < b.tag)->s∈l->l.find? (λx=>decide (x.tag=s.tag))=some s
 | [],_,h=>by cases h
 | a::l,hl,h=>by
   rw [vG] at hl;rw [List.find?_cons];rcases dn.1 h with e | h
   ·subst e;simp
   ·have:=hl.1 s h
    rw [MV (show ¬ a.tag=s.tag by omega)];simp only;exact Nz s l hl.2 h
theorem YL {b:aB} {fl:List aH} {u:Int} (hm:EU b fl) (hc:gJ b fl u=0) {l:List bP} (hl:l.Pairwise (λa b=>a.tag < b.tag)):∀ (ls:List bP) (c:aB),(∀s∈ls,s∈l)->oH l c (je b ls)=(jS b c ls,0)
 | [],c,_=>rfl
 | s::ls,c,hs=>by
   have ih:=λc=>YL hm hc hl ls c (λx hx=>hs x (by simp [hx]));rw [Bl];unfold jS vU;cases hp:placeOf s.name with
   | none=>
     simp only [fJ];exact ih c
   | some p=>
     simp only;by_cases hz:(aV b p).1=0/\(aV b p).2=[]
     ·rw [ak hz,ak hz]
      simp only [fJ];exact ih c
     ·rw [ah hz,ah hz]
      simp only [jM,fJ];have hmay:=aer hc hp hz;obtain ⟨g1, -, -,g4⟩:=alR hm.msg hm.short p hmay hz;have hfind:=Nz s l hl (hs s (by simp));unfold oH;have e1:aH.tag (.mk s.tag (aY p) (aV b p).1 (aV b p).2 [])=s.tag:=rfl;have e2:aH.typ (.mk s.tag (aY p) (aV b p).1 (aV b p).2 [])=aY p:=rfl;have e3:aH.num (.mk s.tag (aY p) (aV b p).1 (aV b p).2 [])=(aV b p).1:=rfl;have e4:aH.txt (.mk s.tag (aY p) (aV b p).1 (aV b p).2 [])=(aV b p).2:=rfl;rw [e1,hfind,e2,e3,e4];simp only [hp];rw [ak g1,g4];exact ih _
theorem Oh (k:Int) {w u:Int} (h:w<=u):aN k w=(aN k u).filter (λs=>decide (s.from_<=w)):=by
 unfold aN;rw [List.filter_filter];congr 1;funext s;by_cases h1:s.from_<=w
 ·have:s.from_<=u:=by omega
  simp [h1,this]
 ·simp [h1]
theorem agR {l:List bP} (hl:l.Pairwise (λa b=>a.tag < b.tag)) (q:bP->Bool) {s:bP} (hs:s∈l):hasTag (l.filter q) s.tag=q s:=by
 cases hq:q s with
 | true=>
   unfold hasTag;exact List.any_eq_true.2 ⟨s,uz.2 ⟨hs,hq⟩,by simp⟩
 | false=>
   cases ht:hasTag (l.filter q) s.tag with
   | false=>rfl
   | true=>
     unfold hasTag at ht;obtain ⟨x,hx,e⟩:=List.any_eq_true.1 ht;have e:s.tag=x.tag:=Gt e;obtain ⟨hx1,hx2⟩:=uz.1 hx;have f1:=Nz s l hl hs;have f2:=Nz x l hl hx1;rw [<- e,f1] at f2;injection f2 with f2
     rw [<- f2,hq] at hx2;cases hx2
theorem aaD (b:aB) (P:Int->Bool) (q:bP->Bool):∀ls:List bP,(∀s∈ls,P s.tag=q s)->(je b ls).filter (λf=>P f.tag)=je b (ls.filter q)
 | [],_=>rfl
 | s::ls,h=>by
   have ih:=aaD b P q ls (λx hx=>h x (by simp [hx]));have hs:=h s (by simp);rw [Bl,Xd,ih,KX];cases hk:vU b s with
   | none=>
     have hk0:∀z,je b (s::z)=je b z:=λz=>by rw [Bl,hk];rfl
     cases hq:q s with
     | true=>simp [hk0]
     | false=>simp
   | some f=>
     obtain ⟨p, -,rfl, -⟩:=JI hk;have ht:P (aH.mk s.tag (aY p) (aV b p).1 (aV b p).2 []).tag=q s:=hs;cases hq:q s with
     | true=>
       rw [hq] at ht;simp only [KX,ht,if_true,List.filter_nil];rw [Bl,hk]
     | false=>
       rw [hq] at ht;simp [KX,ht]
theorem ak2 {b:aB} {fl:List aH} {u w:Int} (hc:gJ b fl u=0) (h:w<=u):∀f∈fl,hasTag (aN b.kind w) f.tag=false:=λf hf=>by
 have h1:=(AP hc).2.2.2.2 f hf;cases ht:hasTag (aN b.kind w) f.tag with
 | false=>rfl
 | true=>
   rw [Oh b.kind h] at ht;unfold hasTag at ht h1;obtain ⟨x,hx,e⟩:=List.any_eq_true.1 ht;have:(aN b.kind u).any (λs=>decide (f.tag=s.tag))=true:=List.any_eq_true.2 ⟨x,(uz.1 hx).1,e⟩;rw [this] at h1;exact h1
theorem ao2 {b:aB} {fl:List aH} {u w:Int} (hc:gJ b fl u=0) (h:w<=u):ji (aN b.kind w) (qH b fl u)=je b (aN b.kind w):=by
 obtain ⟨mp,ms⟩:=Gp (E5 hc);have hp:=mp.filter (λf=>hasTag (aN b.kind w) f.tag);rw [Xd] at hp;have e1:fl.filter (λf=>hasTag (aN b.kind w) f.tag)=[]:=adA.2 λf hf=>by rw [ak2 hc h f hf];decide
 have e2:=aaD b (hasTag (aN b.kind w)) (λs=>decide (s.from_<=w)) (aN b.kind u) (λs hs=>by
  rw [Oh b.kind h];exact agR (DK b.kind u).1 _ hs)
 rw [<- Oh b.kind h] at e2;rw [e1,e2,mM] at hp;refine Pm _ _ hp ?_ (Oi b _ (DK b.kind w).1);exact (ms.sublist Qv).imp λh=>by omega
theorem abZ (b c:aB) (p:Pl):kP (uY b c p) b p:=by
 cases p with
 | num k=>rcases k with _ | _ | _ | _ | _ | _ | _ | _ | _ | _ | _ | _ | _ | _ | k<;>rfl
 | _=>rfl
theorem Vl (b c d:aB) (p q:Pl) (hp:jg p) (hq:jg q) (hne:q≠p):kP (uY b c p) d q↔kP c d q:=by
 cases p with
 | num k=>
   cases q with
   | num j=>
     show fK (uY b c (.num k)) j=fK d j↔fK c j=fK d j
     rw [ake b c j k hp hq (λe=>hne (by rw [e]))]
   | _=>unfold uY;split<;>rename_i hk<;>cases hk<;>(split<;>exact Iff.rfl)
 | _=>
   cases q with
   | num j=>exact Iff.rfl
   | _=>first | exact Iff.rfl | exact absurd rfl hne
theorem val_zero {b:aB} (q:Pl) (hm:qw b q=0) (h:(aV b q).1=0/\(aV b q).2=[]):dF b q=true:=by
 have kn:∀d:List dH,iF d≠[]:=λd e=>by
  have:=tq List.length e;unfold iF at this;have h2:=yK d.length;unfold fF at h2;simp only [bY,sJ] at this;omega
 cases q with
 | rem=>
   simp only [aV] at h;simp only [dF,decide_eq_true_iff];have:=h.1;unfold zz at this;split at this<;>omega
 | allow=>
   simp only [aV] at h;simp only [dF];cases ha:b.allowed with
   | false=>rfl
   | true=>rw [ha] at h;simp at h
 | name=>simp only [aV] at h;simp only [dF,decide_eq_true_iff];exact h.2
 | region=>simp only [aV] at h;simp only [dF,decide_eq_true_iff];exact h.2
 | note=>simp only [aV] at h;simp only [dF,decide_eq_true_iff];exact h.2
 | d=>
   simp only [aV] at h;simp only [dF,decide_eq_true_iff];by_cases c:b.d=[]
   ·exact c
   ·rw [ah c] at h;exact absurd h.2 (kn _)
 | t=>
   simp only [aV] at h;simp only [qw] at hm;simp only [dF,decide_eq_true_iff];by_cases c:b.t=[]
   ·exact c
   ·rw [ah c] at h
    have hk:yE b.t=(mD b.t,0):=by unfold yE;rw [ah (λx=>x hm)]
    rw [hk] at h;have:=tq List.length h.2;unfold mD at this;have h2:=yK b.t.length;unfold fF at h2;simp only [bY,sJ] at this;omega
 | num k=>simp only [aV] at h;simp only [dF,decide_eq_true_iff];exact h.1
/-- A part that some name tells is put, where it is something, or was nothing. -/
theorem O3 {b:aB} {q:Pl} (hq:jg q) (hmay:qw b q=0):∀ (ls:List bP) (c:aB),(∃s∈ls,placeOf s.name=some q)->(dF b q=true->kP c b q)->kP (jS b c ls) b q
 | [],c,h,_=>by obtain ⟨s,hs, -⟩:=h;cases hs
 | s::ls,c,h,hc=>by
   have keep:∀ (ls:List bP) (c:aB),kP c b q->kP (jS b c ls) b q:=λls=>by
    induction ls with
    | nil=>exact λc h=>h
    | cons s ls ih=>
      intro c h;unfold jS;cases hp:placeOf s.name with
      | none=>exact ih c h
      | some p=>
        simp only;split
        ·exact ih c h
        ·refine ih _ ?_
         by_cases e:q=p
         ·rw [e];exact abZ b c p
         ·exact (Vl b c b p q (BH s.name p hp).2.1 hq e).2 h
   unfold jS;cases hp:placeOf s.name with
   | none=>
     refine O3 hq hmay ls c ?_ hc;obtain ⟨x,hx,e⟩:=h;rcases dn.1 hx with rfl | hx
     ·rw [hp] at e;cases e
     ·exact ⟨x,hx,e⟩
   | some p=>
     simp only;by_cases e:q=p
     ·subst e
      split
      ·rename_i hz
       exact keep ls c (hc (val_zero q hmay hz))
      ·exact keep ls _ (abZ b c q)
     ·have h':∃s∈ls,placeOf s.name=some q:=by
       obtain ⟨x,hx,ex⟩:=h;rcases dn.1 hx with rfl | hx
       ·rw [hp] at ex;injection ex with ex;exact absurd ex.symm e
       ·exact ⟨x,hx,ex⟩
      split
      ·exact O3 hq hmay ls c h' hc
      ·exact O3 hq hmay ls _ h' λhn=>(Vl b c b p q (BH s.name p hp).2.1 hq e).2 (hc hn)
/-- A part that no name tells stays. -/
theorem abX {b d:aB} {q:Pl} (hq:jg q):∀ (ls:List bP) (c:aB),(∀s∈ls,placeOf s.name≠some q)->(kP (jS b c ls) d q↔kP c d q)
 | [],c,_=>Iff.rfl
 | s::ls,c,h=>by
   have ih:=λc=>abX (b:=b) (d:=d) hq ls c (λx hx=>h x (by simp [hx]));unfold jS;cases hp:placeOf s.name with
   | none=>exact ih c
   | some p=>
     have e:q≠p:=λe=>h s (by simp) (by rw [hp,e]);simp only;split
     ·exact ih c
     ·exact (ih _).trans (Vl b c d p q (BH s.name p hp).2.1 hq e)
theorem HY (b:aB):∀ (ls:List bP) (c:aB),(jS b c ls).kind=c.kind
 | [],c=>rfl
 | s::ls,c=>by
   unfold jS;cases placeOf s.name with
   | none=>exact HY b ls c
   | some p=>
     simp only;split
     ·exact HY b ls c
     ·rw [HY b ls,akd]
theorem abb (b:aB):∀ (l:List bP),(∀s∈l,tX b s.name=0)->kZ b l=0
 | [],_=>rfl
 | x::l,h=>by
   unfold kZ;rw [ak (h x (by simp))];exact abb b l λs hs=>h s (by simp [hs])
theorem ajy {b c:aB} {q:Pl} (h:kP b c q):qw b q=qw c q:=by
 cases q<;>simp only [kP] at h<;>simp only [qw,h]
theorem Us {b:aB} {k:Int} {q:Pl} (h:dF b q=true):kP { dG with kind:=k } b q:=by
 cases q with
 | num j=>
   simp only [dF,decide_eq_true_iff] at h;show fK { dG with kind:=k } j=fK b j
   rw [h];unfold fK dG;split<;>rfl
 | allow=>simp only [dF,vC] at h;show false=b.allowed;rw [h]
 | rem=>simp only [dF,decide_eq_true_iff] at h;show (0:Int)=b.remaining;rw [h]
 | name=>simp only [dF,decide_eq_true_iff] at h;show ([]:List UInt8)=b.name;rw [h]
 | region=>simp only [dF,decide_eq_true_iff] at h;show ([]:List UInt8)=b.region;rw [h]
 | note=>simp only [dF,decide_eq_true_iff] at h;show ([]:List UInt8)=b.note;rw [h]
 | d=>simp only [dF,decide_eq_true_iff] at h;show ([]:List dH)=b.d;rw [h]
 | t=>simp only [dF,decide_eq_true_iff] at h;show ([]:List Row)=b.t;rw [h]
theorem aph {b:aB} {k:Int} {q:Pl} (h:kP b { dG with kind:=k } q):dF b q=true:=by
 cases q with
 | num j=>
   have h:fK b j=fK { dG with kind:=k } j:=h;simp only [dF,decide_eq_true_iff];rw [h];unfold fK dG;split<;>rfl
 | allow=>have h:b.allowed=false:=h;simp [dF,h]
 | rem=>have h:b.remaining=0:=h;simp [dF,h]
 | name=>have h:b.name=[]:=h;simp [dF,h]
 | region=>have h:b.region=[]:=h;simp [dF,h]
 | note=>have h:b.note=[]:=h;simp [dF,h]
 | d=>have h:b.d=[]:=h;simp [dF,h]
 | t=>have h:b.t=[]:=h;simp [dF,h]
theorem ajz (b:aB) (q:Pl):kP b b q:=by cases q<;>simp [kP]
/-- What is read at a version, part by part: a known one is as it was, all others are nothing. -/
theorem Vt {b:aB} {fl:List aH} {u w:Int} (hc:gJ b fl u=0) (h:w<=u):(∀s∈aN b.kind w,∀q,placeOf s.name=some q->kP (jS b { dG with kind:=b.kind } (aN b.kind w)) b q/\qw b q=0)/\
 (∀n q,placeOf n=some q->qN (aN b.kind w) n=false->dF (jS b { dG with kind:=b.kind } (aN b.kind w)) q=true):=by
 have hmay:∀s∈aN b.kind w,tX b s.name=0:=λs hs=>by
  have hc':=hc;unfold gJ at hc';split at hc'; · cases hc'
  split at hc'; · cases hc'
  split at hc'; · cases hc'
  split at hc'; · cases hc'
  split at hc'
  ·rename_i hm;exact absurd hc' hm
  rename_i hm
  have hm:kZ b (aN b.kind u)=0:=by simpa using hm
  rw [Oh b.kind h] at hs;exact Uh b _ hm s (uz.1 hs).1
 refine ⟨λs hs q hq=>?_,λn q hq hn=>?_⟩
 ·have hm:qw b q=0:=by
   have:=hmay s hs;unfold tX at this;rw [hq] at this;exact this
  exact ⟨O3 (BH s.name q hq).2.1 hm _ _ ⟨s,hs,hq⟩ λhn=>Us hn,hm⟩
 ·refine aph (k:=b.kind) ((abX (BH n q hq).2.1 (aN b.kind w) _ λs hs e=>?_).2 (ajz _ q))
  have:n=s.name:=ajX hq e;unfold qN at hn;have h3:(aN b.kind w).any (λs=>decide (s.name=n))=true:=List.any_eq_true.2 ⟨s,hs,by simp [this]⟩;rw [h3] at hn;cases hn
theorem ahR {k w:Int} (h1:1<=w) (hf:jH k<=w):(k=1->(∃s∈aN k w,placeOf s.name=some (.num 1))/\∃s∈aN k w,placeOf s.name=some (.num 2))/\(k=2->∃s∈aN k w,placeOf s.name=some (.num 3))/\(k=3->∃s∈aN k w,placeOf s.name=some .d)/\(k=5->∃s∈aN k w,placeOf s.name=some (.num 9))/\(k=6->(∃s∈aN k w,placeOf s.name=some (.num 10))/\∃s∈aN k w,placeOf s.name=some (.num 9)):=by
 have mem:∀s:bP,s∈nI k->s.from_<=w->s∈aN k w:=λs hs hw=>uz.2 ⟨hs,by simpa using hw⟩;refine ⟨?_, ?_, ?_, ?_, ?_⟩
 ·rintro rfl
  exact ⟨⟨⟨1,0,1,[109,105,110]⟩,mem _ (by simp [nI,sp1,sp2,qW,qX,qY]) h1,rfl⟩,⟨⟨2,0,1,[109,97,120]⟩,mem _ (by simp [nI,sp1,sp2,qW,qX,qY]) h1,rfl⟩⟩
 ·rintro rfl
  exact ⟨⟨1,0,1,[99,104,111,115,101,110]⟩,mem _ (by simp [nI,sp1,sp2,qW,qX,qY]) h1,rfl⟩
 ·rintro rfl
  exact ⟨⟨2,4,1,[100,101,115,99,114]⟩,mem _ (by simp [nI,sp1,sp2,qW,qX,qY]) h1,rfl⟩
 ·rintro rfl
  exact ⟨⟨1,0,1,[101,112,111,99,104]⟩,mem _ (by simp [nI,sp1,sp2,qW,qX,qY]) h1,rfl⟩
 ·rintro rfl
  have h2:(2:Int)<=w:=hf;exact ⟨⟨⟨1,0,2,[98,97,115,101]⟩,mem _ (by simp [nI,sp1,sp2,qW,qX,qY]) h2,rfl⟩,⟨⟨2,0,2,[101,112,111,99,104]⟩,mem _ (by simp [nI,sp1,sp2,qW,qX,qY]) h2,rfl⟩⟩
theorem ad4 {b:aB} {B:aB} {w:Int} (hk:B.kind=b.kind) (h1:1<=w) (hf:jH b.kind<=w) (hp:∀s∈aN b.kind w,∀q,placeOf s.name=some q->kP B b q):uK B=uK b:=by
 obtain ⟨f1,f2,f3,f5,f6⟩:=ahR (k:=b.kind) h1 hf;have get:∀q,(∃s∈aN b.kind w,placeOf s.name=some q)->kP B b q:=λq hq=>by
  obtain ⟨s,hs,e⟩:=hq;exact hp s hs q e
 unfold uK;rw [hk];by_cases c1:b.kind=1
 ·have a1:B.min=b.min:=get _ (f1 c1).1
  have a2:B.max=b.max:=get _ (f1 c1).2;rw [ak c1,ak c1,a1,a2]
 rw [ah c1,ah c1];by_cases c2:b.kind=2
 ·have a1:B.chosen=b.chosen:=get _ (f2 c2)
  rw [ak c2,ak c2,a1]
 rw [ah c2,ah c2];by_cases c3:b.kind=3
 ·have a1:B.d=b.d:=get _ (f3 c3)
  rw [ak c3,ak c3,a1]
 rw [ah c3,ah c3];by_cases c5:b.kind=5
 ·have a1:B.epoch=b.epoch:=get _ (f5 c5)
  rw [ak c5,ak c5,a1]
 rw [ah c5,ah c5];by_cases c6:b.kind=6
 ·have a1:B.base=b.base:=get _ (f6 c6).1
  have a2:B.epoch=b.epoch:=get _ (f6 c6).2;rw [ak c6,ak c6,a1,a2]
 rw [ah c6,ah c6]
theorem akP {b:aB} {fl:List aH} {u w:Int} (hc:gJ b fl u=0) (h1:1<=w) (h:w<=u) (hf:jH b.kind<=w):uK (jS b { dG with kind:=b.kind } (aN b.kind w))=uK b:=
 ad4 (HY b _ _) h1 hf λs hs q e=>((Vt hc h).1 s hs q e).1
/-- What is read at an elder version may be. -/
theorem akQ {b:aB} {fl:List aH} {u w:Int} (hc:gJ b fl u=0) (h1:1<=w) (h:w<=u) (hf:jH b.kind<=w):gJ (jS b { dG with kind:=b.kind } (aN b.kind w)) (jv (aN b.kind w) (qH b fl u)) w=0:=by
 have hk:(jS b { dG with kind:=b.kind } (aN b.kind w)).kind=b.kind:=HY b _ _;obtain ⟨hp1,hp2⟩:=Vt hc h;have hb:=akP hc h1 h hf;obtain ⟨u1,u3,Ig,hfl,hno⟩:=AP hc;obtain ⟨mp,ms⟩:=Gp (E5 hc);have hbd:uK b=0:=by
  have hc':=hc;unfold gJ at hc';rw [ah (by omega),ah (by omega),ah Ig] at hc';by_cases h4:l9.all (λn=>qN (aN b.kind u) n || nD b n)=false
  ·rw [ak h4] at hc';exact absurd hc' (by decide)
  rw [ah h4] at hc';by_cases h5:kZ b (aN b.kind u)≠0
  ·rw [ak h5] at hc';exact absurd hc' h5
  rw [ah h5] at hc';by_cases h6:uK b=0
  ·exact h6
  ·rw [ak h6] at hc';exact absurd hc' h6
 rw [hbd] at hb;have hne:aN b.kind w≠[]:=by
  have h0:=mt (Oj b.kind u u1 u3).2 Ig;exact mt (Oj b.kind w h1 (by omega)).1 (by omega)
 have hml:kZ (jS b { dG with kind:=b.kind } (aN b.kind w)) (aN b.kind w)=0:=abb _ _ λs hs=>by
  unfold tX;cases hq:placeOf s.name with
  | none=>rfl
  | some q=>
    obtain ⟨a1,a2⟩:=hp1 s hs q hq;simp only;rw [ajy a1,a2]
 have hall:l9.all (λn=>qN (aN b.kind w) n || nD (jS b { dG with kind:=b.kind } (aN b.kind w)) n)=true:=List.all_eq_true.2 λn hn=>by
  cases hx:qN (aN b.kind w) n with
  | true=>rfl
  | false=>
    unfold nD;cases hq:placeOf n with
    | none=>exact absurd hq (abr n hn)
    | some q=>simp only [wE];exact hp2 n q hq hx
 have hrest:Eb (aN b.kind w) (jv (aN b.kind w) (qH b fl u))=0:=by
  have hco:gK 0 0 (jv (aN b.kind w) (qH b fl u))=0:=MJ _ 0 0 (λf hf=>by
   have hf:=(uz.1 hf).1;rcases oz.1 (mp.mem_iff.1 hf) with hf | hf
   ·exact (Dj _ 0 0 (TK b b.kind u)).1 f hf
   ·exact (Dj _ 0 0 hfl).1 f hf) (ms.sublist Qv)
  unfold Eb;rw [ah (λx=>x hco),ah];intro e;obtain ⟨f,hf,ht⟩:=List.any_eq_true.1 e;have:=(uz.1 hf).2;rw [ht] at this;cases this
 generalize jS b { dG with kind:=b.kind } (aN b.kind w)=B at *;unfold gJ;rw [hk,ah (by omega),ah (by omega),ah hne,hall,ah (by decide),ah (λx=>x hml),ah (λx=>x hb)];exact hrest
theorem akR {b:aB} {fl:List aH} {u w:Int} (hm:EU b fl) (hc:gJ b fl u=0) (h1:1<=w) (h:w<=u) (hf:jH b.kind<=w) (hl:(bytesV b fl u).length<=65536):zk (bytesV b fl u) w=(jS b { dG with kind:=b.kind } (aN b.kind w),jv (aN b.kind w) (qH b fl u),0):=by
 obtain ⟨u1,u3,Ig, -, -⟩:=AP hc;have hr:=akQ hc h1 h hf;unfold bytesV at hl ⊢;rw [afc (aaB Ig) h1 (by omega) hf (XK hm hc) hl,ao2 hc h,YL hm hc (DK b.kind w).1 (aN b.kind w) _ (λs hs=>hs)];simp only [ne_eq,not_true_eq_false,if_false];rw [ah (λx=>x hr)]
/-- Read at its own version a message is as it was. -/
theorem akS {b:aB} {fl:List aH} {u:Int} (hc:gJ b fl u=0):jS b { dG with kind:=b.kind } (aN b.kind u)=b/\jv (aN b.kind u) (qH b fl u)=fl:=by
 have hk:(jS b { dG with kind:=b.kind } (aN b.kind u)).kind=b.kind:=HY b _ _;obtain ⟨hp1,hp2⟩:=Vt hc (Iy u);obtain ⟨u1,u3,Ig,hfl,hno⟩:=AP hc;obtain ⟨mp,ms⟩:=Gp (E5 hc);constructor
 ·refine (parts_all _ b hk).1 λn hn q hq=>?_
  cases hx:qN (aN b.kind u) n with
  | true=>
    unfold qN at hx;obtain ⟨s,hs,e⟩:=List.any_eq_true.1 hx;have e:s.name=n:=Gt e;exact (hp1 s hs q (by rw [e];exact hq)).1
  | false=>
    have hB:=hp2 n q hq hx;have hbn:dF b q=true:=by
     have hc':=hc;unfold gJ at hc';rw [ah (by omega),ah (by omega),ah Ig] at hc';by_cases h4:l9.all (λn=>qN (aN b.kind u) n || nD b n)=false
     ·rw [ak h4] at hc';exact absurd hc' (by decide)
     rw [Qo] at h4;have:=List.all_eq_true.1 h4 n hn;rw [hx,wE] at this;unfold nD at this;rw [hq] at this;exact this
    have z1:=Us (k:=0) hB;have z2:=Us (k:=0) hbn;generalize jS b { dG with kind:=b.kind } (aN b.kind u)=B at *;cases q<;>simp only [kP] at z1 z2 ⊢<;>rw [<- z1,<- z2]
 ·have hpf:=mp.filter (λf=>!hasTag (aN b.kind u) f.tag)
  rw [Xd] at hpf;have e1:fl.filter (λf=>!hasTag (aN b.kind u) f.tag)=fl:=List.filter_eq_self.2 λf hf=>by rw [hno f hf];rfl
  have e2:(je b (aN b.kind u)).filter (λf=>!hasTag (aN b.kind u) f.tag)=[]:=adA.2 λf hf=>by
   obtain ⟨s,hs,p, -,rfl, -⟩:=JJ hf;have:hasTag (aN b.kind u) s.tag=true:=by unfold hasTag;exact List.any_eq_true.2 ⟨s,hs,by simp⟩
   show ¬ (!hasTag (aN b.kind u) s.tag)=true
   rw [this];decide
  rw [e1,e2,fJ] at hpf;exact Pm _ _ hpf ((ms.sublist Qv).imp λh=>by omega) (Dj fl 0 0 hfl).2
end L
end Go.Proofs.YtpioimdhbbgniaaGreatDoor
