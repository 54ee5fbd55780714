/- What the trees compute: plain laws. -/
import Derived.Test.YtcpfjpcdcafjmaaGreatDoorKKe3
import Derived.Test.YtcpfjpcdcafjmaaGreatDoorKKe4
namespace Go.Proofs.YtcpfjpcdcafjmaaGreatDoor
open Go Go.aO
set_option linter.unusedSimpArgs false
set_option linter.unusedVariables false
set_option maxRecDepth 100000
namespace K
theorem atd {n:Int} (hn:0<=n/\n < 18446744073709551616) : -9223372036854775808<=BP n/\BP n<=9223372036854775807:=by
 unfold BP;split<;>omega
theorem QO {b:aB} {n:Int} {s:List UInt8} {p:Pl} {ty:Int} (hb:kL b) (hd:iq b.d=true) (ht:oD b.t) (hn:0<=n/\n < 18446744073709551616) (hs:s.length<=100000000) (h:aN ty n s p=0):kL (setB b n s p)/\iq (setB b n s p).d=true/\oD (setB b n s p).t:=by
 have hE:iF n s p=0:=by
  unfold aN at h;split at h
  ·split at h<;>split at h<;>first | exact h | exact absurd h (by decide)
  ·exact absurd h (by decide)
 cases p with
 | rem=>exact ⟨{ hb with remaining:=atd hn },hd,ht⟩
 | allow=>exact ⟨{ hb with },hd,ht⟩
 | name=>exact ⟨{ hb with name:=by show s.length<=_;omega },hd,ht⟩
 | region=>exact ⟨{ hb with region:=by show s.length<=_;omega },hd,ht⟩
 | note=>exact ⟨{ hb with note:=by show s.length<=_;omega },hd,ht⟩
 | d=>
   have hp:=aaB (s:=s) hE hs;exact ⟨{ hb with d:=hp.ents },hp.few,ht⟩
 | t=>
   have hp:=(arW (s:=s) hs).1;exact ⟨{ hb with t:=hp.rows },hd,hp.good⟩
 | num k=>
   unfold setB;split<;>rename_i hk
   ·exact absurd hk (by simp)
   ·exact absurd hk (by simp)
   ·exact absurd hk (by simp)
   ·exact absurd hk (by simp)
   ·exact absurd hk (by simp)
   ·exact absurd hk (by simp)
   ·exact absurd hk (by simp)
   ·split<;>exact ⟨by constructor<;>first | exact hn | exact hb.kind | exact hb.id | exact hb.min | exact hb.max | exact hb.chosen | exact hb.flags | exact hb.cost | exact hb.priority | exact hb.deadline | exact hb.retry | exact hb.epoch | exact hb.base | exact hb.digest | exact hb.lag | exact hb.code | exact hb.want | exact hb.remaining | exact hb.name | exact hb.region | exact hb.note | exact hb.d | exact hb.t,hd,ht⟩
structure jE (b:aB) (fl:List aF):Prop where
 body:kL b
 d:iq b.d=true
 t:oD b.t
 f8:bY fl
 len:fl.length<=1000000
theorem MZ:jE bP []:=⟨by constructor<;>simp [bP,uz,Rows],by simp [bP,iq],⟨by simp [bP],by intro r hr;simp [bP] at hr,by simp [bP,Rows]⟩,by simp only [bY],by simp⟩
theorem jE.alS {b c:aB} {fb fc:List aF} (h:jE b fb) (k:jE c fc) (hsz:bI fb<=1000000):TT.lim 130 [bU b (aC fb),bU c (aC fc)]=some [.b (dn (b=c/\fb=fc))]:=al9 b c fb fc (KC h.d) (KC k.d) h.t k.t h.f8 k.f8 h.len k.len hsz
theorem jE.adi {b:aB} {fb:List aF} (h:jE b fb) (hsz:bI fb<=1000000):TT.lim 130 [bU b (aC fb),bU b (aC fb)]=some [.b true]:=by
 rw [h.alS h hsz,jP ⟨rfl,rfl⟩]
theorem ad7 {b:aB} {l:List One} (hb:kL b) (hl:Ones l) (h:Dh b l=true):jE b (sG l)/\bI (sG l)<=1000000/\uU l=true:=by
 unfold Dh at h;simp only [aJ] at h;obtain ⟨hok,hlen⟩:=alf l hl h.2.2.2.2.2;have h60:l.length<=60:=by
  have:=h.2.2.2.2.2;unfold uU at this;rw [aJ,decide_eq_true_iff] at this;exact this.2
 have hsz:=acX l;exact ⟨⟨hb,h.2.2.2.1,ajg hb.t h.2.2.2.2.1,hok,hlen⟩,by omega,h.2.2.2.2.2⟩
def nameOf:Pl->List UInt8
 | .rem=>lX
 | .allow=>lD
 | .name=>kR
 | .region=>kT
 | .note=>kS
 | .d=>lK
 | .t=>lZ
 | .num k=>match k with
   | 0=>lS
   | 1=>lV
   | 2=>lU
   | 3=>lG
   | 4=>lQ
   | 5=>lI
   | 6=>lW
   | 7=>lJ
   | 8=>lY
   | 9=>lN
   | 10=>lF
   | 11=>lM
   | 12=>lT
   | 13=>lH
   | _=>l7
def iw:Pl->Prop
 | .num k=>k < 15
 | _=>True
theorem vC (n:List UInt8):∀p,placeOf n=some p->n=nameOf p/\iw p/\n∈dR:=by
 refine JZ (Q:=λn=>∀p,placeOf n=some p->n=nameOf p/\iw p/\n∈dR) (λp h=>by rw [DZ] at h;cases h;exact ⟨rfl,by simp [iw],by rw [l9];simp⟩) (λp h=>by rw [Dz] at h;cases h;exact ⟨rfl,by simp [iw],by rw [l9];simp⟩) (λp h=>by rw [Bj] at h;cases h;exact ⟨rfl,by simp [iw],by rw [l9];simp⟩) (λp h=>by rw [Bo] at h;cases h;exact ⟨rfl,by simp [iw],by rw [l9];simp⟩) (λp h=>by rw [Bl] at h;cases h;exact ⟨rfl,by simp [iw],by rw [l9];simp⟩) (λp h=>by rw [DL] at h;cases h;exact ⟨rfl,by simp [iw],by rw [l9];simp⟩) (λp h=>by rw [D6] at h;cases h;exact ⟨rfl,by simp [iw],by rw [l9];simp⟩) (λp h=>by rw [DU] at h;cases h;exact ⟨rfl,by simp [iw],by rw [l9];simp⟩) (λp h=>by rw [DX] at h;cases h;exact ⟨rfl,by simp [iw],by rw [l9];simp⟩) (λp h=>by rw [DW] at h;cases h;exact ⟨rfl,by simp [iw],by rw [l9];simp⟩) (λp h=>by rw [DF] at h;cases h;exact ⟨rfl,by simp [iw],by rw [l9];simp⟩) (λp h=>by rw [DT] at h;cases h;exact ⟨rfl,by simp [iw],by rw [l9];simp⟩) (λp h=>by rw [DJ] at h;cases h;exact ⟨rfl,by simp [iw],by rw [l9];simp⟩) (λp h=>by rw [DY] at h;cases h;exact ⟨rfl,by simp [iw],by rw [l9];simp⟩) (λp h=>by rw [DK] at h;cases h;exact ⟨rfl,by simp [iw],by rw [l9];simp⟩) (λp h=>by rw [D5] at h;cases h;exact ⟨rfl,by simp [iw],by rw [l9];simp⟩) (λp h=>by rw [DR] at h;cases h;exact ⟨rfl,by simp [iw],by rw [l9];simp⟩) (λp h=>by rw [DC] at h;cases h;exact ⟨rfl,by simp [iw],by rw [l9];simp⟩) (λp h=>by rw [DN] at h;cases h;exact ⟨rfl,by simp [iw],by rw [l9];simp⟩) (λp h=>by rw [DV] at h;cases h;exact ⟨rfl,by simp [iw],by rw [l9];simp⟩) (λp h=>by rw [DI] at h;cases h;exact ⟨rfl,by simp [iw],by rw [l9];simp⟩) (λp h=>by rw [D7] at h;cases h;exact ⟨rfl,by simp [iw],by rw [l9];simp⟩) (λn e0 e1 e2 e3 e4 e5 e6 e7 e8 e9 e10 e11 e12 e13 e14 e15 e16 e17 e18 e19 e20 e21 p h=>?_) n;rw [LW n e0 e1 e2 e3 e4 e5 e6 e7 e8 e9 e10 e11 e12 e13 e14 e15 e16 e17 e18 e19 e20 e21] at h;cases h
theorem Xh {a b:List UInt8} {p:Pl} (ha:placeOf a=some p) (hb:placeOf b=some p):a=b:=by rw [(vC a p ha).1,(vC b p hb).1]
theorem adl (b:aB) (r:List GV) (hb:kL b) (hd:iq b.d=true) (hf:zY b.t) (n:List UInt8):(∃p,placeOf n=some p/\TT.lim 77 [bU b r,.s n]=some [.g [.i .u64 0,.i .i64 (aV p),.i .u64 (aK b p).1,.s (aK b p).2,.l []],.b true])\/
 (placeOf n=none/\TT.lim 77 [bU b r,.s n]=some [.g [.i .u64 0,.i .i64 0,.i .u64 0,.s [],.l []],.b false]):=by
 refine JZ (Q:=λn=>(∃p,placeOf n=some p/\TT.lim 77 [bU b r,.s n]=some [.g [.i .u64 0,.i .i64 (aV p),.i .u64 (aK b p).1,.s (aK b p).2,.l []],.b true])\/
  (placeOf n=none/\TT.lim 77 [bU b r,.s n]=some [.g [.i .u64 0,.i .i64 0,.i .u64 0,.s [],.l []],.b false])) (.inl ⟨_,DZ,asC b r hb⟩) (.inl ⟨_,Dz,asf b r⟩) (.inl ⟨_,Bj,asy b r⟩) (.inl ⟨_,Bo,asB b r⟩) (.inl ⟨_,Bl,asz b r⟩) (.inl ⟨_,DL,asn b r hd⟩) (.inl ⟨_,D6,asE b r hb hf⟩) (.inl ⟨_,DU,asu b r⟩) (.inl ⟨_,DX,asx b r⟩) (.inl ⟨_,DW,asw b r⟩) (.inl ⟨_,DF,ash b r⟩) (.inl ⟨_,DT,asr b r⟩) (.inl ⟨_,DJ,asj b r⟩) (.inl ⟨_,DY,asA b r⟩) (.inl ⟨_,DK,asl b r⟩) (.inl ⟨_,D5,asD b r⟩) (.inl ⟨_,DR,asq b r⟩) (.inl ⟨_,DC,asg b r⟩) (.inl ⟨_,DN,aso b r⟩) (.inl ⟨_,DV,asv b r⟩) (.inl ⟨_,DI,asi b r⟩) (.inl ⟨_,D7,asF b r⟩) (λn e0 e1 e2 e3 e4 e5 e6 e7 e8 e9 e10 e11 e12 e13 e14 e15 e16 e17 e18 e19 e20 e21=>.inr ⟨LW n e0 e1 e2 e3 e4 e5 e6 e7 e8 e9 e10 e11 e12 e13 e14 e15 e16 e17 e18 e19 e20 e21,amh b r n e0 e1 e2 e3 e4 e5 e6 e7 e8 e9 e10 e11 e12 e13 e14 e15 e16 e17 e18 e19 e20 e21⟩) n
theorem VZ {b:aB} {fl:List aF} (h:jE b fl) {n:List UInt8} {p:Pl} (hp:placeOf n=some p):TT.lim 77 [bU b (aC fl),.s n]=some [.g [.i .u64 0,.i .i64 (aV p),.i .u64 (aK b p).1,.s (aK b p).2,.l []],.b true]:=by
 rcases adl b (aC fl) h.body h.d h.t.few n with ⟨q,hq,hv⟩ | ⟨hq, -⟩
 ·rw [hp] at hq
  injection hq with hq
  rw [hq];exact hv
 ·rw [hp] at hq;cases hq
/-- A message, one part told anew. -/
def wJ (b c:aB):Pl->aB
 | .rem=>{ c with remaining:=b.remaining }
 | .allow=>{ c with allowed:=b.allowed }
 | .name=>{ c with name:=b.name }
 | .region=>{ c with region:=b.region }
 | .note=>{ c with note:=b.note }
 | .d=>{ c with d:=b.d }
 | .t=>{ c with t:=b.t }
 | .num k=>match k with
   | 0=>{ c with id:=b.id }
   | 1=>{ c with min:=b.min }
   | 2=>{ c with max:=b.max }
   | 3=>{ c with chosen:=b.chosen }
   | 4=>{ c with flags:=b.flags }
   | 5=>{ c with cost:=b.cost }
   | 6=>{ c with priority:=b.priority }
   | 7=>{ c with deadline:=b.deadline }
   | 8=>{ c with retry:=b.retry }
   | 9=>{ c with epoch:=b.epoch }
   | 10=>{ c with base:=b.base }
   | 11=>{ c with digest:=b.digest }
   | 12=>{ c with lag:=b.lag }
   | 13=>{ c with code:=b.code }
   | _=>{ c with want:=b.want }
theorem anA (b c:aB) (p:Pl):(wJ b c p).kind=c.kind:=by
 unfold wJ;split<;>first | rfl | (split<;>rfl)
theorem anB (b c:aB) (j k:Nat) (hk:k < 15) (hj:j < 15) (hne:j≠k):fE (wJ b c (.num k)) j=fE c j:=by
 rcases k with _ | _ | _ | _ | _ | _ | _ | _ | _ | _ | _ | _ | _ | _ | _ | k
 all_goals first | (exfalso;omega) | skip
 all_goals (rcases j with _ | _ | _ | _ | _ | _ | _ | _ | _ | _ | _ | _ | _ | _ | _ | j)<;>first | rfl | exact absurd rfl hne | (exfalso;omega)
theorem ate (x:Int) (h : -9223372036854775808<=x/\x<=9223372036854775807):BP (zz x)=x:=by
 unfold BP zz;split<;>split<;>omega
theorem atb (x:Int) (h : -9223372036854775808<=x/\x<=9223372036854775807):0<=zz x/\zz x < 18446744073709551616:=by
 unfold zz;split<;>omega
theorem adH (t:List Row) (ht:oD t):(nR t).length<=90000000:=by
 have h:=XC t [] (λr hr=>⟨ht.few r hr,(ht.rows.2 r hr).2⟩);have h3:=ht.len;have hv:(aT t.length).length<=20:=by
  have:=ng (n:=t.length) (by omega);omega
 unfold nR;rw [dQ];have:40000 * t.length<=40000 * 300:=Nw _ h3;omega
/-- What may be, and is something, is put as it was read. -/
theorem apy {b:aB} {fl:List aF} (h:jE b fl) (hw:b.name.length<=600/\b.region.length<=600/\b.note.length<=600) (p:Pl) (hm:qF b p=0) (hne:¬ ((aK b p).1=0/\(aK b p).2=[])) :
 aN (aV p) (aK b p).1 (aK b p).2 p=0/\(0<=(aK b p).1/\(aK b p).1 < 18446744073709551616)/\(aK b p).2.length<=100000000/\∀c,setB c (aK b p).1 (aK b p).2 p=wJ b c p:=by
 cases p with
 | rem=>
   have hx:=h.body.remaining;have hz:=ate b.remaining hx;have hl:=atb b.remaining hx;simp only [aK] at hne ⊢;have hn0:¬ zz b.remaining=0:=λe=>hne ⟨e,trivial⟩;refine ⟨by unfold aN;simp [aV,hn0,iF],hl,by simp,λc=>?_⟩;simp only [setB,hz,wJ]
 | allow=>
   simp only [aK] at hne ⊢;cases ha:b.allowed with
   | false=>rw [ha] at hne;exact absurd ⟨rfl,trivial⟩ hne
   | true=>
     refine ⟨by unfold aN;simp [aV,iF],by simp,by simp,λc=>?_⟩;simp only [setB,wJ,ha]
 | name=>
   simp only [aK] at hne ⊢;have hn0:¬ b.name=[]:=λe=>hne ⟨trivial,e⟩;simp only [qF] at hm;refine ⟨by unfold aN;simp [aV,hn0,iF,hm],by simp,by omega,λc=>rfl⟩
 | region=>
   simp only [aK] at hne ⊢;have hn0:¬ b.region=[]:=λe=>hne ⟨trivial,e⟩;simp only [qF] at hm;refine ⟨by unfold aN;simp [aV,hn0,iF,hm],by simp,by omega,λc=>rfl⟩
 | note=>
   simp only [aK] at hne ⊢;have hn0:¬ b.note=[]:=λe=>hne ⟨trivial,e⟩;simp only [qF] at hm;refine ⟨by unfold aN;simp [aV,hn0,iF,hm],by simp,by omega,λc=>rfl⟩
 | d=>
   simp only [aK] at hne ⊢;have hd0:b.d≠[]:=λe=>hne ⟨trivial,by rw [aj e]⟩;simp only [qF,ah hd0] at hm;have hp:=aaA b.d hm;have hk:=Lh h.d;have hk0:iJ b.d≠[]:=λe=>hne ⟨trivial,by rw [ah hd0];exact e⟩;rw [ah hd0];refine ⟨?_,by simp,by omega,λc=>?_⟩
   ·unfold aN
    simp [aV,hk0,iF,hp]
   ·simp only [setB,wJ,hp]
 | t=>
   simp only [aK] at hne ⊢;have ht0:b.t≠[]:=λe=>hne ⟨trivial,by rw [aj e]⟩;simp only [qF] at hm;have hk:zD b.t=(nR b.t,0):=by unfold zD;rw [ah (by simpa using hm)]
   rw [ah ht0,hk] at hne ⊢;have hp:=arV b.t ⟨(TP _).1 hm,h.t.few,h.t.rows⟩;have hl:=adH b.t h.t;have hk0:nR b.t≠[]:=λe=>hne ⟨trivial,e⟩;refine ⟨?_,by simp,by simp only;omega,λc=>?_⟩
   ·have hl0:¬ b.t.length=0:=λe=>ht0 (jr e)
    unfold aN;simp [aV,hk0,iF,hp,hl0,ht0]
   ·simp only [setB,wJ,hp]
 | num k=>
   simp only [aK] at hne ⊢;have hn0:¬ fE b k=0:=λe=>hne ⟨e,trivial⟩;refine ⟨by unfold aN;simp [aV,hn0,iF], ?_,by simp,λc=>?_⟩
   ·have q:=h.body
    unfold fE;split<;>first | exact q.id | exact q.min | exact q.max | exact q.chosen | exact q.flags | exact q.cost | exact q.priority | exact q.deadline | exact q.retry | exact q.epoch | exact q.base | exact q.digest | exact q.lag | exact q.code | exact q.want
   ·rcases k with _ | _ | _ | _ | _ | _ | _ | _ | _ | _ | _ | _ | _ | _ | k<;>rfl
theorem Qm (b:aB):∀ (l:List bM),mZ b l=0->∀s∈l,sH b s.name=0
 | [],_,s,hs=>by cases hs
 | x::l,h,s,hs=>by
   unfold mZ at h;split at h
   ·rename_i h0
    rcases cO.1 hs with rfl | hs
    ·exact h0
    ·exact Qm b l h s hs
   ·rename_i h0
    exact absurd h h0
theorem amu (b:aB) (p:Pl) (h:dw b p=true):(aK b p).1=0/\(aK b p).2=[]:=by
 cases p with
 | rem=>simp only [dw,decide_eq_true_iff] at h;simp [aK,h,zz]
 | allow=>simp only [dw,wQ] at h;simp [aK,h]
 | num k=>simp only [dw,decide_eq_true_iff] at h;simp [aK,h]
 | _=>simp only [dw,decide_eq_true_iff] at h;simp [aK,h]
theorem agx {b:aB} {fl:List aF} {v:Int} (h:fB b fl v=0) {n:List UInt8} {p:Pl} (hp:placeOf n=some p) (hne:¬ ((aK b p).1=0/\(aK b p).2=[])):qF b p=0:=by
 unfold fB at h;split at h; · cases h
 split at h; · cases h
 split at h; · cases h
 split at h; · cases h
 rename_i hall
 split at h
 ·rename_i hm;exact absurd h hm
 rename_i hm
 have hm:mZ b (aG b.kind v)=0:=by simpa using hm
 have hall:dR.all (λn=>jG (aG b.kind v) n || mg b n)=true:=by rw [Nj] at hall;exact hall
 have h1:=List.all_eq_true.1 hall n (vC n p hp).2.2;have h2:mg b n=dw b p:=by unfold mg;rw [hp]
 rw [h2] at h1;cases hn:dw b p with
 | true=>exact absurd (amu b p hn) hne
 | false=>
   rw [hn,zW] at h1;unfold jG at h1;rw [List.any_eq_true] at h1;obtain ⟨s,hs,e⟩:=h1;have e:s.name=n:=by simpa using e
   have h3:=Qm b _ hm s hs;unfold sH at h3;rw [e,hp] at h3;exact h3
mutual
def KH:aF->List UInt8
 | .mk t y n s k=>aT (4 * t+y).toNat++(if y=0 then aT n.toNat else if y=1 then aT s.length++s else aT (bQ k).length++bQ k)
def bQ:List aF->List UInt8
 | []=>[]
 | f::l=>KH f++bQ l
end
mutual
def wF:aF->Nat
 | .mk _ _ _ s k=>s.length+40+wL k
def wL:List aF->Nat
 | []=>0
 | f::l=>wF f+wL l
end
mutual
/-- Tags and types that may be. -/
def Ee:aF->Prop
 | .mk t y n s k=>(1<=t/\t<=4294967296)/\((y=0/\s=[]/\k=[])\/(y=1/\n=0/\k=[])\/(y=2/\n=0/\s=[]))/\qJ k
def qJ:List aF->Prop
 | []=>True
 | f::l=>Ee f/\qJ l
end
theorem MK:∀ {l:List aF},qJ l->∀f∈l,Ee f
 | f::l,h,g,hg=>by
   simp only [qJ] at h;rcases cO.1 hg with rfl | hg
   ·exact h.1
   ·exact MK h.2 g hg
theorem Ou:∀ (N:Nat) (l:List aF),bI l < N->bY l->∀w a,iT w a l=0->0<=a->qJ l
 | 0,l,h,_,_,_,_,_=>by omega
 | N+1,[],_,_,_,_,_,_=>by simp only [qJ]
 | N+1,.mk t y n s k::l,hN,hok,w,a,h,ha=>by
   simp only [bI,qj] at hN;simp only [bY,oN] at hok;unfold iT at h;by_cases h1:(aF.mk t y n s k).tag=0
   ·rw [aj h1] at h;exact absurd h (by decide)
   rw [ah h1] at h;by_cases h2:4294967296 < (aF.mk t y n s k).tag
   ·rw [aj h2] at h;exact absurd h (by decide)
   rw [ah h2] at h;by_cases h3:(aF.mk t y n s k).tag<=a
   ·rw [aj h3] at h;exact absurd h (by decide)
   rw [ah h3] at h;by_cases h4:xw w (.mk t y n s k)=0;rotate_left
   ·rw [aj h4] at h;exact absurd h h4
   rw [ah (λe=>e h4)] at h;have h1:¬ t=0:=h1;have h2:¬ 4294967296 < t:=h2;have h3:¬ t<=a:=h3;simp only [qJ,Ee];refine ⟨⟨by omega, ?_, ?_⟩,Ou N l (by omega) hok.2 w t h (by omega)⟩
   ·simp only [xw] at h4
    split at h4
    ·rename_i hy
     split at h4
     ·rename_i hc;exact .inl ⟨hy,hc⟩
     ·cases h4
    ·split at h4
     ·rename_i hy
      split at h4
      ·rename_i hc;exact .inr (.inl ⟨hy,hc⟩)
      ·cases h4
     ·split at h4
      ·rename_i hy
       split at h4
       ·rename_i hc;exact .inr (.inr ⟨hy,hc⟩)
       ·cases h4
      ·cases h4
   ·simp only [xw] at h4
    split at h4
    ·split at h4
     ·rename_i hc;rw [hc.2];simp only [qJ]
     ·cases h4
    ·split at h4
     ·split at h4
      ·rename_i hc;rw [hc.2];simp only [qJ]
      ·cases h4
     ·split at h4
      ·split at h4
       ·split at h4
        ·cases h4
        ·exact Ou N k (by omega) hok.1.2 _ _ h4 (by omega)
       ·cases h4
      ·cases h4
theorem Ih:∀ (N:Nat) (l:List aF),bI l < N->bY l->qJ l->wL l<=1000000000000->(bQ l).length<=wL l
 | 0,l,h,_,_,_=>by omega
 | N+1,[],_,_,_,_=>by simp [bQ]
 | N+1,.mk t y n s k::l,hN,hok,hty,hw=>by
   simp only [bI,qj] at hN;simp only [bY,oN] at hok;simp only [qJ,Ee] at hty;simp only [wL,wF] at hw ⊢;have h1:=Ih N l (by omega) hok.2 hty.2 (by omega);have h2:=Ih N k (by omega) hok.1.2 hty.1.2.2 (by omega);simp only [bQ,KH,dQ];have v1:=ng (n:=(4 * t+y).toNat) (by rcases hty.1.2.1 with h | h | h<;>omega);have v2:=ng (n:=n.toNat) (by omega);have v3:=ng (n:=s.length) (by omega);have v4:=ng (n:=(bQ k).length) (by omega);split
   ·omega
   ·split
    ·rw [dQ];omega
    ·rw [dQ];omega
theorem abX (t y:Int) (ht:1<=t/\t<=4294967296) (hy:0<=y/\y < 4):oz .shl .u64 t 2=some (.i .u64 (4 * t))/\IntKind.u64.wrap y=y/\fJ .or .u64 (4 * t) y=some (.i .u64 (4 * t+y)):=by
 have wu:∀y:Int,IntKind.u64.wrap y=y % 18446744073709551616:=λy=>by simp [IntKind.wrap,IntKind.signed,IntKind.bits]
 have hu:IntKind.u64.bits=64:=rfl;refine ⟨?_,by rw [wu];omega, ?_⟩
 ·have h2:oz .shl .u64 t 2=some (.i .u64 (IntKind.u64.wrap (t * 2 ^ 2))):=rfl
  rw [h2,wu];congr 2;omega
 ·simp only [fJ,wu,hu]
  obtain ⟨T,rfl⟩:∃T:Nat,t=(T:Int):=⟨t.toNat,by omega⟩
  obtain ⟨Y,rfl⟩:∃Y:Nat,y=(Y:Int):=⟨y.toNat,by omega⟩
  have e1:(BitVec.ofInt 64 (4 * (T:Int))).toNat=4 * T:=by rw [xM];omega
  have e2:(BitVec.ofInt 64 (Y:Int)).toNat=Y:=by rw [xM];omega
  have e3:4 * T ||| Y=4 * T+Y:=(afJ (i:=2) (b:=Y) (by omega) T).symm;show some (GV.i IntKind.u64 (((BitVec.ofInt 64 (4 * (T:Int)) ||| BitVec.ofInt 64 (Y:Int)).toNat:Int) % 18446744073709551616))=_
  rw [BitVec.toNat_or,e1,e2,e3];congr 2;omega
theorem Uy {t y n:Int} {s:List UInt8} {k:List aF} (h:Ee (.mk t y n s k)):1<=t/\t<=4294967296/\0<=y/\y < 3/\(y=0\/y=1\/y=2)/\qJ k:=by
 simp only [Ee] at h;rcases h.2.1 with h1 | h1 | h1<;>exact ⟨h.1.1,h.1.2,by omega,by omega,by omega,h.2.2⟩
theorem XR:∀ (N:Nat) (l:List aF),bI l < N->bY l->qJ l->l.length<=1000000->wL l<=1000000000000->TT.lim 88 [.l (aC l)]=some [.i .i64 (bQ l).length]
 | 0,l,h,_,_,_,_=>by omega
 | N+1,l,hN,hok,hty,hlen,hw=>by
   have hl1:=lq l;have loop:∀m i,i+m=l.length->∀acc:Nat,acc+wL (l.drop i)<=1000000000000->TT.lim 89 [.l (aC l),.i .i64 acc,.i .i64 l.length,.i .i64 i]=some [.i .i64 0,.i .i64 ((acc+(bQ (l.drop i)).length:Nat):Int)]:=by
    intro m;induction m with
    | zero=>
      intro i hi acc hacc;have e1:l.drop i=[]:=gG (by omega);have h:¬ ((i:Int) < l.length):=by omega
      rw [e1];simp only [bQ,uF,mJ];refine ay rfl rfl ?_;simp [h]
    | succ m ih=>
      intro i hi acc hacc;obtain ⟨t,y,n,s,k,g1,g2,g3,g4⟩:=Di (l:=l) (i:=i) (by omega);have hf:=Dj hok _ g4;have ht:=MK hty _ g4;simp only [oN] at hf;obtain ⟨t1,t2,y1,y2,y3,tk⟩:=Uy ht;have hs:=Rw g4;simp only [qj] at hs;rw [g3] at hacc ⊢;simp only [wL,wF] at hacc;have hk:=XR N k (by omega) hf.2 tk hf.1.2.2.2.2.2.2.2 (by omega);have hkl:=Ih (bI k+1) k (by omega) hf.2 tk (by omega);obtain ⟨b1,b2,b3⟩:=abX t y ⟨t1,t2⟩ ⟨y1,by omega⟩;have v1:=Mc (4 * t+y).toNat (by omega);have v2:=Mc n.toNat (by omega);have v3:=Mc s.length (by omega);have v4:=Mc (bQ k).length (by omega);have z1:=Ej (n:=(4 * t+y).toNat) (by omega);have z2:=Ej (n:=n.toNat) (by omega);have z3:=Ej (n:=s.length) (by omega);have z4:=Ej (n:=(bQ k).length) (by omega);rw [show (((4 * t+y).toNat:Nat):Int)=4 * t+y by omega] at v1;rw [show ((n.toNat:Nat):Int)=n by omega] at v2;have hcast:((i+1:Nat):Int)=(i:Int)+1:=by omega
      have hwr:=wrap64 (n:=(i:Int)+1) (by omega) (by omega);have h:((i:Int) < l.length):=by omega
      have ih':=λa ha=>ih (i+1) (by omega) a ha;simp only [hcast] at ih';have e1:(aT (4 * t+y).toNat).length=gU (4 * t+y).toNat:=rfl;have e2:(aT n.toNat).length=gU n.toNat:=rfl;have e3:(aT s.length).length=gU s.length:=rfl;have e4:(aT (bQ k).length).length=gU (bQ k).length:=rfl;have u3:=kK (n:=(s.length:Int)) (by omega) (by omega);have u4:=kK (n:=((bQ k).length:Int)) (by omega) (by omega);simp only [bQ,KH,dQ];rw [e1];generalize gU (4 * t+y).toNat=A at *;have w1:=wrap64 (n:=(acc:Int)+A) (by omega) (by omega);rcases y3 with hy | hy | hy
      ·rw [aj hy,e2]
       generalize gU n.toNat=B at *;have w2:=wrap64 (n:=(acc:Int)+A+B) (by omega) (by omega);have qW:=ih' (acc+A+B) (by omega);rw [show ((acc+A+B:Nat):Int)=(acc:Int)+A+B by omega,show acc+A+B+(bQ (l.drop (i+1))).length=acc+(A+B+(bQ (l.drop (i+1))).length) by omega] at qW;have q0:(y=0)=True:=eq_true hy;clear hy;refine ay rfl rfl ?_;simp [h,g2,q0,b1,b2,b3,v1,v2,w1,w2,hwr,qW]
      ·rw [ah (by omega),aj hy,dQ,e3]
       generalize gU s.length=B at *;have w2:=wrap64 (n:=(B:Int)+s.length) (by omega) (by omega);have w3:=wrap64 (n:=(acc:Int)+A+(B+s.length)) (by omega) (by omega);have qW:=ih' (acc+A+(B+s.length)) (by omega);rw [show ((acc+A+(B+s.length):Nat):Int)=(acc:Int)+A+(B+s.length) by omega,show acc+A+(B+s.length)+(bQ (l.drop (i+1))).length=acc+(A+(B+s.length)+(bQ (l.drop (i+1))).length) by omega] at qW;have q0:(y=0)=False:=eq_false (by omega);have q1:(y=1)=True:=eq_true hy;clear hy;refine ay rfl rfl ?_;simp [h,g2,q0,q1,b1,b2,b3,v1,v3,u3,w1,w2,w3,hwr,qW]
      ·rw [ah (by omega),ah (by omega),dQ,e4]
       generalize gU (bQ k).length=B at *;generalize (bQ k).length=C at *;have w2:=wrap64 (n:=(B:Int)+C) (by omega) (by omega);have w3:=wrap64 (n:=(acc:Int)+A+(B+C)) (by omega) (by omega);have qW:=ih' (acc+A+(B+C)) (by omega);rw [show ((acc+A+(B+C):Nat):Int)=(acc:Int)+A+(B+C) by omega,show acc+A+(B+C)+(bQ (l.drop (i+1))).length=acc+(A+(B+C)+(bQ (l.drop (i+1))).length) by omega] at qW;have q0:(y=0)=False:=eq_false (by omega);have q1:(y=1)=False:=eq_false (by omega);have q2:(y=2)=True:=eq_true hy;clear hy;refine ay rfl rfl ?_;simp [h,g2,q0,q1,q2,b1,b2,b3,v1,hk,v4,u4,w1,w2,w3,hwr,qW]
   have h0:=loop l.length 0 (by omega) 0 (by rw [dY];omega);rw [dY,jw] at h0;have h0':TT.lim 89 [.l (aC l),.i .i64 0,.i .i64 (aC l).length,.i .i64 0]=some [.i .i64 0,.i .i64 ((bQ l).length:Int)]:=by rw [hl1];exact h0
   rw [hl1] at h0';clear loop h0;refine aW rfl rfl ?_ rfl;simp [hl1,h0']
/-- The bytes for fields, put behind others. -/
theorem EK (a b:List UInt8):eG (a++b)=eG a++eG b:=by simp [eG]
theorem aft:∀ (N:Nat) (l:List aF),bI l < N->bY l->qJ l->l.length<=1000000->∀B:List UInt8,B.length+wL l<=1000000000000->TT.lim 90 [.l (eG B),.l (aC l)]=some [.i .i64 0,.l (eG (B++bQ l))]
 | 0,l,h,_,_,_,_,_=>by omega
 | N+1,l,hN,hok,hty,hlen,B,hB=>by
   have hl1:=lq l;have loop:∀m i,i+m=l.length->∀acc:List UInt8,acc.length+wL (l.drop i)<=1000000000000->TT.lim 91 [.l (eG acc),.l (aC l),.i .i64 l.length,.i .i64 i]=some [.i .i64 0,.l (eG (acc++bQ (l.drop i)))]:=by
    intro m;induction m with
    | zero=>
      intro i hi acc hacc;have e1:l.drop i=[]:=gG (by omega);have h:¬ ((i:Int) < l.length):=by omega
      rw [e1];simp only [bQ,mG];refine ay rfl rfl ?_;simp [h]
    | succ m ih=>
      intro i hi acc hacc;obtain ⟨t,y,n,s,k,g1,g2,g3,g4⟩:=Di (l:=l) (i:=i) (by omega);have hf:=Dj hok _ g4;have ht:=MK hty _ g4;simp only [oN] at hf;obtain ⟨t1,t2,y1,y2,y3,tk⟩:=Uy ht;have hs:=Rw g4;simp only [qj] at hs;rw [g3] at hacc ⊢;simp only [wL,wF] at hacc;have hk:=XR N k (by omega) hf.2 tk hf.1.2.2.2.2.2.2.2 (by omega);have hkl:=Ih (bI k+1) k (by omega) hf.2 tk (by omega);obtain ⟨b1,b2,b3⟩:=abX t y ⟨t1,t2⟩ ⟨y1,by omega⟩;have v1:=xF (4 * t+y).toNat (by omega);have v2:=xF n.toNat (by omega);have v3:=xF s.length (by omega);have v4:=xF (bQ k).length (by omega);have z1:=ng (n:=(4 * t+y).toNat) (by omega);have z2:=ng (n:=n.toNat) (by omega);have z3:=ng (n:=s.length) (by omega);have z4:=ng (n:=(bQ k).length) (by omega);rw [show (((4 * t+y).toNat:Nat):Int)=4 * t+y by omega] at v1;rw [show ((n.toNat:Nat):Int)=n by omega] at v2;have hcast:((i+1:Nat):Int)=(i:Int)+1:=by omega
      have hwr:=wrap64 (n:=(i:Int)+1) (by omega) (by omega);have h:((i:Int) < l.length):=by omega
      have ih':=λa ha=>ih (i+1) (by omega) a ha;simp only [hcast] at ih';have u3:=kK (n:=(s.length:Int)) (by omega) (by omega);have u4:=kK (n:=((bQ k).length:Int)) (by omega) (by omega);have o8:∀z:List UInt8,(eG z).all (λg=>g.fU 1)=true:=λz=>by simp [eG,GV.fU]
      have l8:∀z:List UInt8,(eG z).length=z.length:=λz=>by simp [eG]
      simp only [bQ,KH];rcases y3 with hy | hy | hy
      ·rw [aj hy]
       have qW:=ih' (acc++aT (4 * t+y).toNat++aT n.toNat) (by simp only [dQ];omega);rw [show acc++aT (4 * t+y).toNat++aT n.toNat++bQ (l.drop (i+1))=acc++(aT (4 * t+y).toNat++aT n.toNat++bQ (l.drop (i+1))) by simp,EK,EK] at qW;generalize aT (4 * t+y).toNat=A at *;generalize aT n.toNat=C at *;have c1:2 * (acc.length+A.length)<=281474976710656/\acc.length+A.length<=281474976710656:=by omega
       have c2:2 * (acc.length+A.length+C.length)<=281474976710656/\acc.length+A.length+C.length<=281474976710656:=by omega
       have q0:(y=0)=True:=eq_true hy;clear hy;refine ay rfl rfl ?_;simp [-List.append_assoc,h,g2,q0,b1,b2,b3,v1,v2,hwr,qW,o8,l8,c1,c2]
      ·rw [ah (by omega),aj hy]
       have qW:=ih' (acc++aT (4 * t+y).toNat++aT s.length++s) (by simp only [dQ];omega);rw [show acc++aT (4 * t+y).toNat++aT s.length++s++bQ (l.drop (i+1))=acc++(aT (4 * t+y).toNat++(aT s.length++s)++bQ (l.drop (i+1))) by simp,EK,EK,EK] at qW;generalize aT (4 * t+y).toNat=A at *;generalize aT s.length=C at *;have c1:2 * (acc.length+A.length)<=281474976710656/\acc.length+A.length<=281474976710656:=by omega
       have c2:2 * (acc.length+A.length+C.length)<=281474976710656/\acc.length+A.length+C.length<=281474976710656:=by omega
       have c3:2 * (acc.length+A.length+C.length+s.length)<=281474976710656/\acc.length+A.length+C.length+s.length<=281474976710656:=by omega
       have q0:(y=0)=False:=eq_false (by omega);have q1:(y=1)=True:=eq_true hy;clear hy;refine ay rfl rfl ?_;simp [-List.append_assoc,h,g2,q0,q1,b1,b2,b3,v1,v3,u3,hwr,qW,o8,l8,c1,c2,c3]
      ·rw [ah (by omega),ah (by omega)]
       have hwk:=aft N k (by omega) hf.2 tk hf.1.2.2.2.2.2.2.2 (acc++aT (4 * t+y).toNat++aT (bQ k).length) (by simp only [dQ];omega);have qW:=ih' (acc++aT (4 * t+y).toNat++aT (bQ k).length++bQ k) (by simp only [dQ];omega);rw [show acc++aT (4 * t+y).toNat++aT (bQ k).length++bQ k++bQ (l.drop (i+1))=acc++(aT (4 * t+y).toNat++(aT (bQ k).length++bQ k)++bQ (l.drop (i+1))) by simp] at qW;rw [EK (acc++_),EK acc] at hwk;generalize aT (4 * t+y).toNat=A at *;generalize aT (bQ k).length=C at *;have c1:2 * (acc.length+A.length)<=281474976710656/\acc.length+A.length<=281474976710656:=by omega
       have c2:2 * (acc.length+A.length+C.length)<=281474976710656/\acc.length+A.length+C.length<=281474976710656:=by omega
       generalize bQ k=K at *;have q0:(y=0)=False:=eq_false (by omega);have q1:(y=1)=False:=eq_false (by omega);have q2:(y=2)=True:=eq_true hy;clear hy;refine ay rfl rfl ?_;simp [-List.append_assoc,h,g2,q0,q1,q2,b1,b2,b3,v1,hk,v4,u4,hwk,hwr,qW,o8,l8,c1,c2]
   have h0:=loop l.length 0 (by omega) B (by rw [dY];omega);rw [dY] at h0;have h0':TT.lim 91 [.l (eG B),.l (aC l),.i .i64 l.length,.i .i64 0]=some [.i .i64 0,.l (eG (B++bQ l))]:=h0;clear loop h0;generalize eG B=B' at *;refine ay rfl rfl ?_;simp [hl1,h0']
theorem amW {α β:Type} {f:α->β} {ys zs:List β} (h:ys.Perm zs):∀l:List α,zs=l.map f->∃p:List α,p.Perm l/\ys=p.map f:=by
 induction h with
 | nil=>intro l e;exact ⟨l,.refl _,e⟩
 | cons x _ ih=>
   intro l e;cases l with
   | nil=>cases e
   | cons a l=>
     injection e with e1 e2
     obtain ⟨p,h1,h2⟩:=ih l e2;exact ⟨a::p,h1.cons a,by rw [iY,<- h2,<- e1]⟩
 | swap x y l=>
   intro m e;rcases m with _ | ⟨a,_ | ⟨b,m⟩⟩
   ·cases e
   ·cases e
   ·simp only [iY,Gz] at e
    obtain ⟨e1,e2,e3⟩:=e;exact ⟨b::a::m,List.Perm.swap a b m,by rw [iY,iY,<- e1,<- e2,<- e3]⟩
 | trans _ _ ih1 ih2=>
   intro l e;obtain ⟨p,h1,h2⟩:=ih2 l e;obtain ⟨q,h3,h4⟩:=ih1 p h2;exact ⟨q,h3.trans h1,h4⟩
theorem Ji:∀ (p q:List aF),p.Perm q->p.Pairwise (λa b=>a.tag<=b.tag)->q.Pairwise (λa b=>a.tag < b.tag)->p=q
 | [],q,h,_,_=>(List.nil_perm.1 h).symm
 | a::p,[],h,_,_=>by have:=h.length_eq;simp at this
 | a::p,b::q,h,hp,hq=>by
   have hb:b∈a::p:=h.mem_iff.2 (by simp);have ha:a∈b::q:=h.mem_iff.1 (by simp);rw [wV] at hp hq;have h1:a.tag<=b.tag:=by
    rcases cO.1 hb with e | hb
    ·rw [e];exact En _
    ·exact hp.1 b hb
   have e:a=b:=by
    rcases cO.1 ha with e | ha
    ·exact e
    ·have:=hq.1 a ha;omega
   subst e;rw [Ji p q (List.Perm.cons_inv h) hp.2 hq.2]
def Ja (f:aF):List aF->Nat
 | []=>0
 | g::l=>if g.tag < f.tag then Ja f l+1 else 0
def Dl (f:aF) (out:List aF):List aF:=out.take (Ja f out)++f::out.drop (Ja f out)
def Iz (out l:List aF):List aF:=l.foldl (λo f=>Dl f o) out
theorem acg (f:aF) (out:List aF):(Dl f out).Perm (f::out):=by
 unfold Dl;refine List.perm_middle.trans ?_;rw [Ep]
theorem ach (f:aF):∀out:List aF,out.Pairwise (λa b=>a.tag < b.tag)->(∀g∈out,g.tag≠f.tag)->(Dl f out).Pairwise (λa b=>a.tag < b.tag)/\(∀g,out[Ja f out]? = some g->g.tag≠f.tag)
 | [],_,_=>by simp [Dl,Ja]
 | g::l,hp,hn=>by
   rw [wV] at hp;unfold Dl Ja;by_cases h:g.tag < f.tag
   ·obtain ⟨i1,i2⟩:=ach f l hp.2 λx hx=>hn x (by simp [hx])
    rw [aj h];simp only [xQ,JB,cu,qN];refine ⟨List.pairwise_cons.2 ⟨λx hx=>?_,i1⟩,i2⟩;have:=(acg f l).mem_iff.1 hx;rcases cO.1 this with rfl | hx
    ·exact h
    ·exact hp.1 x hx
   ·rw [ah h]
    have hg:=hn g (by simp);simp only [SI,dY,bK,iR];refine ⟨List.pairwise_cons.2 ⟨λx hx=>?_,wV.2 hp⟩,λx hx=>?_⟩
    ·rcases cO.1 hx with rfl | hx
     ·omega
     ·have:=hp.1 x hx;omega
    ·injection hx with hx
     rw [<- hx];exact hg
theorem Vk:∀ (l out:List aF),out.Pairwise (λa b=>a.tag < b.tag)->((out++l).map aF.tag).Nodup->(Iz out l).Perm (out++l)/\(Iz out l).Pairwise (λa b=>a.tag < b.tag)
 | [],out,hp,_=>by simp only [Iz,List.foldl_nil,mG];exact ⟨.refl _,hp⟩
 | f::l,out,hp,hn=>by
   have hf:∀g∈out,g.tag≠f.tag:=λg hg e=>by
    rw [wS,List.nodup_append] at hn;exact hn.2.2 g.tag (List.mem_map_of_mem hg) f.tag (by simp) e
   have hs:=(ach f out hp hf).1;have hq:(Dl f out++l).Perm (out++f::l):=((acg f out).append_right l).trans (List.perm_middle.symm);have ih:=Vk l (Dl f out) hs ((hq.map aF.tag).nodup_iff.2 hn);exact ⟨ih.1.trans hq,ih.2⟩
theorem abx (l:List aF):(aC l).all (λg=>g.fU 5)=true:=by
 rw [zl,List.all_eq_true];intro g hg;obtain ⟨f,_,rfl⟩:=nD.1 hg;cases f;simp only [nJ];rfl
theorem O5 (a b:List aF):aC (a++b)=aC a++aC b:=by simp only [zl,wS]
/-- Both lists brought together, where all tags differ. -/
def qG (a b:List aF):List aF:=Iz [] (a++b)
theorem Ba {a b:List aF} (hn:((a++b).map aF.tag).Nodup):(qG a b).Perm (a++b)/\(qG a b).Pairwise (λx y=>x.tag < y.tag):=Vk (a++b) [] List.Pairwise.nil hn
theorem agc (s:List UInt8):oK (eG s)=some s:=by
 induction s with
 | nil=>rfl
 | cons a s ih=>
   have h1:(0:Int)<=a.toNat/\((a.toNat:Nat):Int) < 256:=by have:=a.toNat_lt;omega
   show (if _ then _ else _)=_
   rw [aj h1];have e:(s.map λb=>GV.i .u8 b.toNat)=eG s:=rfl;rw [e,ih];simp
theorem asT (l:List aF) (hok:bY l) (hlen:l.length<=1000000) (hw:wL l<=1000000000000) (hc:iT 0 0 l=0):TT.lim 87 [.l (aC l)]=some (if 65536 < (bQ l).length then [.s [],.i .i64 4] else [.s (bQ l),.i .i64 0]):=by
 have ty:=Ou (bI l+1) l (by omega) hok 0 0 hc (by omega);have k1:=OZ l hok hlen;rw [hc] at k1;have k2:=XR (bI l+1) l (by omega) hok ty hlen hw;have k3:=aft (bI l+1) l (by omega) hok ty hlen [] (by simpa using hw);have e0:eG []=[]:=rfl;rw [e0,bK] at k3;have hfl:=Ih (bI l+1) l (by omega) hok ty hw;by_cases c:65536 < (bQ l).length
 ·have c':(65536:Int) < (bQ l).length:=by omega
  rw [aj c];refine aW rfl rfl ?_ rfl;simp [k1,k2,c,c']
 ·have c':¬ (65536:Int) < (bQ l).length:=by omega
  have hb:=agc (bQ l);have hl8:(eG (bQ l)).length=(bQ l).length:=by simp [eG]
  have c2:(eG (bQ l)).length<=281474976710656:=by omega
  have c3:(0:Int)<=(bQ l).length/\((bQ l).length:Int)<=281474976710656/\((bQ l).length:Int)<=1152921504606846976:=by omega
  rw [ah c];clear hok hw hc ty hfl;generalize bQ l=F at *;generalize aC l=G at *;generalize eG F=BF at *;refine aW rfl rfl ?_ rfl;simp [k1,k2,k3,c,c',hb,c2,c3,GV.fU]
theorem aeQ (f:aF):Gi (nJ f)=f.tag:=by
 cases f;simp only [nJ,aF.tag];rfl
theorem aiR (l:List aF):(aC l).all isTagged=true:=by
 rw [zl,List.all_eq_true];intro g hg;obtain ⟨f,_,rfl⟩:=nD.1 hg;cases f;simp only [nJ];rfl
theorem aeP {a b:List aF} (h:a.Perm b):bI a=bI b:=by
 induction h with
 | nil=>rfl
 | cons x _ ih=>simp only [bI,ih]
 | swap x y l=>simp only [bI];omega
 | trans _ _ h1 h2=>rw [h1,h2]
theorem afo {a b:List aF} (h:a.Perm b):wL a=wL b:=by
 induction h with
 | nil=>rfl
 | cons x _ ih=>simp only [wL,ih]
 | swap x y l=>simp only [wL];omega
 | trans _ _ h1 h2=>rw [h1,h2]
theorem X8:∀a b:List aF,bI (a++b)=bI a+bI b
 | [],b=>by simp [bI]
 | f::a,b=>by simp only [cu,bI,X8 a b];omega
theorem Yo:∀a b:List aF,wL (a++b)=wL a+wL b
 | [],b=>by simp [wL]
 | f::a,b=>by simp only [cu,wL,Yo a b];omega
theorem O6:∀ {l:List aF},(∀f∈l,oN f)->bY l
 | [],_=>by simp only [bY]
 | f::l,h=>by
   simp only [bY];exact ⟨h f (by simp),O6 λg hg=>h g (by simp [hg])⟩
theorem aiU {a b:List aF} (h:a.Perm b) (hb:bY b):bY a:=O6 λf hf=>Dj hb f (h.mem_iff.1 hf)
theorem aiT {a b:List aF} (ha:bY a) (hb:bY b):bY (a++b):=O6 λf hf=>(nX.1 hf).elim (Dj ha f) (Dj hb f)
/-- Slices.SortFunc puts them as the document does. -/
theorem aqs (l:List aF) (hn:(l.map aF.tag).Nodup):uj (aC l)=aC (Iz [] l):=by
 have hp:=XT (aC l);have hs:=aqr (aC l);rw [zl] at hp;obtain ⟨p,hp1,hp2⟩:=amW hp l rfl;rw [<- zl] at hp2;have hq:=Vk l [] List.Pairwise.nil hn;rw [bK] at hq;have hsp:p.Pairwise (λa b=>a.tag<=b.tag):=by
  rw [afG];intro i j hi hj hij;have:=hs i j (nJ p[i]) (nJ p[j]) hij (by rw [hp2,iL,bT hi];rfl) (by rw [hp2,iL,bT hj];rfl);rwa [aeQ,aeQ] at this
 have e:=Ji p (Iz [] l) (hp1.trans hq.1.symm) hsp hq.2;rw [hp2,e,zl]
theorem adS (l:List aF) (hl:l.length<=10000000) (hp:l.Pairwise (λa b=>a.tag < b.tag)):∀m i:Nat,i+1+m=l.length->TT.lim 85 [.l (aC l),.i .i64 ((i:Int)+1)]=some [.i .i64 1]
 | 0,i,hi=>by
   have h:¬ ((i:Int)+1 < l.length):=by omega
   have hg:=lq l;refine ay rfl rfl ?_;simp [hg,h]
 | m+1,i,hi=>by
   have h:((i:Int)+1 < l.length):=by omega
   have hg:=lq l;have ih:=adS l hl hp m (i+1) (by omega);obtain ⟨t,y,n,s,k,g1,g2,g3,g4⟩:=Di (l:=l) (i:=i) (by omega);obtain ⟨t',y',n',s',k',g1',g2',g3',g4'⟩:=Di (l:=l) (i:=i+1) (by omega);have hlt:t < t':=by
    have:=afG.1 hp i (i+1) (by omega) (by omega) (by omega);have e1:l[i]=.mk t y n s k:=by have:=bT (l:=l) (i:=i) (by omega);rw [g1] at this;injection this with this;exact this.symm
    have e2:l[i+1]=.mk t' y' n' s' k':=by have:=bT (l:=l) (i:=i+1) (by omega);rw [g1'] at this;injection this with this;exact this.symm
    rw [e1,e2] at this;exact this
   have hne:¬ t'=t:=by omega
   have hcast:((i+1:Nat):Int)=(i:Int)+1:=by omega
   rw [hcast] at ih;have hw:=wrap64 (n:=(i:Int)+1+1) (by omega) (by omega);have hw2:=wrap64 (n:=(i:Int)+1 - 1) (by omega) (by omega);have hw3:(i:Int)+1 - 1=i:=by omega
   rw [hw3] at hw2;have hn0:(0:Int)<=(i:Int)+1:=by omega
   have ht:((i:Int)+1).toNat=i+1:=by omega
   have hi0:i < l.length:=by omega
   have gi:∀h:i < (aC l).length,(aC l)[i]=pW t y n s k:=λh=>by have:=bT h;rw [g2] at this;injection this with this;exact this.symm
   have gi':∀h:i+1 < (aC l).length,(aC l)[i+1]=pW t' y' n' s' k':=λh=>by have:=bT h;rw [g2'] at this;injection this with this;exact this.symm
   refine ay rfl rfl ?_;simp [gi,gi',hg,h,g2,g2',hne,hw,hw2,hw3,hn0,ht,hi0,ih]
theorem anm (a b:List aF) (oa:bY a) (ob:bY b) (la:a.length<=1000000) (lb:b.length<=1000000) (sa:bI a+bI b<=1000000) (ha:iT 0 0 a=0) (hb:iT 0 0 b=0) (hn:((a++b).map aF.tag).Nodup):TT.lim 83 [.l [.l (aC a),.l (aC b)]]=some [.l (aC (qG a b)),.i .i64 0]:=by
 have k1:=OZ a oa la;have k2:=OZ b ob lb;rw [ha] at k1;rw [hb] at k2;have hab:=O5 a b;have l1:=lq a;have l2:=lq b;have o1:=abx a;have o2:=abx b;have hso:TT.lim 0 [.l (aC a++aC b)]=some [.l (aC (qG a b))]:=by
  refine LX (Ds:=Ds) (f:=Me) rfl ?_;have h1:(aC a++aC b).length<=281474976710656/\(aC a++aC b).all isTagged=true:=by
   rw [<- hab];exact ⟨by rw [lq,dQ];omega,aiR _⟩
  show (if (aC a++aC b).length<=281474976710656/\(aC a++aC b).all isTagged=true then some [GV.l (uj (aC a++aC b))] else none)=_
  rw [aj h1,<- hab,aqs _ hn];rfl
 obtain ⟨mp,ms⟩:=Ba hn;have hml:(qG a b).length=a.length+b.length:=by rw [mp.length_eq,dQ]
 have hsl:(aC (qG a b)).length=(aC a++aC b).length:=by rw [lq,hml,dQ,l1,l2]
 have hcl:=O0 (qG a b) (by rw [aeP mp,X8];exact sa);have h1:TT.lim 85 [.l (aC (qG a b)),.i .i64 1]=some [.i .i64 1]:=by
  rcases Y0 (qG a b).length with h0 | h0
  ·have:qG a b=[]:=jr h0
   rw [this];have fn:aC []=[]:=by simp only [aC]
   rw [fn];refine ay rfl rfl ?_;simp
  ·have:=adS (qG a b) (by omega) ms ((qG a b).length - 1) 0 (by omega)
   simpa using this
 have w0:IntKind.i64.wrap 1=1:=by decide
 have w1:IntKind.i64.wrap 2=2:=by decide
 have c1:2 * (aC a).length * 64<=281474976710656/\(aC a).length<=281474976710656:=by omega
 have c2:2 * ((aC a).length+(aC b).length) * 64<=281474976710656/\(aC a).length+(aC b).length<=281474976710656:=by omega
 clear hn mp ms hml ha hb oa ob sa hab l1 l2;generalize aC (qG a b)=M at *;generalize aC a=A at *;generalize aC b=B at *;have a3:TT.lim 84 [.l (A++B),.l [.l A,.l B],.i .i64 2,.i .i64 2]=some [.i .i64 1,.l (A++B)]:=by
  refine ay rfl rfl ?_;simp
 have a2:TT.lim 84 [.l A,.l [.l A,.l B],.i .i64 2,.i .i64 1]=some [.i .i64 1,.l (A++B)]:=by
  refine ay rfl rfl ?_;simp [-List.all_eq_true,k2,w1,o2,c2,a3]
 have a1:TT.lim 84 [.l [],.l [.l A,.l B],.i .i64 2,.i .i64 0]=some [.i .i64 1,.l (A++B)]:=by
  refine ay rfl rfl ?_;simp [-List.all_eq_true,k1,w0,o1,c1,a2]
 rw [dQ] at hsl;refine aW rfl rfl ?_ rfl;simp [a1,hso,hsl,h1,hcl]
def tX (b:aB) (s:bM):Option aF:=match placeOf s.name with
 | some p=>if (aK b p).1=0/\(aK b p).2=[] then none else some (.mk s.tag (aV p) (aK b p).1 (aK b p).2 [])
 | none=>none
def gQ (b:aB) (l:List bM):List aF:=l.filterMap (tX b)
theorem zq (b:aB) (s:bM) (l:List bM):gQ b (s::l)=(match tX b s with | some f=>[f] | none=>[])++gQ b l:=by
 unfold gQ;rw [List.filterMap_cons];cases tX b s<;>rfl
theorem adM {b:aB} {fl:List aF} (hM:jE b fl) (ls:List bM) (hl:ls.length<=1000) (hls:∀s∈ls,placeOf s.name≠none/\s.use=Yi s.name):∀ (m i:Nat) (acc:List aF),i+m=ls.length->acc.length+m<=2000->
 TT.lim 76 ([.l (aC acc),.l (ls.map dN),.i .i64 ls.length,.i .i64 i]++(bU b (aC fl)).cells)=some [.i .i64 0,.l (aC (acc++gQ b (ls.drop i)))]
 | 0,i,acc,hi,ha=>by
   have h:¬ ((i:Int) < ls.length):=by omega
   have e:ls.drop i=[]:=gG (by omega);rw [e];have:gQ b []=[]:=rfl;rw [this,mG,dV];simp only [cu,bK];refine ay rfl rfl ?_;simp [h]
 | m+1,i,acc,hi,ha=>by
   have hlt:i < ls.length:=by omega
   have h:((i:Int) < ls.length):=by omega
   obtain ⟨p,v1⟩:∃p,placeOf ls[i].name=some p:=by
    cases e:placeOf ls[i].name with
    | some p=>exact ⟨p,rfl⟩
    | none=>exact absurd e (hls _ (jf hlt)).1
   have v2:=VZ hM v1;have hdr:ls.drop i=ls[i]::ls.drop (i+1):=iQ hlt;have hat:(ls.map dN)[i]? = some (dN ls[i]):=by rw [iL,bT hlt];rfl
   have hcast:((i+1:Nat):Int)=(i:Int)+1:=by omega
   have hw:=wrap64 (n:=(i:Int)+1) (by omega) (by omega);rw [hdr,zq];have hk:tX b ls[i]=if (aK b p).1=0/\(aK b p).2=[] then none else some (.mk ls[i].tag (aV p) (aK b p).1 (aK b p).2 []):=by unfold tX;rw [v1]
   rw [hk];have ih:=adM hM ls hl hls m (i+1);generalize ls[i]=s at *;clear hk hdr v1;have la:=lq acc;have fn:aC []=[]:=by simp only [aC]
   have hel:(pW s.tag (aV p) (aK b p).1 (aK b p).2 []).fU 5=true:=rfl;have hfe:GV.g [.i .u64 s.tag,.i .i64 (aV p),.i .u64 (aK b p).1,.s (aK b p).2,.l []]=pW s.tag (aV p) (aK b p).1 (aK b p).2 []:=by unfold pW;rw [fn]
   have c1:2 * ((aC acc).length+1) * 64<=281474976710656/\(aC acc).length+1<=281474976710656:=by omega
   by_cases hz:(aK b p).1=0/\(aK b p).2=[]
   ·rw [aj hz]
    have ih:=ih acc (by omega) (by omega);rw [dV,hcast] at ih;rw [dV];simp only [cu,bK] at ih ⊢;clear hel hfe c1 la;obtain ⟨z1,z2⟩:=hz;rw [z1,z2] at v2;generalize aC acc=A at *;generalize aC fl=r at *;generalize ls.map dN=SP at *;generalize aV p=ty at *;refine ay rfl rfl ?_;simp [h,hat,jk,v2,hw,ih]
   ·rw [ah hz]
    have ih:=ih (acc++[.mk s.tag (aV p) (aK b p).1 (aK b p).2 []]) (by omega) (by rw [dQ,yM];omega);have hfa:aC (acc++[.mk s.tag (aV p) (aK b p).1 (aK b p).2 []])=aC acc++[pW s.tag (aV p) (aK b p).1 (aK b p).2 []]:=by rw [O5];simp only [aC,nJ];rfl
    rw [dV,hcast,hfa,List.append_assoc] at ih;rw [dV];simp only [cu,bK] at ih ⊢;generalize hR:aC (acc++.mk s.tag (aV p) (aK b p).1 (aK b p).2 []::gQ b (ls.drop (i+1)))=R at *;clear hR hfa la;generalize pW s.tag (aV p) (aK b p).1 (aK b p).2 []=E at *;generalize aC acc=A at *;generalize aC fl=r at *;generalize ls.map dN=SP at *;generalize aV p=ty at *;generalize aK b p=vv at *;obtain ⟨n,t⟩:=vv;simp only at *;by_cases hn:n=0
    ·have ht:¬ t=[]:=λe=>hz ⟨hn,e⟩
     subst hn;refine ay rfl rfl ?_;simp [h,hat,jk,v2,ht,hfe,hel,c1,hw,ih]
    ·refine ay rfl rfl ?_
     simp [h,hat,jk,v2,hn,hfe,hel,c1,hw,ih]
theorem EU:∀ (l:List aF) (w:Nat) (a:Int),iT w a l=0->(∀f∈l,f.tag≠0/\f.tag<=4294967296/\xw w f=0/\a < f.tag)/\l.Pairwise (λx y=>x.tag < y.tag)
 | [],w,a,_=>⟨by simp,List.Pairwise.nil⟩
 | f::l,w,a,h=>by
   unfold iT at h;by_cases h1:f.tag=0
   ·rw [aj h1] at h;exact absurd h (by decide)
   rw [ah h1] at h;by_cases h2:4294967296 < f.tag
   ·rw [aj h2] at h;exact absurd h (by decide)
   rw [ah h2] at h;by_cases h3:f.tag<=a
   ·rw [aj h3] at h;exact absurd h (by decide)
   rw [ah h3] at h;by_cases h4:xw w f=0;rotate_left
   ·rw [aj h4] at h;exact absurd h h4
   rw [ah (λe=>e h4)] at h;obtain ⟨i1,i2⟩:=EU l w f.tag h;refine ⟨λg hg=>?_,wV.2 ⟨λg hg=>(i1 g hg).2.2.2,i2⟩⟩;rcases cO.1 hg with rfl | hg
   ·exact ⟨h1,by omega,h4,by omega⟩
   ·obtain ⟨q1,q2,q3,q4⟩:=i1 g hg
    exact ⟨q1,q2,q3,by omega⟩
theorem Ot:∀ (l:List aF) (w:Nat) (a:Int),(∀f∈l,f.tag≠0/\f.tag<=4294967296/\xw w f=0/\a < f.tag)->l.Pairwise (λx y=>x.tag < y.tag)->iT w a l=0
 | [],w,a,_,_=>by unfold iT;rfl
 | f::l,w,a,h,hp=>by
   obtain ⟨q1,q2,q3,q4⟩:=h f (by simp);rw [wV] at hp;unfold iT;rw [ah q1,ah (by omega),ah (by omega),ah (λe=>e q3)];refine Ot l w f.tag (λg hg=>?_) hp.2;obtain ⟨r1,r2,r3,r4⟩:=h g (by simp [hg]);exact ⟨r1,r2,r3,hp.1 g hg⟩
theorem aqx (k:Int):(mF k).Pairwise (λs t=>s.tag < t.tag)/\∀s∈mF k,1<=s.tag/\s.tag<=5:=by
 unfold mF;repeat' split
 all_goals first | (unfold sp1;decide) | (unfold sp2;decide) | (unfold rE;decide) | (unfold zI;decide) | (unfold rF;decide) | (unfold rG;decide) | (unfold zJ;decide) | (unfold zK;decide) | exact ⟨List.Pairwise.nil,λs hs=>by cases hs⟩
theorem AY (k v:Int):(aG k v).Pairwise (λs t=>s.tag < t.tag)/\∀s∈aG k v,1<=s.tag/\s.tag<=5:=by
 obtain ⟨h1,h2⟩:=aqx k;exact ⟨h1.sublist Np,λs hs=>h2 s (pO.1 hs).1⟩
theorem Lj {b:aB} {s:bM} {f:aF} (h:tX b s=some f):∃p,placeOf s.name=some p/\f=.mk s.tag (aV p) (aK b p).1 (aK b p).2 []/\¬ ((aK b p).1=0/\(aK b p).2=[]):=by
 unfold tX at h;cases hp:placeOf s.name with
 | none=>rw [hp] at h;cases h
 | some p=>
   rw [hp] at h;simp only at h;by_cases hz:(aK b p).1=0/\(aK b p).2=[]
   ·rw [aj hz] at h;cases h
   ·rw [ah hz] at h
    injection h with h
    exact ⟨p,rfl,h.symm,hz⟩
theorem Lm {b:aB} {l:List bM} {f:aF} (h:f∈gQ b l):∃s∈l,∃p,placeOf s.name=some p/\f=.mk s.tag (aV p) (aK b p).1 (aK b p).2 []/\¬ ((aK b p).1=0/\(aK b p).2=[]):=by
 unfold gQ at h;obtain ⟨s,hs,hf⟩:=List.mem_filterMap.1 h;exact ⟨s,hs,Lj hf⟩
theorem P5 (b:aB):∀ (l:List bM),l.Pairwise (λs t=>s.tag < t.tag)->(gQ b l).Pairwise (λx y=>x.tag < y.tag)
 | [],_=>List.Pairwise.nil
 | s::l,h=>by
   rw [wV] at h;rw [zq];have ih:=P5 b l h.2;cases hk:tX b s with
   | none=>exact ih
   | some f=>
     obtain ⟨p, -,rfl, -⟩:=Lj hk;refine wV.2 ⟨λg hg=>?_,ih⟩;obtain ⟨s',hs',p', -,rfl, -⟩:=Lm hg;exact h.1 s' hs'
theorem afc (b:aB) (p:Pl):(aV p=0/\(aK b p).2=[])\/(aV p=1/\(aK b p).1=0):=by
 cases p<;>simp [aV,aK]
theorem Vz (b:aB) (k v:Int):iT 0 0 (gQ b (aG k v))=0:=by
 obtain ⟨h1,h2⟩:=AY k v;refine Ot _ 0 0 (λf hf=>?_) (P5 b _ h1);obtain ⟨s,hs,p, -,rfl, -⟩:=Lm hf;have:=h2 s hs;refine ⟨by show s.tag≠0;omega,by show s.tag<=_;omega, ?_,by show 0 < s.tag;omega⟩;unfold xw;rcases afc b p with ⟨q1,q2⟩ | ⟨q1,q2⟩
 ·rw [q1,q2];simp
 ·rw [q1,q2];simp
def Short (b:aB):Prop:=b.name.length<=600/\b.region.length<=600/\b.note.length<=600
theorem MR {b:aB} {fl:List aF} (h:jE b fl) (hw:Short b) (p:Pl):(0<=(aK b p).1/\(aK b p).1 < 18446744073709551616)/\(aK b p).2.length<=100000000:=by
 have q:=h.body;obtain ⟨w1,w2,w3⟩:=hw;cases p with
 | rem=>
   have hr:=q.remaining;exact ⟨by simp only [aK];unfold zz;split<;>omega,by simp [aK]⟩
 | allow=>refine ⟨?_,by simp [aK]⟩;simp only [aK];split<;>omega
 | name=>exact ⟨by simp [aK],by simp only [aK];omega⟩
 | region=>exact ⟨by simp [aK],by simp only [aK];omega⟩
 | note=>exact ⟨by simp [aK],by simp only [aK];omega⟩
 | d=>
   refine ⟨by simp [aK], ?_⟩;simp only [aK];have:=Lh h.d;split
   ·simp
   ·omega
 | t=>
   refine ⟨by simp [aK], ?_⟩;simp only [aK];have:=adH b.t h.t;split
   ·simp
   ·unfold zD
    split
    ·simp
    ·simp only;omega
 | num k=>
   refine ⟨?_,by simp [aK]⟩;simp only [aK];unfold fE;split<;>first | exact q.id | exact q.min | exact q.max | exact q.chosen | exact q.flags | exact q.cost | exact q.priority | exact q.deadline | exact q.retry | exact q.epoch | exact q.base | exact q.digest | exact q.lag | exact q.code | exact q.want
theorem Vu {b:aB} {fl:List aF} (h:jE b fl) (hw:Short b) (k v:Int):bY (gQ b (aG k v)):=O6 λf hf=>by
 obtain ⟨s,hs,p, -,rfl, -⟩:=Lm hf;have ht:=(AY k v).2 s hs;have hv:=MR h hw p;have hy:0<=aV p/\aV p<=1:=by cases p<;>simp [aV]
 simp only [oN,bY];refine ⟨⟨?_, ?_, ?_, ?_,hv.1.1,hv.1.2,hv.2, ?_⟩,trivial⟩;all_goals first | omega | simp
theorem acw (b:aB) (k v:Int):(gQ b (aG k v)).length<=8:=iD (List.length_filterMap_le _ _) (xB k v)
theorem Vx (b:aB):∀l:List bM,bI (gQ b l)<=2 * l.length
 | []=>by simp [gQ,bI]
 | s::l=>by
   rw [zq];have ih:=Vx b l;cases hk:tX b s with
   | none=>simp only [bK,jg];omega
   | some f=>
     obtain ⟨p, -,rfl, -⟩:=Lj hk;simp only [cu,bK,bI,qj,jg];omega
theorem Vy {b:aB} {fl:List aF} (h:jE b fl) (hw:Short b):∀l:List bM,wL (gQ b l)<=100000040 * l.length
 | []=>by simp [gQ,wL]
 | s::l=>by
   rw [zq];have ih:=Vy h hw l;cases hk:tX b s with
   | none=>simp only [bK,jg];omega
   | some f=>
     obtain ⟨p, -,rfl, -⟩:=Lj hk;have hv:=(MR h hw p).2;simp only [cu,bK,wL,wF,jg];omega
theorem Pe:∀ (n:Nat) (l:List One) (deep:Int),(∀x∈l,x.text.length<=300)->wL (fA n l deep).1+340 * (fA n l deep).2.length<=340 * l.length
 | 0,l,deep,_=>by simp [fA,wL]
 | n+1,[],deep,_=>by simp [fA,wL]
 | n+1,x::l,deep,h=>by
   have hx:=h x (by simp);have hl:∀y∈l,y.text.length<=300:=λy hy=>h y (by simp [hy]);simp only [fA];split
   ·by_cases hd:x.deep=255
    ·rw [aj hd]
     have h1:=Pe n l deep hl;simp only [wL,wF,jg];omega
    ·rw [ah hd]
     have h1:=Pe n l (x.deep+1) hl;obtain ⟨k,hk⟩:=(E5 n l (x.deep+1)).2;have h2:=Pe n (fA n l (x.deep+1)).2 deep (λy hy=>hl y (by rw [hk] at hy;exact BU hy));simp only [wL,wF,jg];omega
   ·simp [wL]
theorem alh (l:List One) (hf:uU l=true):wL (sG l)<=20400:=by
 unfold uU at hf;rw [aJ,decide_eq_true_iff,List.all_eq_true] at hf;have:=Pe (l.length+1) l 0 λx hx=>by simpa using hf.1 x hx
 unfold sG;omega
/-- What is needed for a message that is written. -/
structure tu (b:aB) (fl:List aF):Prop where
 msg:jE b fl
 short:Short b
 sz:bI fl<=900000
 w:wL fl<=2000000000
theorem Aq {b:aB} {fl:List aF} {v:Int} (h:fB b fl v=0):1<=v/\v<=3/\aG b.kind v≠[]/\iT 0 0 fl=0/\∀f∈fl,hasTag (aG b.kind v) f.tag=false:=by
 unfold fB at h;by_cases h1:v < 1
 ·rw [aj h1] at h;exact absurd h (by decide)
 rw [ah h1] at h;by_cases h2:3 < v
 ·rw [aj h2] at h;exact absurd h (by decide)
 rw [ah h2] at h;by_cases h3:aG b.kind v=[]
 ·rw [aj h3] at h;exact absurd h (by decide)
 rw [ah h3] at h;by_cases h4:dR.all (λn=>jG (aG b.kind v) n || mg b n)=false
 ·rw [aj h4] at h;exact absurd h (by decide)
 rw [ah h4] at h;by_cases h5:mZ b (aG b.kind v)≠0
 ·rw [aj h5] at h;exact absurd h h5
 rw [ah h5] at h;by_cases h6:tC b≠0
 ·rw [aj h6] at h;exact absurd h h6
 rw [ah h6] at h;unfold F5 at h;by_cases h7:iT 0 0 fl≠0
 ·rw [aj h7] at h;exact absurd h h7
 rw [ah h7] at h;by_cases h8:fl.any (λf=>hasTag (aG b.kind v) f.tag)=true
 ·rw [aj h8] at h;exact absurd h (by decide)
 refine ⟨by omega,by omega,h3,by simpa using h7,λf hf=>?_⟩;cases e:hasTag (aG b.kind v) f.tag with
 | false=>rfl
 | true=>exact absurd (List.any_eq_true.2 ⟨f,hf,e⟩) h8
theorem Cm {b:aB} {fl:List aF} {v:Int} (h:fB b fl v=0):((gQ b (aG b.kind v)++fl).map aF.tag).Nodup:=by
 obtain ⟨-, -, -,h1,h2⟩:=Aq h;have p1:=P5 b _ (AY b.kind v).1;have p2:=(EU fl 0 0 h1).2;rw [wS,List.nodup_append];have nd:∀l:List aF,l.Pairwise (λx y=>x.tag < y.tag)->(l.map aF.tag).Nodup:=λl hl=>by
  unfold List.Nodup;rw [List.pairwise_map];exact hl.imp λh e=>by omega
 refine ⟨nd _ p1,nd _ p2,λx hx y hy e=>?_⟩;obtain ⟨f,hf,rfl⟩:=nD.1 hx;obtain ⟨g,hg,rfl⟩:=nD.1 hy;obtain ⟨s,hs,p, -,rfl, -⟩:=Lm hf;have:=h2 g hg;unfold hasTag at this;have h3:(aG b.kind v).any (λs=>decide (g.tag=s.tag))=true:=List.any_eq_true.2 ⟨s,hs,yh (show g.tag=s.tag from e.symm)⟩;rw [h3] at this;cases this
def gB (b:aB) (fl:List aF) (v:Int):List aF:=qG (gQ b (aG b.kind v)) fl
def O1 (b:aB) (fl:List aF) (v:Int):List aF×Int:=if fB b fl v=0 then (gB b fl v,0) else ([],fB b fl v)
structure RY (l:List aF):Prop where
 ok:bY l
 len:l.length<=1000000
 w:wL l<=1000000000000
 chk:iT 0 0 l=0
theorem Td {b:aB} {fl:List aF} {v:Int} (hm:tu b fl) (h:fB b fl v=0):RY (gB b fl v):=by
 obtain ⟨-, -, -,h1,h2⟩:=Aq h;obtain ⟨mp,ms⟩:=Ba (Cm h);have hl:fl.length<=900000:=by
  have:∀l:List aF,l.length<=bI l:=λl=>by
   induction l with
   | nil=>simp [bI]
   | cons f l ih=>simp only [jg,bI];omega
  have:=this fl;have:=hm.sz;omega
 have kl:=acw b b.kind v;have kw:=Vy hm.msg hm.short (aG b.kind v);have k8:=xB b.kind v;have mw:=hm.w;refine ⟨aiU mp (aiT (Vu hm.msg hm.short _ _) hm.msg.f8), ?_, ?_, ?_⟩
 ·unfold gB;rw [mp.length_eq,dQ];omega
 ·unfold gB;rw [afo mp,Yo]
  have:100000040 * (aG b.kind v).length<=100000040 * 8:=Nw _ k8;omega
 ·refine Ot _ 0 0 (λf hf=>?_) ms
  rcases nX.1 (mp.mem_iff.1 hf) with hf | hf
  ·exact (EU _ 0 0 (Vz b b.kind v)).1 f hf
  ·exact (EU _ 0 0 h1).1 f hf
theorem acu {k v:Int} (h:aG k v≠[]):1<=k/\k<=8:=by
 by_cases c:1<=k/\k<=8
 ·exact c
 ·exfalso
  apply h;unfold aG mF;rw [ah (by omega),ah (by omega),ah (by omega),ah (by omega),ah (by omega),ah (by omega),ah (by omega),ah (by omega)];rfl
theorem amX {b:aB} {fl:List aF} (hm:tu b fl) (v:Int):TT.lim 31 [bU b (aC fl),.i .i64 v]=some [.l (aC (O1 b fl v).1),.i .i64 (O1 b fl v).2]:=by
 have hc:=ac3 b fl v hm.msg.body hm.msg.t.few hm.msg.f8 hm.msg.len;unfold O1;by_cases c:fB b fl v=0;rotate_left
 ·rw [ah c]
  have fn:aC []=[]:=by simp only [aC]
  rw [fn];generalize aC fl=r at *;generalize fB b fl v=ck at *;refine aW rfl rfl ?_ rfl;simp [jk,hc,c]
 rw [aj c];rw [c] at hc;obtain ⟨v1,v3,hne,h8, -⟩:=Aq c;have hk:=Ll b.kind v v1 v3 (by
  have:=mt (P6 b.kind v v1 v3).2 hne;omega)
 have h0:=adM hm.msg (aG b.kind v) (by have:=xB b.kind v;omega) (akQ b.kind v) (aG b.kind v).length 0 [] (by omega) (by have:=xB b.kind v;simp;omega);have fn:aC []=[]:=by simp only [aC]
 rw [dY,bK,dV,fn] at h0;simp only [cu,bK,vP] at h0;have hsz:=Vx b (aG b.kind v);have k8:=xB b.kind v;have mo:=anm _ fl (Vu hm.msg hm.short b.kind v) hm.msg.f8 (by have:=acw b b.kind v;omega) hm.msg.len (by have:=hm.sz;omega) (Vz b b.kind v) h8 (Cm c);have hal:(((aG b.kind v).map dN).length:Int)=((aG b.kind v).length:Int):=by rw [nV]
 unfold gB;generalize aC (qG (gQ b (aG b.kind v)) fl)=M at *;generalize aC (gQ b (aG b.kind v))=KV at *;generalize (aG b.kind v).map dN=SP at *;generalize ((aG b.kind v).length:Int)=L at *;generalize aC fl=r at *;clear hsz k8 hne h8 c hm v1 v3;refine aW rfl rfl ?_ rfl;simp [jk,hc,hk,hal,h0,mo]
/-- What is written, or why not. -/
def bytesV (b:aB) (fl:List aF) (v:Int):List UInt8:=aT b.kind.toNat++bQ (gB b fl v)
def kN (b:aB) (fl:List aF) (v:Int):List UInt8×Int:=if fB b fl v=0 then (if 65536 < (bytesV b fl v).length then ([],4) else (bytesV b fl v,0)) else ([],fB b fl v)
theorem LV {b:aB} {fl:List aF} (hm:tu b fl) (v:Int):TT.lim 30 [bU b (aC fl),.i .i64 v]=some [.s (kN b fl v).1,.i .i64 (kN b fl v).2]:=by
 have hf:=amX hm v;unfold O1 at hf;unfold kN;by_cases c:fB b fl v=0;rotate_left
 ·rw [ah c] at hf ⊢
  generalize aC fl=r at *;generalize fB b fl v=ck at *;refine aW rfl rfl ?_ rfl;simp [jk,hf,c]
 rw [aj c] at hf ⊢;have ao:=Td hm c;have hw:=asT (gB b fl v) ao.ok ao.len ao.w ao.chk;obtain ⟨-, -,hne, -, -⟩:=Aq c;obtain ⟨k1,k8⟩:=acu hne;have hp:=xF b.kind.toNat (by omega);have hpl:=ng (n:=b.kind.toNat) (by omega);rw [show ((b.kind.toNat:Nat):Int)=b.kind by omega] at hp;have wk:=kK (n:=b.kind) (by omega) (by omega);unfold bytesV;rw [dQ];clear ao c hm hne;generalize gB b fl v=AF at *;generalize aT b.kind.toNat=V at *;generalize aC fl=r at *;generalize aC AF=G at *;generalize bQ AF=F at *;by_cases c1:65536 < F.length
 ·rw [aj c1] at hw
  rw [aj (by omega)];refine aW rfl rfl ?_ rfl;simp [jk,hf,hw]
 ·rw [ah c1] at hw
  have c3:(V.length:Int)+F.length<=9223372036854775807:=by omega
  by_cases c2:65536 < V.length+F.length
  ·have c2':(65536:Int) < V.length+F.length:=by omega
   rw [aj c2];refine aW rfl rfl ?_ rfl;simp [jk,hf,hw,wk,hp,c2',c3]
  ·have c2':¬ (65536:Int) < V.length+F.length:=by omega
   rw [ah c2];refine aW rfl rfl ?_ rfl;simp [jk,hf,hw,wk,hp,c2',c3]
/-- The field that stands next, within so many lists, above a tag; how many bytes it took; the code. -/
def iV (rec:List UInt8->List aF×Int) (w:Nat) (ahead:Nat) (s:List UInt8):aF×Nat×Int:=
 if (au s).2.2≠0 then (.mk 0 0 0 [] [],0,(au s).2.2)
 else if (au s).1 / 4=0 then (.mk 0 0 0 [] [],0,18)
 else if 4294967296 < (au s).1 / 4 then (.mk 0 0 0 [] [],0,18)
 else if 3<=(au s).1 % 4 then (.mk 0 0 0 [] [],0,8)
 else if (au s).1 / 4<=ahead then (.mk 0 0 0 [] [],0,7)
 else
  let r:=s.drop (au s).2.1
  let k:=(au s).2.1+(au r).2.1
  if (au r).2.2≠0 then (.mk 0 0 0 [] [],0,(au r).2.2)
  else if (au s).1 % 4=0 then (.mk ((au s).1 / 4:Nat) 0 (au r).1 [] [],k,0)
  else if s.length - k < (au r).1 then (.mk 0 0 0 [] [],0,1)
  else if (au s).1 % 4=1 then (.mk ((au s).1 / 4:Nat) 1 0 ((s.drop k).take (au r).1) [],k+(au r).1,0)
  else if 8<=w then (.mk 0 0 0 [] [],0,9)
  else if (rec ((s.drop k).take (au r).1)).2≠0 then (.mk 0 0 0 [] [],0,(rec ((s.drop k).take (au r).1)).2)
  else (.mk ((au s).1 / 4:Nat) 2 0 [] (rec ((s.drop k).take (au r).1)).1,k+(au r).1,0)
/-- Fields, within so many lists, above a tag. -/
def dK:Nat->Nat->Nat->List UInt8->List aF×Int
 | 0,_,_,_=>([],0)
 | N+1,w,ahead,s=>if s=[] then ([],0) else
   if (iV (λt=>dK N (w+1) 0 t) w ahead s).2.2≠0 then ([],(iV (λt=>dK N (w+1) 0 t) w ahead s).2.2)
   else if (dK N w ((au s).1 / 4) (s.drop (iV (λt=>dK N (w+1) 0 t) w ahead s).2.1)).2≠0 then ([],(dK N w ((au s).1 / 4) (s.drop (iV (λt=>dK N (w+1) 0 t) w ahead s).2.1)).2)
   else ((iV (λt=>dK N (w+1) 0 t) w ahead s).1::(dK N w ((au s).1 / 4) (s.drop (iV (λt=>dK N (w+1) 0 t) w ahead s).2.1)).1,0)
theorem afW (n:Nat) (hn:n < 18446744073709551616):fJ .and .u64 (n:Int) 3=some (.i .u64 ((n:Int) % 4)):=by
 have wu:∀y:Int,IntKind.u64.wrap y=y % 18446744073709551616:=λy=>by simp [IntKind.wrap,IntKind.signed,IntKind.bits]
 have e:n &&& 3=n % 4:=afH n 2;have h1:(BitVec.ofInt 64 (n:Int)).toNat=n:=by rw [xM];omega
 have h3:(BitVec.ofInt 64 3).toNat=3:=by decide
 show some (GV.i IntKind.u64 (IntKind.u64.wrap ((BitVec.ofInt 64 (n:Int) &&& BitVec.ofInt 64 3).toNat:Int)))=_
 rw [Yy,h1,h3,e,wu];congr 2;omega
theorem apY (n:Nat):oz .shr .u64 (n:Int) 2=some (.i .u64 ((n:Int) / 4)):=by
 show some (GV.i IntKind.u64 ((n:Int).fdiv (2 ^ 2)))=_
 rw [Nk _ (by decide)];rfl
theorem aoc (t y w:GV) (s:List UInt8) (at':Nat) (h:at'<=s.length) (hs:s.length<=100000000) (n x:GV) :
 TT.lim 102 [t,y,w,.s s,.i .i64 at',n,x]=some [.i .i64 0,.i .i64 (au (s.drop at')).2.2,.i .u64 ((au (s.drop at')).1:Nat),.s s,.i .i64 ((at'+(au (s.drop at')).2.1:Nat):Int)]:=by
 have k:=zN s at' h (by omega);refine ay rfl rfl ?_;simp [k]
theorem aoe (t y w:GV) (s:List UInt8) (at':Nat) (h:at'<=s.length) (hs:s.length<=100000000) (n:GV) :
 ∃a,TT.lim 103 [t,y,w,.s s,.i .i64 at',n,.s []]=some
  (if (au (s.drop at')).2.2≠0 then [.i .i64 0,.i .i64 (au (s.drop at')).2.2,.s [],.s s,.i .i64 (a:Nat)]
  else if s.length - (at'+(au (s.drop at')).2.1) < (au (s.drop at')).1 then [.i .i64 0,.i .i64 1,.s [],.s s,.i .i64 (a:Nat)]
  else [.i .i64 0,.i .i64 0,.s ((s.drop (at'+(au (s.drop at')).2.1)).take (au (s.drop at')).1),.s s,.i .i64 ((at'+(au (s.drop at')).2.1+(au (s.drop at')).1:Nat):Int)]):=by
 have k:=zN s at' h (by omega);by_cases he:(au (s.drop at')).2.2=0;rotate_left
 ·refine ⟨at'+(au (s.drop at')).2.1, ?_⟩
  rw [aj he];generalize (au (s.drop at')).2.2=e at *;refine ay rfl rfl ?_;simp [k,he]
 have hv:=jM he;have hl:=hv.len;have hlt:=hv.lt;rw [eU] at hl;rw [he] at k;refine ⟨at'+(au (s.drop at')).2.1, ?_⟩;rw [ah (λx=>x he)];clear he;generalize (au (s.drop at')).1=m at *;generalize (au (s.drop at')).2.1=j at *;have w1:=wrap64 (n:=(s.length:Int) - ((at'+j:Nat):Int)) (by omega) (by omega);have w2:=kK (n:=(s.length:Int) - ((at'+j:Nat):Int)) (by omega) (by omega);by_cases c:s.length - (at'+j) < m
 ·have c':(s.length:Int) - ((at'+j:Nat):Int) < (m:Int):=by omega
  rw [aj c];generalize ((at'+j:Nat):Int)=A at *;refine ay rfl rfl ?_;simp [k,w1,w2,c']
 ·have c':¬ ((s.length:Int) - ((at'+j:Nat):Int) < (m:Int)):=by omega
  rw [ah c];have w3:=wrap64 (n:=(m:Int)) (by omega) (by omega);have w4:=wrap64 (n:=((at'+j:Nat):Int)+(m:Int)) (by omega) (by omega);have e4:((at'+j:Nat):Int)+(m:Int)=((at'+j+m:Nat):Int):=by omega
  rw [e4] at w4;have b1:(0:Int)<=((at'+j:Nat):Int)/\((at'+j:Nat):Int)<=((at'+j+m:Nat):Int)/\((at'+j+m:Nat):Int)<=s.length:=by omega
  have hsl:(s.take (at'+j+m)).drop (at'+j)=(s.drop (at'+j)).take m:=by rw [GH,show at'+j+m - (at'+j)=m by omega]
  have t1:(((at'+j:Nat):Int)).toNat=at'+j:=by omega
  have t2:(((at'+j+m:Nat):Int)).toNat=at'+j+m:=by omega
  generalize hA:((at'+j:Nat):Int)=A at *;generalize hB:((at'+j+m:Nat):Int)=B at *;refine ay rfl rfl ?_;simp [k,w1,w2,c',w3,e4,w4,b1,t1,t2,hsl]
/-- What is told for reading up to a size. -/
def JK (N:Nat):Prop:=∀ (w ahead at':Nat) (s:List UInt8),at'<=s.length->s.length<=100000000->(s.drop at').length < N->w<=8->ahead < 18446744073709551616->∃a b,TT.lim 98 [.s s,.i .i64 (w:Nat),.i .u64 (ahead:Nat),.i .i64 (at':Nat)]=some [.i .i64 0,.l (aC (dK N w ahead (s.drop at')).1),.i .i64 (dK N w ahead (s.drop at')).2,.i .u64 (a:Nat),.s s,.i .i64 (b:Nat)]
theorem an9 {N:Nat} (hN:JK N) (t y:GV) (w:Nat) (hw:w<=8) (s:List UInt8) (at':Nat) (h:at'<=s.length) (hs:s.length<=100000000) (UO:(s.drop at').length<=N) (n x:GV) :
 ∃a,TT.lim 104 [t,y,.i .i64 (w:Nat),.s s,.i .i64 at',n,x]=some
  (if (au (s.drop at')).2.2≠0 then [.i .i64 0,.i .i64 (au (s.drop at')).2.2,.l [],.s s,.i .i64 (a:Nat)]
  else if s.length - (at'+(au (s.drop at')).2.1) < (au (s.drop at')).1 then [.i .i64 0,.i .i64 1,.l [],.s s,.i .i64 (a:Nat)]
  else if 8<=w then [.i .i64 0,.i .i64 9,.l [],.s s,.i .i64 (a:Nat)]
  else [.i .i64 0,.i .i64 (dK N (w+1) 0 ((s.drop (at'+(au (s.drop at')).2.1)).take (au (s.drop at')).1)).2,.l (aC (dK N (w+1) 0 ((s.drop (at'+(au (s.drop at')).2.1)).take (au (s.drop at')).1)).1),.s s,.i .i64 ((at'+(au (s.drop at')).2.1+(au (s.drop at')).1:Nat):Int)]):=by
 have k:=zN s at' h (by omega);by_cases he:(au (s.drop at')).2.2=0;rotate_left
 ·refine ⟨at'+(au (s.drop at')).2.1, ?_⟩
  rw [aj he];generalize (au (s.drop at')).2.2=e at *;refine ay rfl rfl ?_;simp [k,he]
 have hv:=jM he;have hl:=hv.len;have hlt:=hv.lt;have hp:=hv.pos;rw [eU] at hl UO;rw [he] at k;by_cases c:s.length - (at'+(au (s.drop at')).2.1) < (au (s.drop at')).1
 ·refine ⟨at'+(au (s.drop at')).2.1, ?_⟩
  rw [ah (λx=>x he),aj c];clear he;generalize (au (s.drop at')).1=m at *;generalize (au (s.drop at')).2.1=j at *;have w1:=wrap64 (n:=(s.length:Int) - ((at'+j:Nat):Int)) (by omega) (by omega);have w2:=kK (n:=(s.length:Int) - ((at'+j:Nat):Int)) (by omega) (by omega);have c':(s.length:Int) - ((at'+j:Nat):Int) < (m:Int):=by omega
  generalize ((at'+j:Nat):Int)=A at *;refine ay rfl rfl ?_;simp [k,w1,w2,c']
 by_cases c8:8<=w
 ·refine ⟨at'+(au (s.drop at')).2.1+(au (s.drop at')).1, ?_⟩
  rw [ah (λx=>x he),ah c,aj c8];clear he;generalize (au (s.drop at')).1=m at *;generalize (au (s.drop at')).2.1=j at *;have w1:=wrap64 (n:=(s.length:Int) - ((at'+j:Nat):Int)) (by omega) (by omega);have w2:=kK (n:=(s.length:Int) - ((at'+j:Nat):Int)) (by omega) (by omega);have c':¬ ((s.length:Int) - ((at'+j:Nat):Int) < (m:Int)):=by omega
  have w3:=wrap64 (n:=(m:Int)) (by omega) (by omega);have w4:=wrap64 (n:=((at'+j:Nat):Int)+(m:Int)) (by omega) (by omega);have e4:((at'+j:Nat):Int)+(m:Int)=((at'+j+m:Nat):Int):=by omega
  rw [e4] at w4;have b1:(0:Int)<=((at'+j:Nat):Int)/\((at'+j:Nat):Int)<=((at'+j+m:Nat):Int)/\((at'+j+m:Nat):Int)<=s.length:=by omega
  have EM:(8:Int)<=(w:Int):=by omega
  generalize hA:((at'+j:Nat):Int)=A at *;generalize hB:((at'+j+m:Nat):Int)=B at *;refine ay rfl rfl ?_;simp [k,w1,w2,c',w3,e4,w4,b1,EM]
 ·refine ⟨0, ?_⟩
  rw [ah (λx=>x he),ah c,ah c8];clear he;generalize (au (s.drop at')).1=m at *;generalize (au (s.drop at')).2.1=j at *;have hr:=hN (w+1) 0 0 ((s.drop (at'+j)).take m) (by omega) (by rw [oG,eU];omega) (by rw [dY,oG,eU];omega) (by omega) (by omega);obtain ⟨a,b,hr⟩:=hr;rw [dY] at hr;have w1:=wrap64 (n:=(s.length:Int) - ((at'+j:Nat):Int)) (by omega) (by omega);have w2:=kK (n:=(s.length:Int) - ((at'+j:Nat):Int)) (by omega) (by omega);have c':¬ ((s.length:Int) - ((at'+j:Nat):Int) < (m:Int)):=by omega
  have w3:=wrap64 (n:=(m:Int)) (by omega) (by omega);have w4:=wrap64 (n:=((at'+j:Nat):Int)+(m:Int)) (by omega) (by omega);have e4:((at'+j:Nat):Int)+(m:Int)=((at'+j+m:Nat):Int):=by omega
  rw [e4] at w4;have b1:(0:Int)<=((at'+j:Nat):Int)/\((at'+j:Nat):Int)<=((at'+j+m:Nat):Int)/\((at'+j+m:Nat):Int)<=s.length:=by omega
  have hsl:(s.take (at'+j+m)).drop (at'+j)=(s.drop (at'+j)).take m:=by rw [GH,show at'+j+m - (at'+j)=m by omega]
  have t1:(((at'+j:Nat):Int)).toNat=at'+j:=by omega
  have t2:(((at'+j+m:Nat):Int)).toNat=at'+j+m:=by omega
  have EM:¬ (8:Int)<=(w:Int):=by omega
  have w5:=wrap64 (n:=(w:Int)+1) (by omega) (by omega);have e5:(w:Int)+1=((w+1:Nat):Int):=by omega
  simp only [vP] at hr;rw [<- e5] at hr;generalize (s.drop (at'+j)).take m=T at *;generalize dK N (w+1) 0 T=R at *;generalize hA:((at'+j:Nat):Int)=A at *;generalize hB:((at'+j+m:Nat):Int)=B at *;generalize hW:(w:Int)=W at *;clear e5;refine ay rfl rfl ?_;simp [k,w1,w2,c',w3,e4,w4,b1,t1,t2,hsl,EM,w5,hr]
theorem aob {N:Nat} (hN:JK N) (w ahead:Nat) (hw:w<=8) (ha:ahead < 18446744073709551616) (s:List UInt8) (at':Nat) (h:at'<=s.length) (hs:s.length<=100000000) (UO:(s.drop at').length<=N+1) :
 ∃a b:Nat,TT.lim 100 [.i .i64 (w:Nat),.i .u64 (ahead:Nat),.s s,.i .i64 at']=some (.i .i64 0::((nJ (iV (λt=>dK N (w+1) 0 t) w ahead (s.drop at')).1).cells++[.i .i64 (iV (λt=>dK N (w+1) 0 t) w ahead (s.drop at')).2.2,.i .u64 (a:Nat),.s s,.i .i64 (b:Nat)]))/\
  ((iV (λt=>dK N (w+1) 0 t) w ahead (s.drop at')).2.2=0->a=(au (s.drop at')).1 / 4/\b=at'+(iV (λt=>dK N (w+1) 0 t) w ahead (s.drop at')).2.1/\1<=(iV (λt=>dK N (w+1) 0 t) w ahead (s.drop at')).2.1/\b<=s.length):=by
 have k:=zN s at' h (by omega);have fn:aC []=[]:=by simp only [aC]
 have hz:(nJ (.mk 0 0 0 [] [])).cells=[.i .u64 0,.i .i64 0,.i .u64 0,.s [],.l []]:=by rw [Ig,fn]
 unfold iV;by_cases he:(au (s.drop at')).2.2=0;rotate_left
 ·refine ⟨ahead,at'+(au (s.drop at')).2.1, ?_, ?_⟩
  ·simp only [aj he]
   rw [hz];generalize (au (s.drop at')).2.2=e at *;refine ay rfl rfl ?_;simp [k,he]
  ·simp only [aj he];exact λx=>absurd x he
 have hv:=jM he;have hl:=hv.len;have hlt:=hv.lt;have hp:=hv.pos;rw [eU] at hl UO;have hdd:(s.drop at').drop (au (s.drop at')).2.1=s.drop (at'+(au (s.drop at')).2.1):=by rw [pK]
 rw [hdd];have hud:(s.drop at').length=s.length - at':=eU;rw [hud];rw [he] at k;simp only [ah (λx=>x he:¬ (au (s.drop at')).2.2≠0)];have hdk:∀j2:Nat,(s.drop at').drop ((au (s.drop at')).2.1+j2)=s.drop (at'+(au (s.drop at')).2.1+j2):=λj2=>by rw [pK,iZ]
 rw [hdk];clear he hv hdd hud hdk;generalize (au (s.drop at')).1=n at *;generalize (au (s.drop at')).2.1=j at *;have S:=apY n;have A:=afW n hlt;have wA:=wrap64 (n:=(n:Int) % 4) (by omega) (by omega);by_cases c1:n / 4=0
 ·refine ⟨ahead,at'+j, ?_, ?_⟩
  ·simp only [aj c1]
   rw [hz];have c1':(n:Int) / 4=0:=by omega
   generalize (n:Int) / 4=q at *;refine ay rfl rfl ?_;simp [k,S,A,wA,c1']
  ·simp only [aj c1];exact λx=>absurd x (by decide)
 have c1':¬ (n:Int) / 4=0:=by omega
 simp only [ah c1];by_cases c2:4294967296 < n / 4
 ·refine ⟨ahead,at'+j, ?_, ?_⟩
  ·simp only [aj c2]
   rw [hz];have c2':4294967296 < (n:Int) / 4:=by omega
   generalize (n:Int) / 4=q at *;refine ay rfl rfl ?_;simp [k,S,A,wA,c1',c2']
  ·simp only [aj c2];exact λx=>absurd x (by decide)
 have c2':¬ 4294967296 < (n:Int) / 4:=by omega
 simp only [ah c2];by_cases c3:3<=n % 4
 ·refine ⟨ahead,at'+j, ?_, ?_⟩
  ·simp only [aj c3]
   rw [hz];have c3':3<=(n:Int) % 4:=by omega
   generalize (n:Int) / 4=q at *;generalize (n:Int) % 4=y at *;refine ay rfl rfl ?_;simp [k,S,A,wA,c1',c2',c3']
  ·simp only [aj c3];exact λx=>absurd x (by decide)
 have c3':¬ 3<=(n:Int) % 4:=by omega
 simp only [ah c3];by_cases c4:n / 4<=ahead
 ·refine ⟨ahead,at'+j, ?_, ?_⟩
  ·simp only [aj c4]
   rw [hz];have nY:(n:Int) / 4<=(ahead:Int):=by omega
   generalize (n:Int) / 4=q at *;generalize (n:Int) % 4=y at *;generalize (ahead:Int)=AH at *;refine ay rfl rfl ?_;simp [k,S,A,wA,c1',c2',c3',nY]
  ·simp only [aj c4];exact λx=>absurd x (by decide)
 have nY:¬ (n:Int) / 4<=(ahead:Int):=by omega
 simp only [ah c4];have qn:((n / 4:Nat):Int)=(n:Int) / 4:=by omega
 have hj:at'+j<=s.length:=by omega
 rcases (show n % 4=0\/n % 4=1\/n % 4=2 by omega) with y0 | y1 | y2
 ·have y':(n:Int) % 4=0:=by omega
  have kn:=aoc (.i .u64 ((n:Int) / 4)) (.i .i64 0) (.i .i64 (w:Nat)) s (at'+j) hj hs (.i .u64 0) (.s []);rw [y'] at A wA;by_cases e2:(au (s.drop (at'+j))).2.2=0
  ·have hv2:=jM e2
   have hl2:=hv2.len;rw [eU] at hl2;refine ⟨n / 4,at'+j+(au (s.drop (at'+j))).2.1, ?_, ?_⟩
   ·simp only [ah (λx=>x e2:¬ (au (s.drop (at'+j))).2.2≠0),aj y0]
    rw [Ig,fn,qn];rw [e2] at kn;clear hv2 hl2 e2;generalize (au (s.drop (at'+j))).1=m at *;generalize ((at'+j+(au (s.drop (at'+j))).2.1:Nat):Int)=B at *;generalize ((at'+j:Nat):Int)=AT at *;generalize (n:Int) / 4=q at *;generalize (ahead:Int)=AH at *;refine ay rfl rfl ?_;simp [k,S,A,wA,c1',c2',nY,kn]
   ·simp only [ah (λx=>x e2:¬ (au (s.drop (at'+j))).2.2≠0),aj y0]
    refine λ_=>⟨?_, ?_, ?_, ?_⟩<;>first | trivial | rfl | omega
  ·refine ⟨n / 4,at'+j+(au (s.drop (at'+j))).2.1, ?_, ?_⟩
   ·simp only [aj e2]
    rw [hz,qn];generalize (au (s.drop (at'+j))).1=m at *;generalize ((at'+j+(au (s.drop (at'+j))).2.1:Nat):Int)=B at *;generalize (au (s.drop (at'+j))).2.2=e at *;generalize ((at'+j:Nat):Int)=AT at *;generalize (n:Int) / 4=q at *;generalize (ahead:Int)=AH at *;refine ay rfl rfl ?_;simp [k,S,A,wA,c1',c2',nY,kn,e2]
   ·simp only [aj e2];exact λx=>absurd x e2
 ·have y':(n:Int) % 4=1:=by omega
  have y0:¬ n % 4=0:=by omega
  obtain ⟨a,kn⟩:=aoe (.i .u64 ((n:Int) / 4)) (.i .i64 1) (.i .i64 (w:Nat)) s (at'+j) hj hs (.i .u64 0);rw [y'] at A wA;have hlen:s.length - at' - (j+(au (s.drop (at'+j))).2.1)=s.length - (at'+j+(au (s.drop (at'+j))).2.1):=by omega
  by_cases e2:(au (s.drop (at'+j))).2.2=0
  ·have hv2:=jM e2
   have hl2:=hv2.len;rw [eU] at hl2;rw [ah (λx=>x e2)] at kn;simp only [ah (λx=>x e2:¬ (au (s.drop (at'+j))).2.2≠0),ah y0];rw [hlen];by_cases c:s.length - (at'+j+(au (s.drop (at'+j))).2.1) < (au (s.drop (at'+j))).1
   ·rw [aj c] at kn
    simp only [aj c];refine ⟨n / 4,a, ?_,λx=>absurd x (by decide)⟩;rw [hz,qn];generalize ((at'+j:Nat):Int)=AT at *;generalize (n:Int) / 4=q at *;generalize (ahead:Int)=AH at *;refine ay rfl rfl ?_;simp [k,S,A,wA,c1',c2',nY,kn]
   ·rw [ah c] at kn
    simp only [ah c,aj y1];refine ⟨n / 4,at'+j+(au (s.drop (at'+j))).2.1+(au (s.drop (at'+j))).1, ?_,λ_=>⟨rfl,by omega,by omega,by omega⟩⟩;rw [Ig,fn,qn];generalize (s.drop (at'+j+(au (s.drop (at'+j))).2.1)).take (au (s.drop (at'+j))).1=T at *;generalize ((at'+j+(au (s.drop (at'+j))).2.1+(au (s.drop (at'+j))).1:Nat):Int)=B at *;generalize ((at'+j:Nat):Int)=AT at *;generalize (n:Int) / 4=q at *;generalize (ahead:Int)=AH at *;refine ay rfl rfl ?_;simp [k,S,A,wA,c1',c2',nY,kn]
  ·rw [aj e2] at kn
   simp only [aj e2];refine ⟨n / 4,a, ?_,λx=>absurd x e2⟩;rw [hz,qn];generalize (au (s.drop (at'+j))).2.2=e at *;generalize ((at'+j:Nat):Int)=AT at *;generalize (n:Int) / 4=q at *;generalize (ahead:Int)=AH at *;refine ay rfl rfl ?_;simp [k,S,A,wA,c1',c2',nY,kn,e2]
 ·have y':(n:Int) % 4=2:=by omega
  have y0:¬ n % 4=0:=by omega
  have y1:¬ n % 4=1:=by omega
  obtain ⟨a,kn⟩:=an9 hN (.i .u64 ((n:Int) / 4)) (.i .i64 2) w hw s (at'+j) hj hs (by rw [eU];omega) (.i .u64 0) (.s []);rw [y'] at A wA;have hlen:s.length - at' - (j+(au (s.drop (at'+j))).2.1)=s.length - (at'+j+(au (s.drop (at'+j))).2.1):=by omega
  by_cases e2:(au (s.drop (at'+j))).2.2=0
  ·have hv2:=jM e2
   have hl2:=hv2.len;rw [eU] at hl2;rw [ah (λx=>x e2)] at kn;simp only [ah (λx=>x e2:¬ (au (s.drop (at'+j))).2.2≠0),ah y0];rw [hlen];by_cases c:s.length - (at'+j+(au (s.drop (at'+j))).2.1) < (au (s.drop (at'+j))).1
   ·rw [aj c] at kn
    simp only [aj c];refine ⟨n / 4,a, ?_,λx=>absurd x (by decide)⟩;rw [hz,qn];generalize ((at'+j:Nat):Int)=AT at *;generalize (n:Int) / 4=q at *;generalize (ahead:Int)=AH at *;refine ay rfl rfl ?_;simp [k,S,A,wA,c1',c2',nY,kn]
   ·rw [ah c] at kn
    simp only [ah c,ah y1];by_cases c8:8<=w
    ·rw [aj c8] at kn
     simp only [aj c8];refine ⟨n / 4,a, ?_,λx=>absurd x (by decide)⟩;rw [hz,qn];generalize ((at'+j:Nat):Int)=AT at *;generalize (n:Int) / 4=q at *;generalize (ahead:Int)=AH at *;refine ay rfl rfl ?_;simp [k,S,A,wA,c1',c2',nY,kn]
    ·rw [ah c8] at kn
     simp only [ah c8];generalize (s.drop (at'+j+(au (s.drop (at'+j))).2.1)).take (au (s.drop (at'+j))).1=T at *;by_cases e3:(dK N (w+1) 0 T).2=0
     ·simp only [ah (λx=>x e3:¬ (dK N (w+1) 0 T).2≠0)]
      refine ⟨n / 4,at'+j+(au (s.drop (at'+j))).2.1+(au (s.drop (at'+j))).1, ?_,λ_=>⟨rfl,by omega,by omega,by omega⟩⟩;rw [Ig,qn];rw [e3] at kn;clear e3 c e2 hv2 hl2 hlen;generalize dK N (w+1) 0 T=R at *;generalize ((at'+j+(au (s.drop (at'+j))).2.1+(au (s.drop (at'+j))).1:Nat):Int)=B at *;generalize ((at'+j:Nat):Int)=AT at *;generalize (n:Int) / 4=q at *;generalize (ahead:Int)=AH at *;refine ay rfl rfl ?_;simp [k,S,A,wA,c1',c2',nY,kn]
     ·simp only [aj e3]
      refine ⟨n / 4,at'+j+(au (s.drop (at'+j))).2.1+(au (s.drop (at'+j))).1, ?_,λx=>absurd x e3⟩;rw [hz,qn];clear c e2 hv2 hl2 hlen;generalize dK N (w+1) 0 T=R at *;generalize ((at'+j+(au (s.drop (at'+j))).2.1+(au (s.drop (at'+j))).1:Nat):Int)=B at *;generalize ((at'+j:Nat):Int)=AT at *;generalize (n:Int) / 4=q at *;generalize (ahead:Int)=AH at *;refine ay rfl rfl ?_;simp [k,S,A,wA,c1',c2',nY,kn,e3]
  ·rw [aj e2] at kn
   simp only [aj e2];refine ⟨n / 4,a, ?_,λx=>absurd x e2⟩;rw [hz,qn];generalize (au (s.drop (at'+j))).2.2=e at *;generalize ((at'+j:Nat):Int)=AT at *;generalize (n:Int) / 4=q at *;generalize (ahead:Int)=AH at *;refine ay rfl rfl ?_;simp [k,S,A,wA,c1',c2',nY,kn,e2]
def ND (N:Nat):Prop:=∀ (w:Nat) (acc:List aF) (ahead at':Nat) (s:List UInt8),w<=8->acc.length+(s.drop at').length<=200000000->at'<=s.length->s.length<=100000000->(s.drop at').length < N->ahead < 18446744073709551616->
    ∃a b:Nat,TT.lim 99 [.l (aC acc),.i .i64 (w:Nat),.i .u64 (ahead:Nat),.s s,.i .i64 (at':Nat)]=some (if (dK N w ahead (s.drop at')).2=0 then [.i .i64 1,.l (aC (acc++(dK N w ahead (s.drop at')).1)),.i .u64 (a:Nat),.s s,.i .i64 (b:Nat)] else [.i .i64 0,.i .i64 (dK N w ahead (s.drop at')).2,.i .u64 (a:Nat),.s s,.i .i64 (b:Nat)])
theorem an7:∀ (N w ahead:Nat) (s:List UInt8),(dK N w ahead s).2≠0->(dK N w ahead s).1=[]
 | 0,_,_,_,_=>rfl
 | N+1,w,ahead,s,h=>by
   unfold dK at h ⊢;by_cases h1:s=[]
   ·rw [aj h1]
   rw [ah h1] at h ⊢;by_cases h2:(iV (λt=>dK N (w+1) 0 t) w ahead s).2.2≠0
   ·rw [aj h2]
   rw [ah h2] at h ⊢;by_cases h3:(dK N w ((au s).1 / 4) (s.drop (iV (λt=>dK N (w+1) 0 t) w ahead s).2.1)).2≠0
   ·rw [aj h3]
   ·rw [ah h3] at h;exact absurd rfl h
theorem aoa {N:Nat} (hN:JK N) (hL:ND N):ND (N+1):=by
 intro w acc ahead at' s hw hac h hs hl ha;have hud:(s.drop at').length=s.length - at':=eU;have wl:=wrap64 (n:=(s.length:Int) - (at':Int)) (by omega) (by omega);unfold dK;by_cases h1:s.drop at'=[]
 ·have hle:s.length - at'=0:=by rw [<- hud,h1];rfl
  have hp:¬ at' < s.length:=by omega
  refine ⟨ahead,at', ?_⟩;rw [aj h1];simp only [if_true,mG];refine ay rfl rfl ?_;simp [wl,hp]
 have hlp:0 < s.length - at':=by
  rw [<- hud];exact Nr.2 h1
 have hp:at' < s.length:=by omega
 simp only [ah h1];obtain ⟨a,b,hn,hok⟩:=aob hN w ahead hw ha s at' h hs (by omega);have la:=lq acc;by_cases he:(iV (λt=>dK N (w+1) 0 t) w ahead (s.drop at')).2.2=0;rotate_left
 ·refine ⟨a,b, ?_⟩
  rw [aj he];generalize iV (λt=>dK N (w+1) 0 t) w ahead (s.drop at')=o at *;obtain ⟨f,used,e⟩:=o;obtain ⟨t,y,n,tx,k⟩:=f;simp only at *;rw [ah he];rw [Ig] at hn;simp only [cu,bK] at hn;refine ay rfl rfl ?_;simp [wl,hp,hn,he]
 obtain ⟨ea,eb,hu,hb⟩:=hok he;have hv0:(au (s.drop at')).2.2=0:=by
  by_cases c:(au (s.drop at')).2.2=0
  ·exact c
  ·exfalso
   unfold iV at he;rw [aj c] at he;exact c he
 have akr:=(jM hv0).lt;simp only [ah (λx=>x he:¬ (iV (λt=>dK N (w+1) 0 t) w ahead (s.drop at')).2.2≠0)];rw [he] at hn;have hdd:(s.drop at').drop (iV (λt=>dK N (w+1) 0 t) w ahead (s.drop at')).2.1=s.drop b:=by rw [pK,<- eb]
 rw [hdd];rw [<- ea];clear hdd he hok;have akl:(s.drop b).length=s.length - b:=eU;obtain ⟨a2,b2,h2⟩:=hL w (acc++[(iV (λt=>dK N (w+1) 0 t) w ahead (s.drop at')).1]) a b s hw (by rw [dQ,yM];omega) hb hs (by omega) (by omega);refine ⟨a2,b2, ?_⟩;generalize iV (λt=>dK N (w+1) 0 t) w ahead (s.drop at')=o at *;obtain ⟨f,used,e⟩:=o;obtain ⟨t,y,n,tx,k⟩:=f;simp only at *;rw [Ig] at hn;simp only [cu,bK] at hn;have hfa:aC (acc++[.mk t y n tx k])=aC acc++[pW t y n tx k]:=by rw [O5];simp only [aC,nJ];rfl
 have hel:(pW t y n tx k).fU 5=true:=rfl;have hfe:GV.g [.i .u64 t,.i .i64 y,.i .u64 n,.s tx,.l (aC k)]=pW t y n tx k:=rfl;have c1:2 * ((aC acc).length+1) * 64<=281474976710656/\(aC acc).length+1<=281474976710656:=by omega
 rw [hfa] at h2;clear hfa ea eb akr hv0 hu hb hud akl hac hlp h1 la;by_cases h3:(dK N w a (s.drop b)).2=0
 ·rw [aj h3] at h2
  simp only [ah (λx=>x h3:¬ (dK N w a (s.drop b)).2≠0)];simp only [if_true];have happ:acc++[aF.mk t y n tx k]++(dK N w a (s.drop b)).1=acc++(aF.mk t y n tx k::(dK N w a (s.drop b)).1):=by simp
  rw [happ] at h2;clear happ h3;generalize aC (acc++(aF.mk t y n tx k::(dK N w a (s.drop b)).1))=R at *;generalize pW t y n tx k=E at *;generalize aC acc=A at *;refine ay rfl rfl ?_;simp [wl,hp,hn,hfe,hel,c1,h2]
 ·rw [ah h3] at h2
  simp only [aj h3];rw [ah h3];generalize dK N w a (s.drop b)=RR at *;generalize pW t y n tx k=E at *;generalize aC acc=A at *;refine ay rfl rfl ?_;simp [wl,hp,hn,hfe,hel,c1,h2]
theorem aod {N:Nat} (hL:ND N):JK N:=by
 intro w ahead at' s h hs hl hw ha;have hud:(s.drop at').length=s.length - at':=eU;obtain ⟨a,b,h0⟩:=hL w [] ahead at' s hw (by simp only [uF];omega) h hs hl ha;have fn:aC []=[]:=by simp only [aC]
 refine ⟨a,b, ?_⟩;rw [fn,bK] at h0;have hbad:=an7 N w ahead (s.drop at');generalize dK N w ahead (s.drop at')=R at *;by_cases h3:R.2=0
 ·rw [aj h3] at h0
  rw [h3];refine ay rfl rfl ?_;simp [h0]
 ·rw [ah h3] at h0
  rw [hbad h3,fn];refine ay rfl rfl ?_;simp [h0]
theorem ad8:∀N:Nat,JK N/\ND N
 | 0=>⟨λw ahead at' s _ _ hl _ _=>absurd hl (by omega),λw acc ahead at' s _ _ _ _ hl _=>absurd hl (by omega)⟩
 | N+1=>by
   have ih:=ad8 N;have hl:=aoa ih.1 ih.2;exact ⟨aod hl,hl⟩
/-- What wire.Get reads. -/
def wE (s:List UInt8):List aF×Int:=if 65536 < s.length then ([],4) else dK (s.length+1) 0 0 s
theorem asR (s:List UInt8) (hs:s.length<=140737488351232):TT.lim 97 [.s s]=some [.l (aC (wE s).1),.i .i64 (wE s).2]:=by
 unfold wE;have fn:aC []=[]:=by simp only [aC]
 by_cases c:65536 < s.length
 ·have c':(65536:Int) < s.length:=by omega
  rw [aj c,fn];refine aW rfl rfl ?_ rfl;simp [c']
 ·have c':¬ (65536:Int) < s.length:=by omega
  obtain ⟨a,b,h0⟩:=(ad8 (s.length+1)).1 0 0 0 s (by omega) (by omega) (by rw [dY];omega) (by omega) (by omega);rw [dY] at h0;rw [ah c];simp only [vP] at h0;generalize dK (s.length+1) 0 0 s=R at *;refine aW rfl rfl ?_ rfl;simp [c',h0]
def rH (l:List bM):List GV:=l.map λs=>GV.i .u64 s.tag
theorem acz (l:List bM) (hl:l.length<=1000):∀ (m i:Nat) (acc:List GV),i+m=l.length->acc.length+m<=2000->TT.lim 107 [.l acc,.l (l.map dN),.i .i64 l.length,.i .i64 i]=some [.i .i64 0,.l (acc++rH (l.drop i))]
 | 0,i,acc,hi,ha=>by
   have h:¬ ((i:Int) < l.length):=by omega
   have e:l.drop i=[]:=gG (by omega);rw [e];show _=some [GV.i .i64 0,.l (acc++[])]
   rw [mG];refine ay rfl rfl ?_;simp [h]
 | m+1,i,acc,hi,ha=>by
   have hlt:i < l.length:=by omega
   have h:((i:Int) < l.length):=by omega
   have hat:(l.map dN)[i]? = some (dN l[i]):=by rw [iL,bT hlt];rfl
   have hcast:((i+1:Nat):Int)=(i:Int)+1:=by omega
   have hw:=wrap64 (n:=(i:Int)+1) (by omega) (by omega);have hd:l.drop i=l[i]::l.drop (i+1):=iQ hlt;have ih:=acz l hl m (i+1) (acc++[.i .u64 l[i].tag]) (by omega) (by rw [dQ,yM];omega);rw [hd];have hq:acc++rH (l[i]::l.drop (i+1))=acc++[GV.i .u64 l[i].tag]++rH (l.drop (i+1)):=by
    rw [show rH (l[i]::l.drop (i+1))=GV.i .u64 l[i].tag::rH (l.drop (i+1)) from rfl,List.append_assoc];rfl
   rw [hq];rw [hcast] at ih;have c1:2 * (acc.length+1) * 8<=281474976710656/\acc.length+1<=281474976710656:=by omega
   clear hq hd;generalize acc++[GV.i .u64 l[i].tag]++rH (l.drop (i+1))=R at *;generalize l[i]=s at *;generalize l.map dN=SP at *;refine ay rfl rfl ?_;simp [h,hat,c1,GV.fU,hw,ih]
theorem akT (k v:Int) (h1:1<=v) (h3:v<=3) (hk:jm k<=v):TT.lim 106 [.i .i64 k,.i .i64 v]=some [.l (rH (aG k v))]:=by
 have hkn:=Ll k v h1 h3 hk;have k8:=xB k v;have h0:=acz (aG k v) (by omega) (aG k v).length 0 [] (by omega) (by simp;omega);rw [dY,bK] at h0;simp only [vP] at h0;have hal:(((aG k v).map dN).length:Int)=((aG k v).length:Int):=by rw [nV]
 generalize rH (aG k v)=TG at *;generalize (aG k v).map dN=SP at *;generalize ((aG k v).length:Int)=L at *;refine aW rfl rfl ?_ rfl;simp [hkn,hal,h0]
/-- The names for tags, as a map. -/
def Bc (xs:List GV) (l:List bM):List GV:=l.foldl (λm s=>iO (.i .u64 s.tag) (.s s.name) m) xs
theorem aar (l:List bM) (hl:l.length<=1000) (x0 x1 x2:GV):∀ (m i:Nat) (xs:List GV),i+m=l.length->TT.lim 105 [x0,x1,x2,.l (l.map dN),.i .i64 l.length,.i .i64 i,.l xs]=some [.i .i64 0,.l (Bc xs (l.drop i))]
 | 0,i,xs,hi=>by
   have h:¬ ((i:Int) < l.length):=by omega
   have e:l.drop i=[]:=gG (by omega);rw [e];show _=some [GV.i .i64 0,.l xs]
   refine ay rfl rfl ?_;simp [h]
 | m+1,i,xs,hi=>by
   have hlt:i < l.length:=by omega
   have h:((i:Int) < l.length):=by omega
   have hat:(l.map dN)[i]? = some (dN l[i]):=by rw [iL,bT hlt];rfl
   have hcast:((i+1:Nat):Int)=(i:Int)+1:=by omega
   have hw:=wrap64 (n:=(i:Int)+1) (by omega) (by omega);have hd:l.drop i=l[i]::l.drop (i+1):=iQ hlt;have ih:=aar l hl x0 x1 x2 m (i+1) (iO (.i .u64 l[i].tag) (.s l[i].name) xs) (by omega);rw [hd];show _=some [GV.i .i64 0,.l (Bc (iO (.i .u64 l[i].tag) (.s l[i].name) xs) (l.drop (i+1)))]
   rw [hcast] at ih;generalize Bc (iO (.i .u64 l[i].tag) (.s l[i].name) xs) (l.drop (i+1))=R at *;generalize l[i]=s at *;generalize l.map dN=SP at *;refine ay rfl rfl ?_;simp [h,hat,hw,ih]
theorem adr (t:Int):∀ (l:List bM) (xs:List GV),l.Pairwise (λa b=>a.tag < b.tag)->fQ (.i .u64 t) (Bc xs l)=(match l.find? (λs=>decide (s.tag=t)) with
 | some s=>some (.s s.name)
 | none=>fQ (.i .u64 t) xs)
 | [],xs,_=>rfl
 | s::l,xs,hp=>by
   rw [wV] at hp;have ih:=adr t l (iO (.i .u64 s.tag) (.s s.name) xs) hp.2;show fQ (.i .u64 t) (Bc (iO (.i .u64 s.tag) (.s s.name) xs) l)=_
   rw [ih,List.find?_cons];by_cases h:s.tag=t
   ·have hno:l.find? (λs=>decide (s.tag=t))=none:=by
     rw [List.find?_eq_none];intro x hx;have:=hp.1 x hx;simp;omega
    rw [hno];simp only [h,decide_true];rw [xX,aj rfl]
   ·simp only [h,decide_false]
    cases hf:l.find? (λs=>decide (s.tag=t)) with
    | some x=>rfl
    | none=>
      simp only;rw [xX,ah (λe=>h e.symm)]
def Ak (xs:List GV) (l:List bM):List GV:=l.foldl (λm s=>iO (.i .u64 s.tag) (.b true) m) xs
theorem aeD (l:List bM) (hl:l.length<=1000) (x0:GV):∀ (m i:Nat) (xs:List GV),i+m=l.length->TT.lim 109 [x0,.l (rH l),.i .i64 l.length,.i .i64 i,.l xs]=some [.i .i64 0,.l (Ak xs (l.drop i))]
 | 0,i,xs,hi=>by
   have h:¬ ((i:Int) < l.length):=by omega
   have e:l.drop i=[]:=gG (by omega);rw [e];show _=some [GV.i .i64 0,.l xs]
   refine ay rfl rfl ?_;simp [h]
 | m+1,i,xs,hi=>by
   have hlt:i < l.length:=by omega
   have h:((i:Int) < l.length):=by omega
   have hat:(rH l)[i]? = some (.i .u64 l[i].tag):=by unfold rH;rw [iL,bT hlt];rfl
   have hcast:((i+1:Nat):Int)=(i:Int)+1:=by omega
   have hw:=wrap64 (n:=(i:Int)+1) (by omega) (by omega);have hd:l.drop i=l[i]::l.drop (i+1):=iQ hlt;have ih:=aeD l hl x0 m (i+1) (iO (.i .u64 l[i].tag) (.b true) xs) (by omega);rw [hd];show _=some [GV.i .i64 0,.l (Ak (iO (.i .u64 l[i].tag) (.b true) xs) (l.drop (i+1)))]
   rw [hcast] at ih;generalize Ak (iO (.i .u64 l[i].tag) (.b true) xs) (l.drop (i+1))=R at *;generalize l[i]=s at *;generalize rH l=TG at *;refine ay rfl rfl ?_;simp [h,hat,hw,ih]
theorem Zx (t:Int):∀ (l:List bM) (xs:List GV),fQ (.i .u64 t) (Ak xs l)=if hasTag l t=true then some (.b true) else fQ (.i .u64 t) xs
 | [],xs=>rfl
 | s::l,xs=>by
   have ih:=Zx t l (iO (.i .u64 s.tag) (.b true) xs);show fQ (.i .u64 t) (Ak (iO (.i .u64 s.tag) (.b true) xs) l)=_
   rw [ih,xX];unfold hasTag;rw [List.any_cons];by_cases h:t=s.tag
   ·simp [h]
   ·simp [h]
def jR (l:List bM) (fs:List aF):List aF:=fs.filter λf=>hasTag l f.tag
def fK (l:List bM) (fs:List aF):List aF:=fs.filter λf=>!hasTag l f.tag
theorem aeE (l:List bM) (fs:List aF) (hfs:fs.length<=1000000):∀ (m i:Nat) (a b:List aF),i+m=fs.length->a.length+b.length+m<=3000000->TT.lim 110 [.l (aC fs),.l (aC a),.l (aC b),.i .i64 fs.length,.i .i64 i,.l (Ak [] l)]=some [.i .i64 0,.l (aC (a++jR l (fs.drop i))),.l (aC (b++fK l (fs.drop i)))]
 | 0,i,a,b,hi,ha=>by
   have h:¬ ((i:Int) < fs.length):=by omega
   have e:fs.drop i=[]:=gG (by omega);rw [e];have e1:jR l []=[]:=rfl;have e2:fK l []=[]:=rfl;rw [e1,e2,mG,mG];refine ay rfl rfl ?_;simp [h]
 | m+1,i,a,b,hi,ha=>by
   have h:((i:Int) < fs.length):=by omega
   obtain ⟨t,y,n,s,k,g1,g2,g3,g4⟩:=Di (l:=fs) (i:=i) (by omega);have hcast:((i+1:Nat):Int)=(i:Int)+1:=by omega
   have hw:=wrap64 (n:=(i:Int)+1) (by omega) (by omega);have hg:=Zx t l [];have hfa:∀z:List aF,aC (z++[.mk t y n s k])=aC z++[pW t y n s k]:=λz=>by rw [O5];simp only [aC,nJ];rfl
   have hel:(pW t y n s k).fU 5=true:=rfl;have hfe:GV.g [.i .u64 t,.i .i64 y,.i .u64 n,.s s,.l (aC k)]=pW t y n s k:=rfl;have la:=lq a;have lb:=lq b;have ih:=λa b ha=>aeE l fs hfs m (i+1) a b (by omega) ha;simp only [hcast] at ih;rw [g3];have hn0:fQ (.i .u64 t) []=none:=rfl;cases ht:hasTag l t with
   | true=>
     have e1:jR l (.mk t y n s k::fs.drop (i+1))=.mk t y n s k::jR l (fs.drop (i+1)):=by unfold jR;rw [afD (by exact ht)]
     have e2:fK l (.mk t y n s k::fs.drop (i+1))=fK l (fs.drop (i+1)):=by unfold fK;rw [afC (by show ¬ (!hasTag l t)=true;rw [ht];decide)]
     rw [e1,e2];have ih:=ih (a++[.mk t y n s k]) b (by rw [dQ,yM];omega);rw [hfa,List.append_assoc,YW] at ih;rw [ht,aj rfl] at hg;have c1:2 * ((aC a).length+1) * 64<=281474976710656/\(aC a).length+1<=281474976710656:=by omega
     generalize aC (a++.mk t y n s k::jR l (fs.drop (i+1)))=R1 at *;generalize aC (b++fK l (fs.drop (i+1)))=R2 at *;clear hfa la lb e1 e2;generalize Ak [] l=MP at *;generalize aC a=A at *;generalize aC b=B at *;refine ay rfl rfl ?_;simp [h,g2,hg,hfe,hel,c1,hw,ih]
   | false=>
     have e1:jR l (.mk t y n s k::fs.drop (i+1))=jR l (fs.drop (i+1)):=by unfold jR;rw [afC (by show ¬ hasTag l t=true;rw [ht];decide)]
     have e2:fK l (.mk t y n s k::fs.drop (i+1))=.mk t y n s k::fK l (fs.drop (i+1)):=by unfold fK;rw [afD (by show (!hasTag l t)=true;rw [ht];rfl)]
     rw [e1,e2];have ih:=ih a (b++[.mk t y n s k]) (by rw [dQ,yM];omega);rw [hfa,List.append_assoc,YW] at ih;rw [ht,ah (by decide),hn0] at hg;have c1:2 * ((aC b).length+1) * 64<=281474976710656/\(aC b).length+1<=281474976710656:=by omega
     generalize aC (a++jR l (fs.drop (i+1)))=R1 at *;generalize aC (b++.mk t y n s k::fK l (fs.drop (i+1)))=R2 at *;clear hfa la lb e1 e2;generalize Ak [] l=MP at *;generalize aC a=A at *;generalize aC b=B at *;refine ay rfl rfl ?_;simp [h,g2,hg,hfe,hel,c1,hw,ih]
theorem an8 {rec:List UInt8->List aF×Int} {w ahead:Nat} {s:List UInt8} (hs:s.length<=100000000) (hr:∀t:List UInt8,t.length+2<=s.length->bY (rec t).1/\(rec t).1.length<=1000000/\bI (rec t).1<=t.length) (h:(iV rec w ahead s).2.2=0) :
 oN (iV rec w ahead s).1/\qj (iV rec w ahead s).1+1<=(iV rec w ahead s).2.1/\(iV rec w ahead s).2.1<=s.length/\(iV rec w ahead s).1.tag=((au s).1 / 4:Nat):=by
 unfold iV at h ⊢;by_cases e1:(au s).2.2=0;rotate_left
 ·simp only [aj e1] at h;exact absurd h e1
 have v1:=jM e1;simp only [ah (λx=>x e1:¬ (au s).2.2≠0)] at h ⊢;by_cases c1:(au s).1 / 4=0
 ·simp only [aj c1] at h;exact absurd h (by decide)
 simp only [ah c1] at h ⊢;by_cases c2:4294967296 < (au s).1 / 4
 ·simp only [aj c2] at h;exact absurd h (by decide)
 simp only [ah c2] at h ⊢;by_cases c3:3<=(au s).1 % 4
 ·simp only [aj c3] at h;exact absurd h (by decide)
 simp only [ah c3] at h ⊢;by_cases c4:(au s).1 / 4<=ahead
 ·simp only [aj c4] at h;exact absurd h (by decide)
 simp only [ah c4] at h ⊢;by_cases e2:(au (s.drop (au s).2.1)).2.2=0;rotate_left
 ·simp only [aj e2] at h;exact absurd h e2
 have v2:=jM e2;have l1:=v1.len;have p1:=v1.pos;have l2:=v2.len;have p2:=v2.pos;have t1:=v1.lt;have t2:=v2.lt;rw [eU] at l2;simp only [ah (λx=>x e2:¬ (au (s.drop (au s).2.1)).2.2≠0)] at h ⊢;by_cases y0:(au s).1 % 4=0
 ·simp only [aj y0] at h ⊢
  simp only [oN,bY,qj,bI];refine ⟨⟨⟨by omega,by omega,by omega,by omega,by omega,by omega,by simp,by simp⟩,trivial⟩,by omega,by omega,rfl⟩
 simp only [ah y0] at h ⊢;by_cases c:s.length - ((au s).2.1+(au (s.drop (au s).2.1)).2.1) < (au (s.drop (au s).2.1)).1
 ·simp only [aj c] at h;exact absurd h (by decide)
 simp only [ah c] at h ⊢;by_cases y1:(au s).1 % 4=1
 ·simp only [aj y1] at h ⊢
  simp only [oN,bY,qj,bI];refine ⟨⟨⟨by omega,by omega,by omega,by omega,by omega,by omega,by rw [oG,eU];omega,by simp⟩,trivial⟩,by omega,by omega,rfl⟩
 simp only [ah y1] at h ⊢;by_cases c8:8<=w
 ·simp only [aj c8] at h;exact absurd h (by decide)
 simp only [ah c8] at h ⊢;have hl:((s.drop ((au s).2.1+(au (s.drop (au s).2.1)).2.1)).take (au (s.drop (au s).2.1)).1).length=(au (s.drop (au s).2.1)).1:=by rw [oG,eU];omega
 obtain ⟨r1,r2,r3⟩:=hr ((s.drop ((au s).2.1+(au (s.drop (au s).2.1)).2.1)).take (au (s.drop (au s).2.1)).1) (by rw [hl];omega);rw [hl] at r3;generalize (s.drop ((au s).2.1+(au (s.drop (au s).2.1)).2.1)).take (au (s.drop (au s).2.1)).1=T at *;by_cases e3:(rec T).2=0;rotate_left
 ·simp only [aj e3] at h;exact absurd h e3
 simp only [ah (λx=>x e3:¬ (rec T).2≠0)] at h ⊢;simp only [oN,qj];refine ⟨⟨⟨by omega,by omega,by omega,by omega,by omega,by omega,by simp,r2⟩,r1⟩,by omega,by omega,rfl⟩
theorem Xv:∀ (N w ahead:Nat) (s:List UInt8),s.length<=1000000->bY (dK N w ahead s).1/\(dK N w ahead s).1.length<=1000000/\bI (dK N w ahead s).1<=s.length
 | 0,w,ahead,s,_=>by simp only [dK,bY,bI];simp
 | N+1,w,ahead,s,hs=>by
   unfold dK;by_cases h1:s=[]
   ·rw [aj h1];simp only [bY,bI];simp
   rw [ah h1];by_cases h2:(iV (λt=>dK N (w+1) 0 t) w ahead s).2.2=0;rotate_left
   ·rw [aj h2];simp only [bY,bI];simp
   rw [ah (λx=>x h2)];obtain ⟨o1,o2,o3,o4⟩:=an8 (rec:=λt=>dK N (w+1) 0 t) (w:=w) (ahead:=ahead) (s:=s) (by omega) (λt ht=>Xv N (w+1) 0 t (by omega)) h2;have hd:(s.drop (iV (λt=>dK N (w+1) 0 t) w ahead s).2.1).length=s.length - (iV (λt=>dK N (w+1) 0 t) w ahead s).2.1:=eU;obtain ⟨i1,i2,i3⟩:=Xv N w ((au s).1 / 4) (s.drop (iV (λt=>dK N (w+1) 0 t) w ahead s).2.1) (by omega);rw [hd] at i3;split
   ·simp only [bY,bI];simp
   ·simp only [bY,bI]
    have:∀l:List aF,l.length<=bI l:=λl=>by
     induction l with
     | nil=>simp [bI]
     | cons f l ih=>simp only [jg,bI];omega
    have hl:=this (dK N w ((au s).1 / 4) (s.drop (iV (λt=>dK N (w+1) 0 t) w ahead s).2.1)).1;refine ⟨⟨o1,i1⟩, ?_, ?_⟩
    ·simp only [jg];omega
    ·omega
theorem ajd (s:List UInt8):bY (wE s).1/\(wE s).1.length<=1000000/\bI (wE s).1<=65536:=by
 unfold wE;by_cases c:65536 < s.length
 ·rw [aj c];simp only [bY,bI];simp
 ·rw [ah c]
  obtain ⟨h1,h2,h3⟩:=Xv (s.length+1) 0 0 s (by omega);exact ⟨h1,h2,by omega⟩
def aF.typ:aF->Int
 | .mk _ y _ _ _=>y
def aF.num:aF->Int
 | .mk _ _ n _ _=>n
def aF.txt:aF->List UInt8
 | .mk _ _ _ s _=>s
/-- What the known fields make for a message. -/
def pU (l:List bM):aB->List aF->aB×Int
 | b,[]=>(b,0)
 | b,f::r=>match l.find? (λs=>decide (s.tag=f.tag)) with
   | some s=>(match placeOf s.name with
     | some p=>if aN f.typ f.num f.txt p=0 then pU l (setB b f.num f.txt p) r else (bP,aN f.typ f.num f.txt p)
     | none=>(bP,26))
   | none=>(bP,26)
theorem aas (l:List bM) (hl:l.Pairwise (λa b=>a.tag < b.tag)) (hpl:∀s∈l,placeOf s.name≠none) (fs:List aF) (hok:bY fs) (hlen:fs.length<=1000000) (hin:∀f∈fs,hasTag l f.tag=true) (x0 x1:GV):∀ (m i:Nat) (b:aB),i+m=fs.length->jE b []->
 TT.lim 111 ([x0,x1,.l (aC fs),.i .i64 fs.length,.i .i64 i]++(bU b []).cells++[.l (Bc [] l)])=some (if (pU l b (fs.drop i)).2=0 then .i .i64 1::(bU (pU l b (fs.drop i)).1 []).cells else [.i .i64 0,.i .i64 (pU l b (fs.drop i)).2])
 | 0,i,b,hi,hb=>by
   have h:¬ ((i:Int) < fs.length):=by omega
   have e:fs.drop i=[]:=gG (by omega);rw [e];unfold pU;rw [aj rfl];rw [dV];simp only [cu,bK];refine ay rfl rfl ?_;simp [h]
 | m+1,i,b,hi,hb=>by
   have h:((i:Int) < fs.length):=by omega
   obtain ⟨t,y,n,s,k,g1,g2,g3,g4⟩:=Di (l:=fs) (i:=i) (by omega);have hcast:((i+1:Nat):Int)=(i:Int)+1:=by omega
   have hw:=wrap64 (n:=(i:Int)+1) (by omega) (by omega);have hf:=Dj hok _ g4;simp only [oN] at hf;have ht:=hin _ g4;have PD:=adr t l [] hl;have fn:aC []=[]:=by simp only [aC]
   obtain ⟨sp,hsp⟩:∃sp,l.find? (λs=>decide (s.tag=t))=some sp:=by
    unfold hasTag at ht;obtain ⟨sp,h1,h2⟩:=List.any_eq_true.1 ht;cases hq:l.find? (λs=>decide (s.tag=t)) with
    | some x=>exact ⟨x,rfl⟩
    | none=>
      have:=(List.find?_eq_none.1 hq) sp h1;have h3:t=sp.tag:=Bf h2;simp [h3] at this
   have hmem:=List.mem_of_find?_eq_some hsp;rw [hsp] at PD;simp only at PD;obtain ⟨p,hp⟩:∃p,placeOf sp.name=some p:=by
    cases hq:placeOf sp.name with
    | some p=>exact ⟨p,rfl⟩
    | none=>exact absurd hq (hpl sp hmem)
   have hwt:=adn (aC k) b [] (KC hb.d) hb.t (by simp [bI]) t y n s ⟨hf.1.2.2.2.2.1,hf.1.2.2.2.2.2.1⟩ hf.1.2.2.2.2.2.2.1 sp.name;rw [fn] at hwt;unfold MW at hwt;rw [hp] at hwt;simp only at hwt;unfold RS at hwt;rw [g3];unfold pU;have e1:aF.tag (.mk t y n s k)=t:=rfl;have e2:aF.typ (.mk t y n s k)=y:=rfl;have e3:aF.num (.mk t y n s k)=n:=rfl;have e4:aF.txt (.mk t y n s k)=s:=rfl;rw [e1,hsp,e2,e3,e4];simp only [hp];have hfe:GV.g [.i .u64 t,.i .i64 y,.i .u64 n,.s s,.l (aC k)]=pW t y n s k:=rfl;rw [hfe] at hwt;by_cases hc:aN y n s p=0
   ·rw [aj hc] at hwt
    simp only [aj hc];obtain ⟨q1,q2,q3⟩:=QO hb.body hb.d hb.t ⟨hf.1.2.2.2.2.1,hf.1.2.2.2.2.2.1⟩ hf.1.2.2.2.2.2.2.1 hc;have ih:=aas l hl hpl fs hok hlen hin x0 x1 m (i+1) (setB b n s p) (by omega) ⟨q1,q2,q3,by simp only [bY],by simp⟩;rw [hcast] at ih;generalize pU l (setB b n s p) (fs.drop (i+1))=R at *;generalize setB b n s p=B at *;clear q1 q2 q3 hc hsp hmem hp ht hf;generalize Bc [] l=MP at *;generalize sp.name=nm at *;generalize aC fs=G at *;rw [dV] at ih;rw [dV];simp only [cu,bK] at ih ⊢;refine ay rfl rfl ?_;simp [↓jF,h,g2,hfe,PD,jk,hwt,hw,ih]
   ·rw [ah hc] at hwt
    simp only [ah hc];generalize aN y n s p=e at *;clear hsp hmem hp ht hf;generalize Bc [] l=MP at *;generalize sp.name=nm at *;generalize aC fs=G at *;rw [dV];simp only [cu,bK];refine ay rfl rfl ?_;simp [↓jF,h,g2,hfe,PD,jk,hwt,hc]
/-- What is read, or why not. -/
def yc (s:List UInt8) (v:Int):aB×List aF×Int:=
 if v < 1 then (bP,[],16) else if 3 < v then (bP,[],16) else
 if 65536 < s.length then (bP,[],4) else
 if (au s).2.2≠0 then (bP,[],(au s).2.2) else
 if 8 < (au s).1 then (bP,[],15) else
 if jm (au s).1=0 then (bP,[],15) else if v < jm (au s).1 then (bP,[],15) else
 if (wE (s.drop (au s).2.1)).2≠0 then (bP,[],(wE (s.drop (au s).2.1)).2) else
 let l:=aG (au s).1 v
 let fs:=(wE (s.drop (au s).2.1)).1
 let r:=pU l { bP with kind:=(au s).1 } (jR l fs)
 if r.2≠0 then (bP,[],r.2) else
 if fB r.1 (fK l fs) v≠0 then (bP,[],fB r.1 (fK l fs) v) else (r.1,fK l fs,0)
theorem Ru (p:aF->Bool):∀l:List aF,bI (l.filter p)<=bI l
 | []=>by simp [bI]
 | f::l=>by
   have ih:=Ru p l;rw [GK];split
   ·simp only [bI];omega
   ·simp only [bI];omega
theorem split_ok (l:List bM) (hl:l.length<=1000) (fs:List aF) (hlen:fs.length<=1000000) (hsz:bI fs<=1000000):TT.lim 108 [.l (aC fs),.l (rH l)]=some [.l (aC (jR l fs)),.l (aC (fK l fs))]:=by
 have h0:=aeD l hl (.l (aC fs)) l.length 0 [] (by omega);have h1:=aeE l fs hlen fs.length 0 [] [] (by omega) (by simp;omega);have fn:aC []=[]:=by simp only [aC]
 rw [dY] at h0 h1;rw [bK,bK,fn] at h1;simp only [vP] at h0 h1;have c1:=O0 (jR l fs) (iD (Ru _ fs) hsz);have c2:=O0 (fK l fs) (iD (Ru _ fs) hsz);have lt:(rH l).length=l.length:=by unfold rH;rw [nV]
 have lf:=lq fs;generalize aC (jR l fs)=W at *;generalize aC (fK l fs)=O at *;generalize aC fs=G at *;generalize Ak [] l=MP at *;generalize rH l=TG at *;refine aW rfl rfl ?_ rfl;simp [lt,lf,h0,h1,c1,c2]
theorem Uc (l:List bM):∀ (fs:List aF) (b:aB),bY fs->jE b []->jE (pU l b fs).1 []
 | [],b,_,hb=>hb
 | f::fs,b,hf,hb=>by
   simp only [bY] at hf;unfold pU;cases l.find? (λs=>decide (s.tag=f.tag)) with
   | none=>exact MZ
   | some s=>
     simp only;cases placeOf s.name with
     | none=>exact MZ
     | some p=>
       simp only;by_cases hc:aN f.typ f.num f.txt p=0
       ·rw [aj hc]
        have h1:=hf.1;cases f with
        | mk t y n s k=>
          simp only [oN] at h1;obtain ⟨q1,q2,q3⟩:=QO hb.body hb.d hb.t ⟨h1.1.2.2.2.2.1,h1.1.2.2.2.2.2.1⟩ h1.1.2.2.2.2.2.2.1 hc;exact Uc l fs _ hf.2 ⟨q1,q2,q3,by simp only [bY],by simp⟩
       ·rw [ah hc];exact MZ
theorem Yr (k:Int) (h : -9223372036854775808<=k/\k<=9223372036854775807):jE { bP with kind:=k } []:=by
 have z:=MZ;exact ⟨{ z.body with kind:=h },z.d,z.t,z.f8,z.len⟩
theorem KG (p:aF->Bool):∀ {l:List aF},bY l->bY (l.filter p)
 | [],_=>by simp only [YM,bY]
 | f::l,h=>by
   simp only [bY] at h;have ih:=KG p h.2;rw [GK];split
   ·simp only [bY];exact ⟨h.1,ih⟩
   ·exact ih
set_option maxHeartbeats 4000000 in
theorem decode_ok (s:List UInt8) (v:Int) (hs:s.length<=140737488351232):TT.lim 94 [.s s,.i .i64 v]=some [bU (yc s v).1 (aC (yc s v).2.1),.i .i64 (yc s v).2.2]:=by
 have fn:aC []=[]:=by simp only [aC]
 have hz:GV.g [.i .i64 0,.i .u64 0,.i .u64 0,.i .u64 0,.i .u64 0,.i .u64 0,.i .u64 0,.i .u64 0,.i .u64 0,.i .u64 0,.i .u64 0,.i .u64 0,.i .u64 0,.i .u64 0,.i .u64 0,.i .u64 0,.i .i64 0,.b false,.s [],.s [],.s [],.l [],.l [],.l []]=bU bP []:=rfl;unfold yc;by_cases c1:v < 1
 ·rw [aj c1]
  simp only;rw [fn,<- hz];refine aW rfl rfl ?_ rfl;simp [c1]
 rw [ah c1];by_cases c2:3 < v
 ·rw [aj c2]
  simp only;rw [fn,<- hz];refine aW rfl rfl ?_ rfl;simp [c1,c2]
 rw [ah c2];by_cases c3:65536 < s.length
 ·rw [aj c3]
  have c3':(65536:Int) < s.length:=by omega
  simp only;rw [fn,<- hz];refine aW rfl rfl ?_ rfl;simp [c1,c2,c3']
 rw [ah c3];have c3':¬ (65536:Int) < s.length:=by omega
 have kg:=uY s (by omega);by_cases e1:(au s).2.2=0;rotate_left
 ·rw [aj e1]
  simp only;rw [fn,<- hz];generalize (au s).2.2=e at *;refine aW rfl rfl ?_ rfl;simp [c1,c2,c3',kg,e1]
 rw [ah (λx=>x e1)];rw [e1] at kg;have v1:=jM e1;have l1:=v1.len;have t1:=v1.lt;have hdl:(s.drop (au s).2.1).length=s.length - (au s).2.1:=eU;have hwg:=asR (s.drop (au s).2.1) (by omega);obtain ⟨g1,g2,g3⟩:=ajd (s.drop (au s).2.1);clear v1 e1 hdl;generalize wE (s.drop (au s).2.1)=F at *;generalize hT:s.drop (au s).2.1=T at *;generalize (au s).1=n at *;generalize (au s).2.1=j at *;have hsub:(s.take s.length).drop j=T:=by rw [yO];exact hT
 have j0:(j:Int)<=s.length:=by omega
 have f0:=PX 0;have f00:jm 0=0:=rfl;rw [f00] at f0;by_cases c4:8 < n
 ·rw [aj c4]
  have nY:¬ (n:Int)<=8:=by omega
  simp only;rw [fn,<- hz];refine aW rfl rfl ?_ rfl;simp [c1,c2,c3',kg,nY,f0]
 rw [ah c4];have nY:(n:Int)<=8:=by omega
 have wn:=wrap64 (n:=(n:Int)) (by omega) (by omega);have kf:=PX (n:Int);by_cases c5:jm n=0
 ·rw [aj c5]
  rw [c5] at kf;simp only;rw [fn,<- hz];refine aW rfl rfl ?_ rfl;simp [c1,c2,c3',kg,nY,wn,kf]
 rw [ah c5];by_cases c6:v < jm n
 ·rw [aj c6]
  simp only;rw [fn,<- hz];generalize jm n=fk at *;refine aW rfl rfl ?_ rfl;simp [c1,c2,c3',kg,nY,wn,kf,c5,c6]
 rw [ah c6];by_cases e2:F.2=0;rotate_left
 ·rw [aj e2]
  simp only;rw [fn,<- hz];generalize jm n=fk at *;refine aW rfl rfl ?_ rfl;simp [c1,c2,c3',kg,nY,wn,kf,c5,c6,hsub,hT,j0,hwg,e2]
 rw [ah (λx=>x e2)];rw [e2] at hwg;have kn:=Ll n v (by omega) (by omega) (by omega);have kt:=akT n v (by omega) (by omega) (by omega);have k8:=xB n v;have kz:=aar (aG n v) (by omega) (.i .i64 v) (.i .i64 n) (.l (aC F.1)) (aG n v).length 0 [] (by omega);rw [dY] at kz;simp only [vP] at kz;have ks:=split_ok (aG n v) (by omega) F.1 g2 (by omega);have kd:=aas (aG n v) (AY n v).1 (VA n v) (jR (aG n v) F.1) (KG _ g1) (iD (Nq _ _) g2) (λf hf=>(pO.1 hf).2) (.i .i64 v) (.l (aC (fK (aG n v) F.1))) (jR (aG n v) F.1).length 0 { bP with kind:=n } (by omega) (Yr n (by omega));rw [dY] at kd;simp only [vP] at kd;have hdw:=Uc (aG n v) (jR (aG n v) F.1) { bP with kind:=n } (KG _ g1) (Yr n (by omega));have kc:=ac3 (pU (aG n v) { bP with kind:=n } (jR (aG n v) F.1)).1 (fK (aG n v) F.1) v hdw.body hdw.t.few (KG _ g1) (iD (Nq _ _) g2);have hal:(((aG n v).map dN).length:Int)=((aG n v).length:Int):=by rw [nV]
 have hwl:=lq (jR (aG n v) F.1);have hcz:(bU { bP with kind:=(n:Int) } []).cells=[.i .i64 (n:Int),.i .u64 0,.i .u64 0,.i .u64 0,.i .u64 0,.i .u64 0,.i .u64 0,.i .u64 0,.i .u64 0,.i .u64 0,.i .u64 0,.i .u64 0,.i .u64 0,.i .u64 0,.i .u64 0,.i .u64 0,.i .i64 0,.b false,.s [],.s [],.s [],.l [],.l [],.l []]:=rfl;rw [hcz] at kd;simp only [cu,bK] at kd;simp only;clear hdw hcz g1 g2 g3 k8;generalize pU (aG n v) { bP with kind:=(n:Int) } (jR (aG n v) F.1)=R at *;generalize fK (aG n v) F.1=O at *;generalize aC (jR (aG n v) F.1)=W at *;generalize (jR (aG n v) F.1).length=WL at *;generalize aC F.1=FG at *;generalize Bc [] (aG n v)=MP at *;generalize (aG n v).map dN=SP at *;generalize rH (aG n v)=TG at *;generalize ((aG n v).length:Int)=L at *;generalize jm n=fk at *;by_cases e3:R.2=0;rotate_left
 ·rw [ah e3] at kd
  rw [aj e3];simp only;rw [fn,<- hz];generalize aC O=OG at *;clear kc;refine aW rfl rfl ?_ rfl;simp -implicitDefEqProofs (maxSteps:=10000000) [↓jF,c1,c2,c3',kg,nY,wn,kf,c5,c6,hsub,hT,j0,hwg,kn,hal,kz,kt,ks,hwl,kd,e3]
 rw [aj e3] at kd;rw [ah (λx=>x e3)];rw [dV] at kd;by_cases e4:fB R.1 O v=0
 ·rw [ah (λx=>x e4)]
  rw [e4] at kc;simp only;generalize aC O=OG at *;clear e3 e4;refine aW rfl rfl ?_ rfl;simp -implicitDefEqProofs (maxSteps:=10000000) [↓jF,c1,c2,c3',kg,nY,wn,kf,c5,c6,hsub,hT,j0,hwg,kn,hal,kz,kt,ks,hwl,kd,jk,kc]
 ·rw [aj e4]
  simp only;rw [fn,<- hz];generalize aC O=OG at *;generalize fB R.1 O v=ck at *;refine aW rfl rfl ?_ rfl;simp -implicitDefEqProofs (maxSteps:=10000000) [↓jF,c1,c2,c3',kg,nY,wn,kf,c5,c6,hsub,hT,j0,hwg,kn,hal,kz,kt,ks,hwl,kd,jk,kc,e4]
theorem MV (n:Nat) (x:List UInt8) (hn:n < 18446744073709551616):au (aT n++x)=(n,(aT n).length,0):=Gp n x hn
theorem asN (n:Nat):1<=(aT n).length:=zO n
theorem Xw:∀ (N:Nat) (L:List aF) (w ahead:Nat),bY L->qJ L->wL L<=1000000000000->iT w (ahead:Int) L=0->w<=8->(bQ L).length < N->dK N w ahead (bQ L)=(L,0)
 | 0,L,w,ahead,_,_,_,_,_,h=>by omega
 | N+1,[],w,ahead,_,_,_,_,_,_=>by
   unfold dK;rw [aj (by simp only [bQ])]
 | N+1,.mk t y n s k::L,w,ahead,hok,hty,hw,hc,h8,hl=>by
   have hwl:=hw;simp only [wL,wF] at hw;have hkl:=Ih (bI k+1) k (by omega) (by simp only [bY,oN] at hok;exact hok.1.2) (by simp only [qJ,Ee] at hty;exact hty.1.2.2) (by omega);obtain ⟨t1,t2,y1,y2,y3,tk⟩:=Uy (MK hty (.mk t y n s k) (by simp));simp only [bY,oN] at hok;have PK:=MK hty (.mk t y n s k) (by simp);simp only [Ee] at PK;have akj:qJ L:=by simp only [qJ] at hty;exact hty.2
   -- the checks
   unfold iT at hc;by_cases h1:(aF.mk t y n s k).tag=0
   ·rw [aj h1] at hc;exact absurd hc (by decide)
   rw [ah h1] at hc;by_cases h2:4294967296 < (aF.mk t y n s k).tag
   ·rw [aj h2] at hc;exact absurd hc (by decide)
   rw [ah h2] at hc;by_cases h3:(aF.mk t y n s k).tag<=(ahead:Int)
   ·rw [aj h3] at hc;exact absurd hc (by decide)
   rw [ah h3] at hc;by_cases h4:xw w (.mk t y n s k)=0;rotate_left
   ·rw [aj h4] at hc;exact absurd hc h4
   rw [ah (λe=>e h4)] at hc;have h3:¬ t<=(ahead:Int):=h3;have hc:iT w t L=0:=hc;clear h1 h2;have hT:((t.toNat:Nat):Int)=t:=by omega
   have hN:(4 * t+y).toNat=4 * t.toNat+y.toNat:=by omega
   have hv1:∀x,au (aT (4 * t+y).toNat++x)=((4 * t+y).toNat,(aT (4 * t+y).toNat).length,0):=λx=>MV _ x (by omega);have hd4:(4 * t+y).toNat / 4=t.toNat:=by omega
   have hm4:(4 * t+y).toNat % 4=y.toNat:=by omega
   have ih:=Xw N L w t.toNat hok.2 akj (by omega) (by rw [hT];exact hc) h8;simp only [bQ,KH] at hl ⊢;simp only [dQ] at hl;have p1:=asN (4 * t+y).toNat;have hne:¬ (aT (4 * t+y).toNat++(if y=0 then aT n.toNat else if y=1 then aT s.length++s else aT (bQ k).length++bQ k)++bQ L=[]):=by
    intro e;have:=tH List.length e;simp only [dQ,uF] at this;omega
   unfold dK;rw [ah hne]
   -- one field
   have one:iV (λt=>dK N (w+1) 0 t) w ahead (aT (4 * t+y).toNat++(if y=0 then aT n.toNat else if y=1 then aT s.length++s else aT (bQ k).length++bQ k)++bQ L)=(.mk t y n s k,(aT (4 * t+y).toNat).length+(if y=0 then aT n.toNat else if y=1 then aT s.length++s else aT (bQ k).length++bQ k).length,0):=by
    unfold iV;rw [List.append_assoc,hv1];simp only [ne_eq,not_true_eq_false,if_false,hd4,hm4,rM];rw [ah (by omega),ah (by omega),ah (by omega),ah (by omega)];rcases y3 with hy | hy | hy
    ·subst hy
     have e:=PK.2.1;obtain ⟨e1,e2⟩:s=[]/\k=[]:=by
      rcases e with e | e | e
      ·exact e.2
      ·exact absurd e.1 (by decide)
      ·exact absurd e.1 (by decide)
     subst e1;subst e2;simp only [if_true];rw [MV _ _ (by omega)];simp only [not_true_eq_false,if_false,Int.toNat_zero,if_true];rw [hT,show ((n.toNat:Nat):Int)=n by omega]
    ·subst hy
     have e:=PK.2.1;obtain ⟨e1,e2⟩:n=0/\k=[]:=by
      rcases e with e | e | e
      ·exact absurd e.1 (by decide)
      ·exact e.2
      ·exact absurd e.1 (by decide)
     subst e1;subst e2;simp only [show ((1:Int)=0)=False from by simp,show ((1:Int)=1)=True from by simp,if_false,if_true];rw [List.append_assoc,MV _ _ (by omega)];simp only [not_true_eq_false,if_false];rw [ah (show ¬ Int.toNat 1=0 by decide),ah (by simp only [dQ];omega),aj (show Int.toNat 1=1 by decide)];rw [<- pK,rM,rM,SH];rw [hT];simp only [dQ,iZ]
    ·subst hy
     have e:=PK.2.1;obtain ⟨e1,e2⟩:n=0/\s=[]:=by
      rcases e with e | e | e
      ·exact absurd e.1 (by decide)
      ·exact absurd e.1 (by decide)
      ·exact e.2
     subst e1;subst e2;have h5:¬ 8<=w/\iT (w+1) 0 k=0:=by
      unfold xw at h4;rw [ah (by decide),ah (by decide),aj rfl,aj ⟨rfl,rfl⟩] at h4;by_cases c:8<=w
      ·rw [aj c] at h4;exact absurd h4 (by decide)
      ·rw [ah c] at h4;exact ⟨c,h4⟩
     have ik:=Xw N k (w+1) 0 hok.1.2 tk (by omega) h5.2 (by omega) (by
      simp only [ah (show ¬ (2:Int)=0 by decide),ah (show ¬ (2:Int)=1 by decide),dQ] at hl;omega)
     simp only [show ((2:Int)=0)=False from by simp,show ((2:Int)=1)=False from by simp,if_false];rw [List.append_assoc,MV _ _ (by omega)];simp only [not_true_eq_false,if_false];rw [ah (show ¬ Int.toNat 2=0 by decide),ah (by simp only [dQ];omega),ah (show ¬ Int.toNat 2=1 by decide),ah h5.1];rw [<- pK,rM,rM,SH];rw [ik];simp only [not_true_eq_false,if_false];rw [hT];simp only [dQ,iZ]
   rw [one];simp only [ne_eq,not_true_eq_false,if_false];rw [List.append_assoc,hv1];simp only [hd4];have hdrop:∀A B C:List UInt8,(A++(B++C)).drop (A.length+B.length)=C:=λA B C=>by rw [<- pK,rM,rM]
   rw [hdrop,ih (by omega)];simp
theorem aje {L:List aF} (h:RY L) (hl:(bQ L).length<=65536):wE (bQ L)=(L,0):=by
 unfold wE;rw [ah (by omega)];exact Xw ((bQ L).length+1) L 0 0 h.ok (Ou (bI L+1) L (by omega) h.ok 0 0 h.chk (by omega)) h.w h.chk (by omega) (by omega)
theorem ahQ {k w:Int} (hk:1<=k/\k<=8) (h1:1<=w) (h3:w<=3) (hf:jm k<=w) {L:List aF} (h:RY L) (hl:(aT k.toNat++bQ L).length<=65536) :
 yc (aT k.toNat++bQ L) w=(if (pU (aG k w) { bP with kind:=k } (jR (aG k w) L)).2≠0 then (bP,[],(pU (aG k w) { bP with kind:=k } (jR (aG k w) L)).2) else
  if fB (pU (aG k w) { bP with kind:=k } (jR (aG k w) L)).1 (fK (aG k w) L) w≠0 then (bP,[],fB (pU (aG k w) { bP with kind:=k } (jR (aG k w) L)).1 (fK (aG k w) L) w) else ((pU (aG k w) { bP with kind:=k } (jR (aG k w) L)).1,fK (aG k w) L,0)):=by
 have hlf:(bQ L).length<=65536:=by rw [dQ] at hl;omega
 have hv:=MV k.toNat (bQ L) (by omega);have hkk:((k.toNat:Nat):Int)=k:=by omega
 have hf0:jm k≠0:=by
  unfold jm;obtain ⟨a,b⟩:=hk;rcases (show k=1\/k=2\/k=3\/k=4\/k=5\/k=6\/k=7\/k=8 by omega) with rfl | rfl | rfl | rfl | rfl | rfl | rfl | rfl<;>decide
 have hg:=aje h hlf;unfold yc;rw [ah (by omega),ah (by omega),ah (by omega),hv];simp only [ne_eq,not_true_eq_false,if_false,hkk,rM];rw [ah (by omega),ah hf0,ah (by omega),hg];simp only [not_true_eq_false,if_false]
/-- The parts for a message that some names tell, put into another one. -/
def fM (b c:aB):List bM->aB
 | []=>c
 | s::l=>match placeOf s.name with
   | some p=>if (aK b p).1=0/\(aK b p).2=[] then fM b c l else fM b (wJ b c p) l
   | none=>fM b c l
theorem O4 (s:bM):∀l:List bM,l.Pairwise (λa b=>a.tag < b.tag)->s∈l->l.find? (λx=>decide (x.tag=s.tag))=some s
 | [],_,h=>by cases h
 | a::l,hl,h=>by
   rw [wV] at hl;rw [List.find?_cons];rcases cO.1 h with e | h
   ·subst e;simp
   ·have:=hl.1 s h
    rw [yg (show ¬ a.tag=s.tag by omega)];simp only;exact O4 s l hl.2 h
theorem Ub {b:aB} {fl:List aF} {u:Int} (hm:tu b fl) (hc:fB b fl u=0) {l:List bM} (hl:l.Pairwise (λa b=>a.tag < b.tag)):∀ (ls:List bM) (c:aB),(∀s∈ls,s∈l)->pU l c (gQ b ls)=(fM b c ls,0)
 | [],c,_=>rfl
 | s::ls,c,hs=>by
   have ih:=λc=>Ub hm hc hl ls c (λx hx=>hs x (by simp [hx]));rw [zq];unfold fM tX;cases hp:placeOf s.name with
   | none=>
     simp only [bK];exact ih c
   | some p=>
     simp only;by_cases hz:(aK b p).1=0/\(aK b p).2=[]
     ·rw [aj hz,aj hz]
      simp only [bK];exact ih c
     ·rw [ah hz,ah hz]
      simp only [cu,bK];have hmay:=agx hc hp hz;obtain ⟨g1, -, -,g4⟩:=apy hm.msg hm.short p hmay hz;have hfind:=O4 s l hl (hs s (by simp));unfold pU;have e1:aF.tag (.mk s.tag (aV p) (aK b p).1 (aK b p).2 [])=s.tag:=rfl;have e2:aF.typ (.mk s.tag (aV p) (aK b p).1 (aK b p).2 [])=aV p:=rfl;have e3:aF.num (.mk s.tag (aV p) (aK b p).1 (aK b p).2 [])=(aK b p).1:=rfl;have e4:aF.txt (.mk s.tag (aV p) (aK b p).1 (aK b p).2 [])=(aK b p).2:=rfl;rw [e1,hfind,e2,e3,e4];simp only [hp];rw [aj g1,g4];exact ih _
theorem Fv (k:Int) {w u:Int} (h:w<=u):aG k w=(aG k u).filter (λs=>decide (s.from_<=w)):=by
 unfold aG;rw [List.filter_filter];congr 1;funext s;by_cases h1:s.from_<=w
 ·have:s.from_<=u:=by omega
  simp [h1,this]
 ·simp [h1]
theorem abT {l:List bM} (hl:l.Pairwise (λa b=>a.tag < b.tag)) (q:bM->Bool) {s:bM} (hs:s∈l):hasTag (l.filter q) s.tag=q s:=by
 cases hq:q s with
 | true=>
   unfold hasTag;exact List.any_eq_true.2 ⟨s,pO.2 ⟨hs,hq⟩,by simp⟩
 | false=>
   cases ht:hasTag (l.filter q) s.tag with
   | false=>rfl
   | true=>
     unfold hasTag at ht;obtain ⟨x,hx,e⟩:=List.any_eq_true.1 ht;have e:s.tag=x.tag:=Bf e;obtain ⟨hx1,hx2⟩:=pO.1 hx;have f1:=O4 s l hl hs;have f2:=O4 x l hl hx1;rw [<- e,f1] at f2;injection f2 with f2
     rw [<- f2,hq] at hx2;cases hx2
theorem Vt (b:aB) (P:Int->Bool) (q:bM->Bool):∀ls:List bM,(∀s∈ls,P s.tag=q s)->(gQ b ls).filter (λf=>P f.tag)=gQ b (ls.filter q)
 | [],_=>rfl
 | s::ls,h=>by
   have ih:=Vt b P q ls (λx hx=>h x (by simp [hx]));have hs:=h s (by simp);rw [zq,Sv,ih,GK];cases hk:tX b s with
   | none=>
     have hk0:∀z,gQ b (s::z)=gQ b z:=λz=>by rw [zq,hk];rfl
     cases hq:q s with
     | true=>simp [hk0]
     | false=>simp
   | some f=>
     obtain ⟨p, -,rfl, -⟩:=Lj hk;have ht:P (aF.mk s.tag (aV p) (aK b p).1 (aK b p).2 []).tag=q s:=hs;cases hq:q s with
     | true=>
       rw [hq] at ht;simp only [GK,ht,if_true,YM];rw [zq,hk]
     | false=>
       rw [hq] at ht;simp [GK,ht]
theorem aeh {b:aB} {fl:List aF} {u w:Int} (hc:fB b fl u=0) (h:w<=u):∀f∈fl,hasTag (aG b.kind w) f.tag=false:=λf hf=>by
 have h1:=(Aq hc).2.2.2.2 f hf;cases ht:hasTag (aG b.kind w) f.tag with
 | false=>rfl
 | true=>
   rw [Fv b.kind h] at ht;unfold hasTag at ht h1;obtain ⟨x,hx,e⟩:=List.any_eq_true.1 ht;have:(aG b.kind u).any (λs=>decide (f.tag=s.tag))=true:=List.any_eq_true.2 ⟨x,(pO.1 hx).1,e⟩;rw [this] at h1;exact h1
theorem afu {b:aB} {fl:List aF} {u w:Int} (hc:fB b fl u=0) (h:w<=u):jR (aG b.kind w) (gB b fl u)=gQ b (aG b.kind w):=by
 obtain ⟨mp,ms⟩:=Ba (Cm hc);have hp:=mp.filter (λf=>hasTag (aG b.kind w) f.tag);rw [Sv] at hp;have e1:fl.filter (λf=>hasTag (aG b.kind w) f.tag)=[]:=afE.2 λf hf=>by rw [aeh hc h f hf];decide
 have e2:=Vt b (hasTag (aG b.kind w)) (λs=>decide (s.from_<=w)) (aG b.kind u) (λs hs=>by
  rw [Fv b.kind h];exact abT (AY b.kind u).1 _ hs)
 rw [<- Fv b.kind h] at e2;rw [e1,e2,mG] at hp;refine Ji _ _ hp ?_ (P5 b _ (AY b.kind w).1);exact (ms.sublist Np).imp λh=>by omega
/-- The known fields, and all others, are the whole list again. -/
theorem adh {b:aB} {fl:List aF} {u w:Int} (hc:fB b fl u=0) (h:w<=u):qG (gQ b (aG b.kind w)) (fK (aG b.kind w) (gB b fl u))=gB b fl u:=by
 obtain ⟨mp,ms⟩:=Ba (Cm hc);have hw:=afu hc h;have hp:(gQ b (aG b.kind w)++fK (aG b.kind w) (gB b fl u)).Perm (gB b fl u):=by
  rw [<- hw];exact List.filter_append_perm _ _
 have nd:((gB b fl u).map aF.tag).Nodup:=by
  unfold List.Nodup;rw [List.pairwise_map];exact ms.imp λh e=>by omega
 have hn:=((hp.map aF.tag).nodup_iff).2 nd;obtain ⟨m1,m2⟩:=Ba hn;exact Ji _ _ (m1.trans hp) (m2.imp λh=>by omega) ms
theorem adX (b c:aB) (p:Pl):aZ (wJ b c p) b p:=by
 cases p with
 | num k=>rcases k with _ | _ | _ | _ | _ | _ | _ | _ | _ | _ | _ | _ | _ | _ | k<;>rfl
 | _=>rfl
theorem Xp (b c d:aB) (p q:Pl) (hp:iw p) (hq:iw q) (hne:q≠p):aZ (wJ b c p) d q↔aZ c d q:=by
 cases p with
 | num k=>
   cases q with
   | num j=>
     show fE (wJ b c (.num k)) j=fE d j↔fE c j=fE d j
     rw [anB b c j k hp hq (λe=>hne (by rw [e]))]
   | _=>unfold wJ;split<;>rename_i hk<;>cases hk<;>(split<;>exact zZ)
 | _=>
   cases q with
   | num j=>exact zZ
   | _=>first | exact zZ | exact absurd rfl hne
theorem val_zero {b:aB} (q:Pl) (hm:qF b q=0) (h:(aK b q).1=0/\(aK b q).2=[]):dw b q=true:=by
 have kn:∀d:List dA,iJ d≠[]:=λd e=>by
  have:=tH List.length e;unfold iJ at this;have h2:=zO d.length;unfold gU at h2;simp only [dQ,uF] at this;omega
 cases q with
 | rem=>
   simp only [aK] at h;simp only [dw,decide_eq_true_iff];have:=h.1;unfold zz at this;split at this<;>omega
 | allow=>
   simp only [aK] at h;simp only [dw];cases ha:b.allowed with
   | false=>rfl
   | true=>rw [ha] at h;simp at h
 | name=>simp only [aK] at h;simp only [dw,decide_eq_true_iff];exact h.2
 | region=>simp only [aK] at h;simp only [dw,decide_eq_true_iff];exact h.2
 | note=>simp only [aK] at h;simp only [dw,decide_eq_true_iff];exact h.2
 | d=>
   simp only [aK] at h;simp only [dw,decide_eq_true_iff];by_cases c:b.d=[]
   ·exact c
   ·rw [ah c] at h;exact absurd h.2 (kn _)
 | t=>
   simp only [aK] at h;simp only [qF] at hm;simp only [dw,decide_eq_true_iff];by_cases c:b.t=[]
   ·exact c
   ·rw [ah c] at h
    have hk:zD b.t=(nR b.t,0):=by unfold zD;rw [ah (λx=>x hm)]
    rw [hk] at h;have:=tH List.length h.2;unfold nR at this;have h2:=zO b.t.length;unfold gU at h2;simp only [dQ,uF] at this;omega
 | num k=>simp only [aK] at h;simp only [dw,decide_eq_true_iff];exact h.1
/-- A part that some name tells is put, where it is something, or was nothing. -/
theorem QE {b:aB} {q:Pl} (hq:iw q) (hmay:qF b q=0):∀ (ls:List bM) (c:aB),(∃s∈ls,placeOf s.name=some q)->(dw b q=true->aZ c b q)->aZ (fM b c ls) b q
 | [],c,h,_=>by obtain ⟨s,hs, -⟩:=h;cases hs
 | s::ls,c,h,hc=>by
   have keep:∀ (ls:List bM) (c:aB),aZ c b q->aZ (fM b c ls) b q:=λls=>by
    induction ls with
    | nil=>exact λc h=>h
    | cons s ls ih=>
      intro c h;unfold fM;cases hp:placeOf s.name with
      | none=>exact ih c h
      | some p=>
        simp only;split
        ·exact ih c h
        ·refine ih _ ?_
         by_cases e:q=p
         ·rw [e];exact adX b c p
         ·exact (Xp b c b p q (vC s.name p hp).2.1 hq e).2 h
   unfold fM;cases hp:placeOf s.name with
   | none=>
     refine QE hq hmay ls c ?_ hc;obtain ⟨x,hx,e⟩:=h;rcases cO.1 hx with rfl | hx
     ·rw [hp] at e;cases e
     ·exact ⟨x,hx,e⟩
   | some p=>
     simp only;by_cases e:q=p
     ·subst e
      split
      ·rename_i hz
       exact keep ls c (hc (val_zero q hmay hz))
      ·exact keep ls _ (adX b c q)
     ·have h':∃s∈ls,placeOf s.name=some q:=by
       obtain ⟨x,hx,ex⟩:=h;rcases cO.1 hx with rfl | hx
       ·rw [hp] at ex;injection ex with ex;exact absurd ex.symm e
       ·exact ⟨x,hx,ex⟩
      split
      ·exact QE hq hmay ls c h' hc
      ·exact QE hq hmay ls _ h' λhn=>(Xp b c b p q (vC s.name p hp).2.1 hq e).2 (hc hn)
/-- A part that no name tells stays. -/
theorem adV {b d:aB} {q:Pl} (hq:iw q):∀ (ls:List bM) (c:aB),(∀s∈ls,placeOf s.name≠some q)->(aZ (fM b c ls) d q↔aZ c d q)
 | [],c,_=>zZ
 | s::ls,c,h=>by
   have ih:=λc=>adV (b:=b) (d:=d) hq ls c (λx hx=>h x (by simp [hx]));unfold fM;cases hp:placeOf s.name with
   | none=>exact ih c
   | some p=>
     have e:q≠p:=λe=>h s (by simp) (by rw [hp,e]);simp only;split
     ·exact ih c
     ·exact (ih _).trans (Xp b c d p q (vC s.name p hp).2.1 hq e)
theorem zF (b:aB):∀ (ls:List bM) (c:aB),(fM b c ls).kind=c.kind
 | [],c=>rfl
 | s::ls,c=>by
   unfold fM;cases placeOf s.name with
   | none=>exact zF b ls c
   | some p=>
     simp only;split
     ·exact zF b ls c
     ·rw [zF b ls,anA]
theorem VX (b:aB):∀ (l:List bM),(∀s∈l,sH b s.name=0)->mZ b l=0
 | [],_=>rfl
 | x::l,h=>by
   unfold mZ;rw [aj (h x (by simp))];exact VX b l λs hs=>h s (by simp [hs])
theorem WI {b c:aB} {q:Pl} (h:aZ b c q):qF b q=qF c q:=by
 cases q<;>simp only [aZ] at h<;>simp only [qF,h]
theorem Wh {b:aB} {k:Int} {q:Pl} (h:dw b q=true):aZ { bP with kind:=k } b q:=by
 cases q with
 | num j=>
   simp only [dw,decide_eq_true_iff] at h;show fE { bP with kind:=k } j=fE b j
   rw [h];unfold fE bP;split<;>rfl
 | allow=>simp only [dw,wQ] at h;show false=b.allowed;rw [h]
 | rem=>simp only [dw,decide_eq_true_iff] at h;show (0:Int)=b.remaining;rw [h]
 | name=>simp only [dw,decide_eq_true_iff] at h;show ([]:List UInt8)=b.name;rw [h]
 | region=>simp only [dw,decide_eq_true_iff] at h;show ([]:List UInt8)=b.region;rw [h]
 | note=>simp only [dw,decide_eq_true_iff] at h;show ([]:List UInt8)=b.note;rw [h]
 | d=>simp only [dw,decide_eq_true_iff] at h;show ([]:List dA)=b.d;rw [h]
 | t=>simp only [dw,decide_eq_true_iff] at h;show ([]:List Row)=b.t;rw [h]
theorem as9 {b:aB} {k:Int} {q:Pl} (h:aZ b { bP with kind:=k } q):dw b q=true:=by
 cases q with
 | num j=>
   have h:fE b j=fE { bP with kind:=k } j:=h;simp only [dw,decide_eq_true_iff];rw [h];unfold fE bP;split<;>rfl
 | allow=>have h:b.allowed=false:=h;simp [dw,h]
 | rem=>have h:b.remaining=0:=h;simp [dw,h]
 | name=>have h:b.name=[]:=h;simp [dw,h]
 | region=>have h:b.region=[]:=h;simp [dw,h]
 | note=>have h:b.note=[]:=h;simp [dw,h]
 | d=>have h:b.d=[]:=h;simp [dw,h]
 | t=>have h:b.t=[]:=h;simp [dw,h]
theorem adK (b:aB) (q:Pl):aZ b b q:=by cases q<;>simp [aZ]
/-- What is read at a version, part by part: a known one is as it was, all others are nothing. -/
theorem FZ {b:aB} {fl:List aF} {u w:Int} (hc:fB b fl u=0) (h:w<=u):(∀s∈aG b.kind w,∀q,placeOf s.name=some q->aZ (fM b { bP with kind:=b.kind } (aG b.kind w)) b q/\qF b q=0)/\
 (∀n q,placeOf n=some q->jG (aG b.kind w) n=false->dw (fM b { bP with kind:=b.kind } (aG b.kind w)) q=true):=by
 have hmay:∀s∈aG b.kind w,sH b s.name=0:=λs hs=>by
  have hc':=hc;unfold fB at hc';split at hc'; · cases hc'
  split at hc'; · cases hc'
  split at hc'; · cases hc'
  split at hc'; · cases hc'
  split at hc'
  ·rename_i hm;exact absurd hc' hm
  rename_i hm
  have hm:mZ b (aG b.kind u)=0:=by simpa using hm
  rw [Fv b.kind h] at hs;exact Qm b _ hm s (pO.1 hs).1
 refine ⟨λs hs q hq=>?_,λn q hq hn=>?_⟩
 ·have hm:qF b q=0:=by
   have:=hmay s hs;unfold sH at this;rw [hq] at this;exact this
  exact ⟨QE (vC s.name q hq).2.1 hm _ _ ⟨s,hs,hq⟩ λhn=>Wh hn,hm⟩
 ·refine as9 (k:=b.kind) ((adV (vC n q hq).2.1 (aG b.kind w) _ λs hs e=>?_).2 (adK _ q))
  have:n=s.name:=Xh hq e;unfold jG at hn;have h3:(aG b.kind w).any (λs=>decide (s.name=n))=true:=List.any_eq_true.2 ⟨s,hs,by simp [this]⟩;rw [h3] at hn;cases hn
theorem akO {k w:Int} (h1:1<=w) (hf:jm k<=w):(k=1->(∃s∈aG k w,placeOf s.name=some (.num 1))/\∃s∈aG k w,placeOf s.name=some (.num 2))/\(k=2->∃s∈aG k w,placeOf s.name=some (.num 3))/\(k=3->∃s∈aG k w,placeOf s.name=some .d)/\(k=5->∃s∈aG k w,placeOf s.name=some (.num 9))/\(k=6->(∃s∈aG k w,placeOf s.name=some (.num 10))/\∃s∈aG k w,placeOf s.name=some (.num 9)):=by
 have mem:∀s:bM,s∈mF k->s.from_<=w->s∈aG k w:=λs hs hw=>pO.2 ⟨hs,by simpa using hw⟩;refine ⟨?_, ?_, ?_, ?_, ?_⟩
 ·rintro rfl
  exact ⟨⟨⟨1,0,1,[109,105,110]⟩,mem _ (by simp [mF,sp1,sp2,rE,rF,rG]) h1,rfl⟩,⟨⟨2,0,1,[109,97,120]⟩,mem _ (by simp [mF,sp1,sp2,rE,rF,rG]) h1,rfl⟩⟩
 ·rintro rfl
  exact ⟨⟨1,0,1,[99,104,111,115,101,110]⟩,mem _ (by simp [mF,sp1,sp2,rE,rF,rG]) h1,rfl⟩
 ·rintro rfl
  exact ⟨⟨2,4,1,[100,101,115,99,114]⟩,mem _ (by simp [mF,sp1,sp2,rE,rF,rG]) h1,rfl⟩
 ·rintro rfl
  exact ⟨⟨1,0,1,[101,112,111,99,104]⟩,mem _ (by simp [mF,sp1,sp2,rE,rF,rG]) h1,rfl⟩
 ·rintro rfl
  have h2:(2:Int)<=w:=hf;exact ⟨⟨⟨1,0,2,[98,97,115,101]⟩,mem _ (by simp [mF,sp1,sp2,rE,rF,rG]) h2,rfl⟩,⟨⟨2,0,2,[101,112,111,99,104]⟩,mem _ (by simp [mF,sp1,sp2,rE,rF,rG]) h2,rfl⟩⟩
theorem ZA {b:aB} {B:aB} {w:Int} (hk:B.kind=b.kind) (h1:1<=w) (hf:jm b.kind<=w) (hp:∀s∈aG b.kind w,∀q,placeOf s.name=some q->aZ B b q):tC B=tC b:=by
 obtain ⟨f1,f2,f3,f5,f6⟩:=akO (k:=b.kind) h1 hf;have get:∀q,(∃s∈aG b.kind w,placeOf s.name=some q)->aZ B b q:=λq hq=>by
  obtain ⟨s,hs,e⟩:=hq;exact hp s hs q e
 unfold tC;rw [hk];by_cases c1:b.kind=1
 ·have a1:B.min=b.min:=get _ (f1 c1).1
  have a2:B.max=b.max:=get _ (f1 c1).2;rw [aj c1,aj c1,a1,a2]
 rw [ah c1,ah c1];by_cases c2:b.kind=2
 ·have a1:B.chosen=b.chosen:=get _ (f2 c2)
  rw [aj c2,aj c2,a1]
 rw [ah c2,ah c2];by_cases c3:b.kind=3
 ·have a1:B.d=b.d:=get _ (f3 c3)
  rw [aj c3,aj c3,a1]
 rw [ah c3,ah c3];by_cases c5:b.kind=5
 ·have a1:B.epoch=b.epoch:=get _ (f5 c5)
  rw [aj c5,aj c5,a1]
 rw [ah c5,ah c5];by_cases c6:b.kind=6
 ·have a1:B.base=b.base:=get _ (f6 c6).1
  have a2:B.epoch=b.epoch:=get _ (f6 c6).2;rw [aj c6,aj c6,a1,a2]
 rw [ah c6,ah c6]
theorem aof {b:aB} {fl:List aF} {u w:Int} (hc:fB b fl u=0) (h1:1<=w) (h:w<=u) (hf:jm b.kind<=w):tC (fM b { bP with kind:=b.kind } (aG b.kind w))=tC b:=
 ZA (zF b _ _) h1 hf λs hs q e=>((FZ hc h).1 s hs q e).1
/-- What is read at an elder version may be. -/
theorem ad9 {b:aB} {fl:List aF} {u w:Int} (hc:fB b fl u=0) (h1:1<=w) (h:w<=u) (hf:jm b.kind<=w):fB (fM b { bP with kind:=b.kind } (aG b.kind w)) (fK (aG b.kind w) (gB b fl u)) w=0:=by
 have hk:(fM b { bP with kind:=b.kind } (aG b.kind w)).kind=b.kind:=zF b _ _;obtain ⟨hp1,hp2⟩:=FZ hc h;have hb:=aof hc h1 h hf;obtain ⟨u1,u3,Eh,hfl,hno⟩:=Aq hc;obtain ⟨mp,ms⟩:=Ba (Cm hc);have hbd:tC b=0:=by
  have hc':=hc;unfold fB at hc';rw [ah (by omega),ah (by omega),ah Eh] at hc';by_cases h4:dR.all (λn=>jG (aG b.kind u) n || mg b n)=false
  ·rw [aj h4] at hc';exact absurd hc' (by decide)
  rw [ah h4] at hc';by_cases h5:mZ b (aG b.kind u)≠0
  ·rw [aj h5] at hc';exact absurd hc' h5
  rw [ah h5] at hc';by_cases h6:tC b=0
  ·exact h6
  ·rw [aj h6] at hc';exact absurd hc' h6
 rw [hbd] at hb;have hne:aG b.kind w≠[]:=by
  have h0:=mt (P6 b.kind u u1 u3).2 Eh;exact mt (P6 b.kind w h1 (by omega)).1 (by omega)
 have hml:mZ (fM b { bP with kind:=b.kind } (aG b.kind w)) (aG b.kind w)=0:=VX _ _ λs hs=>by
  unfold sH;cases hq:placeOf s.name with
  | none=>rfl
  | some q=>
    obtain ⟨a1,a2⟩:=hp1 s hs q hq;simp only;rw [WI a1,a2]
 have hall:dR.all (λn=>jG (aG b.kind w) n || mg (fM b { bP with kind:=b.kind } (aG b.kind w)) n)=true:=List.all_eq_true.2 λn hn=>by
  cases hx:jG (aG b.kind w) n with
  | true=>rfl
  | false=>
    unfold mg;cases hq:placeOf n with
    | none=>exact absurd hq (LC n hn)
    | some q=>simp only [vO];exact hp2 n q hq hx
 have hrest:F5 (aG b.kind w) (fK (aG b.kind w) (gB b fl u))=0:=by
  have hco:iT 0 0 (fK (aG b.kind w) (gB b fl u))=0:=Ot _ 0 0 (λf hf=>by
   have hf:=(pO.1 hf).1;rcases nX.1 (mp.mem_iff.1 hf) with hf | hf
   ·exact (EU _ 0 0 (Vz b b.kind u)).1 f hf
   ·exact (EU _ 0 0 hfl).1 f hf) (ms.sublist Np)
  unfold F5;rw [ah (λx=>x hco),ah];intro e;obtain ⟨f,hf,ht⟩:=List.any_eq_true.1 e;have:=(pO.1 hf).2;rw [ht] at this;cases this
 generalize fM b { bP with kind:=b.kind } (aG b.kind w)=B at *;unfold fB;rw [hk,ah (by omega),ah (by omega),ah hne,hall,ah (by decide),ah (λx=>x hml),ah (λx=>x hb)];exact hrest
theorem Xy {b:aB} {fl:List aF} {u w:Int} (hm:tu b fl) (hc:fB b fl u=0) (h1:1<=w) (h:w<=u) (hf:jm b.kind<=w) (hl:(bytesV b fl u).length<=65536):yc (bytesV b fl u) w=(fM b { bP with kind:=b.kind } (aG b.kind w),fK (aG b.kind w) (gB b fl u),0):=by
 obtain ⟨u1,u3,Eh, -, -⟩:=Aq hc;have hr:=ad9 hc h1 h hf;unfold bytesV at hl ⊢;rw [ahQ (acu Eh) h1 (by omega) hf (Td hm hc) hl,afu hc h,Ub hm hc (AY b.kind w).1 (aG b.kind w) _ (λs hs=>hs)];simp only [ne_eq,not_true_eq_false,if_false];rw [ah (λx=>x hr)]
theorem adL {b c:aB} {q:Pl} (h:aZ b c q):aK b q=aK c q:=by
 cases q<;>simp only [aZ] at h<;>simp only [aK,h]
theorem Vw {B b:aB} {l:List bM} (hp:∀s∈l,∀q,placeOf s.name=some q->aZ B b q):gQ B l=gQ b l:=by
 suffices h:∀ls:List bM,(∀s∈ls,s∈l)->gQ B ls=gQ b ls from h l λ_ h=>h
 intro ls;induction ls with
 | nil=>exact λ_=>rfl
 | cons s ls ih=>
   intro hs;rw [zq,zq,ih (λx hx=>hs x (by simp [hx]))];have:tX B s=tX b s:=by
    unfold tX;cases hq:placeOf s.name with
    | none=>rfl
    | some q=>simp only;rw [adL (hp s (hs s (by simp)) q hq)]
   rw [this]
theorem aoh {b:aB} {fl:List aF} {u w:Int} (hc:fB b fl u=0) (h:w<=u):gB (fM b { bP with kind:=b.kind } (aG b.kind w)) (fK (aG b.kind w) (gB b fl u)) w=gB b fl u:=by
 have hk:(fM b { bP with kind:=b.kind } (aG b.kind w)).kind=b.kind:=zF b _ _;have hkv:=Vw (λs hs q e=>((FZ hc h).1 s hs q e).1);have e:gB (fM b { bP with kind:=b.kind } (aG b.kind w)) (fK (aG b.kind w) (gB b fl u)) w=qG (gQ (fM b { bP with kind:=b.kind } (aG b.kind w)) (aG (fM b { bP with kind:=b.kind } (aG b.kind w)).kind w)) (fK (aG b.kind w) (gB b fl u)):=rfl;rw [e,hk,hkv,adh hc h]
theorem aog {b:aB} {fl:List aF} {u w:Int} (hc:fB b fl u=0) (h1:1<=w) (h:w<=u) (hf:jm b.kind<=w):kN (fM b { bP with kind:=b.kind } (aG b.kind w)) (fK (aG b.kind w) (gB b fl u)) w=kN b fl u:=by
 have hk:(fM b { bP with kind:=b.kind } (aG b.kind w)).kind=b.kind:=zF b _ _;have hb:bytesV (fM b { bP with kind:=b.kind } (aG b.kind w)) (fK (aG b.kind w) (gB b fl u)) w=bytesV b fl u:=by
  unfold bytesV;rw [hk,aoh hc h]
 unfold kN;rw [ad9 hc h1 h hf,hc,hb]
/-- Read at its own version a message is as it was. -/
theorem aea {b:aB} {fl:List aF} {u:Int} (hc:fB b fl u=0):fM b { bP with kind:=b.kind } (aG b.kind u)=b/\fK (aG b.kind u) (gB b fl u)=fl:=by
 have hk:(fM b { bP with kind:=b.kind } (aG b.kind u)).kind=b.kind:=zF b _ _;obtain ⟨hp1,hp2⟩:=FZ hc (En u);obtain ⟨u1,u3,Eh,hfl,hno⟩:=Aq hc;obtain ⟨mp,ms⟩:=Ba (Cm hc);constructor
 ·refine (parts_all _ b hk).1 λn hn q hq=>?_
  cases hx:jG (aG b.kind u) n with
  | true=>
    unfold jG at hx;obtain ⟨s,hs,e⟩:=List.any_eq_true.1 hx;have e:s.name=n:=Bf e;exact (hp1 s hs q (by rw [e];exact hq)).1
  | false=>
    have hB:=hp2 n q hq hx;have hbn:dw b q=true:=by
     have hc':=hc;unfold fB at hc';rw [ah (by omega),ah (by omega),ah Eh] at hc';by_cases h4:dR.all (λn=>jG (aG b.kind u) n || mg b n)=false
     ·rw [aj h4] at hc';exact absurd hc' (by decide)
     rw [Nj] at h4;have:=List.all_eq_true.1 h4 n hn;rw [hx,vO] at this;unfold mg at this;rw [hq] at this;exact this
    have z1:=Wh (k:=0) hB;have z2:=Wh (k:=0) hbn;generalize fM b { bP with kind:=b.kind } (aG b.kind u)=B at *;cases q<;>simp only [aZ] at z1 z2 ⊢<;>rw [<- z1,<- z2]
 ·have hpf:=mp.filter (λf=>!hasTag (aG b.kind u) f.tag)
  rw [Sv] at hpf;have e1:fl.filter (λf=>!hasTag (aG b.kind u) f.tag)=fl:=List.filter_eq_self.2 λf hf=>by rw [hno f hf];rfl
  have e2:(gQ b (aG b.kind u)).filter (λf=>!hasTag (aG b.kind u) f.tag)=[]:=afE.2 λf hf=>by
   obtain ⟨s,hs,p, -,rfl, -⟩:=Lm hf;have:hasTag (aG b.kind u) s.tag=true:=by unfold hasTag;exact List.any_eq_true.2 ⟨s,hs,by simp⟩
   show ¬ (!hasTag (aG b.kind u) s.tag)=true
   rw [this];decide
  rw [e1,e2,bK] at hpf;exact Ji _ _ hpf ((ms.sublist Np).imp λh=>by omega) (EU fl 0 0 hfl).2
theorem afn (p:aF->Bool):∀l:List aF,wL (l.filter p)<=wL l
 | []=>by simp [wL]
 | f::l=>by
   have ih:=afn p l;rw [GK];split
   ·simp only [wL];omega
   ·simp only [wL];omega
theorem aoi {b:aB} {fl:List aF} {u w:Int} (hm:tu b fl) (hs:bI fl<=1000) (hw:wL fl<=1000000) (hc:fB b fl u=0) (h:w<=u):tu (fM b { bP with kind:=b.kind } (aG b.kind w)) (fK (aG b.kind w) (gB b fl u)):=by
 obtain ⟨hp1,hp2⟩:=FZ hc h;obtain ⟨mp,ms⟩:=Ba (Cm hc);have ao:=Td hm hc;have hd:=Ub hm hc (AY b.kind w).1 (aG b.kind w) { bP with kind:=b.kind } (λs hs=>hs);have hmo:=Uc (aG b.kind w) (gQ b (aG b.kind w)) { bP with kind:=b.kind } (Vu hm.msg hm.short _ _) (Yr b.kind hm.msg.body.kind);rw [hd] at hmo;have hsz:bI (gB b fl u)<=2000:=by
  have e:bI (gB b fl u)=bI (gQ b (aG b.kind u)++fl):=aeP mp;rw [e,X8];have:=Vx b (aG b.kind u);have:=xB b.kind u;omega
 have Ve:wL (gB b fl u)<=1000000000:=by
  have e:wL (gB b fl u)=wL (gQ b (aG b.kind u)++fl):=afo mp;rw [e,Yo];have h1:=Vy hm.msg hm.short (aG b.kind u);have h2:=xB b.kind u;have:100000040 * (aG b.kind u).length<=100000040 * 8:=Nw _ h2;omega
 have sh:∀n q,placeOf n=some q->aZ (fM b { bP with kind:=b.kind } (aG b.kind w)) b q\/dw (fM b { bP with kind:=b.kind } (aG b.kind w)) q=true:=λn q hq=>by
  cases hx:jG (aG b.kind w) n with
  | true=>
    unfold jG at hx;obtain ⟨s,hs,e⟩:=List.any_eq_true.1 hx;have e:s.name=n:=Bf e;exact .inl (hp1 s hs q (by rw [e];exact hq)).1
  | false=>exact .inr (hp2 n q hq hx)
 have s1:=sh kR .name Bj;have s2:=sh kT .region Bo;have s3:=sh kS .note Bl;obtain ⟨w1,w2,w3⟩:=hm.short;generalize fM b { bP with kind:=b.kind } (aG b.kind w)=B at *;refine ⟨⟨hmo.body,hmo.d,hmo.t,KG _ ao.ok,iD (Nq _ _) ao.len⟩,⟨?_, ?_, ?_⟩, ?_, ?_⟩
 ·rcases s1 with s | s
  ·have s:B.name=b.name:=s
   rw [s];exact w1
  ·simp only [dw,decide_eq_true_iff] at s;rw [s];simp
 ·rcases s2 with s | s
  ·have s:B.region=b.region:=s
   rw [s];exact w2
  ·simp only [dw,decide_eq_true_iff] at s;rw [s];simp
 ·rcases s3 with s | s
  ·have s:B.note=b.note:=s
   rw [s];exact w3
  ·simp only [dw,decide_eq_true_iff] at s;rw [s];simp
 ·have:=Ru (λf=>!hasTag (aG b.kind w) f.tag) (gB b fl u)
  unfold fK;omega
 ·have:=afn (λf=>!hasTag (aG b.kind w) f.tag) (gB b fl u)
  unfold fK;omega
/-- Written at a version, and read at another one. -/
def uN (b:aB) (fl:List aF) (x y:Int):aB×List aF×Int:=if (kN b fl x).2=0 then yc (kN b fl x).1 y else (bP,[],(kN b fl x).2)
theorem Ze {b:aB} {fl:List aF} (hm:tu b fl) (x y:Int):TT.lim 93 [bU b (aC fl),.i .i64 x,.i .i64 y]=some [bU (uN b fl x y).1 (aC (uN b fl x y).2.1),.i .i64 (uN b fl x y).2.2]:=by
 have k1:=LV hm x;have hle:(kN b fl x).1.length<=65536:=by
  unfold kN;split
  ·split
   ·simp
   ·simp only;omega
  ·simp
 have k2:=decode_ok (kN b fl x).1 y (by omega);have fn:aC []=[]:=by simp only [aC]
 have hz:GV.g [.i .i64 0,.i .u64 0,.i .u64 0,.i .u64 0,.i .u64 0,.i .u64 0,.i .u64 0,.i .u64 0,.i .u64 0,.i .u64 0,.i .u64 0,.i .u64 0,.i .u64 0,.i .u64 0,.i .u64 0,.i .u64 0,.i .i64 0,.b false,.s [],.s [],.s [],.l [],.l [],.l []]=bU bP []:=rfl;unfold uN;generalize kN b fl x=E at *;generalize aC fl=r at *;by_cases c:E.2=0
 ·rw [aj c]
  rw [c] at k1;generalize yc E.1 y=D at *;generalize aC D.2.1=r2 at *;refine aW rfl rfl ?_ rfl;simp -implicitDefEqProofs (maxSteps:=10000000) [↓jF,jk,k1,k2]
 ·rw [ah c]
  simp only;rw [fn,<- hz];refine aW rfl rfl ?_ rfl;simp -implicitDefEqProofs (maxSteps:=10000000) [↓jF,jk,k1,c]
theorem ald {b:aB} {fl:List aF} (hm:tu b fl) (x y:Int) (h:y<=x):TT.lim 92 [bU b (aC fl),.i .i64 x,.i .i64 y]=some [bU (uN b fl x y).1 (aC (uN b fl x y).2.1),.i .i64 (uN b fl x y).2.2]:=by
 have k:=Ze hm x y;have h':¬ x < y:=by omega
 generalize uN b fl x y=A at *;generalize aC fl=r at *;generalize aC A.2.1=r2 at *;refine aW rfl rfl ?_ rfl;simp -implicitDefEqProofs (maxSteps:=10000000) [↓jF,jk,h',k]
theorem acD {b:aB} {fl:List aF} (hm:tu b fl) (x y:Int) (h:x<=y):TT.lim 129 [bU b (aC fl),.i .i64 x,.i .i64 y]=some [bU (uN b fl x y).1 (aC (uN b fl x y).2.1),.i .i64 (uN b fl x y).2.2]:=by
 have k:=Ze hm x y;have h':¬ y < x:=by omega
 generalize uN b fl x y=A at *;generalize aC fl=r at *;generalize aC A.2.1=r2 at *;refine aW rfl rfl ?_ rfl;simp -implicitDefEqProofs (maxSteps:=10000000) [↓jF,jk,h',k]
theorem aa2 {b:aB} {fl:List aF} {u:Int} (h:(kN b fl u).2=0):fB b fl u=0/\(bytesV b fl u).length<=65536/\kN b fl u=(bytesV b fl u,0):=by
 unfold kN at h ⊢;by_cases c:fB b fl u=0
 ·rw [aj c] at h ⊢
  by_cases c2:65536 < (bytesV b fl u).length
  ·rw [aj c2] at h;exact absurd h (by simp)
  ·rw [ah c2]
   exact ⟨c,by omega,rfl⟩
 ·rw [ah c] at h
  exact absurd h c
theorem Tc {b:aB} {fl:List aF} {x:Int} (h:(kN b fl x).2=0) (y:Int):uN b fl x y=yc (kN b fl x).1 y:=by
 unfold uN;rw [aj h]
theorem akK {a b:List UInt8} {x:GV} (h1:je (.s a) x=true) (h2:je (.s b) x=true):a=b:=by
 cases x<;>simp [je] at h1 h2
 rw [h1,h2]
theorem acr (a b:List UInt8):je (.s a) (.s b)=decide (a=b):=by
 simp only [je];rw [pI];simp
theorem Aj (a b:List UInt8) (u:GV):∀xs:List GV,fQ (.s a) (iO (.s b) u xs)=if a=b then some u else fQ (.s a) xs
 | []=>by
   show (if je (.s a) (.s b)=true then some u else none)=_
   rw [acr];by_cases h:a=b<;>simp [h,fQ]
 | .g [x,v]::xs=>by
   have ih:=Aj a b u xs;show fQ (.s a) (if je (.s b) x=true then .g [.s b,u]::xs else .g [x,v]::iO (.s b) u xs)=if a=b then some u else (if je (.s a) x=true then some v else fQ (.s a) xs)
   cases hb:je (.s b) x with
   | true=>
     rw [aj rfl];show (if je (.s a) (.s b)=true then some u else fQ (.s a) xs)=_
     rw [acr];by_cases h:a=b
     ·simp [h]
     ·cases ha:je (.s a) x with
      | true=>exact absurd (akK ha hb) h
      | false=>simp [h]
   | false=>
     rw [ah (by simp)];show (if je (.s a) x=true then some v else fQ (.s a) (iO (.s b) u xs))=_
     rw [ih];cases ha:je (.s a) x with
     | true=>
       by_cases h:a=b
       ·subst h;rw [ha] at hb;cases hb
       ·simp [h]
     | false=>simp
 | .g []::xs=>Aj a b u xs
 | .g [_]::xs=>Aj a b u xs
 | .g (_::_::_::_)::xs=>Aj a b u xs
 | .i _ _::xs=>Aj a b u xs
 | .b _::xs=>Aj a b u xs
 | .s _::xs=>Aj a b u xs
 | .l _::xs=>Aj a b u xs
/-- The value of a name. -/
def uq (b:aB) (n:List UInt8):Int×List UInt8:=match placeOf n with
 | some p=>aK b p
 | none=>(0,[])
def Jl (n:List UInt8):Int:=match placeOf n with
 | some p=>aV p
 | none=>0
def uQ (b:aB) (n:List UInt8):GV:=.g [.i .i64 (Jl n),.i .u64 (uq b n).1,.s (uq b n).2]
def uw (b:aB) (xs:List GV) (ns:List (List UInt8)):List GV:=ns.foldl (λm n=>iO (.s n) (uQ b n) m) xs
theorem afh (b:aB) (a:List UInt8):∀ (ns:List (List UInt8)) (xs:List GV),fQ (.s a) (uw b xs ns)=if a∈ns then some (uQ b a) else fQ (.s a) xs
 | [],xs=>by simp [uw]
 | n::ns,xs=>by
   have ih:=afh b a ns (iO (.s n) (uQ b n) xs);show fQ (.s a) (uw b (iO (.s n) (uQ b n) xs) ns)=_
   rw [ih,Aj];by_cases h:a∈ns
   ·simp [h]
   ·by_cases h2:a=n
    ·subst h2;simp
    ·simp [h,h2]
theorem asL (b:aB) (a:List UInt8):fQ (.s a) (uw b [] dR)=if placeOf a=none then none else some (uQ b a):=by
 rw [afh];by_cases h:a∈dR
 ·rw [aj h,ah (LC a h)]
 ·rw [ah h]
  cases hp:placeOf a with
  | none=>rfl
  | some p=>exact absurd (vC a p hp).2.2 h
theorem asc (b:aB) (r:List GV) (hb:kL b) (hd:iq b.d=true) (hf:zY b.t) (n:List UInt8) (hn:placeOf n≠none) :
 TT.lim 77 [bU b r,.s n]=some [.g [.i .u64 0,.i .i64 (Jl n),.i .u64 (uq b n).1,.s (uq b n).2,.l []],.b true]:=by
 rcases adl b r hb hd hf n with ⟨p,hp,hv⟩ | ⟨hp, -⟩
 ·unfold Jl uq
  rw [hp];exact hv
 ·exact absurd hp hn
theorem afd (b:aB) (r:GV) (R:List GV) (hr:r=.l R) (hb:kL b) (hd:iq b.d=true) (hf:zY b.t) (ns:List (List UInt8)) (hl:ns.length<=1000) (hns:∀n∈ns,placeOf n≠none):∀ (m i:Nat) (xs:List GV),i+m=ns.length->
 TT.lim 148 ([.l (ns.map .s),.i .i64 ns.length,.i .i64 i,.l xs,.i .i64 b.kind]++bg b++[r])=some [.i .i64 0,.l (uw b xs (ns.drop i))]
 | 0,i,xs,hi=>by
   have h:¬ ((i:Int) < ns.length):=by omega
   have e:ns.drop i=[]:=gG (by omega);rw [e];simp only [uw,List.foldl_nil,bg,cu,bK];refine ay rfl rfl ?_;simp [h]
 | m+1,i,xs,hi=>by
   have hlt:i < ns.length:=by omega
   have h:((i:Int) < ns.length):=by omega
   have hw:=wrap64 (n:=(i:Int)+1) (by omega) (by omega);have hcast:((i+1:Nat):Int)=(i:Int)+1:=by omega
   have hd2:=iQ hlt;have hget:(ns.map GV.s)[i]? = some (.s ns[i]):=by rw [iL,bT hlt];rfl
   have hv:=asc b R hb hd hf ns[i] (hns _ (jf hlt));have ih:=afd b r R hr hb hd hf ns hl hns m (i+1) (iO (.s ns[i]) (uQ b ns[i]) xs) (by omega);rw [hd2];show _=some [GV.i .i64 0,.l (uw b (iO (.s ns[i]) (uQ b ns[i]) xs) (ns.drop (i+1)))]
   rw [hcast] at ih;subst hr;unfold uQ at ih ⊢;generalize uw b (iO (.s ns[i]) (.g [.i .i64 (Jl ns[i]),.i .u64 (uq b ns[i]).1,.s (uq b ns[i]).2]) xs) (ns.drop (i+1))=O at *;generalize (uq b ns[i]).1=x at *;generalize (uq b ns[i]).2=y at *;generalize Jl ns[i]=t at *;generalize ns[i]=n at *;generalize ns.map GV.s=NS at *;generalize (ns.length:Int)=L at *;unfold bU at hv;simp only [bg,cu,bK] at ih ⊢;refine ay rfl rfl ?_;simp -implicitDefEqProofs (maxSteps:=10000000) [↓jF,h,hw,hget,hv,ih]
theorem asJ (b:aB) (R:List GV) (hb:kL b) (hd:iq b.d=true) (hf:zY b.t):TT.lim 147 (.i .i64 b.kind::(bg b++[.l R]))=some [.i .i64 0,.l (uw b [] dR)]:=by
 have h0:=afd b (.l R) R rfl hb hd hf dR (by decide) LC dR.length 0 [] (by omega);rw [dY] at h0;simp only [vP,bg,cu,bK] at h0 ⊢;have hn:=V4;have hnl:((dR.map GV.s).length:Int)=(dR.length:Int):=by rw [nV]
 generalize uw b [] dR=O at *;generalize dR.map GV.s=NS at *;generalize (dR.length:Int)=L at *;refine ay rfl rfl ?_;simp -implicitDefEqProofs (maxSteps:=10000000) [↓jF,hn,hnl,h0]
theorem OO (t:Int) (x x2:Int) (y y2:List UInt8):kF [0,0,1] [.i .i64 t,.i .u64 x,.s y] [.i .i64 t,.i .u64 x2,.s y2]=some (decide (x=x2/\y=y2)):=by
 simp only [kF,if_true,gI,Jv];congr 1;rw [pI];simp
theorem Ue (n:List UInt8):(GV.s n).fU 1=true:=rfl
end K
end Go.Proofs.YtcpfjpcdcafjmaaGreatDoor
