/- What the trees compute: plain laws. -/
import Derived.Test.YtnlegpmfkopalaaGreatDoorKSe6
import Derived.Test.YtnlegpmfkopalaaGreatDoorKSe7
namespace Go.Proofs.YtnlegpmfkopalaaGreatDoor
open Go Go.aN
set_option linter.unusedSimpArgs false
set_option linter.unusedVariables false
set_option maxRecDepth 100000
namespace S
/-- What a field that was read looks like. -/
def IW (f:aC):Prop:=match f with
 | .mk _ y n s k=>(y=0/\s=[]/\k=[])\/(y=1/\n=0/\k=[])\/y=2
theorem anL {rec:List UInt8->List aC×Int} {w ahead:Nat} {s:List UInt8} (hr:∀t:List UInt8,t.length+2<=s.length->(rec t).2=0->bP (rec t).1=t) (h:(fH rec w ahead s).2.2=0) :
 zI (fH rec w ahead s).1=s.take (fH rec w ahead s).2.1/\ahead < (ak s).1 / 4/\IW (fH rec w ahead s).1:=by
 unfold fH at h ⊢;by_cases e1:(ak s).2.2=0;rotate_left
 ·simp only [aj e1] at h;exact absurd h e1
 have v1:=ji e1;simp only [ah (λx=>x e1:¬ (ak s).2.2≠0)] at h ⊢;by_cases c1:(ak s).1 / 4=0
 ·simp only [aj c1] at h;exact absurd h (by decide)
 simp only [ah c1] at h ⊢;by_cases c2:4294967296 < (ak s).1 / 4
 ·simp only [aj c2] at h;exact absurd h (by decide)
 simp only [ah c2] at h ⊢;by_cases c3:3<=(ak s).1 % 4
 ·simp only [aj c3] at h;exact absurd h (by decide)
 simp only [ah c3] at h ⊢;by_cases c4:(ak s).1 / 4<=ahead
 ·simp only [aj c4] at h;exact absurd h (by decide)
 simp only [ah c4] at h ⊢;by_cases e2:(ak (s.drop (ak s).2.1)).2.2=0;rotate_left
 ·simp only [aj e2] at h;exact absurd h e2
 have v2:=ji e2;have l1:=v1.len;have p1:=v1.pos;have l2:=v2.len;have p2:=v2.pos;have u1:=v1.put;have u2:=v2.put;rw [dW] at l2;simp only [ah (λx=>x e2:¬ (ak (s.drop (ak s).2.1)).2.2≠0)] at h ⊢;have lt:ahead < (ak s).1 / 4:=by omega
 by_cases y0:(ak s).1 % 4=0
 ·simp only [aj y0] at h ⊢
  have ex:(4 * (((ak s).1 / 4:Nat):Int)+0).toNat=(ak s).1:=by omega
  refine ⟨?_,lt,.inl ⟨rfl,rfl,rfl⟩⟩;simp only [zI,if_true];rw [ex,L8,u1,u2,sQ]
 simp only [ah y0] at h ⊢;by_cases c:s.length - ((ak s).2.1+(ak (s.drop (ak s).2.1)).2.1) < (ak (s.drop (ak s).2.1)).1
 ·simp only [aj c] at h;exact absurd h (by decide)
 simp only [ah c] at h ⊢;have hl:((s.drop ((ak s).2.1+(ak (s.drop (ak s).2.1)).2.1)).take (ak (s.drop (ak s).2.1)).1).length=(ak (s.drop (ak s).2.1)).1:=by rw [jP,dW];omega
 by_cases y1:(ak s).1 % 4=1
 ·simp only [aj y1] at h ⊢
  have ex:(4 * (((ak s).1 / 4:Nat):Int)+1).toNat=(ak s).1:=by omega
  refine ⟨?_,lt,.inr (.inl ⟨rfl,rfl,rfl⟩)⟩;simp only [zI];rw [ah (by decide),aj trivial,ex,hl,u1,u2,sQ,sQ,List.append_assoc]
 simp only [ah y1] at h ⊢;by_cases c8:8<=w
 ·simp only [aj c8] at h;exact absurd h (by decide)
 simp only [ah c8] at h ⊢;have hr:=hr ((s.drop ((ak s).2.1+(ak (s.drop (ak s).2.1)).2.1)).take (ak (s.drop (ak s).2.1)).1) (by rw [hl];omega);have ex:(4 * (((ak s).1 / 4:Nat):Int)+2).toNat=(ak s).1:=by omega
 have ht:s.take ((ak s).2.1+(ak (s.drop (ak s).2.1)).2.1+(ak (s.drop (ak s).2.1)).1)=s.take (ak s).2.1++((s.drop (ak s).2.1).take (ak (s.drop (ak s).2.1)).2.1++(s.drop ((ak s).2.1+(ak (s.drop (ak s).2.1)).2.1)).take (ak (s.drop (ak s).2.1)).1):=by rw [sQ,sQ,List.append_assoc]
 generalize (s.drop ((ak s).2.1+(ak (s.drop (ak s).2.1)).2.1)).take (ak (s.drop (ak s).2.1)).1=T at *;by_cases e3:(rec T).2=0;rotate_left
 ·simp only [aj e3] at h;exact absurd h e3
 simp only [ah (λx=>x e3:¬ (rec T).2≠0)] at h ⊢;refine ⟨?_,lt,.inr (.inr rfl)⟩;simp only [zI];rw [ah (by decide),ah (by decide),ex,hr e3,hl,ht,u1,u2]
theorem WR:∀ (N w ahead:Nat) (s:List UInt8),s.length<=N->s.length<=1000000->(bW N w ahead s).2=0->bP (bW N w ahead s).1=s/\(bW N w ahead s).1.Pairwise (λx y=>x.tag < y.tag)/\∀f∈(bW N w ahead s).1,(ahead:Int) < f.tag/\IW f
 | 0,w,ahead,s,h0,_,_=>by
   have:s=[]:=jd (by omega);subst this;simp [bW,bP]
 | N+1,w,ahead,s,h0,hm,h=>by
   unfold bW at h ⊢;by_cases h1:s=[]
   ·rw [aj h1];simp [bP,h1]
   rw [ah h1] at h ⊢;by_cases h2:(fH (λt=>bW N (w+1) 0 t) w ahead s).2.2=0;rotate_left
   ·rw [aj h2] at h;exact absurd h h2
   rw [ah (λx=>x h2)] at h ⊢;obtain ⟨o1,o2,o3,o4, -⟩:=adB (rec:=λt=>bW N (w+1) 0 t) (w:=w) (ahead:=ahead) (s:=s) (by omega) (λt ht=>Qj N (w+1) 0 t (by omega)) h2;obtain ⟨q1,q2,q3⟩:=anL (rec:=λt=>bW N (w+1) 0 t) (w:=w) (ahead:=ahead) (s:=s) (λt ht e=>(WR N (w+1) 0 t (by omega) (by omega) e).1) h2;by_cases h3:(bW N w ((ak s).1 / 4) (s.drop (fH (λt=>bW N (w+1) 0 t) w ahead s).2.1)).2=0;rotate_left
   ·rw [aj h3] at h;exact absurd h h3
   rw [ah (λx=>x h3)];obtain ⟨r1,r2,r3⟩:=WR N w ((ak s).1 / 4) (s.drop (fH (λt=>bW N (w+1) 0 t) w ahead s).2.1) (by rw [dW];omega) (by rw [dW];omega) h3;generalize (bW N w ((ak s).1 / 4) (s.drop (fH (λt=>bW N (w+1) 0 t) w ahead s).2.1)).1=R at *;generalize fH (λt=>bW N (w+1) 0 t) w ahead s=O at *;refine ⟨?_, ?_,λf hf=>?_⟩
   ·simp only [bP]
    rw [q1,r1,xR]
   ·rw [pV]
    exact ⟨λf hf=>by rw [o4];exact (r3 f hf).1,r2⟩
   ·rcases dh.1 hf with rfl | hf
    ·exact ⟨by rw [o4];omega,q3⟩
    ·exact ⟨by have:=(r3 f hf).1;omega,(r3 f hf).2⟩
theorem ajf {s:List UInt8} (h:(jY s).2=0):bP (jY s).1=s/\(jY s).1.Pairwise (λx y=>x.tag < y.tag)/\∀f∈(jY s).1,IW f:=by
 unfold jY at h ⊢;by_cases c:65536 < s.length
 ·rw [aj c] at h;exact absurd h (by decide)
 rw [ah c] at h ⊢;obtain ⟨h1,h2,h3⟩:=WR (s.length+1) 0 0 s (by omega) (by omega) h;exact ⟨h1,h2,λf hf=>(h3 f hf).2⟩
theorem ark {n:Int} (h:0<=n):zz (xK n)=n:=by
 unfold zz xK;split<;>split<;>omega
/-- What is set is the value. -/
theorem aqH {b:aK} {y n:Int} {s:List UInt8} {p:Pl} (hp:uq p) (hn:0<=n) (hs:s.length<=100000000) (h:jD y n s p=0):y=bJ p/\aP (setB b n s p) p=(if bJ p=0 then (n,[]) else (0,s))/\¬ ((aP (setB b n s p) p).1=0/\(aP (setB b n s p) p).2=[]):=by
 unfold jD at h;by_cases h1:y=bJ p;rotate_left
 ·rw [ah h1] at h;exact absurd h (by decide)
 rw [aj h1] at h;refine ⟨h1, ?_⟩;suffices hv:aP (setB b n s p) p=(if bJ p=0 then (n,[]) else (0,s)) by
  refine ⟨hv, ?_⟩;rw [hv];by_cases h2:y=0
  ·rw [aj h2] at h
   rw [aj (by rw [<- h1];exact h2)];by_cases h3:n=0
   ·rw [aj h3] at h;exact absurd h (by decide)
   ·exact λe=>h3 e.1
  ·rw [ah h2] at h
   rw [ah (by rw [<- h1];exact h2)];by_cases h3:s=[]
   ·rw [aj h3] at h;exact absurd h (by decide)
   ·exact λe=>h3 e.2
 cases p with
 | num k=>rcases k with _ | _ | _ | _ | _ | _ | _ | _ | _ | _ | _ | _ | _ | _ | k<;>rfl
 | rem=>simp only [setB,aP,bJ,if_true,ark hn]
 | allow=>
   simp only [bJ] at h1;rw [aj h1] at h;have h2:n=1:=by
    by_cases h3:n=0
    ·rw [aj h3] at h;exact absurd h (by decide)
    rw [ah h3] at h;simp only [nX] at h;by_cases h4:n=1
    ·exact h4
    ·rw [ah h4] at h;exact absurd h (by decide)
   subst h2;rfl
 | d=>
   simp only [bJ] at h1;rw [ah (by omega)] at h;by_cases h3:s=[]
   ·rw [aj h3] at h;exact absurd h (by decide)
   rw [ah h3] at h;simp only [nX] at h;have hd:=Tq h hs;have hne:(nJ s).1≠[]:=λe=>by
    have:=hd.chk;rw [e] at this;exact absurd this (by decide)
   have e:aP (setB b n s .d) .d=(0,if (nJ s).1=[] then [] else iF (nJ s).1):=rfl;rw [e,ah hne,hd.put];rfl
 | t=>
   simp only [bJ] at h1;rw [ah (by omega)] at h;by_cases h3:s=[]
   ·rw [aj h3] at h;exact absurd h (by decide)
   rw [ah h3] at h;simp only [nX] at h;obtain ⟨t1,t2, -⟩:=aex hs;by_cases h4:(lZ s).2=0;rotate_left
   ·rw [ah h4] at h;exact absurd h h4
   rw [aj h4] at h;by_cases h5:(lZ s).1.length=0
   ·rw [aj h5] at h;exact absurd h (by decide)
   have hne:(lZ s).1≠[]:=λe=>h5 (by rw [e];rfl);have e:aP (setB b n s .t) .t=(0,if (lZ s).1=[] then [] else (yM (lZ s).1).1):=rfl;have e2:yM (lZ s).1=(lY (lZ s).1,0):=by unfold yM;rw [t1.tb];rfl
   rw [e,ah hne,e2,t2 h4];rfl
 | _=>rfl
theorem aqG {b:aK} {n:Int} {s:List UInt8} {p q:Pl} (hp:uq p) (hq:uq q) (hne:q≠p):aP (setB b n s p) q=aP b q:=
 amy ((apa b b n s p q hp hq hne).2 (acS b q))
theorem aby {k u:Int} {s t:cZ} (hs:s∈aH k u) (ht:t∈aH k u) (e:s.name=t.name):s.tag=t.tag:=by
 have key:∀s∈lq k,∀t∈lq k,s.name=t.name->s.tag=t.tag:=by
  unfold lq;repeat' split
  all_goals first | (unfold sp1;decide) | (unfold sp2;decide) | (unfold qB;decide) | (unfold yP;decide) | (unfold qC;decide) | (unfold qE;decide) | (unfold yQ;decide) | (unfold yR;decide) | (intro s hs;cases hs)
 exact key s (qJ.1 hs).1 t (qJ.1 ht).1 e
/-- The values behind all known fields: theirs; all others are as they were. -/
theorem ZV {k u:Int}:∀ (fs:List aC) (b:aK),cu fs->fs.Pairwise (λx y=>x.tag < y.tag)->(iQ (aH k u) b fs).2=0->
 (∀g∈fs,∃s∈aH k u,s.tag=g.tag/\∃p,placeOf s.name=some p/\g.typ=bJ p/\aP (iQ (aH k u) b fs).1 p=(if bJ p=0 then (g.num,[]) else (0,g.txt))/\¬ ((aP (iQ (aH k u) b fs).1 p).1=0/\(aP (iQ (aH k u) b fs).1 p).2=[]))/\
 (∀q,uq q->(∀g∈fs,∀s∈aH k u,s.tag=g.tag->placeOf s.name≠some q)->aP (iQ (aH k u) b fs).1 q=aP b q)
 | [],b,_,_,_=>⟨λg hg=>(by cases hg),λq _ _=>rfl⟩
 | f::r,b,hok,hs,h=>by
   rw [pV] at hs;simp only [cu] at hok;unfold iQ at h ⊢;cases hq:(aH k u).find? (λs=>decide (s.tag=f.tag)) with
   | none=>rw [hq] at h;exact absurd h (by simp)
   | some sp=>
     rw [hq] at h;simp only at h ⊢;have hsp:=afc hq;have htg:sp.tag=f.tag:=by simpa using List.find?_some hq
     cases hp:placeOf sp.name with
     | none=>rw [hp] at h;exact absurd h (by simp)
     | some p=>
       rw [hp] at h;simp only at h ⊢;by_cases hc:jD f.typ f.num f.txt p=0;rotate_left
       ·rw [ah hc] at h;exact absurd h hc
       rw [aj hc] at h ⊢;obtain ⟨i1,i2⟩:=ZV r (setB b f.num f.txt p) hok.2 hs.2 h;have hpk:=(su _ _ hp).2.1;have hf:0<=f.num/\f.txt.length<=100000000:=by
        obtain ⟨t,y,n,s,kk⟩:=f;have:=hok.1;simp only [nK] at this;exact ⟨this.1.2.2.2.2.1,this.1.2.2.2.2.2.2.1⟩
       obtain ⟨w1,w2,w3⟩:=aqH (b:=b) hpk hf.1 hf.2 hc;have keep:aP (iQ (aH k u) (setB b f.num f.txt p) r).1 p=aP (setB b f.num f.txt p) p:=i2 p hpk λg hg s hs' et e=>by
        have hn:s.name=sp.name:=Qa e hp;have:=aby hs' hsp hn;have:=hs.1 g hg;omega
       refine ⟨λg hg=>?_,λq hq hno=>?_⟩
       ·rcases dh.1 hg with rfl | hg
        ·exact ⟨sp,hsp,htg,p,hp,w1,by rw [keep];exact w2,by rw [keep];exact w3⟩
        ·exact i1 g hg
       ·have hne:q≠p:=λe=>hno f (by simp) sp hsp htg (by rw [hp,e])
        rw [i2 q hq λg hg=>hno g (by simp [hg]),aqG hpk hq hne]
theorem aqI (k:Int) (q:Pl):(aP { dw with kind:=k } q).1=0/\(aP { dw with kind:=k } q).2=[]:=by
 cases q with
 | num j=>refine ⟨?_,rfl⟩;show jH { dw with kind:=k } j=0;unfold jH dw;split<;>rfl
 | _=>exact ⟨rfl,rfl⟩
/-- The known fields that are read are what the message tells. -/
theorem aky {k u:Int} {fs:List aC} (hok:cu fs) (hs:fs.Pairwise (λx y=>x.tag < y.tag)) (hsh:∀f∈fs,IW f) (h:(iQ (aH k u) { dw with kind:=k } fs).2=0):jF (iQ (aH k u) { dw with kind:=k } fs).1 (aH k u)=fs:=by
 obtain ⟨d1,d2⟩:=ZV fs _ hok hs h;generalize (iQ (aH k u) { dw with kind:=k } fs).1=B at *;have hr:=KI B _ (yF k u).1;have nd:∀l:List aC,l.Pairwise (λx y=>x.tag < y.tag)->l.Nodup:=λl hl=>hl.imp λh e=>by rw [e] at h;omega
 refine IZ _ _ ((List.perm_ext_iff_of_nodup (nd _ hr) (nd _ hs)).2 λf=>⟨λhf=>?_,λhf=>?_⟩) (hr.imp λh=>by omega) hs
 ·obtain ⟨s,hs',p,hp,rfl,hnz⟩:=Ic hf
  by_cases hex:∃g∈fs,g.tag=s.tag;rotate_left
  ·exfalso
   have:=d2 p (su _ _ hp).2.1 λg hg s' hs2 et e=>by
    have hn:s'.name=s.name:=Qa e hp;exact hex ⟨g,hg,by rw [<- et];exact aby hs2 hs' hn⟩
   rw [this] at hnz;exact hnz (aqI k p)
  obtain ⟨g,hg,et⟩:=hex;obtain ⟨s2,m1,m2,p2,m3,m4,m5, -⟩:=d1 g hg;have h1:=G9 s _ (yF k u).1 hs';have h2:=G9 s2 _ (yF k u).1 m1;rw [m2,et,h1] at h2;injection h2 with h2
  subst h2;rw [hp] at m3;injection m3 with m3
  subst m3;have hsg:=hsh g hg;obtain ⟨t,y,n,x,kk⟩:=g;have et:t=s.tag:=et;have m4:y=bJ p:=m4;have m5:aP B p=(if bJ p=0 then (n,[]) else (0,x)):=m5;have ht:bJ p=0\/bJ p=1:=by cases p<;>simp [bJ]
  simp only [IW] at hsg;rw [m5];rcases ht with ht | ht
  ·rw [aj ht]
   rcases hsg with ⟨-,a,c⟩ | ⟨a, -⟩ | a
   ·subst a c et
    rw [<- m4];exact hg
   ·omega
   ·omega
  ·rw [ah (by omega)]
   rcases hsg with ⟨a, -⟩ | ⟨-,a,c⟩ | a
   ·omega
   ·subst a c et
    rw [<- m4];exact hg
   ·omega
 ·obtain ⟨s,m1,m2,p,m3,m4,m5,m6⟩:=d1 f hf
  have hk:um B s=some f:=by
   unfold um;rw [m3];simp only;rw [ah m6,m5];have hsg:=hsh f hf;obtain ⟨t,y,n,x,kk⟩:=f;have m2:s.tag=t:=m2;have m4:y=bJ p:=m4;have ht:bJ p=0\/bJ p=1:=by cases p<;>simp [bJ]
   simp only [IW] at hsg;rcases ht with ht | ht
   ·rw [aj ht]
    rcases hsg with ⟨-,a,c⟩ | ⟨a, -⟩ | a
    ·subst a c m2
     rw [<- m4];rfl
    ·omega
    ·omega
   ·rw [ah (by omega)]
    rcases hsg with ⟨a, -⟩ | ⟨-,a,c⟩ | a
    ·omega
    ·subst a c m2
     rw [<- m4];rfl
    ·omega
  unfold jF;exact Yo.2 ⟨s,m1,hk⟩
/-- What is read is good, and would be written so. -/
theorem ahI {s:List UInt8} {v:Int} (h:(jE s v).2.2=0):lV (jE s v).1 (jE s v).2.1 v=(s,0)/\fZ (jE s v).1 (jE s v).2.1 v=0:=by
 unfold jE at h ⊢;by_cases c1:v < 1
 ·rw [aj c1] at h;exact absurd h (by decide)
 rw [ah c1] at h ⊢;by_cases c2:3 < v
 ·rw [aj c2] at h;exact absurd h (by decide)
 rw [ah c2] at h ⊢;by_cases c3:65536 < s.length
 ·rw [aj c3] at h;exact absurd h (by decide)
 rw [ah c3] at h ⊢;by_cases c4:(ak s).2.2=0;rotate_left
 ·rw [aj c4] at h;exact absurd h c4
 rw [ah (λx=>x c4)] at h ⊢;by_cases c5:8 < (ak s).1
 ·rw [aj c5] at h;exact absurd h (by decide)
 rw [ah c5] at h ⊢;by_cases c6:jw (ak s).1=0
 ·rw [aj c6] at h;exact absurd h (by decide)
 rw [ah c6] at h ⊢;by_cases c7:v < jw (ak s).1
 ·rw [aj c7] at h;exact absurd h (by decide)
 rw [ah c7] at h ⊢;by_cases c8:(jY (s.drop (ak s).2.1)).2=0;rotate_left
 ·rw [aj c8] at h;exact absurd h c8
 rw [ah (λx=>x c8)] at h ⊢;obtain ⟨f1,f2,f3⟩:=ajf c8;obtain ⟨g1, -⟩:=OD (s.drop (ak s).2.1);have hput:=(ji c4).put;simp only at h ⊢;generalize jY (s.drop (ak s).2.1)=G at *;have hkind:=ZT (aH (ak s).1 v) (iZ (aH (ak s).1 v) G.1) { dw with kind:=((ak s).1:Nat) };have hkb:=aky (k:=((ak s).1:Nat)) (u:=v) (fs:=iZ (aH (ak s).1 v) G.1) (D6 _ g1) (f2.sublist Md) (λf hf=>f3 f (qJ.1 hf).1);generalize iQ (aH (ak s).1 v) { dw with kind:=((ak s).1:Nat) } (iZ (aH (ak s).1 v) G.1)=R at *;by_cases c9:R.2=0;rotate_left
 ·rw [aj c9] at h;exact absurd h c9
 rw [ah (λx=>x c9)] at h ⊢;by_cases d1:fZ R.1 (iK (aH (ak s).1 v) G.1) v=0;rotate_left
 ·rw [aj d1] at h;exact absurd h d1
 rw [ah (λx=>x d1)];have hkind:R.1.kind=((ak s).1:Nat):=hkind c9;have hkb:=hkb c9;have hall:qN R.1 (iK (aH (ak s).1 v) G.1) v=G.1:=by
  obtain ⟨mp,ms⟩:=Ij (Gp d1);have e:qN R.1 (iK (aH (ak s).1 v) G.1) v=qZ (jF R.1 (aH R.1.kind v)) (iK (aH (ak s).1 v) G.1):=rfl;rw [e];rw [hkind,hkb] at mp ms ⊢;exact IZ _ _ (mp.trans (List.filter_append_perm _ _)) (ms.imp λh=>by omega) f2
 have hby:bytesV R.1 (iK (aH (ak s).1 v) G.1) v=s:=by
  unfold bytesV;rw [hall,f1,hkind,L8,hput,xR]
 refine ⟨?_,d1⟩;unfold lV;simp only;rw [aj d1,hby,ah c3]
theorem acJ (a b k:Nat) (h:a < 2 ^ k):a ||| b * 2 ^ k=a+b * 2 ^ k:=by
 rw [Nat.or_comm,<- Nat.shiftLeft_eq,<- Nat.shiftLeft_add_eq_or_of_lt h,F6]
theorem VI {a b k m:Nat} (hm:m=2 ^ k) (h:a < m) (h2:a+b * m < 4294967296):bU .or .u32 (a:Int) ((b * m:Nat):Int)=some (.i .u32 ((a+b * m:Nat):Int)):=by
 have wu:∀y:Int,IntKind.u32.wrap y=y % 4294967296:=λy=>by simp [IntKind.wrap,IntKind.signed,IntKind.bits]
 have h1:(BitVec.ofInt 32 (a:Int)).toNat=a:=by rw [qH];omega
 have h3:(BitVec.ofInt 32 ((b * m:Nat):Int)).toNat=b * m:=by rw [qH];omega
 show some (GV.i IntKind.u32 (IntKind.u32.wrap ((BitVec.ofInt 32 (a:Int) ||| BitVec.ofInt 32 ((b * m:Nat):Int)).toNat:Int)))=_
 rw [Ry,h1,h3,hm,acJ a b k (by rw [<- hm];exact h),<- hm,wu];congr 2;omega
theorem amh {a b k m:Nat} (hm:m=2 ^ k) (h:a < m) (h2:a+b * m < 18446744073709551616):bU .or .u64 (a:Int) ((b * m:Nat):Int)=some (.i .u64 ((a+b * m:Nat):Int)):=by
 have wu:∀y:Int,IntKind.u64.wrap y=y % 18446744073709551616:=λy=>by simp [IntKind.wrap,IntKind.signed,IntKind.bits]
 have h1:(BitVec.ofInt 64 (a:Int)).toNat=a:=by rw [qH];omega
 have h3:(BitVec.ofInt 64 ((b * m:Nat):Int)).toNat=b * m:=by rw [qH];omega
 show some (GV.i IntKind.u64 (IntKind.u64.wrap ((BitVec.ofInt 64 (a:Int) ||| BitVec.ofInt 64 ((b * m:Nat):Int)).toNat:Int)))=_
 rw [Ry,h1,h3,hm,acJ a b k (by rw [<- hm];exact h),<- hm,wu];congr 2;omega
theorem Qu {kk:IntKind} {b k m B:Nat} (hB:∀y:Int,kk.wrap y=y % (B:Int)) (hm:m=2 ^ k) (hk:k<=kk.bits) (h:b * m < B):jI .shl kk (b:Int) (k:Int)=some (.i kk ((b * m:Nat):Int)):=by
 unfold jI;rw [ah (by omega),L8,F8 hk];simp only;have e:(b:Int) * 2 ^ k=((b * m:Nat):Int):=by rw [hm];push_cast;rfl
 rw [e,hB,Int.emod_eq_of_lt (Int.natCast_nonneg _) (Int.ofNat_lt.2 h)]
theorem agw (p:List UInt8) (hp:p.length<=65536):TT.lim 150 [.s p,.s (le4 (gy p))]=some [.b true]:=by
 have hc:=ZM p (by omega);have hlt:=ZL p;unfold le4;generalize gy p=n at *;have wu:∀y:Int,IntKind.u32.wrap y=y % ((4294967296:Nat):Int):=λy=>by simp [IntKind.wrap,IntKind.signed,IntKind.bits]
 obtain ⟨c0,hc0⟩:∃c,n % 256=c:=⟨_,rfl⟩
 obtain ⟨c1,hc1⟩:∃c,n / 256 % 256=c:=⟨_,rfl⟩
 obtain ⟨c2,hc2⟩:∃c,n / 65536 % 256=c:=⟨_,rfl⟩
 obtain ⟨c3,hc3⟩:∃c,n / 16777216 % 256=c:=⟨_,rfl⟩
 rw [hc0,hc1,hc2,hc3];have b0:(UInt8.ofNat c0).toNat=c0:=wI (by omega);have b1:(UInt8.ofNat c1).toNat=c1:=wI (by omega);have b2:(UInt8.ofNat c2).toNat=c2:=wI (by omega);have b3:(UInt8.ofNat c3).toNat=c3:=wI (by omega);have s1:jI .shl .u32 (c1:Int) 8=some (.i .u32 ((c1 * 256:Nat):Int)):=Qu (k:=8) wu rfl (by decide) (by omega);have s2:jI .shl .u32 (c2:Int) 16=some (.i .u32 ((c2 * 65536:Nat):Int)):=Qu (k:=16) wu rfl (by decide) (by omega);have s3:jI .shl .u32 (c3:Int) 24=some (.i .u32 ((c3 * 16777216:Nat):Int)):=Qu (k:=24) wu rfl (by decide) (by omega);have o1:=VI (a:=c0) (b:=c1) (k:=8) (m:=256) rfl (by omega) (by omega);have o2:=VI (a:=c0+c1 * 256) (b:=c2) (k:=16) (m:=65536) rfl (by omega) (by omega);have o3:=VI (a:=c0+c1 * 256+c2 * 65536) (b:=c3) (k:=24) (m:=16777216) rfl (by omega) (by omega);have e3:c0+c1 * 256+c2 * 65536+c3 * 16777216=n:=by omega
 rw [e3] at o3;have w0:IntKind.u32.wrap (c0:Int)=c0:=by rw [wu];omega
 have w1:IntKind.u32.wrap (c1:Int)=c1:=by rw [wu];omega
 have w2:IntKind.u32.wrap (c2:Int)=c2:=by rw [wu];omega
 have w3:IntKind.u32.wrap (c3:Int)=c3:=by rw [wu];omega
 clear hc0 hc1 hc2 hc3 e3 hlt;obtain ⟨q3,h3⟩:∃q:Int,((c3 * 16777216:Nat):Int)=q:=⟨_,rfl⟩
 obtain ⟨m2,h2⟩:∃q:Int,((c0+c1 * 256+c2 * 65536:Nat):Int)=q:=⟨_,rfl⟩
 obtain ⟨q2,h2'⟩:∃q:Int,((c2 * 65536:Nat):Int)=q:=⟨_,rfl⟩
 obtain ⟨m1,h1⟩:∃q:Int,((c0+c1 * 256:Nat):Int)=q:=⟨_,rfl⟩
 obtain ⟨q1,h1'⟩:∃q:Int,((c1 * 256:Nat):Int)=q:=⟨_,rfl⟩
 rw [h3] at s3 o3;rw [h2] at o2 o3;rw [h2'] at s2 o2;rw [h1] at o1 o2;rw [h1'] at s1 o1;clear h3 h2 h2' h1 h1';refine aY rfl rfl ?_ rfl;simp -implicitDefEqProofs [hc,b0,b1,b2,b3,w0,w1,w2,w3,s1,s2,s3,o1,o2,o3]
theorem aqO:∀ (n k j:Nat) (x:List UInt8),j < bM n->lC k ((aJ n++x).take j)=none:=by
 intro n;induction n using Nat.strongRecOn with
 | _ n ih=>
   intro k j x hj;cases k with
   | zero=>rfl
   | succ k=>
     cases j with
     | zero=>rfl
     | succ j=>
       by_cases h:n < 128
       ·rw [Jd h] at hj;omega
       ·rw [Au h] at hj
        rw [CX h];show (if (UInt8.ofNat (n % 128+128)).toNat < 128 then _ else (lC k ((aJ (n / 128)++x).take j)).map (· + 1))=_
        rw [ah (by rw [wI (by omega)];omega),ih (n / 128) (by omega) k j x (by omega)];rfl
theorem aqM {n j:Nat} (hn:n<=65536) (x:List UInt8) (hj:j < bM n):ak ((aJ n++x).take j)=(0,0,1):=by
 unfold ak;rw [aqO n 10 j x hj];have:=wJ 3 n (by omega) (by omega);simp only;rw [ah (by rw [jP];omega)]
theorem aqN {n j:Nat} (hn:n<=65536) (x:List UInt8) (hj:bM n<=j):ak ((aJ n++x).take j)=(n,bM n,0):=by
 have:(aJ n++x).take j=aJ n++x.take (j - bM n):=by
  unfold bM at hj ⊢;rw [Yw,jJ hj]
 rw [this];exact Ar n _ (by omega)
theorem aaM (n:Nat) (hn:n<=65536):TT.lim 151 [.i .i64 n]=some [.i .i64 ((2+bM n+n+4:Nat):Int)]:=by
 have k:=IX n (by omega);have hv:=wJ 3 n (by omega) (by omega);have h1:¬ ((n:Int) < 0):=by omega
 have h2:¬ (65536 < (n:Int)):=by omega
 have w:=jS (n:=(n:Int)) (by omega) (by omega);have w1:=wrap64 (n:=2+(bM n:Int)) (by omega) (by omega);have w2:=wrap64 (n:=2+(bM n:Int)+n) (by omega) (by omega);have w3:=wrap64 (n:=2+(bM n:Int)+n+4) (by omega) (by omega);have e:((2+bM n+n+4:Nat):Int)=2+(bM n:Int)+n+4:=by omega
 rw [e];refine aY rfl rfl ?_ rfl;simp -implicitDefEqProofs [h1,h2,k,w,w1,w2,w3]
/-- How many bytes a frame has. -/
theorem BJ (p:List UInt8):(bg p).length=2+bM p.length+p.length+4:=by
 unfold bg bM;simp -implicitDefEqProofs [le4];omega
theorem Vk (s:List UInt8):TT.lim 148 [.s ([81,70]++s)]=some [.i .i64 0]/\TT.lim 148 [.s []]=some [.i .i64 1]/\TT.lim 148 [.s [81]]=some [.i .i64 1]:=by
 have w1:=wrap64 (n:=(1:Int)) (by omega) (by omega);have w2:=wrap64 (n:=(2:Int)) (by omega) (by omega);have l0:¬ (0:Int)=(s.length:Int)+1+1:=by omega
 have l1:¬ (1:Int)=(s.length:Int)+1+1:=by omega
 have a2:TT.lim 149 [.s ([81,70]++s),.i .i64 2]=some [.i .i64 1]:=by
  refine aB rfl rfl ?_;simp
 have a1:TT.lim 149 [.s ([81,70]++s),.i .i64 1]=some [.i .i64 1]:=by
  refine aB rfl rfl ?_;simp at a2;simp -implicitDefEqProofs [l1,w2,a2]
 have a0:TT.lim 149 [.s ([81,70]++s),.i .i64 0]=some [.i .i64 1]:=by
  refine aB rfl rfl ?_;simp at a1;simp -implicitDefEqProofs [l0,w1,a1]
 have b0:TT.lim 149 [.s [],.i .i64 0]=some [.i .i64 0,.i .i64 1]:=by
  refine aB rfl rfl ?_;simp
 have c1:TT.lim 149 [.s [81],.i .i64 1]=some [.i .i64 0,.i .i64 1]:=by
  refine aB rfl rfl ?_;simp
 have c0:TT.lim 149 [.s [81],.i .i64 0]=some [.i .i64 0,.i .i64 1]:=by
  refine aB rfl rfl ?_;simp -implicitDefEqProofs [w1,c1]
 refine ⟨?_, ?_, ?_⟩
 ·refine aY rfl rfl ?_ rfl
  simp at a0;simp -implicitDefEqProofs [a0]
 ·refine aY rfl rfl ?_ rfl
  simp -implicitDefEqProofs [b0]
 ·refine aY rfl rfl ?_ rfl
  simp -implicitDefEqProofs [c0]
theorem aiU {p:List UInt8} {k:Nat} (h:2<=k):(bg p).take k=[81,70]++(aJ p.length++(p++le4 (gy p))).take (k - 2):=by
 obtain ⟨j,rfl⟩:∃j,k=j+2:=⟨k - 2,by omega⟩
 unfold bg;simp
/-- A frame that isn't whole. -/
theorem acQ {p:List UInt8} (hp:p.length<=65536) {k:Nat} (hk:k < (bg p).length):TT.lim 147 [.s ((bg p).take k)]=some [.s [],.i .i64 0,.i .i64 1]:=by
 rw [BJ] at hk;obtain ⟨-,m0,m1⟩:=Vk [];by_cases h0:k=0
 ·subst h0
  rw [F5];refine aY rfl rfl ?_ rfl;simp -implicitDefEqProofs [m0]
 by_cases h1:k=1
 ·subst h1
  have:(bg p).take 1=[81]:=by unfold bg;simp
  rw [this];refine aY rfl rfl ?_ rfl;simp -implicitDefEqProofs [m1]
 have ht:=aiU (p:=p) (k:=k) (by omega);rw [ht];clear ht;have mk:=(Vk ((aJ p.length++(p++le4 (gy p))).take (k - 2))).1;have hv3:=wJ 3 p.length (by omega) (by omega);have hlen:((aJ p.length++(p++le4 (gy p))).take (k - 2)).length=k - 2:=by
  rw [jP];have:(aJ p.length++(p++le4 (gy p))).length=bM p.length+(p.length+4):=by simp [bM,le4]
  omega
 have hg:=qW ((aJ p.length++(p++le4 (gy p))).take (k - 2)) (by omega);have sub:∀ (T:List UInt8) (V:Nat),V<=T.length->List.drop (2+(V:Int)).toNat (List.take ((T.length:Int)+1+1).toNat (81::70::T))=T.drop V:=λT V h=>by
  have e1:((T.length:Int)+1+1).toNat=T.length+2:=by omega
  have e2:(2+(V:Int)).toNat=V+2:=by omega
  rw [e1,e2,jJ (by simp)];rfl
 have aec:∀ (T:List UInt8),List.drop 2 (List.take ((T.length:Int)+1+1).toNat (81::70::T))=T:=λT=>by
  have:=sub T 0 (sW _);exact this
 by_cases hv:k - 2 < bM p.length
 ·rw [aqM hp _ hv] at hg
  generalize (aJ p.length++(p++le4 (gy p))).take (k - 2)=T at *;have l1:(2:Int)<=(T.length:Int)+1+1:=by omega
  have sb:=aec T;refine aY rfl rfl ?_ rfl;simp at mk hg;simp -implicitDefEqProofs [mk,hg,l1,sb]
 ·rw [aqN hp _ (by omega)] at hg
  generalize (aJ p.length++(p++le4 (gy p))).take (k - 2)=T at *;have c1:¬ (65536:Int) < (p.length:Int):=by omega
  generalize bM p.length=V at *;have w1:=wrap64 (n:=2+(V:Int)) (by omega) (by omega);have w2:=wrap64 (n:=(p.length:Int)) (by omega) (by omega);have w3:=wrap64 (n:=(p.length:Int)+4) (by omega) (by omega);have l1:(2:Int)<=(T.length:Int)+1+1:=by omega
  have l2:2+(V:Int)<=(T.length:Int)+1+1:=by omega
  have l3:(0:Int)<=2+(V:Int):=by omega
  have sb:=aec T;have sv:=sub T V (by omega);have lu:(T.drop V).length=T.length - V:=dW;generalize T.drop V=U at *;have l4:(U.length:Int) < (p.length:Int)+4:=by omega
  refine aY rfl rfl ?_ rfl;simp at mk hg;simp -implicitDefEqProofs [mk,hg,c1,w1,w2,w3,l1,l2,l3,sb,sv,l4]
/-- A whole frame. -/
theorem amw {p:List UInt8} (hp:p.length<=65536):TT.lim 147 [.s (bg p)]=some [.s p,.i .i64 ((bg p).length:Nat),.i .i64 0]:=by
 have hck:=agw p hp;have hsz:=aaM p.length hp;have mk:=(Vk (aJ p.length++(p++le4 (gy p)))).1;have hv3:=wJ 3 p.length (by omega) (by omega);have hU:(p++le4 (gy p)).length=p.length+4:=by simp [le4]
 have hlen:(aJ p.length++(p++le4 (gy p))).length=bM p.length+(p.length+4):=by rw [dS,hU];rfl
 have hg:=qW (aJ p.length++(p++le4 (gy p))) (by omega);rw [Ar _ _ (by omega)] at hg;have e0:bg p=81::70::(aJ p.length++(p++le4 (gy p))):=by unfold bg;simp
 have e3:List.take p.length (p++le4 (gy p))=p:=MC;have e4:List.drop p.length (List.take ((p.length:Int)+4).toNat (p++le4 (gy p)))=le4 (gy p):=by
  have:((p.length:Int)+4).toNat=p.length+4:=by omega
  rw [this,jJ (by omega),oM]
 rw [BJ,e0];have sv:List.drop (2+(bM p.length:Int)).toNat (List.take (((aJ p.length++(p++le4 (gy p))).length:Int)+1+1).toNat (81::70::(aJ p.length++(p++le4 (gy p)))))=p++le4 (gy p):=by
  have e1:(((aJ p.length++(p++le4 (gy p))).length:Int)+1+1).toNat=(aJ p.length++(p++le4 (gy p))).length+2:=by omega
  have e2:(2+(bM p.length:Int)).toNat=bM p.length+2:=by omega
  rw [e1,e2,jJ (by simp)];exact oM
 have sb:List.drop 2 (List.take (((aJ p.length++(p++le4 (gy p))).length:Int)+1+1).toNat (81::70::(aJ p.length++(p++le4 (gy p)))))=aJ p.length++(p++le4 (gy p)):=by
  have e1:(((aJ p.length++(p++le4 (gy p))).length:Int)+1+1).toNat=(aJ p.length++(p++le4 (gy p))).length+2:=by omega
  rw [e1,jJ (by simp)];rfl
 change TT.lim 92 [.s (aJ p.length++(p++le4 (gy p)))]=some [.i .u64 (p.length:Nat),.i .i64 (bM p.length:Nat),.i .i64 0] at hg
 have mk:TT.lim 148 [.s (81::70::(aJ p.length++(p++le4 (gy p))))]=some [.i .i64 0]:=mk;generalize p++le4 (gy p)=U at *;generalize le4 (gy p)=F at *;generalize aJ p.length++U=T at *;have c1:¬ (65536:Int) < (p.length:Int):=by omega
 generalize ((2+bM p.length+p.length+4:Nat):Int)=SZ at *;generalize bM p.length=V at *;have w1:=wrap64 (n:=2+(V:Int)) (by omega) (by omega);have w2:=wrap64 (n:=(p.length:Int)) (by omega) (by omega);have w3:=wrap64 (n:=(p.length:Int)+4) (by omega) (by omega);have l1:(2:Int)<=(T.length:Int)+1+1:=by omega
 have l2:2+(V:Int)<=(T.length:Int)+1+1:=by omega
 have l3:(0:Int)<=2+(V:Int):=by omega
 have l4:¬ (U.length:Int) < (p.length:Int)+4:=by omega
 have l5:(p.length:Int)<=(U.length:Int):=by omega
 have l6:(p.length:Int)+4<=(U.length:Int):=by omega
 have l7:(p.length:Int)<=(p.length:Int)+4:=by omega
 refine aY rfl rfl ?_ rfl;simp -implicitDefEqProofs [mk,hg,c1,w1,w2,w3,l1,l2,l3,sb,sv,l4,l5,l6,l7,e3,e4,hck,hsz]
/-- How many bytes the frame has whose beginning this is. -/
theorem aeV (N:Nat) (hN:N<=65536) (s:List UInt8) (hs:s.length<=1000000):∀ (m i n acc j:Nat) (x:List UInt8),s.drop i=(aJ n++x).take j->bM n<=m->2<=i->i+bM n<=5->acc < 128 ^ (i - 2)->acc+n * 128 ^ (i - 2)=N->
 TT.lim 153 [.s s,.i .u64 acc,.i .i64 i]=some (if j < bM n then [.i .i64 1] else [.i .i64 0,.i .i64 ((2+bM N+N+4:Nat):Int)])
 | 0,i,n,acc,j,x,_,hm,_,_,_,_=>by have:=vH n;omega
 | m+1,i,n,acc,j,x,hd,hm,h2,h5,ha,he=>by
   have hp:=vH n;cases j with
   | zero=>
     rw [F5] at hd;have hl:s.length<=i:=List.drop_eq_nil_iff.1 hd;have h:¬ ((i:Int) < s.length):=by omega
     rw [aj hp];refine aB rfl rfl ?_;simp -implicitDefEqProofs [h]
   | succ j=>
     have hM:128 ^ (i - 2)=2 ^ (7 * (i - 2)):=by rw [Nat.pow_mul]
     have hMl:128 ^ (i - 2)<=16384:=iV (Jt (by decide) (show i - 2<=2 by omega)) (by decide);have hMp:0 < 128 ^ (i - 2):=Nat.pow_pos (by decide);have wu:∀y:Int,IntKind.u64.wrap y=y % ((18446744073709551616:Nat):Int):=λy=>by simp [IntKind.wrap,IntKind.signed,IntKind.bits]
     have hlt:i < s.length:=by
      rcases wQ i s.length with h | h
      ·exact h
      ·rw [gJ h] at hd
       have:=qR List.length hd;rw [jP,dS] at this;unfold bM at hp;simp only [qI] at this;omega
     have h:((i:Int) < s.length):=by omega
     have hdc:=jc hlt;rw [hdc] at hd;have w1:=wrap64 (n:=(i:Int) - 2) (by omega) (by omega);have w2:=wrap64 (n:=7 * ((i:Int) - 2)) (by omega) (by omega);have w3:=wrap64 (n:=(i:Int)+1) (by omega) (by omega);have hk:7 * ((i:Int) - 2)=((7 * (i - 2):Nat):Int):=by omega
     have hr:n % 128 * 128 ^ (i - 2)<=127 * 16384:=Nat.mul_le_mul (by omega) hMl;have sh:=Qu (kk:=.u64) (b:=n % 128) (k:=7 * (i - 2)) wu hM (by show _<=64;omega) (by omega);rw [<- hk] at sh;have o:=amh (a:=acc) (b:=n % 128) hM ha (by omega);have hwb:IntKind.u64.wrap ((n % 128:Nat):Int)=((n % 128:Nat):Int):=by rw [wu];omega
     by_cases h1:n < 128
     ·rw [Jd h1] at hm h5 ⊢
      rw [ah (by omega)];rw [yV h1] at hd;have hb:s[i]=UInt8.ofNat n:=(Yg (show s[i]::s.drop (i+1)=UInt8.ofNat n::_ from hd)).1;have hn:(s[i]).toNat=n:=by rw [hb,wI (by omega)]
      have ka:=Nq (s[i]).toNat (by omega);rw [hn] at ka;have e1:n % 128=n:=by omega
      rw [e1] at sh o ka hwb hr;rw [he] at o;have hsz:=aaM N hN;have wN:=wrap64 (n:=(N:Int)) (by omega) (by omega);have c1:(n:Int) < 128:=by omega
      generalize n * 128 ^ (i - 2)=Q at *;generalize ((2+bM N+N+4:Nat):Int)=SZ at *;clear hd hdc;refine aB rfl rfl ?_;simp -implicitDefEqProofs [h,hlt,hn,ka,w1,w2,sh,o,hsz,wN,c1,hwb]
     ·rw [Au h1] at hm h5 ⊢
      rw [CX h1] at hd;have hd2:s.drop (i+1)=(aJ (n / 128)++x).take j:=(Yg (show s[i]::s.drop (i+1)=UInt8.ofNat (n % 128+128)::(aJ (n / 128)++x).take j from hd)).2;have hb:s[i]=UInt8.ofNat (n % 128+128):=(Yg (show s[i]::s.drop (i+1)=UInt8.ofNat (n % 128+128)::(aJ (n / 128)++x).take j from hd)).1;have hn:(s[i]).toNat=n % 128+128:=by rw [hb,wI (by omega)]
      have ka:=Nq (s[i]).toNat (by omega);rw [hn] at ka;have e1:(n % 128+128) % 128=n % 128:=by omega
      rw [e1] at ka;have hpw:128 ^ (i+1 - 2)=128 ^ (i - 2) * 128:=by
       have:i+1 - 2=(i - 2)+1:=by omega
       rw [this,Dn]
      have hdm:n % 128+128 * (n / 128)=n:=by omega
      have hx:n * 128 ^ (i - 2)=n % 128 * 128 ^ (i - 2)+n / 128 * (128 ^ (i - 2) * 128):=by
       have:n * 128 ^ (i - 2)=(n % 128+128 * (n / 128)) * 128 ^ (i - 2):=by rw [hdm]
       rw [this,oN,zh 128 (n / 128),RV,zh 128]
      have ih:=aeV N hN s hs m (i+1) (n / 128) (acc+n % 128 * 128 ^ (i - 2)) j x hd2 (by omega) (by omega) (by omega) (by
       rw [hpw];have:n % 128 * 128 ^ (i - 2)<=127 * 128 ^ (i - 2):=qL _ (by omega);omega) (by rw [hpw];omega)
      have hcast:((i+1:Nat):Int)=(i:Int)+1:=by omega
      rw [hcast] at ih;have hif:(if j+1 < bM (n / 128)+1 then [GV.i .i64 1] else [.i .i64 0,.i .i64 ((2+bM N+N+4:Nat):Int)])=(if j < bM (n / 128) then [GV.i .i64 1] else [.i .i64 0,.i .i64 ((2+bM N+N+4:Nat):Int)]):=by
       by_cases hj:j < bM (n / 128)
       ·rw [aj hj,aj (by omega)]
       ·rw [ah hj,ah (by omega)]
      rw [hif];have c1:¬ ((n % 128+128:Nat):Int) < 128:=by omega
      generalize (if j < bM (n / 128) then [GV.i .i64 1] else [.i .i64 0,.i .i64 ((2+bM N+N+4:Nat):Int)])=OUT at *;clear hd hdc hd2 hx hdm hif hb e1;generalize n % 128 * 128 ^ (i - 2)=Q at *;generalize acc+Q=Z at *;generalize n % 128+128=B at *;generalize n % 128=R at *;refine aB rfl rfl ?_;simp -implicitDefEqProofs [h,hlt,hn,ka,w1,w2,w3,sh,o,c1,hwb,ih]
theorem aeW {p:List UInt8} (hp:p.length<=65536) (k:Nat):TT.lim 152 [.s ((bg p).take k)]=some [.i .i64 (if k < 2+bM p.length then 0 else (bg p).length:Nat)]:=by
 have hl:((bg p).take k).length<=1000000:=by
  have:=BJ p;have:=wJ 3 p.length (by omega) (by omega);rw [jP];omega
 have hv3:=wJ 3 p.length (by omega) (by omega);have hd:((bg p).take k).drop 2=(aJ p.length++(p++le4 (gy p))).take (k - 2):=by
  unfold bg;rw [Df];simp
 have h0:=aeV p.length hp ((bg p).take k) hl 3 2 p.length 0 (k - 2) _ hd (by omega) (by omega) (by omega) (by decide) (by simp);rw [BJ];have h0:TT.lim 153 [.s ((bg p).take k),.i .u64 0,.i .i64 2]=_:=h0;by_cases c:k < 2+bM p.length
 ·have hp2:=vH p.length
  rw [aj (by omega)] at h0;rw [aj c];generalize (bg p).take k=S at *;refine aY rfl rfl ?_ rfl;simp -implicitDefEqProofs [h0]
 ·rw [ah (by omega)] at h0
  rw [ah c];generalize (bg p).take k=S at *;generalize ((2+bM p.length+p.length+4:Nat):Int)=SZ at *;refine aY rfl rfl ?_ rfl;simp -implicitDefEqProofs [h0]
/-- What is fed of a frame that isn't whole stays. -/
theorem ahK {p:List UInt8} (hp:p.length<=65536) {k:Nat} (hk:k < (bg p).length) (nd er ct:GV):TT.lim 154 [.l (bK ((bg p).take k)),nd,er,ct]=some [.i .i64 0,.l [],.l (bK ((bg p).take k)),.i .i64 (if k < 2+bM p.length then 0 else (bg p).length:Nat),er,ct]:=by
 have hpc:=acQ hp hk;have hw:=aeW hp k;have hst:=JJ ((bg p).take k);have hl:(bK ((bg p).take k)).length<=281474976710656:=by
  rw [zB,jP];have:=BJ p;have:=wJ 3 p.length (by omega) (by omega);omega
 have h0:TT.lim 155 [.l [],.s ((bg p).take k),.l (bK ((bg p).take k)),nd,er,ct]=some [.i .i64 0,.l [],.s ((bg p).take k),ct]:=by
  generalize bK ((bg p).take k)=BS at *;generalize (bg p).take k=S at *;refine aB rfl rfl ?_;simp -implicitDefEqProofs [hpc]
 generalize ((if k < 2+bM p.length then 0 else (bg p).length:Nat):Int)=W at *;generalize hBS:bK ((bg p).take k)=BS at *;generalize (bg p).take k=S at *;refine aB rfl rfl ?_;simp -implicitDefEqProofs [hl,hst,h0,hw,hBS]
theorem ahJ {p:List UInt8} (hp:p.length<=65536) (nd er:GV):TT.lim 154 [.l (bK (bg p)),nd,er,.i .i64 0]=some [.i .i64 0,.l [.s p],.l (bK []),.i .i64 0,er,.i .i64 1]:=by
 have hfl:=BJ p;have hv3:=wJ 3 p.length (by omega) (by omega);have hpa:=amw hp;have hpc:=acQ hp (k:=0) (by omega);have hw:=aeW hp 0;rw [F5] at hpc hw;rw [aj (by omega)] at hw;have hst:=JJ (bg p);have hl:(bK (bg p)).length<=281474976710656:=by
  rw [zB];omega
 have w1:=wrap64 (n:=(1:Int)) (by omega) (by omega);have b1:(GV.s p).fJ 1=true:=rfl;have h1:TT.lim 155 [.l [.s p],.s [],.l (bK (bg p)),nd,er,.i .i64 1]=some [.i .i64 0,.l [.s p],.s [],.i .i64 1]:=by
  generalize bK (bg p)=BS at *;refine aB rfl rfl ?_;simp -implicitDefEqProofs [hpc]
 have hdr:List.drop ((bg p).length:Int).toNat (List.take ((bg p).length:Int).toNat (bg p))=[]:=by
  rw [L8,jJ (dN _),gJ (dN _)]
 have h0:TT.lim 155 [.l [],.s (bg p),.l (bK (bg p)),nd,er,.i .i64 0]=some [.i .i64 0,.l [.s p],.s [],.i .i64 1]:=by
  generalize bK (bg p)=BS at *;generalize bg p=S at *;refine aB rfl rfl ?_;simp -implicitDefEqProofs [hpa,h1,hdr,b1,w1]
 generalize hBS:bK (bg p)=BS at *;generalize bg p=S at *;refine aB rfl rfl ?_;simp -implicitDefEqProofs [hl,hst,h0,hw,hBS]
theorem aiD {p:List UInt8} (hp:p.length<=65536) {k:Nat} (hk:k < (bg p).length):TT.lim 143 [.l [.s ((bg p).take k),.s ((bg p).drop k)],.i .i64 0,.i .i64 0,.i .i64 0]=some [.i .i64 0,.l [.s p],.l (bK []),.i .i64 0,.i .i64 0,.i .i64 1]:=by
 have hfl:=BJ p;have hv3:=wJ 3 p.length (by omega) (by omega);have d1:=ahK hp hk (.i .i64 0) (.i .i64 0) (.i .i64 0);have d2:=ahJ hp (.i .i64 (if k < 2+bM p.length then 0 else (bg p).length:Nat)) (.i .i64 0);have ajx:bK ((bg p).take k)++bK ((bg p).drop k)=bK (bg p):=by rw [<- NC,xR]
 have hW:(if k < 2+bM p.length then 0 else (bg p).length:Nat)<=(bg p).length:=by split<;>omega
 have l1:(bK ((bg p).take k)).length=k:=by rw [zB,jP];omega
 have l2:(bK (bg p)).length=(bg p).length:=zB _;have l3:(bK ((bg p).drop k)).length=(bg p).length - k:=by rw [zB,dW]
 have o1:=DJ ((bg p).take k);have o2:=DJ ((bg p).drop k);generalize (if k < 2+bM p.length then 0 else (bg p).length:Nat)=W at *;have b1:(GV.s p).fJ 1=true:=rfl;have w1:=wrap64 (n:=(1:Int)) (by omega) (by omega);have w2:=wrap64 (n:=(2:Int)) (by omega) (by omega);have bn:bK []=[]:=rfl;rw [bn] at d2 ⊢;have hk1:k<=65545:=by omega
 have s3:TT.lim 144 [.l [.s p],.l [.s ((bg p).take k),.s ((bg p).drop k)],.i .i64 2,.i .i64 2,.l [],.i .i64 0,.i .i64 0,.i .i64 1]=some [.i .i64 0,.l [.s p],.l [],.i .i64 0,.i .i64 0,.i .i64 1]:=by
  generalize (bg p).take k=S1 at *;generalize (bg p).drop k=S2 at *;refine aB rfl rfl ?_;simp -implicitDefEqProofs
 have s2:TT.lim 144 [.l [],.l [.s ((bg p).take k),.s ((bg p).drop k)],.i .i64 2,.i .i64 1,.l (bK ((bg p).take k)),.i .i64 W,.i .i64 0,.i .i64 0]=some [.i .i64 0,.l [.s p],.l [],.i .i64 0,.i .i64 0,.i .i64 1]:=by
  have q1:2 * ((bK ((bg p).take k)).length+(bK ((bg p).drop k)).length)<=281474976710656/\(bK ((bg p).take k)).length+(bK ((bg p).drop k)).length<=281474976710656:=by omega
  have q2:(W:Int)<=((bK (bg p)).length:Int):=by omega
  generalize hB:bK ((bg p).drop k)=B at *;generalize bK ((bg p).take k)=A at *;generalize bK (bg p)=F at *;generalize (bg p).take k=S1 at *;generalize (bg p).drop k=S2 at *;refine aB rfl rfl ?_;simp -implicitDefEqProofs [-zB,hB,o1,o2,q1,q2,ajx,d2,b1,w2,s3]
 have s1:TT.lim 144 [.l [],.l [.s ((bg p).take k),.s ((bg p).drop k)],.i .i64 2,.i .i64 0,.l [],.i .i64 0,.i .i64 0,.i .i64 0]=some [.i .i64 0,.l [.s p],.l [],.i .i64 0,.i .i64 0,.i .i64 1]:=by
  have q1:2 * (bK ((bg p).take k)).length<=281474976710656/\(bK ((bg p).take k)).length<=281474976710656:=by omega
  have q2:(0:Int)<=((bK ((bg p).take k)).length:Int):=by omega
  generalize hA:bK ((bg p).take k)=A at *;generalize (bg p).take k=S1 at *;generalize (bg p).drop k=S2 at *;refine aB rfl rfl ?_;simp -implicitDefEqProofs [-zB,hA,o1,q1,q2,d1,w1,s2]
 generalize (bg p).take k=S1 at *;generalize (bg p).drop k=S2 at *;refine aB rfl rfl ?_;simp -implicitDefEqProofs [s1]
theorem ahE {s:List UInt8} {v:Int} (h:(jE s v).2.2≠0):(jE s v).1=dw/\(jE s v).2.1=[]:=by
 unfold jE at h ⊢;by_cases c0:v < 1
 ·rw [aj c0];exact ⟨rfl,rfl⟩
 rw [ah c0] at h ⊢;by_cases c1:3 < v
 ·rw [aj c1];exact ⟨rfl,rfl⟩
 rw [ah c1] at h ⊢;by_cases c2:65536 < s.length
 ·rw [aj c2];exact ⟨rfl,rfl⟩
 rw [ah c2] at h ⊢;by_cases c3:(ak s).2.2≠0
 ·rw [aj c3];exact ⟨rfl,rfl⟩
 rw [ah c3] at h ⊢;by_cases c4:8 < (ak s).1
 ·rw [aj c4];exact ⟨rfl,rfl⟩
 rw [ah c4] at h ⊢;by_cases c5:jw (ak s).1=0
 ·rw [aj c5];exact ⟨rfl,rfl⟩
 rw [ah c5] at h ⊢;by_cases c6:v < jw (ak s).1
 ·rw [aj c6];exact ⟨rfl,rfl⟩
 rw [ah c6] at h ⊢;by_cases c7:(jY (s.drop (ak s).2.1)).2≠0
 ·rw [aj c7];exact ⟨rfl,rfl⟩
 rw [ah c7] at h ⊢;simp only at h ⊢;generalize iQ (aH (ak s).1 v) { dw with kind:=((ak s).1:Nat) } (iZ (aH (ak s).1 v) (jY (s.drop (ak s).2.1)).1)=R at *;by_cases d1:R.2≠0
 ·rw [aj d1];exact ⟨rfl,rfl⟩
 rw [ah d1] at h ⊢;by_cases d2:fZ R.1 (iK (aH (ak s).1 v) (jY (s.drop (ak s).2.1)).1) v≠0
 ·rw [aj d2];exact ⟨rfl,rfl⟩
 rw [ah d2] at h;exact absurd rfl h
theorem aiV {b:aK} {fl:List aC} (hm:zq b fl) (v:Int) (h:(lV b fl v).2=0):TT.lim 125 [fC b (aA fl),.i .i64 v]=some [.s (bg (lV b fl v).1),.i .i64 0]:=by
 have k:=P8 hm v;have hw:=aqY (lV b fl v).1 (ahV b fl v);rw [h] at k;generalize bg (lV b fl v).1=F at *;generalize (lV b fl v).1=E at *;generalize aA fl=r at *;refine aY rfl rfl ?_ rfl;simp -implicitDefEqProofs (maxSteps:=10000000) [↓xq,kQ,k,hw]
set_option maxHeartbeats 4000000 in
theorem schemaBack (gs:List GV) (h:hasArgs [(true,adA),(false,[.int .i64]),(false,[.str]),(false,[.int .u16])] gs):TT.lim 1 gs=some [.b true]:=by
 obtain ⟨c1,gs,rfl,h1,h⟩:=ajo h;obtain ⟨g2,gs,rfl,h2,h⟩:=Un h;obtain ⟨g3,gs,rfl,h3,h⟩:=Un h;obtain ⟨g4,gs,rfl,h4,h⟩:=Un h;obtain rfl:=ajp h;obtain ⟨b,l,hb,hl,e⟩:=anI h1;simp only [bT.has] at h2 h3 h4;obtain ⟨v,rfl, -⟩:=h2;obtain ⟨s,rfl, -⟩:=h3;obtain ⟨c,rfl,c0,c2⟩:=h4;have c0:0<=c:=by simpa [IntKind.min,IntKind.signed] using c0
 have c2:c < 65536:=by simp [IntKind.max,IntKind.signed,IntKind.bits] at c2;omega
 rw [e];have hf:=aiF b l hb hl;clear h1 h e;cases hfw:G6 b l with
 | false=>
   rw [hfw] at hf;refine aY rfl rfl ?_ rfl;simp -implicitDefEqProofs [kQ,hf]
 | true=>
 rw [hfw] at hf;by_cases c6:6000 < s.length
 ·have Gw:(6000:Int) < s.length:=by omega
  refine aY rfl rfl ?_ rfl;simp -implicitDefEqProofs [kQ,hf,Gw]
 have Gw:¬ (6000:Int) < s.length:=by omega
 obtain ⟨mo,msz,f8⟩:=anJ hb hl hfw;have h60:l.length<=60:=by
  unfold tX at f8;rw [aI,decide_eq_true_iff] at f8;exact f8.2
 have hsz:=abZ l;have hw8:=ak6 l f8;have hsh:Short b:=by
  unfold G6 at hfw;simp only [aI,decide_eq_true_iff] at hfw;exact ⟨hfw.1,hfw.2.1,hfw.2.2.1⟩
 have wo:zq b (rX l):=⟨mo,hsh,by omega,by omega⟩
 have hm:=ak3 b l hl f8;generalize rX l=fl at *;generalize l.map one=L1 at *;have k1:=P8 wo v;have kd:=decode_ok s v (by omega)
 -- what any bytes are
 have fin:∀ (P:Prop),((jE s v).2.2≠0->TT.lim 91 [.s s,.i .i64 v]=some [fC dw [],.i .i64 (jE s v).2.2]->TT.lim 132 [fC dw [],fC dw []]=some [.b true]->P)->
  (∀ (B:aK) (r:List GV),TT.lim 91 [.s s,.i .i64 v]=some [fC B r,.i .i64 0]->TT.lim 20 [fC B r,.i .i64 v]=some [.s s,.i .i64 0]->TT.lim 22 [fC B r,.i .i64 v]=some [.i .i64 0]->P)->P:=λP p1 p2=>by
  by_cases e:(jE s v).2.2=0
  ·have w:=ahH e
   obtain ⟨q1,q2⟩:=ahI e;have ke:=P8 w v;have kc:=Vp (jE s v).1 (jE s v).2.1 v w.msg.body w.msg.t.few w.msg.f8 w.msg.len;rw [q1] at ke;rw [q2] at kc;rw [e] at kd;exact p2 _ _ kd ke kc
  ·obtain ⟨q1,q2⟩:=ahE e
   have fn:aA []=[]:=by simp only [aA]
   have ks:=CZ.acn (by simp [bV]);rw [q1,q2,fn] at kd;rw [fn] at ks;exact p1 e kd ks
 generalize (jE s v).2.2=DE at *;by_cases ce:(lV b fl v).2=0;rotate_left
 ·have kg:=ajj wo v
  rw [Bo ce] at kg;have kb:=ahU b fl v ce;rw [kb] at k1;clear kd wo mo hsh hw8 hsz h60 f8 msz hfw hl hb kb;generalize (lV b fl v).2=EE at *;generalize aA fl=r1 at *;refine fin _ (λa d1 d2=>?_) (λB r d1 d2 d3=>?_)
  ·rw [<- ae1] at d1 d2
   refine aY rfl rfl ?_ rfl;simp -implicitDefEqProofs (maxSteps:=10000000) [↓xq,kQ,hf,hm,Gw,k1,kg,ce,d1,d2,a]
  ·refine aY rfl rfl ?_ rfl
   simp -implicitDefEqProofs (maxSteps:=10000000) [↓xq,kQ,hf,hm,Gw,k1,kg,ce,d1,d2,d3]
 obtain ⟨hc,hlen,hen⟩:=ahW ce;have kf:=aiV wo v ce;rw [hen] at k1 kf;obtain ⟨v1,v3,vne, -, -⟩:=zF hc;have hfr:jw b.kind<=v:=by
  have h0:=mt (KJ b.kind v v1 v3).2 vne;omega
 have d0:=anU wo hc v1 (FW v) hfr hlen;obtain ⟨s1,s2⟩:=anV hc;rw [s1,s2] at d0;have ko:=decode_ok (bytesV b fl v) v (by omega);rw [d0] at ko;have ks:=wo.msg.acn (iV wo.sz (by decide));have hF:=BJ (bytesV b fl v);have hFl:0 < (bg (bytesV b fl v)).length:=by omega
 obtain ⟨K,hK⟩:∃K:Nat,K=c.toNat % (bg (bytesV b fl v)).length:=⟨_,rfl⟩
 have hKl:K < (bg (bytesV b fl v)).length:=by rw [hK];exact Nat.mod_lt _ hFl
 have hfd:=aiD hlen hKl;have hmod:c.tmod ((bg (bytesV b fl v)).length:Int)=(K:Int):=by
  rw [Int.tmod_eq_emod_of_nonneg c0,hK];have:c=(c.toNat:Int):=by omega
  rw [this,L8];rfl
 have hv3:=wJ 3 (bytesV b fl v).length (by omega) (by omega);have wc:=wrap64 (n:=c) (by omega) (by omega);have n0:¬ ((bg (bytesV b fl v)).length:Int)=0:=by omega
 have n1:¬ bg (bytesV b fl v)=[]:=λe=>by rw [e] at hFl;exact absurd hFl (by decide)
 have l1:(K:Int)<=((bg (bytesV b fl v)).length:Int):=by omega
 have hdt:List.drop K (bg (bytesV b fl v))=List.drop K (List.take (bg (bytesV b fl v)).length (bg (bytesV b fl v))):=by rw [jJ (dN _)]
 have bn:bK []=[]:=rfl;rw [bn] at hfd;clear kd wo mo hsh hw8 hsz h60 f8 msz hfw hl hb hF hFl hK hKl hdt hen ce d0 s1 s2 hc v1 v3 vne hfr;generalize bg (bytesV b fl v)=F at *;generalize bytesV b fl v=BY at *;generalize aA fl=r1 at *;refine fin _ (λa d1 d2=>?_) (λB r d1 d2 d3=>?_)
 ·rw [<- ae1] at d1 d2
  refine aY rfl rfl ?_ rfl;simp -implicitDefEqProofs (maxSteps:=10000000) [↓xq,kQ,hf,hm,Gw,k1,kf,ko,ks,hfd,hmod,wc,n0,n1,l1,d1,d2,a]
 ·refine aY rfl rfl ?_ rfl
  simp -implicitDefEqProofs (maxSteps:=10000000) [↓xq,kQ,hf,hm,Gw,k1,kf,ko,ks,hfd,hmod,wc,n0,n1,l1,d1,d2,d3]
end S
end Go.Proofs.YtnlegpmfkopalaaGreatDoor
