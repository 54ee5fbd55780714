/- What the trees compute: plain laws. -/
import Derived.Test.YthgifdbaegpbpaaGreatDoorKKe1
namespace Go.Proofs.YthgifdbaegpbpaaGreatDoor
open Go Go.aN
set_option linter.unusedSimpArgs false
set_option linter.unusedVariables false
set_option maxRecDepth 100000
namespace K
structure One where
 deep:Int
 tag:Int
 typ:Int
 num:Int
 text:List UInt8
inductive aF where
 | mk (tag typ num:Int) (text:List UInt8) (l:List aF)
def one (x:One):GV:=.g [.i .u8 x.deep,.i .u64 x.tag,.i .i8 x.typ,.i .u64 x.num,.s x.text]
@[simp] theorem aum (x:One):(one x).cells=[.i .u8 x.deep,.i .u64 x.tag,.i .i8 x.typ,.i .u64 x.num,.s x.text]:=rfl
mutual
def nO:aF->GV
 | .mk t y n s l=>.g [.i .u64 t,.i .i64 y,.i .u64 n,.s s,.l (aC l)]
def aC:List aF->List GV
 | []=>[]
 | f::l=>nO f::aC l
end
theorem TP:∀ (a b:List aF),aC (a++b)=aC a++aC b
 | [],b=>rfl
 | f::a,b=>by simp only [dW,aC,TP a b]
theorem kU:∀ (a:List aF),(aC a).length=a.length
 | []=>rfl
 | f::a=>by simp only [aC,iV,kU a]
def Bj (x:One):Prop:=0<=x.deep/\x.deep<=255/\-128<=x.typ/\x.typ<=127/\0<=x.tag/\x.tag < 18446744073709551616/\0<=x.num/\x.num < 18446744073709551616/\x.text.length<=140737488351232
def Ones (l:List One):Prop:=l.length<=140737488351232/\∀x∈l,Bj x
def uD (l:List One):Bool:=l.all (λx=>decide (x.text.length<=300))&&decide (l.length<=60)
theorem aaF (l:List One) (hl:l.length<=140737488351232):∀m i:Nat,i+m=l.length->TT.lim 15 [.l (l.map one),.i .i64 l.length,.i .i64 i]=some (if (l.drop i).all (λx=>decide (x.text.length<=300))=true then [.i .i64 1] else [.i .i64 0])
 | 0,i,hi=>by
   have h0:l.drop i=[]:=gZ (by omega);refine aA rfl rfl ?_;have h:¬ ((i:Int) < l.length):=by omega
   simp [h,h0]
 | m+1,i,hi=>by
   have hlt:i < l.length:=by omega
   have ih:TT.lim 15 [.l (l.map one),.i .i64 l.length,.i .i64 ((i:Int)+1)]=_:=aaF l hl m (i+1) (by omega);refine aA rfl rfl ?_;have h:((i:Int) < l.length):=by omega
   have hw:=wrap64 (n:=(i:Int)+1) (by omega) (by omega);have hda:(l.drop i).all (λx=>decide (x.text.length<=300))=(decide (l[i].text.length<=300)&&(l.drop (i+1)).all (λx=>decide (x.text.length<=300))):=by rw [jw hlt,sF]
   by_cases hf:(300:Int) < (l[i].text.length:Int)
   ·have:decide (l[i].text.length<=300)=false:=by simp;omega
    simp [-List.all_eq_true,h,hlt,hf,hda,this]
   ·have:decide (l[i].text.length<=300)=true:=by simp;omega
    rw [hda,this,I5];simp [-List.all_eq_true,h,hlt,hw,hf,ih]
theorem ahz (l:List One) (hl:l.length<=140737488351232):TT.lim 14 [.l (l.map one)]=some [.b (uD l)]:=by
 refine aY rfl rfl ?_ rfl;have h5:TT.lim 15 [.l (l.map one),.i .i64 l.length,.i .i64 0]=_:=aaF l hl l.length 0 (by omega);rw [eH] at h5;cases hc:l.all (λx=>decide (x.text.length<=300)) with
 | false=>rw [hc] at h5;simp [-List.all_eq_true,h5,uD,hc]
 | true=>
   rw [hc] at h5;simp only [if_true] at h5;have:(decide ((l.length:Int)<=60))=decide (l.length<=60):=by rw [qE];simp;omega
   simp [-List.all_eq_true,h5,uD,hc,this]
/-- What Make makes: of the first ones that are at least so deep; and the others. -/
def fA:Nat->List One->Int->List aF×List One
 | 0,l,_=>([],l)
 | _+1,[],_=>([],[])
 | n+1,x::l,deep=>
   if deep<=x.deep then
    let p:=if x.deep=255 then ([],l) else fA n l (x.deep+1)
    let q:=fA n p.2 deep
    (.mk x.tag x.typ x.num x.text p.1::q.1,q.2)
   else ([],x::l)
theorem Eb:∀ (n:Nat) (l:List One) (deep:Int),(fA n l deep).1.length+(fA n l deep).2.length<=l.length/\∃k,(fA n l deep).2=l.drop k
 | 0,l,deep=>by simp only [fA];exact ⟨by simp,0,rfl⟩
 | n+1,[],deep=>by simp only [fA];exact ⟨by simp,0,rfl⟩
 | n+1,x::l,deep=>by
   simp only [fA];split
   ·by_cases hx:x.deep=255
    ·rw [aj hx]
     obtain ⟨h1,k,h2⟩:=Eb n l deep;refine ⟨by simp only [iV];omega,k+1,by simp only [h2,Jc]⟩
    ·rw [ah hx]
     obtain ⟨h1,k,h2⟩:=Eb n l (x.deep+1);obtain ⟨h3,k',h4⟩:=Eb n (fA n l (x.deep+1)).2 deep;refine ⟨by simp only [iV];omega,k+k'+1, ?_⟩;simp only [h4,Jc];rw [h2,oW]
   ·exact ⟨by simp,0,rfl⟩
def He (x:One) (l:List aF):GV:=.g [.i .u64 x.tag,.i .i64 x.typ,.i .u64 x.num,.s x.text,.l (aC l)]
theorem Oz:∀ (n:Nat) (l:List One) (deep:Int) (acc:List aF),l.length < n->acc.length+l.length<=1000000->(∀x∈l,Bj x)->
 TT.lim 19 [.l (l.map one),.i .u8 deep,.l (aC acc)]=some [.i .i64 0,.l ((fA n l deep).2.map one),.l (aC (acc++(fA n l deep).1))]
 | 0,l,deep,acc,hn,_,_=>by omega
 | n+1,[],deep,acc,hn,hb,hl=>by
   refine aA rfl rfl ?_;simp [fA]
 | n+1,x::l,deep,acc,hn,hb,hl=>by
   have hx:=hl x (by simp);have hl':∀y∈l,Bj y:=λy hy=>hl y (by simp [hy]);simp only [iV] at hn hb;have hw:=wrap64 (n:=x.typ) (by have:=hx.2.2.1;omega) (by have:=hx.2.2.2.1;omega);have hb2:2 * ((aC acc).length+1) * 64<=281474976710656:=by rw [kU];omega
   have hb3:(aC acc).length<=281474976710655:=by rw [kU];omega
   have hcast:((l.length:Int)+1).toNat=l.length+1:=by omega
   have h1:(1:Int)<=(l.length:Int)+1:=by omega
   have htake:List.take l.length (l.map one)=l.map one:=mQ (by simp);have hall:∀y∈l.map one,y.cells.length=5:=by
    intro y hy;obtain ⟨z,_,rfl⟩:=nM.1 hy;rfl
   refine aA rfl rfl ?_;by_cases hd:deep<=x.deep
   ·by_cases OH:x.deep=255
    ·have ih:=Oz n l deep (acc++[.mk x.tag x.typ x.num x.text []]) (by omega) (by simp;omega) hl'
     have e:fA (n+1) (x::l) deep=(.mk x.tag x.typ x.num x.text []::(fA n l deep).1,(fA n l deep).2):=by
      simp only [fA,aj hd,aj OH]
     rw [e];rw [List.append_assoc,TP] at ih;have e2:aC [aF.mk x.tag x.typ x.num x.text []]=[He x []]:=rfl;rw [e2] at ih;have hel:(He x []).fO 5=true:=rfl;have hfold:GV.g [.i .u64 x.tag,.i .i64 x.typ,.i .u64 x.num,.s x.text,.l []]=He x []:=rfl;have h0:(0:Int) < (l.length:Int)+1:=by omega
     have hd2:deep<=255:=by omega
     simp [hd2,OH,hw,hfold,hel,hb2,hb3,hall,h0,h1,htake,hcast,ih]
    ·have hf:=Eb n l (x.deep+1)
     have ih1:=Oz n l (x.deep+1) [] (by omega) (by simp;omega) hl';have hk:TT.lim 18 [.l (l.map one),.i .u8 (x.deep+1)]=some [.l (aC (fA n l (x.deep+1)).1),.l ((fA n l (x.deep+1)).2.map one)]:=by
      refine aY rfl rfl ?_ rfl;have ih1':TT.lim 19 [.l (l.map one),.i .u8 (x.deep+1),.l []]=_:=ih1;simp [ih1']
     have ih2:=Oz n (fA n l (x.deep+1)).2 deep (acc++[.mk x.tag x.typ x.num x.text (fA n l (x.deep+1)).1]) (by omega) (by simp;omega) (λy hy=>by
      obtain ⟨_,k,e⟩:=hf;rw [e] at hy;exact hl' y (Bh hy))
     have e:fA (n+1) (x::l) deep=(.mk x.tag x.typ x.num x.text (fA n l (x.deep+1)).1::(fA n (fA n l (x.deep+1)).2 deep).1,(fA n (fA n l (x.deep+1)).2 deep).2):=by
      simp only [fA,aj hd,ah OH]
     rw [e];rw [List.append_assoc,TP] at ih2;generalize fA n l (x.deep+1)=p at *;obtain ⟨p1,p2⟩:=p;simp only at *;have e2:aC [aF.mk x.tag x.typ x.num x.text p1]=[He x p1]:=rfl;rw [e2] at ih2;have hel:(He x p1).fO 5=true:=rfl;have hfold:GV.g [.i .u64 x.tag,.i .i64 x.typ,.i .u64 x.num,.s x.text,.l (aC p1)]=He x p1:=rfl;have h0:(0:Int) < (l.length:Int)+1:=by omega
     have hw8:=aex (n:=x.deep+1) (by have:=hx.1;omega) (by have:=hx.2.1;omega);simp [hd,OH,hw,hw8,hk,hfold,hel,hb2,hb3,hall,h0,h1,htake,hcast,ih2]
   ·have e:fA (n+1) (x::l) deep=([],x::l):=by simp only [fA,ah hd]
    rw [e];have h0:(0:Int) < (l.length:Int)+1:=by omega
    simp [hd,h0]
def tC (l:List One):List aF:=(fA (l.length+1) l 0).1
theorem aj9 (l:List One) (hl:∀x∈l,Bj x) (h60:l.length<=1000000):TT.lim 17 [.l (l.map one)]=some [.l (aC (tC l))]:=by
 have hk:TT.lim 18 [.l (l.map one),.i .u8 0]=some [.l (aC (tC l)),.l ((fA (l.length+1) l 0).2.map one)]:=by
  refine aY rfl rfl ?_ rfl;have ih1:TT.lim 19 [.l (l.map one),.i .u8 0,.l []]=_:=Oz (l.length+1) l 0 [] (by omega) (by simp;omega) hl;simp [ih1,tC]
 refine aY rfl rfl ?_ rfl;simp [hk]
structure aB where
 kind:Int
 id:Int
 min:Int
 max:Int
 chosen:Int
 flags:Int
 cost:Int
 priority:Int
 deadline:Int
 retry:Int
 epoch:Int
 base:Int
 digest:Int
 lag:Int
 code:Int
 want:Int
 remaining:Int
 allowed:Bool
 name:List UInt8
 region:List UInt8
 note:List UInt8
 d:List dn
 t:List Row
/-- A message: what it has, and its rest. -/
def eY (b:aB) (r:List GV):GV:=.g [.i .i64 b.kind,.i .u64 b.id,.i .u64 b.min,.i .u64 b.max,.i .u64 b.chosen,.i .u64 b.flags,.i .u64 b.cost,.i .u64 b.priority,.i .u64 b.deadline,.i .u64 b.retry,.i .u64 b.epoch,.i .u64 b.base,.i .u64 b.digest,.i .u64 b.lag,.i .u64 b.code,.i .u64 b.want,.i .i64 b.remaining,.b b.allowed,.s b.name,.s b.region,.s b.note,.l (b.d.map ent),.l (b.t.map row),.l r]
theorem kG (b:aB) (r:List GV):GV.g [.i .i64 b.kind,.i .u64 b.id,.i .u64 b.min,.i .u64 b.max,.i .u64 b.chosen,.i .u64 b.flags,.i .u64 b.cost,.i .u64 b.priority,.i .u64 b.deadline,.i .u64 b.retry,.i .u64 b.epoch,.i .u64 b.base,.i .u64 b.digest,.i .u64 b.lag,.i .u64 b.code,.i .u64 b.want,.i .i64 b.remaining,.b b.allowed,.s b.name,.s b.region,.s b.note,.l (b.d.map ent),.l (b.t.map row),.l r]=eY b r:=rfl
@[simp] theorem dR (b:aB) (r:List GV):(eY b r).cells=[.i .i64 b.kind,.i .u64 b.id,.i .u64 b.min,.i .u64 b.max,.i .u64 b.chosen,.i .u64 b.flags,.i .u64 b.cost,.i .u64 b.priority,.i .u64 b.deadline,.i .u64 b.retry,.i .u64 b.epoch,.i .u64 b.base,.i .u64 b.digest,.i .u64 b.lag,.i .u64 b.code,.i .u64 b.want,.i .i64 b.remaining,.b b.allowed,.s b.name,.s b.region,.s b.note,.l (b.d.map ent),.l (b.t.map row),.l r]:=rfl
structure mM (b:aB):Prop where
 kind : -9223372036854775808<=b.kind/\b.kind<=9223372036854775807
 id:0<=b.id/\b.id < 18446744073709551616
 min:0<=b.min/\b.min < 18446744073709551616
 max:0<=b.max/\b.max < 18446744073709551616
 chosen:0<=b.chosen/\b.chosen < 18446744073709551616
 flags:0<=b.flags/\b.flags < 18446744073709551616
 cost:0<=b.cost/\b.cost < 18446744073709551616
 priority:0<=b.priority/\b.priority < 18446744073709551616
 deadline:0<=b.deadline/\b.deadline < 18446744073709551616
 retry:0<=b.retry/\b.retry < 18446744073709551616
 epoch:0<=b.epoch/\b.epoch < 18446744073709551616
 base:0<=b.base/\b.base < 18446744073709551616
 digest:0<=b.digest/\b.digest < 18446744073709551616
 lag:0<=b.lag/\b.lag < 18446744073709551616
 code:0<=b.code/\b.code < 18446744073709551616
 want:0<=b.want/\b.want < 18446744073709551616
 remaining : -9223372036854775808<=b.remaining/\b.remaining<=9223372036854775807
 name:b.name.length<=140737488351232
 region:b.region.length<=140737488351232
 note:b.note.length<=140737488351232
 d:uZ b.d
 t:Rows b.t
def G5 (b:aB) (l:List One):Bool:=decide (b.name.length<=600)&&(decide (b.region.length<=600)&&(decide (b.note.length<=600)&&(iF b.d&&(BU b.t&&uD l))))
theorem ahx (b:aB) (l:List One) (hb:mM b) (hl:Ones l):TT.lim 2 [eY b (l.map one)]=some [.b (G5 b l)]:=by
 have h12:=aaE b.d hb.d;have h13:=ahy b.t hb.t;have h8:=ahz l hl.1;have e1:(decide ((b.name.length:Int)<=600))=decide (b.name.length<=600):=by rw [qE];simp;omega
 have e2:(decide ((b.region.length:Int)<=600))=decide (b.region.length<=600):=by rw [qE];simp;omega
 have e3:(decide ((b.note.length:Int)<=600))=decide (b.note.length<=600):=by rw [qE];simp;omega
 refine aY rfl rfl ?_ rfl;unfold G5;generalize iF b.d=c1 at *;generalize BU b.t=c2 at *;generalize uD l=c3 at *;cases f1:decide (b.name.length<=600) with
 | false=>rw [f1] at e1;simp at e1;have e1':¬ ((b.name.length:Int)<=600):=by omega
          simp [e1']
 | true=>
 rw [f1] at e1;have e1':((b.name.length:Int)<=600):=by simpa using e1
 cases f2:decide (b.region.length<=600) with
 | false=>rw [f2] at e2;simp at e2;have e2':¬ ((b.region.length:Int)<=600):=by omega
          simp [e1',e2']
 | true=>
 rw [f2] at e2;have e2':((b.region.length:Int)<=600):=by simpa using e2
 cases f3:decide (b.note.length<=600) with
 | false=>rw [f3] at e3;simp at e3;have e3':¬ ((b.note.length:Int)<=600):=by omega
          simp [e1',e2',e3']
 | true=>
 rw [f3] at e3;have e3':((b.note.length:Int)<=600):=by simpa using e3
 cases c1<;>cases c2<;>simp [e1',e2',e3',h12,h13,h8]
theorem aj7 (b:aB) (l:List One) (hl:Ones l) (hf:uD l=true):TT.lim 16 [eY b (l.map one)]=some [eY b (aC (tC l))]:=by
 have h8:l.length<=60:=by unfold uD at hf;rw [aI,decide_eq_true_iff] at hf;exact hf.2
 have hm:=aj9 l hl.2 (by omega);refine aY rfl rfl ?_ rfl;simp [hm,kG]
theorem Ui {k:IntKind} {g:GV} (h:(bI.int k).has g):∃n,g=.i k n/\k.min<=n/\n<=k.max:=by
 simp only [bI.has] at h;exact h
theorem aa5 {g:GV} (h:(bI.int .i64).has g):∃n,g=.i .i64 n/\-9223372036854775808<=n/\n<=9223372036854775807:=by
 obtain ⟨n,rfl,h1,h2⟩:=Ui h;exact ⟨n,rfl,by simpa [IntKind.min,IntKind.signed,IntKind.bits] using h1,by simpa [IntKind.max,IntKind.signed,IntKind.bits] using h2⟩
theorem aiC {g:GV} (h:bI.bool.has g):∃b,g=.b b:=by simpa only [bI.has] using h
theorem agX {g:GV} (h:(bI.list true [.str,.str]).has g):∃l:List dn,uZ l/\g=.l (l.map ent):=by
 obtain ⟨xs,rfl,h1,h2⟩:=OO h;obtain ⟨rs,h3,rfl⟩:=KF (f:=ent) (p:=λr:dn=>r.1.length<=140737488351232/\r.2.length<=140737488351232) λx hx=>by
  obtain ⟨h4,h5⟩:=h2 x hx;cases x<;>simp [GV.scalar] at h5
  next cs=>
  simp only [SH] at h4;obtain ⟨a,r,rfl,ha,h4⟩:=iL h4;obtain ⟨c,r,rfl,hc,h4⟩:=iL h4;obtain rfl:=Ko h4;obtain ⟨u,rfl,hu⟩:=Cc ha;obtain ⟨v,rfl,hv⟩:=Cc hc;exact ⟨(u,v),⟨hu,hv⟩,rfl⟩
 exact ⟨rs,⟨by rw [wC] at h1;exact h1,h3⟩,rfl⟩
theorem alB {g:GV} (h:(bI.list true [.int .u8,.int .u64,.int .i8,.int .u64,.str]).has g):∃l:List One,Ones l/\g=.l (l.map one):=by
 obtain ⟨xs,rfl,h1,h2⟩:=OO h;obtain ⟨rs,h3,rfl⟩:=KF (f:=one) (p:=Bj) λx hx=>by
  obtain ⟨h4,h5⟩:=h2 x hx;cases x<;>simp [GV.scalar] at h5
  next cs=>
  simp only [SH] at h4;obtain ⟨a,r,rfl,ha,h4⟩:=iL h4;obtain ⟨c,r,rfl,hc,h4⟩:=iL h4;obtain ⟨e,r,rfl,he,h4⟩:=iL h4;obtain ⟨f,r,rfl,hf,h4⟩:=iL h4;obtain ⟨s,r,rfl,hs,h4⟩:=iL h4;obtain rfl:=Ko h4;obtain ⟨a,rfl,a1,a2⟩:=Ui ha;obtain ⟨c,rfl,c1,c2⟩:=qp hc;obtain ⟨e,rfl,e1,e2⟩:=Ui he;obtain ⟨f,rfl,f1,f2⟩:=qp hf;obtain ⟨s,rfl,hs0⟩:=Cc hs;have a1':0<=a:=by simpa [IntKind.min,IntKind.signed] using a1
  have a2':a<=255:=by simpa [IntKind.max,IntKind.signed,IntKind.bits] using a2
  have e1' : -128<=e:=by simpa [IntKind.min,IntKind.signed,IntKind.bits] using e1
  have e2':e<=127:=by simpa [IntKind.max,IntKind.signed,IntKind.bits] using e2
  exact ⟨⟨a,c,e,f,s⟩,⟨a1',a2',e1',e2',c1,c2,f1,f2,hs0⟩,rfl⟩
 exact ⟨rs,⟨by rw [wC] at h1;exact h1,h3⟩,rfl⟩
abbrev ac9:List bI:=[.int .i64,.int .u64,.int .u64,.int .u64,.int .u64,.int .u64,.int .u64,.int .u64,.int .u64,.int .u64,.int .u64,.int .u64,.int .u64,.int .u64,.int .u64,.int .u64,.int .i64,.bool,.str,.str,.str,.list true [.str,.str],.list true [.list true [.str,.str],.int .u64],.list true [.int .u8,.int .u64,.int .i8,.int .u64,.str]]
theorem am2 {cs:List GV} (h:bI.iC ac9 cs):∃b l,mM b/\Ones l/\GV.g cs=eY b (l.map one):=by
 obtain ⟨_,_,rfl,h1,g0⟩:=iL h;obtain ⟨x0,rfl,k0⟩:=aa5 h1;obtain ⟨_,_,rfl,h1,g1⟩:=iL g0;obtain ⟨x1,rfl,k1⟩:=qp h1;obtain ⟨_,_,rfl,h1,g2⟩:=iL g1;obtain ⟨x2,rfl,k2⟩:=qp h1;obtain ⟨_,_,rfl,h1,g3⟩:=iL g2;obtain ⟨x3,rfl,k3⟩:=qp h1;obtain ⟨_,_,rfl,h1,g4⟩:=iL g3;obtain ⟨x4,rfl,k4⟩:=qp h1;obtain ⟨_,_,rfl,h1,g5⟩:=iL g4;obtain ⟨x5,rfl,k5⟩:=qp h1;obtain ⟨_,_,rfl,h1,g6⟩:=iL g5;obtain ⟨x6,rfl,k6⟩:=qp h1;obtain ⟨_,_,rfl,h1,g7⟩:=iL g6;obtain ⟨x7,rfl,k7⟩:=qp h1;obtain ⟨_,_,rfl,h1,g8⟩:=iL g7;obtain ⟨x8,rfl,k8⟩:=qp h1;obtain ⟨_,_,rfl,h1,g9⟩:=iL g8;obtain ⟨x9,rfl,k9⟩:=qp h1;obtain ⟨_,_,rfl,h1,g10⟩:=iL g9;obtain ⟨x10,rfl,k10⟩:=qp h1;obtain ⟨_,_,rfl,h1,g11⟩:=iL g10;obtain ⟨x11,rfl,k11⟩:=qp h1;obtain ⟨_,_,rfl,h1,g12⟩:=iL g11;obtain ⟨x12,rfl,k12⟩:=qp h1;obtain ⟨_,_,rfl,h1,g13⟩:=iL g12;obtain ⟨x13,rfl,k13⟩:=qp h1;obtain ⟨_,_,rfl,h1,g14⟩:=iL g13;obtain ⟨x14,rfl,k14⟩:=qp h1;obtain ⟨_,_,rfl,h1,g15⟩:=iL g14;obtain ⟨x15,rfl,k15⟩:=qp h1;obtain ⟨_,_,rfl,h1,g16⟩:=iL g15;obtain ⟨x16,rfl,k16⟩:=aa5 h1;obtain ⟨_,_,rfl,h1,g17⟩:=iL g16;obtain ⟨x17,rfl⟩:=aiC h1;obtain ⟨_,_,rfl,h1,g18⟩:=iL g17;obtain ⟨x18,rfl,k18⟩:=Cc h1;obtain ⟨_,_,rfl,h1,g19⟩:=iL g18;obtain ⟨x19,rfl,k19⟩:=Cc h1;obtain ⟨_,_,rfl,h1,g20⟩:=iL g19;obtain ⟨x20,rfl,k20⟩:=Cc h1;obtain ⟨_,_,rfl,h1,g21⟩:=iL g20;obtain ⟨x21,k21,rfl⟩:=agX h1;obtain ⟨_,_,rfl,h1,g22⟩:=iL g21;obtain ⟨x22,k22,rfl⟩:=anp h1;obtain ⟨_,_,rfl,h1,g23⟩:=iL g22;obtain ⟨x23,k23,rfl⟩:=alB h1;obtain rfl:=Ko g23;exact ⟨⟨x0,x1,x2,x3,x4,x5,x6,x7,x8,x9,x10,x11,x12,x13,x14,x15,x16,x17,x18,x19,x20,x21,x22⟩,x23,⟨k0,k1,k2,k3,k4,k5,k6,k7,k8,k9,k10,k11,k12,k13,k14,k15,k16,k18,k19,k20,k21,k22⟩,k23,rfl⟩
structure bV where
 tag:Int
 use:Int
 from_:Int
 name:List UInt8
def dV (s:bV):GV:=.g [.i .u64 s.tag,.i .i64 s.use,.i .i64 s.from_,.s s.name]
@[simp] theorem auF (s:bV):(dV s).cells=[.i .u64 s.tag,.i .i64 s.use,.i .i64 s.from_,.s s.name]:=rfl
theorem apm (s:bV):GV.g [.i .u64 s.tag,.i .i64 s.use,.i .i64 s.from_,.s s.name]=dV s:=rfl
def sp1:List bV:=[⟨1,0,1,[109,105,110]⟩,⟨2,0,1,[109,97,120]⟩,⟨3,3,1,[110,97,109,101]⟩,⟨4,3,2,[114,101,103,105,111,110]⟩,⟨5,0,3,[102,108,97,103,115]⟩]
def sp2:List bV:=[⟨1,0,1,[99,104,111,115,101,110]⟩,⟨2,3,1,[110,97,109,101]⟩,⟨3,3,2,[114,101,103,105,111,110]⟩]
def rY:List bV:=[⟨1,0,1,[105,100]⟩,⟨2,4,1,[100,101,115,99,114]⟩,⟨3,0,1,[99,111,115,116]⟩,⟨4,0,2,[112,114,105,111,114,105,116,121]⟩,⟨5,0,3,[100,101,97,100,108,105,110,101]⟩]
def AL:List bV:=[⟨1,0,1,[105,100]⟩,⟨2,1,1,[97,108,108,111,119,101,100]⟩,⟨3,2,1,[114,101,109,97,105,110,105,110,103]⟩,⟨4,0,2,[114,101,116,114,121]⟩,⟨5,3,3,[110,111,116,101]⟩]
def rZ:List bV:=[⟨1,0,1,[101,112,111,99,104]⟩,⟨2,5,1,[116,97,98,108,101]⟩,⟨3,3,2,[114,101,103,105,111,110]⟩,⟨4,0,3,[100,105,103,101,115,116]⟩]
def su:List bV:=[⟨1,0,2,[98,97,115,101]⟩,⟨2,0,2,[101,112,111,99,104]⟩,⟨3,5,2,[116,97,98,108,101]⟩,⟨4,3,2,[114,101,103,105,111,110]⟩,⟨5,0,3,[100,105,103,101,115,116]⟩]
def AO:List bV:=[⟨1,0,1,[101,112,111,99,104]⟩,⟨2,0,3,[108,97,103]⟩]
def AP:List bV:=[⟨1,0,1,[101,112,111,99,104]⟩,⟨2,0,1,[99,111,100,101]⟩,⟨3,0,2,[119,97,110,116]⟩,⟨4,3,3,[110,111,116,101]⟩]
def nZ (k:Int):List bV:=if k=1 then sp1 else if k=2 then sp2 else if k=3 then rY else if k=4 then AL else if k=5 then rZ else if k=6 then su else if k=7 then AO else if k=8 then AP else []
def jm (k:Int):Int:=if k=1 then 1 else if k=2 then 1 else if k=3 then 1 else if k=4 then 1 else if k=5 then 1 else if k=6 then 2 else if k=7 then 1 else if k=8 then 1 else 0
def aH (k v:Int):List bV:=(nZ k).filter λs=>decide (s.from_<=v)
theorem aiK:TT.lim 27 []=some [.l (sp1.map dV)]:=by refine aY rfl rfl ?_ rfl;simp [sp1,dV]
theorem aiJ:TT.lim 29 []=some [.l (sp2.map dV)]:=by refine aY rfl rfl ?_ rfl;simp [sp2,dV]
theorem afz:TT.lim 30 []=some [.l (rY.map dV)]:=by refine aY rfl rfl ?_ rfl;simp [rY,dV]
theorem afA:TT.lim 31 []=some [.l (AL.map dV)]:=by refine aY rfl rfl ?_ rfl;simp [AL,dV]
theorem ahQ:TT.lim 32 []=some [.l (rZ.map dV)]:=by refine aY rfl rfl ?_ rfl;simp [rZ,dV]
theorem agK:TT.lim 33 []=some [.l (su.map dV)]:=by refine aY rfl rfl ?_ rfl;simp [su,dV]
theorem aeX:TT.lim 34 []=some [.l (AO.map dV)]:=by refine aY rfl rfl ?_ rfl;simp [AO,dV]
theorem ani:TT.lim 35 []=some [.l (AP.map dV)]:=by refine aY rfl rfl ?_ rfl;simp [AP,dV]
theorem UQ (k:Int):TT.lim 25 [.i .i64 k]=some [.i .i64 (jm k)]:=by
 refine aY rfl rfl ?_ rfl;unfold jm;by_cases h1:k=1
 ·simp [h1]
 by_cases h2:k=2
 ·simp [h2]
 by_cases h3:k=3
 ·simp [h3]
 by_cases h4:k=4
 ·simp [h4]
 by_cases h5:k=5
 ·simp [h5]
 by_cases h6:k=6
 ·simp [h6]
 by_cases h7:k=7
 ·simp [h7]
 by_cases h8:k=8
 ·simp [h8]
 simp [h1,h2,h3,h4,h5,h6,h7,h8]
theorem UW (v:Int) (l:List bV) (hl:l.length<=8):∀ (m i:Nat) (acc:List bV),i+m=l.length->acc.length<=i->
 TT.lim 28 [.i .i64 v,.l (acc.map dV),.l (l.map dV),.i .i64 l.length,.i .i64 i]=some [.i .i64 0,.l ((acc++(l.drop i).filter λs=>decide (s.from_<=v)).map dV)]
 | 0,i,acc,hi,ha=>by
   have h0:l.drop i=[]:=gZ (by omega);refine aA rfl rfl ?_;have h:¬ ((i:Int) < l.length):=by omega
   simp [h,h0]
 | m+1,i,acc,hi,ha=>by
   have hlt:i < l.length:=by omega
   have hd:=jw hlt;refine aA rfl rfl ?_;have h:((i:Int) < l.length):=by omega
   have hw:=wrap64 (n:=(i:Int)+1) (by omega) (by omega);have hb1:2 * (acc.length+1) * 40<=281474976710656:=by omega
   have hb2:acc.length<=281474976710655:=by omega
   have hok:(dV l[i]).fO 4=true:=rfl;have hcast:((i:Int)+1)=((i+1:Nat):Int):=by omega
   by_cases hf:l[i].from_<=v
   ·have ih:=UW v l hl m (i+1) (acc++[l[i]]) (by omega) (by simp;omega)
    rw [<- hcast,yu] at ih;simp only [ji,Dp] at ih;simp [-List.getElem_cons_drop,h,hlt,hf,hw,apm,hb1,hb2,hok,ih,hd]
   ·have ih:=UW v l hl m (i+1) acc (by omega) (by omega)
    rw [<- hcast] at ih;simp [-List.getElem_cons_drop,h,hlt,hf,hw,ih,hd]
theorem apl (k:Int):(nZ k).length<=8:=by
 unfold nZ;repeat' split
 all_goals (first | (unfold sp1;decide) | (unfold sp2;decide) | (unfold rY;decide) | (unfold AL;decide) | (unfold rZ;decide) | (unfold su;decide) | (unfold AO;decide) | (unfold AP;decide) | decide)
theorem Cm (v:Int) (l:List bV) (hl:l.length<=8):TT.lim 28 [.i .i64 v,.l [],.l (l.map dV),.i .i64 l.length,.i .i64 0]=some [.i .i64 0,.l ((l.filter λs=>decide (s.from_<=v)).map dV)]:=by
 have:=UW v l hl l.length 0 [] (by omega) (by simp);simpa using this
theorem O6 (k v:Int) (h1:1<=v) (h3:v<=3) (hk:jm k<=v):TT.lim 26 [.i .i64 k,.i .i64 v]=some [.l ((aH k v).map dV)]:=by
 have a1:¬ v < 1:=by omega
 have a3:¬ 3 < v:=by omega
 unfold aH nZ;unfold jm at hk;have g1:=Cm v sp1 (by decide);have g2:=Cm v sp2 (by decide);have g3:=Cm v rY (by decide);have g4:=Cm v AL (by decide);have g5:=Cm v rZ (by decide);have g6:=Cm v su (by decide);have g7:=Cm v AO (by decide);have g8:=Cm v AP (by decide);have e1:=aiK;have e2:=aiJ;have e3:=afz;have e4:=afA;have e5:=ahQ;have e6:=agK;have e7:=aeX;have e8:=ani;generalize sp1=p1 at *;generalize sp2=p2 at *;generalize rY=p3 at *;generalize AL=p4 at *;generalize rZ=p5 at *;generalize su=p6 at *;generalize AO=p7 at *;generalize AP=p8 at *;refine aY rfl rfl ?_ rfl;by_cases k1:k=1
 ·simp [k1,a1,a3,e1,g1]
 by_cases k2:k=2
 ·simp [k2,a1,a3,e2,g2]
 by_cases k3:k=3
 ·simp [k3,a1,a3,e3,g3]
 by_cases k4:k=4
 ·simp [k4,a1,a3,e4,g4]
 by_cases k5:k=5
 ·simp [k5,a1,a3,e5,g5]
 by_cases k6:k=6
 ·have a2:¬ v < 2:=by subst k6;simpa using hk
  simp [k6,a1,a2,a3,e6,g6]
 by_cases k7:k=7
 ·simp [k7,a1,a3,e7,g7]
 by_cases k8:k=8
 ·simp [k8,a1,a3,e8,g8]
 simp [k1,k2,k3,k4,k5,k6,k7,k8]
theorem O9 (k v:Int) (h1:1<=v) (h3:v<=3):aH k v=[]↔jm k=0\/v < jm k:=by
 have hv:v=1\/v=2\/v=3:=by omega
 unfold aH nZ jm;by_cases k1:k=1
 ·subst k1;rcases hv with rfl | rfl | rfl<;>decide
 by_cases k2:k=2
 ·subst k2;rcases hv with rfl | rfl | rfl<;>decide
 by_cases k3:k=3
 ·subst k3;rcases hv with rfl | rfl | rfl<;>decide
 by_cases k4:k=4
 ·subst k4;rcases hv with rfl | rfl | rfl<;>decide
 by_cases k5:k=5
 ·subst k5;rcases hv with rfl | rfl | rfl<;>decide
 by_cases k6:k=6
 ·subst k6;rcases hv with rfl | rfl | rfl<;>decide
 by_cases k7:k=7
 ·subst k7;rcases hv with rfl | rfl | rfl<;>decide
 by_cases k8:k=8
 ·subst k8;rcases hv with rfl | rfl | rfl<;>decide
 simp [k1,k2,k3,k4,k5,k6,k7,k8]
def aF.tag:aF->Int
 | .mk t _ _ _ _=>t
theorem yS:∀ (a:List aF),aC a=a.map nO
 | []=>rfl
 | f::a=>by simp only [aC,ji,yS a]
mutual
def qy:aF->Nat
 | .mk _ _ _ _ l=>bH l+1
def bH:List aF->Nat
 | []=>0
 | f::l=>qy f+bH l+1
end
mutual
def pI:aF->Prop
 | .mk t y n s k=>(0<=t/\t < 18446744073709551616/\-128<=y/\y<=127/\0<=n/\n < 18446744073709551616/\s.length<=100000000/\k.length<=1000000)/\bW k
def bW:List aF->Prop
 | []=>True
 | f::r=>pI f/\bW r
end
theorem BZ:∀ {l:List aF},bW l->∀f∈l,pI f
 | f::l,h,g,hg=>by
   simp only [bW] at h;rcases bZ.1 hg with rfl | hg
   ·exact h.1
   ·exact BZ h.2 g hg
theorem QL:∀ {l:List aF} {f:aF},f∈l->qy f < bH l
 | g::l,f,h=>by
   simp only [bH];rcases bZ.1 h with rfl | h
   ·omega
   ·have:=QL h;omega
mutual
/-- What is wrong with fields within so many lists, behind a tag. -/
def wP (w:Nat):aF->Int
 | .mk _ y n s k=>if y=0 then (if s=[]/\k=[] then 0 else 8) else if y=1 then (if n=0/\k=[] then 0 else 8) else if y=2 then (if n=0/\s=[] then (if 8<=w then 9 else iJ (w+1) 0 k) else 8) else 8
def iJ (w:Nat) (ahead:Int):List aF->Int
 | []=>0
 | f::r=>if f.tag=0 then 18 else if 4294967296 < f.tag then 18 else if f.tag<=ahead then 7 else if wP w f≠0 then wP w f else iJ w f.tag r
end
@[simp] theorem Hf (t y n:Int) (s:List UInt8) (k:List aF):(nO (.mk t y n s k)).cells=[.i .u64 t,.i .i64 y,.i .u64 n,.s s,.l (aC k)]:=by simp only [nO];rfl
theorem ahJ (k:List aF):(aC k).length=0↔k=[]:=by rw [kU,List.length_eq_zero_iff]
theorem aaD:∀ (N:Nat) (l:List aF),bH l < N->bW l->l.length<=1000000->∀w:Nat,w<=8->TT.lim 73 [.l (aC l),.i .i64 w]=some [.i .i64 (iJ w 0 l)]
 | 0,l,h,_,_,_,_=>by omega
 | N+1,l,hN,hok,hlen,w,hw8=>by
   have loop:∀m i (ahead:Int),i+m=l.length->TT.lim 74 [.i .i64 w,.i .u64 ahead,.l (aC l),.i .i64 l.length,.i .i64 i]=some (if iJ w ahead (l.drop i)=0 then [.i .i64 1] else [.i .i64 0,.i .i64 (iJ w ahead (l.drop i))]):=by
    intro m;induction m with
    | zero=>
      intro i ahead hi;have h0:l.drop i=[]:=gZ (by omega);refine aA rfl rfl ?_;have h:¬ ((i:Int) < l.length):=by omega
      simp [h,h0,iJ]
    | succ m ih=>
      intro i ahead hi;have hlt:i < l.length:=by omega
      rw [jw hlt];have hf:=BZ hok l[i] (jh hlt);have hs:=QL (jh hlt);have hget:(aC l)[i]? = some (nO l[i]):=by rw [yS,jg,bU hlt];rfl
      have hcast:((i:Int)+1)=((i+1:Nat):Int):=by omega
      have ih':=λa=>ih (i+1) a (by omega);simp only [<- hcast] at ih';generalize l[i]=f at *;obtain ⟨t,y,n,s,k⟩:=f;simp only [pI] at hf;simp only [qy] at hs;have hwr:=wrap64 (n:=(i:Int)+1) (by omega) (by omega);have UD:=wrap64 (n:=(w:Int)+1) (by omega) (by omega);refine aA rfl rfl ?_;have h:((i:Int) < l.length):=by omega
      have hk:=λh=>aaD N k (by omega) hf.2 hf.1.2.2.2.2.2.2.2 (w+1) h;simp only [Bd,Int.natCast_one] at hk;have hkl:((aC k).length=0)=(k=[]):=propext (ahJ k);simp only [iJ,aF.tag];by_cases h1:t=0
      ·simp [h,hget,h1]
      by_cases h2:4294967296 < t
      ·simp [h,hget,h1,h2]
      by_cases h3:t<=ahead
      ·simp [h,hget,h1,h2,h3]
      simp only [wP];by_cases h4:y=0
      ·subst h4
       by_cases h5:s=[]
       ·by_cases h6:k=[]
        ·simp [h,hget,h1,h2,h3,h5,h6,hwr,ih',aC]
        ·simp [h,hget,h1,h2,h3,h5,h6,hwr,ih',hkl]
       ·simp [h,hget,h1,h2,h3,h5]
      by_cases h7:y=1
      ·subst h7
       by_cases h5:n=0
       ·by_cases h6:k=[]
        ·simp [h,hget,h1,h2,h3,h5,h6,hwr,ih',aC]
        ·simp [h,hget,h1,h2,h3,h5,h6,hwr,ih',hkl]
       ·simp [h,hget,h1,h2,h3,h5]
      by_cases h8:y=2
      ·subst h8
       by_cases h5:n=0
       ·by_cases h6:s=[]
        ·by_cases h9:8<=w
         ·have OI:(8:Int)<=w:=by omega
          simp [h,hget,h1,h2,h3,h5,h6,h9,OI]
         ·have OI:¬ (8:Int)<=w:=by omega
          have hk:=hk (by omega);by_cases h10:iJ (w+1) 0 k=0
          ·rw [h10] at hk
           simp [h,hget,h1,h2,h3,h5,h6,h9,OI,UD,hk,h10,hwr,ih',aF.tag]
          ·simp [h,hget,h1,h2,h3,h5,h6,h9,OI,UD,hk,h10,hwr,ih',aF.tag]
        ·simp [h,hget,h1,h2,h3,h5,h6]
       ·simp [h,hget,h1,h2,h3,h5]
      simp [h,hget,h1,h2,h3,h4,h7,h8]
   have h0:=loop l.length 0 0 (by omega);rw [eH] at h0;refine aY rfl rfl ?_ rfl;have hl2:=kU l;by_cases hc:iJ w 0 l=0
   ·rw [aj hc] at h0
    have h0':TT.lim 74 [.i .i64 w,.i .u64 0,.l (aC l),.i .i64 (aC l).length,.i .i64 0]=some [.i .i64 1]:=by rw [hl2];exact h0
    simp [h0',hc]
   ·rw [ah hc] at h0
    have h0':TT.lim 74 [.i .i64 w,.i .u64 0,.l (aC l),.i .i64 (aC l).length,.i .i64 0]=some [.i .i64 0,.i .i64 (iJ w 0 l)]:=by rw [hl2];exact h0
    simp [h0',hc]
theorem Oi (l:List aF) (hok:bW l) (hlen:l.length<=1000000):TT.lim 72 [.l (aC l)]=some [.i .i64 (iJ 0 0 l)]:=by
 have h:=aaD (bH l+1) l (by omega) hok hlen 0 (by omega);have h':TT.lim 73 [.l (aC l),.i .i64 0]=_:=h;refine aY rfl rfl ?_ rfl;simp [h']
inductive Pl where
 | rem | allow | name | region | note | d | t
 | num (k:Nat)
def lN:List UInt8:=[114,101,109,97,105,110,105,110,103]
def kX:List UInt8:=[97,108,108,111,119,101,100]
def kH:List UInt8:=[110,97,109,101]
def kK:List UInt8:=[114,101,103,105,111,110]
def kJ:List UInt8:=[110,111,116,101]
def lC:List UInt8:=[100,101,115,99,114]
def lS:List UInt8:=[116,97,98,108,101]
def lH:List UInt8:=[105,100]
def lK:List UInt8:=[109,105,110]
def lJ:List UInt8:=[109,97,120]
def kZ:List UInt8:=[99,104,111,115,101,110]
def lG:List UInt8:=[102,108,97,103,115]
def lq:List UInt8:=[99,111,115,116]
def lM:List UInt8:=[112,114,105,111,114,105,116,121]
def lu:List UInt8:=[100,101,97,100,108,105,110,101]
def lQ:List UInt8:=[114,101,116,114,121]
def lF:List UInt8:=[101,112,111,99,104]
def kY:List UInt8:=[98,97,115,101]
def lD:List UInt8:=[100,105,103,101,115,116]
def lI:List UInt8:=[108,97,103]
def lg:List UInt8:=[99,111,100,101]
def lT:List UInt8:=[119,97,110,116]
def placeOf (n:List UInt8):Option Pl:=
 if n=lN then some .rem else if n=kX then some .allow else if n=kH then some .name else if n=kK then some .region else if n=kJ then some .note else if n=lC then some .d else if n=lS then some .t else if n=lH then some (.num 0) else if n=lK then some (.num 1) else if n=lJ then some (.num 2) else if n=kZ then some (.num 3) else if n=lG then some (.num 4) else if n=lq then some (.num 5) else if n=lM then some (.num 6) else if n=lu then some (.num 7) else if n=lQ then some (.num 8) else if n=lF then some (.num 9) else if n=kY then some (.num 10) else if n=lD then some (.num 11) else if n=lI then some (.num 12) else if n=lg then some (.num 13) else if n=lT then some (.num 14) else none
theorem E8:placeOf lN=some .rem:=rfl
theorem EK:placeOf kX=some .allow:=rfl
theorem CU:placeOf kH=some .name:=rfl
theorem CW:placeOf kK=some .region:=rfl
theorem CV:placeOf kJ=some .note:=rfl
theorem ER:placeOf lC=some .d:=rfl
theorem Fa:placeOf lS=some .t:=rfl
theorem EW:placeOf lH=some (.num 0):=rfl
theorem EZ:placeOf lK=some (.num 1):=rfl
theorem EY:placeOf lJ=some (.num 2):=rfl
theorem EM:placeOf kZ=some (.num 3):=rfl
theorem EU:placeOf lG=some (.num 4):=rfl
theorem EO:placeOf lq=some (.num 5):=rfl
theorem E5:placeOf lM=some (.num 6):=rfl
theorem EP:placeOf lu=some (.num 7):=rfl
theorem E9:placeOf lQ=some (.num 8):=rfl
theorem ET:placeOf lF=some (.num 9):=rfl
theorem EL:placeOf kY=some (.num 10):=rfl
theorem ES:placeOf lD=some (.num 11):=rfl
theorem EX:placeOf lI=some (.num 12):=rfl
theorem EN:placeOf lg=some (.num 13):=rfl
theorem Fb:placeOf lT=some (.num 14):=rfl
def gI (b:aB) (k:Nat):Int:=match k with
 | 0=>b.id
 | 1=>b.min
 | 2=>b.max
 | 3=>b.chosen
 | 4=>b.flags
 | 5=>b.cost
 | 6=>b.priority
 | 7=>b.deadline
 | 8=>b.retry
 | 9=>b.epoch
 | 10=>b.base
 | 11=>b.digest
 | 12=>b.lag
 | 13=>b.code
 | _=>b.want
def dH (b:aB):Pl->Bool
 | .rem=>decide (b.remaining=0)
 | .allow=>!b.allowed
 | .name=>decide (b.name=[])
 | .region=>decide (b.region=[])
 | .note=>decide (b.note=[])
 | .d=>decide (b.d=[])
 | .t=>decide (b.t=[])
 | .num k=>decide (gI b k=0)
def oL (b:aB) (n:List UInt8):Bool:=match placeOf n with
 | some p=>dH b p
 | none=>true
def qV (b:aB):Pl->Int
 | .name=>jA b.name 0 256
 | .region=>jA b.region 0 256
 | .note=>jA b.note 0 256
 | .d=>if b.d=[] then 0 else rM b.d
 | .t=>sQ b.t
 | _=>0
def uN (b:aB) (n:List UInt8):Int:=match placeOf n with
 | some p=>qV b p
 | none=>0
def zz (x:Int):Int:=if 0<=x then 2 * x else -2 * x - 1
def aU (b:aB):Pl->Int×List UInt8
 | .rem=>(zz b.remaining,[])
 | .allow=>(if b.allowed=true then 1 else 0,[])
 | .name=>(0,b.name)
 | .region=>(0,b.region)
 | .note=>(0,b.note)
 | .d=>(0,if b.d=[] then [] else iD b.d)
 | .t=>(0,if b.t=[] then [] else (zh b.t).1)
 | .num k=>(gI b k,[])
def aZ:Pl->Int
 | .num _=>0
 | .rem=>0
 | .allow=>0
 | _=>1
def aqV:Pl->Int
 | .num _=>0
 | .allow=>1
 | .rem=>2
 | .d=>4
 | .t=>5
 | _=>3
/-- A cascade over all names. -/
theorem JB {Q:List UInt8->Prop} (aiu:Q lN) (ah9:Q kX) (aiq:Q kH) (ait:Q kK) (air:Q kJ) (aif:Q lC) (aiw:Q lS) (ail:Q lH) (aip:Q lK) (aio:Q lJ) (aia:Q kZ) (aik:Q lG) (aic:Q lq) (ais:Q lM) (aie:Q lu) (aiv:Q lQ) (aij:Q lF) (h_base:Q kY) (aii:Q lD) (ain:Q lI) (aib:Q lg) (aix:Q lT) (h0:∀n,¬ n=lN->¬ n=kX->¬ n=kH->¬ n=kK->¬ n=kJ->¬ n=lC->¬ n=lS->¬ n=lH->¬ n=lK->¬ n=lJ->¬ n=kZ->¬ n=lG->¬ n=lq->¬ n=lM->¬ n=lu->¬ n=lQ->¬ n=lF->¬ n=kY->¬ n=lD->¬ n=lI->¬ n=lg->¬ n=lT->Q n) (n:List UInt8):Q n:=by
 by_cases aai:n=lN
 ·rw [aai];exact aiu
 by_cases ZR:n=kX
 ·rw [ZR];exact ah9
 by_cases aae:n=kH
 ·rw [aae];exact aiq
 by_cases aah:n=kK
 ·rw [aah];exact ait
 by_cases aaf:n=kJ
 ·rw [aaf];exact air
 by_cases ZY:n=lC
 ·rw [ZY];exact aif
 by_cases aak:n=lS
 ·rw [aak];exact aiw
 by_cases Z8:n=lH
 ·rw [Z8];exact ail
 by_cases aad:n=lK
 ·rw [aad];exact aip
 by_cases aac:n=lJ
 ·rw [aac];exact aio
 by_cases ZU:n=kZ
 ·rw [ZU];exact aia
 by_cases Z7:n=lG
 ·rw [Z7];exact aik
 by_cases ZW:n=lq
 ·rw [ZW];exact aic
 by_cases aag:n=lM
 ·rw [aag];exact ais
 by_cases ZX:n=lu
 ·rw [ZX];exact aie
 by_cases aaj:n=lQ
 ·rw [aaj];exact aiv
 by_cases Z5:n=lF
 ·rw [Z5];exact aij
 by_cases ZT:n=kY
 ·rw [ZT];exact h_base
 by_cases Z4:n=lD
 ·rw [Z4];exact aii
 by_cases Z9:n=lI
 ·rw [Z9];exact ain
 by_cases ZV:n=lg
 ·rw [ZV];exact aib
 by_cases aal:n=lT
 ·rw [aal];exact aix
 exact h0 n aai ZR aae aah aaf ZY aak Z8 aad aac ZU Z7 ZW aag ZX aaj Z5 ZT Z4 Z9 ZV aal
theorem KX (n:List UInt8) (e0:¬ n=lN) (e1:¬ n=kX) (e2:¬ n=kH) (e3:¬ n=kK) (e4:¬ n=kJ) (e5:¬ n=lC) (e6:¬ n=lS) (e7:¬ n=lH) (e8:¬ n=lK) (e9:¬ n=lJ) (e10:¬ n=kZ) (e11:¬ n=lG) (e12:¬ n=lq) (e13:¬ n=lM) (e14:¬ n=lu) (e15:¬ n=lQ) (e16:¬ n=lF) (e17:¬ n=kY) (e18:¬ n=lD) (e19:¬ n=lI) (e20:¬ n=lg) (e21:¬ n=lT):placeOf n=none:=by
 unfold placeOf;rw [ah e0,ah e1,ah e2,ah e3,ah e4,ah e5,ah e6,ah e7,ah e8,ah e9,ah e10,ah e11,ah e12,ah e13,ah e14,ah e15,ah e16,ah e17,ah e18,ah e19,ah e20,ah e21]
def sV (ps:List (List UInt8)):List GV:=ps.map λp=>.g [.s p,.b true]
def yT (ps:List (List UInt8)) (x:List UInt8):List (List UInt8):=if x∈ps then ps else ps++[x]
theorem Sr (n:List UInt8):∀ps:List (List UInt8),gV (.s n) (sV ps)=if n∈ps then some (.b true) else none
 | []=>rfl
 | p::ps=>by
   have ih:=Sr n ps;simp only [sV,ji,gV,nT] at ih ⊢;by_cases e:n=p
   ·subst e;simp
   ·have e2:¬ p=n:=λh=>e h.symm
    simp [e,ih]
theorem ac5 (x:List UInt8):∀ps:List (List UInt8),jR (.s x) (.b true) (sV ps)=sV (yT ps x)
 | []=>rfl
 | p::ps=>by
   have ih:=ac5 x ps;unfold yT at ih ⊢;simp only [sV,ji,jR,nT] at ih ⊢;by_cases e:x=p
   ·subst e;simp
   ·have e1:(x==p)=false:=by simpa using e
    simp only [e1,gQ,if_false];rw [ih];by_cases hm:x∈ps
    ·simp only [hm,if_true,bZ,or_true,ji]
    ·simp only [hm,if_false,bZ,e,or_false,dW,ji]
def xU (ps:List (List UInt8)) (l:List bV):List (List UInt8):=l.foldl (λps s=>yT ps s.name) ps
theorem akH (n x:List UInt8) (ps:List (List UInt8)):n∈yT ps x↔n∈ps\/x=n:=by
 unfold yT;split
 ·next h=>exact ⟨.inl,λe=>e.elim id (λe=>e ▸ h)⟩
 ·simp [eq_comm]
theorem acj (n:List UInt8):∀ (l:List bV) (ps:List (List UInt8)),n∈xU ps l↔n∈ps\/∃s∈l,s.name=n
 | [],ps=>by simp [xU]
 | s::l,ps=>by
   have:=acj n l (yT ps s.name);unfold xU at this ⊢;rw [List.foldl_cons,this,akH];simp [or_assoc]
def qP (l:List bV) (n:List UInt8):Bool:=l.any λs=>decide (s.name=n)
theorem akG (n:List UInt8) (l:List bV):decide (n∈xU [] l)=qP l n:=by
 rw [qE,decide_eq_true_iff,acj];simp [qP]
theorem acd (b:aB) (r:List GV) (l:List bV) (hl:l.length<=1000):∀ (m i:Nat) (ps:List (List UInt8)),i+m=l.length->
 TT.lim 36 [.l (l.map dV),.i .i64 l.length,.i .i64 i,.l (sV ps),.i .i64 b.kind,.i .u64 b.id,.i .u64 b.min,.i .u64 b.max,.i .u64 b.chosen,.i .u64 b.flags,.i .u64 b.cost,.i .u64 b.priority,.i .u64 b.deadline,.i .u64 b.retry,.i .u64 b.epoch,.i .u64 b.base,.i .u64 b.digest,.i .u64 b.lag,.i .u64 b.code,.i .u64 b.want,.i .i64 b.remaining,.b b.allowed,.s b.name,.s b.region,.s b.note,.l (b.d.map ent),.l (b.t.map row),.l r]=some [.i .i64 0,.l (sV (xU ps (l.drop i)))]
 | 0,i,ps,hi=>by
   have h0:l.drop i=[]:=gZ (by omega);refine aA rfl rfl ?_;have h:¬ ((i:Int) < l.length):=by omega
   simp [h,h0,xU]
 | m+1,i,ps,hi=>by
   have hlt:i < l.length:=by omega
   have ih:=acd b r l hl m (i+1) (yT ps l[i].name) (by omega);have hcast:((i:Int)+1)=((i+1:Nat):Int):=by omega
   rw [<- hcast] at ih;have hp:=ac5 l[i].name ps;have hd:xU ps (l.drop i)=xU (yT ps l[i].name) (l.drop (i+1)):=by
    rw [jw hlt];rfl
   rw [hd];generalize xU (yT ps l[i].name) (l.drop (i+1))=X at *;generalize sV (yT ps l[i].name)=Y at *;refine aA rfl rfl ?_;have h:((i:Int) < l.length):=by omega
   have hw:=wrap64 (n:=(i:Int)+1) (by omega) (by omega);simp [h,hlt,hw,hp,ih]
/-- One round of the second loop. -/
def lZ (b:aB) (r:List GV) (n:List UInt8) (c:Prop):Prop:=∀ (sp:GV) (ns:List (List UInt8)) (i:Nat) (ps:List (List UInt8)) (out:List GV) (h:i < ns.length),((i:Int) < ns.length)->IntKind.i64.wrap ((i:Int)+1)=(i:Int)+1->ns[i]=n->gV (.s n) (sV ps)=none->
    TT.lim 38 [sp,.l (ns.map .s),.i .i64 ns.length,.i .i64 ((i:Int)+1),.l (sV ps),.i .i64 b.kind,.i .u64 b.id,.i .u64 b.min,.i .u64 b.max,.i .u64 b.chosen,.i .u64 b.flags,.i .u64 b.cost,.i .u64 b.priority,.i .u64 b.deadline,.i .u64 b.retry,.i .u64 b.epoch,.i .u64 b.base,.i .u64 b.digest,.i .u64 b.lag,.i .u64 b.code,.i .u64 b.want,.i .i64 b.remaining,.b b.allowed,.s b.name,.s b.region,.s b.note,.l (b.d.map ent),.l (b.t.map row),.l r]=some out->
    (c->TT.lim 38 [sp,.l (ns.map .s),.i .i64 ns.length,.i .i64 i,.l (sV ps),.i .i64 b.kind,.i .u64 b.id,.i .u64 b.min,.i .u64 b.max,.i .u64 b.chosen,.i .u64 b.flags,.i .u64 b.cost,.i .u64 b.priority,.i .u64 b.deadline,.i .u64 b.retry,.i .u64 b.epoch,.i .u64 b.base,.i .u64 b.digest,.i .u64 b.lag,.i .u64 b.code,.i .u64 b.want,.i .i64 b.remaining,.b b.allowed,.s b.name,.s b.region,.s b.note,.l (b.d.map ent),.l (b.t.map row),.l r]=some out)/\(¬ c->TT.lim 38 [sp,.l (ns.map .s),.i .i64 ns.length,.i .i64 i,.l (sV ps),.i .i64 b.kind,.i .u64 b.id,.i .u64 b.min,.i .u64 b.max,.i .u64 b.chosen,.i .u64 b.flags,.i .u64 b.cost,.i .u64 b.priority,.i .u64 b.deadline,.i .u64 b.retry,.i .u64 b.epoch,.i .u64 b.base,.i .u64 b.digest,.i .u64 b.lag,.i .u64 b.code,.i .u64 b.want,.i .i64 b.remaining,.b b.allowed,.s b.name,.s b.region,.s b.note,.l (b.d.map ent),.l (b.t.map row),.l r]=some [.i .i64 0])
theorem apL (b:aB) (r:List GV):lZ b r lN (b.remaining=0):=by
 intro sp ns i ps out h h1 hw hn ha ih;unfold lN at *;refine ⟨λhc=>aA rfl rfl ?_,λhc=>aA rfl rfl ?_⟩
 ·have hc:=eq_true hc
  simp [h1,h,hn,hw,ha,hc,ih]
 ·simp [h1,h,hn,ha,hc]
theorem apt (b:aB) (r:List GV):lZ b r kX (b.allowed=false):=by
 intro sp ns i ps out h h1 hw hn ha ih;unfold kX at *;refine ⟨λhc=>aA rfl rfl ?_,λhc=>aA rfl rfl ?_⟩
 ·rw [hc] at ih
  simp [h1,h,hn,hw,ha,hc,ih]
 ·simp [h1,h,hn,ha,hc]
theorem apH (b:aB) (r:List GV):lZ b r kH (b.name=[]):=by
 intro sp ns i ps out h h1 hw hn ha ih;unfold kH at *;refine ⟨λhc=>aA rfl rfl ?_,λhc=>aA rfl rfl ?_⟩
 ·have hc:=eq_true hc
  simp [h1,h,hn,hw,ha,hc,ih]
 ·simp [h1,h,hn,ha,hc]
theorem apK (b:aB) (r:List GV):lZ b r kK (b.region=[]):=by
 intro sp ns i ps out h h1 hw hn ha ih;unfold kK at *;refine ⟨λhc=>aA rfl rfl ?_,λhc=>aA rfl rfl ?_⟩
 ·have hc:=eq_true hc
  simp [h1,h,hn,hw,ha,hc,ih]
 ·simp [h1,h,hn,ha,hc]
theorem apI (b:aB) (r:List GV):lZ b r kJ (b.note=[]):=by
 intro sp ns i ps out h h1 hw hn ha ih;unfold kJ at *;refine ⟨λhc=>aA rfl rfl ?_,λhc=>aA rfl rfl ?_⟩
 ·have hc:=eq_true hc
  simp [h1,h,hn,hw,ha,hc,ih]
 ·simp [h1,h,hn,ha,hc]
theorem apz (b:aB) (r:List GV):lZ b r lC (b.d=[]):=by
 intro sp ns i ps out h h1 hw hn ha ih;unfold lC at *;refine ⟨λhc=>aA rfl rfl ?_,λhc=>aA rfl rfl ?_⟩
 ·have hc:=eq_true hc
  simp [h1,h,hn,hw,ha,hc,ih]
 ·simp [h1,h,hn,ha,hc]
theorem apN (b:aB) (r:List GV):lZ b r lS (b.t=[]):=by
 intro sp ns i ps out h h1 hw hn ha ih;unfold lS at *;refine ⟨λhc=>aA rfl rfl ?_,λhc=>aA rfl rfl ?_⟩
 ·have hc:=eq_true hc
  simp [h1,h,hn,hw,ha,hc,ih]
 ·simp [h1,h,hn,ha,hc]
theorem apD (b:aB) (r:List GV):lZ b r lH (b.id=0):=by
 intro sp ns i ps out h h1 hw hn ha ih;unfold lH at *;refine ⟨λhc=>aA rfl rfl ?_,λhc=>aA rfl rfl ?_⟩
 ·have hc:=eq_true hc
  simp [h1,h,hn,hw,ha,hc,ih]
 ·simp [h1,h,hn,ha,hc]
theorem apG (b:aB) (r:List GV):lZ b r lK (b.min=0):=by
 intro sp ns i ps out h h1 hw hn ha ih;unfold lK at *;refine ⟨λhc=>aA rfl rfl ?_,λhc=>aA rfl rfl ?_⟩
 ·have hc:=eq_true hc
  simp [h1,h,hn,hw,ha,hc,ih]
 ·simp [h1,h,hn,ha,hc]
theorem apF (b:aB) (r:List GV):lZ b r lJ (b.max=0):=by
 intro sp ns i ps out h h1 hw hn ha ih;unfold lJ at *;refine ⟨λhc=>aA rfl rfl ?_,λhc=>aA rfl rfl ?_⟩
 ·have hc:=eq_true hc
  simp [h1,h,hn,hw,ha,hc,ih]
 ·simp [h1,h,hn,ha,hc]
theorem apv (b:aB) (r:List GV):lZ b r kZ (b.chosen=0):=by
 intro sp ns i ps out h h1 hw hn ha ih;unfold kZ at *;refine ⟨λhc=>aA rfl rfl ?_,λhc=>aA rfl rfl ?_⟩
 ·have hc:=eq_true hc
  simp [h1,h,hn,hw,ha,hc,ih]
 ·simp [h1,h,hn,ha,hc]
theorem apC (b:aB) (r:List GV):lZ b r lG (b.flags=0):=by
 intro sp ns i ps out h h1 hw hn ha ih;unfold lG at *;refine ⟨λhc=>aA rfl rfl ?_,λhc=>aA rfl rfl ?_⟩
 ·have hc:=eq_true hc
  simp [h1,h,hn,hw,ha,hc,ih]
 ·simp [h1,h,hn,ha,hc]
theorem apx (b:aB) (r:List GV):lZ b r lq (b.cost=0):=by
 intro sp ns i ps out h h1 hw hn ha ih;unfold lq at *;refine ⟨λhc=>aA rfl rfl ?_,λhc=>aA rfl rfl ?_⟩
 ·have hc:=eq_true hc
  simp [h1,h,hn,hw,ha,hc,ih]
 ·simp [h1,h,hn,ha,hc]
theorem apJ (b:aB) (r:List GV):lZ b r lM (b.priority=0):=by
 intro sp ns i ps out h h1 hw hn ha ih;unfold lM at *;refine ⟨λhc=>aA rfl rfl ?_,λhc=>aA rfl rfl ?_⟩
 ·have hc:=eq_true hc
  simp [h1,h,hn,hw,ha,hc,ih]
 ·simp [h1,h,hn,ha,hc]
theorem apy (b:aB) (r:List GV):lZ b r lu (b.deadline=0):=by
 intro sp ns i ps out h h1 hw hn ha ih;unfold lu at *;refine ⟨λhc=>aA rfl rfl ?_,λhc=>aA rfl rfl ?_⟩
 ·have hc:=eq_true hc
  simp [h1,h,hn,hw,ha,hc,ih]
 ·simp [h1,h,hn,ha,hc]
theorem apM (b:aB) (r:List GV):lZ b r lQ (b.retry=0):=by
 intro sp ns i ps out h h1 hw hn ha ih;unfold lQ at *;refine ⟨λhc=>aA rfl rfl ?_,λhc=>aA rfl rfl ?_⟩
 ·have hc:=eq_true hc
  simp [h1,h,hn,hw,ha,hc,ih]
 ·simp [h1,h,hn,ha,hc]
theorem apB (b:aB) (r:List GV):lZ b r lF (b.epoch=0):=by
 intro sp ns i ps out h h1 hw hn ha ih;unfold lF at *;refine ⟨λhc=>aA rfl rfl ?_,λhc=>aA rfl rfl ?_⟩
 ·have hc:=eq_true hc
  simp [h1,h,hn,hw,ha,hc,ih]
 ·simp [h1,h,hn,ha,hc]
theorem apu (b:aB) (r:List GV):lZ b r kY (b.base=0):=by
 intro sp ns i ps out h h1 hw hn ha ih;unfold kY at *;refine ⟨λhc=>aA rfl rfl ?_,λhc=>aA rfl rfl ?_⟩
 ·have hc:=eq_true hc
  simp [h1,h,hn,hw,ha,hc,ih]
 ·simp [h1,h,hn,ha,hc]
theorem apA (b:aB) (r:List GV):lZ b r lD (b.digest=0):=by
 intro sp ns i ps out h h1 hw hn ha ih;unfold lD at *;refine ⟨λhc=>aA rfl rfl ?_,λhc=>aA rfl rfl ?_⟩
 ·have hc:=eq_true hc
  simp [h1,h,hn,hw,ha,hc,ih]
 ·simp [h1,h,hn,ha,hc]
theorem apE (b:aB) (r:List GV):lZ b r lI (b.lag=0):=by
 intro sp ns i ps out h h1 hw hn ha ih;unfold lI at *;refine ⟨λhc=>aA rfl rfl ?_,λhc=>aA rfl rfl ?_⟩
 ·have hc:=eq_true hc
  simp [h1,h,hn,hw,ha,hc,ih]
 ·simp [h1,h,hn,ha,hc]
theorem apw (b:aB) (r:List GV):lZ b r lg (b.code=0):=by
 intro sp ns i ps out h h1 hw hn ha ih;unfold lg at *;refine ⟨λhc=>aA rfl rfl ?_,λhc=>aA rfl rfl ?_⟩
 ·have hc:=eq_true hc
  simp [h1,h,hn,hw,ha,hc,ih]
 ·simp [h1,h,hn,ha,hc]
theorem apO (b:aB) (r:List GV):lZ b r lT (b.want=0):=by
 intro sp ns i ps out h h1 hw hn ha ih;unfold lT at *;refine ⟨λhc=>aA rfl rfl ?_,λhc=>aA rfl rfl ?_⟩
 ·have hc:=eq_true hc
  simp [h1,h,hn,hw,ha,hc,ih]
 ·simp [h1,h,hn,ha,hc]
theorem acs:TT.lim 37 []=some [.l (gG.map .s)]:=KY (Ds:=Ds) (k:=37) (f:=PO) rfl rfl
theorem nC (b:aB) {n:List UInt8} {p:Pl} (h:placeOf n=some p):oL b n=dH b p:=by unfold oL;rw [h]
def kP (b:aB) (r:List GV) (n:List UInt8):Prop:=∃c:Prop,(oL b n=true↔c)/\lZ b r n c
theorem apb (b:aB) (r:List GV):kP b r lN:=⟨_,by rw [nC b E8];simp [dH,gI],apL b r⟩
theorem aoT (b:aB) (r:List GV):kP b r kX:=⟨_,by rw [nC b EK];simp [dH,gI],apt b r⟩
theorem ao7 (b:aB) (r:List GV):kP b r kH:=⟨_,by rw [nC b CU];simp [dH,gI],apH b r⟩
theorem apa (b:aB) (r:List GV):kP b r kK:=⟨_,by rw [nC b CW];simp [dH,gI],apK b r⟩
theorem ao8 (b:aB) (r:List GV):kP b r kJ:=⟨_,by rw [nC b CV];simp [dH,gI],apI b r⟩
theorem aoZ (b:aB) (r:List GV):kP b r lC:=⟨_,by rw [nC b ER];simp [dH,gI],apz b r⟩
theorem apd (b:aB) (r:List GV):kP b r lS:=⟨_,by rw [nC b Fa];simp [dH,gI],apN b r⟩
theorem ao3 (b:aB) (r:List GV):kP b r lH:=⟨_,by rw [nC b EW];simp [dH,gI],apD b r⟩
theorem ao6 (b:aB) (r:List GV):kP b r lK:=⟨_,by rw [nC b EZ];simp [dH,gI],apG b r⟩
theorem ao5 (b:aB) (r:List GV):kP b r lJ:=⟨_,by rw [nC b EY];simp [dH,gI],apF b r⟩
theorem aoV (b:aB) (r:List GV):kP b r kZ:=⟨_,by rw [nC b EM];simp [dH,gI],apv b r⟩
theorem ao2 (b:aB) (r:List GV):kP b r lG:=⟨_,by rw [nC b EU];simp [dH,gI],apC b r⟩
theorem aoX (b:aB) (r:List GV):kP b r lq:=⟨_,by rw [nC b EO];simp [dH,gI],apx b r⟩
theorem ao9 (b:aB) (r:List GV):kP b r lM:=⟨_,by rw [nC b E5];simp [dH,gI],apJ b r⟩
theorem aoY (b:aB) (r:List GV):kP b r lu:=⟨_,by rw [nC b EP];simp [dH,gI],apy b r⟩
theorem apc (b:aB) (r:List GV):kP b r lQ:=⟨_,by rw [nC b E9];simp [dH,gI],apM b r⟩
theorem ao1 (b:aB) (r:List GV):kP b r lF:=⟨_,by rw [nC b ET];simp [dH,gI],apB b r⟩
theorem aoU (b:aB) (r:List GV):kP b r kY:=⟨_,by rw [nC b EL];simp [dH,gI],apu b r⟩
theorem ao0 (b:aB) (r:List GV):kP b r lD:=⟨_,by rw [nC b ES];simp [dH,gI],apA b r⟩
theorem ao4 (b:aB) (r:List GV):kP b r lI:=⟨_,by rw [nC b EX];simp [dH,gI],apE b r⟩
theorem aoW (b:aB) (r:List GV):kP b r lg:=⟨_,by rw [nC b EN];simp [dH,gI],apw b r⟩
theorem ape (b:aB) (r:List GV):kP b r lT:=⟨_,by rw [nC b Fb];simp [dH,gI],apO b r⟩
theorem aqc (b:aB) (r:List GV) (n:List UInt8):placeOf n≠none->kP b r n:=by
 refine JB (Q:=λn=>placeOf n≠none->kP b r n) (λ_=>apb b r) (λ_=>aoT b r) (λ_=>ao7 b r) (λ_=>apa b r) (λ_=>ao8 b r) (λ_=>aoZ b r) (λ_=>apd b r) (λ_=>ao3 b r) (λ_=>ao6 b r) (λ_=>ao5 b r) (λ_=>aoV b r) (λ_=>ao2 b r) (λ_=>aoX b r) (λ_=>ao9 b r) (λ_=>aoY b r) (λ_=>apc b r) (λ_=>ao1 b r) (λ_=>aoU b r) (λ_=>ao0 b r) (λ_=>ao4 b r) (λ_=>aoW b r) (λ_=>ape b r) (λn e0 e1 e2 e3 e4 e5 e6 e7 e8 e9 e10 e11 e12 e13 e14 e15 e16 e17 e18 e19 e20 e21 h=>absurd (KX n e0 e1 e2 e3 e4 e5 e6 e7 e8 e9 e10 e11 e12 e13 e14 e15 e16 e17 e18 e19 e20 e21) h) n
theorem ace (b:aB) (r:List GV) (sp:GV) (ns:List (List UInt8)) (hlen:ns.length<=1000) (hns:∀n∈ns,placeOf n≠none) (ps:List (List UInt8)):∀ (m i:Nat),i+m=ns.length->
 TT.lim 38 [sp,.l (ns.map .s),.i .i64 ns.length,.i .i64 i,.l (sV ps),.i .i64 b.kind,.i .u64 b.id,.i .u64 b.min,.i .u64 b.max,.i .u64 b.chosen,.i .u64 b.flags,.i .u64 b.cost,.i .u64 b.priority,.i .u64 b.deadline,.i .u64 b.retry,.i .u64 b.epoch,.i .u64 b.base,.i .u64 b.digest,.i .u64 b.lag,.i .u64 b.code,.i .u64 b.want,.i .i64 b.remaining,.b b.allowed,.s b.name,.s b.region,.s b.note,.l (b.d.map ent),.l (b.t.map row),.l r]=some (if (ns.drop i).all (λn=>decide (n∈ps) || oL b n)=true then [.i .i64 1] else [.i .i64 0])
 | 0,i,hi=>by
   have h0:ns.drop i=[]:=gZ (by omega);refine aA rfl rfl ?_;have h:¬ ((i:Int) < ns.length):=by omega
   simp [h,h0]
 | m+1,i,hi=>by
   have hlt:i < ns.length:=by omega
   have ih:=ace b r sp ns hlen hns ps m (i+1) (by omega);have hcast:((i:Int)+1)=((i+1:Nat):Int):=by omega
   rw [<- hcast] at ih;have hd:(ns.drop i).all (λn=>decide (n∈ps) || oL b n)=((decide (ns[i]∈ps) || oL b ns[i])&&(ns.drop (i+1)).all (λn=>decide (n∈ps) || oL b n)):=by rw [jw hlt,sF]
   rw [hd];generalize (ns.drop (i+1)).all (λn=>decide (n∈ps) || oL b n)=X at *;by_cases hps:ns[i]∈ps
   ·have ha:=Sr ns[i] ps
    rw [aj hps] at ha;have h1:((i:Int) < ns.length):=by omega
    have hw:=wrap64 (n:=(i:Int)+1) (by omega) (by omega);rw [GL hps,Bool.true_or,I5];refine aA rfl rfl ?_;simp [h1,hlt,hw,ha,ih]
   ·have ha:=Sr ns[i] ps
    rw [ah hps] at ha;obtain ⟨c,c1,c2⟩:=aqc b r ns[i] (hns _ (jh hlt));obtain ⟨c3,c4⟩:=c2 sp ns i ps _ hlt (by omega) (wrap64 (n:=(i:Int)+1) (by omega) (by omega)) rfl ha ih;rw [D8 hps,xw];cases hb:oL b ns[i] with
    | true=>rw [c3 (c1.1 hb),I5]
    | false=>rw [c4 (λh=>by rw [c1.2 h] at hb;cases hb),Bool.false_and];rfl
def fK (b:aB) (r:List GV) (k:Nat) (out:List GV):Prop:=TT.lim k [.i .i64 b.kind,.i .u64 b.id,.i .u64 b.min,.i .u64 b.max,.i .u64 b.chosen,.i .u64 b.flags,.i .u64 b.cost,.i .u64 b.priority,.i .u64 b.deadline,.i .u64 b.retry,.i .u64 b.epoch,.i .u64 b.base,.i .u64 b.digest,.i .u64 b.lag,.i .u64 b.code,.i .u64 b.want,.i .i64 b.remaining,.b b.allowed,.s b.name,.s b.region,.s b.note,.l (b.d.map ent),.l (b.t.map row),.l r]=some out
theorem ny (b:aB) {n:List UInt8} {p:Pl} (h:placeOf n=some p):uN b n=qV b p:=by unfold uN;rw [h]
theorem akB (b:aB) (r:List GV):fK b r 40 [.i .i64 0]:=by
 refine aA rfl rfl ?_;simp
theorem akj (b:aB) (r:List GV):fK b r 41 [.i .i64 0]:=by
 refine aA rfl rfl ?_;simp
theorem akx (b:aB) (r:List GV) (hb:mM b):fK b r 42 [.i .i64 0,.i .i64 (jA b.name 0 256)]:=by
 have h:=BK b.name 0 256 hb.name;refine aA rfl rfl ?_;simp [h]
theorem akA (b:aB) (r:List GV) (hb:mM b):fK b r 46 [.i .i64 0,.i .i64 (jA b.region 0 256)]:=by
 have h:=BK b.region 0 256 hb.region;refine aA rfl rfl ?_;simp [h]
theorem aky (b:aB) (r:List GV) (hb:mM b):fK b r 47 [.i .i64 0,.i .i64 (jA b.note 0 256)]:=by
 have h:=BK b.note 0 256 hb.note;refine aA rfl rfl ?_;simp [h]
theorem akp (b:aB) (r:List GV) (hb:mM b):fK b r 48 [.i .i64 0,.i .i64 (if b.d=[] then 0 else rM b.d)]:=by
 have h:=Zg b.d hb.d;refine aA rfl rfl ?_;by_cases e:b.d=[]
 ·simp [e]
 ·have e2:¬ (List.map ent b.d)=[]:=by simpa using e
  have e3:0 < b.d.length:=Mc.2 e;simp [e,h]
theorem akD (b:aB) (r:List GV) (hb:mM b) (hf:∀r∈b.t,iF r.1=true):fK b r 52 [.i .i64 0,.i .i64 (sQ b.t)]:=by
 have h:=Zh b.t hb.t hf;refine aA rfl rfl ?_;simp [h]
theorem akt (b:aB) (r:List GV):fK b r 56 [.i .i64 0]:=by
 refine aA rfl rfl ?_;simp
theorem akw (b:aB) (r:List GV):fK b r 57 [.i .i64 0]:=by
 refine aA rfl rfl ?_;simp
theorem akv (b:aB) (r:List GV):fK b r 58 [.i .i64 0]:=by
 refine aA rfl rfl ?_;simp
theorem akl (b:aB) (r:List GV):fK b r 59 [.i .i64 0]:=by
 refine aA rfl rfl ?_;simp
theorem aks (b:aB) (r:List GV):fK b r 60 [.i .i64 0]:=by
 refine aA rfl rfl ?_;simp
theorem akn (b:aB) (r:List GV):fK b r 61 [.i .i64 0]:=by
 refine aA rfl rfl ?_;simp
theorem akz (b:aB) (r:List GV):fK b r 62 [.i .i64 0]:=by
 refine aA rfl rfl ?_;simp
theorem ako (b:aB) (r:List GV):fK b r 63 [.i .i64 0]:=by
 refine aA rfl rfl ?_;simp
theorem akC (b:aB) (r:List GV):fK b r 64 [.i .i64 0]:=by
 refine aA rfl rfl ?_;simp
theorem akr (b:aB) (r:List GV):fK b r 65 [.i .i64 0]:=by
 refine aA rfl rfl ?_;simp
theorem akk (b:aB) (r:List GV):fK b r 66 [.i .i64 0]:=by
 refine aA rfl rfl ?_;simp
theorem akq (b:aB) (r:List GV):fK b r 67 [.i .i64 0]:=by
 refine aA rfl rfl ?_;simp
theorem aku (b:aB) (r:List GV):fK b r 68 [.i .i64 0]:=by
 refine aA rfl rfl ?_;simp
theorem akm (b:aB) (r:List GV):fK b r 69 [.i .i64 0]:=by
 refine aA rfl rfl ?_;simp
theorem akE (b:aB) (r:List GV):fK b r 70 [.i .i64 0]:=by
 refine aA rfl rfl ?_;simp
/-- One round of the third loop. -/
def kQ (b:aB) (r:List GV) (n:List UInt8) (c:Int):Prop:=∀ (l:List bV) (i:Nat) (out:List GV) (h:i < l.length),((i:Int) < l.length)->IntKind.i64.wrap ((i:Int)+1)=(i:Int)+1->l[i].name=n->
    TT.lim 39 [.l (l.map dV),.i .i64 l.length,.i .i64 ((i:Int)+1),.i .i64 b.kind,.i .u64 b.id,.i .u64 b.min,.i .u64 b.max,.i .u64 b.chosen,.i .u64 b.flags,.i .u64 b.cost,.i .u64 b.priority,.i .u64 b.deadline,.i .u64 b.retry,.i .u64 b.epoch,.i .u64 b.base,.i .u64 b.digest,.i .u64 b.lag,.i .u64 b.code,.i .u64 b.want,.i .i64 b.remaining,.b b.allowed,.s b.name,.s b.region,.s b.note,.l (b.d.map ent),.l (b.t.map row),.l r]=some out->
    TT.lim 39 [.l (l.map dV),.i .i64 l.length,.i .i64 i,.i .i64 b.kind,.i .u64 b.id,.i .u64 b.min,.i .u64 b.max,.i .u64 b.chosen,.i .u64 b.flags,.i .u64 b.cost,.i .u64 b.priority,.i .u64 b.deadline,.i .u64 b.retry,.i .u64 b.epoch,.i .u64 b.base,.i .u64 b.digest,.i .u64 b.lag,.i .u64 b.code,.i .u64 b.want,.i .i64 b.remaining,.b b.allowed,.s b.name,.s b.region,.s b.note,.l (b.d.map ent),.l (b.t.map row),.l r]=some (if c=0 then out else [.i .i64 0,.i .i64 c])
theorem ap7 (b:aB) (r:List GV):kQ b r lN 0:=by
 intro l i out h h1 hw hn ih;have hm:=akB b r;unfold fK at hm;unfold lN at *;rw [aj rfl];refine aA rfl rfl ?_;simp [h1,h,hn,hw,hm,ih]
theorem apP (b:aB) (r:List GV):kQ b r kX 0:=by
 intro l i out h h1 hw hn ih;have hm:=akj b r;unfold fK at hm;unfold kX at *;rw [aj rfl];refine aA rfl rfl ?_;simp [h1,h,hn,hw,hm,ih]
theorem ap3 (b:aB) (r:List GV) (hb:mM b):kQ b r kH (jA b.name 0 256):=by
 intro l i out h h1 hw hn ih;have hm:=akx b r hb;unfold fK at hm;unfold kH at *;generalize (jA b.name 0 256)=c at *;by_cases hc:c=0
 ·subst hc
  rw [aj rfl];refine aA rfl rfl ?_;simp [h1,h,hn,hw,hm,ih]
 ·rw [ah hc]
  refine aA rfl rfl ?_;simp [h1,h,hn,hw,hm,hc]
theorem ap6 (b:aB) (r:List GV) (hb:mM b):kQ b r kK (jA b.region 0 256):=by
 intro l i out h h1 hw hn ih;have hm:=akA b r hb;unfold fK at hm;unfold kK at *;generalize (jA b.region 0 256)=c at *;by_cases hc:c=0
 ·subst hc
  rw [aj rfl];refine aA rfl rfl ?_;simp [h1,h,hn,hw,hm,ih]
 ·rw [ah hc]
  refine aA rfl rfl ?_;simp [h1,h,hn,hw,hm,hc]
theorem ap4 (b:aB) (r:List GV) (hb:mM b):kQ b r kJ (jA b.note 0 256):=by
 intro l i out h h1 hw hn ih;have hm:=aky b r hb;unfold fK at hm;unfold kJ at *;generalize (jA b.note 0 256)=c at *;by_cases hc:c=0
 ·subst hc
  rw [aj rfl];refine aA rfl rfl ?_;simp [h1,h,hn,hw,hm,ih]
 ·rw [ah hc]
  refine aA rfl rfl ?_;simp [h1,h,hn,hw,hm,hc]
theorem apV (b:aB) (r:List GV) (hb:mM b):kQ b r lC (if b.d=[] then 0 else rM b.d):=by
 intro l i out h h1 hw hn ih;have hm:=akp b r hb;unfold fK at hm;unfold lC at *;generalize (if b.d=[] then 0 else rM b.d)=c at *;by_cases hc:c=0
 ·subst hc
  rw [aj rfl];refine aA rfl rfl ?_;simp [h1,h,hn,hw,hm,ih]
 ·rw [ah hc]
  refine aA rfl rfl ?_;simp [h1,h,hn,hw,hm,hc]
theorem ap9 (b:aB) (r:List GV) (hb:mM b) (hf:∀r∈b.t,iF r.1=true):kQ b r lS (sQ b.t):=by
 intro l i out h h1 hw hn ih;have hm:=akD b r hb hf;unfold fK at hm;unfold lS at *;generalize (sQ b.t)=c at *;by_cases hc:c=0
 ·subst hc
  rw [aj rfl];refine aA rfl rfl ?_;simp [h1,h,hn,hw,hm,ih]
 ·rw [ah hc]
  refine aA rfl rfl ?_;simp [h1,h,hn,hw,hm,hc]
theorem apZ (b:aB) (r:List GV):kQ b r lH 0:=by
 intro l i out h h1 hw hn ih;have hm:=akt b r;unfold fK at hm;unfold lH at *;rw [aj rfl];refine aA rfl rfl ?_;simp [h1,h,hn,hw,hm,ih]
theorem ap2 (b:aB) (r:List GV):kQ b r lK 0:=by
 intro l i out h h1 hw hn ih;have hm:=akw b r;unfold fK at hm;unfold lK at *;rw [aj rfl];refine aA rfl rfl ?_;simp [h1,h,hn,hw,hm,ih]
theorem ap1 (b:aB) (r:List GV):kQ b r lJ 0:=by
 intro l i out h h1 hw hn ih;have hm:=akv b r;unfold fK at hm;unfold lJ at *;rw [aj rfl];refine aA rfl rfl ?_;simp [h1,h,hn,hw,hm,ih]
theorem apR (b:aB) (r:List GV):kQ b r kZ 0:=by
 intro l i out h h1 hw hn ih;have hm:=akl b r;unfold fK at hm;unfold kZ at *;rw [aj rfl];refine aA rfl rfl ?_;simp [h1,h,hn,hw,hm,ih]
theorem apY (b:aB) (r:List GV):kQ b r lG 0:=by
 intro l i out h h1 hw hn ih;have hm:=aks b r;unfold fK at hm;unfold lG at *;rw [aj rfl];refine aA rfl rfl ?_;simp [h1,h,hn,hw,hm,ih]
theorem apT (b:aB) (r:List GV):kQ b r lq 0:=by
 intro l i out h h1 hw hn ih;have hm:=akn b r;unfold fK at hm;unfold lq at *;rw [aj rfl];refine aA rfl rfl ?_;simp [h1,h,hn,hw,hm,ih]
theorem ap5 (b:aB) (r:List GV):kQ b r lM 0:=by
 intro l i out h h1 hw hn ih;have hm:=akz b r;unfold fK at hm;unfold lM at *;rw [aj rfl];refine aA rfl rfl ?_;simp [h1,h,hn,hw,hm,ih]
theorem apU (b:aB) (r:List GV):kQ b r lu 0:=by
 intro l i out h h1 hw hn ih;have hm:=ako b r;unfold fK at hm;unfold lu at *;rw [aj rfl];refine aA rfl rfl ?_;simp [h1,h,hn,hw,hm,ih]
theorem ap8 (b:aB) (r:List GV):kQ b r lQ 0:=by
 intro l i out h h1 hw hn ih;have hm:=akC b r;unfold fK at hm;unfold lQ at *;rw [aj rfl];refine aA rfl rfl ?_;simp [h1,h,hn,hw,hm,ih]
theorem apX (b:aB) (r:List GV):kQ b r lF 0:=by
 intro l i out h h1 hw hn ih;have hm:=akr b r;unfold fK at hm;unfold lF at *;rw [aj rfl];refine aA rfl rfl ?_;simp [h1,h,hn,hw,hm,ih]
theorem apQ (b:aB) (r:List GV):kQ b r kY 0:=by
 intro l i out h h1 hw hn ih;have hm:=akk b r;unfold fK at hm;unfold kY at *;rw [aj rfl];refine aA rfl rfl ?_;simp [h1,h,hn,hw,hm,ih]
theorem apW (b:aB) (r:List GV):kQ b r lD 0:=by
 intro l i out h h1 hw hn ih;have hm:=akq b r;unfold fK at hm;unfold lD at *;rw [aj rfl];refine aA rfl rfl ?_;simp [h1,h,hn,hw,hm,ih]
theorem ap0 (b:aB) (r:List GV):kQ b r lI 0:=by
 intro l i out h h1 hw hn ih;have hm:=aku b r;unfold fK at hm;unfold lI at *;rw [aj rfl];refine aA rfl rfl ?_;simp [h1,h,hn,hw,hm,ih]
theorem apS (b:aB) (r:List GV):kQ b r lg 0:=by
 intro l i out h h1 hw hn ih;have hm:=akm b r;unfold fK at hm;unfold lg at *;rw [aj rfl];refine aA rfl rfl ?_;simp [h1,h,hn,hw,hm,ih]
theorem aqa (b:aB) (r:List GV):kQ b r lT 0:=by
 intro l i out h h1 hw hn ih;have hm:=akE b r;unfold fK at hm;unfold lT at *;rw [aj rfl];refine aA rfl rfl ?_;simp [h1,h,hn,hw,hm,ih]
theorem aqd (b:aB) (r:List GV) (hb:mM b) (hf:∀r∈b.t,iF r.1=true) (n:List UInt8):placeOf n≠none->kQ b r n (uN b n):=by
 refine JB (Q:=λn=>placeOf n≠none->kQ b r n (uN b n)) (λ_=>by rw [ny b E8];exact ap7 b r ) (λ_=>by rw [ny b EK];exact apP b r ) (λ_=>by rw [ny b CU];exact ap3 b r hb) (λ_=>by rw [ny b CW];exact ap6 b r hb) (λ_=>by rw [ny b CV];exact ap4 b r hb) (λ_=>by rw [ny b ER];exact apV b r hb) (λ_=>by rw [ny b Fa];exact ap9 b r hb hf) (λ_=>by rw [ny b EW];exact apZ b r ) (λ_=>by rw [ny b EZ];exact ap2 b r ) (λ_=>by rw [ny b EY];exact ap1 b r ) (λ_=>by rw [ny b EM];exact apR b r ) (λ_=>by rw [ny b EU];exact apY b r ) (λ_=>by rw [ny b EO];exact apT b r ) (λ_=>by rw [ny b E5];exact ap5 b r ) (λ_=>by rw [ny b EP];exact apU b r ) (λ_=>by rw [ny b E9];exact ap8 b r ) (λ_=>by rw [ny b ET];exact apX b r ) (λ_=>by rw [ny b EL];exact apQ b r ) (λ_=>by rw [ny b ES];exact apW b r ) (λ_=>by rw [ny b EX];exact ap0 b r ) (λ_=>by rw [ny b EN];exact apS b r ) (λ_=>by rw [ny b Fb];exact aqa b r ) (λn e0 e1 e2 e3 e4 e5 e6 e7 e8 e9 e10 e11 e12 e13 e14 e15 e16 e17 e18 e19 e20 e21 h=>absurd (KX n e0 e1 e2 e3 e4 e5 e6 e7 e8 e9 e10 e11 e12 e13 e14 e15 e16 e17 e18 e19 e20 e21) h) n
end K
end Go.Proofs.YthgifdbaegpbpaaGreatDoor
