/- What the trees compute: plain laws. -/
import Derived.Test.YtcpfjpcdcafjmaaGreatDoorKCe2
namespace Go.Proofs.YtcpfjpcdcafjmaaGreatDoor
open Go Go.aN
set_option linter.unusedSimpArgs false
set_option linter.unusedVariables false
set_option maxRecDepth 100000
namespace C
structure One where
 deep:Int
 tag:Int
 typ:Int
 num:Int
 text:List UInt8
inductive bH where
 | mk (tag typ num:Int) (text:List UInt8) (l:List bH)
def one (x:One):GV:=.g [.i .u8 x.deep,.i .u64 x.tag,.i .i8 x.typ,.i .u64 x.num,.s x.text]
@[simp] theorem aqS (x:One):(one x).cells=[.i .u8 x.deep,.i .u64 x.tag,.i .i8 x.typ,.i .u64 x.num,.s x.text]:=rfl
mutual
def sQ:bH->GV
 | .mk t y n s l=>.g [.i .u64 t,.i .i64 y,.i .u64 n,.s s,.l (aQ l)]
def aQ:List bH->List GV
 | []=>[]
 | f::l=>sQ f::aQ l
end
theorem Rl:∀ (a b:List bH),aQ (a++b)=aQ a++aQ b
 | [],b=>rfl
 | f::a,b=>by simp only [eP,aQ,Rl a b]
theorem vH:∀ (a:List bH),(aQ a).length=a.length
 | []=>rfl
 | f::a=>by simp only [aQ,lq,vH a]
def AO (x:One):Prop:=0<=x.deep/\x.deep<=255/\-128<=x.typ/\x.typ<=127/\0<=x.tag/\x.tag < 18446744073709551616/\0<=x.num/\x.num < 18446744073709551616/\x.text.length<=140737488351232
def Ones (l:List One):Prop:=l.length<=140737488351232/\∀x∈l,AO x
def wF (l:List One):Bool:=l.all (λx=>decide (x.text.length<=300))&&decide (l.length<=60)
theorem Zn (l:List One) (hl:l.length<=140737488351232):∀m i:Nat,i+m=l.length->TT.lim 15 [.l (l.map one),.i .i64 l.length,.i .i64 i]=some (if (l.drop i).all (λx=>decide (x.text.length<=300))=true then [.i .i64 1] else [.i .i64 0])
 | 0,i,hi=>by
   have h0:l.drop i=[]:=eY (by omega);refine aC rfl rfl ?_;have h:¬ ((i:Int) < l.length):=by omega
   simp [h,h0]
 | m+1,i,hi=>by
   have hlt:i < l.length:=by omega
   have ih:TT.lim 15 [.l (l.map one),.i .i64 l.length,.i .i64 ((i:Int)+1)]=_:=Zn l hl m (i+1) (by omega);refine aC rfl rfl ?_;have h:((i:Int) < l.length):=by omega
   have hw:=wrap64 (n:=(i:Int)+1) (by omega) (by omega);have hda:(l.drop i).all (λx=>decide (x.text.length<=300))=(decide (l[i].text.length<=300)&&(l.drop (i+1)).all (λx=>decide (x.text.length<=300))):=by rw [fZ hlt,tY]
   by_cases hf:(300:Int) < (l[i].text.length:Int)
   ·have:decide (l[i].text.length<=300)=false:=by simp;omega
    simp [-List.all_eq_true,h,hlt,hf,hda,this]
   ·have:decide (l[i].text.length<=300)=true:=by simp;omega
    rw [hda,this,PK];simp [-List.all_eq_true,h,hlt,hw,hf,ih]
theorem af2 (l:List One) (hl:l.length<=140737488351232):TT.lim 14 [.l (l.map one)]=some [.b (wF l)]:=by
 refine aA rfl rfl ?_ rfl;have h5:TT.lim 15 [.l (l.map one),.i .i64 l.length,.i .i64 0]=_:=Zn l hl l.length 0 (by omega);rw [dJ] at h5;cases hc:l.all (λx=>decide (x.text.length<=300)) with
 | false=>rw [hc] at h5;simp [-List.all_eq_true,h5,wF,hc]
 | true=>
   rw [hc] at h5;simp only [if_true] at h5;have:(decide ((l.length:Int)<=60))=decide (l.length<=60):=by rw [qp];simp;omega
   simp [-List.all_eq_true,h5,wF,hc,this]
/-- What Make makes: of the first ones that are at least so deep; and the others. -/
def fA:Nat->List One->Int->List bH×List One
 | 0,l,_=>([],l)
 | _+1,[],_=>([],[])
 | n+1,x::l,deep=>
   if deep<=x.deep then
    let p:=if x.deep=255 then ([],l) else fA n l (x.deep+1)
    let q:=fA n p.2 deep
    (.mk x.tag x.typ x.num x.text p.1::q.1,q.2)
   else ([],x::l)
theorem Fp:∀ (n:Nat) (l:List One) (deep:Int),(fA n l deep).1.length+(fA n l deep).2.length<=l.length/\∃k,(fA n l deep).2=l.drop k
 | 0,l,deep=>by simp only [fA];exact ⟨by simp,0,rfl⟩
 | n+1,[],deep=>by simp only [fA];exact ⟨by simp,0,rfl⟩
 | n+1,x::l,deep=>by
   simp only [fA];split
   ·by_cases hx:x.deep=255
    ·rw [ak hx]
     obtain ⟨h1,k,h2⟩:=Fp n l deep;refine ⟨by simp only [lq];omega,k+1,by simp only [h2,Kq]⟩
    ·rw [ah hx]
     obtain ⟨h1,k,h2⟩:=Fp n l (x.deep+1);obtain ⟨h3,k',h4⟩:=Fp n (fA n l (x.deep+1)).2 deep;refine ⟨by simp only [lq];omega,k+k'+1, ?_⟩;simp only [h4,Kq];rw [h2,nH]
   ·exact ⟨by simp,0,rfl⟩
def Fh (x:One) (l:List bH):GV:=.g [.i .u64 x.tag,.i .i64 x.typ,.i .u64 x.num,.s x.text,.l (aQ l)]
theorem MN:∀ (n:Nat) (l:List One) (deep:Int) (acc:List bH),l.length < n->acc.length+l.length<=1000000->(∀x∈l,AO x)->
 TT.lim 28 [.l (l.map one),.i .u8 deep,.l (aQ acc)]=some [.i .i64 0,.l ((fA n l deep).2.map one),.l (aQ (acc++(fA n l deep).1))]
 | 0,l,deep,acc,hn,_,_=>by omega
 | n+1,[],deep,acc,hn,hb,hl=>by
   refine aC rfl rfl ?_;simp [fA]
 | n+1,x::l,deep,acc,hn,hb,hl=>by
   have hx:=hl x (by simp);have hl':∀y∈l,AO y:=λy hy=>hl y (by simp [hy]);simp only [lq] at hn hb;have hw:=wrap64 (n:=x.typ) (by have:=hx.2.2.1;omega) (by have:=hx.2.2.2.1;omega);have hb2:2 * ((aQ acc).length+1) * 64<=281474976710656:=by rw [vH];omega
   have hb3:(aQ acc).length<=281474976710655:=by rw [vH];omega
   have hcast:((l.length:Int)+1).toNat=l.length+1:=by omega
   have h1:(1:Int)<=(l.length:Int)+1:=by omega
   have htake:List.take l.length (l.map one)=l.map one:=lK (by simp);have hall:∀y∈l.map one,y.cells.length=5:=by
    intro y hy;obtain ⟨z,_,rfl⟩:=qB.1 hy;rfl
   refine aC rfl rfl ?_;by_cases hd:deep<=x.deep
   ·by_cases MW:x.deep=255
    ·have ih:=MN n l deep (acc++[.mk x.tag x.typ x.num x.text []]) (by omega) (by simp;omega) hl'
     have e:fA (n+1) (x::l) deep=(.mk x.tag x.typ x.num x.text []::(fA n l deep).1,(fA n l deep).2):=by
      simp only [fA,ak hd,ak MW]
     rw [e];rw [rU,Rl] at ih;have e2:aQ [bH.mk x.tag x.typ x.num x.text []]=[Fh x []]:=rfl;rw [e2] at ih;have hel:(Fh x []).fV 5=true:=rfl;have hfold:GV.g [.i .u64 x.tag,.i .i64 x.typ,.i .u64 x.num,.s x.text,.l []]=Fh x []:=rfl;have h0:(0:Int) < (l.length:Int)+1:=by omega
     have hd2:deep<=255:=by omega
     simp [hd2,MW,hw,hfold,hel,hb2,hb3,hall,h0,h1,htake,hcast,ih]
    ·have hf:=Fp n l (x.deep+1)
     have ih1:=MN n l (x.deep+1) [] (by omega) (by simp;omega) hl';have hk:TT.lim 27 [.l (l.map one),.i .u8 (x.deep+1)]=some [.l (aQ (fA n l (x.deep+1)).1),.l ((fA n l (x.deep+1)).2.map one)]:=by
      refine aA rfl rfl ?_ rfl;have ih1':TT.lim 28 [.l (l.map one),.i .u8 (x.deep+1),.l []]=_:=ih1;simp [ih1']
     have ih2:=MN n (fA n l (x.deep+1)).2 deep (acc++[.mk x.tag x.typ x.num x.text (fA n l (x.deep+1)).1]) (by omega) (by simp;omega) (λy hy=>by
      obtain ⟨_,k,e⟩:=hf;rw [e] at hy;exact hl' y (BZ hy))
     have e:fA (n+1) (x::l) deep=(.mk x.tag x.typ x.num x.text (fA n l (x.deep+1)).1::(fA n (fA n l (x.deep+1)).2 deep).1,(fA n (fA n l (x.deep+1)).2 deep).2):=by
      simp only [fA,ak hd,ah MW]
     rw [e];rw [rU,Rl] at ih2;generalize fA n l (x.deep+1)=p at *;obtain ⟨p1,p2⟩:=p;simp only at *;have e2:aQ [bH.mk x.tag x.typ x.num x.text p1]=[Fh x p1]:=rfl;rw [e2] at ih2;have hel:(Fh x p1).fV 5=true:=rfl;have hfold:GV.g [.i .u64 x.tag,.i .i64 x.typ,.i .u64 x.num,.s x.text,.l (aQ p1)]=Fh x p1:=rfl;have h0:(0:Int) < (l.length:Int)+1:=by omega
     have hw8:=Py (n:=x.deep+1) (by have:=hx.1;omega) (by have:=hx.2.1;omega);simp [hd,MW,hw,hw8,hk,hfold,hel,hb2,hb3,hall,h0,h1,htake,hcast,ih2]
   ·have e:fA (n+1) (x::l) deep=([],x::l):=by simp only [fA,ah hd]
    rw [e];have h0:(0:Int) < (l.length:Int)+1:=by omega
    simp [hd,h0]
def uI (l:List One):List bH:=(fA (l.length+1) l 0).1
theorem air (l:List One) (hl:∀x∈l,AO x) (h60:l.length<=1000000):TT.lim 26 [.l (l.map one)]=some [.l (aQ (uI l))]:=by
 have hk:TT.lim 27 [.l (l.map one),.i .u8 0]=some [.l (aQ (uI l)),.l ((fA (l.length+1) l 0).2.map one)]:=by
  refine aA rfl rfl ?_ rfl;have ih1:TT.lim 28 [.l (l.map one),.i .u8 0,.l []]=_:=MN (l.length+1) l 0 [] (by omega) (by simp;omega) hl;simp [ih1,uI]
 refine aA rfl rfl ?_ rfl;simp [hk]
structure aG where
 kind:Int
 id:Int
 min:Int
 max:Int
 chosen:Int
 flags:Int
 cost:Int
 priority:Int
 deadline:Int
 retry:Int
 epoch:Int
 base:Int
 digest:Int
 lag:Int
 code:Int
 want:Int
 remaining:Int
 allowed:Bool
 name:List UInt8
 region:List UInt8
 note:List UInt8
 d:List bJ
 t:List Row
/-- A message: what it has, and its rest. -/
def aJ (b:aG) (r:List GV):GV:=.g [.i .i64 b.kind,.i .u64 b.id,.i .u64 b.min,.i .u64 b.max,.i .u64 b.chosen,.i .u64 b.flags,.i .u64 b.cost,.i .u64 b.priority,.i .u64 b.deadline,.i .u64 b.retry,.i .u64 b.epoch,.i .u64 b.base,.i .u64 b.digest,.i .u64 b.lag,.i .u64 b.code,.i .u64 b.want,.i .i64 b.remaining,.b b.allowed,.s b.name,.s b.region,.s b.note,.l (b.d.map ent),.l (b.t.map row),.l r]
theorem jC (b:aG) (r:List GV):GV.g [.i .i64 b.kind,.i .u64 b.id,.i .u64 b.min,.i .u64 b.max,.i .u64 b.chosen,.i .u64 b.flags,.i .u64 b.cost,.i .u64 b.priority,.i .u64 b.deadline,.i .u64 b.retry,.i .u64 b.epoch,.i .u64 b.base,.i .u64 b.digest,.i .u64 b.lag,.i .u64 b.code,.i .u64 b.want,.i .i64 b.remaining,.b b.allowed,.s b.name,.s b.region,.s b.note,.l (b.d.map ent),.l (b.t.map row),.l r]=aJ b r:=rfl
@[simp] theorem wP (b:aG) (r:List GV):(aJ b r).cells=[.i .i64 b.kind,.i .u64 b.id,.i .u64 b.min,.i .u64 b.max,.i .u64 b.chosen,.i .u64 b.flags,.i .u64 b.cost,.i .u64 b.priority,.i .u64 b.deadline,.i .u64 b.retry,.i .u64 b.epoch,.i .u64 b.base,.i .u64 b.digest,.i .u64 b.lag,.i .u64 b.code,.i .u64 b.want,.i .i64 b.remaining,.b b.allowed,.s b.name,.s b.region,.s b.note,.l (b.d.map ent),.l (b.t.map row),.l r]:=rfl
structure nG (b:aG):Prop where
 kind : -9223372036854775808<=b.kind/\b.kind<=9223372036854775807
 id:0<=b.id/\b.id < 18446744073709551616
 min:0<=b.min/\b.min < 18446744073709551616
 max:0<=b.max/\b.max < 18446744073709551616
 chosen:0<=b.chosen/\b.chosen < 18446744073709551616
 flags:0<=b.flags/\b.flags < 18446744073709551616
 cost:0<=b.cost/\b.cost < 18446744073709551616
 priority:0<=b.priority/\b.priority < 18446744073709551616
 deadline:0<=b.deadline/\b.deadline < 18446744073709551616
 retry:0<=b.retry/\b.retry < 18446744073709551616
 epoch:0<=b.epoch/\b.epoch < 18446744073709551616
 base:0<=b.base/\b.base < 18446744073709551616
 digest:0<=b.digest/\b.digest < 18446744073709551616
 lag:0<=b.lag/\b.lag < 18446744073709551616
 code:0<=b.code/\b.code < 18446744073709551616
 want:0<=b.want/\b.want < 18446744073709551616
 remaining : -9223372036854775808<=b.remaining/\b.remaining<=9223372036854775807
 name:b.name.length<=140737488351232
 region:b.region.length<=140737488351232
 note:b.note.length<=140737488351232
 d:oq b.d
 t:Rows b.t
def Dk (b:aG) (l:List One):Bool:=decide (b.name.length<=600)&&(decide (b.region.length<=600)&&(decide (b.note.length<=600)&&(gy b.d&&(Bo b.t&&wF l))))
theorem Zl (b:aG) (l:List One) (hb:nG b) (hl:Ones l):TT.lim 2 [aJ b (l.map one)]=some [.b (Dk b l)]:=by
 have h12:=Zm b.d hb.d;have h13:=af0 b.t hb.t;have h8:=af2 l hl.1;have e1:(decide ((b.name.length:Int)<=600))=decide (b.name.length<=600):=by rw [qp];simp;omega
 have e2:(decide ((b.region.length:Int)<=600))=decide (b.region.length<=600):=by rw [qp];simp;omega
 have e3:(decide ((b.note.length:Int)<=600))=decide (b.note.length<=600):=by rw [qp];simp;omega
 refine aA rfl rfl ?_ rfl;unfold Dk;generalize gy b.d=c1 at *;generalize Bo b.t=c2 at *;generalize wF l=c3 at *;cases f1:decide (b.name.length<=600) with
 | false=>rw [f1] at e1;simp at e1;have e1':¬ ((b.name.length:Int)<=600):=by omega
          simp [e1']
 | true=>
 rw [f1] at e1;have e1':((b.name.length:Int)<=600):=by simpa using e1
 cases f2:decide (b.region.length<=600) with
 | false=>rw [f2] at e2;simp at e2;have e2':¬ ((b.region.length:Int)<=600):=by omega
          simp [e1',e2']
 | true=>
 rw [f2] at e2;have e2':((b.region.length:Int)<=600):=by simpa using e2
 cases f3:decide (b.note.length<=600) with
 | false=>rw [f3] at e3;simp at e3;have e3':¬ ((b.note.length:Int)<=600):=by omega
          simp [e1',e2',e3']
 | true=>
 rw [f3] at e3;have e3':((b.note.length:Int)<=600):=by simpa using e3
 cases c1<;>cases c2<;>simp [e1',e2',e3',h12,h13,h8]
theorem aa0 (b:aG) (l:List One) (hl:Ones l) (hf:wF l=true):TT.lim 25 [aJ b (l.map one)]=some [aJ b (aQ (uI l))]:=by
 have h8:l.length<=60:=by unfold wF at hf;rw [aH,decide_eq_true_iff] at hf;exact hf.2
 have hm:=air l hl.2 (by omega);refine aA rfl rfl ?_ rfl;simp [hm,jC]
theorem RN {k:IntKind} {g:GV} (h:(bF.int k).has g):∃n,g=.i k n/\k.min<=n/\n<=k.max:=by
 simp only [bF.has] at h;exact h
theorem ZV {g:GV} (h:(bF.int .i64).has g):∃n,g=.i .i64 n/\-9223372036854775808<=n/\n<=9223372036854775807:=by
 obtain ⟨n,rfl,h1,h2⟩:=RN h;exact ⟨n,rfl,by simpa [IntKind.min,IntKind.signed,IntKind.bits] using h1,by simpa [IntKind.max,IntKind.signed,IntKind.bits] using h2⟩
theorem ag0 {g:GV} (h:bF.bool.has g):∃b,g=.b b:=by simpa only [bF.has] using h
theorem afo {g:GV} (h:(bF.list true [.str,.str]).has g):∃l:List bJ,oq l/\g=.l (l.map ent):=by
 obtain ⟨xs,rfl,h1,h2⟩:=Jd h;obtain ⟨rs,h3,rfl⟩:=FT (f:=ent) (p:=λr:bJ=>r.1.length<=140737488351232/\r.2.length<=140737488351232) λx hx=>by
  obtain ⟨h4,h5⟩:=h2 x hx;cases x<;>simp [GV.scalar] at h5
  next cs=>
  simp only [Qv] at h4;obtain ⟨a,r,rfl,ha,h4⟩:=gX h4;obtain ⟨c,r,rfl,hc,h4⟩:=gX h4;obtain rfl:=FD h4;obtain ⟨u,rfl,hu⟩:=zL ha;obtain ⟨v,rfl,hv⟩:=zL hc;exact ⟨(u,v),⟨hu,hv⟩,rfl⟩
 exact ⟨rs,⟨by rw [oQ] at h1;exact h1,h3⟩,rfl⟩
theorem aiV {g:GV} (h:(bF.list true [.int .u8,.int .u64,.int .i8,.int .u64,.str]).has g):∃l:List One,Ones l/\g=.l (l.map one):=by
 obtain ⟨xs,rfl,h1,h2⟩:=Jd h;obtain ⟨rs,h3,rfl⟩:=FT (f:=one) (p:=AO) λx hx=>by
  obtain ⟨h4,h5⟩:=h2 x hx;cases x<;>simp [GV.scalar] at h5
  next cs=>
  simp only [Qv] at h4;obtain ⟨a,r,rfl,ha,h4⟩:=gX h4;obtain ⟨c,r,rfl,hc,h4⟩:=gX h4;obtain ⟨e,r,rfl,he,h4⟩:=gX h4;obtain ⟨f,r,rfl,hf,h4⟩:=gX h4;obtain ⟨s,r,rfl,hs,h4⟩:=gX h4;obtain rfl:=FD h4;obtain ⟨a,rfl,a1,a2⟩:=RN ha;obtain ⟨c,rfl,c1,c2⟩:=pz hc;obtain ⟨e,rfl,e1,e2⟩:=RN he;obtain ⟨f,rfl,f1,f2⟩:=pz hf;obtain ⟨s,rfl,hs0⟩:=zL hs;have a1':0<=a:=by simpa [IntKind.min,IntKind.signed] using a1
  have a2':a<=255:=by simpa [IntKind.max,IntKind.signed,IntKind.bits] using a2
  have e1' : -128<=e:=by simpa [IntKind.min,IntKind.signed,IntKind.bits] using e1
  have e2':e<=127:=by simpa [IntKind.max,IntKind.signed,IntKind.bits] using e2
  exact ⟨⟨a,c,e,f,s⟩,⟨a1',a2',e1',e2',c1,c2,f1,f2,hs0⟩,rfl⟩
 exact ⟨rs,⟨by rw [oQ] at h1;exact h1,h3⟩,rfl⟩
abbrev UR:List bF:=[.int .i64,.int .u64,.int .u64,.int .u64,.int .u64,.int .u64,.int .u64,.int .u64,.int .u64,.int .u64,.int .u64,.int .u64,.int .u64,.int .u64,.int .u64,.int .u64,.int .i64,.bool,.str,.str,.str,.list true [.str,.str],.list true [.list true [.str,.str],.int .u64],.list true [.int .u8,.int .u64,.int .i8,.int .u64,.str]]
theorem abO {cs:List GV} (h:bF.gW UR cs):∃b l,nG b/\Ones l/\GV.g cs=aJ b (l.map one):=by
 obtain ⟨_,_,rfl,h1,g0⟩:=gX h;obtain ⟨x0,rfl,k0⟩:=ZV h1;obtain ⟨_,_,rfl,h1,g1⟩:=gX g0;obtain ⟨x1,rfl,k1⟩:=pz h1;obtain ⟨_,_,rfl,h1,g2⟩:=gX g1;obtain ⟨x2,rfl,k2⟩:=pz h1;obtain ⟨_,_,rfl,h1,g3⟩:=gX g2;obtain ⟨x3,rfl,k3⟩:=pz h1;obtain ⟨_,_,rfl,h1,g4⟩:=gX g3;obtain ⟨x4,rfl,k4⟩:=pz h1;obtain ⟨_,_,rfl,h1,g5⟩:=gX g4;obtain ⟨x5,rfl,k5⟩:=pz h1;obtain ⟨_,_,rfl,h1,g6⟩:=gX g5;obtain ⟨x6,rfl,k6⟩:=pz h1;obtain ⟨_,_,rfl,h1,g7⟩:=gX g6;obtain ⟨x7,rfl,k7⟩:=pz h1;obtain ⟨_,_,rfl,h1,g8⟩:=gX g7;obtain ⟨x8,rfl,k8⟩:=pz h1;obtain ⟨_,_,rfl,h1,g9⟩:=gX g8;obtain ⟨x9,rfl,k9⟩:=pz h1;obtain ⟨_,_,rfl,h1,g10⟩:=gX g9;obtain ⟨x10,rfl,k10⟩:=pz h1;obtain ⟨_,_,rfl,h1,g11⟩:=gX g10;obtain ⟨x11,rfl,k11⟩:=pz h1;obtain ⟨_,_,rfl,h1,g12⟩:=gX g11;obtain ⟨x12,rfl,k12⟩:=pz h1;obtain ⟨_,_,rfl,h1,g13⟩:=gX g12;obtain ⟨x13,rfl,k13⟩:=pz h1;obtain ⟨_,_,rfl,h1,g14⟩:=gX g13;obtain ⟨x14,rfl,k14⟩:=pz h1;obtain ⟨_,_,rfl,h1,g15⟩:=gX g14;obtain ⟨x15,rfl,k15⟩:=pz h1;obtain ⟨_,_,rfl,h1,g16⟩:=gX g15;obtain ⟨x16,rfl,k16⟩:=ZV h1;obtain ⟨_,_,rfl,h1,g17⟩:=gX g16;obtain ⟨x17,rfl⟩:=ag0 h1;obtain ⟨_,_,rfl,h1,g18⟩:=gX g17;obtain ⟨x18,rfl,k18⟩:=zL h1;obtain ⟨_,_,rfl,h1,g19⟩:=gX g18;obtain ⟨x19,rfl,k19⟩:=zL h1;obtain ⟨_,_,rfl,h1,g20⟩:=gX g19;obtain ⟨x20,rfl,k20⟩:=zL h1;obtain ⟨_,_,rfl,h1,g21⟩:=gX g20;obtain ⟨x21,k21,rfl⟩:=afo h1;obtain ⟨_,_,rfl,h1,g22⟩:=gX g21;obtain ⟨x22,k22,rfl⟩:=akO h1;obtain ⟨_,_,rfl,h1,g23⟩:=gX g22;obtain ⟨x23,k23,rfl⟩:=aiV h1;obtain rfl:=FD g23;exact ⟨⟨x0,x1,x2,x3,x4,x5,x6,x7,x8,x9,x10,x11,x12,x13,x14,x15,x16,x17,x18,x19,x20,x21,x22⟩,x23,⟨k0,k1,k2,k3,k4,k5,k6,k7,k8,k9,k10,k11,k12,k13,k14,k15,k16,k18,k19,k20,k21,k22⟩,k23,rfl⟩
structure rZ where
 tag:Int
 use:Int
 from_:Int
 name:List UInt8
def vS (s:rZ):GV:=.g [.i .u64 s.tag,.i .i64 s.use,.i .i64 s.from_,.s s.name]
@[simp] theorem aq8 (s:rZ):(vS s).cells=[.i .u64 s.tag,.i .i64 s.use,.i .i64 s.from_,.s s.name]:=rfl
def sp1:List rZ:=[⟨1,0,1,[109,105,110]⟩,⟨2,0,1,[109,97,120]⟩,⟨3,3,1,[110,97,109,101]⟩,⟨4,3,2,[114,101,103,105,111,110]⟩,⟨5,0,3,[102,108,97,103,115]⟩]
def sp2:List rZ:=[⟨1,0,1,[99,104,111,115,101,110]⟩,⟨2,3,1,[110,97,109,101]⟩,⟨3,3,2,[114,101,103,105,111,110]⟩]
def OG:List rZ:=[⟨1,0,1,[105,100]⟩,⟨2,4,1,[100,101,115,99,114]⟩,⟨3,0,1,[99,111,115,116]⟩,⟨4,0,2,[112,114,105,111,114,105,116,121]⟩,⟨5,0,3,[100,101,97,100,108,105,110,101]⟩]
def OH:List rZ:=[⟨1,0,1,[105,100]⟩,⟨2,1,1,[97,108,108,111,119,101,100]⟩,⟨3,2,1,[114,101,109,97,105,110,105,110,103]⟩,⟨4,0,2,[114,101,116,114,121]⟩,⟨5,3,3,[110,111,116,101]⟩]
def OI:List rZ:=[⟨1,0,1,[101,112,111,99,104]⟩,⟨2,5,1,[116,97,98,108,101]⟩,⟨3,3,2,[114,101,103,105,111,110]⟩,⟨4,0,3,[100,105,103,101,115,116]⟩]
def OJ:List rZ:=[⟨1,0,2,[98,97,115,101]⟩,⟨2,0,2,[101,112,111,99,104]⟩,⟨3,5,2,[116,97,98,108,101]⟩,⟨4,3,2,[114,101,103,105,111,110]⟩,⟨5,0,3,[100,105,103,101,115,116]⟩]
def OL:List rZ:=[⟨1,0,1,[101,112,111,99,104]⟩,⟨2,0,3,[108,97,103]⟩]
def OM:List rZ:=[⟨1,0,1,[101,112,111,99,104]⟩,⟨2,0,1,[99,111,100,101]⟩,⟨3,0,2,[119,97,110,116]⟩,⟨4,3,3,[110,111,116,101]⟩]
def rM (k:Int):List rZ:=if k=1 then sp1 else if k=2 then sp2 else if k=3 then OG else if k=4 then OH else if k=5 then OI else if k=6 then OJ else if k=7 then OL else if k=8 then OM else []
theorem amO (k:Int):(rM k).length<=8:=by
 unfold rM;repeat' split
 all_goals (first | (unfold sp1;decide) | (unfold sp2;decide) | (unfold OG;decide) | (unfold OH;decide) | (unfold OI;decide) | (unfold OJ;decide) | (unfold OL;decide) | (unfold OM;decide) | decide)
theorem akY (k:Int):TT.lim 71 [.i .i64 k]=some [.l ((rM k).map vS)]:=by
 unfold rM;refine aA rfl rfl ?_ rfl;by_cases k1:k=1
 ·simp [k1,sp1,vS]
 by_cases k2:k=2
 ·simp [k2,sp2,vS]
 by_cases k3:k=3
 ·simp [k3,OG,vS]
 by_cases k4:k=4
 ·simp [k4,OH,vS]
 by_cases k5:k=5
 ·simp [k5,OI,vS]
 by_cases k6:k=6
 ·simp [k6,OJ,vS]
 by_cases k7:k=7
 ·simp [k7,OL,vS]
 by_cases k8:k=8
 ·simp [k8,OM,vS]
 simp [k1,k2,k3,k4,k5,k6,k7,k8]
def bH.tag:bH->Int
 | .mk t _ _ _ _=>t
theorem Rn:∀ (a:List bH),aQ a=a.map sQ
 | []=>rfl
 | f::a=>by simp only [aQ,jV,Rn a]
mutual
def yV:bH->Nat
 | .mk _ _ _ _ l=>iR l+1
def iR:List bH->Nat
 | []=>0
 | f::l=>yV f+iR l+1
end
mutual
def Fj:bH->Prop
 | .mk t y n s k=>(0<=t/\t < 18446744073709551616/\-128<=y/\y<=127/\0<=n/\n < 18446744073709551616/\s.length<=100000000/\k.length<=1000000)/\jB k
def jB:List bH->Prop
 | []=>True
 | f::r=>Fj f/\jB r
end
theorem MH:∀ {l:List bH},jB l->∀f∈l,Fj f
 | f::l,h,g,hg=>by
   simp only [jB] at h;rcases dP.1 hg with rfl | hg
   ·exact h.1
   ·exact MH h.2 g hg
theorem VT:∀ {l:List bH} {f:bH},f∈l->yV f < iR l
 | g::l,f,h=>by
   simp only [iR];rcases dP.1 h with rfl | h
   ·omega
   ·have:=VT h;omega
@[simp] theorem apC (t y n:Int) (s:List UInt8) (k:List bH):(sQ (.mk t y n s k)).cells=[.i .u64 t,.i .i64 y,.i .u64 n,.s s,.l (aQ k)]:=by simp only [sQ];rfl
inductive Pl where
 | rem | allow | name | region | note | d | t
 | num (k:Nat)
def lH:List UInt8:=[114,101,109,97,105,110,105,110,103]
def lG:List UInt8:=[97,108,108,111,119,101,100]
def kM:List UInt8:=[110,97,109,101]
def kQ:List UInt8:=[114,101,103,105,111,110]
def kN:List UInt8:=[110,111,116,101]
def jG:List UInt8:=[100,101,115,99,114]
def jH:List UInt8:=[116,97,98,108,101]
def kH:List UInt8:=[105,100]
def kL:List UInt8:=[109,105,110]
def kK:List UInt8:=[109,97,120]
def jZ:List UInt8:=[99,104,111,115,101,110]
def kG:List UInt8:=[102,108,97,103,115]
def kC:List UInt8:=[99,111,115,116]
def kP:List UInt8:=[112,114,105,111,114,105,116,121]
def kD:List UInt8:=[100,101,97,100,108,105,110,101]
def kR:List UInt8:=[114,101,116,114,121]
def kF:List UInt8:=[101,112,111,99,104]
def jY:List UInt8:=[98,97,115,101]
def kE:List UInt8:=[100,105,103,101,115,116]
def kJ:List UInt8:=[108,97,103]
def ku:List UInt8:=[99,111,100,101]
def kS:List UInt8:=[119,97,110,116]
def placeOf (n:List UInt8):Option Pl:=
 if n=lH then some .rem else if n=lG then some .allow else if n=kM then some .name else if n=kQ then some .region else if n=kN then some .note else if n=jG then some .d else if n=jH then some .t else if n=kH then some (.num 0) else if n=kL then some (.num 1) else if n=kK then some (.num 2) else if n=jZ then some (.num 3) else if n=kG then some (.num 4) else if n=kC then some (.num 5) else if n=kP then some (.num 6) else if n=kD then some (.num 7) else if n=kR then some (.num 8) else if n=kF then some (.num 9) else if n=jY then some (.num 10) else if n=kE then some (.num 11) else if n=kJ then some (.num 12) else if n=ku then some (.num 13) else if n=kS then some (.num 14) else none
theorem xH:placeOf lH=some .rem:=rfl
theorem wS:placeOf lG=some .allow:=rfl
theorem xC:placeOf kM=some .name:=rfl
theorem xG:placeOf kQ=some .region:=rfl
theorem xE:placeOf kN=some .note:=rfl
theorem wZ:placeOf jG=some .d:=rfl
theorem xJ:placeOf jH=some .t:=rfl
theorem xu:placeOf kH=some (.num 0):=rfl
theorem xB:placeOf kL=some (.num 1):=rfl
theorem xA:placeOf kK=some (.num 2):=rfl
theorem wV:placeOf jZ=some (.num 3):=rfl
theorem xq:placeOf kG=some (.num 4):=rfl
theorem wX:placeOf kC=some (.num 5):=rfl
theorem xF:placeOf kP=some (.num 6):=rfl
theorem wY:placeOf kD=some (.num 7):=rfl
theorem xI:placeOf kR=some (.num 8):=rfl
theorem xk:placeOf kF=some (.num 9):=rfl
theorem wU:placeOf jY=some (.num 10):=rfl
theorem xg:placeOf kE=some (.num 11):=rfl
theorem xw:placeOf kJ=some (.num 12):=rfl
theorem wW:placeOf ku=some (.num 13):=rfl
theorem xK:placeOf kS=some (.num 14):=rfl
def iw (b:aG) (k:Nat):Int:=match k with
 | 0=>b.id
 | 1=>b.min
 | 2=>b.max
 | 3=>b.chosen
 | 4=>b.flags
 | 5=>b.cost
 | 6=>b.priority
 | 7=>b.deadline
 | 8=>b.retry
 | 9=>b.epoch
 | 10=>b.base
 | 11=>b.digest
 | 12=>b.lag
 | 13=>b.code
 | _=>b.want
def zz (x:Int):Int:=if 0<=x then 2 * x else -2 * x - 1
def aV (b:aG):Pl->Int×List UInt8
 | .rem=>(zz b.remaining,[])
 | .allow=>(if b.allowed=true then 1 else 0,[])
 | .name=>(0,b.name)
 | .region=>(0,b.region)
 | .note=>(0,b.note)
 | .d=>(0,if b.d=[] then [] else dN b.d)
 | .t=>(0,if b.t=[] then [] else (zY b.t).1)
 | .num k=>(iw b k,[])
def aK:Pl->Int
 | .num _=>0
 | .rem=>0
 | .allow=>0
 | _=>1
def dM:Pl->Int
 | .num _=>0
 | .allow=>1
 | .rem=>2
 | .d=>4
 | .t=>5
 | _=>3
/-- A cascade over all names. -/
theorem Il {Q:List UInt8->Prop} (agS:Q lH) (agB:Q lG) (agO:Q kM) (agR:Q kQ) (agP:Q kN) (agG:Q jG) (agU:Q jH) (agK:Q kH) (agN:Q kL) (agM:Q kK) (agC:Q jZ) (agJ:Q kG) (agE:Q kC) (agQ:Q kP) (agF:Q kD) (agT:Q kR) (agI:Q kF) (h_base:Q jY) (agH:Q kE) (agL:Q kJ) (agD:Q ku) (agV:Q kS) (h0:∀n,¬ n=lH->¬ n=lG->¬ n=kM->¬ n=kQ->¬ n=kN->¬ n=jG->¬ n=jH->¬ n=kH->¬ n=kL->¬ n=kK->¬ n=jZ->¬ n=kG->¬ n=kC->¬ n=kP->¬ n=kD->¬ n=kR->¬ n=kF->¬ n=jY->¬ n=kE->¬ n=kJ->¬ n=ku->¬ n=kS->Q n) (n:List UInt8):Q n:=by
 by_cases YU:n=lH
 ·rw [YU];exact agS
 by_cases YC:n=lG
 ·rw [YC];exact agB
 by_cases YQ:n=kM
 ·rw [YQ];exact agO
 by_cases YT:n=kQ
 ·rw [YT];exact agR
 by_cases YR:n=kN
 ·rw [YR];exact agP
 by_cases YI:n=jG
 ·rw [YI];exact agG
 by_cases YW:n=jH
 ·rw [YW];exact agU
 by_cases YM:n=kH
 ·rw [YM];exact agK
 by_cases YP:n=kL
 ·rw [YP];exact agN
 by_cases YO:n=kK
 ·rw [YO];exact agM
 by_cases YE:n=jZ
 ·rw [YE];exact agC
 by_cases YL:n=kG
 ·rw [YL];exact agJ
 by_cases YG:n=kC
 ·rw [YG];exact agE
 by_cases YS:n=kP
 ·rw [YS];exact agQ
 by_cases YH:n=kD
 ·rw [YH];exact agF
 by_cases YV:n=kR
 ·rw [YV];exact agT
 by_cases YK:n=kF
 ·rw [YK];exact agI
 by_cases YD:n=jY
 ·rw [YD];exact h_base
 by_cases YJ:n=kE
 ·rw [YJ];exact agH
 by_cases YN:n=kJ
 ·rw [YN];exact agL
 by_cases YF:n=ku
 ·rw [YF];exact agD
 by_cases YX:n=kS
 ·rw [YX];exact agV
 exact h0 n YU YC YQ YT YR YI YW YM YP YO YE YL YG YS YH YV YK YD YJ YN YF YX
theorem Gi (n:List UInt8) (e0:¬ n=lH) (e1:¬ n=lG) (e2:¬ n=kM) (e3:¬ n=kQ) (e4:¬ n=kN) (e5:¬ n=jG) (e6:¬ n=jH) (e7:¬ n=kH) (e8:¬ n=kL) (e9:¬ n=kK) (e10:¬ n=jZ) (e11:¬ n=kG) (e12:¬ n=kC) (e13:¬ n=kP) (e14:¬ n=kD) (e15:¬ n=kR) (e16:¬ n=kF) (e17:¬ n=jY) (e18:¬ n=kE) (e19:¬ n=kJ) (e20:¬ n=ku) (e21:¬ n=kS):placeOf n=none:=by
 unfold placeOf;rw [ah e0,ah e1,ah e2,ah e3,ah e4,ah e5,ah e6,ah e7,ah e8,ah e9,ah e10,ah e11,ah e12,ah e13,ah e14,ah e15,ah e16,ah e17,ah e18,ah e19,ah e20,ah e21]
theorem abe:TT.lim 35 []=some [.l (bD.map .s)]:=Oj (Ds:=Ds) (k:=35) (f:=NT) rfl rfl
theorem NU:∀n∈bD,placeOf n≠none:=by decide
end C
end Go.Proofs.YtcpfjpcdcafjmaaGreatDoor
