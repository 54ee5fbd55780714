/- What the trees compute: plain laws. -/
import Derived.Test.YtaggjpipnjmleaaGreatDoorKVe1
namespace Go.Proofs.YtaggjpipnjmleaaGreatDoor
open Go Go.aJ
set_option linter.unusedSimpArgs false
set_option linter.unusedVariables false
set_option maxRecDepth 100000
namespace V
structure One where
 deep:Int
 tag:Int
 typ:Int
 num:Int
 text:List UInt8
inductive aF where
 | mk (tag typ num:Int) (text:List UInt8) (l:List aF)
def one (x:One):GV:=.g [.i .u8 x.deep,.i .u64 x.tag,.i .i8 x.typ,.i .u64 x.num,.s x.text]
@[simp] theorem ava (x:One):(one x).cells=[.i .u8 x.deep,.i .u64 x.tag,.i .i8 x.typ,.i .u64 x.num,.s x.text]:=rfl
mutual
def fG:aF->GV
 | .mk t y n s l=>.g [.i .u64 t,.i .i64 y,.i .u64 n,.s s,.l (au l)]
def au:List aF->List GV
 | []=>[]
 | f::l=>fG f::au l
end
theorem Ud:∀ (a b:List aF),au (a++b)=au a++au b
 | [],b=>rfl
 | f::a,b=>by simp only [gu,au,Ud a b]
theorem iw:∀ (a:List aF),(au a).length=a.length
 | []=>rfl
 | f::a=>by simp only [au,jc,iw a]
def Bc (x:One):Prop:=0<=x.deep/\x.deep<=255/\-128<=x.typ/\x.typ<=127/\0<=x.tag/\x.tag < 18446744073709551616/\0<=x.num/\x.num < 18446744073709551616/\x.text.length<=140737488351232
def Ones (l:List One):Prop:=l.length<=140737488351232/\∀x∈l,Bc x
def sZ (l:List One):Bool:=l.all (λx=>decide (x.text.length<=300))&&decide (l.length<=60)
theorem aaK (l:List One) (hl:l.length<=140737488351232):∀m i:Nat,i+m=l.length->TT.lim 15 [.l (l.map one),.i .i64 l.length,.i .i64 i]=some (if (l.drop i).all (λx=>decide (x.text.length<=300))=true then [.i .i64 1] else [.i .i64 0])
 | 0,i,hi=>by
   have h0:l.drop i=[]:=dN (by omega);refine aB rfl rfl ?_;have h:¬ ((i:Int) < l.length):=by omega
   simp [h,h0]
 | m+1,i,hi=>by
   have hlt:i < l.length:=by omega
   have ih:TT.lim 15 [.l (l.map one),.i .i64 l.length,.i .i64 ((i:Int)+1)]=_:=aaK l hl m (i+1) (by omega);refine aB rfl rfl ?_;have h:((i:Int) < l.length):=by omega
   have hw:=wrap64 (n:=(i:Int)+1) (by omega) (by omega);have hda:(l.drop i).all (λx=>decide (x.text.length<=300))=(decide (l[i].text.length<=300)&&(l.drop (i+1)).all (λx=>decide (x.text.length<=300))):=by rw [dZ hlt,qy]
   by_cases hf:(300:Int) < (l[i].text.length:Int)
   ·have:decide (l[i].text.length<=300)=false:=by simp;omega
    simp [-List.all_eq_true,h,hlt,hf,hda,this]
   ·have:decide (l[i].text.length<=300)=true:=by simp;omega
    rw [hda,this,IV];simp [-List.all_eq_true,h,hlt,hw,hf,ih]
theorem ajA (l:List One) (hl:l.length<=140737488351232):TT.lim 14 [.l (l.map one)]=some [.b (sZ l)]:=by
 refine aG rfl rfl ?_ rfl;have h5:TT.lim 15 [.l (l.map one),.i .i64 l.length,.i .i64 0]=_:=aaK l hl l.length 0 (by omega);rw [bY] at h5;cases hc:l.all (λx=>decide (x.text.length<=300)) with
 | false=>rw [hc] at h5;simp [-List.all_eq_true,h5,sZ,hc]
 | true=>
   rw [hc] at h5;simp only [if_true] at h5;have:(decide ((l.length:Int)<=60))=decide (l.length<=60):=by rw [mY];simp;omega
   simp [-List.all_eq_true,h5,sZ,hc,this]
/-- What Make makes: of the first ones that are at least so deep; and the others. -/
def fE:Nat->List One->Int->List aF×List One
 | 0,l,_=>([],l)
 | _+1,[],_=>([],[])
 | n+1,x::l,deep=>
   if deep<=x.deep then
    let p:=if x.deep=255 then ([],l) else fE n l (x.deep+1)
    let q:=fE n p.2 deep
    (.mk x.tag x.typ x.num x.text p.1::q.1,q.2)
   else ([],x::l)
theorem DY:∀ (n:Nat) (l:List One) (deep:Int),(fE n l deep).1.length+(fE n l deep).2.length<=l.length/\∃k,(fE n l deep).2=l.drop k
 | 0,l,deep=>by simp only [fE];exact ⟨by simp,0,rfl⟩
 | n+1,[],deep=>by simp only [fE];exact ⟨by simp,0,rfl⟩
 | n+1,x::l,deep=>by
   simp only [fE];split
   ·by_cases hx:x.deep=255
    ·rw [aj hx]
     obtain ⟨h1,k,h2⟩:=DY n l deep;refine ⟨by simp only [jc];omega,k+1,by simp only [h2,IZ]⟩
    ·rw [ah hx]
     obtain ⟨h1,k,h2⟩:=DY n l (x.deep+1);obtain ⟨h3,k',h4⟩:=DY n (fE n l (x.deep+1)).2 deep;refine ⟨by simp only [jc];omega,k+k'+1, ?_⟩;simp only [h4,IZ];rw [h2,lu]
   ·exact ⟨by simp,0,rfl⟩
def Gv (x:One) (l:List aF):GV:=.g [.i .u64 x.tag,.i .i64 x.typ,.i .u64 x.num,.s x.text,.l (au l)]
theorem Ov:∀ (n:Nat) (l:List One) (deep:Int) (acc:List aF),l.length < n->acc.length+l.length<=1000000->(∀x∈l,Bc x)->
 TT.lim 19 [.l (l.map one),.i .u8 deep,.l (au acc)]=some [.i .i64 0,.l ((fE n l deep).2.map one),.l (au (acc++(fE n l deep).1))]
 | 0,l,deep,acc,hn,_,_=>by omega
 | n+1,[],deep,acc,hn,hb,hl=>by
   refine aB rfl rfl ?_;simp [fE]
 | n+1,x::l,deep,acc,hn,hb,hl=>by
   have hx:=hl x (by simp);have hl':∀y∈l,Bc y:=λy hy=>hl y (by simp [hy]);simp only [jc] at hn hb;have hw:=wrap64 (n:=x.typ) (by have:=hx.2.2.1;omega) (by have:=hx.2.2.2.1;omega);have hb2:2 * ((au acc).length+1) * 64<=281474976710656:=by rw [iw];omega
   have hb3:(au acc).length<=281474976710655:=by rw [iw];omega
   have hcast:((l.length:Int)+1).toNat=l.length+1:=by omega
   have h1:(1:Int)<=(l.length:Int)+1:=by omega
   have htake:List.take l.length (l.map one)=l.map one:=kU (by simp);have hall:∀y∈l.map one,y.cells.length=5:=by
    intro y hy;obtain ⟨z,_,rfl⟩:=l7.1 hy;rfl
   refine aB rfl rfl ?_;by_cases hd:deep<=x.deep
   ·by_cases OD:x.deep=255
    ·have ih:=Ov n l deep (acc++[.mk x.tag x.typ x.num x.text []]) (by omega) (by simp;omega) hl'
     have e:fE (n+1) (x::l) deep=(.mk x.tag x.typ x.num x.text []::(fE n l deep).1,(fE n l deep).2):=by
      simp only [fE,aj hd,aj OD]
     rw [e];rw [List.append_assoc,Ud] at ih;have e2:au [aF.mk x.tag x.typ x.num x.text []]=[Gv x []]:=rfl;rw [e2] at ih;have hel:(Gv x []).eU 5=true:=rfl;have hfold:GV.g [.i .u64 x.tag,.i .i64 x.typ,.i .u64 x.num,.s x.text,.l []]=Gv x []:=rfl;have h0:(0:Int) < (l.length:Int)+1:=by omega
     have hd2:deep<=255:=by omega
     simp [hd2,OD,hw,hfold,hel,hb2,hb3,hall,h0,h1,htake,hcast,ih]
    ·have hf:=DY n l (x.deep+1)
     have ih1:=Ov n l (x.deep+1) [] (by omega) (by simp;omega) hl';have hk:TT.lim 18 [.l (l.map one),.i .u8 (x.deep+1)]=some [.l (au (fE n l (x.deep+1)).1),.l ((fE n l (x.deep+1)).2.map one)]:=by
      refine aG rfl rfl ?_ rfl;have ih1':TT.lim 19 [.l (l.map one),.i .u8 (x.deep+1),.l []]=_:=ih1;simp [ih1']
     have ih2:=Ov n (fE n l (x.deep+1)).2 deep (acc++[.mk x.tag x.typ x.num x.text (fE n l (x.deep+1)).1]) (by omega) (by simp;omega) (λy hy=>by
      obtain ⟨_,k,e⟩:=hf;rw [e] at hy;exact hl' y (A8 hy))
     have e:fE (n+1) (x::l) deep=(.mk x.tag x.typ x.num x.text (fE n l (x.deep+1)).1::(fE n (fE n l (x.deep+1)).2 deep).1,(fE n (fE n l (x.deep+1)).2 deep).2):=by
      simp only [fE,aj hd,ah OD]
     rw [e];rw [List.append_assoc,Ud] at ih2;generalize fE n l (x.deep+1)=p at *;obtain ⟨p1,p2⟩:=p;simp only at *;have e2:au [aF.mk x.tag x.typ x.num x.text p1]=[Gv x p1]:=rfl;rw [e2] at ih2;have hel:(Gv x p1).eU 5=true:=rfl;have hfold:GV.g [.i .u64 x.tag,.i .i64 x.typ,.i .u64 x.num,.s x.text,.l (au p1)]=Gv x p1:=rfl;have h0:(0:Int) < (l.length:Int)+1:=by omega
     have hw8:=Rf (n:=x.deep+1) (by have:=hx.1;omega) (by have:=hx.2.1;omega);simp [hd,OD,hw,hw8,hk,hfold,hel,hb2,hb3,hall,h0,h1,htake,hcast,ih2]
   ·have e:fE (n+1) (x::l) deep=([],x::l):=by simp only [fE,ah hd]
    rw [e];have h0:(0:Int) < (l.length:Int)+1:=by omega
    simp [hd,h0]
def rC (l:List One):List aF:=(fE (l.length+1) l 0).1
theorem amb (l:List One) (hl:∀x∈l,Bc x) (h60:l.length<=1000000):TT.lim 17 [.l (l.map one)]=some [.l (au (rC l))]:=by
 have hk:TT.lim 18 [.l (l.map one),.i .u8 0]=some [.l (au (rC l)),.l ((fE (l.length+1) l 0).2.map one)]:=by
  refine aG rfl rfl ?_ rfl;have ih1:TT.lim 19 [.l (l.map one),.i .u8 0,.l []]=_:=Ov (l.length+1) l 0 [] (by omega) (by simp;omega) hl;simp [ih1,rC]
 refine aG rfl rfl ?_ rfl;simp [hk]
structure aU where
 kind:Int
 id:Int
 min:Int
 max:Int
 chosen:Int
 flags:Int
 cost:Int
 priority:Int
 deadline:Int
 retry:Int
 epoch:Int
 base:Int
 digest:Int
 lag:Int
 code:Int
 want:Int
 remaining:Int
 allowed:Bool
 name:List UInt8
 region:List UInt8
 note:List UInt8
 d:List bU
 t:List Row
/-- A message: what it has, and its rest. -/
def bP (b:aU) (r:List GV):GV:=.g [.i .i64 b.kind,.i .u64 b.id,.i .u64 b.min,.i .u64 b.max,.i .u64 b.chosen,.i .u64 b.flags,.i .u64 b.cost,.i .u64 b.priority,.i .u64 b.deadline,.i .u64 b.retry,.i .u64 b.epoch,.i .u64 b.base,.i .u64 b.digest,.i .u64 b.lag,.i .u64 b.code,.i .u64 b.want,.i .i64 b.remaining,.b b.allowed,.s b.name,.s b.region,.s b.note,.l (b.d.map ent),.l (b.t.map row),.l r]
theorem fM (b:aU) (r:List GV):GV.g [.i .i64 b.kind,.i .u64 b.id,.i .u64 b.min,.i .u64 b.max,.i .u64 b.chosen,.i .u64 b.flags,.i .u64 b.cost,.i .u64 b.priority,.i .u64 b.deadline,.i .u64 b.retry,.i .u64 b.epoch,.i .u64 b.base,.i .u64 b.digest,.i .u64 b.lag,.i .u64 b.code,.i .u64 b.want,.i .i64 b.remaining,.b b.allowed,.s b.name,.s b.region,.s b.note,.l (b.d.map ent),.l (b.t.map row),.l r]=bP b r:=rfl
@[simp] theorem jT (b:aU) (r:List GV):(bP b r).cells=[.i .i64 b.kind,.i .u64 b.id,.i .u64 b.min,.i .u64 b.max,.i .u64 b.chosen,.i .u64 b.flags,.i .u64 b.cost,.i .u64 b.priority,.i .u64 b.deadline,.i .u64 b.retry,.i .u64 b.epoch,.i .u64 b.base,.i .u64 b.digest,.i .u64 b.lag,.i .u64 b.code,.i .u64 b.want,.i .i64 b.remaining,.b b.allowed,.s b.name,.s b.region,.s b.note,.l (b.d.map ent),.l (b.t.map row),.l r]:=rfl
structure kG (b:aU):Prop where
 kind : -9223372036854775808<=b.kind/\b.kind<=9223372036854775807
 id:0<=b.id/\b.id < 18446744073709551616
 min:0<=b.min/\b.min < 18446744073709551616
 max:0<=b.max/\b.max < 18446744073709551616
 chosen:0<=b.chosen/\b.chosen < 18446744073709551616
 flags:0<=b.flags/\b.flags < 18446744073709551616
 cost:0<=b.cost/\b.cost < 18446744073709551616
 priority:0<=b.priority/\b.priority < 18446744073709551616
 deadline:0<=b.deadline/\b.deadline < 18446744073709551616
 retry:0<=b.retry/\b.retry < 18446744073709551616
 epoch:0<=b.epoch/\b.epoch < 18446744073709551616
 base:0<=b.base/\b.base < 18446744073709551616
 digest:0<=b.digest/\b.digest < 18446744073709551616
 lag:0<=b.lag/\b.lag < 18446744073709551616
 code:0<=b.code/\b.code < 18446744073709551616
 want:0<=b.want/\b.want < 18446744073709551616
 remaining : -9223372036854775808<=b.remaining/\b.remaining<=9223372036854775807
 name:b.name.length<=140737488351232
 region:b.region.length<=140737488351232
 note:b.note.length<=140737488351232
 d:oJ b.d
 t:Rows b.t
def Gp (b:aU) (l:List One):Bool:=decide (b.name.length<=600)&&(decide (b.region.length<=600)&&(decide (b.note.length<=600)&&(gZ b.d&&(BM b.t&&sZ l))))
theorem ajy (b:aU) (l:List One) (hb:kG b) (hl:Ones l):TT.lim 2 [bP b (l.map one)]=some [.b (Gp b l)]:=by
 have h12:=aaJ b.d hb.d;have h13:=ajz b.t hb.t;have h8:=ajA l hl.1;have e1:(decide ((b.name.length:Int)<=600))=decide (b.name.length<=600):=by rw [mY];simp;omega
 have e2:(decide ((b.region.length:Int)<=600))=decide (b.region.length<=600):=by rw [mY];simp;omega
 have e3:(decide ((b.note.length:Int)<=600))=decide (b.note.length<=600):=by rw [mY];simp;omega
 refine aG rfl rfl ?_ rfl;unfold Gp;generalize gZ b.d=c1 at *;generalize BM b.t=c2 at *;generalize sZ l=c3 at *;cases f1:decide (b.name.length<=600) with
 | false=>rw [f1] at e1;simp at e1;have e1':¬ ((b.name.length:Int)<=600):=by omega
          simp [e1']
 | true=>
 rw [f1] at e1;have e1':((b.name.length:Int)<=600):=by simpa using e1
 cases f2:decide (b.region.length<=600) with
 | false=>rw [f2] at e2;simp at e2;have e2':¬ ((b.region.length:Int)<=600):=by omega
          simp [e1',e2']
 | true=>
 rw [f2] at e2;have e2':((b.region.length:Int)<=600):=by simpa using e2
 cases f3:decide (b.note.length<=600) with
 | false=>rw [f3] at e3;simp at e3;have e3':¬ ((b.note.length:Int)<=600):=by omega
          simp [e1',e2',e3']
 | true=>
 rw [f3] at e3;have e3':((b.note.length:Int)<=600):=by simpa using e3
 cases c1<;>cases c2<;>simp [e1',e2',e3',h12,h13,h8]
theorem al9 (b:aU) (l:List One) (hl:Ones l) (hf:sZ l=true):TT.lim 16 [bP b (l.map one)]=some [bP b (au (rC l))]:=by
 have h8:l.length<=60:=by unfold sZ at hf;rw [aI,decide_eq_true_iff] at hf;exact hf.2
 have hm:=amb l hl.2 (by omega);refine aG rfl rfl ?_ rfl;simp [hm,fM]
theorem Uu {k:IntKind} {g:GV} (h:(bJ.int k).has g):∃n,g=.i k n/\k.min<=n/\n<=k.max:=by
 simp only [bJ.has] at h;exact h
theorem aa9 {g:GV} (h:(bJ.int .i64).has g):∃n,g=.i .i64 n/\-9223372036854775808<=n/\n<=9223372036854775807:=by
 obtain ⟨n,rfl,h1,h2⟩:=Uu h;exact ⟨n,rfl,by simpa [IntKind.min,IntKind.signed,IntKind.bits] using h1,by simpa [IntKind.max,IntKind.signed,IntKind.bits] using h2⟩
theorem akB {g:GV} (h:bJ.bool.has g):∃b,g=.b b:=by simpa only [bJ.has] using h
theorem aiY {g:GV} (h:(bJ.list true [.str,.str]).has g):∃l:List bU,oJ l/\g=.l (l.map ent):=by
 obtain ⟨xs,rfl,h1,h2⟩:=OL h;obtain ⟨rs,h3,rfl⟩:=Kw (f:=ent) (p:=λr:bU=>r.1.length<=140737488351232/\r.2.length<=140737488351232) λx hx=>by
  obtain ⟨h4,h5⟩:=h2 x hx;cases x<;>simp [GV.scalar] at h5
  next cs=>
  simp only [SV] at h4;obtain ⟨a,r,rfl,ha,h4⟩:=iL h4;obtain ⟨c,r,rfl,hc,h4⟩:=iL h4;obtain rfl:=J4 h4;obtain ⟨u,rfl,hu⟩:=BU ha;obtain ⟨v,rfl,hv⟩:=BU hc;exact ⟨(u,v),⟨hu,hv⟩,rfl⟩
 exact ⟨rs,⟨by rw [vH] at h1;exact h1,h3⟩,rfl⟩
theorem amS {g:GV} (h:(bJ.list true [.int .u8,.int .u64,.int .i8,.int .u64,.str]).has g):∃l:List One,Ones l/\g=.l (l.map one):=by
 obtain ⟨xs,rfl,h1,h2⟩:=OL h;obtain ⟨rs,h3,rfl⟩:=Kw (f:=one) (p:=Bc) λx hx=>by
  obtain ⟨h4,h5⟩:=h2 x hx;cases x<;>simp [GV.scalar] at h5
  next cs=>
  simp only [SV] at h4;obtain ⟨a,r,rfl,ha,h4⟩:=iL h4;obtain ⟨c,r,rfl,hc,h4⟩:=iL h4;obtain ⟨e,r,rfl,he,h4⟩:=iL h4;obtain ⟨f,r,rfl,hf,h4⟩:=iL h4;obtain ⟨s,r,rfl,hs,h4⟩:=iL h4;obtain rfl:=J4 h4;obtain ⟨a,rfl,a1,a2⟩:=Uu ha;obtain ⟨c,rfl,c1,c2⟩:=oW hc;obtain ⟨e,rfl,e1,e2⟩:=Uu he;obtain ⟨f,rfl,f1,f2⟩:=oW hf;obtain ⟨s,rfl,hs0⟩:=BU hs;have a1':0<=a:=by simpa [IntKind.min,IntKind.signed] using a1
  have a2':a<=255:=by simpa [IntKind.max,IntKind.signed,IntKind.bits] using a2
  have e1' : -128<=e:=by simpa [IntKind.min,IntKind.signed,IntKind.bits] using e1
  have e2':e<=127:=by simpa [IntKind.max,IntKind.signed,IntKind.bits] using e2
  exact ⟨⟨a,c,e,f,s⟩,⟨a1',a2',e1',e2',c1,c2,f1,f2,hs0⟩,rfl⟩
 exact ⟨rs,⟨by rw [vH] at h1;exact h1,h3⟩,rfl⟩
abbrev adq:List bJ:=[.int .i64,.int .u64,.int .u64,.int .u64,.int .u64,.int .u64,.int .u64,.int .u64,.int .u64,.int .u64,.int .u64,.int .u64,.int .u64,.int .u64,.int .u64,.int .u64,.int .i64,.bool,.str,.str,.str,.list true [.str,.str],.list true [.list true [.str,.str],.int .u64],.list true [.int .u8,.int .u64,.int .i8,.int .u64,.str]]
theorem aoD {cs:List GV} (h:bJ.iI adq cs):∃b l,kG b/\Ones l/\GV.g cs=bP b (l.map one):=by
 obtain ⟨_,_,rfl,h1,g0⟩:=iL h;obtain ⟨x0,rfl,k0⟩:=aa9 h1;obtain ⟨_,_,rfl,h1,g1⟩:=iL g0;obtain ⟨x1,rfl,k1⟩:=oW h1;obtain ⟨_,_,rfl,h1,g2⟩:=iL g1;obtain ⟨x2,rfl,k2⟩:=oW h1;obtain ⟨_,_,rfl,h1,g3⟩:=iL g2;obtain ⟨x3,rfl,k3⟩:=oW h1;obtain ⟨_,_,rfl,h1,g4⟩:=iL g3;obtain ⟨x4,rfl,k4⟩:=oW h1;obtain ⟨_,_,rfl,h1,g5⟩:=iL g4;obtain ⟨x5,rfl,k5⟩:=oW h1;obtain ⟨_,_,rfl,h1,g6⟩:=iL g5;obtain ⟨x6,rfl,k6⟩:=oW h1;obtain ⟨_,_,rfl,h1,g7⟩:=iL g6;obtain ⟨x7,rfl,k7⟩:=oW h1;obtain ⟨_,_,rfl,h1,g8⟩:=iL g7;obtain ⟨x8,rfl,k8⟩:=oW h1;obtain ⟨_,_,rfl,h1,g9⟩:=iL g8;obtain ⟨x9,rfl,k9⟩:=oW h1;obtain ⟨_,_,rfl,h1,g10⟩:=iL g9;obtain ⟨x10,rfl,k10⟩:=oW h1;obtain ⟨_,_,rfl,h1,g11⟩:=iL g10;obtain ⟨x11,rfl,k11⟩:=oW h1;obtain ⟨_,_,rfl,h1,g12⟩:=iL g11;obtain ⟨x12,rfl,k12⟩:=oW h1;obtain ⟨_,_,rfl,h1,g13⟩:=iL g12;obtain ⟨x13,rfl,k13⟩:=oW h1;obtain ⟨_,_,rfl,h1,g14⟩:=iL g13;obtain ⟨x14,rfl,k14⟩:=oW h1;obtain ⟨_,_,rfl,h1,g15⟩:=iL g14;obtain ⟨x15,rfl,k15⟩:=oW h1;obtain ⟨_,_,rfl,h1,g16⟩:=iL g15;obtain ⟨x16,rfl,k16⟩:=aa9 h1;obtain ⟨_,_,rfl,h1,g17⟩:=iL g16;obtain ⟨x17,rfl⟩:=akB h1;obtain ⟨_,_,rfl,h1,g18⟩:=iL g17;obtain ⟨x18,rfl,k18⟩:=BU h1;obtain ⟨_,_,rfl,h1,g19⟩:=iL g18;obtain ⟨x19,rfl,k19⟩:=BU h1;obtain ⟨_,_,rfl,h1,g20⟩:=iL g19;obtain ⟨x20,rfl,k20⟩:=BU h1;obtain ⟨_,_,rfl,h1,g21⟩:=iL g20;obtain ⟨x21,k21,rfl⟩:=aiY h1;obtain ⟨_,_,rfl,h1,g22⟩:=iL g21;obtain ⟨x22,k22,rfl⟩:=apa h1;obtain ⟨_,_,rfl,h1,g23⟩:=iL g22;obtain ⟨x23,k23,rfl⟩:=amS h1;obtain rfl:=J4 g23;exact ⟨⟨x0,x1,x2,x3,x4,x5,x6,x7,x8,x9,x10,x11,x12,x13,x14,x15,x16,x17,x18,x19,x20,x21,x22⟩,x23,⟨k0,k1,k2,k3,k4,k5,k6,k7,k8,k9,k10,k11,k12,k13,k14,k15,k16,k18,k19,k20,k21,k22⟩,k23,rfl⟩
structure bW where
 tag:Int
 use:Int
 from_:Int
 name:List UInt8
def bD (s:bW):GV:=.g [.i .u64 s.tag,.i .i64 s.use,.i .i64 s.from_,.s s.name]
@[simp] theorem avp (s:bW):(bD s).cells=[.i .u64 s.tag,.i .i64 s.use,.i .i64 s.from_,.s s.name]:=rfl
theorem ael (s:bW):GV.g [.i .u64 s.tag,.i .i64 s.use,.i .i64 s.from_,.s s.name]=bD s:=rfl
def sp1:List bW:=[⟨1,0,1,[109,105,110]⟩,⟨2,0,1,[109,97,120]⟩,⟨3,3,1,[110,97,109,101]⟩,⟨4,3,2,[114,101,103,105,111,110]⟩,⟨5,0,3,[102,108,97,103,115]⟩]
def sp2:List bW:=[⟨1,0,1,[99,104,111,115,101,110]⟩,⟨2,3,1,[110,97,109,101]⟩,⟨3,3,2,[114,101,103,105,111,110]⟩]
def xU:List bW:=[⟨1,0,1,[105,100]⟩,⟨2,4,1,[100,101,115,99,114]⟩,⟨3,0,1,[99,111,115,116]⟩,⟨4,0,2,[112,114,105,111,114,105,116,121]⟩,⟨5,0,3,[100,101,97,100,108,105,110,101]⟩]
def xW:List bW:=[⟨1,0,1,[105,100]⟩,⟨2,1,1,[97,108,108,111,119,101,100]⟩,⟨3,2,1,[114,101,109,97,105,110,105,110,103]⟩,⟨4,0,2,[114,101,116,114,121]⟩,⟨5,3,3,[110,111,116,101]⟩]
def xX:List bW:=[⟨1,0,1,[101,112,111,99,104]⟩,⟨2,5,1,[116,97,98,108,101]⟩,⟨3,3,2,[114,101,103,105,111,110]⟩,⟨4,0,3,[100,105,103,101,115,116]⟩]
def xY:List bW:=[⟨1,0,2,[98,97,115,101]⟩,⟨2,0,2,[101,112,111,99,104]⟩,⟨3,5,2,[116,97,98,108,101]⟩,⟨4,3,2,[114,101,103,105,111,110]⟩,⟨5,0,3,[100,105,103,101,115,116]⟩]
def xZ:List bW:=[⟨1,0,1,[101,112,111,99,104]⟩,⟨2,0,3,[108,97,103]⟩]
def yc:List bW:=[⟨1,0,1,[101,112,111,99,104]⟩,⟨2,0,1,[99,111,100,101]⟩,⟨3,0,2,[119,97,110,116]⟩,⟨4,3,3,[110,111,116,101]⟩]
def jO (k:Int):List bW:=if k=1 then sp1 else if k=2 then sp2 else if k=3 then xU else if k=4 then xW else if k=5 then xX else if k=6 then xY else if k=7 then xZ else if k=8 then yc else []
def lH (k:Int):Int:=if k=1 then 1 else if k=2 then 1 else if k=3 then 1 else if k=4 then 1 else if k=5 then 1 else if k=6 then 2 else if k=7 then 1 else if k=8 then 1 else 0
def aQ (k v:Int):List bW:=(jO k).filter λs=>decide (s.from_<=v)
theorem akJ:TT.lim 27 []=some [.l (sp1.map bD)]:=by refine aG rfl rfl ?_ rfl;simp [sp1,bD]
theorem akI:TT.lim 29 []=some [.l (sp2.map bD)]:=by refine aG rfl rfl ?_ rfl;simp [sp2,bD]
theorem agb:TT.lim 30 []=some [.l (xU.map bD)]:=by refine aG rfl rfl ?_ rfl;simp [xU,bD]
theorem agc:TT.lim 31 []=some [.l (xW.map bD)]:=by refine aG rfl rfl ?_ rfl;simp [xW,bD]
theorem ajV:TT.lim 32 []=some [.l (xX.map bD)]:=by refine aG rfl rfl ?_ rfl;simp [xX,bD]
theorem aiN:TT.lim 33 []=some [.l (xY.map bD)]:=by refine aG rfl rfl ?_ rfl;simp [xY,bD]
theorem afy:TT.lim 34 []=some [.l (xZ.map bD)]:=by refine aG rfl rfl ?_ rfl;simp [xZ,bD]
theorem aoS:TT.lim 35 []=some [.l (yc.map bD)]:=by refine aG rfl rfl ?_ rfl;simp [yc,bD]
theorem U5 (k:Int):TT.lim 25 [.i .i64 k]=some [.i .i64 (lH k)]:=by
 refine aG rfl rfl ?_ rfl;unfold lH;by_cases h1:k=1
 ·simp [h1]
 by_cases h2:k=2
 ·simp [h2]
 by_cases h3:k=3
 ·simp [h3]
 by_cases h4:k=4
 ·simp [h4]
 by_cases h5:k=5
 ·simp [h5]
 by_cases h6:k=6
 ·simp [h6]
 by_cases h7:k=7
 ·simp [h7]
 by_cases h8:k=8
 ·simp [h8]
 simp [h1,h2,h3,h4,h5,h6,h7,h8]
theorem U7 (v:Int) (l:List bW) (hl:l.length<=8):∀ (m i:Nat) (acc:List bW),i+m=l.length->acc.length<=i->
 TT.lim 28 [.i .i64 v,.l (acc.map bD),.l (l.map bD),.i .i64 l.length,.i .i64 i]=some [.i .i64 0,.l ((acc++(l.drop i).filter λs=>decide (s.from_<=v)).map bD)]
 | 0,i,acc,hi,ha=>by
   have h0:l.drop i=[]:=dN (by omega);refine aB rfl rfl ?_;have h:¬ ((i:Int) < l.length):=by omega
   simp [h,h0]
 | m+1,i,acc,hi,ha=>by
   have hlt:i < l.length:=by omega
   have hd:=dZ hlt;refine aB rfl rfl ?_;have h:((i:Int) < l.length):=by omega
   have hw:=wrap64 (n:=(i:Int)+1) (by omega) (by omega);have hb1:2 * (acc.length+1) * 40<=281474976710656:=by omega
   have hb2:acc.length<=281474976710655:=by omega
   have hok:(bD l[i]).eU 4=true:=rfl;have hcast:((i:Int)+1)=((i+1:Nat):Int):=by omega
   by_cases hf:l[i].from_<=v
   ·have ih:=U7 v l hl m (i+1) (acc++[l[i]]) (by omega) (by simp;omega)
    rw [<- hcast,pR] at ih;simp only [iU,vI] at ih;simp [-List.getElem_cons_drop,h,hlt,hf,hw,ael,hb1,hb2,hok,ih,hd]
   ·have ih:=U7 v l hl m (i+1) acc (by omega) (by omega)
    rw [<- hcast] at ih;simp [-List.getElem_cons_drop,h,hlt,hf,hw,ih,hd]
theorem Xu (k:Int):(jO k).length<=8:=by
 unfold jO;repeat' split
 all_goals (first | (unfold sp1;decide) | (unfold sp2;decide) | (unfold xU;decide) | (unfold xW;decide) | (unfold xX;decide) | (unfold xY;decide) | (unfold xZ;decide) | (unfold yc;decide) | decide)
theorem Cb (v:Int) (l:List bW) (hl:l.length<=8):TT.lim 28 [.i .i64 v,.l [],.l (l.map bD),.i .i64 l.length,.i .i64 0]=some [.i .i64 0,.l ((l.filter λs=>decide (s.from_<=v)).map bD)]:=by
 have:=U7 v l hl l.length 0 [] (by omega) (by simp);simpa using this
theorem O5 (k v:Int) (h1:1<=v) (h3:v<=3) (hk:lH k<=v):TT.lim 26 [.i .i64 k,.i .i64 v]=some [.l ((aQ k v).map bD)]:=by
 have a1:¬ v < 1:=by omega
 have a3:¬ 3 < v:=by omega
 unfold aQ jO;unfold lH at hk;have g1:=Cb v sp1 (by decide);have g2:=Cb v sp2 (by decide);have g3:=Cb v xU (by decide);have g4:=Cb v xW (by decide);have g5:=Cb v xX (by decide);have g6:=Cb v xY (by decide);have g7:=Cb v xZ (by decide);have g8:=Cb v yc (by decide);have e1:=akJ;have e2:=akI;have e3:=agb;have e4:=agc;have e5:=ajV;have e6:=aiN;have e7:=afy;have e8:=aoS;generalize sp1=p1 at *;generalize sp2=p2 at *;generalize xU=p3 at *;generalize xW=p4 at *;generalize xX=p5 at *;generalize xY=p6 at *;generalize xZ=p7 at *;generalize yc=p8 at *;refine aG rfl rfl ?_ rfl;by_cases k1:k=1
 ·simp [k1,a1,a3,e1,g1]
 by_cases k2:k=2
 ·simp [k2,a1,a3,e2,g2]
 by_cases k3:k=3
 ·simp [k3,a1,a3,e3,g3]
 by_cases k4:k=4
 ·simp [k4,a1,a3,e4,g4]
 by_cases k5:k=5
 ·simp [k5,a1,a3,e5,g5]
 by_cases k6:k=6
 ·have a2:¬ v < 2:=by subst k6;simpa using hk
  simp [k6,a1,a2,a3,e6,g6]
 by_cases k7:k=7
 ·simp [k7,a1,a3,e7,g7]
 by_cases k8:k=8
 ·simp [k8,a1,a3,e8,g8]
 simp [k1,k2,k3,k4,k5,k6,k7,k8]
theorem adZ (k:Int):TT.lim 139 [.i .i64 k]=some [.l ((jO k).map bD)]:=by
 unfold jO;refine aG rfl rfl ?_ rfl;by_cases k1:k=1
 ·simp [k1,sp1,bD]
 by_cases k2:k=2
 ·simp [k2,sp2,bD]
 by_cases k3:k=3
 ·simp [k3,xU,bD]
 by_cases k4:k=4
 ·simp [k4,xW,bD]
 by_cases k5:k=5
 ·simp [k5,xX,bD]
 by_cases k6:k=6
 ·simp [k6,xY,bD]
 by_cases k7:k=7
 ·simp [k7,xZ,bD]
 by_cases k8:k=8
 ·simp [k8,yc,bD]
 simp [k1,k2,k3,k4,k5,k6,k7,k8]
theorem W9 (v:Int) (h3:v<=3) (l:List bW) (hl:l.length<=8):∀ (m i:Nat) (acc:List bW),i+m=l.length->acc.length<=i->
 TT.lim 140 [.i .i64 v,.l (acc.map bD),.l (l.map bD),.i .i64 l.length,.i .i64 i]=some [.i .i64 0,.l ((acc++(l.drop i).filter λs=>decide (s.from_<=v)).map bD)]
 | 0,i,acc,hi,ha=>by
   have h0:l.drop i=[]:=dN (by omega);refine aB rfl rfl ?_;have h:¬ ((i:Int) < l.length):=by omega
   simp [h,h0]
 | m+1,i,acc,hi,ha=>by
   have hlt:i < l.length:=by omega
   have hd:=dZ hlt;refine aB rfl rfl ?_;have h:((i:Int) < l.length):=by omega
   have hw:=wrap64 (n:=(i:Int)+1) (by omega) (by omega);have hb1:2 * (acc.length+1) * 40<=281474976710656:=by omega
   have hb2:acc.length<=281474976710655:=by omega
   have hok:(bD l[i]).eU 4=true:=rfl;have hcast:((i:Int)+1)=((i+1:Nat):Int):=by omega
   by_cases hf:l[i].from_<=v
   ·have ih:=W9 v h3 l hl m (i+1) (acc++[l[i]]) (by omega) (by simp;omega)
    rw [<- hcast,pR] at ih;simp only [iU,vI] at ih;simp [-List.getElem_cons_drop,h,hlt,h3,hf,hw,ael,hb1,hb2,hok,ih,hd]
   ·have ih:=W9 v h3 l hl m (i+1) acc (by omega) (by omega)
    rw [<- hcast] at ih;simp [-List.getElem_cons_drop,h,hlt,h3,hf,hw,ih,hd]
theorem Xa (k v:Int) (h3:v<=3):TT.lim 138 [.i .i64 k,.i .i64 v]=some [.l ((aQ k v).map bD)]:=by
 have h0:=adZ k;have h1:=W9 v h3 (jO k) (Xu k) (jO k).length 0 [] (by omega) (by simp);unfold aQ;generalize jO k=l at *;have h1':TT.lim 140 [.i .i64 v,.l [],.l (l.map bD),.i .i64 l.length,.i .i64 0]=some [.i .i64 0,.l ((l.filter λs=>decide (s.from_<=v)).map bD)]:=by simpa using h1
 refine aG rfl rfl ?_ rfl;simp [h0,h1']
theorem abE (k v:Int) (h1:1<=v) (h3:v<=3):aQ k v=[]↔lH k=0\/v < lH k:=by
 have hv:v=1\/v=2\/v=3:=by omega
 unfold aQ jO lH;by_cases k1:k=1
 ·subst k1;rcases hv with rfl | rfl | rfl<;>decide
 by_cases k2:k=2
 ·subst k2;rcases hv with rfl | rfl | rfl<;>decide
 by_cases k3:k=3
 ·subst k3;rcases hv with rfl | rfl | rfl<;>decide
 by_cases k4:k=4
 ·subst k4;rcases hv with rfl | rfl | rfl<;>decide
 by_cases k5:k=5
 ·subst k5;rcases hv with rfl | rfl | rfl<;>decide
 by_cases k6:k=6
 ·subst k6;rcases hv with rfl | rfl | rfl<;>decide
 by_cases k7:k=7
 ·subst k7;rcases hv with rfl | rfl | rfl<;>decide
 by_cases k8:k=8
 ·subst k8;rcases hv with rfl | rfl | rfl<;>decide
 simp [k1,k2,k3,k4,k5,k6,k7,k8]
def aF.tag:aF->Int
 | .mk t _ _ _ _=>t
theorem oV:∀ (a:List aF),au a=a.map fG
 | []=>rfl
 | f::a=>by simp only [au,iU,oV a]
mutual
def nX:aF->Nat
 | .mk _ _ _ _ l=>bQ l+1
def bQ:List aF->Nat
 | []=>0
 | f::l=>nX f+bQ l+1
end
mutual
def l9:aF->Prop
 | .mk t y n s k=>(0<=t/\t < 18446744073709551616/\-128<=y/\y<=127/\0<=n/\n < 18446744073709551616/\s.length<=100000000/\k.length<=1000000)/\dw k
def dw:List aF->Prop
 | []=>True
 | f::r=>l9 f/\dw r
end
theorem tq:∀ {l:List aF},dw l->∀f∈l,l9 f
 | f::l,h,g,hg=>by
   simp only [dw] at h;rcases dO.1 hg with rfl | hg
   ·exact h.1
   ·exact tq h.2 g hg
theorem CW:∀ {l:List aF} {f:aF},f∈l->nX f < bQ l
 | g::l,f,h=>by
   simp only [bQ];rcases dO.1 h with rfl | h
   ·omega
   ·have:=CW h;omega
mutual
/-- What is wrong with fields within so many lists, behind a tag. -/
def vT (w:Nat):aF->Int
 | .mk _ y n s k=>if y=0 then (if s=[]/\k=[] then 0 else 8) else if y=1 then (if n=0/\k=[] then 0 else 8) else if y=2 then (if n=0/\s=[] then (if 8<=w then 9 else fZ (w+1) 0 k) else 8) else 8
def fZ (w:Nat) (ahead:Int):List aF->Int
 | []=>0
 | f::r=>if f.tag=0 then 18 else if 4294967296 < f.tag then 18 else if f.tag<=ahead then 7 else if vT w f≠0 then vT w f else fZ w f.tag r
end
@[simp] theorem Gw (t y n:Int) (s:List UInt8) (k:List aF):(fG (.mk t y n s k)).cells=[.i .u64 t,.i .i64 y,.i .u64 n,.s s,.l (au k)]:=by simp only [fG];rfl
theorem Gx (k:List aF):(au k).length=0↔k=[]:=by rw [iw,afi]
theorem aaI:∀ (N:Nat) (l:List aF),bQ l < N->dw l->l.length<=1000000->∀w:Nat,w<=8->TT.lim 73 [.l (au l),.i .i64 w]=some [.i .i64 (fZ w 0 l)]
 | 0,l,h,_,_,_,_=>by omega
 | N+1,l,hN,hok,hlen,w,hw8=>by
   have loop:∀m i (ahead:Int),i+m=l.length->TT.lim 74 [.i .i64 w,.i .u64 ahead,.l (au l),.i .i64 l.length,.i .i64 i]=some (if fZ w ahead (l.drop i)=0 then [.i .i64 1] else [.i .i64 0,.i .i64 (fZ w ahead (l.drop i))]):=by
    intro m;induction m with
    | zero=>
      intro i ahead hi;have h0:l.drop i=[]:=dN (by omega);refine aB rfl rfl ?_;have h:¬ ((i:Int) < l.length):=by omega
      simp [h,h0,fZ]
    | succ m ih=>
      intro i ahead hi;have hlt:i < l.length:=by omega
      rw [dZ hlt];have hf:=tq hok l[i] (fP hlt);have hs:=CW (fP hlt);have hget:(au l)[i]? = some (fG l[i]):=by rw [oV,iF,bV hlt];rfl
      have hcast:((i:Int)+1)=((i+1:Nat):Int):=by omega
      have ih':=λa=>ih (i+1) a (by omega);simp only [<- hcast] at ih';generalize l[i]=f at *;obtain ⟨t,y,n,s,k⟩:=f;simp only [l9] at hf;simp only [nX] at hs;have hwr:=wrap64 (n:=(i:Int)+1) (by omega) (by omega);have xH:=wrap64 (n:=(w:Int)+1) (by omega) (by omega);refine aB rfl rfl ?_;have h:((i:Int) < l.length):=by omega
      have hk:=λh=>aaI N k (by omega) hf.2 hf.1.2.2.2.2.2.2.2 (w+1) h;simp only [Int.natCast_add,Int.natCast_one] at hk;have hkl:((au k).length=0)=(k=[]):=propext (Gx k);simp only [fZ,aF.tag];by_cases h1:t=0
      ·simp [h,hget,h1]
      by_cases h2:4294967296 < t
      ·simp [h,hget,h1,h2]
      by_cases h3:t<=ahead
      ·simp [h,hget,h1,h2,h3]
      simp only [vT];by_cases h4:y=0
      ·subst h4
       by_cases h5:s=[]
       ·by_cases h6:k=[]
        ·simp [h,hget,h1,h2,h3,h5,h6,hwr,ih',au]
        ·simp [h,hget,h1,h2,h3,h5,h6,hwr,ih',hkl]
       ·simp [h,hget,h1,h2,h3,h5]
      by_cases h7:y=1
      ·subst h7
       by_cases h5:n=0
       ·by_cases h6:k=[]
        ·simp [h,hget,h1,h2,h3,h5,h6,hwr,ih',au]
        ·simp [h,hget,h1,h2,h3,h5,h6,hwr,ih',hkl]
       ·simp [h,hget,h1,h2,h3,h5]
      by_cases h8:y=2
      ·subst h8
       by_cases h5:n=0
       ·by_cases h6:s=[]
        ·by_cases h9:8<=w
         ·have tN:(8:Int)<=w:=by omega
          simp [h,hget,h1,h2,h3,h5,h6,h9,tN]
         ·have tN:¬ (8:Int)<=w:=by omega
          have hk:=hk (by omega);by_cases h10:fZ (w+1) 0 k=0
          ·rw [h10] at hk
           simp [h,hget,h1,h2,h3,h5,h6,h9,tN,xH,hk,h10,hwr,ih',aF.tag]
          ·simp [h,hget,h1,h2,h3,h5,h6,h9,tN,xH,hk,h10,hwr,ih',aF.tag]
        ·simp [h,hget,h1,h2,h3,h5,h6]
       ·simp [h,hget,h1,h2,h3,h5]
      simp [h,hget,h1,h2,h3,h4,h7,h8]
   have h0:=loop l.length 0 0 (by omega);rw [bY] at h0;refine aG rfl rfl ?_ rfl;have hl2:=iw l;by_cases hc:fZ w 0 l=0
   ·rw [aj hc] at h0
    have h0':TT.lim 74 [.i .i64 w,.i .u64 0,.l (au l),.i .i64 (au l).length,.i .i64 0]=some [.i .i64 1]:=by rw [hl2];exact h0
    simp [h0',hc]
   ·rw [ah hc] at h0
    have h0':TT.lim 74 [.i .i64 w,.i .u64 0,.l (au l),.i .i64 (au l).length,.i .i64 0]=some [.i .i64 0,.i .i64 (fZ w 0 l)]:=by rw [hl2];exact h0
    simp [h0',hc]
theorem Oe (l:List aF) (hok:dw l) (hlen:l.length<=1000000):TT.lim 72 [.l (au l)]=some [.i .i64 (fZ 0 0 l)]:=by
 have h:=aaI (bQ l+1) l (by omega) hok hlen 0 (by omega);have h':TT.lim 73 [.l (au l),.i .i64 0]=_:=h;refine aG rfl rfl ?_ rfl;simp [h']
theorem Qh:∀ (N:Nat) (l:List aF),bQ l < N->dw l->l.length<=1000000->∀w:Nat,w<=8->TT.lim 179 [.l (au l),.i .i64 w]=some [.i .i64 (fZ w 0 l)]
 | 0,l,h,_,_,_,_=>by omega
 | N+1,l,hN,hok,hlen,w,hw8=>by
   have loop:∀m i (ahead:Int),i+m=l.length->(i=0->ahead=0)->(∀j,j+1=i->∀h:j < l.length,(l[j]).tag=ahead)->TT.lim 180 [.l (au l),.i .i64 w,.i .i64 l.length,.i .i64 i]=some (if fZ w ahead (l.drop i)=0 then [.i .i64 1] else [.i .i64 0,.i .i64 (fZ w ahead (l.drop i))]):=by
    intro m;induction m with
    | zero=>
      intro i ahead hi _ _;have h0:l.drop i=[]:=dN (by omega);refine aB rfl rfl ?_;have h:¬ ((i:Int) < l.length):=by omega
      simp [h,h0,fZ]
    | succ m ih=>
      intro i ahead hi ha0 ha;have hlt:i < l.length:=by omega
      rw [dZ hlt];have hf:=tq hok l[i] (fP hlt);have hs:=CW (fP hlt);have hget:(au l)[i]? = some (fG l[i]):=by rw [oV,iF,bV hlt];rfl
      have hcast:((i:Int)+1)=((i+1:Nat):Int):=by omega
      have ih':=ih (i+1) l[i].tag (by omega) (by omega) (λj hj h=>by have:j=i:=by omega
                                                                     subst this;rfl)
      simp only [<- hcast] at ih'
      -- the one ahead
      have ak0:∀hi0:¬ i=0,∃y' n' s' k',(au l)[i - 1]? = some (fG (.mk ahead y' n' s' k')):=by
       intro hi0;rw [oV,iF,bV (show i - 1 < l.length by omega)];have:=ha (i - 1) (by omega) (by omega);generalize l[i - 1]=g at *;obtain ⟨t',y',n',s',k'⟩:=g;simp only [aF.tag] at this;subst this;exact ⟨_,_,_,_,rfl⟩
      generalize l[i]=f at *;obtain ⟨t,y,n,s,k⟩:=f;simp only [l9] at hf;simp only [nX] at hs;dsimp only [aF.tag] at ih';have hwr:=wrap64 (n:=(i:Int)+1) (by omega) (by omega);have hwm:=wrap64 (n:=(i:Int) - 1) (by omega) (by omega);have xH:=wrap64 (n:=(w:Int)+1) (by omega) (by omega);refine aB rfl rfl ?_;have h:((i:Int) < l.length):=by omega
      have hk:=λh=>Qh N k (by omega) hf.2 hf.1.2.2.2.2.2.2.2 (w+1) h;simp only [Int.natCast_add,Int.natCast_one] at hk;have hkl:((au k).length=0)=(k=[]):=propext (Gx k);have hnil:TT.lim 179 [.l [],.i .i64 ((w:Int)+1)]=some [.i .i64 0]:=by
       refine aG rfl rfl ?_ rfl;have h0:TT.lim 180 [.l [],.i .i64 ((w:Int)+1),.i .i64 0,.i .i64 0]=some [.i .i64 1]:=by
        refine aB rfl rfl ?_;simp
       simp [h0]
      simp only [fZ,aF.tag];by_cases h1:t=0
      ·simp [h,hget,h1]
      by_cases h2:4294967296 < t
      ·simp [h,hget,h1,h2]
      by_cases hi0:(0:Int) < i
      ·obtain ⟨y',n',s',k',hp⟩:=ak0 (by omega)
       have hge:0 < i:=by omega
       have tX:(1:Int)<=i:=by omega
       by_cases h3:t<=ahead
       ·simp [h,hget,h1,h2,hi0,hge,tX,hwm,hp,h3]
       simp only [vT];by_cases h4:y=0
       ·subst h4
        by_cases h5:s=[]
        ·by_cases h6:k=[]
         ·simp [h,hget,h1,h2,hi0,hge,tX,hwm,hp,h3,h5,h6,hwr,xH,ih',hnil,if_true,if_false,au,aF.tag]<;>rfl
         ·have h6':¬ (au k).length=0:=by rw [Gx];exact h6
          have D6:¬ au k=[]:=λe=>h6' (by rw [e];rfl);simp [h,hget,h1,h2,hi0,hge,tX,hwm,hp,h3,h5,h6,D6]
        ·simp [h,hget,h1,h2,hi0,hge,tX,hwm,hp,h3,h5]
       by_cases h7:y=1
       ·subst h7
        by_cases h5:n=0
        ·by_cases h6:k=[]
         ·simp [h,hget,h1,h2,hi0,hge,tX,hwm,hp,h3,h5,h6,hwr,xH,ih',hnil,if_true,if_false,au,aF.tag]<;>rfl
         ·have h6':¬ (au k).length=0:=by rw [Gx];exact h6
          have D6:¬ au k=[]:=λe=>h6' (by rw [e];rfl);simp [h,hget,h1,h2,hi0,hge,tX,hwm,hp,h3,h5,h6,D6]
        ·simp [h,hget,h1,h2,hi0,hge,tX,hwm,hp,h3,h5]
       by_cases h8:y=2
       ·subst h8
        by_cases h5:n=0
        ·by_cases h6:s=[]
         ·by_cases h9:8<=w
          ·have tN:(w:Int)=8:=by omega
           simp [h,hget,h1,h2,hi0,hge,tX,hwm,hp,h3,h5,h6,h9,tN]
          ·have tN:¬ (w:Int)=8:=by omega
           have hk:=hk (by omega);by_cases h10:fZ (w+1) 0 k=0
           ·rw [h10] at hk
            simp [h,hget,h1,h2,hi0,hge,tX,hwm,hp,h3,h5,h6,h9,tN,xH,hk,h10,hwr,ih',aF.tag]<;>rfl
           ·simp [h,hget,h1,h2,hi0,hge,tX,hwm,hp,h3,h5,h6,h9,tN,xH,hk,h10,hwr,ih',aF.tag]<;>rfl
         ·simp [h,hget,h1,h2,hi0,hge,tX,hwm,hp,h3,h5,h6]
        ·simp [h,hget,h1,h2,hi0,hge,tX,hwm,hp,h3,h5]
       by_cases h9:y < 0
       ·simp [h,hget,h1,h2,hi0,hge,tX,hwm,hp,h3,h4,h7,h8,h9]
       ·have h10:2 < y:=by omega
        simp [h,hget,h1,h2,hi0,hge,tX,hwm,hp,h3,h4,h7,h8,h9,h10]
      ·have hz:(0 < i)=False:=eq_false (by omega)
       have h3:¬ t<=ahead:=by
        rw [ha0 (by omega)];omega
       simp only [vT];by_cases h4:y=0
       ·subst h4
        by_cases h5:s=[]
        ·by_cases h6:k=[]
         ·simp [h,hget,h1,h2,hz,h3,h5,h6,hwr,xH,ih',hnil,if_true,if_false,au,aF.tag]<;>rfl
         ·have h6':¬ (au k).length=0:=by rw [Gx];exact h6
          have D6:¬ au k=[]:=λe=>h6' (by rw [e];rfl);simp [h,hget,h1,h2,hz,h3,h5,h6,D6]
        ·simp [h,hget,h1,h2,hz,h3,h5]
       by_cases h7:y=1
       ·subst h7
        by_cases h5:n=0
        ·by_cases h6:k=[]
         ·simp [h,hget,h1,h2,hz,h3,h5,h6,hwr,xH,ih',hnil,if_true,if_false,au,aF.tag]<;>rfl
         ·have h6':¬ (au k).length=0:=by rw [Gx];exact h6
          have D6:¬ au k=[]:=λe=>h6' (by rw [e];rfl);simp [h,hget,h1,h2,hz,h3,h5,h6,D6]
        ·simp [h,hget,h1,h2,hz,h3,h5]
       by_cases h8:y=2
       ·subst h8
        by_cases h5:n=0
        ·by_cases h6:s=[]
         ·by_cases h9:8<=w
          ·have tN:(w:Int)=8:=by omega
           simp [h,hget,h1,h2,hz,h3,h5,h6,h9,tN]
          ·have tN:¬ (w:Int)=8:=by omega
           have hk:=hk (by omega);by_cases h10:fZ (w+1) 0 k=0
           ·rw [h10] at hk
            simp [h,hget,h1,h2,hz,h3,h5,h6,h9,tN,xH,hk,h10,hwr,ih',aF.tag]<;>rfl
           ·simp [h,hget,h1,h2,hz,h3,h5,h6,h9,tN,xH,hk,h10,hwr,ih',aF.tag]<;>rfl
         ·simp [h,hget,h1,h2,hz,h3,h5,h6]
        ·simp [h,hget,h1,h2,hz,h3,h5]
       by_cases h9:y < 0
       ·simp [h,hget,h1,h2,hz,h3,h4,h7,h8,h9]
       ·have h10:2 < y:=by omega
        simp [h,hget,h1,h2,hz,h3,h4,h7,h8,h9,h10]
   have h0:=loop l.length 0 0 (by omega) (λ_=>rfl) (λj hj=>by omega);rw [bY] at h0;refine aG rfl rfl ?_ rfl;have hl2:=iw l;by_cases hc:fZ w 0 l=0
   ·rw [aj hc] at h0
    have h0':TT.lim 180 [.l (au l),.i .i64 w,.i .i64 (au l).length,.i .i64 0]=some [.i .i64 1]:=by rw [hl2];exact h0
    simp [h0',hc]
   ·rw [ah hc] at h0
    have h0':TT.lim 180 [.l (au l),.i .i64 w,.i .i64 (au l).length,.i .i64 0]=some [.i .i64 0,.i .i64 (fZ w 0 l)]:=by rw [hl2];exact h0
    simp [h0',hc]
inductive Pl where
 | rem | allow | name | region | note | d | t
 | num (k:Nat)
def KF:List UInt8:=[114,101,109,97,105,110,105,110,103]
def KE:List UInt8:=[97,108,108,111,119,101,100]
def Ep:List UInt8:=[110,97,109,101]
def Et:List UInt8:=[114,101,103,105,111,110]
def Es:List UInt8:=[110,111,116,101]
def Ad:List UInt8:=[100,101,115,99,114]
def Ae:List UInt8:=[116,97,98,108,101]
def Ht:List UInt8:=[105,100]
def Hy:List UInt8:=[109,105,110]
def Hw:List UInt8:=[109,97,120]
def He:List UInt8:=[99,104,111,115,101,110]
def Hr:List UInt8:=[102,108,97,103,115]
def Hg:List UInt8:=[99,111,115,116]
def Hz:List UInt8:=[112,114,105,111,114,105,116,121]
def Hl:List UInt8:=[100,101,97,100,108,105,110,101]
def HY:List UInt8:=[114,101,116,114,121]
def Hq:List UInt8:=[101,112,111,99,104]
def G9:List UInt8:=[98,97,115,101]
def Ho:List UInt8:=[100,105,103,101,115,116]
def Hu:List UInt8:=[108,97,103]
def Hf:List UInt8:=[99,111,100,101]
def H6:List UInt8:=[119,97,110,116]
def placeOf (n:List UInt8):Option Pl:=
 if n=KF then some .rem else if n=KE then some .allow else if n=Ep then some .name else if n=Et then some .region else if n=Es then some .note else if n=Ad then some .d else if n=Ae then some .t else if n=Ht then some (.num 0) else if n=Hy then some (.num 1) else if n=Hw then some (.num 2) else if n=He then some (.num 3) else if n=Hr then some (.num 4) else if n=Hg then some (.num 5) else if n=Hz then some (.num 6) else if n=Hl then some (.num 7) else if n=HY then some (.num 8) else if n=Hq then some (.num 9) else if n=G9 then some (.num 10) else if n=Ho then some (.num 11) else if n=Hu then some (.num 12) else if n=Hf then some (.num 13) else if n=H6 then some (.num 14) else none
theorem anS:placeOf KF=some .rem:=rfl
theorem anC:placeOf KE=some .allow:=rfl
theorem ac6:placeOf Ep=some .name:=rfl
theorem ac8:placeOf Et=some .region:=rfl
theorem ac7:placeOf Es=some .note:=rfl
theorem anI:placeOf Ad=some .d:=rfl
theorem anU:placeOf Ae=some .t:=rfl
theorem anM:placeOf Ht=some (.num 0):=rfl
theorem anP:placeOf Hy=some (.num 1):=rfl
theorem anO:placeOf Hw=some (.num 2):=rfl
theorem anE:placeOf He=some (.num 3):=rfl
theorem anL:placeOf Hr=some (.num 4):=rfl
theorem anG:placeOf Hg=some (.num 5):=rfl
theorem anR:placeOf Hz=some (.num 6):=rfl
theorem anH:placeOf Hl=some (.num 7):=rfl
theorem anT:placeOf HY=some (.num 8):=rfl
theorem anK:placeOf Hq=some (.num 9):=rfl
theorem anD:placeOf G9=some (.num 10):=rfl
theorem anJ:placeOf Ho=some (.num 11):=rfl
theorem anN:placeOf Hu=some (.num 12):=rfl
theorem anF:placeOf Hf=some (.num 13):=rfl
theorem anV:placeOf H6=some (.num 14):=rfl
def Ag (b:aU) (k:Nat):Int:=match k with
 | 0=>b.id
 | 1=>b.min
 | 2=>b.max
 | 3=>b.chosen
 | 4=>b.flags
 | 5=>b.cost
 | 6=>b.priority
 | 7=>b.deadline
 | 8=>b.retry
 | 9=>b.epoch
 | 10=>b.base
 | 11=>b.digest
 | 12=>b.lag
 | 13=>b.code
 | _=>b.want
def uY (b:aU):Pl->Bool
 | .rem=>decide (b.remaining=0)
 | .allow=>!b.allowed
 | .name=>decide (b.name=[])
 | .region=>decide (b.region=[])
 | .note=>decide (b.note=[])
 | .d=>decide (b.d=[])
 | .t=>decide (b.t=[])
 | .num k=>decide (Ag b k=0)
def mM (b:aU) (n:List UInt8):Bool:=match placeOf n with
 | some p=>uY b p
 | none=>true
def qj (b:aU):Pl->Int
 | .name=>jK b.name 0 256
 | .region=>jK b.region 0 256
 | .note=>jK b.note 0 256
 | .d=>if b.d=[] then 0 else qV b.d
 | .t=>sU b.t
 | _=>0
def qJ (b:aU) (n:List UInt8):Int:=match placeOf n with
 | some p=>qj b p
 | none=>0
def zz (x:Int):Int:=if 0<=x then 2 * x else -2 * x - 1
def aS (b:aU):Pl->Int×List UInt8
 | .rem=>(zz b.remaining,[])
 | .allow=>(if b.allowed=true then 1 else 0,[])
 | .name=>(0,b.name)
 | .region=>(0,b.region)
 | .note=>(0,b.note)
 | .d=>(0,if b.d=[] then [] else eG b.d)
 | .t=>(0,if b.t=[] then [] else (CJ b.t).1)
 | .num k=>(Ag b k,[])
def bH:Pl->Int
 | .num _=>0
 | .rem=>0
 | .allow=>0
 | _=>1
def jC:Pl->Int
 | .num _=>0
 | .allow=>1
 | .rem=>2
 | .d=>4
 | .t=>5
 | _=>3
def nameOf:Pl->List UInt8
 | .rem=>KF
 | .allow=>KE
 | .name=>Ep
 | .region=>Et
 | .note=>Es
 | .d=>Ad
 | .t=>Ae
 | .num k=>match k with
   | 0=>Ht
   | 1=>Hy
   | 2=>Hw
   | 3=>He
   | 4=>Hr
   | 5=>Hg
   | 6=>Hz
   | 7=>Hl
   | 8=>HY
   | 9=>Hq
   | 10=>G9
   | 11=>Ho
   | 12=>Hu
   | 13=>Hf
   | _=>H6
def PV:Pl->Prop
 | .num k=>k < 15
 | _=>True
theorem aly {c:Prop} [Decidable c] {a b:Option Pl} {p:Pl} (h:(if c then a else b)=some p):(c/\a=some p)\/(¬ c/\b=some p):=by
 by_cases e:c
 ·rw [aj e] at h
  exact .inl ⟨e,h⟩
 ·rw [ah e] at h
  exact .inr ⟨e,h⟩
theorem wB (n:List UInt8) (p:Pl) (h:placeOf n=some p):n=nameOf p/\PV p/\n∈fH:=by
 unfold placeOf at h
 iterate 22
  replace h:=aly h
  rcases h with ⟨e,h⟩ | ⟨-,h⟩
  ·cases h
   subst e;exact ⟨rfl,by first | exact trivial | exact (show _ < 15 by decide),by decide⟩
 cases h
theorem anW {a b:List UInt8} {p:Pl} (ha:placeOf a=some p) (hb:placeOf b=some p):a=b:=by rw [(wB a p ha).1,(wB b p hb).1]
theorem alx {n m:List UInt8} {p q:Pl} (hp:placeOf n=some p) (hq:placeOf m=some q):(n=m)=(p=q):=
 propext ⟨λe=>by subst e;rw [hp] at hq;cases hq;rfl,λe=>by subst e;exact anW hp hq⟩
theorem Ef {n:List UInt8} {p:Pl} (hp:placeOf n=some p):((n=[114,101,109,97,105,110,105,110,103])=(p=.rem))/\((n=[97,108,108,111,119,101,100])=(p=.allow))/\((n=[110,97,109,101])=(p=.name))/\((n=[114,101,103,105,111,110])=(p=.region))/\((n=[110,111,116,101])=(p=.note))/\((n=[100,101,115,99,114])=(p=.d))/\((n=[116,97,98,108,101])=(p=.t))/\((n=[105,100])=(p=.num 0))/\((n=[109,105,110])=(p=.num 1))/\((n=[109,97,120])=(p=.num 2))/\((n=[99,104,111,115,101,110])=(p=.num 3))/\((n=[102,108,97,103,115])=(p=.num 4))/\((n=[99,111,115,116])=(p=.num 5))/\((n=[112,114,105,111,114,105,116,121])=(p=.num 6))/\((n=[100,101,97,100,108,105,110,101])=(p=.num 7))/\((n=[114,101,116,114,121])=(p=.num 8))/\((n=[101,112,111,99,104])=(p=.num 9))/\((n=[98,97,115,101])=(p=.num 10))/\((n=[100,105,103,101,115,116])=(p=.num 11))/\((n=[108,97,103])=(p=.num 12))/\((n=[99,111,100,101])=(p=.num 13))/\((n=[119,97,110,116])=(p=.num 14)):=by
 and_intros<;>exact alx hp rfl
theorem abw {n:List UInt8} (h:placeOf n=none):((n=[114,101,109,97,105,110,105,110,103])=False)/\((n=[97,108,108,111,119,101,100])=False)/\((n=[110,97,109,101])=False)/\((n=[114,101,103,105,111,110])=False)/\((n=[110,111,116,101])=False)/\((n=[100,101,115,99,114])=False)/\((n=[116,97,98,108,101])=False)/\((n=[105,100])=False)/\((n=[109,105,110])=False)/\((n=[109,97,120])=False)/\((n=[99,104,111,115,101,110])=False)/\((n=[102,108,97,103,115])=False)/\((n=[99,111,115,116])=False)/\((n=[112,114,105,111,114,105,116,121])=False)/\((n=[100,101,97,100,108,105,110,101])=False)/\((n=[114,101,116,114,121])=False)/\((n=[101,112,111,99,104])=False)/\((n=[98,97,115,101])=False)/\((n=[100,105,103,101,115,116])=False)/\((n=[108,97,103])=False)/\((n=[99,111,100,101])=False)/\((n=[119,97,110,116])=False):=by
 and_intros<;>exact eq_false λe=>by subst e;exact absurd h (by decide)
theorem Ak {Q:(p:Pl)->PV p->Prop} (h0:Q (.rem) trivial) (h1:Q (.allow) trivial) (h2:Q (.name) trivial) (h3:Q (.region) trivial) (h4:Q (.note) trivial) (h5:Q (.d) trivial) (h6:Q (.t) trivial) (h7:Q (.num 0) (show 0 < 15 by decide)) (h8:Q (.num 1) (show 1 < 15 by decide)) (h9:Q (.num 2) (show 2 < 15 by decide)) (h10:Q (.num 3) (show 3 < 15 by decide)) (h11:Q (.num 4) (show 4 < 15 by decide)) (h12:Q (.num 5) (show 5 < 15 by decide)) (h13:Q (.num 6) (show 6 < 15 by decide)) (h14:Q (.num 7) (show 7 < 15 by decide)) (h15:Q (.num 8) (show 8 < 15 by decide)) (h16:Q (.num 9) (show 9 < 15 by decide)) (h17:Q (.num 10) (show 10 < 15 by decide)) (h18:Q (.num 11) (show 11 < 15 by decide)) (h19:Q (.num 12) (show 12 < 15 by decide)) (h20:Q (.num 13) (show 13 < 15 by decide)) (h21:Q (.num 14) (show 14 < 15 by decide)) (p:Pl) (hp:PV p):Q p hp:=by
 cases p with
 | num k=>
   simp only [PV] at hp;rcases (show k=0\/k=1\/k=2\/k=3\/k=4\/k=5\/k=6\/k=7\/k=8\/k=9\/k=10\/k=11\/k=12\/k=13\/k=14 by omega) with rfl | rfl | rfl | rfl | rfl | rfl | rfl | rfl | rfl | rfl | rfl | rfl | rfl | rfl | rfl<;>assumption
 | _=>assumption
def qW (ps:List (List UInt8)):List GV:=ps.map λp=>.g [.s p,.b true]
def yR (ps:List (List UInt8)) (x:List UInt8):List (List UInt8):=if x∈ps then ps else ps++[x]
theorem SC (n:List UInt8):∀ps:List (List UInt8),jf (.s n) (qW ps)=if n∈ps then some (.b true) else none
 | []=>rfl
 | p::ps=>by
   have ih:=SC n ps;simp only [qW,iU,jf,mG] at ih ⊢;by_cases e:n=p
   ·subst e;simp
   ·have e2:¬ p=n:=λh=>e h.symm
    simp [e,ih]
theorem adk (x:List UInt8):∀ps:List (List UInt8),kE (.s x) (.b true) (qW ps)=qW (yR ps x)
 | []=>rfl
 | p::ps=>by
   have ih:=adk x ps;unfold yR at ih ⊢;simp only [qW,iU,kE,mG] at ih ⊢;by_cases e:x=p
   ·subst e;simp
   ·have e1:(x==p)=false:=by simpa using e
    simp only [e1,fF,if_false];rw [ih];by_cases hm:x∈ps
    ·simp only [hm,if_true,dO,or_true,iU]
    ·simp only [hm,if_false,dO,e,or_false,gu,iU]
def xI (ps:List (List UInt8)) (l:List bW):List (List UInt8):=l.foldl (λps s=>yR ps s.name) ps
theorem amn (n x:List UInt8) (ps:List (List UInt8)):n∈yR ps x↔n∈ps\/x=n:=by
 unfold yR;split
 ·next h=>exact ⟨.inl,λe=>e.elim id (λe=>e ▸ h)⟩
 ·simp [eq_comm]
theorem acB (n:List UInt8):∀ (l:List bW) (ps:List (List UInt8)),n∈xI ps l↔n∈ps\/∃s∈l,s.name=n
 | [],ps=>by simp [xI]
 | s::l,ps=>by
   have:=acB n l (yR ps s.name);unfold xI at this ⊢;rw [List.foldl_cons,this,amn];simp [or_assoc]
def lV (l:List bW) (n:List UInt8):Bool:=l.any λs=>decide (s.name=n)
theorem amm (n:List UInt8) (l:List bW):decide (n∈xI [] l)=lV l n:=by
 rw [mY,decide_eq_true_iff,acB];simp [lV]
theorem acu (b:aU) (r:List GV) (l:List bW) (hl:l.length<=1000):∀ (m i:Nat) (ps:List (List UInt8)),i+m=l.length->
 TT.lim 36 [.l (l.map bD),.i .i64 l.length,.i .i64 i,.l (qW ps),.i .i64 b.kind,.i .u64 b.id,.i .u64 b.min,.i .u64 b.max,.i .u64 b.chosen,.i .u64 b.flags,.i .u64 b.cost,.i .u64 b.priority,.i .u64 b.deadline,.i .u64 b.retry,.i .u64 b.epoch,.i .u64 b.base,.i .u64 b.digest,.i .u64 b.lag,.i .u64 b.code,.i .u64 b.want,.i .i64 b.remaining,.b b.allowed,.s b.name,.s b.region,.s b.note,.l (b.d.map ent),.l (b.t.map row),.l r]=some [.i .i64 0,.l (qW (xI ps (l.drop i)))]
 | 0,i,ps,hi=>by
   have h0:l.drop i=[]:=dN (by omega);refine aB rfl rfl ?_;have h:¬ ((i:Int) < l.length):=by omega
   simp [h,h0,xI]
 | m+1,i,ps,hi=>by
   have hlt:i < l.length:=by omega
   have ih:=acu b r l hl m (i+1) (yR ps l[i].name) (by omega);have hcast:((i:Int)+1)=((i+1:Nat):Int):=by omega
   rw [<- hcast] at ih;have hp:=adk l[i].name ps;have hd:xI ps (l.drop i)=xI (yR ps l[i].name) (l.drop (i+1)):=by
    rw [dZ hlt];rfl
   rw [hd];generalize xI (yR ps l[i].name) (l.drop (i+1))=X at *;generalize qW (yR ps l[i].name)=Y at *;refine aB rfl rfl ?_;have h:((i:Int) < l.length):=by omega
   have hw:=wrap64 (n:=(i:Int)+1) (by omega) (by omega);simp [h,hlt,hw,hp,ih]
/-- One round of the second loop. -/
def afs (b:aU) (r:List GV) (n:List UInt8) (c:Prop):Prop:=∀ (sp:GV) (ns:List (List UInt8)) (i:Nat) (ps:List (List UInt8)) (out:List GV) (h:i < ns.length),((i:Int) < ns.length)->IntKind.i64.wrap ((i:Int)+1)=(i:Int)+1->ns[i]=n->jf (.s n) (qW ps)=none->
    TT.lim 38 [sp,.l (ns.map .s),.i .i64 ns.length,.i .i64 ((i:Int)+1),.l (qW ps),.i .i64 b.kind,.i .u64 b.id,.i .u64 b.min,.i .u64 b.max,.i .u64 b.chosen,.i .u64 b.flags,.i .u64 b.cost,.i .u64 b.priority,.i .u64 b.deadline,.i .u64 b.retry,.i .u64 b.epoch,.i .u64 b.base,.i .u64 b.digest,.i .u64 b.lag,.i .u64 b.code,.i .u64 b.want,.i .i64 b.remaining,.b b.allowed,.s b.name,.s b.region,.s b.note,.l (b.d.map ent),.l (b.t.map row),.l r]=some out->
    (c->TT.lim 38 [sp,.l (ns.map .s),.i .i64 ns.length,.i .i64 i,.l (qW ps),.i .i64 b.kind,.i .u64 b.id,.i .u64 b.min,.i .u64 b.max,.i .u64 b.chosen,.i .u64 b.flags,.i .u64 b.cost,.i .u64 b.priority,.i .u64 b.deadline,.i .u64 b.retry,.i .u64 b.epoch,.i .u64 b.base,.i .u64 b.digest,.i .u64 b.lag,.i .u64 b.code,.i .u64 b.want,.i .i64 b.remaining,.b b.allowed,.s b.name,.s b.region,.s b.note,.l (b.d.map ent),.l (b.t.map row),.l r]=some out)/\(¬ c->TT.lim 38 [sp,.l (ns.map .s),.i .i64 ns.length,.i .i64 i,.l (qW ps),.i .i64 b.kind,.i .u64 b.id,.i .u64 b.min,.i .u64 b.max,.i .u64 b.chosen,.i .u64 b.flags,.i .u64 b.cost,.i .u64 b.priority,.i .u64 b.deadline,.i .u64 b.retry,.i .u64 b.epoch,.i .u64 b.base,.i .u64 b.digest,.i .u64 b.lag,.i .u64 b.code,.i .u64 b.want,.i .i64 b.remaining,.b b.allowed,.s b.name,.s b.region,.s b.note,.l (b.d.map ent),.l (b.t.map row),.l r]=some [.i .i64 0])
theorem amv:TT.lim 37 []=some [.l (fH.map .s)]:=KT (Ds:=Ds) (k:=37) (f:=PD) rfl rfl
theorem acN (b:aU) {n:List UInt8} {p:Pl} (h:placeOf n=some p):mM b n=uY b p:=by unfold mM;rw [h]
set_option maxHeartbeats 4000000 in
theorem arl (b:aU) (r:List GV) {n:List UInt8} {p:Pl} (hp:placeOf n=some p):afs b r n (uY b p=true):=by
 intro sp ns i ps out h h1 hw hn ha ih;have hI:=Ef hp;have hk:=(wB n p hp).2.1;clear hp;induction p,hk using Ak<;>(refine ⟨λhc=>aB rfl rfl ?_,λhc=>aB rfl rfl ?_⟩<;>simp only [uY,Ag,decide_eq_true_iff,wP] at hc)
 all_goals first
  | (have hc:=eq_true hc;simp [h1,h,hn,hw,ha,hc,hI,ih];done)
  | (rw [hc] at ih;simp [h1,h,hn,hw,ha,hc,hI,ih];done)
  | (simp [h1,h,hn,ha,hc,hI];done)
theorem acv (b:aU) (r:List GV) (sp:GV) (ns:List (List UInt8)) (hlen:ns.length<=1000) (hns:∀n∈ns,placeOf n≠none) (ps:List (List UInt8)):∀ (m i:Nat),i+m=ns.length->
 TT.lim 38 [sp,.l (ns.map .s),.i .i64 ns.length,.i .i64 i,.l (qW ps),.i .i64 b.kind,.i .u64 b.id,.i .u64 b.min,.i .u64 b.max,.i .u64 b.chosen,.i .u64 b.flags,.i .u64 b.cost,.i .u64 b.priority,.i .u64 b.deadline,.i .u64 b.retry,.i .u64 b.epoch,.i .u64 b.base,.i .u64 b.digest,.i .u64 b.lag,.i .u64 b.code,.i .u64 b.want,.i .i64 b.remaining,.b b.allowed,.s b.name,.s b.region,.s b.note,.l (b.d.map ent),.l (b.t.map row),.l r]=some (if (ns.drop i).all (λn=>decide (n∈ps) || mM b n)=true then [.i .i64 1] else [.i .i64 0])
 | 0,i,hi=>by
   have h0:ns.drop i=[]:=dN (by omega);refine aB rfl rfl ?_;have h:¬ ((i:Int) < ns.length):=by omega
   simp [h,h0]
 | m+1,i,hi=>by
   have hlt:i < ns.length:=by omega
   have ih:=acv b r sp ns hlen hns ps m (i+1) (by omega);have hcast:((i:Int)+1)=((i+1:Nat):Int):=by omega
   rw [<- hcast] at ih;have hd:(ns.drop i).all (λn=>decide (n∈ps) || mM b n)=((decide (ns[i]∈ps) || mM b ns[i])&&(ns.drop (i+1)).all (λn=>decide (n∈ps) || mM b n)):=by rw [dZ hlt,qy]
   rw [hd];generalize (ns.drop (i+1)).all (λn=>decide (n∈ps) || mM b n)=X at *;by_cases hps:ns[i]∈ps
   ·have ha:=SC ns[i] ps
    rw [aj hps] at ha;have h1:((i:Int) < ns.length):=by omega
    have hw:=wrap64 (n:=(i:Int)+1) (by omega) (by omega);rw [zN hps,Bool.true_or,IV];refine aB rfl rfl ?_;simp [h1,hlt,hw,ha,ih]
   ·have ha:=SC ns[i] ps
    rw [ah hps] at ha;obtain ⟨p,hp⟩:=Me.1 (hns _ (fP hlt));have c1:=acN b hp;obtain ⟨c3,c4⟩:=arl b r hp sp ns i ps _ hlt (by omega) (wrap64 (n:=(i:Int)+1) (by omega) (by omega)) rfl ha ih;rw [zM hps,wO];cases hb:mM b ns[i] with
    | true=>rw [c3 (by rw [<- c1];exact hb),IV]
    | false=>rw [c4 (by rw [<- c1,hb];decide),Bool.false_and];rfl
def Di (b:aU) (r:List GV) (k:Nat) (out:List GV):Prop:=TT.lim k [.i .i64 b.kind,.i .u64 b.id,.i .u64 b.min,.i .u64 b.max,.i .u64 b.chosen,.i .u64 b.flags,.i .u64 b.cost,.i .u64 b.priority,.i .u64 b.deadline,.i .u64 b.retry,.i .u64 b.epoch,.i .u64 b.base,.i .u64 b.digest,.i .u64 b.lag,.i .u64 b.code,.i .u64 b.want,.i .i64 b.remaining,.b b.allowed,.s b.name,.s b.region,.s b.note,.l (b.d.map ent),.l (b.t.map row),.l r]=some out
theorem KC (b:aU) {n:List UInt8} {p:Pl} (h:placeOf n=some p):qJ b n=qj b p:=by unfold qJ;rw [h]
set_option maxHeartbeats 4000000 in
theorem amk (b:aU) (r:List GV) (hb:kG b) (hf:∀r∈b.t,gZ r.1=true):(∀k∈[40,41,56,57,58,59,60,61,62,63,64,65,66,67,68,69,70],Di b r k [.i .i64 0])/\Di b r 42 [.i .i64 0,.i .i64 (qj b .name)]/\Di b r 46 [.i .i64 0,.i .i64 (qj b .region)]/\Di b r 47 [.i .i64 0,.i .i64 (qj b .note)]/\Di b r 48 [.i .i64 0,.i .i64 (qj b .d)]/\Di b r 52 [.i .i64 0,.i .i64 (qj b .t)]:=by
 have h1:=FZ b.name 0 256 hb.name;have h2:=FZ b.region 0 256 hb.region;have h3:=FZ b.note 0 256 hb.note;have h4:=ZI b.d hb.d;have h5:=ZJ b.t hb.t hf;refine ⟨λk hk=>?_,aB rfl rfl ?_,aB rfl rfl ?_,aB rfl rfl ?_,aB rfl rfl ?_,aB rfl rfl ?_⟩
 ·simp only [dO,List.not_mem_nil,or_false] at hk
  rcases hk with rfl | rfl | rfl | rfl | rfl | rfl | rfl | rfl | rfl | rfl | rfl | rfl | rfl | rfl | rfl | rfl | rfl<;>(refine aB rfl rfl ?_;simp)
 ·simp [qj,h1]
 ·simp [qj,h2]
 ·simp [qj,h3]
 ·by_cases e:b.d=[]
  ·simp [qj,e]
  ·have e2:¬ (List.map ent b.d)=[]:=by simpa using e
   have e3:0 < b.d.length:=AZ.2 e;simp [qj,e,h4]
 ·simp [qj,h5]
/-- One round of the third loop. -/
def aft (b:aU) (r:List GV) (n:List UInt8) (c:Int):Prop:=∀ (l:List bW) (i:Nat) (out:List GV) (h:i < l.length),((i:Int) < l.length)->IntKind.i64.wrap ((i:Int)+1)=(i:Int)+1->l[i].name=n->
    TT.lim 39 [.l (l.map bD),.i .i64 l.length,.i .i64 ((i:Int)+1),.i .i64 b.kind,.i .u64 b.id,.i .u64 b.min,.i .u64 b.max,.i .u64 b.chosen,.i .u64 b.flags,.i .u64 b.cost,.i .u64 b.priority,.i .u64 b.deadline,.i .u64 b.retry,.i .u64 b.epoch,.i .u64 b.base,.i .u64 b.digest,.i .u64 b.lag,.i .u64 b.code,.i .u64 b.want,.i .i64 b.remaining,.b b.allowed,.s b.name,.s b.region,.s b.note,.l (b.d.map ent),.l (b.t.map row),.l r]=some out->
    TT.lim 39 [.l (l.map bD),.i .i64 l.length,.i .i64 i,.i .i64 b.kind,.i .u64 b.id,.i .u64 b.min,.i .u64 b.max,.i .u64 b.chosen,.i .u64 b.flags,.i .u64 b.cost,.i .u64 b.priority,.i .u64 b.deadline,.i .u64 b.retry,.i .u64 b.epoch,.i .u64 b.base,.i .u64 b.digest,.i .u64 b.lag,.i .u64 b.code,.i .u64 b.want,.i .i64 b.remaining,.b b.allowed,.s b.name,.s b.region,.s b.note,.l (b.d.map ent),.l (b.t.map row),.l r]=some (if c=0 then out else [.i .i64 0,.i .i64 c])
set_option maxHeartbeats 4000000 in
theorem arn (b:aU) (r:List GV) (hb:kG b) (hf:∀r∈b.t,gZ r.1=true) {n:List UInt8} {p:Pl} (hp:placeOf n=some p):aft b r n (qj b p):=by
 intro l i out h h1 hw hn ih;obtain ⟨m0,m1,m2,m3,m4,m5⟩:=amk b r hb hf;simp only [List.forall_mem_cons,Di] at m0 m1 m2 m3 m4 m5;have hI:=Ef hp;have hk:=(wB n p hp).2.1;clear hp;generalize hc':qj b p=c at ih ⊢;induction p,hk using Ak
 all_goals first
  | (obtain rfl:0=c:=hc'
     rw [aj rfl];refine aB rfl rfl ?_;simp [h1,h,hn,hw,hI,m0,ih];done)
  | (simp only [hc'] at m1 m2 m3 m4 m5
     by_cases hc:c=0
     ·subst hc
      rw [aj rfl];refine aB rfl rfl ?_;simp [h1,h,hn,hw,hI,m1,m2,m3,m4,m5,ih]
     ·rw [ah hc]
      refine aB rfl rfl ?_;simp [h1,h,hn,hw,hI,m1,m2,m3,m4,m5,hc])
/-- The first thing that is wrong with the values of names. -/
def kS (b:aU):List bW->Int
 | []=>0
 | s::l=>if qJ b s.name=0 then kS b l else qJ b s.name
theorem acw (b:aU) (r:List GV) (hb:kG b) (hf:∀r∈b.t,gZ r.1=true) (l:List bW) (hlen:l.length<=1000) (hns:∀s∈l,placeOf s.name≠none):∀ (m i:Nat),i+m=l.length->
 TT.lim 39 [.l (l.map bD),.i .i64 l.length,.i .i64 i,.i .i64 b.kind,.i .u64 b.id,.i .u64 b.min,.i .u64 b.max,.i .u64 b.chosen,.i .u64 b.flags,.i .u64 b.cost,.i .u64 b.priority,.i .u64 b.deadline,.i .u64 b.retry,.i .u64 b.epoch,.i .u64 b.base,.i .u64 b.digest,.i .u64 b.lag,.i .u64 b.code,.i .u64 b.want,.i .i64 b.remaining,.b b.allowed,.s b.name,.s b.region,.s b.note,.l (b.d.map ent),.l (b.t.map row),.l r]=some (if kS b (l.drop i)=0 then [.i .i64 1] else [.i .i64 0,.i .i64 (kS b (l.drop i))])
 | 0,i,hi=>by
   have h0:l.drop i=[]:=dN (by omega);refine aB rfl rfl ?_;have h:¬ ((i:Int) < l.length):=by omega
   simp [h,h0,kS]
 | m+1,i,hi=>by
   have hlt:i < l.length:=by omega
   have ih:=acw b r hb hf l hlen hns m (i+1) (by omega);have hcast:((i:Int)+1)=((i+1:Nat):Int):=by omega
   rw [<- hcast] at ih;obtain ⟨p,hp⟩:=Me.1 (hns _ (fP hlt));have:=arn b r hb hf hp l i _ hlt (by omega) (wrap64 (n:=(i:Int)+1) (by omega) (by omega)) rfl ih;rw [<- KC b hp] at this;rw [this,dZ hlt];by_cases hc:qJ b l[i].name=0
   ·have hm:kS b (l[i]::l.drop (i+1))=kS b (l.drop (i+1)):=by simp only [kS,hc,if_true]
    rw [aj hc,hm]
   ·have hm:kS b (l[i]::l.drop (i+1))=qJ b l[i].name:=by simp only [kS,hc,if_false]
    rw [ah hc,hm,ah hc]
def hasTag (l:List bW) (t:Int):Bool:=l.any λs=>decide (t=s.tag)
theorem acz (l:List bW) (hlen:l.length<=1000) (a1 a2 a3:GV) (t:Int) (a7 a8 a9 a10:GV):∀ (m i:Nat),i+m=l.length->
 TT.lim 76 [.l (l.map bD),a1,a2,a3,.i .i64 l.length,.i .i64 i,.i .u64 t,a7,a8,a9,a10]=some (if hasTag (l.drop i) t=true then [.i .i64 0] else [.i .i64 1])
 | 0,i,hi=>by
   have h0:l.drop i=[]:=dN (by omega);refine aB rfl rfl ?_;have h:¬ ((i:Int) < l.length):=by omega
   simp [h,h0,hasTag]
 | m+1,i,hi=>by
   have hlt:i < l.length:=by omega
   have ih:=acz l hlen a1 a2 a3 t a7 a8 a9 a10 m (i+1) (by omega);have hcast:((i:Int)+1)=((i+1:Nat):Int):=by omega
   rw [<- hcast] at ih;have h1:((i:Int) < l.length):=by omega
   have hw:=wrap64 (n:=(i:Int)+1) (by omega) (by omega);have hd:hasTag (l.drop i) t=(decide (t=l[i].tag) || hasTag (l.drop (i+1)) t):=by rw [dZ hlt];rfl
   rw [hd];generalize hasTag (l.drop (i+1)) t=X at *;refine aB rfl rfl ?_;by_cases hc:t=l[i].tag
   ·simp [h1,hlt,hc]
   ·simp [h1,hlt,hc,hw,ih]
theorem acy (l:List bW) (hlen:l.length<=1000) (fl:List aF) (hfl:fl.length<=1000000):∀ (m i:Nat),i+m=fl.length->
 TT.lim 75 [.l (l.map bD),.l (au fl),.i .i64 fl.length,.i .i64 i]=some (if (fl.drop i).any (λf=>hasTag l f.tag)=true then [.i .i64 0] else [.i .i64 1])
 | 0,i,hi=>by
   have h0:fl.drop i=[]:=dN (by omega);refine aB rfl rfl ?_;have h:¬ ((i:Int) < fl.length):=by omega
   simp [h,h0]
 | m+1,i,hi=>by
   have hlt:i < fl.length:=by omega
   have ih:=acy l hlen fl hfl m (i+1) (by omega);have hcast:((i:Int)+1)=((i+1:Nat):Int):=by omega
   rw [<- hcast] at ih;have h1:((i:Int) < fl.length):=by omega
   have hw:=wrap64 (n:=(i:Int)+1) (by omega) (by omega);have hd:(fl.drop i).any (λf=>hasTag l f.tag)=(hasTag l fl[i].tag || (fl.drop (i+1)).any (λf=>hasTag l f.tag)):=by rw [dZ hlt,Rt]
   rw [hd];have hget:(au fl)[i]? = some (fG fl[i]):=by rw [oV,iF,bV hlt];rfl
   clear hd;obtain ⟨t,y,n,s,k,hfi⟩:∃t y n s k,fl[i]=aF.mk t y n s k:=by
    cases fl[i] with
    | mk t y n s k=>exact ⟨_,_,_,_,_,rfl⟩
   rw [hfi] at hget ⊢;rw [show (aF.mk t y n s k).tag=t from rfl];have h3:TT.lim 76 [.l (l.map bD),.l (au fl),.i .i64 fl.length,.i .i64 i,.i .i64 l.length,.i .i64 0,.i .u64 t,.i .i64 y,.i .u64 n,.s s,.l (au k)]=_:=acz l hlen _ _ _ t _ _ _ _ l.length 0 (by omega);rw [bY] at h3;refine aB rfl rfl ?_;by_cases hc:hasTag l t=true
   ·rw [aj hc] at h3
    simp [-List.any_eq_true,h1,hget,h3,hc]
   ·rw [ah hc] at h3
    have hc:hasTag l t=false:=by simpa using hc
    simp [-List.any_eq_true,h1,hget,h3,hw,ih,hc]
def Bv (b:aU):Int:=
 if b.kind=1 then (if b.min < 1 then 18 else if b.max < b.min then 18 else if 255 < b.max then 18 else 0)
 else if b.kind=2 then (if b.chosen < 1 then 18 else if 255 < b.chosen then 18 else 0)
 else if b.kind=3 then (if b.d=[] then 12 else 0)
 else if b.kind=5 then (if b.epoch < 1 then 18 else 0)
 else if b.kind=6 then (if b.base < 1 then 18 else if b.epoch<=b.base then 20 else 0)
 else 0
/-- What is said of a message at a version. -/
def EK (sp:List bW) (fl:List aF):Int:=if fZ 0 0 fl≠0 then fZ 0 0 fl else if fl.any (λf=>hasTag sp f.tag)=true then 14 else 0
def jG (b:aU) (fl:List aF) (v:Int):Int:=
 if v < 1 then 16 else if 3 < v then 16 else
 if aQ b.kind v=[] then 15 else
 if fH.all (λn=>lV (aQ b.kind v) n || mM b n)=false then 26 else
 if kS b (aQ b.kind v)≠0 then kS b (aQ b.kind v) else
 if Bv b≠0 then Bv b else EK (aQ b.kind v) fl
theorem VB:∀n∈fH,placeOf n≠none:=by decide
theorem O7 (k v:Int):∀s∈aQ k v,placeOf s.name≠none:=by
 have key:∀s∈jO k,placeOf s.name≠none:=by
  unfold jO;repeat' split
  all_goals first | (unfold sp1;decide) | (unfold sp2;decide) | (unfold xU;decide) | (unfold xW;decide) | (unfold xX;decide) | (unfold xY;decide) | (unfold xZ;decide) | (unfold yc;decide) | (intro s hs;cases hs)
 intro s hs;exact key s (Fj.1 hs).1
theorem vZ (k v:Int):(aQ k v).length<=8:=jl (LY _ _) (Xu k)
set_option maxHeartbeats 4000000 in
theorem acs (b:aU) (fl:List aF) (v:Int) (hb:kG b) (hf:∀r∈b.t,gZ r.1=true) (hok:dw fl) (hlen:fl.length<=1000000):TT.lim 24 [bP b (au fl),.i .i64 v]=some [.i .i64 (jG b fl v)]:=by
 have hk:=U5 b.kind;refine aG rfl rfl ?_ rfl;unfold jG;by_cases v1:v < 1
 ·simp [v1]
 by_cases v3:3 < v
 ·simp [v1,v3]
 rw [ah v1,ah v3];have hnil:=abE b.kind v (by omega) (by omega);by_cases k0:lH b.kind=0
 ·rw [aj (hnil.2 (.inl k0))]
  rw [k0] at hk;simp [v1,v3,hk]
 by_cases k1:v < lH b.kind
 ·rw [aj (hnil.2 (.inr k1))]
  simp [v1,v3,hk,k0,k1]
 rw [ah (λe=>(hnil.1 e).elim k0 k1)];have hkn:=O5 b.kind v (by omega) (by omega) (by omega);have hpl:=O7 b.kind v;have hl8:=vZ b.kind v;clear hnil;generalize aQ b.kind v=sp at *;have hnm:=amv;have h0:=acu b (au fl) sp (by omega) sp.length 0 [] (by omega);have h1:=acv b (au fl) (.l (sp.map bD)) fH (by decide) VB (xI [] sp) fH.length 0 (by omega);have h2:=acw b (au fl) hb hf sp (by omega) hpl sp.length 0 (by omega);have h3:=acy sp (by omega) fl hlen fl.length 0 (by omega);have h4:=Oe fl hok hlen;rw [bY] at h0 h1 h2 h3;simp only [amm] at h1;have hnl:(fH.map GV.s).length=fH.length:=vH _;have hfl:=iw fl;rw [<- hfl] at h3;generalize hX:xI [] sp=ps at *;have h0':TT.lim 36 [.l (sp.map bD),.i .i64 sp.length,.i .i64 0,.l [],.i .i64 b.kind,.i .u64 b.id,.i .u64 b.min,.i .u64 b.max,.i .u64 b.chosen,.i .u64 b.flags,.i .u64 b.cost,.i .u64 b.priority,.i .u64 b.deadline,.i .u64 b.retry,.i .u64 b.epoch,.i .u64 b.base,.i .u64 b.digest,.i .u64 b.lag,.i .u64 b.code,.i .u64 b.want,.i .i64 b.remaining,.b b.allowed,.s b.name,.s b.region,.s b.note,.l (b.d.map ent),.l (b.t.map row),.l (au fl)]=some [.i .i64 0,.l (qW ps)]:=h0;clear h0;have h1':TT.lim 38 [.l (sp.map bD),.l (fH.map .s),.i .i64 fH.length,.i .i64 0,.l (qW ps),.i .i64 b.kind,.i .u64 b.id,.i .u64 b.min,.i .u64 b.max,.i .u64 b.chosen,.i .u64 b.flags,.i .u64 b.cost,.i .u64 b.priority,.i .u64 b.deadline,.i .u64 b.retry,.i .u64 b.epoch,.i .u64 b.base,.i .u64 b.digest,.i .u64 b.lag,.i .u64 b.code,.i .u64 b.want,.i .i64 b.remaining,.b b.allowed,.s b.name,.s b.region,.s b.note,.l (b.d.map ent),.l (b.t.map row),.l (au fl)]=_:=h1;clear h1;have h2':TT.lim 39 [.l (sp.map bD),.i .i64 sp.length,.i .i64 0,.i .i64 b.kind,.i .u64 b.id,.i .u64 b.min,.i .u64 b.max,.i .u64 b.chosen,.i .u64 b.flags,.i .u64 b.cost,.i .u64 b.priority,.i .u64 b.deadline,.i .u64 b.retry,.i .u64 b.epoch,.i .u64 b.base,.i .u64 b.digest,.i .u64 b.lag,.i .u64 b.code,.i .u64 b.want,.i .i64 b.remaining,.b b.allowed,.s b.name,.s b.region,.s b.note,.l (b.d.map ent),.l (b.t.map row),.l (au fl)]=_:=h2;clear h2;have h3':TT.lim 75 [.l (sp.map bD),.l (au fl),.i .i64 (au fl).length,.i .i64 0]=_:=h3;clear h3;have hr:EK sp fl=if fZ 0 0 fl≠0 then fZ 0 0 fl else if fl.any (λf=>hasTag sp f.tag)=true then 14 else 0:=rfl
 generalize (fH.all λn=>lV sp n || mM b n)=A at *;generalize kS b sp=M at *;generalize fZ 0 0 fl=F at *;generalize (fl.any λf=>hasTag sp f.tag)=W at *;generalize EK sp fl=R at *;generalize fH=NL at *;have aup:∀ (x:GV),True:=λ_=>trivial;cases A with
 | false=>
   simp only [fF,if_false] at h1';simp [v1,v3,hk,k0,k1,hkn,hnm,h0',h1']
 | true=>
 simp only [if_true] at h1';by_cases hM:M=0;rotate_left
 ·rw [ah hM] at h2'
  simp [v1,v3,hk,k0,k1,hkn,hnm,h0',h1',h2',hM]
 rw [aj hM] at h2';rw [ah (by simp),ah (by simp [hM])];clear hM
 -- the rest of it
 have key:∀ (c:Int),Bv b=c->c≠0->True:=λ_ _ _=>trivial;unfold Bv;by_cases e1:b.kind=1
 ·have e1:=eq_true e1
  by_cases c1:b.min < 1
  ·simp [v1,v3,hk,k0,k1,hkn,hnm,h0',h1',h2',e1,c1]
  by_cases c2:b.max < b.min
  ·simp [v1,v3,hk,k0,k1,hkn,hnm,h0',h1',h2',e1,c1,c2]
  by_cases c3:255 < b.max
  ·simp [v1,v3,hk,k0,k1,hkn,hnm,h0',h1',h2',e1,c1,c2,c3]
  simp only [e1,c1,c2,c3,if_true,if_false,ne_eq,not_true_eq_false];rw [hr];by_cases hF:F=0
  ·subst hF
   cases W with
   | true=>simp only [if_true] at h3';simp [v1,v3,hk,k0,k1,hkn,hnm,h0',h1',h2',e1,c1,c2,c3,h4,h3']
   | false=>simp only [fF,if_false] at h3';simp [v1,v3,hk,k0,k1,hkn,hnm,h0',h1',h2',e1,c1,c2,c3,h4,h3']
  ·simp [v1,v3,hk,k0,k1,hkn,hnm,h0',h1',h2',e1,c1,c2,c3,h4,hF]
 by_cases e2:b.kind=2
 ·have e2:=eq_true e2
  by_cases c1:b.chosen < 1
  ·simp [v1,v3,hk,k0,k1,hkn,hnm,h0',h1',h2',e1,e2,c1]
  by_cases c2:255 < b.chosen
  ·simp [v1,v3,hk,k0,k1,hkn,hnm,h0',h1',h2',e1,e2,c1,c2]
  simp only [e1,e2,c1,c2,if_true,if_false,ne_eq,not_true_eq_false];rw [hr];by_cases hF:F=0
  ·subst hF
   cases W with
   | true=>simp only [if_true] at h3';simp [v1,v3,hk,k0,k1,hkn,hnm,h0',h1',h2',e1,e2,c1,c2,h4,h3']
   | false=>simp only [fF,if_false] at h3';simp [v1,v3,hk,k0,k1,hkn,hnm,h0',h1',h2',e1,e2,c1,c2,h4,h3']
  ·simp [v1,v3,hk,k0,k1,hkn,hnm,h0',h1',h2',e1,e2,c1,c2,h4,hF]
 by_cases e3:b.kind=3
 ·have e3:=eq_true e3
  by_cases c1:b.d=[]
  ·have c1:=eq_true c1
   simp [v1,v3,hk,k0,k1,hkn,hnm,h0',h1',h2',e1,e2,e3,c1]
  simp only [e1,e2,e3,c1,if_true,if_false,ne_eq,not_true_eq_false];rw [hr];by_cases hF:F=0
  ·subst hF
   cases W with
   | true=>simp only [if_true] at h3';simp [v1,v3,hk,k0,k1,hkn,hnm,h0',h1',h2',e1,e2,e3,c1,h4,h3']
   | false=>simp only [fF,if_false] at h3';simp [v1,v3,hk,k0,k1,hkn,hnm,h0',h1',h2',e1,e2,e3,c1,h4,h3']
  ·simp [v1,v3,hk,k0,k1,hkn,hnm,h0',h1',h2',e1,e2,e3,c1,h4,hF]
 by_cases e5:b.kind=5
 ·have e5:=eq_true e5
  by_cases c1:b.epoch < 1
  ·simp [v1,v3,hk,k0,k1,hkn,hnm,h0',h1',h2',e1,e2,e3,e5,c1]
  simp only [e1,e2,e3,e5,c1,if_true,if_false,ne_eq,not_true_eq_false];rw [hr];by_cases hF:F=0
  ·subst hF
   cases W with
   | true=>simp only [if_true] at h3';simp [v1,v3,hk,k0,k1,hkn,hnm,h0',h1',h2',e1,e2,e3,e5,c1,h4,h3']
   | false=>simp only [fF,if_false] at h3';simp [v1,v3,hk,k0,k1,hkn,hnm,h0',h1',h2',e1,e2,e3,e5,c1,h4,h3']
  ·simp [v1,v3,hk,k0,k1,hkn,hnm,h0',h1',h2',e1,e2,e3,e5,c1,h4,hF]
 by_cases e6:b.kind=6
 ·have e6:=eq_true e6
  by_cases c1:b.base < 1
  ·simp [v1,v3,hk,k0,k1,hkn,hnm,h0',h1',h2',e1,e2,e3,e5,e6,c1]
  by_cases c2:b.epoch<=b.base
  ·simp [v1,v3,hk,k0,k1,hkn,hnm,h0',h1',h2',e1,e2,e3,e5,e6,c1,c2]
  simp only [e1,e2,e3,e5,e6,c1,c2,if_true,if_false,ne_eq,not_true_eq_false];rw [hr];by_cases hF:F=0
  ·subst hF
   cases W with
   | true=>simp only [if_true] at h3';simp [v1,v3,hk,k0,k1,hkn,hnm,h0',h1',h2',e1,e2,e3,e5,e6,c1,c2,h4,h3']
   | false=>simp only [fF,if_false] at h3';simp [v1,v3,hk,k0,k1,hkn,hnm,h0',h1',h2',e1,e2,e3,e5,e6,c1,c2,h4,h3']
  ·simp [v1,v3,hk,k0,k1,hkn,hnm,h0',h1',h2',e1,e2,e3,e5,e6,c1,c2,h4,hF]
 simp only [e1,e2,e3,e5,e6,if_false,ne_eq,not_true_eq_false];rw [hr];by_cases hF:F=0
 ·subst hF
  cases W with
  | true=>simp only [if_true] at h3';simp [v1,v3,hk,k0,k1,hkn,hnm,h0',h1',h2',e1,e2,e3,e5,e6,h4,h3']
  | false=>simp only [fF,if_false] at h3';simp [v1,v3,hk,k0,k1,hkn,hnm,h0',h1',h2',e1,e2,e3,e5,e6,h4,h3']
 ·simp [v1,v3,hk,k0,k1,hkn,hnm,h0',h1',h2',e1,e2,e3,e5,e6,h4,hF]
theorem adR:TT.lim 141 []=some [.l (fH.map .s)]:=by
 refine aG rfl rfl ?_ rfl;simp [fH]
def xB (l:List bW) (n:List UInt8):Option Int:=match l with
 | []=>none
 | s::l=>if s.name=n then some s.use else xB l n
def AP:Nat->Int->List UInt8->Option Int
 | 0,_,_=>none
 | m+1,k,n=>match xB (jO k) n with
   | some u=>some u
   | none=>AP m (k+1) n
def rV (n:List UInt8):Int:=match placeOf n with
 | some p=>jC p
 | none=>-1
theorem aeY (n:List UInt8) (a1:GV) (l:List bW) (hlen:l.length<=1000):∀ (m i:Nat),i+m=l.length->
 TT.lim 148 [.s n,a1,.l (l.map bD),.i .i64 l.length,.i .i64 i]=some (match xB (l.drop i) n with | some u=>[.i .i64 0,.i .i64 u] | none=>[.i .i64 1])
 | 0,i,hi=>by
   have h0:l.drop i=[]:=dN (by omega);refine aB rfl rfl ?_;have h:¬ ((i:Int) < l.length):=by omega
   simp [h,h0,xB]
 | m+1,i,hi=>by
   have hlt:i < l.length:=by omega
   have ih:=aeY n a1 l hlen m (i+1) (by omega);have hcast:((i:Int)+1)=((i+1:Nat):Int):=by omega
   rw [<- hcast] at ih;have h1:((i:Int) < l.length):=by omega
   have hw:=wrap64 (n:=(i:Int)+1) (by omega) (by omega);rw [dZ hlt];refine aB rfl rfl ?_;by_cases hc:l[i].name=n
   ·simp only [xB,aj hc]
    simp [h1,hlt,hc]
   ·simp only [xB,ah hc]
    simp [h1,hlt,hc,hw,ih]
theorem aeX (n:List UInt8):∀ (m:Nat) (k:Int),k+m=9->1<=k->
 TT.lim 147 [.s n,.i .i64 k]=some (match AP m k n with | some u=>[.i .i64 0,.i .i64 u] | none=>[.i .i64 1])
 | 0,k,hk,h1=>by
   have:¬ k<=8:=by omega
   refine aB rfl rfl ?_;simp [this,AP]
 | m+1,k,hk,h1=>by
   have h8:k<=8:=by omega
   have hw:=wrap64 (n:=k+1) (by omega) (by omega);have hs:=adZ k;have ih:=aeX n m (k+1) (by omega) (by omega);have hu:TT.lim 148 [.s n,.i .i64 k,.l ((jO k).map bD),.i .i64 (jO k).length,.i .i64 0]=_:=aeY n (.i .i64 k) (jO k) (by have:=Xu k;omega) (jO k).length 0 (by omega);rw [bY] at hu;have he:AP (m+1) k n=match xB (jO k) n with | some u=>some u | none=>AP m (k+1) n:=rfl
   rw [he];generalize jO k=l at *;cases hf:xB l n with
   | some u=>
     rw [hf] at hu;refine aB rfl rfl ?_;simp [h8,hs,hu]
   | none=>
     rw [hf] at hu;refine aB rfl rfl ?_;simp [h8,hs,hu,hw,ih]
theorem ar2 (n:List UInt8) (h1:placeOf n=none):AP 8 1 n=none:=by
 have hh:∀k s,s∈jO k->¬ s.name=n:=by
  intro k s hs e;rw [<- e] at h1;have key:∀s∈jO k,placeOf s.name≠none:=by
   unfold jO;repeat' split
   all_goals first | (unfold sp1;decide) | (unfold sp2;decide) | (unfold xU;decide) | (unfold xW;decide) | (unfold xX;decide) | (unfold xY;decide) | (unfold xZ;decide) | (unfold yc;decide) | (intro s hs;cases hs)
  exact key s hs h1
 have hf:∀ (l:List bW),(∀s∈l,¬ s.name=n)->xB l n=none:=by
  intro l;induction l with
  | nil=>intro _;rfl
  | cons s l ih=>intro h;simp only [xB];rw [ah (h s (by simp))];exact ih λs hs=>h s (by simp [hs])
 have hk:∀k,xB (jO k) n=none:=λk=>hf _ λs hs=>hh k s hs;simp only [AP,hk]
theorem asc (n:List UInt8):TT.lim 146 [.s n]=some [.i .i64 (rV n)]:=by
 have hu:∀o,AP 8 1 n=o->TT.lim 146 [.s n]=some [.i .i64 (match o with | some u=>u | none=>-1)]:=by
  intro o ho;have h0:=aeX n 8 1 (by omega) (by omega);rw [ho] at h0;refine aG rfl rfl ?_ rfl;cases o with
  | some u=>simp [h0]
  | none=>simp [h0]
 have hv:AP 8 1 n=(match placeOf n with | some p=>some (jC p) | none=>none):=by
  cases hp:placeOf n with
  | none=>exact ar2 n hp
  | some p=>
    obtain ⟨e,hk, -⟩:=wB n p hp;subst e;clear hp hu;induction p,hk using Ak<;>decide
 have:=hu _ hv;rw [this];unfold rV;cases placeOf n<;>rfl
theorem ae0 {n:List UInt8} {p:Pl} (h:placeOf n=some p):TT.lim 146 [.s n]=some [.i .i64 (jC p)]:=by
 have hu:=asc n;unfold rV at hu;rw [h] at hu;exact hu
def Jh (b:aU) (r:List GV) (n:List UInt8) (p:Pl):Prop:=TT.lim 145 [bP b r,.s n]=some [.i .u64 (aS b p).1,.s (aS b p).2]
set_option maxHeartbeats 4000000 in
theorem Qo (b:aU) (r:List GV) (hb:kG b) {n:List UInt8} {p:Pl} (hd:p=.d->gZ b.d=true) (hf:p=.t->oK b.t) (hp:placeOf n=some p):Jh b r n p:=by
 have hu:=ae0 hp;have hI:=Ef hp;have hk:=(wB n p hp).2.1;unfold Jh;clear hp;have hn:(∃k,p=.num k)->TT.lim 149 [bP b r,.s n]=some [.i .u64 (aS b p).1]:=by
  rintro ⟨k,e⟩
  clear hu hd hf
  induction p,hk using Ak<;>first
   | (cases e;done)
   | (refine aG rfl rfl ?_ rfl;simp [hI,aS,Ag];done)
 have hw:(p=.name\/p=.region\/p=.note)->TT.lim 150 [bP b r,.s n]=some [.s (aS b p).2]:=by
  clear hn hu hd hf;rintro (rfl | rfl | rfl)<;>(refine aG rfl rfl ?_ rfl;simp [hI,aS])
 have hx:=hb.remaining;induction p,hk using Ak
 case h0=>
  clear hn hw hd hf;simp only [jC] at hu;refine aG rfl rfl ?_ rfl;by_cases hc:0<=b.remaining
  ·have w1:=dF (n:=b.remaining) (by omega) (by omega)
   have w2:=dF (n:=2 * b.remaining) (by omega) (by omega);simp [hu,aS,zz,hc,w1,w2]
  ·have w0:=wrap64 (n:=b.remaining+1) (by omega) (by omega)
   have w00:=wrap64 (n:=0 - (b.remaining+1)) (by omega) (by omega);have w1:=dF (n:=0 - (b.remaining+1)) (by omega) (by omega);have w2:=dF (n:=0 - (b.remaining+1)+1) (by omega) (by omega);have w3:=dF (n:=0 - (b.remaining+1)+1 - 1) (by omega) (by omega);have w4:=dF (n:=2 * (0 - (b.remaining+1)+1 - 1)) (by omega) (by omega);have w5:=dF (n:=2 * (0 - (b.remaining+1)+1 - 1)+1) (by omega) (by omega);have e:2 * (0 - (b.remaining+1)+1 - 1)+1 = -2 * b.remaining - 1:=by omega
   have hz:zz b.remaining=2 * (0 - (b.remaining+1)+1 - 1)+1:=by unfold zz;rw [ah hc,e]
   have hv:aS b .rem=(zz b.remaining,[]):=rfl;rw [hv,hz];clear hI;simp only [Nat.reduceAdd] at *;simp [-Int.add_sub_cancel, -Int.zero_sub,hu,hc,w0,w00,w1,w2,w3,w4,w5]
 case h1=>
  simp only [jC] at hu;refine aG rfl rfl ?_ rfl;cases hc:b.allowed<;>simp [hu,aS,hc]
 case h5=>
  have hk:=Kq b.d (hd rfl);simp only [jC] at hu;refine aG rfl rfl ?_ rfl;by_cases e:b.d=[]
  ·simp [hu,aS,e]
  ·simp [hu,aS,e,hk]
 case h6=>
  have hk:=aoZ b.t hb.t (hf rfl);simp only [jC] at hu;refine aG rfl rfl ?_ rfl;by_cases e:b.t=[]
  ·simp [hu,aS,e]
  ·simp [hu,aS,e,hk]
 all_goals
  simp only [jC] at hu
  first
   | (have hn:=hn ⟨_,rfl⟩
      refine aG rfl rfl ?_ rfl;simp [hu,fM,hn,aS];done)
   | (have hn:=hw (by simp)
      refine aG rfl rfl ?_ rfl;simp [hu,fM,hn,aS];done)
theorem amG (x:Int):decide (x=0)=(decide (x=0)&&decide (([]:List UInt8)=[])):=by simp
theorem amH (x:List UInt8):decide (x=[])=(decide ((0:Int)=0)&&decide (x=[])):=by simp
theorem ao6 (b:aU) (r:List GV) {n:List UInt8} {c:Bool} {x:Int×List UInt8} (d1:¬ n=[100,101,115,99,114]) (d2:¬ n=[116,97,98,108,101]) (hv:TT.lim 145 [bP b r,.s n]=some [.i .u64 x.1,.s x.2]) (en:c=(decide (x.1=0)&&decide (x.2=[]))):TT.lim 144 [bP b r,.s n]=some [.b c]:=by
 rw [en];refine aG rfl rfl ?_ rfl;by_cases c1:x.1=0
 ·simp [d1,d2,fM,hv,c1]
 ·simp [d1,d2,fM,hv,c1]
theorem ao5 (b:aU) (r:List GV) (hb:kG b) (n:List UInt8) (h:placeOf n≠none):TT.lim 144 [bP b r,.s n]=some [.b (mM b n)]:=by
 obtain ⟨p,hp⟩:=Me.1 h;have hI:=Ef hp;rw [acN b hp];by_cases hd:p=.d
 ·subst hd
  have e:uY b .d=decide (b.d=[]):=rfl;rw [e];refine aG rfl rfl ?_ rfl;by_cases hc:b.d=[]<;>simp [hI,hc]
 by_cases ht:p=.t
 ·subst ht
  have e:uY b .t=decide (b.t=[]):=rfl;rw [e];refine aG rfl rfl ?_ rfl;by_cases hc:b.t=[]<;>simp [hI,hc]
 refine ao6 b r (by simp [hI,hd]) (by simp [hI,ht]) (Qo b r hb (λe=>absurd e hd) (λe=>absurd e ht) hp) ?_;cases p with
 | num k=>exact amG _
 | d=>exact absurd rfl hd
 | t=>exact absurd rfl ht
 | rem=>
   rw [mY];simp only [uY,aS,zz];by_cases hc:0<=b.remaining
   ·simp [hc]
    omega
   ·simp [hc]
    omega
 | allow=>
   rw [mY];by_cases hc:b.allowed=true<;>simp [uY,aS,hc]
 | _=>exact amH _
theorem ads (b:aU) (r:List GV) (n:List UInt8) (a3 a4 a5:GV) (l:List bW) (hlen:l.length<=1000):∀ (m i:Nat) (is:Bool),i+m=l.length->
 TT.lim 143 [.l (l.map bD),.s n,.b is,a3,a4,a5,.i .i64 l.length,.i .i64 i,.i .i64 b.kind,.i .u64 b.id,.i .u64 b.min,.i .u64 b.max,.i .u64 b.chosen,.i .u64 b.flags,.i .u64 b.cost,.i .u64 b.priority,.i .u64 b.deadline,.i .u64 b.retry,.i .u64 b.epoch,.i .u64 b.base,.i .u64 b.digest,.i .u64 b.lag,.i .u64 b.code,.i .u64 b.want,.i .i64 b.remaining,.b b.allowed,.s b.name,.s b.region,.s b.note,.l (b.d.map ent),.l (b.t.map row),.l r]=some [.i .i64 0,.b (is || lV (l.drop i) n)]
 | 0,i,is,hi=>by
   have h0:l.drop i=[]:=dN (by omega);refine aB rfl rfl ?_;have h:¬ ((i:Int) < l.length):=by omega
   simp [h,h0,lV]
 | m+1,i,is,hi=>by
   have hlt:i < l.length:=by omega
   have hcast:((i:Int)+1)=((i+1:Nat):Int):=by omega
   have ih:=λis=>ads b r n a3 a4 a5 l hlen m (i+1) is (by omega);simp only [<- hcast] at ih;have h1:((i:Int) < l.length):=by omega
   have hw:=wrap64 (n:=(i:Int)+1) (by omega) (by omega);have hd:lV (l.drop i) n=(decide (l[i].name=n) || lV (l.drop (i+1)) n):=by rw [dZ hlt];rfl
   rw [hd];generalize lV (l.drop (i+1)) n=X at *;refine aB rfl rfl ?_;cases is with
   | true=>simp [h1,hlt,hw,ih]
   | false=>simp [h1,hlt,hw,ih]
theorem adr (b:aU) (r:List GV) (hb:kG b) (l:List bW) (hlen:l.length<=1000) (ns:List (List UInt8)) (hn:ns.length<=1000) (hns:∀n∈ns,placeOf n≠none):∀ (m i:Nat),i+m=ns.length->
 TT.lim 142 [.l (l.map bD),.l (ns.map .s),.i .i64 ns.length,.i .i64 i,.i .i64 b.kind,.i .u64 b.id,.i .u64 b.min,.i .u64 b.max,.i .u64 b.chosen,.i .u64 b.flags,.i .u64 b.cost,.i .u64 b.priority,.i .u64 b.deadline,.i .u64 b.retry,.i .u64 b.epoch,.i .u64 b.base,.i .u64 b.digest,.i .u64 b.lag,.i .u64 b.code,.i .u64 b.want,.i .i64 b.remaining,.b b.allowed,.s b.name,.s b.region,.s b.note,.l (b.d.map ent),.l (b.t.map row),.l r]=some (if (ns.drop i).all (λn=>lV l n || mM b n)=true then [.i .i64 1] else [.i .i64 0])
 | 0,i,hi=>by
   have h0:ns.drop i=[]:=dN (by omega);refine aB rfl rfl ?_;have h:¬ ((i:Int) < ns.length):=by omega
   simp [h,h0]
 | m+1,i,hi=>by
   have hlt:i < ns.length:=by omega
   have ih:=adr b r hb l hlen ns hn hns m (i+1) (by omega);have hcast:((i:Int)+1)=((i+1:Nat):Int):=by omega
   rw [<- hcast] at ih;have h1:((i:Int) < ns.length):=by omega
   have hw:=wrap64 (n:=(i:Int)+1) (by omega) (by omega);have hd:(ns.drop i).all (λn=>lV l n || mM b n)=((lV l ns[i] || mM b ns[i])&&(ns.drop (i+1)).all (λn=>lV l n || mM b n)):=by rw [dZ hlt,qy]
   rw [hd];have hN:=ao5 b r hb ns[i] (hns _ (fP hlt));have h0:TT.lim 143 [.l (l.map bD),.s ns[i],.b false,.l (ns.map .s),.i .i64 ns.length,.i .i64 i,.i .i64 l.length,.i .i64 0,.i .i64 b.kind,.i .u64 b.id,.i .u64 b.min,.i .u64 b.max,.i .u64 b.chosen,.i .u64 b.flags,.i .u64 b.cost,.i .u64 b.priority,.i .u64 b.deadline,.i .u64 b.retry,.i .u64 b.epoch,.i .u64 b.base,.i .u64 b.digest,.i .u64 b.lag,.i .u64 b.code,.i .u64 b.want,.i .i64 b.remaining,.b b.allowed,.s b.name,.s b.region,.s b.note,.l (b.d.map ent),.l (b.t.map row),.l r]=_:=ads b r ns[i] (.l (ns.map .s)) (.i .i64 ns.length) (.i .i64 i) l hlen l.length 0 false (by omega);rw [bY,wO] at h0;generalize (ns.drop (i+1)).all (λn=>lV l n || mM b n)=X at *;generalize lV l ns[i]=A at *;generalize mM b ns[i]=B at *;refine aB rfl rfl ?_;cases A with
   | true=>simp [h1,hlt,hw,h0,ih]
   | false=>
     cases B with
     | true=>simp [h1,hlt,hw,h0,fM,hN,ih]
     | false=>simp [h1,hlt,hw,h0,fM,hN]
def Jg (b:aU) (r:List GV) (s:bW):Prop:=∀ (l:List bW) (i:Nat) (out:List GV),(h:i < l.length)->l[i]=s->l.length<=1000->
    TT.lim 178 [.l (l.map bD),.i .i64 l.length,.i .i64 ((i:Int)+1),.i .i64 b.kind,.i .u64 b.id,.i .u64 b.min,.i .u64 b.max,.i .u64 b.chosen,.i .u64 b.flags,.i .u64 b.cost,.i .u64 b.priority,.i .u64 b.deadline,.i .u64 b.retry,.i .u64 b.epoch,.i .u64 b.base,.i .u64 b.digest,.i .u64 b.lag,.i .u64 b.code,.i .u64 b.want,.i .i64 b.remaining,.b b.allowed,.s b.name,.s b.region,.s b.note,.l (b.d.map ent),.l (b.t.map row),.l r]=some out->
    TT.lim 178 [.l (l.map bD),.i .i64 l.length,.i .i64 i,.i .i64 b.kind,.i .u64 b.id,.i .u64 b.min,.i .u64 b.max,.i .u64 b.chosen,.i .u64 b.flags,.i .u64 b.cost,.i .u64 b.priority,.i .u64 b.deadline,.i .u64 b.retry,.i .u64 b.epoch,.i .u64 b.base,.i .u64 b.digest,.i .u64 b.lag,.i .u64 b.code,.i .u64 b.want,.i .i64 b.remaining,.b b.allowed,.s b.name,.s b.region,.s b.note,.l (b.d.map ent),.l (b.t.map row),.l r]=some (if qJ b s.name=0 then out else [.i .i64 0,.i .i64 (qJ b s.name)])
theorem apl (b:aU) (r:List GV) (s:bW) (u3:s.use≠3) (u4:s.use≠4) (u5:s.use≠5) (hm:qJ b s.name=0):Jg b r s:=by
 intro l i out h hs hlen ih;have h1:((i:Int) < l.length):=by omega
 have hw:=wrap64 (n:=(i:Int)+1) (by omega) (by omega);rw [aj hm];refine aB rfl rfl ?_;simp [h1,h,hs,hw,u3,u4,u5,ih]
theorem Xf (b:aU) (r:List GV) (hb:kG b) (s:bW) (hu:s.use=3) {p:Pl} (hp:placeOf s.name=some p) (hq:p=.name\/p=.region\/p=.note):Jg b r s:=by
 intro l i out h hs hlen ih;have h1:((i:Int) < l.length):=by omega
 have hw:=wrap64 (n:=(i:Int)+1) (by omega) (by omega);have hm:qJ b s.name=jK (aS b p).2 0 256:=by rw [KC b hp];rcases hq with rfl | rfl | rfl<;>rfl
 have hI:=Ef hp;have hr:TT.lim 150 [bP b r,.s s.name]=some [.s (aS b p).2]:=by
  rcases hq with rfl | rfl | rfl<;>(refine aG rfl rfl ?_ rfl;simp [hI,aS])
 have hc:=F5 (aS b p).2 0 256 (by rcases hq with rfl | rfl | rfl<;>first | exact hb.name | exact hb.region | exact hb.note);clear hI;rw [hm];generalize jK (aS b p).2 0 256=c at *;generalize (aS b p).2=x at *;by_cases e:c=0
 ·subst e
  rw [aj rfl];refine aB rfl rfl ?_;simp [h1,h,hs,hw,hu,fM,hr,hc,ih]
 ·rw [ah e]
  refine aB rfl rfl ?_;simp [h1,h,hs,hw,hu,fM,hr,hc,e]
theorem apk (b:aU) (r:List GV) (hb:kG b) (s:bW) (hu:s.use=4) (hp:placeOf s.name=some .d):Jg b r s:=by
 intro l i out h hs hlen ih;have h1:((i:Int) < l.length):=by omega
 have hw:=wrap64 (n:=(i:Int)+1) (by omega) (by omega);have hm:qJ b s.name=if b.d=[] then 0 else qV b.d:=KC b hp
 have hc:=ZL b.d hb.d;rw [hm];by_cases hd:b.d=[]
 ·rw [aj (by rw [aj hd])]
  have hd':(b.d=[])=True:=eq_true hd;have hd2:(0 < b.d.length)=False:=eq_false (by rw [hd];simp);refine aB rfl rfl ?_;simp [h1,h,hs,hw,hu,hd2,ih]
 ·rw [ah hd]
  have hd0:0 < b.d.length:=AZ.2 hd;generalize qV b.d=c at *;by_cases e:c=0
  ·subst e
   rw [aj rfl];refine aB rfl rfl ?_;simp [h1,h,hs,hw,hu,hd,hc,ih]
  ·rw [ah e]
   refine aB rfl rfl ?_;simp [h1,h,hs,hw,hu,hd,hc,e]
theorem apm (b:aU) (r:List GV) (hb:kG b) (hf:oK b.t) (s:bW) (hu:s.use=5) (hp:placeOf s.name=some .t):Jg b r s:=by
 intro l i out h hs hlen ih;have h1:((i:Int) < l.length):=by omega
 have hw:=wrap64 (n:=(i:Int)+1) (by omega) (by omega);have hm:qJ b s.name=sU b.t:=KC b hp;have hc:=ZK b.t hb.t hf;rw [hm];generalize sU b.t=c at *;by_cases e:c=0
 ·subst e
  rw [aj rfl];refine aB rfl rfl ?_;simp [h1,h,hs,hw,hu,hc,ih]
 ·rw [ah e]
  refine aB rfl rfl ?_;simp [h1,h,hs,hw,hu,hc,e]
theorem apj (b:aU) (r:List GV) (hb:kG b) (hf:oK b.t) (s:bW) (hp:placeOf s.name≠none) (hu:s.use=rV s.name):Jg b r s:=by
 obtain ⟨p,hp⟩:=Me.1 hp;have hu:s.use=jC p:=by rw [hu];unfold rV;rw [hp]
 have hm:=KC b hp;cases p with
 | name=>exact Xf b r hb s hu hp (by simp)
 | region=>exact Xf b r hb s hu hp (by simp)
 | note=>exact Xf b r hb s hu hp (by simp)
 | d=>exact apk b r hb s hu hp
 | t=>exact apm b r hb hf s hu hp
 | _=>exact apl b r s (by rw [hu];simp [jC]) (by rw [hu];simp [jC]) (by rw [hu];simp [jC]) hm
theorem adt (b:aU) (r:List GV) (hb:kG b) (hf:oK b.t) (l:List bW) (hlen:l.length<=1000) (hns:∀s∈l,placeOf s.name≠none/\s.use=rV s.name):∀ (m i:Nat),i+m=l.length->
 TT.lim 178 [.l (l.map bD),.i .i64 l.length,.i .i64 i,.i .i64 b.kind,.i .u64 b.id,.i .u64 b.min,.i .u64 b.max,.i .u64 b.chosen,.i .u64 b.flags,.i .u64 b.cost,.i .u64 b.priority,.i .u64 b.deadline,.i .u64 b.retry,.i .u64 b.epoch,.i .u64 b.base,.i .u64 b.digest,.i .u64 b.lag,.i .u64 b.code,.i .u64 b.want,.i .i64 b.remaining,.b b.allowed,.s b.name,.s b.region,.s b.note,.l (b.d.map ent),.l (b.t.map row),.l r]=some (if kS b (l.drop i)=0 then [.i .i64 1] else [.i .i64 0,.i .i64 (kS b (l.drop i))])
 | 0,i,hi=>by
   have h0:l.drop i=[]:=dN (by omega);refine aB rfl rfl ?_;have h:¬ ((i:Int) < l.length):=by omega
   simp [h,h0,kS]
 | m+1,i,hi=>by
   have hlt:i < l.length:=by omega
   have ih:=adt b r hb hf l hlen hns m (i+1) (by omega);have hcast:((i:Int)+1)=((i+1:Nat):Int):=by omega
   rw [<- hcast] at ih;have hq:=hns _ (fP hlt);have:=apj b r hb hf l[i] hq.1 hq.2 l i _ hlt rfl hlen ih;rw [this,dZ hlt];by_cases hc:qJ b l[i].name=0
   ·have hm:kS b (l[i]::l.drop (i+1))=kS b (l.drop (i+1)):=by simp only [kS,hc,if_true]
    rw [aj hc,hm]
   ·have hm:kS b (l[i]::l.drop (i+1))=qJ b l[i].name:=by simp only [kS,hc,if_false]
    rw [ah hc,hm,ah hc]
theorem adw (l:List bW) (hlen:l.length<=1000) (a1 a2 a3:GV) (t:Int) (a7 a8 a9 a10:GV):∀ (m i:Nat),i+m=l.length->
 TT.lim 182 [.l (l.map bD),a1,a2,a3,.i .i64 l.length,.i .i64 i,.i .u64 t,a7,a8,a9,a10]=some (if hasTag (l.drop i) t=true then [.i .i64 0] else [.i .i64 1])
 | 0,i,hi=>by
   have h0:l.drop i=[]:=dN (by omega);refine aB rfl rfl ?_;have h:¬ ((i:Int) < l.length):=by omega
   simp [h,h0,hasTag]
 | m+1,i,hi=>by
   have hlt:i < l.length:=by omega
   have ih:=adw l hlen a1 a2 a3 t a7 a8 a9 a10 m (i+1) (by omega);have hcast:((i:Int)+1)=((i+1:Nat):Int):=by omega
   rw [<- hcast] at ih;have h1:((i:Int) < l.length):=by omega
   have hw:=wrap64 (n:=(i:Int)+1) (by omega) (by omega);have hd:hasTag (l.drop i) t=(decide (t=l[i].tag) || hasTag (l.drop (i+1)) t):=by rw [dZ hlt];rfl
   rw [hd];generalize hasTag (l.drop (i+1)) t=X at *;refine aB rfl rfl ?_;by_cases hc:t=l[i].tag
   ·simp [h1,hlt,hc]
   ·have hc':¬ l[i].tag=t:=λe=>hc e.symm
    simp [h1,hlt,hc,hc',hw,ih]
theorem adu (l:List bW) (hlen:l.length<=1000) (fl:List aF) (hfl:fl.length<=1000000):∀ (m i:Nat),i+m=fl.length->
 TT.lim 181 [.l (l.map bD),.l (au fl),.i .i64 fl.length,.i .i64 i]=some (if (fl.drop i).any (λf=>hasTag l f.tag)=true then [.i .i64 0] else [.i .i64 1])
 | 0,i,hi=>by
   have h0:fl.drop i=[]:=dN (by omega);refine aB rfl rfl ?_;have h:¬ ((i:Int) < fl.length):=by omega
   simp [h,h0]
 | m+1,i,hi=>by
   have hlt:i < fl.length:=by omega
   have ih:=adu l hlen fl hfl m (i+1) (by omega);have hcast:((i:Int)+1)=((i+1:Nat):Int):=by omega
   rw [<- hcast] at ih;have h1:((i:Int) < fl.length):=by omega
   have hw:=wrap64 (n:=(i:Int)+1) (by omega) (by omega);have hd:(fl.drop i).any (λf=>hasTag l f.tag)=(hasTag l fl[i].tag || (fl.drop (i+1)).any (λf=>hasTag l f.tag)):=by rw [dZ hlt,Rt]
   rw [hd];have hget:(au fl)[i]? = some (fG fl[i]):=by rw [oV,iF,bV hlt];rfl
   clear hd;obtain ⟨t,y,n,s,k,hfi⟩:∃t y n s k,fl[i]=aF.mk t y n s k:=by
    cases fl[i] with
    | mk t y n s k=>exact ⟨_,_,_,_,_,rfl⟩
   rw [hfi] at hget ⊢;rw [show (aF.mk t y n s k).tag=t from rfl];have h3:TT.lim 182 [.l (l.map bD),.l (au fl),.i .i64 fl.length,.i .i64 i,.i .i64 l.length,.i .i64 0,.i .u64 t,.i .i64 y,.i .u64 n,.s s,.l (au k)]=_:=adw l hlen _ _ _ t _ _ _ _ l.length 0 (by omega);rw [bY] at h3;refine aB rfl rfl ?_;by_cases hc:hasTag l t=true
   ·rw [aj hc] at h3
    simp [-List.any_eq_true,h1,hget,h3,hc]
   ·rw [ah hc] at h3
    have hc:hasTag l t=false:=by simpa using hc
    simp [-List.any_eq_true,h1,hget,h3,hw,ih,hc]
theorem Vd (k v:Int):∀s∈aQ k v,placeOf s.name≠none/\s.use=rV s.name:=by
 have key:∀s∈jO k,placeOf s.name≠none/\s.use=rV s.name:=by
  unfold jO;repeat' split
  all_goals first | (unfold sp1;decide) | (unfold sp2;decide) | (unfold xU;decide) | (unfold xW;decide) | (unfold xX;decide) | (unfold xY;decide) | (unfold xZ;decide) | (unfold yc;decide) | (intro s hs;cases hs)
 intro s hs;exact key s (Fj.1 hs).1
set_option maxHeartbeats 4000000 in
theorem WU (b:aU) (fl:List aF) (v:Int) (hb:kG b) (hf:oK b.t) (hok:dw fl) (hlen:fl.length<=1000000):TT.lim 137 [bP b (au fl),.i .i64 v]=some [.i .i64 (jG b fl v)]:=by
 refine aG rfl rfl ?_ rfl;unfold jG;by_cases v1:v < 1
 ·simp [v1]
 by_cases v3:3 < v
 ·simp [v1,v3]
 rw [ah v1,ah v3];have hkn:=Xa b.kind v (by omega);have hpl:=Vd b.kind v;have hl8:=vZ b.kind v;generalize aQ b.kind v=sp at *;by_cases hsp:sp=[]
 ·rw [aj hsp]
  rw [hsp] at hkn;simp [v1,v3,hkn]
 rw [ah hsp];have auv:¬ sp.length=0:=λe=>hsp (afi.1 e);have hnm:=adR;have h1:=adr b (au fl) hb sp (by omega) fH (by decide) VB fH.length 0 (by omega);have h2:=adt b (au fl) hb hf sp (by omega) hpl sp.length 0 (by omega);have h3:=adu sp (by omega) fl hlen fl.length 0 (by omega);have h4:TT.lim 179 [.l (au fl),.i .i64 0]=some [.i .i64 (fZ 0 0 fl)]:=Qh (bQ fl+1) fl (by omega) hok hlen 0 (by omega);rw [bY] at h1 h2 h3;have hfl:=iw fl;rw [<- hfl] at h3;have h1':TT.lim 142 [.l (sp.map bD),.l (fH.map .s),.i .i64 fH.length,.i .i64 0,.i .i64 b.kind,.i .u64 b.id,.i .u64 b.min,.i .u64 b.max,.i .u64 b.chosen,.i .u64 b.flags,.i .u64 b.cost,.i .u64 b.priority,.i .u64 b.deadline,.i .u64 b.retry,.i .u64 b.epoch,.i .u64 b.base,.i .u64 b.digest,.i .u64 b.lag,.i .u64 b.code,.i .u64 b.want,.i .i64 b.remaining,.b b.allowed,.s b.name,.s b.region,.s b.note,.l (b.d.map ent),.l (b.t.map row),.l (au fl)]=_:=h1;clear h1;have h2':TT.lim 178 [.l (sp.map bD),.i .i64 sp.length,.i .i64 0,.i .i64 b.kind,.i .u64 b.id,.i .u64 b.min,.i .u64 b.max,.i .u64 b.chosen,.i .u64 b.flags,.i .u64 b.cost,.i .u64 b.priority,.i .u64 b.deadline,.i .u64 b.retry,.i .u64 b.epoch,.i .u64 b.base,.i .u64 b.digest,.i .u64 b.lag,.i .u64 b.code,.i .u64 b.want,.i .i64 b.remaining,.b b.allowed,.s b.name,.s b.region,.s b.note,.l (b.d.map ent),.l (b.t.map row),.l (au fl)]=_:=h2;clear h2;have h3':TT.lim 181 [.l (sp.map bD),.l (au fl),.i .i64 (au fl).length,.i .i64 0]=_:=h3;clear h3;have hr:EK sp fl=if fZ 0 0 fl≠0 then fZ 0 0 fl else if fl.any (λf=>hasTag sp f.tag)=true then 14 else 0:=rfl
 generalize (fH.all λn=>lV sp n || mM b n)=A at *;generalize kS b sp=M at *;generalize fZ 0 0 fl=F at *;generalize (fl.any λf=>hasTag sp f.tag)=W at *;generalize EK sp fl=R at *;generalize fH=NL at *;cases A with
 | false=>
   simp only [fF,if_false] at h1';simp [v1,v3,hkn,hsp,hnm,h1']
 | true=>
 simp only [if_true] at h1';by_cases hM:M=0;rotate_left
 ·rw [ah hM] at h2'
  simp [v1,v3,hkn,hsp,hnm,h1',h2',hM]
 rw [aj hM] at h2';rw [ah (by simp),ah (by simp [hM])];clear hM;have z1:(b.min < 1)=(b.min=0):=propext ⟨λh=>by have:=hb.min;omega,λh=>by omega⟩;have z2:(b.chosen < 1)=(b.chosen=0):=propext ⟨λh=>by have:=hb.chosen;omega,λh=>by omega⟩;have z3:(b.epoch < 1)=(b.epoch=0):=propext ⟨λh=>by have:=hb.epoch;omega,λh=>by omega⟩;have z4:(b.base < 1)=(b.base=0):=propext ⟨λh=>by have:=hb.base;omega,λh=>by omega⟩;unfold Bv;simp only [z1,z2,z3,z4];by_cases e1:b.kind=1
 ·have e1:=eq_true e1
  by_cases c1:b.min=0
  ·have c1:=eq_true c1
   simp [v1,v3,hkn,hsp,hnm,h1',h2',e1,c1]
  by_cases c2:b.max < b.min
  ·simp [v1,v3,hkn,hsp,hnm,h1',h2',e1,c1,c2]
  by_cases c3:255 < b.max
  ·simp [v1,v3,hkn,hsp,hnm,h1',h2',e1,c1,c2,c3]
  simp only [e1,c1,c2,c3,if_true,if_false,ne_eq,not_true_eq_false];rw [hr];by_cases hF:F=0
  ·subst hF
   cases W with
   | true=>simp only [if_true] at h3';simp [v1,v3,hkn,hsp,hnm,h1',h2',e1,c1,c2,c3,h4,h3']
   | false=>simp only [fF,if_false] at h3';simp [v1,v3,hkn,hsp,hnm,h1',h2',e1,c1,c2,c3,h4,h3']
  ·simp [v1,v3,hkn,hsp,hnm,h1',h2',e1,c1,c2,c3,h4,hF]
 by_cases e2:b.kind=2
 ·have e2:=eq_true e2
  by_cases c1:b.chosen=0
  ·have c1:=eq_true c1
   simp [v1,v3,hkn,hsp,hnm,h1',h2',e1,e2,c1]
  by_cases c2:255 < b.chosen
  ·simp [v1,v3,hkn,hsp,hnm,h1',h2',e1,e2,c1,c2]
  simp only [e1,e2,c1,c2,if_true,if_false,ne_eq,not_true_eq_false];rw [hr];by_cases hF:F=0
  ·subst hF
   cases W with
   | true=>simp only [if_true] at h3';simp [v1,v3,hkn,hsp,hnm,h1',h2',e1,e2,c1,c2,h4,h3']
   | false=>simp only [fF,if_false] at h3';simp [v1,v3,hkn,hsp,hnm,h1',h2',e1,e2,c1,c2,h4,h3']
  ·simp [v1,v3,hkn,hsp,hnm,h1',h2',e1,e2,c1,c2,h4,hF]
 by_cases e3:b.kind=3
 ·have n5:(b.kind=5)=False:=eq_false (by omega)
  have n6:(b.kind=6)=False:=eq_false (by omega);have e3:=eq_true e3;by_cases c1:b.d=[]
  ·have c1:=eq_true c1
   simp [v1,v3,hkn,hsp,hnm,h1',h2',e1,e2,e3,n5,n6,c1]
  simp only [e1,e2,e3,c1,if_true,if_false,ne_eq,not_true_eq_false];rw [hr];by_cases hF:F=0
  ·subst hF
   cases W with
   | true=>simp only [if_true] at h3';simp [v1,v3,hkn,hsp,hnm,h1',h2',e1,e2,e3,n5,n6,c1,h4,h3']
   | false=>simp only [fF,if_false] at h3';simp [v1,v3,hkn,hsp,hnm,h1',h2',e1,e2,e3,n5,n6,c1,h4,h3']
  ·simp [v1,v3,hkn,hsp,hnm,h1',h2',e1,e2,e3,n5,n6,c1,h4,hF]
 by_cases e5:b.kind=5
 ·have e5:=eq_true e5
  by_cases c1:b.epoch=0
  ·have c1:=eq_true c1
   simp [v1,v3,hkn,hsp,hnm,h1',h2',e1,e2,e3,e5,c1]
  simp only [e1,e2,e3,e5,c1,if_true,if_false,ne_eq,not_true_eq_false];rw [hr];by_cases hF:F=0
  ·subst hF
   cases W with
   | true=>simp only [if_true] at h3';simp [v1,v3,hkn,hsp,hnm,h1',h2',e1,e2,e3,e5,c1,h4,h3']
   | false=>simp only [fF,if_false] at h3';simp [v1,v3,hkn,hsp,hnm,h1',h2',e1,e2,e3,e5,c1,h4,h3']
  ·simp [v1,v3,hkn,hsp,hnm,h1',h2',e1,e2,e3,e5,c1,h4,hF]
 by_cases e6:b.kind=6
 ·have e6:=eq_true e6
  by_cases c1:b.base=0
  ·have c1:=eq_true c1
   simp [v1,v3,hkn,hsp,hnm,h1',h2',e1,e2,e3,e5,e6,c1]
  by_cases c2:b.epoch<=b.base
  ·simp [v1,v3,hkn,hsp,hnm,h1',h2',e1,e2,e3,e5,e6,c1,c2]
  simp only [e1,e2,e3,e5,e6,c1,c2,if_true,if_false,ne_eq,not_true_eq_false];rw [hr];by_cases hF:F=0
  ·subst hF
   cases W with
   | true=>simp only [if_true] at h3';simp [v1,v3,hkn,hsp,hnm,h1',h2',e1,e2,e3,e5,e6,c1,c2,h4,h3']
   | false=>simp only [fF,if_false] at h3';simp [v1,v3,hkn,hsp,hnm,h1',h2',e1,e2,e3,e5,e6,c1,c2,h4,h3']
  ·simp [v1,v3,hkn,hsp,hnm,h1',h2',e1,e2,e3,e5,e6,c1,c2,h4,hF]
 simp only [e1,e2,e3,e5,e6,if_false,ne_eq,not_true_eq_false];rw [hr];by_cases hF:F=0
 ·subst hF
  cases W with
  | true=>simp only [if_true] at h3';simp [v1,v3,hkn,hsp,hnm,h1',h2',e1,e2,e3,e5,e6,h4,h3']
  | false=>simp only [fF,if_false] at h3';simp [v1,v3,hkn,hsp,hnm,h1',h2',e1,e2,e3,e5,e6,h4,h3']
 ·simp [v1,v3,hkn,hsp,hnm,h1',h2',e1,e2,e3,e5,e6,h4,hF]
/-- The numbers with a sign, written by their bits. -/
theorem asL (x:Int) (h0 : -9223372036854775808<=x) (h1:x<=9223372036854775807):∃u w:Int,IntKind.u64.wrap x=u/\IntKind.u64.wrap (x.fdiv (2 ^ 63))=w/\fU .xor .u64 (IntKind.u64.wrap (u * 2 ^ 1)) w=some (.i .u64 (zz x)):=by
 have wr:∀y:Int,IntKind.u64.wrap y=y % 18446744073709551616:=λy=>by simp [IntKind.wrap,IntKind.signed,IntKind.bits]
 refine ⟨_,_,rfl,rfl, ?_⟩;rw [wr,wr,wr];unfold zz;have hb:IntKind.u64.bits=64:=rfl;by_cases h:0<=x
 ·have e1:x.fdiv (2 ^ 63)=0:=by
   rw [LU _ (by decide)];exact Int.ediv_eq_zero_of_lt h (by omega)
  rw [e1,aj h];have e2:x % 18446744073709551616 * 2 ^ 1 % 18446744073709551616=2 * x:=by omega
  rw [e2];simp only [fU,wr,hb];have e3:(BitVec.ofInt 64 (2 * x) ^^^ BitVec.ofInt 64 (0 % 18446744073709551616))=BitVec.ofInt 64 (2 * x):=by
   have:BitVec.ofInt 64 (0 % 18446744073709551616)=0#64:=rfl;rw [this,BitVec.xor_zero]
  show some (GV.i IntKind.u64 (((BitVec.ofInt 64 (2 * x) ^^^ BitVec.ofInt 64 (0 % 18446744073709551616)).toNat:Int) % 18446744073709551616))=_
  rw [e3,wM];congr 2;omega
 ·have e1:x.fdiv (2 ^ 63) = -1:=by
   rw [LU _ (by decide)];omega
  rw [e1,ah h];have e2:x % 18446744073709551616 * 2 ^ 1 % 18446744073709551616=2 * x+18446744073709551616:=by omega
  rw [e2];simp only [fU,wr,hb];have e3:(BitVec.ofInt 64 (2 * x+18446744073709551616) ^^^ BitVec.ofInt 64 (-1 % 18446744073709551616)) = ~~~ BitVec.ofInt 64 (2 * x+18446744073709551616):=by
   have:BitVec.ofInt 64 (-1 % 18446744073709551616)=BitVec.allOnes 64:=by decide
   rw [this,BitVec.xor_allOnes]
  show some (GV.i IntKind.u64 (((BitVec.ofInt 64 (2 * x+18446744073709551616) ^^^ BitVec.ofInt 64 (-1 % 18446744073709551616)).toNat:Int) % 18446744073709551616))=_
  rw [e3,BitVec.toNat_not,wM];congr 2;omega
def YU (b:aU) (r:List GV) (n:List UInt8) (p:Pl):Prop:=TT.lim 78 [bP b r,.s n]=some [.g [.i .u64 0,.i .i64 (bH p),.i .u64 (aS b p).1,.s (aS b p).2,.l []],.b true]
set_option maxHeartbeats 4000000 in
theorem acG (b:aU) (r:List GV) (hb:kG b) {n:List UInt8} {p:Pl} (hd:p=.d->gZ b.d=true) (hf:p=.t->oK b.t) (hp:placeOf n=some p):YU b r n p:=by
 have hI:=Ef hp;have hk:=(wB n p hp).2.1;unfold YU;clear hp;induction p,hk using Ak
 case h0=>
  obtain ⟨u,w,h1,h2,h3⟩:=asL b.remaining hb.remaining.1 hb.remaining.2;have h2:IntKind.u64.wrap (b.remaining.fdiv 9223372036854775808)=w:=h2;have h3:fU .xor .u64 (IntKind.u64.wrap (u * 2)) w=some (.i .u64 (zz b.remaining)):=h3;refine aG rfl rfl ?_ rfl;simp [hI,mQ,h1,h2,h3,IntKind.bits,bH,aS]
 case h1=>
  refine aG rfl rfl ?_ rfl;cases hc:b.allowed<;>simp [hI,bH,aS,hc]
 case h5=>
  have hk:=OZ b.d (hd rfl);refine aG rfl rfl ?_ rfl;by_cases e:b.d=[]
  ·have e':=eq_true e
   simp [hI,bH,aS,e']
  ·simp [hI,bH,aS,e,hk]
 case h6=>
  have hk:=alE b.t hb.t (hf rfl);refine aG rfl rfl ?_ rfl;by_cases e:b.t=[]
  ·have e':=eq_true e
   simp [hI,bH,aS,e']
  ·simp [hI,bH,aS,e,hk]
 all_goals
  refine aG rfl rfl ?_ rfl;simp [hI,bH,aS,Ag]
theorem acH (b:aU) (r:List GV) {n:List UInt8} (hp:placeOf n=none):TT.lim 78 [bP b r,.s n]=some [.g [.i .u64 0,.i .i64 0,.i .u64 0,.s [],.l []],.b false]:=by
 have hI:=abw hp;refine aG rfl rfl ?_ rfl;simp [hI]
theorem acP:∀ (N:Nat) (l:List aF),bQ l < N->dw l->l.length<=1000000->TT.lim 133 [.l (au l)]=some [.l (au l)]
 | 0,l,h,_,_=>by omega
 | N+1,l,hN,hok,hlen=>by
   have loop:∀m i,i+m=l.length->TT.lim 134 [.l ((au l).take i),.l (au l),.i .i64 l.length,.i .i64 i]=some [.i .i64 0,.l (au l)]:=by
    intro m;induction m with
    | zero=>
      intro i hi;have h0:(au l).take i=au l:=kU (by rw [iw];omega);rw [h0];refine aB rfl rfl ?_;have h:¬ ((i:Int) < l.length):=by omega
      simp [h]
    | succ m ih=>
      intro i hi;have hlt:i < l.length:=by omega
      have hf:=tq hok l[i] (fP hlt);have hs:=CW (fP hlt);have hget:(au l)[i]? = some (fG l[i]):=by rw [oV,iF,bV hlt];rfl
      have hcast:((i:Int)+1)=((i+1:Nat):Int):=by omega
      have ih':=ih (i+1) (by omega);have htk:(au l).take (i+1)=(au l).take i++[fG l[i]]:=by
       rw [L6,hget];rfl
      rw [htk,<- hcast] at ih';clear htk;obtain ⟨t,y,n,s,k,hfi⟩:∃t y n s k,l[i]=aF.mk t y n s k:=by
       cases l[i] with
       | mk t y n s k=>exact ⟨_,_,_,_,_,rfl⟩
      rw [hfi] at hget hf hs ih';simp only [l9] at hf;simp only [nX] at hs;have hwr:=wrap64 (n:=(i:Int)+1) (by omega) (by omega);have h:((i:Int) < l.length):=by omega
      have hk:=acP N k (by omega) hf.2 hf.1.2.2.2.2.2.2.2;have hfold:GV.g [.i .u64 t,.i .i64 y,.i .u64 n,.s s,.l (au k)]=fG (.mk t y n s k):=by simp only [fG]
      have hel:(fG (.mk t y n s k)).eU 5=true:=by simp only [fG];rfl
      have hl0:((au l).take i).length=i:=by rw [jL,iw];omega
      have hb1:2 * (((au l).take i).length+1) * 64<=281474976710656:=by rw [hl0];omega
      have hb2:((au l).take i).length<=281474976710655:=by rw [hl0];omega
      generalize (au l).take i=acc at *;refine aB rfl rfl ?_;simp [h,hget,hk,hfold,hel,hb1,hb2,hwr,ih']
   have h0:=loop l.length 0 (by omega);have hl2:=iw l;have h0':TT.lim 134 [.l [],.l (au l),.i .i64 (au l).length,.i .i64 0]=some [.i .i64 0,.l (au l)]:=by rw [hl2];exact h0
   refine aG rfl rfl ?_ rfl;simp [h0']
theorem Uf:∀ (n:Nat) (l:List One) (deep:Int),(∀x∈l,Bc x/\x.text.length<=300)->l.length<=1000000->dw (fE n l deep).1
 | 0,l,deep,_,_=>by simp only [fE,dw]
 | n+1,[],deep,_,_=>by simp only [fE,dw]
 | n+1,x::l,deep,h,hl=>by
   have hx:=h x (by simp);have hl':∀y∈l,Bc y/\y.text.length<=300:=λy hy=>h y (by simp [hy]);have hx1:=hx.1;unfold Bc at hx1;simp only [jc] at hl;simp only [fE];split
   ·have hp:dw (if x.deep=255 then (([]:List aF),l) else fE n l (x.deep+1)).1/\(if x.deep=255 then (([]:List aF),l) else fE n l (x.deep+1)).1.length<=1000000/\∃k,(if x.deep=255 then (([]:List aF),l) else fE n l (x.deep+1)).2=l.drop k:=by
     split
     ·exact ⟨by simp only [dw],by simp,0,rfl⟩
     ·have:=DY n l (x.deep+1)
      exact ⟨Uf n l _ hl' (by omega),by omega,this.2⟩
    obtain ⟨p1,p2,k,p3⟩:=hp;simp only [dw,l9];refine ⟨⟨⟨hx1.2.2.2.2.1,hx1.2.2.2.2.2.1,hx1.2.2.1,hx1.2.2.2.1,hx1.2.2.2.2.2.2.1,hx1.2.2.2.2.2.2.2.1,jl hx.2 (by decide),p2⟩,p1⟩, ?_⟩;rw [p3];exact Uf n (l.drop k) deep (λy hy=>hl' y (A8 hy)) (by rw [dh];omega)
   ·simp only [dw]
theorem ama (l:List One) (hl:Ones l) (hf:sZ l=true):dw (rC l)/\(rC l).length<=1000000:=by
 unfold sZ at hf;rw [aI,decide_eq_true_iff,List.all_eq_true] at hf;refine ⟨Uf _ l 0 (λx hx=>⟨hl.2 x hx,by simpa using hf.1 x hx⟩) (by omega), ?_⟩;have:=DY (l.length+1) l 0;unfold rC;omega
theorem VI (b:aU) (fl:List aF) (hd:b.d.length<=40) (ht:rX b.t) (hok:dw fl) (hlen:fl.length<=1000000):TT.lim 128 [bP b (au fl)]=some [bP b (au fl)]:=by
 have h1:=aeI b.d hd;have h2:=arT b.t ht;have h3:=acP (bQ fl+1) fl (by omega) hok hlen;refine aG rfl rfl ?_ rfl;simp [h1,h2,h3,fM]
theorem aeZ (p:Pl):0<=jC p/\(jC p).tdiv 3=bH p/\jC p<=5:=by cases p<;>simp [jC,bH]
theorem ash (b:aU) (r:List GV) (hb:kG b) (hd:gZ b.d=true) (hf:oK b.t) (n:List UInt8):(∃p,placeOf n=some p/\TT.lim 78 [bP b r,.s n]=some [.g [.i .u64 0,.i .i64 (bH p),.i .u64 (aS b p).1,.s (aS b p).2,.l []],.b true]/\TT.lim 145 [bP b r,.s n]=some [.i .u64 (aS b p).1,.s (aS b p).2]/\rV n=jC p)\/
 (TT.lim 78 [bP b r,.s n]=some [.g [.i .u64 0,.i .i64 0,.i .u64 0,.s [],.l []],.b false]/\rV n = -1):=by
 unfold rV;cases hp:placeOf n with
 | some p=>exact .inl ⟨p,rfl,acG b r hb (λ_=>hd) (λ_=>hf) hp,Qo b r hb (λ_=>hd) (λ_=>hf) hp,rfl⟩
 | none=>exact .inr ⟨acH b r hp,rfl⟩
abbrev It:=Int×Int×List UInt8
def ltI (a b:It):Bool:=if a.1=b.1 then decide (a.2.1 < b.2.1) else decide (a.1 < b.1)
def leI (a b:It):Prop:=ltI b a=false
def dI:It:=(0,0,[])
abbrev at_ (h:List It) (i:Nat):It:=h.getD i dI
def par (k:Nat):Nat:=(k - 1) / 2
def Heap (h:List It) (n:Nat):Prop:=∀k,0 < k->k < n->leI (at_ h (par k)) (at_ h k)
structure YR (h L:List It) (n:Int):Prop where
 heap:Heap h h.length
 perm:L.Perm h
 srt:L.Pairwise (λx y=>ltI x y=true)
 low:∀x∈L,x.2.1 < n
theorem YR.len {h L:List It} {n:Int} (s:YR h L n):h.length=L.length:=s.perm.length_eq.symm
/-- What may be kept. -/
structure Kp (k:List Sn):Prop where
 len:k.length<=8
 tb:∀s∈k,Tb s.2
 pos:∀s∈k,0 < s.1/\s.1 < 18446744073709551616
 rise:k.Pairwise λa b=>a.1 < b.1/\Zc b.2 a.2=true
theorem Kp.nil:Kp []:=⟨by decide,by simp,by simp,List.Pairwise.nil⟩
theorem Kp.drop {k:List Sn} (hk:Kp k) (i:Nat):Kp (k.drop i):=
 ⟨by have:=hk.len;rw [dh];omega,λs hs=>hk.tb s (A8 hs),λs hs=>hk.pos s (A8 hs),hk.rise.sublist (List.drop_sublist i k)⟩
theorem key_inj {a b:Int} {x:GV} (h1:mG (.i .u64 a) x=true) (h2:mG (.i .u64 b) x=true):a=b:=by
 cases x<;>simp [mG] at h1 h2
 omega
theorem abz (a b:Int):mG (.i .u64 a) (.i .u64 b)=decide (a=b):=by
 simp only [mG];rw [mY];simp
theorem wY (a b:Int) (u:GV):∀xs:List GV,jf (.i .u64 a) (kE (.i .u64 b) u xs)=if a=b then some u else jf (.i .u64 a) xs
 | []=>by
   show (if mG (.i .u64 a) (.i .u64 b)=true then some u else none)=_
   rw [abz];by_cases h:a=b<;>simp [h,jf]
 | .g [x,v]::xs=>by
   have ih:=wY a b u xs;show jf (.i .u64 a) (if mG (.i .u64 b) x=true then .g [.i .u64 b,u]::xs else .g [x,v]::kE (.i .u64 b) u xs)=if a=b then some u else (if mG (.i .u64 a) x=true then some v else jf (.i .u64 a) xs)
   cases hb:mG (.i .u64 b) x with
   | true=>
     rw [aj rfl];show (if mG (.i .u64 a) (.i .u64 b)=true then some u else jf (.i .u64 a) xs)=_
     rw [abz];by_cases h:a=b
     ·simp [h]
     ·cases ha:mG (.i .u64 a) x with
      | true=>exact absurd (key_inj ha hb) h
      | false=>simp [h]
   | false=>
     rw [ah (by simp)];show (if mG (.i .u64 a) x=true then some v else jf (.i .u64 a) (kE (.i .u64 b) u xs))=_
     rw [ih];cases ha:mG (.i .u64 a) x with
     | true=>
       by_cases h:a=b
       ·subst h;rw [ha] at hb;cases hb
       ·simp [h]
     | false=>simp
 | .g []::xs=>wY a b u xs
 | .g [_]::xs=>wY a b u xs
 | .g (_::_::_::_)::xs=>wY a b u xs
 | .i _ _::xs=>wY a b u xs
 | .b _::xs=>wY a b u xs
 | .s _::xs=>wY a b u xs
 | .l _::xs=>wY a b u xs
end V
end Go.Proofs.YtaggjpipnjmleaaGreatDoor
