/- What the trees compute: plain laws. -/
import Derived.Test.YtjglbndncdkhhaaGreatDoorKUe2
namespace Go.Proofs.YtjglbndncdkhhaaGreatDoor
open Go Go.aN
set_option linter.unusedSimpArgs false
set_option linter.unusedVariables false
set_option maxRecDepth 100000
namespace U
structure One where
 deep:Int
 tag:Int
 typ:Int
 num:Int
 text:List UInt8
inductive aC where
 | mk (tag typ num:Int) (text:List UInt8) (l:List aC)
def one (x:One):GV:=.g [.i .u8 x.deep,.i .u64 x.tag,.i .i8 x.typ,.i .u64 x.num,.s x.text]
@[simp] theorem asw (x:One):(one x).cells=[.i .u8 x.deep,.i .u64 x.tag,.i .i8 x.typ,.i .u64 x.num,.s x.text]:=rfl
mutual
def l7:aC->GV
 | .mk t y n s l=>.g [.i .u64 t,.i .i64 y,.i .u64 n,.s s,.l (aA l)]
def aA:List aC->List GV
 | []=>[]
 | f::l=>l7 f::aA l
end
theorem Ug:∀ (a b:List aC),aA (a++b)=aA a++aA b
 | [],b=>rfl
 | f::a,b=>by simp only [dV,aA,Ug a b]
theorem kQ:∀ (a:List aC),(aA a).length=a.length
 | []=>rfl
 | f::a=>by simp only [aA,iY,kQ a]
def AO (x:One):Prop:=0<=x.deep/\x.deep<=255/\-128<=x.typ/\x.typ<=127/\0<=x.tag/\x.tag < 18446744073709551616/\0<=x.num/\x.num < 18446744073709551616/\x.text.length<=140737488351232
def Ones (l:List One):Prop:=l.length<=140737488351232/\∀x∈l,AO x
def sZ (l:List One):Bool:=l.all (λx=>decide (x.text.length<=300))&&decide (l.length<=60)
theorem aaM (l:List One) (hl:l.length<=140737488351232):∀m i:Nat,i+m=l.length->TT.lim 16 [.l (l.map one),.i .i64 l.length,.i .i64 i]=some (if (l.drop i).all (λx=>decide (x.text.length<=300))=true then [.i .i64 1] else [.i .i64 0])
 | 0,i,hi=>by
   have h0:l.drop i=[]:=gY (by omega);refine aG rfl rfl ?_;have h:¬ ((i:Int) < l.length):=by omega
   simp [h,h0]
 | m+1,i,hi=>by
   have hlt:i < l.length:=by omega
   have ih:TT.lim 16 [.l (l.map one),.i .i64 l.length,.i .i64 ((i:Int)+1)]=_:=aaM l hl m (i+1) (by omega);refine aG rfl rfl ?_;have h:((i:Int) < l.length):=by omega
   have hw:=wrap64 (n:=(i:Int)+1) (by omega) (by omega);have hda:(l.drop i).all (λx=>decide (x.text.length<=300))=(decide (l[i].text.length<=300)&&(l.drop (i+1)).all (λx=>decide (x.text.length<=300))):=by rw [jw hlt,qP]
   by_cases hf:(300:Int) < (l[i].text.length:Int)
   ·have:decide (l[i].text.length<=300)=false:=by simp;omega
    simp [-List.all_eq_true,h,hlt,hf,hda,this]
   ·have:decide (l[i].text.length<=300)=true:=by simp;omega
    rw [hda,this,Ip];simp [-List.all_eq_true,h,hlt,hw,hf,ih]
theorem aif (l:List One) (hl:l.length<=140737488351232):TT.lim 15 [.l (l.map one)]=some [.b (sZ l)]:=by
 refine bD rfl rfl ?_ rfl;have h5:TT.lim 16 [.l (l.map one),.i .i64 l.length,.i .i64 0]=_:=aaM l hl l.length 0 (by omega);rw [eH] at h5;cases hc:l.all (λx=>decide (x.text.length<=300)) with
 | false=>rw [hc] at h5;simp [-List.all_eq_true,h5,sZ,hc]
 | true=>
   rw [hc] at h5;simp only [if_true] at h5;have:(decide ((l.length:Int)<=60))=decide (l.length<=60):=by rw [oU];simp;omega
   simp [-List.all_eq_true,h5,sZ,hc,this]
/-- What Make makes: of the first ones that are at least so deep; and the others. -/
def fA:Nat->List One->Int->List aC×List One
 | 0,l,_=>([],l)
 | _+1,[],_=>([],[])
 | n+1,x::l,deep=>
   if deep<=x.deep then
    let p:=if x.deep=255 then ([],l) else fA n l (x.deep+1)
    let q:=fA n p.2 deep
    (.mk x.tag x.typ x.num x.text p.1::q.1,q.2)
   else ([],x::l)
theorem DT:∀ (n:Nat) (l:List One) (deep:Int),(fA n l deep).1.length+(fA n l deep).2.length<=l.length/\∃k,(fA n l deep).2=l.drop k
 | 0,l,deep=>by simp only [fA];exact ⟨by simp,0,rfl⟩
 | n+1,[],deep=>by simp only [fA];exact ⟨by simp,0,rfl⟩
 | n+1,x::l,deep=>by
   simp only [fA];split
   ·by_cases hx:x.deep=255
    ·rw [aj hx]
     obtain ⟨h1,k,h2⟩:=DT n l deep;refine ⟨by simp only [iY];omega,k+1,by simp only [h2,Iw]⟩
    ·rw [ah hx]
     obtain ⟨h1,k,h2⟩:=DT n l (x.deep+1);obtain ⟨h3,k',h4⟩:=DT n (fA n l (x.deep+1)).2 deep;refine ⟨by simp only [iY];omega,k+k'+1, ?_⟩;simp only [h4,Iw];rw [h2,nS]
   ·exact ⟨by simp,0,rfl⟩
def Gl (x:One) (l:List aC):GV:=.g [.i .u64 x.tag,.i .i64 x.typ,.i .u64 x.num,.s x.text,.l (aA l)]
theorem OH:∀ (n:Nat) (l:List One) (deep:Int) (acc:List aC),l.length < n->acc.length+l.length<=1000000->(∀x∈l,AO x)->
 TT.lim 29 [.l (l.map one),.i .u8 deep,.l (aA acc)]=some [.i .i64 0,.l ((fA n l deep).2.map one),.l (aA (acc++(fA n l deep).1))]
 | 0,l,deep,acc,hn,_,_=>by omega
 | n+1,[],deep,acc,hn,hb,hl=>by
   refine aG rfl rfl ?_;simp [fA]
 | n+1,x::l,deep,acc,hn,hb,hl=>by
   have hx:=hl x (by simp);have hl':∀y∈l,AO y:=λy hy=>hl y (by simp [hy]);simp only [iY] at hn hb;have hw:=wrap64 (n:=x.typ) (by have:=hx.2.2.1;omega) (by have:=hx.2.2.2.1;omega);have hb2:2 * ((aA acc).length+1) * 64<=281474976710656:=by rw [kQ];omega
   have hb3:(aA acc).length<=281474976710655:=by rw [kQ];omega
   have hcast:((l.length:Int)+1).toNat=l.length+1:=by omega
   have h1:(1:Int)<=(l.length:Int)+1:=by omega
   have htake:List.take l.length (l.map one)=l.map one:=lK (by simp);have hall:∀y∈l.map one,y.cells.length=5:=by
    intro y hy;obtain ⟨z,_,rfl⟩:=kX.1 hy;rfl
   refine aG rfl rfl ?_;by_cases hd:deep<=x.deep
   ·by_cases OQ:x.deep=255
    ·have ih:=OH n l deep (acc++[.mk x.tag x.typ x.num x.text []]) (by omega) (by simp;omega) hl'
     have e:fA (n+1) (x::l) deep=(.mk x.tag x.typ x.num x.text []::(fA n l deep).1,(fA n l deep).2):=by
      simp only [fA,aj hd,aj OQ]
     rw [e];rw [List.append_assoc,Ug] at ih;have e2:aA [aC.mk x.tag x.typ x.num x.text []]=[Gl x []]:=rfl;rw [e2] at ih;have hel:(Gl x []).fO 5=true:=rfl;have hfold:GV.g [.i .u64 x.tag,.i .i64 x.typ,.i .u64 x.num,.s x.text,.l []]=Gl x []:=rfl;have h0:(0:Int) < (l.length:Int)+1:=by omega
     have hd2:deep<=255:=by omega
     simp [hd2,OQ,hw,hfold,hel,hb2,hb3,hall,h0,h1,htake,hcast,ih]
    ·have hf:=DT n l (x.deep+1)
     have ih1:=OH n l (x.deep+1) [] (by omega) (by simp;omega) hl';have hk:TT.lim 28 [.l (l.map one),.i .u8 (x.deep+1)]=some [.l (aA (fA n l (x.deep+1)).1),.l ((fA n l (x.deep+1)).2.map one)]:=by
      refine bD rfl rfl ?_ rfl;have ih1':TT.lim 29 [.l (l.map one),.i .u8 (x.deep+1),.l []]=_:=ih1;simp [ih1']
     have ih2:=OH n (fA n l (x.deep+1)).2 deep (acc++[.mk x.tag x.typ x.num x.text (fA n l (x.deep+1)).1]) (by omega) (by simp;omega) (λy hy=>by
      obtain ⟨_,k,e⟩:=hf;rw [e] at hy;exact hl' y (AL hy))
     have e:fA (n+1) (x::l) deep=(.mk x.tag x.typ x.num x.text (fA n l (x.deep+1)).1::(fA n (fA n l (x.deep+1)).2 deep).1,(fA n (fA n l (x.deep+1)).2 deep).2):=by
      simp only [fA,aj hd,ah OQ]
     rw [e];rw [List.append_assoc,Ug] at ih2;generalize fA n l (x.deep+1)=p at *;obtain ⟨p1,p2⟩:=p;simp only at *;have e2:aA [aC.mk x.tag x.typ x.num x.text p1]=[Gl x p1]:=rfl;rw [e2] at ih2;have hel:(Gl x p1).fO 5=true:=rfl;have hfold:GV.g [.i .u64 x.tag,.i .i64 x.typ,.i .u64 x.num,.s x.text,.l (aA p1)]=Gl x p1:=rfl;have h0:(0:Int) < (l.length:Int)+1:=by omega
     have hw8:=aeY (n:=x.deep+1) (by have:=hx.1;omega) (by have:=hx.2.1;omega);simp [hd,OQ,hw,hw8,hk,hfold,hel,hb2,hb3,hall,h0,h1,htake,hcast,ih2]
   ·have e:fA (n+1) (x::l) deep=([],x::l):=by simp only [fA,ah hd]
    rw [e];have h0:(0:Int) < (l.length:Int)+1:=by omega
    simp [hd,h0]
def qI (l:List One):List aC:=(fA (l.length+1) l 0).1
theorem akA (l:List One) (hl:∀x∈l,AO x) (h60:l.length<=1000000):TT.lim 27 [.l (l.map one)]=some [.l (aA (qI l))]:=by
 have hk:TT.lim 28 [.l (l.map one),.i .u8 0]=some [.l (aA (qI l)),.l ((fA (l.length+1) l 0).2.map one)]:=by
  refine bD rfl rfl ?_ rfl;have ih1:TT.lim 29 [.l (l.map one),.i .u8 0,.l []]=_:=OH (l.length+1) l 0 [] (by omega) (by simp;omega) hl;simp [ih1,qI]
 refine bD rfl rfl ?_ rfl;simp [hk]
structure aJ where
 kind:Int
 id:Int
 min:Int
 max:Int
 chosen:Int
 flags:Int
 cost:Int
 priority:Int
 deadline:Int
 retry:Int
 epoch:Int
 base:Int
 digest:Int
 lag:Int
 code:Int
 want:Int
 remaining:Int
 allowed:Bool
 name:List UInt8
 region:List UInt8
 note:List UInt8
 d:List dw
 t:List Row
/-- A message: what it has, and its rest. -/
def dU (b:aJ) (r:List GV):GV:=.g [.i .i64 b.kind,.i .u64 b.id,.i .u64 b.min,.i .u64 b.max,.i .u64 b.chosen,.i .u64 b.flags,.i .u64 b.cost,.i .u64 b.priority,.i .u64 b.deadline,.i .u64 b.retry,.i .u64 b.epoch,.i .u64 b.base,.i .u64 b.digest,.i .u64 b.lag,.i .u64 b.code,.i .u64 b.want,.i .i64 b.remaining,.b b.allowed,.s b.name,.s b.region,.s b.note,.l (b.d.map ent),.l (b.t.map row),.l r]
theorem jY (b:aJ) (r:List GV):GV.g [.i .i64 b.kind,.i .u64 b.id,.i .u64 b.min,.i .u64 b.max,.i .u64 b.chosen,.i .u64 b.flags,.i .u64 b.cost,.i .u64 b.priority,.i .u64 b.deadline,.i .u64 b.retry,.i .u64 b.epoch,.i .u64 b.base,.i .u64 b.digest,.i .u64 b.lag,.i .u64 b.code,.i .u64 b.want,.i .i64 b.remaining,.b b.allowed,.s b.name,.s b.region,.s b.note,.l (b.d.map ent),.l (b.t.map row),.l r]=dU b r:=rfl
@[simp] theorem xB (b:aJ) (r:List GV):(dU b r).cells=[.i .i64 b.kind,.i .u64 b.id,.i .u64 b.min,.i .u64 b.max,.i .u64 b.chosen,.i .u64 b.flags,.i .u64 b.cost,.i .u64 b.priority,.i .u64 b.deadline,.i .u64 b.retry,.i .u64 b.epoch,.i .u64 b.base,.i .u64 b.digest,.i .u64 b.lag,.i .u64 b.code,.i .u64 b.want,.i .i64 b.remaining,.b b.allowed,.s b.name,.s b.region,.s b.note,.l (b.d.map ent),.l (b.t.map row),.l r]:=rfl
structure qM (b:aJ):Prop where
 kind : -9223372036854775808<=b.kind/\b.kind<=9223372036854775807
 id:0<=b.id/\b.id < 18446744073709551616
 min:0<=b.min/\b.min < 18446744073709551616
 max:0<=b.max/\b.max < 18446744073709551616
 chosen:0<=b.chosen/\b.chosen < 18446744073709551616
 flags:0<=b.flags/\b.flags < 18446744073709551616
 cost:0<=b.cost/\b.cost < 18446744073709551616
 priority:0<=b.priority/\b.priority < 18446744073709551616
 deadline:0<=b.deadline/\b.deadline < 18446744073709551616
 retry:0<=b.retry/\b.retry < 18446744073709551616
 epoch:0<=b.epoch/\b.epoch < 18446744073709551616
 base:0<=b.base/\b.base < 18446744073709551616
 digest:0<=b.digest/\b.digest < 18446744073709551616
 lag:0<=b.lag/\b.lag < 18446744073709551616
 code:0<=b.code/\b.code < 18446744073709551616
 want:0<=b.want/\b.want < 18446744073709551616
 remaining : -9223372036854775808<=b.remaining/\b.remaining<=9223372036854775807
 name:b.name.length<=140737488351232
 region:b.region.length<=140737488351232
 note:b.note.length<=140737488351232
 d:rZ b.d
 t:Rows b.t
def BG (b:aJ) (l:List One):Bool:=decide (b.name.length<=600)&&(decide (b.region.length<=600)&&(decide (b.note.length<=600)&&(gV b.d&&(BD b.t&&sZ l))))
theorem aaK (b:aJ) (l:List One) (hb:qM b) (hl:Ones l):TT.lim 3 [dU b (l.map one)]=some [.b (BG b l)]:=by
 have h12:=aaL b.d hb.d;have h13:=aie b.t hb.t;have h8:=aif l hl.1;have e1:(decide ((b.name.length:Int)<=600))=decide (b.name.length<=600):=by rw [oU];simp;omega
 have e2:(decide ((b.region.length:Int)<=600))=decide (b.region.length<=600):=by rw [oU];simp;omega
 have e3:(decide ((b.note.length:Int)<=600))=decide (b.note.length<=600):=by rw [oU];simp;omega
 refine bD rfl rfl ?_ rfl;unfold BG;generalize gV b.d=c1 at *;generalize BD b.t=c2 at *;generalize sZ l=c3 at *;cases f1:decide (b.name.length<=600) with
 | false=>rw [f1] at e1;simp at e1;have e1':¬ ((b.name.length:Int)<=600):=by omega
          simp [e1']
 | true=>
 rw [f1] at e1;have e1':((b.name.length:Int)<=600):=by simpa using e1
 cases f2:decide (b.region.length<=600) with
 | false=>rw [f2] at e2;simp at e2;have e2':¬ ((b.region.length:Int)<=600):=by omega
          simp [e1',e2']
 | true=>
 rw [f2] at e2;have e2':((b.region.length:Int)<=600):=by simpa using e2
 cases f3:decide (b.note.length<=600) with
 | false=>rw [f3] at e3;simp at e3;have e3':¬ ((b.note.length:Int)<=600):=by omega
          simp [e1',e2',e3']
 | true=>
 rw [f3] at e3;have e3':((b.note.length:Int)<=600):=by simpa using e3
 cases c1<;>cases c2<;>simp [e1',e2',e3',h12,h13,h8]
theorem acj (b:aJ) (l:List One) (hl:Ones l) (hf:sZ l=true):TT.lim 26 [dU b (l.map one)]=some [dU b (aA (qI l))]:=by
 have h8:l.length<=60:=by unfold sZ at hf;rw [aI,decide_eq_true_iff] at hf;exact hf.2
 have hm:=akA l hl.2 (by omega);refine bD rfl rfl ?_ rfl;simp [hm,jY]
theorem Uy {k:IntKind} {g:GV} (h:(bG.int k).has g):∃n,g=.i k n/\k.min<=n/\n<=k.max:=by
 simp only [bG.has] at h;exact h
theorem abj {g:GV} (h:(bG.int .i64).has g):∃n,g=.i .i64 n/\-9223372036854775808<=n/\n<=9223372036854775807:=by
 obtain ⟨n,rfl,h1,h2⟩:=Uy h;exact ⟨n,rfl,by simpa [IntKind.min,IntKind.signed,IntKind.bits] using h1,by simpa [IntKind.max,IntKind.signed,IntKind.bits] using h2⟩
theorem aiV {g:GV} (h:bG.bool.has g):∃b,g=.b b:=by simpa only [bG.has] using h
theorem ahE {g:GV} (h:(bG.list true [.str,.str]).has g):∃l:List dw,rZ l/\g=.l (l.map ent):=by
 obtain ⟨xs,rfl,h1,h2⟩:=JG h;obtain ⟨rs,h3,rfl⟩:=GN (f:=ent) (p:=λr:dw=>r.1.length<=140737488351232/\r.2.length<=140737488351232) λx hx=>by
  obtain ⟨h4,h5⟩:=h2 x hx;cases x<;>simp [GV.scalar] at h5
  next cs=>
  simp only [S9] at h4;obtain ⟨a,r,rfl,ha,h4⟩:=iy h4;obtain ⟨c,r,rfl,hc,h4⟩:=iy h4;obtain rfl:=Gv h4;obtain ⟨u,rfl,hu⟩:=zN ha;obtain ⟨v,rfl,hv⟩:=zN hc;exact ⟨(u,v),⟨hu,hv⟩,rfl⟩
 exact ⟨rs,⟨by rw [kM] at h1;exact h1,h3⟩,rfl⟩
theorem ale {g:GV} (h:(bG.list true [.int .u8,.int .u64,.int .i8,.int .u64,.str]).has g):∃l:List One,Ones l/\g=.l (l.map one):=by
 obtain ⟨xs,rfl,h1,h2⟩:=JG h;obtain ⟨rs,h3,rfl⟩:=GN (f:=one) (p:=AO) λx hx=>by
  obtain ⟨h4,h5⟩:=h2 x hx;cases x<;>simp [GV.scalar] at h5
  next cs=>
  simp only [S9] at h4;obtain ⟨a,r,rfl,ha,h4⟩:=iy h4;obtain ⟨c,r,rfl,hc,h4⟩:=iy h4;obtain ⟨e,r,rfl,he,h4⟩:=iy h4;obtain ⟨f,r,rfl,hf,h4⟩:=iy h4;obtain ⟨s,r,rfl,hs,h4⟩:=iy h4;obtain rfl:=Gv h4;obtain ⟨a,rfl,a1,a2⟩:=Uy ha;obtain ⟨c,rfl,c1,c2⟩:=oJ hc;obtain ⟨e,rfl,e1,e2⟩:=Uy he;obtain ⟨f,rfl,f1,f2⟩:=oJ hf;obtain ⟨s,rfl,hs0⟩:=zN hs;have a1':0<=a:=by simpa [IntKind.min,IntKind.signed] using a1
  have a2':a<=255:=by simpa [IntKind.max,IntKind.signed,IntKind.bits] using a2
  have e1' : -128<=e:=by simpa [IntKind.min,IntKind.signed,IntKind.bits] using e1
  have e2':e<=127:=by simpa [IntKind.max,IntKind.signed,IntKind.bits] using e2
  exact ⟨⟨a,c,e,f,s⟩,⟨a1',a2',e1',e2',c1,c2,f1,f2,hs0⟩,rfl⟩
 exact ⟨rs,⟨by rw [kM] at h1;exact h1,h3⟩,rfl⟩
abbrev Xh:List bG:=[.int .i64,.int .u64,.int .u64,.int .u64,.int .u64,.int .u64,.int .u64,.int .u64,.int .u64,.int .u64,.int .u64,.int .u64,.int .u64,.int .u64,.int .u64,.int .u64,.int .i64,.bool,.str,.str,.str,.list true [.str,.str],.list true [.list true [.str,.str],.int .u64],.list true [.int .u8,.int .u64,.int .i8,.int .u64,.str]]
theorem adz {cs:List GV} (h:bG.iw Xh cs):∃b l,qM b/\Ones l/\GV.g cs=dU b (l.map one):=by
 obtain ⟨_,_,rfl,h1,g0⟩:=iy h;obtain ⟨x0,rfl,k0⟩:=abj h1;obtain ⟨_,_,rfl,h1,g1⟩:=iy g0;obtain ⟨x1,rfl,k1⟩:=oJ h1;obtain ⟨_,_,rfl,h1,g2⟩:=iy g1;obtain ⟨x2,rfl,k2⟩:=oJ h1;obtain ⟨_,_,rfl,h1,g3⟩:=iy g2;obtain ⟨x3,rfl,k3⟩:=oJ h1;obtain ⟨_,_,rfl,h1,g4⟩:=iy g3;obtain ⟨x4,rfl,k4⟩:=oJ h1;obtain ⟨_,_,rfl,h1,g5⟩:=iy g4;obtain ⟨x5,rfl,k5⟩:=oJ h1;obtain ⟨_,_,rfl,h1,g6⟩:=iy g5;obtain ⟨x6,rfl,k6⟩:=oJ h1;obtain ⟨_,_,rfl,h1,g7⟩:=iy g6;obtain ⟨x7,rfl,k7⟩:=oJ h1;obtain ⟨_,_,rfl,h1,g8⟩:=iy g7;obtain ⟨x8,rfl,k8⟩:=oJ h1;obtain ⟨_,_,rfl,h1,g9⟩:=iy g8;obtain ⟨x9,rfl,k9⟩:=oJ h1;obtain ⟨_,_,rfl,h1,g10⟩:=iy g9;obtain ⟨x10,rfl,k10⟩:=oJ h1;obtain ⟨_,_,rfl,h1,g11⟩:=iy g10;obtain ⟨x11,rfl,k11⟩:=oJ h1;obtain ⟨_,_,rfl,h1,g12⟩:=iy g11;obtain ⟨x12,rfl,k12⟩:=oJ h1;obtain ⟨_,_,rfl,h1,g13⟩:=iy g12;obtain ⟨x13,rfl,k13⟩:=oJ h1;obtain ⟨_,_,rfl,h1,g14⟩:=iy g13;obtain ⟨x14,rfl,k14⟩:=oJ h1;obtain ⟨_,_,rfl,h1,g15⟩:=iy g14;obtain ⟨x15,rfl,k15⟩:=oJ h1;obtain ⟨_,_,rfl,h1,g16⟩:=iy g15;obtain ⟨x16,rfl,k16⟩:=abj h1;obtain ⟨_,_,rfl,h1,g17⟩:=iy g16;obtain ⟨x17,rfl⟩:=aiV h1;obtain ⟨_,_,rfl,h1,g18⟩:=iy g17;obtain ⟨x18,rfl,k18⟩:=zN h1;obtain ⟨_,_,rfl,h1,g19⟩:=iy g18;obtain ⟨x19,rfl,k19⟩:=zN h1;obtain ⟨_,_,rfl,h1,g20⟩:=iy g19;obtain ⟨x20,rfl,k20⟩:=zN h1;obtain ⟨_,_,rfl,h1,g21⟩:=iy g20;obtain ⟨x21,k21,rfl⟩:=ahE h1;obtain ⟨_,_,rfl,h1,g22⟩:=iy g21;obtain ⟨x22,k22,rfl⟩:=anl h1;obtain ⟨_,_,rfl,h1,g23⟩:=iy g22;obtain ⟨x23,k23,rfl⟩:=ale h1;obtain rfl:=Gv g23;exact ⟨⟨x0,x1,x2,x3,x4,x5,x6,x7,x8,x9,x10,x11,x12,x13,x14,x15,x16,x17,x18,x19,x20,x21,x22⟩,x23,⟨k0,k1,k2,k3,k4,k5,k6,k7,k8,k9,k10,k11,k12,k13,k14,k15,k16,k18,k19,k20,k21,k22⟩,k23,rfl⟩
structure bJ where
 tag:Int
 use:Int
 from_:Int
 name:List UInt8
def dG (s:bJ):GV:=.g [.i .u64 s.tag,.i .i64 s.use,.i .i64 s.from_,.s s.name]
@[simp] theorem asO (s:bJ):(dG s).cells=[.i .u64 s.tag,.i .i64 s.use,.i .i64 s.from_,.s s.name]:=rfl
theorem aoI (s:bJ):GV.g [.i .u64 s.tag,.i .i64 s.use,.i .i64 s.from_,.s s.name]=dG s:=rfl
def sp1:List bJ:=[⟨1,0,1,[109,105,110]⟩,⟨2,0,1,[109,97,120]⟩,⟨3,3,1,[110,97,109,101]⟩,⟨4,3,2,[114,101,103,105,111,110]⟩,⟨5,0,3,[102,108,97,103,115]⟩]
def sp2:List bJ:=[⟨1,0,1,[99,104,111,115,101,110]⟩,⟨2,3,1,[110,97,109,101]⟩,⟨3,3,2,[114,101,103,105,111,110]⟩]
def pY:List bJ:=[⟨1,0,1,[105,100]⟩,⟨2,4,1,[100,101,115,99,114]⟩,⟨3,0,1,[99,111,115,116]⟩,⟨4,0,2,[112,114,105,111,114,105,116,121]⟩,⟨5,0,3,[100,101,97,100,108,105,110,101]⟩]
def yO:List bJ:=[⟨1,0,1,[105,100]⟩,⟨2,1,1,[97,108,108,111,119,101,100]⟩,⟨3,2,1,[114,101,109,97,105,110,105,110,103]⟩,⟨4,0,2,[114,101,116,114,121]⟩,⟨5,3,3,[110,111,116,101]⟩]
def qg:List bJ:=[⟨1,0,1,[101,112,111,99,104]⟩,⟨2,5,1,[116,97,98,108,101]⟩,⟨3,3,2,[114,101,103,105,111,110]⟩,⟨4,0,3,[100,105,103,101,115,116]⟩]
def qh:List bJ:=[⟨1,0,2,[98,97,115,101]⟩,⟨2,0,2,[101,112,111,99,104]⟩,⟨3,5,2,[116,97,98,108,101]⟩,⟨4,3,2,[114,101,103,105,111,110]⟩,⟨5,0,3,[100,105,103,101,115,116]⟩]
def yP:List bJ:=[⟨1,0,1,[101,112,111,99,104]⟩,⟨2,0,3,[108,97,103]⟩]
def yQ:List bJ:=[⟨1,0,1,[101,112,111,99,104]⟩,⟨2,0,1,[99,111,100,101]⟩,⟨3,0,2,[119,97,110,116]⟩,⟨4,3,3,[110,111,116,101]⟩]
def kU (k:Int):List bJ:=if k=1 then sp1 else if k=2 then sp2 else if k=3 then pY else if k=4 then yO else if k=5 then qg else if k=6 then qh else if k=7 then yP else if k=8 then yQ else []
def iV (k:Int):Int:=if k=1 then 1 else if k=2 then 1 else if k=3 then 1 else if k=4 then 1 else if k=5 then 1 else if k=6 then 2 else if k=7 then 1 else if k=8 then 1 else 0
def aB (k v:Int):List bJ:=(kU k).filter λs=>decide (s.from_<=v)
theorem ai4:TT.lim 35 []=some [.l (sp1.map dG)]:=by refine bD rfl rfl ?_ rfl;simp [sp1,dG]
theorem ai3:TT.lim 37 []=some [.l (sp2.map dG)]:=by refine bD rfl rfl ?_ rfl;simp [sp2,dG]
theorem af4:TT.lim 38 []=some [.l (pY.map dG)]:=by refine bD rfl rfl ?_ rfl;simp [pY,dG]
theorem af5:TT.lim 39 []=some [.l (yO.map dG)]:=by refine bD rfl rfl ?_ rfl;simp [yO,dG]
theorem aiy:TT.lim 40 []=some [.l (qg.map dG)]:=by refine bD rfl rfl ?_ rfl;simp [qg,dG]
theorem ahs:TT.lim 41 []=some [.l (qh.map dG)]:=by refine bD rfl rfl ?_ rfl;simp [qh,dG]
theorem afq:TT.lim 42 []=some [.l (yP.map dG)]:=by refine bD rfl rfl ?_ rfl;simp [yP,dG]
theorem anh:TT.lim 43 []=some [.l (yQ.map dG)]:=by refine bD rfl rfl ?_ rfl;simp [yQ,dG]
theorem O9 (k:Int):TT.lim 33 [.i .i64 k]=some [.i .i64 (iV k)]:=by
 refine bD rfl rfl ?_ rfl;unfold iV;by_cases h1:k=1
 ·simp [h1]
 by_cases h2:k=2
 ·simp [h2]
 by_cases h3:k=3
 ·simp [h3]
 by_cases h4:k=4
 ·simp [h4]
 by_cases h5:k=5
 ·simp [h5]
 by_cases h6:k=6
 ·simp [h6]
 by_cases h7:k=7
 ·simp [h7]
 by_cases h8:k=8
 ·simp [h8]
 simp [h1,h2,h3,h4,h5,h6,h7,h8]
theorem U9 (v:Int) (l:List bJ) (hl:l.length<=8):∀ (m i:Nat) (acc:List bJ),i+m=l.length->acc.length<=i->
 TT.lim 36 [.i .i64 v,.l (acc.map dG),.l (l.map dG),.i .i64 l.length,.i .i64 i]=some [.i .i64 0,.l ((acc++(l.drop i).filter λs=>decide (s.from_<=v)).map dG)]
 | 0,i,acc,hi,ha=>by
   have h0:l.drop i=[]:=gY (by omega);refine aG rfl rfl ?_;have h:¬ ((i:Int) < l.length):=by omega
   simp [h,h0]
 | m+1,i,acc,hi,ha=>by
   have hlt:i < l.length:=by omega
   have hd:=jw hlt;refine aG rfl rfl ?_;have h:((i:Int) < l.length):=by omega
   have hw:=wrap64 (n:=(i:Int)+1) (by omega) (by omega);have hb1:2 * (acc.length+1) * 40<=281474976710656:=by omega
   have hb2:acc.length<=281474976710655:=by omega
   have hok:(dG l[i]).fO 4=true:=rfl;have hcast:((i:Int)+1)=((i+1:Nat):Int):=by omega
   by_cases hf:l[i].from_<=v
   ·have ih:=U9 v l hl m (i+1) (acc++[l[i]]) (by omega) (by simp;omega)
    rw [<- hcast,sD] at ih;simp only [iQ,uD] at ih;simp [-List.getElem_cons_drop,h,hlt,hf,hw,aoI,hb1,hb2,hok,ih,hd]
   ·have ih:=U9 v l hl m (i+1) acc (by omega) (by omega)
    rw [<- hcast] at ih;simp [-List.getElem_cons_drop,h,hlt,hf,hw,ih,hd]
theorem aoH (k:Int):(kU k).length<=8:=by
 unfold kU;repeat' split
 all_goals (first | (unfold sp1;decide) | (unfold sp2;decide) | (unfold pY;decide) | (unfold yO;decide) | (unfold qg;decide) | (unfold qh;decide) | (unfold yP;decide) | (unfold yQ;decide) | decide)
theorem BN (v:Int) (l:List bJ) (hl:l.length<=8):TT.lim 36 [.i .i64 v,.l [],.l (l.map dG),.i .i64 l.length,.i .i64 0]=some [.i .i64 0,.l ((l.filter λs=>decide (s.from_<=v)).map dG)]:=by
 have:=U9 v l hl l.length 0 [] (by omega) (by simp);simpa using this
theorem JX (k v:Int) (h1:1<=v) (h3:v<=3) (hk:iV k<=v):TT.lim 34 [.i .i64 k,.i .i64 v]=some [.l ((aB k v).map dG)]:=by
 have a1:¬ v < 1:=by omega
 have a3:¬ 3 < v:=by omega
 unfold aB kU;unfold iV at hk;have g1:=BN v sp1 (by decide);have g2:=BN v sp2 (by decide);have g3:=BN v pY (by decide);have g4:=BN v yO (by decide);have g5:=BN v qg (by decide);have g6:=BN v qh (by decide);have g7:=BN v yP (by decide);have g8:=BN v yQ (by decide);have e1:=ai4;have e2:=ai3;have e3:=af4;have e4:=af5;have e5:=aiy;have e6:=ahs;have e7:=afq;have e8:=anh;generalize sp1=p1 at *;generalize sp2=p2 at *;generalize pY=p3 at *;generalize yO=p4 at *;generalize qg=p5 at *;generalize qh=p6 at *;generalize yP=p7 at *;generalize yQ=p8 at *;refine bD rfl rfl ?_ rfl;by_cases k1:k=1
 ·simp [k1,a1,a3,e1,g1]
 by_cases k2:k=2
 ·simp [k2,a1,a3,e2,g2]
 by_cases k3:k=3
 ·simp [k3,a1,a3,e3,g3]
 by_cases k4:k=4
 ·simp [k4,a1,a3,e4,g4]
 by_cases k5:k=5
 ·simp [k5,a1,a3,e5,g5]
 by_cases k6:k=6
 ·have a2:¬ v < 2:=by subst k6;simpa using hk
  simp [k6,a1,a2,a3,e6,g6]
 by_cases k7:k=7
 ·simp [k7,a1,a3,e7,g7]
 by_cases k8:k=8
 ·simp [k8,a1,a3,e8,g8]
 simp [k1,k2,k3,k4,k5,k6,k7,k8]
theorem Pj (k v:Int) (h1:1<=v) (h3:v<=3):aB k v=[]↔iV k=0\/v < iV k:=by
 have hv:v=1\/v=2\/v=3:=by omega
 unfold aB kU iV;by_cases k1:k=1
 ·subst k1;rcases hv with rfl | rfl | rfl<;>decide
 by_cases k2:k=2
 ·subst k2;rcases hv with rfl | rfl | rfl<;>decide
 by_cases k3:k=3
 ·subst k3;rcases hv with rfl | rfl | rfl<;>decide
 by_cases k4:k=4
 ·subst k4;rcases hv with rfl | rfl | rfl<;>decide
 by_cases k5:k=5
 ·subst k5;rcases hv with rfl | rfl | rfl<;>decide
 by_cases k6:k=6
 ·subst k6;rcases hv with rfl | rfl | rfl<;>decide
 by_cases k7:k=7
 ·subst k7;rcases hv with rfl | rfl | rfl<;>decide
 by_cases k8:k=8
 ·subst k8;rcases hv with rfl | rfl | rfl<;>decide
 simp [k1,k2,k3,k4,k5,k6,k7,k8]
def aC.tag:aC->Int
 | .mk t _ _ _ _=>t
theorem yB:∀ (a:List aC),aA a=a.map l7
 | []=>rfl
 | f::a=>by simp only [aA,iQ,yB a]
mutual
def oN:aC->Nat
 | .mk _ _ _ _ l=>bH l+1
def bH:List aC->Nat
 | []=>0
 | f::l=>oN f+bH l+1
end
mutual
def nX:aC->Prop
 | .mk t y n s k=>(0<=t/\t < 18446744073709551616/\-128<=y/\y<=127/\0<=n/\n < 18446744073709551616/\s.length<=100000000/\k.length<=1000000)/\bY k
def bY:List aC->Prop
 | []=>True
 | f::r=>nX f/\bY r
end
theorem BI:∀ {l:List aC},bY l->∀f∈l,nX f
 | f::l,h,g,hg=>by
   simp only [bY] at h;rcases bU.1 hg with rfl | hg
   ·exact h.1
   ·exact BI h.2 g hg
theorem QU:∀ {l:List aC} {f:aC},f∈l->oN f < bH l
 | g::l,f,h=>by
   simp only [bH];rcases bU.1 h with rfl | h
   ·omega
   ·have:=QU h;omega
mutual
/-- What is wrong with fields within so many lists, behind a tag. -/
def vP (w:Nat):aC->Int
 | .mk _ y n s k=>if y=0 then (if s=[]/\k=[] then 0 else 8) else if y=1 then (if n=0/\k=[] then 0 else 8) else if y=2 then (if n=0/\s=[] then (if 8<=w then 9 else iM (w+1) 0 k) else 8) else 8
def iM (w:Nat) (ahead:Int):List aC->Int
 | []=>0
 | f::r=>if f.tag=0 then 18 else if 4294967296 < f.tag then 18 else if f.tag<=ahead then 7 else if vP w f≠0 then vP w f else iM w f.tag r
end
@[simp] theorem Gm (t y n:Int) (s:List UInt8) (k:List aC):(l7 (.mk t y n s k)).cells=[.i .u64 t,.i .i64 y,.i .u64 n,.s s,.l (aA k)]:=by simp only [l7];rfl
theorem ais (k:List aC):(aA k).length=0↔k=[]:=by rw [kQ,List.length_eq_zero_iff]
theorem aaJ:∀ (N:Nat) (l:List aC),bH l < N->bY l->l.length<=1000000->∀w:Nat,w<=8->TT.lim 72 [.l (aA l),.i .i64 w]=some [.i .i64 (iM w 0 l)]
 | 0,l,h,_,_,_,_=>by omega
 | N+1,l,hN,hok,hlen,w,hw8=>by
   have loop:∀m i (ahead:Int),i+m=l.length->TT.lim 73 [.i .i64 w,.i .u64 ahead,.l (aA l),.i .i64 l.length,.i .i64 i]=some (if iM w ahead (l.drop i)=0 then [.i .i64 1] else [.i .i64 0,.i .i64 (iM w ahead (l.drop i))]):=by
    intro m;induction m with
    | zero=>
      intro i ahead hi;have h0:l.drop i=[]:=gY (by omega);refine aG rfl rfl ?_;have h:¬ ((i:Int) < l.length):=by omega
      simp [h,h0,iM]
    | succ m ih=>
      intro i ahead hi;have hlt:i < l.length:=by omega
      rw [jw hlt];have hf:=BI hok l[i] (je hlt);have hs:=QU (je hlt);have hget:(aA l)[i]? = some (l7 l[i]):=by rw [yB,iq,bP hlt];rfl
      have hcast:((i:Int)+1)=((i+1:Nat):Int):=by omega
      have ih':=λa=>ih (i+1) a (by omega);simp only [<- hcast] at ih';generalize l[i]=f at *;obtain ⟨t,y,n,s,k⟩:=f;simp only [nX] at hf;simp only [oN] at hs;have hwr:=wrap64 (n:=(i:Int)+1) (by omega) (by omega);have UU:=wrap64 (n:=(w:Int)+1) (by omega) (by omega);refine aG rfl rfl ?_;have h:((i:Int) < l.length):=by omega
      have hk:=λh=>aaJ N k (by omega) hf.2 hf.1.2.2.2.2.2.2.2 (w+1) h;simp only [AA,Int.natCast_one] at hk;have hkl:((aA k).length=0)=(k=[]):=propext (ais k);simp only [iM,aC.tag];by_cases h1:t=0
      ·simp [h,hget,h1]
      by_cases h2:4294967296 < t
      ·simp [h,hget,h1,h2]
      by_cases h3:t<=ahead
      ·simp [h,hget,h1,h2,h3]
      simp only [vP];by_cases h4:y=0
      ·subst h4
       by_cases h5:s=[]
       ·by_cases h6:k=[]
        ·simp [h,hget,h1,h2,h3,h5,h6,hwr,ih',aA]
        ·simp [h,hget,h1,h2,h3,h5,h6,hwr,ih',hkl]
       ·simp [h,hget,h1,h2,h3,h5]
      by_cases h7:y=1
      ·subst h7
       by_cases h5:n=0
       ·by_cases h6:k=[]
        ·simp [h,hget,h1,h2,h3,h5,h6,hwr,ih',aA]
        ·simp [h,hget,h1,h2,h3,h5,h6,hwr,ih',hkl]
       ·simp [h,hget,h1,h2,h3,h5]
      by_cases h8:y=2
      ·subst h8
       by_cases h5:n=0
       ·by_cases h6:s=[]
        ·by_cases h9:8<=w
         ·have OT:(8:Int)<=w:=by omega
          simp [h,hget,h1,h2,h3,h5,h6,h9,OT]
         ·have OT:¬ (8:Int)<=w:=by omega
          have hk:=hk (by omega);by_cases h10:iM (w+1) 0 k=0
          ·rw [h10] at hk
           simp [h,hget,h1,h2,h3,h5,h6,h9,OT,UU,hk,h10,hwr,ih',aC.tag]
          ·simp [h,hget,h1,h2,h3,h5,h6,h9,OT,UU,hk,h10,hwr,ih',aC.tag]
        ·simp [h,hget,h1,h2,h3,h5,h6]
       ·simp [h,hget,h1,h2,h3,h5]
      simp [h,hget,h1,h2,h3,h4,h7,h8]
   have h0:=loop l.length 0 0 (by omega);rw [eH] at h0;refine bD rfl rfl ?_ rfl;have hl2:=kQ l;by_cases hc:iM w 0 l=0
   ·rw [aj hc] at h0
    have h0':TT.lim 73 [.i .i64 w,.i .u64 0,.l (aA l),.i .i64 (aA l).length,.i .i64 0]=some [.i .i64 1]:=by rw [hl2];exact h0
    simp [h0',hc]
   ·rw [ah hc] at h0
    have h0':TT.lim 73 [.i .i64 w,.i .u64 0,.l (aA l),.i .i64 (aA l).length,.i .i64 0]=some [.i .i64 0,.i .i64 (iM w 0 l)]:=by rw [hl2];exact h0
    simp [h0',hc]
theorem Ot (l:List aC) (hok:bY l) (hlen:l.length<=1000000):TT.lim 71 [.l (aA l)]=some [.i .i64 (iM 0 0 l)]:=by
 have h:=aaJ (bH l+1) l (by omega) hok hlen 0 (by omega);have h':TT.lim 72 [.l (aA l),.i .i64 0]=_:=h;refine bD rfl rfl ?_ rfl;simp [h']
inductive Pl where
 | rem | allow | name | region | note | d | t
 | num (k:Nat)
def KE:List UInt8:=[114,101,109,97,105,110,105,110,103]
def J7:List UInt8:=[97,108,108,111,119,101,100]
def GY:List UInt8:=[110,97,109,101]
def G5:List UInt8:=[114,101,103,105,111,110]
def GZ:List UInt8:=[110,111,116,101]
def Kt:List UInt8:=[100,101,115,99,114]
def KG:List UInt8:=[116,97,98,108,101]
def Ky:List UInt8:=[105,100]
def KC:List UInt8:=[109,105,110]
def KA:List UInt8:=[109,97,120]
def J9:List UInt8:=[99,104,111,115,101,110]
def Kw:List UInt8:=[102,108,97,103,115]
def Kq:List UInt8:=[99,111,115,116]
def KD:List UInt8:=[112,114,105,111,114,105,116,121]
def Kr:List UInt8:=[100,101,97,100,108,105,110,101]
def KF:List UInt8:=[114,101,116,114,121]
def Kv:List UInt8:=[101,112,111,99,104]
def J8:List UInt8:=[98,97,115,101]
def Ku:List UInt8:=[100,105,103,101,115,116]
def Kz:List UInt8:=[108,97,103]
def Ko:List UInt8:=[99,111,100,101]
def KH:List UInt8:=[119,97,110,116]
def placeOf (n:List UInt8):Option Pl:=
 if n=KE then some .rem else if n=J7 then some .allow else if n=GY then some .name else if n=G5 then some .region else if n=GZ then some .note else if n=Kt then some .d else if n=KG then some .t else if n=Ky then some (.num 0) else if n=KC then some (.num 1) else if n=KA then some (.num 2) else if n=J9 then some (.num 3) else if n=Kw then some (.num 4) else if n=Kq then some (.num 5) else if n=KD then some (.num 6) else if n=Kr then some (.num 7) else if n=KF then some (.num 8) else if n=Kv then some (.num 9) else if n=J8 then some (.num 10) else if n=Ku then some (.num 11) else if n=Kz then some (.num 12) else if n=Ko then some (.num 13) else if n=KH then some (.num 14) else none
theorem ama:placeOf KE=some .rem:=rfl
theorem alU:placeOf J7=some .allow:=rfl
theorem ada:placeOf GY=some .name:=rfl
theorem ade:placeOf G5=some .region:=rfl
theorem adb:placeOf GZ=some .note:=rfl
theorem al0:placeOf Kt=some .d:=rfl
theorem amc:placeOf KG=some .t:=rfl
theorem al4:placeOf Ky=some (.num 0):=rfl
theorem al7:placeOf KC=some (.num 1):=rfl
theorem al6:placeOf KA=some (.num 2):=rfl
theorem alW:placeOf J9=some (.num 3):=rfl
theorem al3:placeOf Kw=some (.num 4):=rfl
theorem alY:placeOf Kq=some (.num 5):=rfl
theorem al9:placeOf KD=some (.num 6):=rfl
theorem alZ:placeOf Kr=some (.num 7):=rfl
theorem amb:placeOf KF=some (.num 8):=rfl
theorem al2:placeOf Kv=some (.num 9):=rfl
theorem alV:placeOf J8=some (.num 10):=rfl
theorem al1:placeOf Ku=some (.num 11):=rfl
theorem al5:placeOf Kz=some (.num 12):=rfl
theorem alX:placeOf Ko=some (.num 13):=rfl
theorem amd:placeOf KH=some (.num 14):=rfl
def jG (b:aJ) (k:Nat):Int:=match k with
 | 0=>b.id
 | 1=>b.min
 | 2=>b.max
 | 3=>b.chosen
 | 4=>b.flags
 | 5=>b.cost
 | 6=>b.priority
 | 7=>b.deadline
 | 8=>b.retry
 | 9=>b.epoch
 | 10=>b.base
 | 11=>b.digest
 | 12=>b.lag
 | 13=>b.code
 | _=>b.want
def fB (b:aJ):Pl->Bool
 | .rem=>decide (b.remaining=0)
 | .allow=>!b.allowed
 | .name=>decide (b.name=[])
 | .region=>decide (b.region=[])
 | .note=>decide (b.note=[])
 | .d=>decide (b.d=[])
 | .t=>decide (b.t=[])
 | .num k=>decide (jG b k=0)
def lF (b:aJ) (n:List UInt8):Bool:=match placeOf n with
 | some p=>fB b p
 | none=>true
def jo (b:aJ):Pl->Int
 | .name=>ql b.name 0 256
 | .region=>ql b.region 0 256
 | .note=>ql b.note 0 256
 | .d=>if b.d=[] then 0 else uP b.d
 | .t=>sU b.t
 | _=>0
def tX (b:aJ) (n:List UInt8):Int:=match placeOf n with
 | some p=>jo b p
 | none=>0
def zz (x:Int):Int:=if 0<=x then 2 * x else -2 * x - 1
def aK (b:aJ):Pl->Int×List UInt8
 | .rem=>(zz b.remaining,[])
 | .allow=>(if b.allowed=true then 1 else 0,[])
 | .name=>(0,b.name)
 | .region=>(0,b.region)
 | .note=>(0,b.note)
 | .d=>(0,if b.d=[] then [] else iC b.d)
 | .t=>(0,if b.t=[] then [] else (vX b.t).1)
 | .num k=>(jG b k,[])
def bF:Pl->Int
 | .num _=>0
 | .rem=>0
 | .allow=>0
 | _=>1
def apB:Pl->Int
 | .num _=>0
 | .allow=>1
 | .rem=>2
 | .d=>4
 | .t=>5
 | _=>3
def nameOf:Pl->List UInt8
 | .rem=>KE
 | .allow=>J7
 | .name=>GY
 | .region=>G5
 | .note=>GZ
 | .d=>Kt
 | .t=>KG
 | .num k=>match k with
   | 0=>Ky
   | 1=>KC
   | 2=>KA
   | 3=>J9
   | 4=>Kw
   | 5=>Kq
   | 6=>KD
   | 7=>Kr
   | 8=>KF
   | 9=>Kv
   | 10=>J8
   | 11=>Ku
   | 12=>Kz
   | 13=>Ko
   | _=>KH
def nJ:Pl->Prop
 | .num k=>k < 15
 | _=>True
theorem ajT {c:Prop} [Decidable c] {a b:Option Pl} {p:Pl} (h:(if c then a else b)=some p):(c/\a=some p)\/(¬ c/\b=some p):=by
 by_cases e:c
 ·rw [aj e] at h
  exact .inl ⟨e,h⟩
 ·rw [ah e] at h
  exact .inr ⟨e,h⟩
theorem mJ (n:List UInt8) (p:Pl) (h:placeOf n=some p):n=nameOf p/\nJ p/\n∈dF:=by
 unfold placeOf at h
 iterate 22
  replace h:=ajT h
  rcases h with ⟨e,h⟩ | ⟨-,h⟩
  ·cases h
   subst e;exact ⟨rfl,by first | exact trivial | exact (show _ < 15 by decide),by decide⟩
 cases h
theorem Qc {a b:List UInt8} {p:Pl} (ha:placeOf a=some p) (hb:placeOf b=some p):a=b:=by rw [(mJ a p ha).1,(mJ b p hb).1]
theorem ajS {n m:List UInt8} {p q:Pl} (hp:placeOf n=some p) (hq:placeOf m=some q):(n=m)=(p=q):=
 propext ⟨λe=>by subst e;rw [hp] at hq;cases hq;rfl,λe=>by subst e;exact Qc hp hq⟩
theorem JQ {n:List UInt8} {p:Pl} (hp:placeOf n=some p):((n=[114,101,109,97,105,110,105,110,103])=(p=.rem))/\((n=[97,108,108,111,119,101,100])=(p=.allow))/\((n=[110,97,109,101])=(p=.name))/\((n=[114,101,103,105,111,110])=(p=.region))/\((n=[110,111,116,101])=(p=.note))/\((n=[100,101,115,99,114])=(p=.d))/\((n=[116,97,98,108,101])=(p=.t))/\((n=[105,100])=(p=.num 0))/\((n=[109,105,110])=(p=.num 1))/\((n=[109,97,120])=(p=.num 2))/\((n=[99,104,111,115,101,110])=(p=.num 3))/\((n=[102,108,97,103,115])=(p=.num 4))/\((n=[99,111,115,116])=(p=.num 5))/\((n=[112,114,105,111,114,105,116,121])=(p=.num 6))/\((n=[100,101,97,100,108,105,110,101])=(p=.num 7))/\((n=[114,101,116,114,121])=(p=.num 8))/\((n=[101,112,111,99,104])=(p=.num 9))/\((n=[98,97,115,101])=(p=.num 10))/\((n=[100,105,103,101,115,116])=(p=.num 11))/\((n=[108,97,103])=(p=.num 12))/\((n=[99,111,100,101])=(p=.num 13))/\((n=[119,97,110,116])=(p=.num 14)):=by
 and_intros<;>exact ajS hp rfl
theorem abL {n:List UInt8} (h:placeOf n=none):((n=[114,101,109,97,105,110,105,110,103])=False)/\((n=[97,108,108,111,119,101,100])=False)/\((n=[110,97,109,101])=False)/\((n=[114,101,103,105,111,110])=False)/\((n=[110,111,116,101])=False)/\((n=[100,101,115,99,114])=False)/\((n=[116,97,98,108,101])=False)/\((n=[105,100])=False)/\((n=[109,105,110])=False)/\((n=[109,97,120])=False)/\((n=[99,104,111,115,101,110])=False)/\((n=[102,108,97,103,115])=False)/\((n=[99,111,115,116])=False)/\((n=[112,114,105,111,114,105,116,121])=False)/\((n=[100,101,97,100,108,105,110,101])=False)/\((n=[114,101,116,114,121])=False)/\((n=[101,112,111,99,104])=False)/\((n=[98,97,115,101])=False)/\((n=[100,105,103,101,115,116])=False)/\((n=[108,97,103])=False)/\((n=[99,111,100,101])=False)/\((n=[119,97,110,116])=False):=by
 and_intros<;>exact eq_false λe=>by subst e;exact absurd h (by decide)
theorem Hq {Q:(p:Pl)->nJ p->Prop} (h0:Q (.rem) trivial) (h1:Q (.allow) trivial) (h2:Q (.name) trivial) (h3:Q (.region) trivial) (h4:Q (.note) trivial) (h5:Q (.d) trivial) (h6:Q (.t) trivial) (h7:Q (.num 0) (show 0 < 15 by decide)) (h8:Q (.num 1) (show 1 < 15 by decide)) (h9:Q (.num 2) (show 2 < 15 by decide)) (h10:Q (.num 3) (show 3 < 15 by decide)) (h11:Q (.num 4) (show 4 < 15 by decide)) (h12:Q (.num 5) (show 5 < 15 by decide)) (h13:Q (.num 6) (show 6 < 15 by decide)) (h14:Q (.num 7) (show 7 < 15 by decide)) (h15:Q (.num 8) (show 8 < 15 by decide)) (h16:Q (.num 9) (show 9 < 15 by decide)) (h17:Q (.num 10) (show 10 < 15 by decide)) (h18:Q (.num 11) (show 11 < 15 by decide)) (h19:Q (.num 12) (show 12 < 15 by decide)) (h20:Q (.num 13) (show 13 < 15 by decide)) (h21:Q (.num 14) (show 14 < 15 by decide)) (p:Pl) (hp:nJ p):Q p hp:=by
 cases p with
 | num k=>
   simp only [nJ] at hp;rcases (show k=0\/k=1\/k=2\/k=3\/k=4\/k=5\/k=6\/k=7\/k=8\/k=9\/k=10\/k=11\/k=12\/k=13\/k=14 by omega) with rfl | rfl | rfl | rfl | rfl | rfl | rfl | rfl | rfl | rfl | rfl | rfl | rfl | rfl | rfl<;>assumption
 | _=>assumption
def rD (ps:List (List UInt8)):List GV:=ps.map λp=>.g [.s p,.b true]
def yC (ps:List (List UInt8)) (x:List UInt8):List (List UInt8):=if x∈ps then ps else ps++[x]
theorem SH (n:List UInt8):∀ps:List (List UInt8),eU (.s n) (rD ps)=if n∈ps then some (.b true) else none
 | []=>rfl
 | p::ps=>by
   have ih:=SH n ps;simp only [rD,iQ,eU,iW] at ih ⊢;by_cases e:n=p
   ·subst e;simp
   ·have e2:¬ p=n:=λh=>e h.symm
    simp [e,ih]
theorem adt (x:List UInt8):∀ps:List (List UInt8),iH (.s x) (.b true) (rD ps)=rD (yC ps x)
 | []=>rfl
 | p::ps=>by
   have ih:=adt x ps;unfold yC at ih ⊢;simp only [rD,iQ,iH,iW] at ih ⊢;by_cases e:x=p
   ·subst e;simp
   ·have e1:(x==p)=false:=by simpa using e
    simp only [e1,gU,if_false];rw [ih];by_cases hm:x∈ps
    ·simp only [hm,if_true,bU,or_true,iQ]
    ·simp only [hm,if_false,bU,e,or_false,dV,iQ]
def xq (ps:List (List UInt8)) (l:List bJ):List (List UInt8):=l.foldl (λps s=>yC ps s.name) ps
theorem akM (n x:List UInt8) (ps:List (List UInt8)):n∈yC ps x↔n∈ps\/x=n:=by
 unfold yC;split
 ·next h=>exact ⟨.inl,λe=>e.elim id (λe=>e ▸ h)⟩
 ·simp [eq_comm]
theorem acE (n:List UInt8):∀ (l:List bJ) (ps:List (List UInt8)),n∈xq ps l↔n∈ps\/∃s∈l,s.name=n
 | [],ps=>by simp [xq]
 | s::l,ps=>by
   have:=acE n l (yC ps s.name);unfold xq at this ⊢;rw [List.foldl_cons,this,akM];simp [or_assoc]
def jA (l:List bJ) (n:List UInt8):Bool:=l.any λs=>decide (s.name=n)
theorem akL (n:List UInt8) (l:List bJ):decide (n∈xq [] l)=jA l n:=by
 rw [oU,decide_eq_true_iff,acE];simp [jA]
theorem acw (b:aJ) (r:List GV) (l:List bJ) (hl:l.length<=1000):∀ (m i:Nat) (ps:List (List UInt8)),i+m=l.length->
 TT.lim 44 [.l (l.map dG),.i .i64 l.length,.i .i64 i,.l (rD ps),.i .i64 b.kind,.i .u64 b.id,.i .u64 b.min,.i .u64 b.max,.i .u64 b.chosen,.i .u64 b.flags,.i .u64 b.cost,.i .u64 b.priority,.i .u64 b.deadline,.i .u64 b.retry,.i .u64 b.epoch,.i .u64 b.base,.i .u64 b.digest,.i .u64 b.lag,.i .u64 b.code,.i .u64 b.want,.i .i64 b.remaining,.b b.allowed,.s b.name,.s b.region,.s b.note,.l (b.d.map ent),.l (b.t.map row),.l r]=some [.i .i64 0,.l (rD (xq ps (l.drop i)))]
 | 0,i,ps,hi=>by
   have h0:l.drop i=[]:=gY (by omega);refine aG rfl rfl ?_;have h:¬ ((i:Int) < l.length):=by omega
   simp [h,h0,xq]
 | m+1,i,ps,hi=>by
   have hlt:i < l.length:=by omega
   have ih:=acw b r l hl m (i+1) (yC ps l[i].name) (by omega);have hcast:((i:Int)+1)=((i+1:Nat):Int):=by omega
   rw [<- hcast] at ih;have hp:=adt l[i].name ps;have hd:xq ps (l.drop i)=xq (yC ps l[i].name) (l.drop (i+1)):=by
    rw [jw hlt];rfl
   rw [hd];generalize xq (yC ps l[i].name) (l.drop (i+1))=X at *;generalize rD (yC ps l[i].name)=Y at *;refine aG rfl rfl ?_;have h:((i:Int) < l.length):=by omega
   have hw:=wrap64 (n:=(i:Int)+1) (by omega) (by omega);simp [h,hlt,hw,hp,ih]
/-- One round of the second loop. -/
def afk (b:aJ) (r:List GV) (n:List UInt8) (c:Prop):Prop:=∀ (sp:GV) (ns:List (List UInt8)) (i:Nat) (ps:List (List UInt8)) (out:List GV) (h:i < ns.length),((i:Int) < ns.length)->IntKind.i64.wrap ((i:Int)+1)=(i:Int)+1->ns[i]=n->eU (.s n) (rD ps)=none->
    TT.lim 46 [sp,.l (ns.map .s),.i .i64 ns.length,.i .i64 ((i:Int)+1),.l (rD ps),.i .i64 b.kind,.i .u64 b.id,.i .u64 b.min,.i .u64 b.max,.i .u64 b.chosen,.i .u64 b.flags,.i .u64 b.cost,.i .u64 b.priority,.i .u64 b.deadline,.i .u64 b.retry,.i .u64 b.epoch,.i .u64 b.base,.i .u64 b.digest,.i .u64 b.lag,.i .u64 b.code,.i .u64 b.want,.i .i64 b.remaining,.b b.allowed,.s b.name,.s b.region,.s b.note,.l (b.d.map ent),.l (b.t.map row),.l r]=some out->
    (c->TT.lim 46 [sp,.l (ns.map .s),.i .i64 ns.length,.i .i64 i,.l (rD ps),.i .i64 b.kind,.i .u64 b.id,.i .u64 b.min,.i .u64 b.max,.i .u64 b.chosen,.i .u64 b.flags,.i .u64 b.cost,.i .u64 b.priority,.i .u64 b.deadline,.i .u64 b.retry,.i .u64 b.epoch,.i .u64 b.base,.i .u64 b.digest,.i .u64 b.lag,.i .u64 b.code,.i .u64 b.want,.i .i64 b.remaining,.b b.allowed,.s b.name,.s b.region,.s b.note,.l (b.d.map ent),.l (b.t.map row),.l r]=some out)/\(¬ c->TT.lim 46 [sp,.l (ns.map .s),.i .i64 ns.length,.i .i64 i,.l (rD ps),.i .i64 b.kind,.i .u64 b.id,.i .u64 b.min,.i .u64 b.max,.i .u64 b.chosen,.i .u64 b.flags,.i .u64 b.cost,.i .u64 b.priority,.i .u64 b.deadline,.i .u64 b.retry,.i .u64 b.epoch,.i .u64 b.base,.i .u64 b.digest,.i .u64 b.lag,.i .u64 b.code,.i .u64 b.want,.i .i64 b.remaining,.b b.allowed,.s b.name,.s b.region,.s b.note,.l (b.d.map ent),.l (b.t.map row),.l r]=some [.i .i64 0])
theorem VJ:TT.lim 45 []=some [.l (dF.map .s)]:=KW (Ds:=Ds) (k:=45) (f:=PV) rfl rfl
theorem ak2 (b:aJ) {n:List UInt8} {p:Pl} (h:placeOf n=some p):lF b n=fB b p:=by unfold lF;rw [h]
set_option maxHeartbeats 4000000 in
theorem aoQ (b:aJ) (r:List GV) {n:List UInt8} {p:Pl} (hp:placeOf n=some p):afk b r n (fB b p=true):=by
 intro sp ns i ps out h h1 hw hn ha ih;have hI:=JQ hp;have hk:=(mJ n p hp).2.1;clear hp;induction p,hk using Hq<;>(refine ⟨λhc=>aG rfl rfl ?_,λhc=>aG rfl rfl ?_⟩<;>simp only [fB,jG,decide_eq_true_iff,uz] at hc)
 all_goals first
  | (have hc:=eq_true hc;simp [h1,h,hn,hw,ha,hc,hI,ih];done)
  | (rw [hc] at ih;simp [h1,h,hn,hw,ha,hc,hI,ih];done)
  | (simp [h1,h,hn,ha,hc,hI];done)
theorem acy (b:aJ) (r:List GV) (sp:GV) (ns:List (List UInt8)) (hlen:ns.length<=1000) (hns:∀n∈ns,placeOf n≠none) (ps:List (List UInt8)):∀ (m i:Nat),i+m=ns.length->
 TT.lim 46 [sp,.l (ns.map .s),.i .i64 ns.length,.i .i64 i,.l (rD ps),.i .i64 b.kind,.i .u64 b.id,.i .u64 b.min,.i .u64 b.max,.i .u64 b.chosen,.i .u64 b.flags,.i .u64 b.cost,.i .u64 b.priority,.i .u64 b.deadline,.i .u64 b.retry,.i .u64 b.epoch,.i .u64 b.base,.i .u64 b.digest,.i .u64 b.lag,.i .u64 b.code,.i .u64 b.want,.i .i64 b.remaining,.b b.allowed,.s b.name,.s b.region,.s b.note,.l (b.d.map ent),.l (b.t.map row),.l r]=some (if (ns.drop i).all (λn=>decide (n∈ps) || lF b n)=true then [.i .i64 1] else [.i .i64 0])
 | 0,i,hi=>by
   have h0:ns.drop i=[]:=gY (by omega);refine aG rfl rfl ?_;have h:¬ ((i:Int) < ns.length):=by omega
   simp [h,h0]
 | m+1,i,hi=>by
   have hlt:i < ns.length:=by omega
   have ih:=acy b r sp ns hlen hns ps m (i+1) (by omega);have hcast:((i:Int)+1)=((i+1:Nat):Int):=by omega
   rw [<- hcast] at ih;have hd:(ns.drop i).all (λn=>decide (n∈ps) || lF b n)=((decide (ns[i]∈ps) || lF b ns[i])&&(ns.drop (i+1)).all (λn=>decide (n∈ps) || lF b n)):=by rw [jw hlt,qP]
   rw [hd];generalize (ns.drop (i+1)).all (λn=>decide (n∈ps) || lF b n)=X at *;by_cases hps:ns[i]∈ps
   ·have ha:=SH ns[i] ps
    rw [aj hps] at ha;have h1:((i:Int) < ns.length):=by omega
    have hw:=wrap64 (n:=(i:Int)+1) (by omega) (by omega);rw [Bl hps,Bool.true_or,Ip];refine aG rfl rfl ?_;simp [h1,hlt,hw,ha,ih]
   ·have ha:=SH ns[i] ps
    rw [ah hps] at ha;obtain ⟨p,hp⟩:=RU.1 (hns _ (je hlt));have c1:=ak2 b hp;obtain ⟨c3,c4⟩:=aoQ b r hp sp ns i ps _ hlt (by omega) (wrap64 (n:=(i:Int)+1) (by omega) (by omega)) rfl ha ih;rw [DK hps,uy];cases hb:lF b ns[i] with
    | true=>rw [c3 (by rw [<- c1];exact hb),Ip]
    | false=>rw [c4 (by rw [<- c1,hb];decide),Bool.false_and];rfl
def CW (b:aJ) (r:List GV) (k:Nat) (out:List GV):Prop:=TT.lim k [.i .i64 b.kind,.i .u64 b.id,.i .u64 b.min,.i .u64 b.max,.i .u64 b.chosen,.i .u64 b.flags,.i .u64 b.cost,.i .u64 b.priority,.i .u64 b.deadline,.i .u64 b.retry,.i .u64 b.epoch,.i .u64 b.base,.i .u64 b.digest,.i .u64 b.lag,.i .u64 b.code,.i .u64 b.want,.i .i64 b.remaining,.b b.allowed,.s b.name,.s b.region,.s b.note,.l (b.d.map ent),.l (b.t.map row),.l r]=some out
theorem akJ (b:aJ) {n:List UInt8} {p:Pl} (h:placeOf n=some p):tX b n=jo b p:=by unfold tX;rw [h]
set_option maxHeartbeats 4000000 in
theorem akK (b:aJ) (r:List GV) (hb:qM b) (hf:∀r∈b.t,gV r.1=true):(∀k∈[48,49,55,56,57,58,59,60,61,62,63,64,65,66,67,68,69],CW b r k [.i .i64 0])/\CW b r 50 [.i .i64 0,.i .i64 (jo b .name)]/\CW b r 51 [.i .i64 0,.i .i64 (jo b .region)]/\CW b r 52 [.i .i64 0,.i .i64 (jo b .note)]/\CW b r 53 [.i .i64 0,.i .i64 (jo b .d)]/\CW b r 54 [.i .i64 0,.i .i64 (jo b .t)]:=by
 have h1:=FU b.name 0 256 hb.name;have h2:=FU b.region 0 256 hb.region;have h3:=FU b.note 0 256 hb.note;have h4:=ZH b.d hb.d;have h5:=Td b.t hb.t hf;refine ⟨λk hk=>?_,aG rfl rfl ?_,aG rfl rfl ?_,aG rfl rfl ?_,aG rfl rfl ?_,aG rfl rfl ?_⟩
 ·simp only [bU,List.not_mem_nil,or_false] at hk
  rcases hk with rfl | rfl | rfl | rfl | rfl | rfl | rfl | rfl | rfl | rfl | rfl | rfl | rfl | rfl | rfl | rfl | rfl<;>(refine aG rfl rfl ?_;simp)
 ·simp [jo,h1]
 ·simp [jo,h2]
 ·simp [jo,h3]
 ·by_cases e:b.d=[]
  ·simp [jo,e]
  ·have e2:¬ (List.map ent b.d)=[]:=by simpa using e
   have e3:0 < b.d.length:=MF.2 e;simp [jo,e,h4]
 ·simp [jo,h5]
/-- One round of the third loop. -/
def afl (b:aJ) (r:List GV) (n:List UInt8) (c:Int):Prop:=∀ (l:List bJ) (i:Nat) (out:List GV) (h:i < l.length),((i:Int) < l.length)->IntKind.i64.wrap ((i:Int)+1)=(i:Int)+1->l[i].name=n->
    TT.lim 47 [.l (l.map dG),.i .i64 l.length,.i .i64 ((i:Int)+1),.i .i64 b.kind,.i .u64 b.id,.i .u64 b.min,.i .u64 b.max,.i .u64 b.chosen,.i .u64 b.flags,.i .u64 b.cost,.i .u64 b.priority,.i .u64 b.deadline,.i .u64 b.retry,.i .u64 b.epoch,.i .u64 b.base,.i .u64 b.digest,.i .u64 b.lag,.i .u64 b.code,.i .u64 b.want,.i .i64 b.remaining,.b b.allowed,.s b.name,.s b.region,.s b.note,.l (b.d.map ent),.l (b.t.map row),.l r]=some out->
    TT.lim 47 [.l (l.map dG),.i .i64 l.length,.i .i64 i,.i .i64 b.kind,.i .u64 b.id,.i .u64 b.min,.i .u64 b.max,.i .u64 b.chosen,.i .u64 b.flags,.i .u64 b.cost,.i .u64 b.priority,.i .u64 b.deadline,.i .u64 b.retry,.i .u64 b.epoch,.i .u64 b.base,.i .u64 b.digest,.i .u64 b.lag,.i .u64 b.code,.i .u64 b.want,.i .i64 b.remaining,.b b.allowed,.s b.name,.s b.region,.s b.note,.l (b.d.map ent),.l (b.t.map row),.l r]=some (if c=0 then out else [.i .i64 0,.i .i64 c])
set_option maxHeartbeats 4000000 in
theorem aoR (b:aJ) (r:List GV) (hb:qM b) (hf:∀r∈b.t,gV r.1=true) {n:List UInt8} {p:Pl} (hp:placeOf n=some p):afl b r n (jo b p):=by
 intro l i out h h1 hw hn ih;obtain ⟨m0,m1,m2,m3,m4,m5⟩:=akK b r hb hf;simp only [List.forall_mem_cons,CW] at m0 m1 m2 m3 m4 m5;have hI:=JQ hp;have hk:=(mJ n p hp).2.1;clear hp;generalize hc':jo b p=c at ih ⊢;induction p,hk using Hq
 all_goals first
  | (obtain rfl:0=c:=hc'
     rw [aj rfl];refine aG rfl rfl ?_;simp [h1,h,hn,hw,hI,m0,ih];done)
  | (simp only [hc'] at m1 m2 m3 m4 m5
     by_cases hc:c=0
     ·subst hc
      rw [aj rfl];refine aG rfl rfl ?_;simp [h1,h,hn,hw,hI,m1,m2,m3,m4,m5,ih]
     ·rw [ah hc]
      refine aG rfl rfl ?_;simp [h1,h,hn,hw,hI,m1,m2,m3,m4,m5,hc])
/-- The first thing that is wrong with the values of names. -/
def lD (b:aJ):List bJ->Int
 | []=>0
 | s::l=>if tX b s.name=0 then lD b l else tX b s.name
theorem acz (b:aJ) (r:List GV) (hb:qM b) (hf:∀r∈b.t,gV r.1=true) (l:List bJ) (hlen:l.length<=1000) (hns:∀s∈l,placeOf s.name≠none):∀ (m i:Nat),i+m=l.length->
 TT.lim 47 [.l (l.map dG),.i .i64 l.length,.i .i64 i,.i .i64 b.kind,.i .u64 b.id,.i .u64 b.min,.i .u64 b.max,.i .u64 b.chosen,.i .u64 b.flags,.i .u64 b.cost,.i .u64 b.priority,.i .u64 b.deadline,.i .u64 b.retry,.i .u64 b.epoch,.i .u64 b.base,.i .u64 b.digest,.i .u64 b.lag,.i .u64 b.code,.i .u64 b.want,.i .i64 b.remaining,.b b.allowed,.s b.name,.s b.region,.s b.note,.l (b.d.map ent),.l (b.t.map row),.l r]=some (if lD b (l.drop i)=0 then [.i .i64 1] else [.i .i64 0,.i .i64 (lD b (l.drop i))])
 | 0,i,hi=>by
   have h0:l.drop i=[]:=gY (by omega);refine aG rfl rfl ?_;have h:¬ ((i:Int) < l.length):=by omega
   simp [h,h0,lD]
 | m+1,i,hi=>by
   have hlt:i < l.length:=by omega
   have ih:=acz b r hb hf l hlen hns m (i+1) (by omega);have hcast:((i:Int)+1)=((i+1:Nat):Int):=by omega
   rw [<- hcast] at ih;obtain ⟨p,hp⟩:=RU.1 (hns _ (je hlt));have:=aoR b r hb hf hp l i _ hlt (by omega) (wrap64 (n:=(i:Int)+1) (by omega) (by omega)) rfl ih;rw [<- akJ b hp] at this;rw [this,jw hlt];by_cases hc:tX b l[i].name=0
   ·have hm:lD b (l[i]::l.drop (i+1))=lD b (l.drop (i+1)):=by simp only [lD,hc,if_true]
    rw [aj hc,hm]
   ·have hm:lD b (l[i]::l.drop (i+1))=tX b l[i].name:=by simp only [lD,hc,if_false]
    rw [ah hc,hm,ah hc]
def hasTag (l:List bJ) (t:Int):Bool:=l.any λs=>decide (t=s.tag)
theorem acB (l:List bJ) (hlen:l.length<=1000) (a1 a2 a3:GV) (t:Int) (a7 a8 a9 a10:GV):∀ (m i:Nat),i+m=l.length->
 TT.lim 75 [.l (l.map dG),a1,a2,a3,.i .i64 l.length,.i .i64 i,.i .u64 t,a7,a8,a9,a10]=some (if hasTag (l.drop i) t=true then [.i .i64 0] else [.i .i64 1])
 | 0,i,hi=>by
   have h0:l.drop i=[]:=gY (by omega);refine aG rfl rfl ?_;have h:¬ ((i:Int) < l.length):=by omega
   simp [h,h0,hasTag]
 | m+1,i,hi=>by
   have hlt:i < l.length:=by omega
   have ih:=acB l hlen a1 a2 a3 t a7 a8 a9 a10 m (i+1) (by omega);have hcast:((i:Int)+1)=((i+1:Nat):Int):=by omega
   rw [<- hcast] at ih;have h1:((i:Int) < l.length):=by omega
   have hw:=wrap64 (n:=(i:Int)+1) (by omega) (by omega);have hd:hasTag (l.drop i) t=(decide (t=l[i].tag) || hasTag (l.drop (i+1)) t):=by rw [jw hlt];rfl
   rw [hd];generalize hasTag (l.drop (i+1)) t=X at *;refine aG rfl rfl ?_;by_cases hc:t=l[i].tag
   ·simp [h1,hlt,hc]
   ·simp [h1,hlt,hc,hw,ih]
theorem acA (l:List bJ) (hlen:l.length<=1000) (fl:List aC) (hfl:fl.length<=1000000):∀ (m i:Nat),i+m=fl.length->
 TT.lim 74 [.l (l.map dG),.l (aA fl),.i .i64 fl.length,.i .i64 i]=some (if (fl.drop i).any (λf=>hasTag l f.tag)=true then [.i .i64 0] else [.i .i64 1])
 | 0,i,hi=>by
   have h0:fl.drop i=[]:=gY (by omega);refine aG rfl rfl ?_;have h:¬ ((i:Int) < fl.length):=by omega
   simp [h,h0]
 | m+1,i,hi=>by
   have hlt:i < fl.length:=by omega
   have ih:=acA l hlen fl hfl m (i+1) (by omega);have hcast:((i:Int)+1)=((i+1:Nat):Int):=by omega
   rw [<- hcast] at ih;have h1:((i:Int) < fl.length):=by omega
   have hw:=wrap64 (n:=(i:Int)+1) (by omega) (by omega);have hd:(fl.drop i).any (λf=>hasTag l f.tag)=(hasTag l fl[i].tag || (fl.drop (i+1)).any (λf=>hasTag l f.tag)):=by rw [jw hlt,List.any_cons]
   rw [hd];have hget:(aA fl)[i]? = some (l7 fl[i]):=by rw [yB,iq,bP hlt];rfl
   clear hd;obtain ⟨t,y,n,s,k,hfi⟩:∃t y n s k,fl[i]=aC.mk t y n s k:=by
    cases fl[i] with
    | mk t y n s k=>exact ⟨_,_,_,_,_,rfl⟩
   rw [hfi] at hget ⊢;rw [show (aC.mk t y n s k).tag=t from rfl];have h3:TT.lim 75 [.l (l.map dG),.l (aA fl),.i .i64 fl.length,.i .i64 i,.i .i64 l.length,.i .i64 0,.i .u64 t,.i .i64 y,.i .u64 n,.s s,.l (aA k)]=_:=acB l hlen _ _ _ t _ _ _ _ l.length 0 (by omega);rw [eH] at h3;refine aG rfl rfl ?_;by_cases hc:hasTag l t=true
   ·rw [aj hc] at h3
    simp [-List.any_eq_true,h1,hget,h3,hc]
   ·rw [ah hc] at h3
    have hc:hasTag l t=false:=by simpa using hc
    simp [-List.any_eq_true,h1,hget,h3,hw,ih,hc]
def qZ (b:aJ):Int:=
 if b.kind=1 then (if b.min < 1 then 18 else if b.max < b.min then 18 else if 255 < b.max then 18 else 0)
 else if b.kind=2 then (if b.chosen < 1 then 18 else if 255 < b.chosen then 18 else 0)
 else if b.kind=3 then (if b.d=[] then 12 else 0)
 else if b.kind=5 then (if b.epoch < 1 then 18 else 0)
 else if b.kind=6 then (if b.base < 1 then 18 else if b.epoch<=b.base then 20 else 0)
 else 0
/-- What is said of a message at a version. -/
def EC (sp:List bJ) (fl:List aC):Int:=if iM 0 0 fl≠0 then iM 0 0 fl else if fl.any (λf=>hasTag sp f.tag)=true then 14 else 0
def eY (b:aJ) (fl:List aC) (v:Int):Int:=
 if v < 1 then 16 else if 3 < v then 16 else
 if aB b.kind v=[] then 15 else
 if dF.all (λn=>jA (aB b.kind v) n || lF b n)=false then 26 else
 if lD b (aB b.kind v)≠0 then lD b (aB b.kind v) else
 if qZ b≠0 then qZ b else EC (aB b.kind v) fl
theorem Ef:∀n∈dF,placeOf n≠none:=by decide
theorem Vh (k v:Int):∀s∈aB k v,placeOf s.name≠none:=by
 have key:∀s∈kU k,placeOf s.name≠none:=by
  unfold kU;repeat' split
  all_goals first | (unfold sp1;decide) | (unfold sp2;decide) | (unfold pY;decide) | (unfold yO;decide) | (unfold qg;decide) | (unfold qh;decide) | (unfold yP;decide) | (unfold yQ;decide) | (intro s hs;cases hs)
 intro s hs;exact key s (lY.1 hs).1
theorem vT (k v:Int):(aB k v).length<=8:=iF (Iz _ _) (aoH k)
set_option maxHeartbeats 4000000 in
theorem acv (b:aJ) (fl:List aC) (v:Int) (hb:qM b) (hf:∀r∈b.t,gV r.1=true) (hok:bY fl) (hlen:fl.length<=1000000):TT.lim 32 [dU b (aA fl),.i .i64 v]=some [.i .i64 (eY b fl v)]:=by
 have hk:=O9 b.kind;refine bD rfl rfl ?_ rfl;unfold eY;by_cases v1:v < 1
 ·simp [v1]
 by_cases v3:3 < v
 ·simp [v1,v3]
 rw [ah v1,ah v3];have hnil:=Pj b.kind v (by omega) (by omega);by_cases k0:iV b.kind=0
 ·rw [aj (hnil.2 (.inl k0))]
  rw [k0] at hk;simp [v1,v3,hk]
 by_cases k1:v < iV b.kind
 ·rw [aj (hnil.2 (.inr k1))]
  simp [v1,v3,hk,k0,k1]
 rw [ah (λe=>(hnil.1 e).elim k0 k1)];have hkn:=JX b.kind v (by omega) (by omega) (by omega);have hpl:=Vh b.kind v;have hl8:=vT b.kind v;clear hnil;generalize aB b.kind v=sp at *;have hnm:=VJ;have h0:=acw b (aA fl) sp (by omega) sp.length 0 [] (by omega);have h1:=acy b (aA fl) (.l (sp.map dG)) dF (by decide) Ef (xq [] sp) dF.length 0 (by omega);have h2:=acz b (aA fl) hb hf sp (by omega) hpl sp.length 0 (by omega);have h3:=acA sp (by omega) fl hlen fl.length 0 (by omega);have h4:=Ot fl hok hlen;rw [eH] at h0 h1 h2 h3;simp only [akL] at h1;have hnl:(dF.map GV.s).length=dF.length:=kM _;have hfl:=kQ fl;rw [<- hfl] at h3;generalize hX:xq [] sp=ps at *;have h0':TT.lim 44 [.l (sp.map dG),.i .i64 sp.length,.i .i64 0,.l [],.i .i64 b.kind,.i .u64 b.id,.i .u64 b.min,.i .u64 b.max,.i .u64 b.chosen,.i .u64 b.flags,.i .u64 b.cost,.i .u64 b.priority,.i .u64 b.deadline,.i .u64 b.retry,.i .u64 b.epoch,.i .u64 b.base,.i .u64 b.digest,.i .u64 b.lag,.i .u64 b.code,.i .u64 b.want,.i .i64 b.remaining,.b b.allowed,.s b.name,.s b.region,.s b.note,.l (b.d.map ent),.l (b.t.map row),.l (aA fl)]=some [.i .i64 0,.l (rD ps)]:=h0;clear h0;have h1':TT.lim 46 [.l (sp.map dG),.l (dF.map .s),.i .i64 dF.length,.i .i64 0,.l (rD ps),.i .i64 b.kind,.i .u64 b.id,.i .u64 b.min,.i .u64 b.max,.i .u64 b.chosen,.i .u64 b.flags,.i .u64 b.cost,.i .u64 b.priority,.i .u64 b.deadline,.i .u64 b.retry,.i .u64 b.epoch,.i .u64 b.base,.i .u64 b.digest,.i .u64 b.lag,.i .u64 b.code,.i .u64 b.want,.i .i64 b.remaining,.b b.allowed,.s b.name,.s b.region,.s b.note,.l (b.d.map ent),.l (b.t.map row),.l (aA fl)]=_:=h1;clear h1;have h2':TT.lim 47 [.l (sp.map dG),.i .i64 sp.length,.i .i64 0,.i .i64 b.kind,.i .u64 b.id,.i .u64 b.min,.i .u64 b.max,.i .u64 b.chosen,.i .u64 b.flags,.i .u64 b.cost,.i .u64 b.priority,.i .u64 b.deadline,.i .u64 b.retry,.i .u64 b.epoch,.i .u64 b.base,.i .u64 b.digest,.i .u64 b.lag,.i .u64 b.code,.i .u64 b.want,.i .i64 b.remaining,.b b.allowed,.s b.name,.s b.region,.s b.note,.l (b.d.map ent),.l (b.t.map row),.l (aA fl)]=_:=h2;clear h2;have h3':TT.lim 74 [.l (sp.map dG),.l (aA fl),.i .i64 (aA fl).length,.i .i64 0]=_:=h3;clear h3;have hr:EC sp fl=if iM 0 0 fl≠0 then iM 0 0 fl else if fl.any (λf=>hasTag sp f.tag)=true then 14 else 0:=rfl
 generalize (dF.all λn=>jA sp n || lF b n)=A at *;generalize lD b sp=M at *;generalize iM 0 0 fl=F at *;generalize (fl.any λf=>hasTag sp f.tag)=W at *;generalize EC sp fl=R at *;generalize dF=NL at *;have arK:∀ (x:GV),True:=λ_=>trivial;cases A with
 | false=>
   simp only [gU,if_false] at h1';simp [v1,v3,hk,k0,k1,hkn,hnm,h0',h1']
 | true=>
 simp only [if_true] at h1';by_cases hM:M=0;rotate_left
 ·rw [ah hM] at h2'
  simp [v1,v3,hk,k0,k1,hkn,hnm,h0',h1',h2',hM]
 rw [aj hM] at h2';rw [ah (by simp),ah (by simp [hM])];clear hM
 -- the rest of it
 have key:∀ (c:Int),qZ b=c->c≠0->True:=λ_ _ _=>trivial;unfold qZ;by_cases e1:b.kind=1
 ·have e1:=eq_true e1
  by_cases c1:b.min < 1
  ·simp [v1,v3,hk,k0,k1,hkn,hnm,h0',h1',h2',e1,c1]
  by_cases c2:b.max < b.min
  ·simp [v1,v3,hk,k0,k1,hkn,hnm,h0',h1',h2',e1,c1,c2]
  by_cases c3:255 < b.max
  ·simp [v1,v3,hk,k0,k1,hkn,hnm,h0',h1',h2',e1,c1,c2,c3]
  simp only [e1,c1,c2,c3,if_true,if_false,ne_eq,not_true_eq_false];rw [hr];by_cases hF:F=0
  ·subst hF
   cases W with
   | true=>simp only [if_true] at h3';simp [v1,v3,hk,k0,k1,hkn,hnm,h0',h1',h2',e1,c1,c2,c3,h4,h3']
   | false=>simp only [gU,if_false] at h3';simp [v1,v3,hk,k0,k1,hkn,hnm,h0',h1',h2',e1,c1,c2,c3,h4,h3']
  ·simp [v1,v3,hk,k0,k1,hkn,hnm,h0',h1',h2',e1,c1,c2,c3,h4,hF]
 by_cases e2:b.kind=2
 ·have e2:=eq_true e2
  by_cases c1:b.chosen < 1
  ·simp [v1,v3,hk,k0,k1,hkn,hnm,h0',h1',h2',e1,e2,c1]
  by_cases c2:255 < b.chosen
  ·simp [v1,v3,hk,k0,k1,hkn,hnm,h0',h1',h2',e1,e2,c1,c2]
  simp only [e1,e2,c1,c2,if_true,if_false,ne_eq,not_true_eq_false];rw [hr];by_cases hF:F=0
  ·subst hF
   cases W with
   | true=>simp only [if_true] at h3';simp [v1,v3,hk,k0,k1,hkn,hnm,h0',h1',h2',e1,e2,c1,c2,h4,h3']
   | false=>simp only [gU,if_false] at h3';simp [v1,v3,hk,k0,k1,hkn,hnm,h0',h1',h2',e1,e2,c1,c2,h4,h3']
  ·simp [v1,v3,hk,k0,k1,hkn,hnm,h0',h1',h2',e1,e2,c1,c2,h4,hF]
 by_cases e3:b.kind=3
 ·have e3:=eq_true e3
  by_cases c1:b.d=[]
  ·have c1:=eq_true c1
   simp [v1,v3,hk,k0,k1,hkn,hnm,h0',h1',h2',e1,e2,e3,c1]
  simp only [e1,e2,e3,c1,if_true,if_false,ne_eq,not_true_eq_false];rw [hr];by_cases hF:F=0
  ·subst hF
   cases W with
   | true=>simp only [if_true] at h3';simp [v1,v3,hk,k0,k1,hkn,hnm,h0',h1',h2',e1,e2,e3,c1,h4,h3']
   | false=>simp only [gU,if_false] at h3';simp [v1,v3,hk,k0,k1,hkn,hnm,h0',h1',h2',e1,e2,e3,c1,h4,h3']
  ·simp [v1,v3,hk,k0,k1,hkn,hnm,h0',h1',h2',e1,e2,e3,c1,h4,hF]
 by_cases e5:b.kind=5
 ·have e5:=eq_true e5
  by_cases c1:b.epoch < 1
  ·simp [v1,v3,hk,k0,k1,hkn,hnm,h0',h1',h2',e1,e2,e3,e5,c1]
  simp only [e1,e2,e3,e5,c1,if_true,if_false,ne_eq,not_true_eq_false];rw [hr];by_cases hF:F=0
  ·subst hF
   cases W with
   | true=>simp only [if_true] at h3';simp [v1,v3,hk,k0,k1,hkn,hnm,h0',h1',h2',e1,e2,e3,e5,c1,h4,h3']
   | false=>simp only [gU,if_false] at h3';simp [v1,v3,hk,k0,k1,hkn,hnm,h0',h1',h2',e1,e2,e3,e5,c1,h4,h3']
  ·simp [v1,v3,hk,k0,k1,hkn,hnm,h0',h1',h2',e1,e2,e3,e5,c1,h4,hF]
 by_cases e6:b.kind=6
 ·have e6:=eq_true e6
  by_cases c1:b.base < 1
  ·simp [v1,v3,hk,k0,k1,hkn,hnm,h0',h1',h2',e1,e2,e3,e5,e6,c1]
  by_cases c2:b.epoch<=b.base
  ·simp [v1,v3,hk,k0,k1,hkn,hnm,h0',h1',h2',e1,e2,e3,e5,e6,c1,c2]
  simp only [e1,e2,e3,e5,e6,c1,c2,if_true,if_false,ne_eq,not_true_eq_false];rw [hr];by_cases hF:F=0
  ·subst hF
   cases W with
   | true=>simp only [if_true] at h3';simp [v1,v3,hk,k0,k1,hkn,hnm,h0',h1',h2',e1,e2,e3,e5,e6,c1,c2,h4,h3']
   | false=>simp only [gU,if_false] at h3';simp [v1,v3,hk,k0,k1,hkn,hnm,h0',h1',h2',e1,e2,e3,e5,e6,c1,c2,h4,h3']
  ·simp [v1,v3,hk,k0,k1,hkn,hnm,h0',h1',h2',e1,e2,e3,e5,e6,c1,c2,h4,hF]
 simp only [e1,e2,e3,e5,e6,if_false,ne_eq,not_true_eq_false];rw [hr];by_cases hF:F=0
 ·subst hF
  cases W with
  | true=>simp only [if_true] at h3';simp [v1,v3,hk,k0,k1,hkn,hnm,h0',h1',h2',e1,e2,e3,e5,e6,h4,h3']
  | false=>simp only [gU,if_false] at h3';simp [v1,v3,hk,k0,k1,hkn,hnm,h0',h1',h2',e1,e2,e3,e5,e6,h4,h3']
 ·simp [v1,v3,hk,k0,k1,hkn,hnm,h0',h1',h2',e1,e2,e3,e5,e6,h4,hF]
def X6 (n:List UInt8):Int:=match placeOf n with
 | some p=>apB p
 | none=>-1
theorem aj6 (k v:Int):∀s∈aB k v,placeOf s.name≠none/\s.use=X6 s.name:=by
 have key:∀s∈kU k,placeOf s.name≠none/\s.use=X6 s.name:=by
  unfold kU;repeat' split
  all_goals first | (unfold sp1;decide) | (unfold sp2;decide) | (unfold pY;decide) | (unfold yO;decide) | (unfold qg;decide) | (unfold qh;decide) | (unfold yP;decide) | (unfold yQ;decide) | (intro s hs;cases hs)
 intro s hs;exact key s (lY.1 hs).1
/-- The numbers with a sign, written by their bits. -/
theorem ap8 (x:Int) (h0 : -9223372036854775808<=x) (h1:x<=9223372036854775807):∃u w:Int,IntKind.u64.wrap x=u/\IntKind.u64.wrap (x.fdiv (2 ^ 63))=w/\fG .xor .u64 (IntKind.u64.wrap (u * 2 ^ 1)) w=some (.i .u64 (zz x)):=by
 have wr:∀y:Int,IntKind.u64.wrap y=y % 18446744073709551616:=λy=>by simp [IntKind.wrap,IntKind.signed,IntKind.bits]
 refine ⟨_,_,rfl,rfl, ?_⟩;rw [wr,wr,wr];unfold zz;have hb:IntKind.u64.bits=64:=rfl;by_cases h:0<=x
 ·have e1:x.fdiv (2 ^ 63)=0:=by
   rw [L8 _ (by decide)];exact Int.ediv_eq_zero_of_lt h (by omega)
  rw [e1,aj h];have e2:x % 18446744073709551616 * 2 ^ 1 % 18446744073709551616=2 * x:=by omega
  rw [e2];simp only [fG,wr,hb];have e3:(BitVec.ofInt 64 (2 * x) ^^^ BitVec.ofInt 64 (0 % 18446744073709551616))=BitVec.ofInt 64 (2 * x):=by
   have:BitVec.ofInt 64 (0 % 18446744073709551616)=0#64:=rfl;rw [this,BitVec.xor_zero]
  show some (GV.i IntKind.u64 (((BitVec.ofInt 64 (2 * x) ^^^ BitVec.ofInt 64 (0 % 18446744073709551616)).toNat:Int) % 18446744073709551616))=_
  rw [e3,wG];congr 2;omega
 ·have e1:x.fdiv (2 ^ 63) = -1:=by
   rw [L8 _ (by decide)];omega
  rw [e1,ah h];have e2:x % 18446744073709551616 * 2 ^ 1 % 18446744073709551616=2 * x+18446744073709551616:=by omega
  rw [e2];simp only [fG,wr,hb];have e3:(BitVec.ofInt 64 (2 * x+18446744073709551616) ^^^ BitVec.ofInt 64 (-1 % 18446744073709551616)) = ~~~ BitVec.ofInt 64 (2 * x+18446744073709551616):=by
   have:BitVec.ofInt 64 (-1 % 18446744073709551616)=BitVec.allOnes 64:=by decide
   rw [this,BitVec.xor_allOnes]
  show some (GV.i IntKind.u64 (((BitVec.ofInt 64 (2 * x+18446744073709551616) ^^^ BitVec.ofInt 64 (-1 % 18446744073709551616)).toNat:Int) % 18446744073709551616))=_
  rw [e3,BitVec.toNat_not,wG];congr 2;omega
def YW (b:aJ) (r:List GV) (n:List UInt8) (p:Pl):Prop:=TT.lim 77 [dU b r,.s n]=some [.g [.i .u64 0,.i .i64 (bF p),.i .u64 (aK b p).1,.s (aK b p).2,.l []],.b true]
set_option maxHeartbeats 4000000 in
theorem akP (b:aJ) (r:List GV) (hb:qM b) {n:List UInt8} {p:Pl} (hd:p=.d->gV b.d=true) (hf:p=.t->zf b.t) (hp:placeOf n=some p):YW b r n p:=by
 have hI:=JQ hp;have hk:=(mJ n p hp).2.1;unfold YW;clear hp;induction p,hk using Hq
 case h0=>
  obtain ⟨u,w,h1,h2,h3⟩:=ap8 b.remaining hb.remaining.1 hb.remaining.2;have h2:IntKind.u64.wrap (b.remaining.fdiv 9223372036854775808)=w:=h2;have h3:fG .xor .u64 (IntKind.u64.wrap (u * 2)) w=some (.i .u64 (zz b.remaining)):=h3;refine bD rfl rfl ?_ rfl;simp [hI,mM,h1,h2,h3,IntKind.bits,bF,aK]
 case h1=>
  refine bD rfl rfl ?_ rfl;cases hc:b.allowed<;>simp [hI,bF,aK,hc]
 case h5=>
  have hk:=O7 b.d (hd rfl);refine bD rfl rfl ?_ rfl;by_cases e:b.d=[]
  ·have e':=eq_true e
   simp [hI,bF,aK,e']
  ·simp [hI,bF,aK,e,hk]
 case h6=>
  have hk:=aj7 b.t hb.t (hf rfl);refine bD rfl rfl ?_ rfl;by_cases e:b.t=[]
  ·have e':=eq_true e
   simp [hI,bF,aK,e']
  ·simp [hI,bF,aK,e,hk]
 all_goals
  refine bD rfl rfl ?_ rfl;simp [hI,bF,aK,jG]
theorem akQ (b:aJ) (r:List GV) {n:List UInt8} (hp:placeOf n=none):TT.lim 77 [dU b r,.s n]=some [.g [.i .u64 0,.i .i64 0,.i .u64 0,.s [],.l []],.b false]:=by
 have hI:=abL hp;refine bD rfl rfl ?_ rfl;simp [hI]
theorem Ui:∀ (n:Nat) (l:List One) (deep:Int),(∀x∈l,AO x/\x.text.length<=300)->l.length<=1000000->bY (fA n l deep).1
 | 0,l,deep,_,_=>by simp only [fA,bY]
 | n+1,[],deep,_,_=>by simp only [fA,bY]
 | n+1,x::l,deep,h,hl=>by
   have hx:=h x (by simp);have hl':∀y∈l,AO y/\y.text.length<=300:=λy hy=>h y (by simp [hy]);have hx1:=hx.1;unfold AO at hx1;simp only [iY] at hl;simp only [fA];split
   ·have hp:bY (if x.deep=255 then (([]:List aC),l) else fA n l (x.deep+1)).1/\(if x.deep=255 then (([]:List aC),l) else fA n l (x.deep+1)).1.length<=1000000/\∃k,(if x.deep=255 then (([]:List aC),l) else fA n l (x.deep+1)).2=l.drop k:=by
     split
     ·exact ⟨by simp only [bY],by simp,0,rfl⟩
     ·have:=DT n l (x.deep+1)
      exact ⟨Ui n l _ hl' (by omega),by omega,this.2⟩
    obtain ⟨p1,p2,k,p3⟩:=hp;simp only [bY,nX];refine ⟨⟨⟨hx1.2.2.2.2.1,hx1.2.2.2.2.2.1,hx1.2.2.1,hx1.2.2.2.1,hx1.2.2.2.2.2.2.1,hx1.2.2.2.2.2.2.2.1,iF hx.2 (by decide),p2⟩,p1⟩, ?_⟩;rw [p3];exact Ui n (l.drop k) deep (λy hy=>hl' y (AL hy)) (by rw [dX];omega)
   ·simp only [bY]
theorem akz (l:List One) (hl:Ones l) (hf:sZ l=true):bY (qI l)/\(qI l).length<=1000000:=by
 unfold sZ at hf;rw [aI,decide_eq_true_iff,List.all_eq_true] at hf;refine ⟨Ui _ l 0 (λx hx=>⟨hl.2 x hx,by simpa using hf.1 x hx⟩) (by omega), ?_⟩;have:=DT (l.length+1) l 0;unfold qI;omega
abbrev It:=Int×Int×List UInt8
def tV (a b:It):Bool:=if a.1=b.1 then decide (a.2.1 < b.2.1) else decide (a.1 < b.1)
def leI (a b:It):Prop:=tV b a=false
theorem Vo (a b:It):leI a b↔a.1 < b.1\/(a.1=b.1/\a.2.1<=b.2.1):=by
 unfold leI tV;split
 ·next h=>simp;omega
 ·next h=>simp;omega
theorem abV {a b c:It} (h1:leI a b) (h2:leI b c):leI a c:=by rw [Vo] at *;omega
theorem Vp {a b:It} (h:tV a b=true):leI a b:=by
 rw [Vo];unfold tV at h;split at h
 ·next e=>have:=yG h;omega
 ·next e=>have:=yG h;omega
theorem akg {a b:It} (h:leI a b):a.1<=b.1:=by rw [Vo] at h;omega
def dI:It:=(0,0,[])
abbrev at_ (h:List It) (i:Nat):It:=h.getD i dI
def Aq (h:List It) (i j:Nat):List It:=(h.set i (at_ h j)).set j (at_ h i)
theorem aoU (h:List It) (i j:Nat):(Aq h i j).length=h.length:=by simp [Aq]
theorem afz (h:List It) {i j:Nat} (hi:i < h.length) (hj:j < h.length) (k:Nat):at_ (Aq h i j) k=if k=j then at_ h i else if k=i then at_ h j else at_ h k:=by
 unfold Aq at_;simp only [vC,List.getElem?_set,List.length_set];by_cases h1:k=j
 ·subst h1;simp [hj]
 ·have h1':¬ j=k:=λe=>h1 e.symm
  rw [ah h1',ah h1];by_cases h2:k=i
  ·subst h2;simp [hi]
  ·have h2':¬ i=k:=λe=>h2 e.symm
   rw [ah h2',ah h2]
theorem swap_perm (h:List It) {i j:Nat} (hi:i < h.length) (hj:j < h.length):(Aq h i j).Perm h:=by
 have:=Array.swap_perm (xs:=h.toArray) (i:=i) (j:=j) (by simpa using hi) (by simpa using hj);have h2:=this.toList;simp only [Array.toList_swap] at h2;unfold Aq at_;simpa [vC,hi,hj] using h2
def par (k:Nat):Nat:=(k - 1) / 2
def Heap (h:List It) (n:Nat):Prop:=∀k,0 < k->k < n->leI (at_ h (par k)) (at_ h k)
def LG:Nat->List It->Nat->List It
 | 0,h,_=>h
 | f+1,h,j=>if par j=j\/tV (at_ h j) (at_ h (par j))=false then h else LG f (Aq h (par j) j) (par j)
structure YV (h:List It) (n j:Nat):Prop where
 jn:j < n
 heap:∀k,0 < k->k < n->k≠j->leI (at_ h (par k)) (at_ h k)
 kids:∀k,0 < k->k < n->par k=j->0 < j->leI (at_ h (par j)) (at_ h k)
theorem aeH:∀ (f:Nat) (h:List It) (j n:Nat),j < f->n=h.length->YV h n j->Heap (LG f h j) n/\(LG f h j).Perm h
 | 0,h,j,n,hf,_,_=>by omega
 | f+1,h,j,n,hf,hn,hu=>by
   unfold LG;split
   ·next hc=>
    refine ⟨λk h0 hk=>?_,Mc _⟩;by_cases e:k=j
    ·subst e
     rcases hc with hc | hc
     ·unfold par at hc;omega
     ·exact hc
    ·exact hu.heap k h0 hk e
   ·next hc=>
    rw [not_or] at hc;obtain ⟨c1,c2⟩:=hc;have c2:tV (at_ h j) (at_ h (par j))=true:=by simpa using c2
    have j0:0 < j:=by
     rcases RS j with e | e
     ·subst e;exact absurd rfl c1
     ·exact e
    have hp:par j < j:=by unfold par;omega
    have hjn:=hu.jn;have hsw:=afz h (i:=par j) (j:=j) (by omega) (by omega);have hu2:YV (Aq h (par j) j) n (par j):=by
     refine ⟨by omega,λk h0 hk hne=>?_,λk h0 hk hpk hp0=>?_⟩
     ·rw [hsw,hsw]
      by_cases e1:k=j
      ·subst e1
       rw [ah (by omega),aj rfl,aj rfl];exact Vp c2
      ·rw [ah e1,ah hne]
       by_cases e2:par k=j
       ·rw [aj e2]
        exact hu.kids k h0 hk e2 j0
       ·rw [ah e2]
        by_cases e3:par k=par j
        ·rw [aj e3]
         exact abV (Vp c2) (e3 ▸ hu.heap k h0 hk e1)
        ·rw [ah e3]
         exact hu.heap k h0 hk e1
     ·rw [hsw,hsw]
      have q:par (par j) < par j:=by unfold par at *;omega
      rw [ah (by omega),ah (by omega)];have hg:=hu.heap (par j) hp0 (by omega) (by omega);by_cases e1:k=j
      ·subst e1
       rw [aj rfl];exact hg
      ·rw [ah e1,ah (λe=>by rw [e] at hpk;omega)]
       exact abV hg (hpk ▸ hu.heap k h0 hk e1)
    obtain ⟨r1,r2⟩:=aeH f (Aq h (par j) j) (par j) n (by omega) (by rw [aoU];exact hn) hu2;exact ⟨r1,r2.trans (swap_perm h (by omega) (by omega))⟩
def Qh (h:List It) (x:It):List It:=LG (h.length+1) (h++[x]) h.length
theorem adn (h:List It) (x:It) (hh:Heap h h.length):Heap (Qh h x) (h.length+1)/\(Qh h x).Perm (h++[x]):=by
 refine aeH _ _ _ _ (by omega) (by simp) ⟨by omega,λk h0 hk hne=>?_,λk h0 hk hpk _=>?_⟩
 ·have hk2:k < h.length:=by omega
  have e1:at_ (h++[x]) k=at_ h k:=by simp [at_,kL (show k < h.length by omega)]
  have e2:at_ (h++[x]) (par k)=at_ h (par k):=by simp [at_,kL (show par k < h.length by unfold par;omega)]
  rw [e1,e2];exact hh k h0 (by omega)
 ·exfalso;unfold par at hpk;omega
theorem amo (h:List It) (x:It) (hh:Heap h h.length):(Qh h x).length=h.length+1:=by
 have:=(adn h x hh).2.length_eq;simpa using this
structure IY (h L:List It) (n:Int):Prop where
 heap:Heap h h.length
 perm:L.Perm h
 srt:L.Pairwise (λx y=>tV x y=true)
 low:∀x∈L,x.2.1 < n
theorem IY.len {h L:List It} {n:Int} (s:IY h L n):h.length=L.length:=s.perm.length_eq.symm
def insL (x:It):List It->List It
 | []=>[x]
 | y::L=>if y.1<=x.1 then y::insL x L else x::y::L
theorem O4 (x:It):∀L,(insL x L).Perm (L++[x])
 | []=>Mc _
 | y::L=>by
   unfold insL;split
   ·exact (O4 x L).cons y
   ·exact List.perm_append_comm (l₁:=[x]) (l₂:=y::L)
theorem akx {y x:It} (h:y.1<=x.1) (h2:y.2.1 < x.2.1):tV y x=true:=by
 unfold tV;split
 ·simpa using h2
 ·simp;omega
theorem ace {y x:It} (h:x.1 < y.1):tV x y=true:=by
 unfold tV;rw [ah (by omega)];simpa using h
theorem akw {x y:It} (h:tV x y=true):x.1<=y.1:=akg (Vp h)
theorem abB (x:It):∀L:List It,L.Pairwise (λa b=>tV a b=true)->(∀y∈L,y.2.1 < x.2.1)->(insL x L).Pairwise (λa b=>tV a b=true)
 | [],_,_=>by simp [insL]
 | y::L,hs,hlow=>by
   obtain ⟨h1,h2⟩:=qR.1 hs;unfold insL;split
   ·next hc=>
    refine qR.2 ⟨λz hz=>?_,abB x L h2 λz hz=>hlow z (wI _ hz)⟩;rcases kV.1 ((O4 x L).mem_iff.1 hz) with g | g
    ·exact h1 z g
    ·rw [IB] at g
     subst g;exact akx hc (hlow y List.mem_cons_self)
   ·next hc=>
    refine qR.2 ⟨λz hz=>?_,hs⟩;rcases bU.1 hz with rfl | g
    ·exact ace (by omega)
    ·exact ace (by have:=akw (h1 z g);omega)
theorem IY.put {h L:List It} {n a:Int} {t:List UInt8} (s:IY h L n):IY (Qh h (a,n,t)) (insL (a,n,t) L) (n+1):=by
 have hp:=adn h (a,n,t) s.heap;have hl:=amo h (a,n,t) s.heap;refine ⟨by rw [hl];exact hp.1,(O4 _ _).trans ((s.perm.append_right _).trans hp.2.symm),abB _ _ s.srt s.low,λx hx=>?_⟩;rcases kV.1 ((O4 _ _).mem_iff.1 hx) with g | g
 ·have:=s.low x g;omega
 ·rw [IB] at g
  subst g;show n < n+1
  omega
/-- What may be kept. -/
structure Kp (k:List Sn):Prop where
 len:k.length<=8
 tb:∀s∈k,Tb s.2
 pos:∀s∈k,0 < s.1/\s.1 < 18446744073709551616
 rise:k.Pairwise λa b=>a.1 < b.1/\Zc b.2 a.2=true
theorem Kp.nil:Kp []:=⟨by decide,by simp,by simp,List.Pairwise.nil⟩
theorem Kp.drop {k:List Sn} (hk:Kp k) (i:Nat):Kp (k.drop i):=
 ⟨by have:=hk.len;rw [dX];omega,λs hs=>hk.tb s (AL hs),λs hs=>hk.pos s (AL hs),hk.rise.sublist (List.drop_sublist i k)⟩
theorem apK {v:Int} (h0:0<=v) (h1:v < 256):1<=IntKind.i64.wrap (IntKind.i64.wrap (v.tmod 3)+1)/\IntKind.i64.wrap (IntKind.i64.wrap (v.tmod 3)+1)<=3:=by
 have h2:v.tmod 3=v % 3:=Int.tmod_eq_emod_of_nonneg h0;rw [h2,wrap64 (n:=v % 3) (by omega) (by omega),wrap64 (n:=v % 3+1) (by omega) (by omega)];omega
theorem aiX {g:GV} (h:(bG.int .u8).has g):∃n,g=.i .u8 n/\0<=n/\n < 256:=by
 simp only [bG.has] at h;obtain ⟨n,rfl,b1,b2⟩:=h;exact ⟨n,rfl,by simpa [IntKind.min,IntKind.signed] using b1,by simp [IntKind.max,IntKind.signed,IntKind.bits] at b2;omega⟩
/-- What was published by its epoch. -/
def afd (xs:List GV) (k:List Sn):Prop:=∀s∈k,eU (.i .u64 s.1) xs=some (sn s)
theorem key_inj {a b:Int} {x:GV} (h1:iW (.i .u64 a) x=true) (h2:iW (.i .u64 b) x=true):a=b:=by
 cases x<;>simp [iW] at h1 h2
 omega
theorem abP (a b:Int):iW (.i .u64 a) (.i .u64 b)=decide (a=b):=by
 simp only [iW];rw [oU];simp
theorem wR (a b:Int) (u:GV):∀xs:List GV,eU (.i .u64 a) (iH (.i .u64 b) u xs)=if a=b then some u else eU (.i .u64 a) xs
 | []=>by
   show (if iW (.i .u64 a) (.i .u64 b)=true then some u else none)=_
   rw [abP];by_cases h:a=b<;>simp [h,eU]
 | .g [x,v]::xs=>by
   have ih:=wR a b u xs;show eU (.i .u64 a) (if iW (.i .u64 b) x=true then .g [.i .u64 b,u]::xs else .g [x,v]::iH (.i .u64 b) u xs)=if a=b then some u else (if iW (.i .u64 a) x=true then some v else eU (.i .u64 a) xs)
   cases hb:iW (.i .u64 b) x with
   | true=>
     rw [aj rfl];show (if iW (.i .u64 a) (.i .u64 b)=true then some u else eU (.i .u64 a) xs)=_
     rw [abP];by_cases h:a=b
     ·simp [h]
     ·cases ha:iW (.i .u64 a) x with
      | true=>exact absurd (key_inj ha hb) h
      | false=>simp [h]
   | false=>
     rw [ah (by simp)];show (if iW (.i .u64 a) x=true then some v else eU (.i .u64 a) (iH (.i .u64 b) u xs))=_
     rw [ih];cases ha:iW (.i .u64 a) x with
     | true=>
       by_cases h:a=b
       ·subst h;rw [ha] at hb;cases hb
       ·simp [h]
     | false=>simp
 | .g []::xs=>wR a b u xs
 | .g [_]::xs=>wR a b u xs
 | .g (_::_::_::_)::xs=>wR a b u xs
 | .i _ _::xs=>wR a b u xs
 | .b _::xs=>wR a b u xs
 | .s _::xs=>wR a b u xs
 | .l _::xs=>wR a b u xs
structure Lead (xs:List GV) (k:List Sn) (b:Int):Prop where
 kp:Kp k
 map:afd xs k
 base:b=0\/∃s∈k,s.1=b
abbrev An:=Int×Int×Int×Int
/-- A message of a sender. -/
abbrev Tm:=Int×Int×Int×List Row
def ae4 (xs:List GV) (m:Tm):Prop:=
 (m.1=5/\Tb m.2.2.2/\(0 < m.2.1/\m.2.1 < 18446744073709551616)/\m.2.2.1=0/\eU (.i .u64 m.2.1) xs=some (sn (m.2.1,m.2.2.2)))\/
 (m.1=6/\Tb m.2.2.2/\(0 < m.2.2.1/\m.2.2.1 < m.2.1/\m.2.1 < 18446744073709551616)/\∃s l:Sn,eU (.i .u64 m.2.2.1) xs=some (sn s)/\eU (.i .u64 m.2.1) xs=some (sn l)/\l.1=m.2.1/\s.1=m.2.2.1/\Tb l.2/\afx s (m.2.2.1,m.2.1,m.2.2.2)=(l,0))
/-- A sender and a receiver, and what was told between them. -/
structure Yv (xs:List GV) (told:List Tm) (back:List An) (k:List Sn) (b:Int) (sm:Bool) (h:Sn):Prop where
 lead:Lead xs k b
 keys:∀e g,eU (.i .u64 e) xs=some g->∃l,k.getLast? = some l/\e<=l.1
 told:∀m∈told,ae4 xs m
 back:∀a∈back,a.1=7->sm=true/\a.2.1<=h.1
 has:(sm=true/\eU (.i .u64 h.1) xs=some (sn h)/\Tb h.2)\/(sm=false/\h=zS)
 base:b<=0\/(sm=true/\b<=h.1)
 zero:eU (.i .u64 0) xs=none
theorem Yv.tb {xs:List GV} {told:List Tm} {back:List An} {k:List Sn} {b:Int} {sm:Bool} {h:Sn} (f:Yv xs told back k b sm h):Tb h.2:=by
 rcases f.has with ⟨-, -,h1⟩ | ⟨-,h1⟩
 ·exact h1
 ·rw [h1];exact apf
end U
end Go.Proofs.YtjglbndncdkhhaaGreatDoor
