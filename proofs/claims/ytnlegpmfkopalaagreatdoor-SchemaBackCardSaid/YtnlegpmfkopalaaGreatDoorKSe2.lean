/- What the trees compute: plain laws. -/
import Derived.Test.YtnlegpmfkopalaaGreatDoorKSe1
namespace Go.Proofs.YtnlegpmfkopalaaGreatDoor
open Go Go.aN
set_option linter.unusedSimpArgs false
set_option linter.unusedVariables false
set_option maxRecDepth 100000
namespace S
structure One where
 deep:Int
 tag:Int
 typ:Int
 num:Int
 text:List UInt8
inductive aC where
 | mk (tag typ num:Int) (text:List UInt8) (l:List aC)
def one (x:One):GV:=.g [.i .u8 x.deep,.i .u64 x.tag,.i .i8 x.typ,.i .u64 x.num,.s x.text]
@[simp] theorem atH (x:One):(one x).cells=[.i .u8 x.deep,.i .u64 x.tag,.i .i8 x.typ,.i .u64 x.num,.s x.text]:=rfl
mutual
def mP:aC->GV
 | .mk t y n s l=>.g [.i .u64 t,.i .i64 y,.i .u64 n,.s s,.l (aA l)]
def aA:List aC->List GV
 | []=>[]
 | f::l=>mP f::aA l
end
theorem TW:∀ (a b:List aC),aA (a++b)=aA a++aA b
 | [],b=>rfl
 | f::a,b=>by simp only [eG,aA,TW a b]
theorem kY:∀ (a:List aC),(aA a).length=a.length
 | []=>rfl
 | f::a=>by simp only [aA,iT,kY a]
def AQ (x:One):Prop:=0<=x.deep/\x.deep<=255/\-128<=x.typ/\x.typ<=127/\0<=x.tag/\x.tag < 18446744073709551616/\0<=x.num/\x.num < 18446744073709551616/\x.text.length<=140737488351232
def Ones (l:List One):Prop:=l.length<=140737488351232/\∀x∈l,AQ x
def tX (l:List One):Bool:=l.all (λx=>decide (x.text.length<=300))&&decide (l.length<=60)
theorem aax (l:List One) (hl:l.length<=140737488351232):∀m i:Nat,i+m=l.length->TT.lim 15 [.l (l.map one),.i .i64 l.length,.i .i64 i]=some (if (l.drop i).all (λx=>decide (x.text.length<=300))=true then [.i .i64 1] else [.i .i64 0])
 | 0,i,hi=>by
   have h0:l.drop i=[]:=gJ (by omega);refine aB rfl rfl ?_;have h:¬ ((i:Int) < l.length):=by omega
   simp [h,h0]
 | m+1,i,hi=>by
   have hlt:i < l.length:=by omega
   have ih:TT.lim 15 [.l (l.map one),.i .i64 l.length,.i .i64 ((i:Int)+1)]=_:=aax l hl m (i+1) (by omega);refine aB rfl rfl ?_;have h:((i:Int) < l.length):=by omega
   have hw:=wrap64 (n:=(i:Int)+1) (by omega) (by omega);have hda:(l.drop i).all (λx=>decide (x.text.length<=300))=(decide (l[i].text.length<=300)&&(l.drop (i+1)).all (λx=>decide (x.text.length<=300))):=by rw [jc hlt,rF]
   by_cases hf:(300:Int) < (l[i].text.length:Int)
   ·have:decide (l[i].text.length<=300)=false:=by simp;omega
    simp [-List.all_eq_true,h,hlt,hf,hda,this]
   ·have:decide (l[i].text.length<=300)=true:=by simp;omega
    rw [hda,this,Jh];simp [-List.all_eq_true,h,hlt,hw,hf,ih]
theorem aiH (l:List One) (hl:l.length<=140737488351232):TT.lim 14 [.l (l.map one)]=some [.b (tX l)]:=by
 refine aY rfl rfl ?_ rfl;have h5:TT.lim 15 [.l (l.map one),.i .i64 l.length,.i .i64 0]=_:=aax l hl l.length 0 (by omega);rw [eP] at h5;cases hc:l.all (λx=>decide (x.text.length<=300)) with
 | false=>rw [hc] at h5;simp [-List.all_eq_true,h5,tX,hc]
 | true=>
   rw [hc] at h5;simp only [if_true] at h5;have:(decide ((l.length:Int)<=60))=decide (l.length<=60):=by rw [pJ];simp;omega
   simp [-List.all_eq_true,h5,tX,hc,this]
/-- What Make makes: of the first ones that are at least so deep; and the others. -/
def fE:Nat->List One->Int->List aC×List One
 | 0,l,_=>([],l)
 | _+1,[],_=>([],[])
 | n+1,x::l,deep=>
   if deep<=x.deep then
    let p:=if x.deep=255 then ([],l) else fE n l (x.deep+1)
    let q:=fE n p.2 deep
    (.mk x.tag x.typ x.num x.text p.1::q.1,q.2)
   else ([],x::l)
theorem D7:∀ (n:Nat) (l:List One) (deep:Int),(fE n l deep).1.length+(fE n l deep).2.length<=l.length/\∃k,(fE n l deep).2=l.drop k
 | 0,l,deep=>by simp only [fE];exact ⟨by simp,0,rfl⟩
 | n+1,[],deep=>by simp only [fE];exact ⟨by simp,0,rfl⟩
 | n+1,x::l,deep=>by
   simp only [fE];split
   ·by_cases hx:x.deep=255
    ·rw [aj hx]
     obtain ⟨h1,k,h2⟩:=D7 n l deep;refine ⟨by simp only [iT];omega,k+1,by simp only [h2,Jl]⟩
    ·rw [ah hx]
     obtain ⟨h1,k,h2⟩:=D7 n l (x.deep+1);obtain ⟨h3,k',h4⟩:=D7 n (fE n l (x.deep+1)).2 deep;refine ⟨by simp only [iT];omega,k+k'+1, ?_⟩;simp only [h4,Jl];rw [h2,oq]
   ·exact ⟨by simp,0,rfl⟩
def Hg (x:One) (l:List aC):GV:=.g [.i .u64 x.tag,.i .i64 x.typ,.i .u64 x.num,.s x.text,.l (aA l)]
theorem OA:∀ (n:Nat) (l:List One) (deep:Int) (acc:List aC),l.length < n->acc.length+l.length<=1000000->(∀x∈l,AQ x)->
 TT.lim 19 [.l (l.map one),.i .u8 deep,.l (aA acc)]=some [.i .i64 0,.l ((fE n l deep).2.map one),.l (aA (acc++(fE n l deep).1))]
 | 0,l,deep,acc,hn,_,_=>by omega
 | n+1,[],deep,acc,hn,hb,hl=>by
   refine aB rfl rfl ?_;simp [fE]
 | n+1,x::l,deep,acc,hn,hb,hl=>by
   have hx:=hl x (by simp);have hl':∀y∈l,AQ y:=λy hy=>hl y (by simp [hy]);simp only [iT] at hn hb;have hw:=wrap64 (n:=x.typ) (by have:=hx.2.2.1;omega) (by have:=hx.2.2.2.1;omega);have hb2:2 * ((aA acc).length+1) * 64<=281474976710656:=by rw [kY];omega
   have hb3:(aA acc).length<=281474976710655:=by rw [kY];omega
   have hcast:((l.length:Int)+1).toNat=l.length+1:=by omega
   have h1:(1:Int)<=(l.length:Int)+1:=by omega
   have htake:List.take l.length (l.map one)=l.map one:=jJ (by simp);have hall:∀y∈l.map one,y.cells.length=5:=by
    intro y hy;obtain ⟨z,_,rfl⟩:=mF.1 hy;rfl
   refine aB rfl rfl ?_;by_cases hd:deep<=x.deep
   ·by_cases OJ:x.deep=255
    ·have ih:=OA n l deep (acc++[.mk x.tag x.typ x.num x.text []]) (by omega) (by simp;omega) hl'
     have e:fE (n+1) (x::l) deep=(.mk x.tag x.typ x.num x.text []::(fE n l deep).1,(fE n l deep).2):=by
      simp only [fE,aj hd,aj OJ]
     rw [e];rw [List.append_assoc,TW] at ih;have e2:aA [aC.mk x.tag x.typ x.num x.text []]=[Hg x []]:=rfl;rw [e2] at ih;have hel:(Hg x []).fJ 5=true:=rfl;have hfold:GV.g [.i .u64 x.tag,.i .i64 x.typ,.i .u64 x.num,.s x.text,.l []]=Hg x []:=rfl;have h0:(0:Int) < (l.length:Int)+1:=by omega
     have hd2:deep<=255:=by omega
     simp [hd2,OJ,hw,hfold,hel,hb2,hb3,hall,h0,h1,htake,hcast,ih]
    ·have hf:=D7 n l (x.deep+1)
     have ih1:=OA n l (x.deep+1) [] (by omega) (by simp;omega) hl';have hk:TT.lim 18 [.l (l.map one),.i .u8 (x.deep+1)]=some [.l (aA (fE n l (x.deep+1)).1),.l ((fE n l (x.deep+1)).2.map one)]:=by
      refine aY rfl rfl ?_ rfl;have ih1':TT.lim 19 [.l (l.map one),.i .u8 (x.deep+1),.l []]=_:=ih1;simp [ih1']
     have ih2:=OA n (fE n l (x.deep+1)).2 deep (acc++[.mk x.tag x.typ x.num x.text (fE n l (x.deep+1)).1]) (by omega) (by simp;omega) (λy hy=>by
      obtain ⟨_,k,e⟩:=hf;rw [e] at hy;exact hl' y (AP hy))
     have e:fE (n+1) (x::l) deep=(.mk x.tag x.typ x.num x.text (fE n l (x.deep+1)).1::(fE n (fE n l (x.deep+1)).2 deep).1,(fE n (fE n l (x.deep+1)).2 deep).2):=by
      simp only [fE,aj hd,ah OJ]
     rw [e];rw [List.append_assoc,TW] at ih2;generalize fE n l (x.deep+1)=p at *;obtain ⟨p1,p2⟩:=p;simp only at *;have e2:aA [aC.mk x.tag x.typ x.num x.text p1]=[Hg x p1]:=rfl;rw [e2] at ih2;have hel:(Hg x p1).fJ 5=true:=rfl;have hfold:GV.g [.i .u64 x.tag,.i .i64 x.typ,.i .u64 x.num,.s x.text,.l (aA p1)]=Hg x p1:=rfl;have h0:(0:Int) < (l.length:Int)+1:=by omega
     have hw8:=aeY (n:=x.deep+1) (by have:=hx.1;omega) (by have:=hx.2.1;omega);simp [hd,OJ,hw,hw8,hk,hfold,hel,hb2,hb3,hall,h0,h1,htake,hcast,ih2]
   ·have e:fE (n+1) (x::l) deep=([],x::l):=by simp only [fE,ah hd]
    rw [e];have h0:(0:Int) < (l.length:Int)+1:=by omega
    simp [hd,h0]
def rX (l:List One):List aC:=(fE (l.length+1) l 0).1
theorem ak5 (l:List One) (hl:∀x∈l,AQ x) (h60:l.length<=1000000):TT.lim 17 [.l (l.map one)]=some [.l (aA (rX l))]:=by
 have hk:TT.lim 18 [.l (l.map one),.i .u8 0]=some [.l (aA (rX l)),.l ((fE (l.length+1) l 0).2.map one)]:=by
  refine aY rfl rfl ?_ rfl;have ih1:TT.lim 19 [.l (l.map one),.i .u8 0,.l []]=_:=OA (l.length+1) l 0 [] (by omega) (by simp;omega) hl;simp [ih1,rX]
 refine aY rfl rfl ?_ rfl;simp [hk]
structure aK where
 kind:Int
 id:Int
 min:Int
 max:Int
 chosen:Int
 flags:Int
 cost:Int
 priority:Int
 deadline:Int
 retry:Int
 epoch:Int
 base:Int
 digest:Int
 lag:Int
 code:Int
 want:Int
 remaining:Int
 allowed:Bool
 name:List UInt8
 region:List UInt8
 note:List UInt8
 d:List dH
 t:List Row
/-- A message: what it has, and its rest. -/
def fC (b:aK) (r:List GV):GV:=.g [.i .i64 b.kind,.i .u64 b.id,.i .u64 b.min,.i .u64 b.max,.i .u64 b.chosen,.i .u64 b.flags,.i .u64 b.cost,.i .u64 b.priority,.i .u64 b.deadline,.i .u64 b.retry,.i .u64 b.epoch,.i .u64 b.base,.i .u64 b.digest,.i .u64 b.lag,.i .u64 b.code,.i .u64 b.want,.i .i64 b.remaining,.b b.allowed,.s b.name,.s b.region,.s b.note,.l (b.d.map ent),.l (b.t.map row),.l r]
theorem kQ (b:aK) (r:List GV):GV.g [.i .i64 b.kind,.i .u64 b.id,.i .u64 b.min,.i .u64 b.max,.i .u64 b.chosen,.i .u64 b.flags,.i .u64 b.cost,.i .u64 b.priority,.i .u64 b.deadline,.i .u64 b.retry,.i .u64 b.epoch,.i .u64 b.base,.i .u64 b.digest,.i .u64 b.lag,.i .u64 b.code,.i .u64 b.want,.i .i64 b.remaining,.b b.allowed,.s b.name,.s b.region,.s b.note,.l (b.d.map ent),.l (b.t.map row),.l r]=fC b r:=rfl
@[simp] theorem dX (b:aK) (r:List GV):(fC b r).cells=[.i .i64 b.kind,.i .u64 b.id,.i .u64 b.min,.i .u64 b.max,.i .u64 b.chosen,.i .u64 b.flags,.i .u64 b.cost,.i .u64 b.priority,.i .u64 b.deadline,.i .u64 b.retry,.i .u64 b.epoch,.i .u64 b.base,.i .u64 b.digest,.i .u64 b.lag,.i .u64 b.code,.i .u64 b.want,.i .i64 b.remaining,.b b.allowed,.s b.name,.s b.region,.s b.note,.l (b.d.map ent),.l (b.t.map row),.l r]:=rfl
structure vJ (b:aK):Prop where
 kind : -9223372036854775808<=b.kind/\b.kind<=9223372036854775807
 id:0<=b.id/\b.id < 18446744073709551616
 min:0<=b.min/\b.min < 18446744073709551616
 max:0<=b.max/\b.max < 18446744073709551616
 chosen:0<=b.chosen/\b.chosen < 18446744073709551616
 flags:0<=b.flags/\b.flags < 18446744073709551616
 cost:0<=b.cost/\b.cost < 18446744073709551616
 priority:0<=b.priority/\b.priority < 18446744073709551616
 deadline:0<=b.deadline/\b.deadline < 18446744073709551616
 retry:0<=b.retry/\b.retry < 18446744073709551616
 epoch:0<=b.epoch/\b.epoch < 18446744073709551616
 base:0<=b.base/\b.base < 18446744073709551616
 digest:0<=b.digest/\b.digest < 18446744073709551616
 lag:0<=b.lag/\b.lag < 18446744073709551616
 code:0<=b.code/\b.code < 18446744073709551616
 want:0<=b.want/\b.want < 18446744073709551616
 remaining : -9223372036854775808<=b.remaining/\b.remaining<=9223372036854775807
 name:b.name.length<=140737488351232
 region:b.region.length<=140737488351232
 note:b.note.length<=140737488351232
 d:uK b.d
 t:Rows b.t
def G6 (b:aK) (l:List One):Bool:=decide (b.name.length<=600)&&(decide (b.region.length<=600)&&(decide (b.note.length<=600)&&(iJ b.d&&(BG b.t&&tX l))))
theorem aiF (b:aK) (l:List One) (hb:vJ b) (hl:Ones l):TT.lim 2 [fC b (l.map one)]=some [.b (G6 b l)]:=by
 have h12:=aaw b.d hb.d;have h13:=aiG b.t hb.t;have h8:=aiH l hl.1;have e1:(decide ((b.name.length:Int)<=600))=decide (b.name.length<=600):=by rw [pJ];simp;omega
 have e2:(decide ((b.region.length:Int)<=600))=decide (b.region.length<=600):=by rw [pJ];simp;omega
 have e3:(decide ((b.note.length:Int)<=600))=decide (b.note.length<=600):=by rw [pJ];simp;omega
 refine aY rfl rfl ?_ rfl;unfold G6;generalize iJ b.d=c1 at *;generalize BG b.t=c2 at *;generalize tX l=c3 at *;cases f1:decide (b.name.length<=600) with
 | false=>rw [f1] at e1;simp at e1;have e1':¬ ((b.name.length:Int)<=600):=by omega
          simp [e1']
 | true=>
 rw [f1] at e1;have e1':((b.name.length:Int)<=600):=by simpa using e1
 cases f2:decide (b.region.length<=600) with
 | false=>rw [f2] at e2;simp at e2;have e2':¬ ((b.region.length:Int)<=600):=by omega
          simp [e1',e2']
 | true=>
 rw [f2] at e2;have e2':((b.region.length:Int)<=600):=by simpa using e2
 cases f3:decide (b.note.length<=600) with
 | false=>rw [f3] at e3;simp at e3;have e3':¬ ((b.note.length:Int)<=600):=by omega
          simp [e1',e2',e3']
 | true=>
 rw [f3] at e3;have e3':((b.note.length:Int)<=600):=by simpa using e3
 cases c1<;>cases c2<;>simp [e1',e2',e3',h12,h13,h8]
theorem ak3 (b:aK) (l:List One) (hl:Ones l) (hf:tX l=true):TT.lim 16 [fC b (l.map one)]=some [fC b (aA (rX l))]:=by
 have h8:l.length<=60:=by unfold tX at hf;rw [aI,decide_eq_true_iff] at hf;exact hf.2
 have hm:=ak5 l hl.2 (by omega);refine aY rfl rfl ?_ rfl;simp [hm,kQ]
theorem Uo {k:IntKind} {g:GV} (h:(bT.int k).has g):∃n,g=.i k n/\k.min<=n/\n<=k.max:=by
 simp only [bT.has] at h;exact h
theorem aaY {g:GV} (h:(bT.int .i64).has g):∃n,g=.i .i64 n/\-9223372036854775808<=n/\n<=9223372036854775807:=by
 obtain ⟨n,rfl,h1,h2⟩:=Uo h;exact ⟨n,rfl,by simpa [IntKind.min,IntKind.signed,IntKind.bits] using h1,by simpa [IntKind.max,IntKind.signed,IntKind.bits] using h2⟩
theorem ajq {g:GV} (h:bT.bool.has g):∃b,g=.b b:=by simpa only [bT.has] using h
theorem ah0 {g:GV} (h:(bT.list true [.str,.str]).has g):∃l:List dH,uK l/\g=.l (l.map ent):=by
 obtain ⟨xs,rfl,h1,h2⟩:=OT h;obtain ⟨rs,h3,rfl⟩:=KL (f:=ent) (p:=λr:dH=>r.1.length<=140737488351232/\r.2.length<=140737488351232) λx hx=>by
  obtain ⟨h4,h5⟩:=h2 x hx;cases x<;>simp [GV.scalar] at h5
  next cs=>
  simp only [SQ] at h4;obtain ⟨a,r,rfl,ha,h4⟩:=iE h4;obtain ⟨c,r,rfl,hc,h4⟩:=iE h4;obtain rfl:=Ku h4;obtain ⟨u,rfl,hu⟩:=BL ha;obtain ⟨v,rfl,hv⟩:=BL hc;exact ⟨(u,v),⟨hu,hv⟩,rfl⟩
 exact ⟨rs,⟨by rw [vO] at h1;exact h1,h3⟩,rfl⟩
theorem amd {g:GV} (h:(bT.list true [.int .u8,.int .u64,.int .i8,.int .u64,.str]).has g):∃l:List One,Ones l/\g=.l (l.map one):=by
 obtain ⟨xs,rfl,h1,h2⟩:=OT h;obtain ⟨rs,h3,rfl⟩:=KL (f:=one) (p:=AQ) λx hx=>by
  obtain ⟨h4,h5⟩:=h2 x hx;cases x<;>simp [GV.scalar] at h5
  next cs=>
  simp only [SQ] at h4;obtain ⟨a,r,rfl,ha,h4⟩:=iE h4;obtain ⟨c,r,rfl,hc,h4⟩:=iE h4;obtain ⟨e,r,rfl,he,h4⟩:=iE h4;obtain ⟨f,r,rfl,hf,h4⟩:=iE h4;obtain ⟨s,r,rfl,hs,h4⟩:=iE h4;obtain rfl:=Ku h4;obtain ⟨a,rfl,a1,a2⟩:=Uo ha;obtain ⟨c,rfl,c1,c2⟩:=oZ hc;obtain ⟨e,rfl,e1,e2⟩:=Uo he;obtain ⟨f,rfl,f1,f2⟩:=oZ hf;obtain ⟨s,rfl,hs0⟩:=BL hs;have a1':0<=a:=by simpa [IntKind.min,IntKind.signed] using a1
  have a2':a<=255:=by simpa [IntKind.max,IntKind.signed,IntKind.bits] using a2
  have e1' : -128<=e:=by simpa [IntKind.min,IntKind.signed,IntKind.bits] using e1
  have e2':e<=127:=by simpa [IntKind.max,IntKind.signed,IntKind.bits] using e2
  exact ⟨⟨a,c,e,f,s⟩,⟨a1',a2',e1',e2',c1,c2,f1,f2,hs0⟩,rfl⟩
 exact ⟨rs,⟨by rw [vO] at h1;exact h1,h3⟩,rfl⟩
abbrev adA:List bT:=[.int .i64,.int .u64,.int .u64,.int .u64,.int .u64,.int .u64,.int .u64,.int .u64,.int .u64,.int .u64,.int .u64,.int .u64,.int .u64,.int .u64,.int .u64,.int .u64,.int .i64,.bool,.str,.str,.str,.list true [.str,.str],.list true [.list true [.str,.str],.int .u64],.list true [.int .u8,.int .u64,.int .i8,.int .u64,.str]]
theorem anI {cs:List GV} (h:bT.iw adA cs):∃b l,vJ b/\Ones l/\GV.g cs=fC b (l.map one):=by
 obtain ⟨_,_,rfl,h1,g0⟩:=iE h;obtain ⟨x0,rfl,k0⟩:=aaY h1;obtain ⟨_,_,rfl,h1,g1⟩:=iE g0;obtain ⟨x1,rfl,k1⟩:=oZ h1;obtain ⟨_,_,rfl,h1,g2⟩:=iE g1;obtain ⟨x2,rfl,k2⟩:=oZ h1;obtain ⟨_,_,rfl,h1,g3⟩:=iE g2;obtain ⟨x3,rfl,k3⟩:=oZ h1;obtain ⟨_,_,rfl,h1,g4⟩:=iE g3;obtain ⟨x4,rfl,k4⟩:=oZ h1;obtain ⟨_,_,rfl,h1,g5⟩:=iE g4;obtain ⟨x5,rfl,k5⟩:=oZ h1;obtain ⟨_,_,rfl,h1,g6⟩:=iE g5;obtain ⟨x6,rfl,k6⟩:=oZ h1;obtain ⟨_,_,rfl,h1,g7⟩:=iE g6;obtain ⟨x7,rfl,k7⟩:=oZ h1;obtain ⟨_,_,rfl,h1,g8⟩:=iE g7;obtain ⟨x8,rfl,k8⟩:=oZ h1;obtain ⟨_,_,rfl,h1,g9⟩:=iE g8;obtain ⟨x9,rfl,k9⟩:=oZ h1;obtain ⟨_,_,rfl,h1,g10⟩:=iE g9;obtain ⟨x10,rfl,k10⟩:=oZ h1;obtain ⟨_,_,rfl,h1,g11⟩:=iE g10;obtain ⟨x11,rfl,k11⟩:=oZ h1;obtain ⟨_,_,rfl,h1,g12⟩:=iE g11;obtain ⟨x12,rfl,k12⟩:=oZ h1;obtain ⟨_,_,rfl,h1,g13⟩:=iE g12;obtain ⟨x13,rfl,k13⟩:=oZ h1;obtain ⟨_,_,rfl,h1,g14⟩:=iE g13;obtain ⟨x14,rfl,k14⟩:=oZ h1;obtain ⟨_,_,rfl,h1,g15⟩:=iE g14;obtain ⟨x15,rfl,k15⟩:=oZ h1;obtain ⟨_,_,rfl,h1,g16⟩:=iE g15;obtain ⟨x16,rfl,k16⟩:=aaY h1;obtain ⟨_,_,rfl,h1,g17⟩:=iE g16;obtain ⟨x17,rfl⟩:=ajq h1;obtain ⟨_,_,rfl,h1,g18⟩:=iE g17;obtain ⟨x18,rfl,k18⟩:=BL h1;obtain ⟨_,_,rfl,h1,g19⟩:=iE g18;obtain ⟨x19,rfl,k19⟩:=BL h1;obtain ⟨_,_,rfl,h1,g20⟩:=iE g19;obtain ⟨x20,rfl,k20⟩:=BL h1;obtain ⟨_,_,rfl,h1,g21⟩:=iE g20;obtain ⟨x21,k21,rfl⟩:=ah0 h1;obtain ⟨_,_,rfl,h1,g22⟩:=iE g21;obtain ⟨x22,k22,rfl⟩:=an3 h1;obtain ⟨_,_,rfl,h1,g23⟩:=iE g22;obtain ⟨x23,k23,rfl⟩:=amd h1;obtain rfl:=Ku g23;exact ⟨⟨x0,x1,x2,x3,x4,x5,x6,x7,x8,x9,x10,x11,x12,x13,x14,x15,x16,x17,x18,x19,x20,x21,x22⟩,x23,⟨k0,k1,k2,k3,k4,k5,k6,k7,k8,k9,k10,k11,k12,k13,k14,k15,k16,k18,k19,k20,k21,k22⟩,k23,rfl⟩
structure cZ where
 tag:Int
 use:Int
 from_:Int
 name:List UInt8
def eF (s:cZ):GV:=.g [.i .u64 s.tag,.i .i64 s.use,.i .i64 s.from_,.s s.name]
@[simp] theorem at6 (s:cZ):(eF s).cells=[.i .u64 s.tag,.i .i64 s.use,.i .i64 s.from_,.s s.name]:=rfl
theorem aps (s:cZ):GV.g [.i .u64 s.tag,.i .i64 s.use,.i .i64 s.from_,.s s.name]=eF s:=rfl
def sp1:List cZ:=[⟨1,0,1,[109,105,110]⟩,⟨2,0,1,[109,97,120]⟩,⟨3,3,1,[110,97,109,101]⟩,⟨4,3,2,[114,101,103,105,111,110]⟩,⟨5,0,3,[102,108,97,103,115]⟩]
def sp2:List cZ:=[⟨1,0,1,[99,104,111,115,101,110]⟩,⟨2,3,1,[110,97,109,101]⟩,⟨3,3,2,[114,101,103,105,111,110]⟩]
def qB:List cZ:=[⟨1,0,1,[105,100]⟩,⟨2,4,1,[100,101,115,99,114]⟩,⟨3,0,1,[99,111,115,116]⟩,⟨4,0,2,[112,114,105,111,114,105,116,121]⟩,⟨5,0,3,[100,101,97,100,108,105,110,101]⟩]
def yP:List cZ:=[⟨1,0,1,[105,100]⟩,⟨2,1,1,[97,108,108,111,119,101,100]⟩,⟨3,2,1,[114,101,109,97,105,110,105,110,103]⟩,⟨4,0,2,[114,101,116,114,121]⟩,⟨5,3,3,[110,111,116,101]⟩]
def qC:List cZ:=[⟨1,0,1,[101,112,111,99,104]⟩,⟨2,5,1,[116,97,98,108,101]⟩,⟨3,3,2,[114,101,103,105,111,110]⟩,⟨4,0,3,[100,105,103,101,115,116]⟩]
def qE:List cZ:=[⟨1,0,2,[98,97,115,101]⟩,⟨2,0,2,[101,112,111,99,104]⟩,⟨3,5,2,[116,97,98,108,101]⟩,⟨4,3,2,[114,101,103,105,111,110]⟩,⟨5,0,3,[100,105,103,101,115,116]⟩]
def yQ:List cZ:=[⟨1,0,1,[101,112,111,99,104]⟩,⟨2,0,3,[108,97,103]⟩]
def yR:List cZ:=[⟨1,0,1,[101,112,111,99,104]⟩,⟨2,0,1,[99,111,100,101]⟩,⟨3,0,2,[119,97,110,116]⟩,⟨4,3,3,[110,111,116,101]⟩]
def lq (k:Int):List cZ:=if k=1 then sp1 else if k=2 then sp2 else if k=3 then qB else if k=4 then yP else if k=5 then qC else if k=6 then qE else if k=7 then yQ else if k=8 then yR else []
def jw (k:Int):Int:=if k=1 then 1 else if k=2 then 1 else if k=3 then 1 else if k=4 then 1 else if k=5 then 1 else if k=6 then 2 else if k=7 then 1 else if k=8 then 1 else 0
def aH (k v:Int):List cZ:=(lq k).filter λs=>decide (s.from_<=v)
theorem ajA:TT.lim 25 []=some [.l (sp1.map eF)]:=by refine aY rfl rfl ?_ rfl;simp [sp1,eF]
theorem ajz:TT.lim 27 []=some [.l (sp2.map eF)]:=by refine aY rfl rfl ?_ rfl;simp [sp2,eF]
theorem af6:TT.lim 28 []=some [.l (qB.map eF)]:=by refine aY rfl rfl ?_ rfl;simp [qB,eF]
theorem af7:TT.lim 29 []=some [.l (yP.map eF)]:=by refine aY rfl rfl ?_ rfl;simp [yP,eF]
theorem aiZ:TT.lim 30 []=some [.l (qC.map eF)]:=by refine aY rfl rfl ?_ rfl;simp [qC,eF]
theorem ahL:TT.lim 31 []=some [.l (qE.map eF)]:=by refine aY rfl rfl ?_ rfl;simp [qE,eF]
theorem afr:TT.lim 32 []=some [.l (yQ.map eF)]:=by refine aY rfl rfl ?_ rfl;simp [yQ,eF]
theorem anX:TT.lim 33 []=some [.l (yR.map eF)]:=by refine aY rfl rfl ?_ rfl;simp [yR,eF]
theorem UZ (k:Int):TT.lim 23 [.i .i64 k]=some [.i .i64 (jw k)]:=by
 refine aY rfl rfl ?_ rfl;unfold jw;by_cases h1:k=1
 ·simp [h1]
 by_cases h2:k=2
 ·simp [h2]
 by_cases h3:k=3
 ·simp [h3]
 by_cases h4:k=4
 ·simp [h4]
 by_cases h5:k=5
 ·simp [h5]
 by_cases h6:k=6
 ·simp [h6]
 by_cases h7:k=7
 ·simp [h7]
 by_cases h8:k=8
 ·simp [h8]
 simp [h1,h2,h3,h4,h5,h6,h7,h8]
theorem U1 (v:Int) (l:List cZ) (hl:l.length<=8):∀ (m i:Nat) (acc:List cZ),i+m=l.length->acc.length<=i->
 TT.lim 26 [.i .i64 v,.l (acc.map eF),.l (l.map eF),.i .i64 l.length,.i .i64 i]=some [.i .i64 0,.l ((acc++(l.drop i).filter λs=>decide (s.from_<=v)).map eF)]
 | 0,i,acc,hi,ha=>by
   have h0:l.drop i=[]:=gJ (by omega);refine aB rfl rfl ?_;have h:¬ ((i:Int) < l.length):=by omega
   simp [h,h0]
 | m+1,i,acc,hi,ha=>by
   have hlt:i < l.length:=by omega
   have hd:=jc hlt;refine aB rfl rfl ?_;have h:((i:Int) < l.length):=by omega
   have hw:=wrap64 (n:=(i:Int)+1) (by omega) (by omega);have hb1:2 * (acc.length+1) * 40<=281474976710656:=by omega
   have hb2:acc.length<=281474976710655:=by omega
   have hok:(eF l[i]).fJ 4=true:=rfl;have hcast:((i:Int)+1)=((i+1:Nat):Int):=by omega
   by_cases hf:l[i].from_<=v
   ·have ih:=U1 v l hl m (i+1) (acc++[l[i]]) (by omega) (by simp;omega)
    rw [<- hcast,xP] at ih;simp only [jq,Dh] at ih;simp [-List.getElem_cons_drop,h,hlt,hf,hw,aps,hb1,hb2,hok,ih,hd]
   ·have ih:=U1 v l hl m (i+1) acc (by omega) (by omega)
    rw [<- hcast] at ih;simp [-List.getElem_cons_drop,h,hlt,hf,hw,ih,hd]
theorem apr (k:Int):(lq k).length<=8:=by
 unfold lq;repeat' split
 all_goals (first | (unfold sp1;decide) | (unfold sp2;decide) | (unfold qB;decide) | (unfold yP;decide) | (unfold qC;decide) | (unfold qE;decide) | (unfold yQ;decide) | (unfold yR;decide) | decide)
theorem BP (v:Int) (l:List cZ) (hl:l.length<=8):TT.lim 26 [.i .i64 v,.l [],.l (l.map eF),.i .i64 l.length,.i .i64 0]=some [.i .i64 0,.l ((l.filter λs=>decide (s.from_<=v)).map eF)]:=by
 have:=U1 v l hl l.length 0 [] (by omega) (by simp);simpa using this
theorem O9 (k v:Int) (h1:1<=v) (h3:v<=3) (hk:jw k<=v):TT.lim 24 [.i .i64 k,.i .i64 v]=some [.l ((aH k v).map eF)]:=by
 have a1:¬ v < 1:=by omega
 have a3:¬ 3 < v:=by omega
 unfold aH lq;unfold jw at hk;have g1:=BP v sp1 (by decide);have g2:=BP v sp2 (by decide);have g3:=BP v qB (by decide);have g4:=BP v yP (by decide);have g5:=BP v qC (by decide);have g6:=BP v qE (by decide);have g7:=BP v yQ (by decide);have g8:=BP v yR (by decide);have e1:=ajA;have e2:=ajz;have e3:=af6;have e4:=af7;have e5:=aiZ;have e6:=ahL;have e7:=afr;have e8:=anX;generalize sp1=p1 at *;generalize sp2=p2 at *;generalize qB=p3 at *;generalize yP=p4 at *;generalize qC=p5 at *;generalize qE=p6 at *;generalize yQ=p7 at *;generalize yR=p8 at *;refine aY rfl rfl ?_ rfl;by_cases k1:k=1
 ·simp [k1,a1,a3,e1,g1]
 by_cases k2:k=2
 ·simp [k2,a1,a3,e2,g2]
 by_cases k3:k=3
 ·simp [k3,a1,a3,e3,g3]
 by_cases k4:k=4
 ·simp [k4,a1,a3,e4,g4]
 by_cases k5:k=5
 ·simp [k5,a1,a3,e5,g5]
 by_cases k6:k=6
 ·have a2:¬ v < 2:=by subst k6;simpa using hk
  simp [k6,a1,a2,a3,e6,g6]
 by_cases k7:k=7
 ·simp [k7,a1,a3,e7,g7]
 by_cases k8:k=8
 ·simp [k8,a1,a3,e8,g8]
 simp [k1,k2,k3,k4,k5,k6,k7,k8]
theorem KJ (k v:Int) (h1:1<=v) (h3:v<=3):aH k v=[]↔jw k=0\/v < jw k:=by
 have hv:v=1\/v=2\/v=3:=by omega
 unfold aH lq jw;by_cases k1:k=1
 ·subst k1;rcases hv with rfl | rfl | rfl<;>decide
 by_cases k2:k=2
 ·subst k2;rcases hv with rfl | rfl | rfl<;>decide
 by_cases k3:k=3
 ·subst k3;rcases hv with rfl | rfl | rfl<;>decide
 by_cases k4:k=4
 ·subst k4;rcases hv with rfl | rfl | rfl<;>decide
 by_cases k5:k=5
 ·subst k5;rcases hv with rfl | rfl | rfl<;>decide
 by_cases k6:k=6
 ·subst k6;rcases hv with rfl | rfl | rfl<;>decide
 by_cases k7:k=7
 ·subst k7;rcases hv with rfl | rfl | rfl<;>decide
 by_cases k8:k=8
 ·subst k8;rcases hv with rfl | rfl | rfl<;>decide
 simp [k1,k2,k3,k4,k5,k6,k7,k8]
def aC.tag:aC->Int
 | .mk t _ _ _ _=>t
theorem yD:∀ (a:List aC),aA a=a.map mP
 | []=>rfl
 | f::a=>by simp only [aA,jq,yD a]
mutual
def pz:aC->Nat
 | .mk _ _ _ _ l=>bV l+1
def bV:List aC->Nat
 | []=>0
 | f::l=>pz f+bV l+1
end
mutual
def nK:aC->Prop
 | .mk t y n s k=>(0<=t/\t < 18446744073709551616/\-128<=y/\y<=127/\0<=n/\n < 18446744073709551616/\s.length<=100000000/\k.length<=1000000)/\cu k
def cu:List aC->Prop
 | []=>True
 | f::r=>nK f/\cu r
end
theorem BI:∀ {l:List aC},cu l->∀f∈l,nK f
 | f::l,h,g,hg=>by
   simp only [cu] at h;rcases dh.1 hg with rfl | hg
   ·exact h.1
   ·exact BI h.2 g hg
theorem QU:∀ {l:List aC} {f:aC},f∈l->pz f < bV l
 | g::l,f,h=>by
   simp only [bV];rcases dh.1 h with rfl | h
   ·omega
   ·have:=QU h;omega
mutual
/-- What is wrong with fields within so many lists, behind a tag. -/
def vZ (w:Nat):aC->Int
 | .mk _ y n s k=>if y=0 then (if s=[]/\k=[] then 0 else 8) else if y=1 then (if n=0/\k=[] then 0 else 8) else if y=2 then (if n=0/\s=[] then (if 8<=w then 9 else iH (w+1) 0 k) else 8) else 8
def iH (w:Nat) (ahead:Int):List aC->Int
 | []=>0
 | f::r=>if f.tag=0 then 18 else if 4294967296 < f.tag then 18 else if f.tag<=ahead then 7 else if vZ w f≠0 then vZ w f else iH w f.tag r
end
@[simp] theorem Hl (t y n:Int) (s:List UInt8) (k:List aC):(mP (.mk t y n s k)).cells=[.i .u64 t,.i .i64 y,.i .u64 n,.s s,.l (aA k)]:=by simp only [mP];rfl
theorem aiR (k:List aC):(aA k).length=0↔k=[]:=by rw [kY,List.length_eq_zero_iff]
theorem aav:∀ (N:Nat) (l:List aC),bV l < N->cu l->l.length<=1000000->∀w:Nat,w<=8->TT.lim 71 [.l (aA l),.i .i64 w]=some [.i .i64 (iH w 0 l)]
 | 0,l,h,_,_,_,_=>by omega
 | N+1,l,hN,hok,hlen,w,hw8=>by
   have loop:∀m i (ahead:Int),i+m=l.length->TT.lim 72 [.i .i64 w,.i .u64 ahead,.l (aA l),.i .i64 l.length,.i .i64 i]=some (if iH w ahead (l.drop i)=0 then [.i .i64 1] else [.i .i64 0,.i .i64 (iH w ahead (l.drop i))]):=by
    intro m;induction m with
    | zero=>
      intro i ahead hi;have h0:l.drop i=[]:=gJ (by omega);refine aB rfl rfl ?_;have h:¬ ((i:Int) < l.length):=by omega
      simp [h,h0,iH]
    | succ m ih=>
      intro i ahead hi;have hlt:i < l.length:=by omega
      rw [jc hlt];have hf:=BI hok l[i] (jo hlt);have hs:=QU (jo hlt);have hget:(aA l)[i]? = some (mP l[i]):=by rw [yD,jm,cO hlt];rfl
      have hcast:((i:Int)+1)=((i+1:Nat):Int):=by omega
      have ih':=λa=>ih (i+1) a (by omega);simp only [<- hcast] at ih';generalize l[i]=f at *;obtain ⟨t,y,n,s,k⟩:=f;simp only [nK] at hf;simp only [pz] at hs;have hwr:=wrap64 (n:=(i:Int)+1) (by omega) (by omega);have hww:=wrap64 (n:=(w:Int)+1) (by omega) (by omega);refine aB rfl rfl ?_;have h:((i:Int) < l.length):=by omega
      have hk:=λh=>aav N k (by omega) hf.2 hf.1.2.2.2.2.2.2.2 (w+1) h;simp only [AB,Int.natCast_one] at hk;have hkl:((aA k).length=0)=(k=[]):=propext (aiR k);simp only [iH,aC.tag];by_cases h1:t=0
      ·simp [h,hget,h1]
      by_cases h2:4294967296 < t
      ·simp [h,hget,h1,h2]
      by_cases h3:t<=ahead
      ·simp [h,hget,h1,h2,h3]
      simp only [vZ];by_cases h4:y=0
      ·subst h4
       by_cases h5:s=[]
       ·by_cases h6:k=[]
        ·simp [h,hget,h1,h2,h3,h5,h6,hwr,ih',aA]
        ·simp [h,hget,h1,h2,h3,h5,h6,hwr,ih',hkl]
       ·simp [h,hget,h1,h2,h3,h5]
      by_cases h7:y=1
      ·subst h7
       by_cases h5:n=0
       ·by_cases h6:k=[]
        ·simp [h,hget,h1,h2,h3,h5,h6,hwr,ih',aA]
        ·simp [h,hget,h1,h2,h3,h5,h6,hwr,ih',hkl]
       ·simp [h,hget,h1,h2,h3,h5]
      by_cases h8:y=2
      ·subst h8
       by_cases h5:n=0
       ·by_cases h6:s=[]
        ·by_cases h9:8<=w
         ·have OL:(8:Int)<=w:=by omega
          simp [h,hget,h1,h2,h3,h5,h6,h9,OL]
         ·have OL:¬ (8:Int)<=w:=by omega
          have hk:=hk (by omega);by_cases h10:iH (w+1) 0 k=0
          ·rw [h10] at hk
           simp [h,hget,h1,h2,h3,h5,h6,h9,OL,hww,hk,h10,hwr,ih',aC.tag]
          ·simp [h,hget,h1,h2,h3,h5,h6,h9,OL,hww,hk,h10,hwr,ih',aC.tag]
        ·simp [h,hget,h1,h2,h3,h5,h6]
       ·simp [h,hget,h1,h2,h3,h5]
      simp [h,hget,h1,h2,h3,h4,h7,h8]
   have h0:=loop l.length 0 0 (by omega);rw [eP] at h0;refine aY rfl rfl ?_ rfl;have hl2:=kY l;by_cases hc:iH w 0 l=0
   ·rw [aj hc] at h0
    have h0':TT.lim 72 [.i .i64 w,.i .u64 0,.l (aA l),.i .i64 (aA l).length,.i .i64 0]=some [.i .i64 1]:=by rw [hl2];exact h0
    simp [h0',hc]
   ·rw [ah hc] at h0
    have h0':TT.lim 72 [.i .i64 w,.i .u64 0,.l (aA l),.i .i64 (aA l).length,.i .i64 0]=some [.i .i64 0,.i .i64 (iH w 0 l)]:=by rw [hl2];exact h0
    simp [h0',hc]
theorem Ol (l:List aC) (hok:cu l) (hlen:l.length<=1000000):TT.lim 70 [.l (aA l)]=some [.i .i64 (iH 0 0 l)]:=by
 have h:=aav (bV l+1) l (by omega) hok hlen 0 (by omega);have h':TT.lim 71 [.l (aA l),.i .i64 0]=_:=h;refine aY rfl rfl ?_ rfl;simp [h']
inductive Pl where
 | rem | allow | name | region | note | d | t
 | num (k:Nat)
def EL:List UInt8:=[114,101,109,97,105,110,105,110,103]
def Ep:List UInt8:=[97,108,108,111,119,101,100]
def Ce:List UInt8:=[110,97,109,101]
def Cj:List UInt8:=[114,101,103,105,111,110]
def Ci:List UInt8:=[110,111,116,101]
def Ez:List UInt8:=[100,101,115,99,114]
def EN:List UInt8:=[116,97,98,108,101]
def EG:List UInt8:=[105,100]
def EJ:List UInt8:=[109,105,110]
def EI:List UInt8:=[109,97,120]
def Et:List UInt8:=[99,104,111,115,101,110]
def EF:List UInt8:=[102,108,97,103,115]
def Ew:List UInt8:=[99,111,115,116]
def EK:List UInt8:=[112,114,105,111,114,105,116,121]
def Ey:List UInt8:=[100,101,97,100,108,105,110,101]
def EM:List UInt8:=[114,101,116,114,121]
def ED:List UInt8:=[101,112,111,99,104]
def Es:List UInt8:=[98,97,115,101]
def EC:List UInt8:=[100,105,103,101,115,116]
def EH:List UInt8:=[108,97,103]
def Eu:List UInt8:=[99,111,100,101]
def EO:List UInt8:=[119,97,110,116]
def placeOf (n:List UInt8):Option Pl:=
 if n=EL then some .rem else if n=Ep then some .allow else if n=Ce then some .name else if n=Cj then some .region else if n=Ci then some .note else if n=Ez then some .d else if n=EN then some .t else if n=EG then some (.num 0) else if n=EJ then some (.num 1) else if n=EI then some (.num 2) else if n=Et then some (.num 3) else if n=EF then some (.num 4) else if n=Ew then some (.num 5) else if n=EK then some (.num 6) else if n=Ey then some (.num 7) else if n=EM then some (.num 8) else if n=ED then some (.num 9) else if n=Es then some (.num 10) else if n=EC then some (.num 11) else if n=EH then some (.num 12) else if n=Eu then some (.num 13) else if n=EO then some (.num 14) else none
theorem adb:placeOf EL=some .rem:=rfl
theorem acW:placeOf Ep=some .allow:=rfl
theorem Wv:placeOf Ce=some .name:=rfl
theorem Wy:placeOf Cj=some .region:=rfl
theorem Wx:placeOf Ci=some .note:=rfl
theorem ac2:placeOf Ez=some .d:=rfl
theorem adf:placeOf EN=some .t:=rfl
theorem ac6:placeOf EG=some (.num 0):=rfl
theorem ac9:placeOf EJ=some (.num 1):=rfl
theorem ac8:placeOf EI=some (.num 2):=rfl
theorem acY:placeOf Et=some (.num 3):=rfl
theorem ac5:placeOf EF=some (.num 4):=rfl
theorem ac0:placeOf Ew=some (.num 5):=rfl
theorem ada:placeOf EK=some (.num 6):=rfl
theorem ac1:placeOf Ey=some (.num 7):=rfl
theorem ade:placeOf EM=some (.num 8):=rfl
theorem ac4:placeOf ED=some (.num 9):=rfl
theorem acX:placeOf Es=some (.num 10):=rfl
theorem ac3:placeOf EC=some (.num 11):=rfl
theorem ac7:placeOf EH=some (.num 12):=rfl
theorem acZ:placeOf Eu=some (.num 13):=rfl
theorem adg:placeOf EO=some (.num 14):=rfl
def jH (b:aK) (k:Nat):Int:=match k with
 | 0=>b.id
 | 1=>b.min
 | 2=>b.max
 | 3=>b.chosen
 | 4=>b.flags
 | 5=>b.cost
 | 6=>b.priority
 | 7=>b.deadline
 | 8=>b.retry
 | 9=>b.epoch
 | 10=>b.base
 | 11=>b.digest
 | 12=>b.lag
 | 13=>b.code
 | _=>b.want
def fM (b:aK):Pl->Bool
 | .rem=>decide (b.remaining=0)
 | .allow=>!b.allowed
 | .name=>decide (b.name=[])
 | .region=>decide (b.region=[])
 | .note=>decide (b.note=[])
 | .d=>decide (b.d=[])
 | .t=>decide (b.t=[])
 | .num k=>decide (jH b k=0)
def ng (b:aK) (n:List UInt8):Bool:=match placeOf n with
 | some p=>fM b p
 | none=>true
def jf (b:aK):Pl->Int
 | .name=>oK b.name 0 256
 | .region=>oK b.region 0 256
 | .note=>oK b.note 0 256
 | .d=>if b.d=[] then 0 else uU b.d
 | .t=>vY b.t
 | _=>0
def uY (b:aK) (n:List UInt8):Int:=match placeOf n with
 | some p=>jf b p
 | none=>0
def zz (x:Int):Int:=if 0<=x then 2 * x else -2 * x - 1
def aP (b:aK):Pl->Int×List UInt8
 | .rem=>(zz b.remaining,[])
 | .allow=>(if b.allowed=true then 1 else 0,[])
 | .name=>(0,b.name)
 | .region=>(0,b.region)
 | .note=>(0,b.note)
 | .d=>(0,if b.d=[] then [] else iF b.d)
 | .t=>(0,if b.t=[] then [] else (yM b.t).1)
 | .num k=>(jH b k,[])
def bJ:Pl->Int
 | .num _=>0
 | .rem=>0
 | .allow=>0
 | _=>1
def aqC:Pl->Int
 | .num _=>0
 | .allow=>1
 | .rem=>2
 | .d=>4
 | .t=>5
 | _=>3
def nameOf:Pl->List UInt8
 | .rem=>EL
 | .allow=>Ep
 | .name=>Ce
 | .region=>Cj
 | .note=>Ci
 | .d=>Ez
 | .t=>EN
 | .num k=>match k with
   | 0=>EG
   | 1=>EJ
   | 2=>EI
   | 3=>Et
   | 4=>EF
   | 5=>Ew
   | 6=>EK
   | 7=>Ey
   | 8=>EM
   | 9=>ED
   | 10=>Es
   | 11=>EC
   | 12=>EH
   | 13=>Eu
   | _=>EO
def uq:Pl->Prop
 | .num k=>k < 15
 | _=>True
theorem akr {c:Prop} [Decidable c] {a b:Option Pl} {p:Pl} (h:(if c then a else b)=some p):(c/\a=some p)\/(¬ c/\b=some p):=by
 by_cases e:c
 ·rw [aj e] at h
  exact .inl ⟨e,h⟩
 ·rw [ah e] at h
  exact .inr ⟨e,h⟩
theorem su (n:List UInt8) (p:Pl) (h:placeOf n=some p):n=nameOf p/\uq p/\n∈gB:=by
 unfold placeOf at h
 iterate 22
  replace h:=akr h
  rcases h with ⟨e,h⟩ | ⟨-,h⟩
  ·cases h
   subst e;exact ⟨rfl,by first | exact trivial | exact (show _ < 15 by decide),by decide⟩
 cases h
theorem Qa {a b:List UInt8} {p:Pl} (ha:placeOf a=some p) (hb:placeOf b=some p):a=b:=by rw [(su a p ha).1,(su b p hb).1]
theorem akq {n m:List UInt8} {p q:Pl} (hp:placeOf n=some p) (hq:placeOf m=some q):(n=m)=(p=q):=
 propext ⟨λe=>by subst e;rw [hp] at hq;cases hq;rfl,λe=>by subst e;exact Qa hp hq⟩
theorem O1 {n:List UInt8} {p:Pl} (hp:placeOf n=some p):((n=[114,101,109,97,105,110,105,110,103])=(p=.rem))/\((n=[97,108,108,111,119,101,100])=(p=.allow))/\((n=[110,97,109,101])=(p=.name))/\((n=[114,101,103,105,111,110])=(p=.region))/\((n=[110,111,116,101])=(p=.note))/\((n=[100,101,115,99,114])=(p=.d))/\((n=[116,97,98,108,101])=(p=.t))/\((n=[105,100])=(p=.num 0))/\((n=[109,105,110])=(p=.num 1))/\((n=[109,97,120])=(p=.num 2))/\((n=[99,104,111,115,101,110])=(p=.num 3))/\((n=[102,108,97,103,115])=(p=.num 4))/\((n=[99,111,115,116])=(p=.num 5))/\((n=[112,114,105,111,114,105,116,121])=(p=.num 6))/\((n=[100,101,97,100,108,105,110,101])=(p=.num 7))/\((n=[114,101,116,114,121])=(p=.num 8))/\((n=[101,112,111,99,104])=(p=.num 9))/\((n=[98,97,115,101])=(p=.num 10))/\((n=[100,105,103,101,115,116])=(p=.num 11))/\((n=[108,97,103])=(p=.num 12))/\((n=[99,111,100,101])=(p=.num 13))/\((n=[119,97,110,116])=(p=.num 14)):=by
 and_intros<;>exact akq hp rfl
theorem abl {n:List UInt8} (h:placeOf n=none):((n=[114,101,109,97,105,110,105,110,103])=False)/\((n=[97,108,108,111,119,101,100])=False)/\((n=[110,97,109,101])=False)/\((n=[114,101,103,105,111,110])=False)/\((n=[110,111,116,101])=False)/\((n=[100,101,115,99,114])=False)/\((n=[116,97,98,108,101])=False)/\((n=[105,100])=False)/\((n=[109,105,110])=False)/\((n=[109,97,120])=False)/\((n=[99,104,111,115,101,110])=False)/\((n=[102,108,97,103,115])=False)/\((n=[99,111,115,116])=False)/\((n=[112,114,105,111,114,105,116,121])=False)/\((n=[100,101,97,100,108,105,110,101])=False)/\((n=[114,101,116,114,121])=False)/\((n=[101,112,111,99,104])=False)/\((n=[98,97,115,101])=False)/\((n=[100,105,103,101,115,116])=False)/\((n=[108,97,103])=False)/\((n=[99,111,100,101])=False)/\((n=[119,97,110,116])=False):=by
 and_intros<;>exact eq_false λe=>by subst e;exact absurd h (by decide)
theorem Iz {Q:(p:Pl)->uq p->Prop} (h0:Q (.rem) trivial) (h1:Q (.allow) trivial) (h2:Q (.name) trivial) (h3:Q (.region) trivial) (h4:Q (.note) trivial) (h5:Q (.d) trivial) (h6:Q (.t) trivial) (h7:Q (.num 0) (show 0 < 15 by decide)) (h8:Q (.num 1) (show 1 < 15 by decide)) (h9:Q (.num 2) (show 2 < 15 by decide)) (h10:Q (.num 3) (show 3 < 15 by decide)) (h11:Q (.num 4) (show 4 < 15 by decide)) (h12:Q (.num 5) (show 5 < 15 by decide)) (h13:Q (.num 6) (show 6 < 15 by decide)) (h14:Q (.num 7) (show 7 < 15 by decide)) (h15:Q (.num 8) (show 8 < 15 by decide)) (h16:Q (.num 9) (show 9 < 15 by decide)) (h17:Q (.num 10) (show 10 < 15 by decide)) (h18:Q (.num 11) (show 11 < 15 by decide)) (h19:Q (.num 12) (show 12 < 15 by decide)) (h20:Q (.num 13) (show 13 < 15 by decide)) (h21:Q (.num 14) (show 14 < 15 by decide)) (p:Pl) (hp:uq p):Q p hp:=by
 cases p with
 | num k=>
   simp only [uq] at hp;rcases (show k=0\/k=1\/k=2\/k=3\/k=4\/k=5\/k=6\/k=7\/k=8\/k=9\/k=10\/k=11\/k=12\/k=13\/k=14 by omega) with rfl | rfl | rfl | rfl | rfl | rfl | rfl | rfl | rfl | rfl | rfl | rfl | rfl | rfl | rfl<;>assumption
 | _=>assumption
def rQ (ps:List (List UInt8)):List GV:=ps.map λp=>.g [.s p,.b true]
def yE (ps:List (List UInt8)) (x:List UInt8):List (List UInt8):=if x∈ps then ps else ps++[x]
theorem SG (n:List UInt8):∀ps:List (List UInt8),gW (.s n) (rQ ps)=if n∈ps then some (.b true) else none
 | []=>rfl
 | p::ps=>by
   have ih:=SG n ps;simp only [rQ,jq,gW,mY] at ih ⊢;by_cases e:n=p
   ·subst e;simp
   ·have e2:¬ p=n:=λh=>e h.symm
    simp [e,ih]
theorem adw (x:List UInt8):∀ps:List (List UInt8),kD (.s x) (.b true) (rQ ps)=rQ (yE ps x)
 | []=>rfl
 | p::ps=>by
   have ih:=adw x ps;unfold yE at ih ⊢;simp only [rQ,jq,kD,mY] at ih ⊢;by_cases e:x=p
   ·subst e;simp
   ·have e1:(x==p)=false:=by simpa using e
    simp only [e1,gU,if_false];rw [ih];by_cases hm:x∈ps
    ·simp only [hm,if_true,dh,or_true,jq]
    ·simp only [hm,if_false,dh,e,or_false,eG,jq]
def xB (ps:List (List UInt8)) (l:List cZ):List (List UInt8):=l.foldl (λps s=>yE ps s.name) ps
theorem ali (n x:List UInt8) (ps:List (List UInt8)):n∈yE ps x↔n∈ps\/x=n:=by
 unfold yE;split
 ·next h=>exact ⟨.inl,λe=>e.elim id (λe=>e ▸ h)⟩
 ·simp [eq_comm]
theorem acg (n:List UInt8):∀ (l:List cZ) (ps:List (List UInt8)),n∈xB ps l↔n∈ps\/∃s∈l,s.name=n
 | [],ps=>by simp [xB]
 | s::l,ps=>by
   have:=acg n l (yE ps s.name);unfold xB at this ⊢;rw [List.foldl_cons,this,ali];simp [or_assoc]
def nM (l:List cZ) (n:List UInt8):Bool:=l.any λs=>decide (s.name=n)
theorem alh (n:List UInt8) (l:List cZ):decide (n∈xB [] l)=nM l n:=by
 rw [pJ,decide_eq_true_iff,acg];simp [nM]
theorem ab7 (b:aK) (r:List GV) (l:List cZ) (hl:l.length<=1000):∀ (m i:Nat) (ps:List (List UInt8)),i+m=l.length->
 TT.lim 34 [.l (l.map eF),.i .i64 l.length,.i .i64 i,.l (rQ ps),.i .i64 b.kind,.i .u64 b.id,.i .u64 b.min,.i .u64 b.max,.i .u64 b.chosen,.i .u64 b.flags,.i .u64 b.cost,.i .u64 b.priority,.i .u64 b.deadline,.i .u64 b.retry,.i .u64 b.epoch,.i .u64 b.base,.i .u64 b.digest,.i .u64 b.lag,.i .u64 b.code,.i .u64 b.want,.i .i64 b.remaining,.b b.allowed,.s b.name,.s b.region,.s b.note,.l (b.d.map ent),.l (b.t.map row),.l r]=some [.i .i64 0,.l (rQ (xB ps (l.drop i)))]
 | 0,i,ps,hi=>by
   have h0:l.drop i=[]:=gJ (by omega);refine aB rfl rfl ?_;have h:¬ ((i:Int) < l.length):=by omega
   simp [h,h0,xB]
 | m+1,i,ps,hi=>by
   have hlt:i < l.length:=by omega
   have ih:=ab7 b r l hl m (i+1) (yE ps l[i].name) (by omega);have hcast:((i:Int)+1)=((i+1:Nat):Int):=by omega
   rw [<- hcast] at ih;have hp:=adw l[i].name ps;have hd:xB ps (l.drop i)=xB (yE ps l[i].name) (l.drop (i+1)):=by
    rw [jc hlt];rfl
   rw [hd];generalize xB (yE ps l[i].name) (l.drop (i+1))=X at *;generalize rQ (yE ps l[i].name)=Y at *;refine aB rfl rfl ?_;have h:((i:Int) < l.length):=by omega
   have hw:=wrap64 (n:=(i:Int)+1) (by omega) (by omega);simp [h,hlt,hw,hp,ih]
/-- One round of the second loop. -/
def afl (b:aK) (r:List GV) (n:List UInt8) (c:Prop):Prop:=∀ (sp:GV) (ns:List (List UInt8)) (i:Nat) (ps:List (List UInt8)) (out:List GV) (h:i < ns.length),((i:Int) < ns.length)->IntKind.i64.wrap ((i:Int)+1)=(i:Int)+1->ns[i]=n->gW (.s n) (rQ ps)=none->
    TT.lim 36 [sp,.l (ns.map .s),.i .i64 ns.length,.i .i64 ((i:Int)+1),.l (rQ ps),.i .i64 b.kind,.i .u64 b.id,.i .u64 b.min,.i .u64 b.max,.i .u64 b.chosen,.i .u64 b.flags,.i .u64 b.cost,.i .u64 b.priority,.i .u64 b.deadline,.i .u64 b.retry,.i .u64 b.epoch,.i .u64 b.base,.i .u64 b.digest,.i .u64 b.lag,.i .u64 b.code,.i .u64 b.want,.i .i64 b.remaining,.b b.allowed,.s b.name,.s b.region,.s b.note,.l (b.d.map ent),.l (b.t.map row),.l r]=some out->
    (c->TT.lim 36 [sp,.l (ns.map .s),.i .i64 ns.length,.i .i64 i,.l (rQ ps),.i .i64 b.kind,.i .u64 b.id,.i .u64 b.min,.i .u64 b.max,.i .u64 b.chosen,.i .u64 b.flags,.i .u64 b.cost,.i .u64 b.priority,.i .u64 b.deadline,.i .u64 b.retry,.i .u64 b.epoch,.i .u64 b.base,.i .u64 b.digest,.i .u64 b.lag,.i .u64 b.code,.i .u64 b.want,.i .i64 b.remaining,.b b.allowed,.s b.name,.s b.region,.s b.note,.l (b.d.map ent),.l (b.t.map row),.l r]=some out)/\(¬ c->TT.lim 36 [sp,.l (ns.map .s),.i .i64 ns.length,.i .i64 i,.l (rQ ps),.i .i64 b.kind,.i .u64 b.id,.i .u64 b.min,.i .u64 b.max,.i .u64 b.chosen,.i .u64 b.flags,.i .u64 b.cost,.i .u64 b.priority,.i .u64 b.deadline,.i .u64 b.retry,.i .u64 b.epoch,.i .u64 b.base,.i .u64 b.digest,.i .u64 b.lag,.i .u64 b.code,.i .u64 b.want,.i .i64 b.remaining,.b b.allowed,.s b.name,.s b.region,.s b.note,.l (b.d.map ent),.l (b.t.map row),.l r]=some [.i .i64 0])
theorem acp:TT.lim 35 []=some [.l (gB.map .s)]:=IG (Ds:=Ds) (k:=35) (f:=PS) rfl rfl
theorem al1 (b:aK) {n:List UInt8} {p:Pl} (h:placeOf n=some p):ng b n=fM b p:=by unfold ng;rw [h]
set_option maxHeartbeats 4000000 in
theorem apP (b:aK) (r:List GV) {n:List UInt8} {p:Pl} (hp:placeOf n=some p):afl b r n (fM b p=true):=by
 intro sp ns i ps out h h1 hw hn ha ih;have hI:=O1 hp;have hk:=(su n p hp).2.1;clear hp;induction p,hk using Iz<;>(refine ⟨λhc=>aB rfl rfl ?_,λhc=>aB rfl rfl ?_⟩<;>simp only [fM,jH,decide_eq_true_iff,uJ] at hc)
 all_goals first
  | (have hc:=eq_true hc;simp [h1,h,hn,hw,ha,hc,hI,ih];done)
  | (rw [hc] at ih;simp [h1,h,hn,hw,ha,hc,hI,ih];done)
  | (simp [h1,h,hn,ha,hc,hI];done)
theorem ab8 (b:aK) (r:List GV) (sp:GV) (ns:List (List UInt8)) (hlen:ns.length<=1000) (hns:∀n∈ns,placeOf n≠none) (ps:List (List UInt8)):∀ (m i:Nat),i+m=ns.length->
 TT.lim 36 [sp,.l (ns.map .s),.i .i64 ns.length,.i .i64 i,.l (rQ ps),.i .i64 b.kind,.i .u64 b.id,.i .u64 b.min,.i .u64 b.max,.i .u64 b.chosen,.i .u64 b.flags,.i .u64 b.cost,.i .u64 b.priority,.i .u64 b.deadline,.i .u64 b.retry,.i .u64 b.epoch,.i .u64 b.base,.i .u64 b.digest,.i .u64 b.lag,.i .u64 b.code,.i .u64 b.want,.i .i64 b.remaining,.b b.allowed,.s b.name,.s b.region,.s b.note,.l (b.d.map ent),.l (b.t.map row),.l r]=some (if (ns.drop i).all (λn=>decide (n∈ps) || ng b n)=true then [.i .i64 1] else [.i .i64 0])
 | 0,i,hi=>by
   have h0:ns.drop i=[]:=gJ (by omega);refine aB rfl rfl ?_;have h:¬ ((i:Int) < ns.length):=by omega
   simp [h,h0]
 | m+1,i,hi=>by
   have hlt:i < ns.length:=by omega
   have ih:=ab8 b r sp ns hlen hns ps m (i+1) (by omega);have hcast:((i:Int)+1)=((i+1:Nat):Int):=by omega
   rw [<- hcast] at ih;have hd:(ns.drop i).all (λn=>decide (n∈ps) || ng b n)=((decide (ns[i]∈ps) || ng b ns[i])&&(ns.drop (i+1)).all (λn=>decide (n∈ps) || ng b n)):=by rw [jc hlt,rF]
   rw [hd];generalize (ns.drop (i+1)).all (λn=>decide (n∈ps) || ng b n)=X at *;by_cases hps:ns[i]∈ps
   ·have ha:=SG ns[i] ps
    rw [aj hps] at ha;have h1:((i:Int) < ns.length):=by omega
    have hw:=wrap64 (n:=(i:Int)+1) (by omega) (by omega);rw [DY hps,Bool.true_or,Jh];refine aB rfl rfl ?_;simp [h1,hlt,hw,ha,ih]
   ·have ha:=SG ns[i] ps
    rw [ah hps] at ha;obtain ⟨p,hp⟩:=afi.1 (hns _ (jo hlt));have c1:=al1 b hp;obtain ⟨c3,c4⟩:=apP b r hp sp ns i ps _ hlt (by omega) (wrap64 (n:=(i:Int)+1) (by omega) (by omega)) rfl ha ih;rw [Bo hps,vK];cases hb:ng b ns[i] with
    | true=>rw [c3 (by rw [<- c1];exact hb),Jh]
    | false=>rw [c4 (by rw [<- c1,hb];decide),Bool.false_and];rfl
def Dj (b:aK) (r:List GV) (k:Nat) (out:List GV):Prop:=TT.lim k [.i .i64 b.kind,.i .u64 b.id,.i .u64 b.min,.i .u64 b.max,.i .u64 b.chosen,.i .u64 b.flags,.i .u64 b.cost,.i .u64 b.priority,.i .u64 b.deadline,.i .u64 b.retry,.i .u64 b.epoch,.i .u64 b.base,.i .u64 b.digest,.i .u64 b.lag,.i .u64 b.code,.i .u64 b.want,.i .i64 b.remaining,.b b.allowed,.s b.name,.s b.region,.s b.note,.l (b.d.map ent),.l (b.t.map row),.l r]=some out
theorem ale (b:aK) {n:List UInt8} {p:Pl} (h:placeOf n=some p):uY b n=jf b p:=by unfold uY;rw [h]
set_option maxHeartbeats 4000000 in
theorem alf (b:aK) (r:List GV) (hb:vJ b) (hf:∀r∈b.t,iJ r.1=true):(∀k∈[38,39,54,55,56,57,58,59,60,61,62,63,64,65,66,67,68],Dj b r k [.i .i64 0])/\Dj b r 40 [.i .i64 0,.i .i64 (jf b .name)]/\Dj b r 44 [.i .i64 0,.i .i64 (jf b .region)]/\Dj b r 45 [.i .i64 0,.i .i64 (jf b .note)]/\Dj b r 46 [.i .i64 0,.i .i64 (jf b .d)]/\Dj b r 50 [.i .i64 0,.i .i64 (jf b .t)]:=by
 have h1:=Gz b.name 0 256 hb.name;have h2:=Gz b.region 0 256 hb.region;have h3:=Gz b.note 0 256 hb.note;have h4:=Zq b.d hb.d;have h5:=Zr b.t hb.t hf;refine ⟨λk hk=>?_,aB rfl rfl ?_,aB rfl rfl ?_,aB rfl rfl ?_,aB rfl rfl ?_,aB rfl rfl ?_⟩
 ·simp only [dh,List.not_mem_nil,or_false] at hk
  rcases hk with rfl | rfl | rfl | rfl | rfl | rfl | rfl | rfl | rfl | rfl | rfl | rfl | rfl | rfl | rfl | rfl | rfl<;>(refine aB rfl rfl ?_;simp)
 ·simp [jf,h1]
 ·simp [jf,h2]
 ·simp [jf,h3]
 ·by_cases e:b.d=[]
  ·simp [jf,e]
  ·have e2:¬ (List.map ent b.d)=[]:=by simpa using e
   have e3:0 < b.d.length:=Me.2 e;simp [jf,e,h4]
 ·simp [jf,h5]
/-- One round of the third loop. -/
def afm (b:aK) (r:List GV) (n:List UInt8) (c:Int):Prop:=∀ (l:List cZ) (i:Nat) (out:List GV) (h:i < l.length),((i:Int) < l.length)->IntKind.i64.wrap ((i:Int)+1)=(i:Int)+1->l[i].name=n->
    TT.lim 37 [.l (l.map eF),.i .i64 l.length,.i .i64 ((i:Int)+1),.i .i64 b.kind,.i .u64 b.id,.i .u64 b.min,.i .u64 b.max,.i .u64 b.chosen,.i .u64 b.flags,.i .u64 b.cost,.i .u64 b.priority,.i .u64 b.deadline,.i .u64 b.retry,.i .u64 b.epoch,.i .u64 b.base,.i .u64 b.digest,.i .u64 b.lag,.i .u64 b.code,.i .u64 b.want,.i .i64 b.remaining,.b b.allowed,.s b.name,.s b.region,.s b.note,.l (b.d.map ent),.l (b.t.map row),.l r]=some out->
    TT.lim 37 [.l (l.map eF),.i .i64 l.length,.i .i64 i,.i .i64 b.kind,.i .u64 b.id,.i .u64 b.min,.i .u64 b.max,.i .u64 b.chosen,.i .u64 b.flags,.i .u64 b.cost,.i .u64 b.priority,.i .u64 b.deadline,.i .u64 b.retry,.i .u64 b.epoch,.i .u64 b.base,.i .u64 b.digest,.i .u64 b.lag,.i .u64 b.code,.i .u64 b.want,.i .i64 b.remaining,.b b.allowed,.s b.name,.s b.region,.s b.note,.l (b.d.map ent),.l (b.t.map row),.l r]=some (if c=0 then out else [.i .i64 0,.i .i64 c])
set_option maxHeartbeats 4000000 in
theorem apQ (b:aK) (r:List GV) (hb:vJ b) (hf:∀r∈b.t,iJ r.1=true) {n:List UInt8} {p:Pl} (hp:placeOf n=some p):afm b r n (jf b p):=by
 intro l i out h h1 hw hn ih;obtain ⟨m0,m1,m2,m3,m4,m5⟩:=alf b r hb hf;simp only [List.forall_mem_cons,Dj] at m0 m1 m2 m3 m4 m5;have hI:=O1 hp;have hk:=(su n p hp).2.1;clear hp;generalize hc':jf b p=c at ih ⊢;induction p,hk using Iz
 all_goals first
  | (obtain rfl:0=c:=hc'
     rw [aj rfl];refine aB rfl rfl ?_;simp [h1,h,hn,hw,hI,m0,ih];done)
  | (simp only [hc'] at m1 m2 m3 m4 m5
     by_cases hc:c=0
     ·subst hc
      rw [aj rfl];refine aB rfl rfl ?_;simp [h1,h,hn,hw,hI,m1,m2,m3,m4,m5,ih]
     ·rw [ah hc]
      refine aB rfl rfl ?_;simp [h1,h,hn,hw,hI,m1,m2,m3,m4,m5,hc])
/-- The first thing that is wrong with the values of names. -/
def lX (b:aK):List cZ->Int
 | []=>0
 | s::l=>if uY b s.name=0 then lX b l else uY b s.name
theorem ab9 (b:aK) (r:List GV) (hb:vJ b) (hf:∀r∈b.t,iJ r.1=true) (l:List cZ) (hlen:l.length<=1000) (hns:∀s∈l,placeOf s.name≠none):∀ (m i:Nat),i+m=l.length->
 TT.lim 37 [.l (l.map eF),.i .i64 l.length,.i .i64 i,.i .i64 b.kind,.i .u64 b.id,.i .u64 b.min,.i .u64 b.max,.i .u64 b.chosen,.i .u64 b.flags,.i .u64 b.cost,.i .u64 b.priority,.i .u64 b.deadline,.i .u64 b.retry,.i .u64 b.epoch,.i .u64 b.base,.i .u64 b.digest,.i .u64 b.lag,.i .u64 b.code,.i .u64 b.want,.i .i64 b.remaining,.b b.allowed,.s b.name,.s b.region,.s b.note,.l (b.d.map ent),.l (b.t.map row),.l r]=some (if lX b (l.drop i)=0 then [.i .i64 1] else [.i .i64 0,.i .i64 (lX b (l.drop i))])
 | 0,i,hi=>by
   have h0:l.drop i=[]:=gJ (by omega);refine aB rfl rfl ?_;have h:¬ ((i:Int) < l.length):=by omega
   simp [h,h0,lX]
 | m+1,i,hi=>by
   have hlt:i < l.length:=by omega
   have ih:=ab9 b r hb hf l hlen hns m (i+1) (by omega);have hcast:((i:Int)+1)=((i+1:Nat):Int):=by omega
   rw [<- hcast] at ih;obtain ⟨p,hp⟩:=afi.1 (hns _ (jo hlt));have:=apQ b r hb hf hp l i _ hlt (by omega) (wrap64 (n:=(i:Int)+1) (by omega) (by omega)) rfl ih;rw [<- ale b hp] at this;rw [this,jc hlt];by_cases hc:uY b l[i].name=0
   ·have hm:lX b (l[i]::l.drop (i+1))=lX b (l.drop (i+1)):=by simp only [lX,hc,if_true]
    rw [aj hc,hm]
   ·have hm:lX b (l[i]::l.drop (i+1))=uY b l[i].name:=by simp only [lX,hc,if_false]
    rw [ah hc,hm,ah hc]
def hasTag (l:List cZ) (t:Int):Bool:=l.any λs=>decide (t=s.tag)
theorem ace (l:List cZ) (hlen:l.length<=1000) (a1 a2 a3:GV) (t:Int) (a7 a8 a9 a10:GV):∀ (m i:Nat),i+m=l.length->
 TT.lim 74 [.l (l.map eF),a1,a2,a3,.i .i64 l.length,.i .i64 i,.i .u64 t,a7,a8,a9,a10]=some (if hasTag (l.drop i) t=true then [.i .i64 0] else [.i .i64 1])
 | 0,i,hi=>by
   have h0:l.drop i=[]:=gJ (by omega);refine aB rfl rfl ?_;have h:¬ ((i:Int) < l.length):=by omega
   simp [h,h0,hasTag]
 | m+1,i,hi=>by
   have hlt:i < l.length:=by omega
   have ih:=ace l hlen a1 a2 a3 t a7 a8 a9 a10 m (i+1) (by omega);have hcast:((i:Int)+1)=((i+1:Nat):Int):=by omega
   rw [<- hcast] at ih;have h1:((i:Int) < l.length):=by omega
   have hw:=wrap64 (n:=(i:Int)+1) (by omega) (by omega);have hd:hasTag (l.drop i) t=(decide (t=l[i].tag) || hasTag (l.drop (i+1)) t):=by rw [jc hlt];rfl
   rw [hd];generalize hasTag (l.drop (i+1)) t=X at *;refine aB rfl rfl ?_;by_cases hc:t=l[i].tag
   ·simp [h1,hlt,hc]
   ·simp [h1,hlt,hc,hw,ih]
theorem acd (l:List cZ) (hlen:l.length<=1000) (fl:List aC) (hfl:fl.length<=1000000):∀ (m i:Nat),i+m=fl.length->
 TT.lim 73 [.l (l.map eF),.l (aA fl),.i .i64 fl.length,.i .i64 i]=some (if (fl.drop i).any (λf=>hasTag l f.tag)=true then [.i .i64 0] else [.i .i64 1])
 | 0,i,hi=>by
   have h0:fl.drop i=[]:=gJ (by omega);refine aB rfl rfl ?_;have h:¬ ((i:Int) < fl.length):=by omega
   simp [h,h0]
 | m+1,i,hi=>by
   have hlt:i < fl.length:=by omega
   have ih:=acd l hlen fl hfl m (i+1) (by omega);have hcast:((i:Int)+1)=((i+1:Nat):Int):=by omega
   rw [<- hcast] at ih;have h1:((i:Int) < fl.length):=by omega
   have hw:=wrap64 (n:=(i:Int)+1) (by omega) (by omega);have hd:(fl.drop i).any (λf=>hasTag l f.tag)=(hasTag l fl[i].tag || (fl.drop (i+1)).any (λf=>hasTag l f.tag)):=by rw [jc hlt,List.any_cons]
   rw [hd];have hget:(aA fl)[i]? = some (mP fl[i]):=by rw [yD,jm,cO hlt];rfl
   clear hd;obtain ⟨t,y,n,s,k,hfi⟩:∃t y n s k,fl[i]=aC.mk t y n s k:=by
    cases fl[i] with
    | mk t y n s k=>exact ⟨_,_,_,_,_,rfl⟩
   rw [hfi] at hget ⊢;rw [show (aC.mk t y n s k).tag=t from rfl];have h3:TT.lim 74 [.l (l.map eF),.l (aA fl),.i .i64 fl.length,.i .i64 i,.i .i64 l.length,.i .i64 0,.i .u64 t,.i .i64 y,.i .u64 n,.s s,.l (aA k)]=_:=ace l hlen _ _ _ t _ _ _ _ l.length 0 (by omega);rw [eP] at h3;refine aB rfl rfl ?_;by_cases hc:hasTag l t=true
   ·rw [aj hc] at h3
    simp [-List.any_eq_true,h1,hget,h3,hc]
   ·rw [ah hc] at h3
    have hc:hasTag l t=false:=by simpa using hc
    simp [-List.any_eq_true,h1,hget,h3,hw,ih,hc]
def tK (b:aK):Int:=
 if b.kind=1 then (if b.min < 1 then 18 else if b.max < b.min then 18 else if 255 < b.max then 18 else 0)
 else if b.kind=2 then (if b.chosen < 1 then 18 else if 255 < b.chosen then 18 else 0)
 else if b.kind=3 then (if b.d=[] then 12 else 0)
 else if b.kind=5 then (if b.epoch < 1 then 18 else 0)
 else if b.kind=6 then (if b.base < 1 then 18 else if b.epoch<=b.base then 20 else 0)
 else 0
/-- What is said of a message at a version. -/
def Fa (sp:List cZ) (fl:List aC):Int:=if iH 0 0 fl≠0 then iH 0 0 fl else if fl.any (λf=>hasTag sp f.tag)=true then 14 else 0
def fZ (b:aK) (fl:List aC) (v:Int):Int:=
 if v < 1 then 16 else if 3 < v then 16 else
 if aH b.kind v=[] then 15 else
 if gB.all (λn=>nM (aH b.kind v) n || ng b n)=false then 26 else
 if lX b (aH b.kind v)≠0 then lX b (aH b.kind v) else
 if tK b≠0 then tK b else Fa (aH b.kind v) fl
theorem acv:∀n∈gB,placeOf n≠none:=by decide
theorem abx (k v:Int):∀s∈aH k v,placeOf s.name≠none:=by
 have key:∀s∈lq k,placeOf s.name≠none:=by
  unfold lq;repeat' split
  all_goals first | (unfold sp1;decide) | (unfold sp2;decide) | (unfold qB;decide) | (unfold yP;decide) | (unfold qC;decide) | (unfold qE;decide) | (unfold yQ;decide) | (unfold yR;decide) | (intro s hs;cases hs)
 intro s hs;exact key s (qJ.1 hs).1
theorem BR (k v:Int):(aH k v).length<=8:=iV (RH _ _) (apr k)
set_option maxHeartbeats 4000000 in
theorem Vp (b:aK) (fl:List aC) (v:Int) (hb:vJ b) (hf:∀r∈b.t,iJ r.1=true) (hok:cu fl) (hlen:fl.length<=1000000):TT.lim 22 [fC b (aA fl),.i .i64 v]=some [.i .i64 (fZ b fl v)]:=by
 have hk:=UZ b.kind;refine aY rfl rfl ?_ rfl;unfold fZ;by_cases v1:v < 1
 ·simp [v1]
 by_cases v3:3 < v
 ·simp [v1,v3]
 rw [ah v1,ah v3];have hnil:=KJ b.kind v (by omega) (by omega);by_cases k0:jw b.kind=0
 ·rw [aj (hnil.2 (.inl k0))]
  rw [k0] at hk;simp [v1,v3,hk]
 by_cases k1:v < jw b.kind
 ·rw [aj (hnil.2 (.inr k1))]
  simp [v1,v3,hk,k0,k1]
 rw [ah (λe=>(hnil.1 e).elim k0 k1)];have hkn:=O9 b.kind v (by omega) (by omega) (by omega);have hpl:=abx b.kind v;have hl8:=BR b.kind v;clear hnil;generalize aH b.kind v=sp at *;have hnm:=acp;have h0:=ab7 b (aA fl) sp (by omega) sp.length 0 [] (by omega);have h1:=ab8 b (aA fl) (.l (sp.map eF)) gB (by decide) acv (xB [] sp) gB.length 0 (by omega);have h2:=ab9 b (aA fl) hb hf sp (by omega) hpl sp.length 0 (by omega);have h3:=acd sp (by omega) fl hlen fl.length 0 (by omega);have h4:=Ol fl hok hlen;rw [eP] at h0 h1 h2 h3;simp only [alh] at h1;have hnl:(gB.map GV.s).length=gB.length:=vO _;have hfl:=kY fl;rw [<- hfl] at h3;generalize hX:xB [] sp=ps at *;have h0':TT.lim 34 [.l (sp.map eF),.i .i64 sp.length,.i .i64 0,.l [],.i .i64 b.kind,.i .u64 b.id,.i .u64 b.min,.i .u64 b.max,.i .u64 b.chosen,.i .u64 b.flags,.i .u64 b.cost,.i .u64 b.priority,.i .u64 b.deadline,.i .u64 b.retry,.i .u64 b.epoch,.i .u64 b.base,.i .u64 b.digest,.i .u64 b.lag,.i .u64 b.code,.i .u64 b.want,.i .i64 b.remaining,.b b.allowed,.s b.name,.s b.region,.s b.note,.l (b.d.map ent),.l (b.t.map row),.l (aA fl)]=some [.i .i64 0,.l (rQ ps)]:=h0;clear h0;have h1':TT.lim 36 [.l (sp.map eF),.l (gB.map .s),.i .i64 gB.length,.i .i64 0,.l (rQ ps),.i .i64 b.kind,.i .u64 b.id,.i .u64 b.min,.i .u64 b.max,.i .u64 b.chosen,.i .u64 b.flags,.i .u64 b.cost,.i .u64 b.priority,.i .u64 b.deadline,.i .u64 b.retry,.i .u64 b.epoch,.i .u64 b.base,.i .u64 b.digest,.i .u64 b.lag,.i .u64 b.code,.i .u64 b.want,.i .i64 b.remaining,.b b.allowed,.s b.name,.s b.region,.s b.note,.l (b.d.map ent),.l (b.t.map row),.l (aA fl)]=_:=h1;clear h1;have h2':TT.lim 37 [.l (sp.map eF),.i .i64 sp.length,.i .i64 0,.i .i64 b.kind,.i .u64 b.id,.i .u64 b.min,.i .u64 b.max,.i .u64 b.chosen,.i .u64 b.flags,.i .u64 b.cost,.i .u64 b.priority,.i .u64 b.deadline,.i .u64 b.retry,.i .u64 b.epoch,.i .u64 b.base,.i .u64 b.digest,.i .u64 b.lag,.i .u64 b.code,.i .u64 b.want,.i .i64 b.remaining,.b b.allowed,.s b.name,.s b.region,.s b.note,.l (b.d.map ent),.l (b.t.map row),.l (aA fl)]=_:=h2;clear h2;have h3':TT.lim 73 [.l (sp.map eF),.l (aA fl),.i .i64 (aA fl).length,.i .i64 0]=_:=h3;clear h3;have hr:Fa sp fl=if iH 0 0 fl≠0 then iH 0 0 fl else if fl.any (λf=>hasTag sp f.tag)=true then 14 else 0:=rfl
 generalize (gB.all λn=>nM sp n || ng b n)=A at *;generalize lX b sp=M at *;generalize iH 0 0 fl=F at *;generalize (fl.any λf=>hasTag sp f.tag)=W at *;generalize Fa sp fl=R at *;generalize gB=NL at *;have asY:∀ (x:GV),True:=λ_=>trivial;cases A with
 | false=>
   simp only [gU,if_false] at h1';simp [v1,v3,hk,k0,k1,hkn,hnm,h0',h1']
 | true=>
 simp only [if_true] at h1';by_cases hM:M=0;rotate_left
 ·rw [ah hM] at h2'
  simp [v1,v3,hk,k0,k1,hkn,hnm,h0',h1',h2',hM]
 rw [aj hM] at h2';rw [ah (by simp),ah (by simp [hM])];clear hM
 -- the rest of it
 have key:∀ (c:Int),tK b=c->c≠0->True:=λ_ _ _=>trivial;unfold tK;by_cases e1:b.kind=1
 ·have e1:=eq_true e1
  by_cases c1:b.min < 1
  ·simp [v1,v3,hk,k0,k1,hkn,hnm,h0',h1',h2',e1,c1]
  by_cases c2:b.max < b.min
  ·simp [v1,v3,hk,k0,k1,hkn,hnm,h0',h1',h2',e1,c1,c2]
  by_cases c3:255 < b.max
  ·simp [v1,v3,hk,k0,k1,hkn,hnm,h0',h1',h2',e1,c1,c2,c3]
  simp only [e1,c1,c2,c3,if_true,if_false,ne_eq,not_true_eq_false];rw [hr];by_cases hF:F=0
  ·subst hF
   cases W with
   | true=>simp only [if_true] at h3';simp [v1,v3,hk,k0,k1,hkn,hnm,h0',h1',h2',e1,c1,c2,c3,h4,h3']
   | false=>simp only [gU,if_false] at h3';simp [v1,v3,hk,k0,k1,hkn,hnm,h0',h1',h2',e1,c1,c2,c3,h4,h3']
  ·simp [v1,v3,hk,k0,k1,hkn,hnm,h0',h1',h2',e1,c1,c2,c3,h4,hF]
 by_cases e2:b.kind=2
 ·have e2:=eq_true e2
  by_cases c1:b.chosen < 1
  ·simp [v1,v3,hk,k0,k1,hkn,hnm,h0',h1',h2',e1,e2,c1]
  by_cases c2:255 < b.chosen
  ·simp [v1,v3,hk,k0,k1,hkn,hnm,h0',h1',h2',e1,e2,c1,c2]
  simp only [e1,e2,c1,c2,if_true,if_false,ne_eq,not_true_eq_false];rw [hr];by_cases hF:F=0
  ·subst hF
   cases W with
   | true=>simp only [if_true] at h3';simp [v1,v3,hk,k0,k1,hkn,hnm,h0',h1',h2',e1,e2,c1,c2,h4,h3']
   | false=>simp only [gU,if_false] at h3';simp [v1,v3,hk,k0,k1,hkn,hnm,h0',h1',h2',e1,e2,c1,c2,h4,h3']
  ·simp [v1,v3,hk,k0,k1,hkn,hnm,h0',h1',h2',e1,e2,c1,c2,h4,hF]
 by_cases e3:b.kind=3
 ·have e3:=eq_true e3
  by_cases c1:b.d=[]
  ·have c1:=eq_true c1
   simp [v1,v3,hk,k0,k1,hkn,hnm,h0',h1',h2',e1,e2,e3,c1]
  simp only [e1,e2,e3,c1,if_true,if_false,ne_eq,not_true_eq_false];rw [hr];by_cases hF:F=0
  ·subst hF
   cases W with
   | true=>simp only [if_true] at h3';simp [v1,v3,hk,k0,k1,hkn,hnm,h0',h1',h2',e1,e2,e3,c1,h4,h3']
   | false=>simp only [gU,if_false] at h3';simp [v1,v3,hk,k0,k1,hkn,hnm,h0',h1',h2',e1,e2,e3,c1,h4,h3']
  ·simp [v1,v3,hk,k0,k1,hkn,hnm,h0',h1',h2',e1,e2,e3,c1,h4,hF]
 by_cases e5:b.kind=5
 ·have e5:=eq_true e5
  by_cases c1:b.epoch < 1
  ·simp [v1,v3,hk,k0,k1,hkn,hnm,h0',h1',h2',e1,e2,e3,e5,c1]
  simp only [e1,e2,e3,e5,c1,if_true,if_false,ne_eq,not_true_eq_false];rw [hr];by_cases hF:F=0
  ·subst hF
   cases W with
   | true=>simp only [if_true] at h3';simp [v1,v3,hk,k0,k1,hkn,hnm,h0',h1',h2',e1,e2,e3,e5,c1,h4,h3']
   | false=>simp only [gU,if_false] at h3';simp [v1,v3,hk,k0,k1,hkn,hnm,h0',h1',h2',e1,e2,e3,e5,c1,h4,h3']
  ·simp [v1,v3,hk,k0,k1,hkn,hnm,h0',h1',h2',e1,e2,e3,e5,c1,h4,hF]
 by_cases e6:b.kind=6
 ·have e6:=eq_true e6
  by_cases c1:b.base < 1
  ·simp [v1,v3,hk,k0,k1,hkn,hnm,h0',h1',h2',e1,e2,e3,e5,e6,c1]
  by_cases c2:b.epoch<=b.base
  ·simp [v1,v3,hk,k0,k1,hkn,hnm,h0',h1',h2',e1,e2,e3,e5,e6,c1,c2]
  simp only [e1,e2,e3,e5,e6,c1,c2,if_true,if_false,ne_eq,not_true_eq_false];rw [hr];by_cases hF:F=0
  ·subst hF
   cases W with
   | true=>simp only [if_true] at h3';simp [v1,v3,hk,k0,k1,hkn,hnm,h0',h1',h2',e1,e2,e3,e5,e6,c1,c2,h4,h3']
   | false=>simp only [gU,if_false] at h3';simp [v1,v3,hk,k0,k1,hkn,hnm,h0',h1',h2',e1,e2,e3,e5,e6,c1,c2,h4,h3']
  ·simp [v1,v3,hk,k0,k1,hkn,hnm,h0',h1',h2',e1,e2,e3,e5,e6,c1,c2,h4,hF]
 simp only [e1,e2,e3,e5,e6,if_false,ne_eq,not_true_eq_false];rw [hr];by_cases hF:F=0
 ·subst hF
  cases W with
  | true=>simp only [if_true] at h3';simp [v1,v3,hk,k0,k1,hkn,hnm,h0',h1',h2',e1,e2,e3,e5,e6,h4,h3']
  | false=>simp only [gU,if_false] at h3';simp [v1,v3,hk,k0,k1,hkn,hnm,h0',h1',h2',e1,e2,e3,e5,e6,h4,h3']
 ·simp [v1,v3,hk,k0,k1,hkn,hnm,h0',h1',h2',e1,e2,e3,e5,e6,h4,hF]
def XI (n:List UInt8):Int:=match placeOf n with
 | some p=>aqC p
 | none=>-1
theorem akA (k v:Int):∀s∈aH k v,placeOf s.name≠none/\s.use=XI s.name:=by
 have key:∀s∈lq k,placeOf s.name≠none/\s.use=XI s.name:=by
  unfold lq;repeat' split
  all_goals first | (unfold sp1;decide) | (unfold sp2;decide) | (unfold qB;decide) | (unfold yP;decide) | (unfold qC;decide) | (unfold qE;decide) | (unfold yQ;decide) | (unfold yR;decide) | (intro s hs;cases hs)
 intro s hs;exact key s (qJ.1 hs).1
/-- The numbers with a sign, written by their bits. -/
theorem ari (x:Int) (h0 : -9223372036854775808<=x) (h1:x<=9223372036854775807):∃u w:Int,IntKind.u64.wrap x=u/\IntKind.u64.wrap (x.fdiv (2 ^ 63))=w/\bU .xor .u64 (IntKind.u64.wrap (u * 2 ^ 1)) w=some (.i .u64 (zz x)):=by
 have wr:∀y:Int,IntKind.u64.wrap y=y % 18446744073709551616:=λy=>by simp [IntKind.wrap,IntKind.signed,IntKind.bits]
 refine ⟨_,_,rfl,rfl, ?_⟩;rw [wr,wr,wr];unfold zz;have hb:IntKind.u64.bits=64:=rfl;by_cases h:0<=x
 ·have e1:x.fdiv (2 ^ 63)=0:=by
   rw [AA _ (by decide)];exact Int.ediv_eq_zero_of_lt h (by omega)
  rw [e1,aj h];have e2:x % 18446744073709551616 * 2 ^ 1 % 18446744073709551616=2 * x:=by omega
  rw [e2];simp only [bU,wr,hb];have e3:(BitVec.ofInt 64 (2 * x) ^^^ BitVec.ofInt 64 (0 % 18446744073709551616))=BitVec.ofInt 64 (2 * x):=by
   have:BitVec.ofInt 64 (0 % 18446744073709551616)=0#64:=rfl;rw [this,BitVec.xor_zero]
  show some (GV.i IntKind.u64 (((BitVec.ofInt 64 (2 * x) ^^^ BitVec.ofInt 64 (0 % 18446744073709551616)).toNat:Int) % 18446744073709551616))=_
  rw [e3,qH];congr 2;omega
 ·have e1:x.fdiv (2 ^ 63) = -1:=by
   rw [AA _ (by decide)];omega
  rw [e1,ah h];have e2:x % 18446744073709551616 * 2 ^ 1 % 18446744073709551616=2 * x+18446744073709551616:=by omega
  rw [e2];simp only [bU,wr,hb];have e3:(BitVec.ofInt 64 (2 * x+18446744073709551616) ^^^ BitVec.ofInt 64 (-1 % 18446744073709551616)) = ~~~ BitVec.ofInt 64 (2 * x+18446744073709551616):=by
   have:BitVec.ofInt 64 (-1 % 18446744073709551616)=BitVec.allOnes 64:=by decide
   rw [this,X4]
  show some (GV.i IntKind.u64 (((BitVec.ofInt 64 (2 * x+18446744073709551616) ^^^ BitVec.ofInt 64 (-1 % 18446744073709551616)).toNat:Int) % 18446744073709551616))=_
  rw [e3,X3,qH];congr 2;omega
def YJ (b:aK) (r:List GV) (n:List UInt8) (p:Pl):Prop:=TT.lim 76 [fC b r,.s n]=some [.g [.i .u64 0,.i .i64 (bJ p),.i .u64 (aP b p).1,.s (aP b p).2,.l []],.b true]
set_option maxHeartbeats 4000000 in
theorem alN (b:aK) (r:List GV) (hb:vJ b) {n:List UInt8} {p:Pl} (hd:p=.d->iJ b.d=true) (hf:p=.t->FP b.t) (hp:placeOf n=some p):YJ b r n p:=by
 have hI:=O1 hp;have hk:=(su n p hp).2.1;unfold YJ;clear hp;induction p,hk using Iz
 case h0=>
  obtain ⟨u,w,h1,h2,h3⟩:=ari b.remaining hb.remaining.1 hb.remaining.2;have h2:IntKind.u64.wrap (b.remaining.fdiv 9223372036854775808)=w:=h2;have h3:bU .xor .u64 (IntKind.u64.wrap (u * 2)) w=some (.i .u64 (zz b.remaining)):=h3;refine aY rfl rfl ?_ rfl;simp [hI,jI,h1,h2,h3,IntKind.bits,bJ,aP]
 case h1=>
  refine aY rfl rfl ?_ rfl;cases hc:b.allowed<;>simp [hI,bJ,aP,hc]
 case h5=>
  have hk:=O5 b.d (hd rfl);refine aY rfl rfl ?_ rfl;by_cases e:b.d=[]
  ·have e':=eq_true e
   simp [hI,bJ,aP,e']
  ·simp [hI,bJ,aP,e,hk]
 case h6=>
  have hk:=akB b.t hb.t (hf rfl);refine aY rfl rfl ?_ rfl;by_cases e:b.t=[]
  ·have e':=eq_true e
   simp [hI,bJ,aP,e']
  ·simp [hI,bJ,aP,e,hk]
 all_goals
  refine aY rfl rfl ?_ rfl;simp [hI,bJ,aP,jH]
theorem alQ (b:aK) (r:List GV) {n:List UInt8} (hp:placeOf n=none):TT.lim 76 [fC b r,.s n]=some [.g [.i .u64 0,.i .i64 0,.i .u64 0,.s [],.l []],.b false]:=by
 have hI:=abl hp;refine aY rfl rfl ?_ rfl;simp [hI]
theorem Ua:∀ (n:Nat) (l:List One) (deep:Int),(∀x∈l,AQ x/\x.text.length<=300)->l.length<=1000000->cu (fE n l deep).1
 | 0,l,deep,_,_=>by simp only [fE,cu]
 | n+1,[],deep,_,_=>by simp only [fE,cu]
 | n+1,x::l,deep,h,hl=>by
   have hx:=h x (by simp);have hl':∀y∈l,AQ y/\y.text.length<=300:=λy hy=>h y (by simp [hy]);have hx1:=hx.1;unfold AQ at hx1;simp only [iT] at hl;simp only [fE];split
   ·have hp:cu (if x.deep=255 then (([]:List aC),l) else fE n l (x.deep+1)).1/\(if x.deep=255 then (([]:List aC),l) else fE n l (x.deep+1)).1.length<=1000000/\∃k,(if x.deep=255 then (([]:List aC),l) else fE n l (x.deep+1)).2=l.drop k:=by
     split
     ·exact ⟨by simp only [cu],by simp,0,rfl⟩
     ·have:=D7 n l (x.deep+1)
      exact ⟨Ua n l _ hl' (by omega),by omega,this.2⟩
    obtain ⟨p1,p2,k,p3⟩:=hp;simp only [cu,nK];refine ⟨⟨⟨hx1.2.2.2.2.1,hx1.2.2.2.2.2.1,hx1.2.2.1,hx1.2.2.2.1,hx1.2.2.2.2.2.2.1,hx1.2.2.2.2.2.2.2.1,iV hx.2 (by decide),p2⟩,p1⟩, ?_⟩;rw [p3];exact Ua n (l.drop k) deep (λy hy=>hl' y (AP hy)) (by rw [dW];omega)
   ·simp only [cu]
theorem ak4 (l:List One) (hl:Ones l) (hf:tX l=true):cu (rX l)/\(rX l).length<=1000000:=by
 unfold tX at hf;rw [aI,decide_eq_true_iff,List.all_eq_true] at hf;refine ⟨Ua _ l 0 (λx hx=>⟨hl.2 x hx,by simpa using hf.1 x hx⟩) (by omega), ?_⟩;have:=D7 (l.length+1) l 0;unfold rX;omega
abbrev It:=Int×Int×List UInt8
def uo (a b:It):Bool:=if a.1=b.1 then decide (a.2.1 < b.2.1) else decide (a.1 < b.1)
def leI (a b:It):Prop:=uo b a=false
theorem U7 (a b:It):leI a b↔a.1 < b.1\/(a.1=b.1/\a.2.1<=b.2.1):=by
 unfold leI uo;split
 ·next h=>simp;omega
 ·next h=>simp;omega
theorem abC {a b c:It} (h1:leI a b) (h2:leI b c):leI a c:=by rw [U7] at *;omega
theorem U8 {a b:It} (h:uo a b=true):leI a b:=by
 rw [U7];unfold uo at h;split at h
 ·next e=>have:=zZ h;omega
 ·next e=>have:=zZ h;omega
theorem akK {a b:It} (h:leI a b):a.1<=b.1:=by rw [U7] at h;omega
def dI:It:=(0,0,[])
abbrev at_ (h:List It) (i:Nat):It:=h.getD i dI
def Ap (h:List It) (i j:Nat):List It:=(h.set i (at_ h j)).set j (at_ h i)
theorem apW (h:List It) (i j:Nat):(Ap h i j).length=h.length:=by simp [Ap]
theorem afB (h:List It) {i j:Nat} (hi:i < h.length) (hj:j < h.length) (k:Nat):at_ (Ap h i j) k=if k=j then at_ h i else if k=i then at_ h j else at_ h k:=by
 unfold Ap at_;simp only [vM,List.getElem?_set,List.length_set];by_cases h1:k=j
 ·subst h1;simp [hj]
 ·have h1':¬ j=k:=λe=>h1 e.symm
  rw [ah h1',ah h1];by_cases h2:k=i
  ·subst h2;simp [hi]
  ·have h2':¬ i=k:=λe=>h2 e.symm
   rw [ah h2',ah h2]
theorem swap_perm (h:List It) {i j:Nat} (hi:i < h.length) (hj:j < h.length):(Ap h i j).Perm h:=by
 have:=Array.swap_perm (xs:=h.toArray) (i:=i) (j:=j) (by simpa using hi) (by simpa using hj);have h2:=this.toList;simp only [Array.toList_swap] at h2;unfold Ap at_;simpa [vM,hi,hj] using h2
def par (k:Nat):Nat:=(k - 1) / 2
def Heap (h:List It) (n:Nat):Prop:=∀k,0 < k->k < n->leI (at_ h (par k)) (at_ h k)
def LK:Nat->List It->Nat->List It
 | 0,h,_=>h
 | f+1,h,j=>if par j=j\/uo (at_ h j) (at_ h (par j))=false then h else LK f (Ap h (par j) j) (par j)
structure YI (h:List It) (n j:Nat):Prop where
 jn:j < n
 heap:∀k,0 < k->k < n->k≠j->leI (at_ h (par k)) (at_ h k)
 kids:∀k,0 < k->k < n->par k=j->0 < j->leI (at_ h (par j)) (at_ h k)
theorem aeI:∀ (f:Nat) (h:List It) (j n:Nat),j < f->n=h.length->YI h n j->Heap (LK f h j) n/\(LK f h j).Perm h
 | 0,h,j,n,hf,_,_=>by omega
 | f+1,h,j,n,hf,hn,hu=>by
   unfold LK;split
   ·next hc=>
    refine ⟨λk h0 hk=>?_,Mc _⟩;by_cases e:k=j
    ·subst e
     rcases hc with hc | hc
     ·unfold par at hc;omega
     ·exact hc
    ·exact hu.heap k h0 hk e
   ·next hc=>
    rw [not_or] at hc;obtain ⟨c1,c2⟩:=hc;have c2:uo (at_ h j) (at_ h (par j))=true:=by simpa using c2
    have j0:0 < j:=by
     rcases RU j with e | e
     ·subst e;exact absurd rfl c1
     ·exact e
    have hp:par j < j:=by unfold par;omega
    have hjn:=hu.jn;have hsw:=afB h (i:=par j) (j:=j) (by omega) (by omega);have hu2:YI (Ap h (par j) j) n (par j):=by
     refine ⟨by omega,λk h0 hk hne=>?_,λk h0 hk hpk hp0=>?_⟩
     ·rw [hsw,hsw]
      by_cases e1:k=j
      ·subst e1
       rw [ah (by omega),aj rfl,aj rfl];exact U8 c2
      ·rw [ah e1,ah hne]
       by_cases e2:par k=j
       ·rw [aj e2]
        exact hu.kids k h0 hk e2 j0
       ·rw [ah e2]
        by_cases e3:par k=par j
        ·rw [aj e3]
         exact abC (U8 c2) (e3 ▸ hu.heap k h0 hk e1)
        ·rw [ah e3]
         exact hu.heap k h0 hk e1
     ·rw [hsw,hsw]
      have q:par (par j) < par j:=by unfold par at *;omega
      rw [ah (by omega),ah (by omega)];have hg:=hu.heap (par j) hp0 (by omega) (by omega);by_cases e1:k=j
      ·subst e1
       rw [aj rfl];exact hg
      ·rw [ah e1,ah (λe=>by rw [e] at hpk;omega)]
       exact abC hg (hpk ▸ hu.heap k h0 hk e1)
    obtain ⟨r1,r2⟩:=aeI f (Ap h (par j) j) (par j) n (by omega) (by rw [apW];exact hn) hu2;exact ⟨r1,r2.trans (swap_perm h (by omega) (by omega))⟩
def Qe (h:List It) (x:It):List It:=LK (h.length+1) (h++[x]) h.length
theorem adp (h:List It) (x:It) (hh:Heap h h.length):Heap (Qe h x) (h.length+1)/\(Qe h x).Perm (h++[x]):=by
 refine aeI _ _ _ _ (by omega) (by simp) ⟨by omega,λk h0 hk hne=>?_,λk h0 hk hpk _=>?_⟩
 ·have hk2:k < h.length:=by omega
  have e1:at_ (h++[x]) k=at_ h k:=by simp [at_,kT (show k < h.length by omega)]
  have e2:at_ (h++[x]) (par k)=at_ h (par k):=by simp [at_,kT (show par k < h.length by unfold par;omega)]
  rw [e1,e2];exact hh k h0 (by omega)
 ·exfalso;unfold par at hpk;omega
theorem am6 (h:List It) (x:It) (hh:Heap h h.length):(Qe h x).length=h.length+1:=by
 have:=(adp h x hh).2.length_eq;simpa using this
structure JA (h L:List It) (n:Int):Prop where
 heap:Heap h h.length
 perm:L.Perm h
 srt:L.Pairwise (λx y=>uo x y=true)
 low:∀x∈L,x.2.1 < n
theorem JA.len {h L:List It} {n:Int} (s:JA h L n):h.length=L.length:=s.perm.length_eq.symm
def insL (x:It):List It->List It
 | []=>[x]
 | y::L=>if y.1<=x.1 then y::insL x L else x::y::L
theorem O0 (x:It):∀L,(insL x L).Perm (L++[x])
 | []=>Mc _
 | y::L=>by
   unfold insL;split
   ·exact (O0 x L).cons y
   ·exact List.perm_append_comm (l₁:=[x]) (l₂:=y::L)
theorem ak1 {y x:It} (h:y.1<=x.1) (h2:y.2.1 < x.2.1):uo y x=true:=by
 unfold uo;split
 ·simpa using h2
 ·simp;omega
theorem abU {y x:It} (h:x.1 < y.1):uo x y=true:=by
 unfold uo;rw [ah (by omega)];simpa using h
theorem ak0 {x y:It} (h:uo x y=true):x.1<=y.1:=akK (U8 h)
theorem abe (x:It):∀L:List It,L.Pairwise (λa b=>uo a b=true)->(∀y∈L,y.2.1 < x.2.1)->(insL x L).Pairwise (λa b=>uo a b=true)
 | [],_,_=>by simp [insL]
 | y::L,hs,hlow=>by
   obtain ⟨h1,h2⟩:=pV.1 hs;unfold insL;split
   ·next hc=>
    refine pV.2 ⟨λz hz=>?_,abe x L h2 λz hz=>hlow z (xQ _ hz)⟩;rcases lF.1 ((O0 x L).mem_iff.1 hz) with g | g
    ·exact h1 z g
    ·rw [Jp] at g
     subst g;exact ak1 hc (hlow y List.mem_cons_self)
   ·next hc=>
    refine pV.2 ⟨λz hz=>?_,hs⟩;rcases dh.1 hz with rfl | g
    ·exact abU (by omega)
    ·exact abU (by have:=ak0 (h1 z g);omega)
theorem JA.put {h L:List It} {n a:Int} {t:List UInt8} (s:JA h L n):JA (Qe h (a,n,t)) (insL (a,n,t) L) (n+1):=by
 have hp:=adp h (a,n,t) s.heap;have hl:=am6 h (a,n,t) s.heap;refine ⟨by rw [hl];exact hp.1,(O0 _ _).trans ((s.perm.append_right _).trans hp.2.symm),abe _ _ s.srt s.low,λx hx=>?_⟩;rcases lF.1 ((O0 _ _).mem_iff.1 hx) with g | g
 ·have:=s.low x g;omega
 ·rw [Jp] at g
  subst g;show n < n+1
  omega
/-- What may be kept. -/
structure Kp (k:List Sn):Prop where
 len:k.length<=8
 tb:∀s∈k,Tb s.2
 pos:∀s∈k,0 < s.1/\s.1 < 18446744073709551616
 rise:k.Pairwise λa b=>a.1 < b.1/\YZ b.2 a.2=true
theorem Kp.nil:Kp []:=⟨by decide,by simp,by simp,List.Pairwise.nil⟩
theorem Kp.drop {k:List Sn} (hk:Kp k) (i:Nat):Kp (k.drop i):=
 ⟨by have:=hk.len;rw [dW];omega,λs hs=>hk.tb s (AP hs),λs hs=>hk.pos s (AP hs),hk.rise.sublist (List.drop_sublist i k)⟩
/-- What was published by its epoch. -/
def afe (xs:List GV) (k:List Sn):Prop:=∀s∈k,gW (.i .u64 s.1) xs=some (sn s)
theorem key_inj {a b:Int} {x:GV} (h1:mY (.i .u64 a) x=true) (h2:mY (.i .u64 b) x=true):a=b:=by
 cases x<;>simp [mY] at h1 h2
 omega
theorem abo (a b:Int):mY (.i .u64 a) (.i .u64 b)=decide (a=b):=by
 simp only [mY];rw [pJ];simp
theorem wW (a b:Int) (u:GV):∀xs:List GV,gW (.i .u64 a) (kD (.i .u64 b) u xs)=if a=b then some u else gW (.i .u64 a) xs
 | []=>by
   show (if mY (.i .u64 a) (.i .u64 b)=true then some u else none)=_
   rw [abo];by_cases h:a=b<;>simp [h,gW]
 | .g [x,v]::xs=>by
   have ih:=wW a b u xs;show gW (.i .u64 a) (if mY (.i .u64 b) x=true then .g [.i .u64 b,u]::xs else .g [x,v]::kD (.i .u64 b) u xs)=if a=b then some u else (if mY (.i .u64 a) x=true then some v else gW (.i .u64 a) xs)
   cases hb:mY (.i .u64 b) x with
   | true=>
     rw [aj rfl];show (if mY (.i .u64 a) (.i .u64 b)=true then some u else gW (.i .u64 a) xs)=_
     rw [abo];by_cases h:a=b
     ·simp [h]
     ·cases ha:mY (.i .u64 a) x with
      | true=>exact absurd (key_inj ha hb) h
      | false=>simp [h]
   | false=>
     rw [ah (by simp)];show (if mY (.i .u64 a) x=true then some v else gW (.i .u64 a) (kD (.i .u64 b) u xs))=_
     rw [ih];cases ha:mY (.i .u64 a) x with
     | true=>
       by_cases h:a=b
       ·subst h;rw [ha] at hb;cases hb
       ·simp [h]
     | false=>simp
 | .g []::xs=>wW a b u xs
 | .g [_]::xs=>wW a b u xs
 | .g (_::_::_::_)::xs=>wW a b u xs
 | .i _ _::xs=>wW a b u xs
 | .b _::xs=>wW a b u xs
 | .s _::xs=>wW a b u xs
 | .l _::xs=>wW a b u xs
structure Lead (xs:List GV) (k:List Sn) (b:Int):Prop where
 kp:Kp k
 map:afe xs k
 base:b=0\/∃s∈k,s.1=b
abbrev An:=Int×Int×Int×Int
/-- A message of a sender. -/
abbrev Tm:=Int×Int×Int×List Row
def ae4 (xs:List GV) (m:Tm):Prop:=
 (m.1=5/\Tb m.2.2.2/\(0 < m.2.1/\m.2.1 < 18446744073709551616)/\m.2.2.1=0/\gW (.i .u64 m.2.1) xs=some (sn (m.2.1,m.2.2.2)))\/
 (m.1=6/\Tb m.2.2.2/\(0 < m.2.2.1/\m.2.2.1 < m.2.1/\m.2.1 < 18446744073709551616)/\∃s l:Sn,gW (.i .u64 m.2.2.1) xs=some (sn s)/\gW (.i .u64 m.2.1) xs=some (sn l)/\l.1=m.2.1/\s.1=m.2.2.1/\Tb l.2/\afz s (m.2.2.1,m.2.1,m.2.2.2)=(l,0))
/-- A sender and a receiver, and what was told between them. -/
structure Yc (xs:List GV) (told:List Tm) (back:List An) (k:List Sn) (b:Int) (sm:Bool) (h:Sn):Prop where
 lead:Lead xs k b
 keys:∀e g,gW (.i .u64 e) xs=some g->∃l,k.getLast? = some l/\e<=l.1
 told:∀m∈told,ae4 xs m
 back:∀a∈back,a.1=7->sm=true/\a.2.1<=h.1
 has:(sm=true/\gW (.i .u64 h.1) xs=some (sn h)/\Tb h.2)\/(sm=false/\h=zS)
 base:b<=0\/(sm=true/\b<=h.1)
 zero:gW (.i .u64 0) xs=none
theorem Yc.tb {xs:List GV} {told:List Tm} {back:List An} {k:List Sn} {b:Int} {sm:Bool} {h:Sn} (f:Yc xs told back k b sm h):Tb h.2:=by
 rcases f.has with ⟨-, -,h1⟩ | ⟨-,h1⟩
 ·exact h1
 ·rw [h1];exact aqi
noncomputable def dG (p:Prop):Bool:=@decide p (Classical.propDecidable p)
theorem jZ {p:Prop} (h:p):dG p=true:=@DY p (Classical.propDecidable p) h
theorem jM {p:Prop} (h:¬ p):dG p=false:=@Bo p (Classical.propDecidable p) h
theorem H9 {p q:Prop} (h:p↔q):dG p=dG q:=by rw [propext h]
def oD (t y n:Int) (s:List UInt8) (k:List aC):GV:=.g [.i .u64 t,.i .i64 y,.i .u64 n,.s s,.l (aA k)]
@[simp] theorem ash (t y n:Int) (s:List UInt8) (k:List aC):(oD t y n s k).cells=[.i .u64 t,.i .i64 y,.i .u64 n,.s s,.l (aA k)]:=rfl
theorem BH {l:List aC} {i:Nat} (h:i < l.length):∃t y n s k,l[i]? = some (.mk t y n s k)/\(aA l)[i]? = some (oD t y n s k)/\l.drop i=.mk t y n s k::l.drop (i+1)/\aC.mk t y n s k∈l:=by
 have hget:(aA l)[i]? = some (mP l[i]):=by rw [yD,jm,cO h];rfl
 have hd:=jc h;have hm:=jo h;have hg:=cO h;cases hf:l[i] with
 | mk t y n s k=>
   rw [hf] at hget hd hm hg;exact ⟨t,y,n,s,k,hg,by rw [hget];simp only [mP];rfl,hd,hm⟩
/-- What is still to be compared behind two lists' fields. -/
def qy:List aC->List aC->Option (List (List aC×List aC))
 | .mk t y n s k::a,.mk t' y' n' s' k'::b=>if t=t'/\y=y'/\n=n'/\s=s' then (qy a b).map λr=>(if k.length=0/\k'.length=0 then [] else [(k,k')])++r else none
 | _,_=>some []
def jC (q:List aC×List aC):GV:=.g [.l (aA q.1),.l (aA q.2)]
@[simp] theorem atJ (q:List aC×List aC):(jC q).cells=[.l (aA q.1),.l (aA q.2)]:=rfl
def qp:List (List aC×List aC)->Nat
 | []=>0
 | q::l=>bV q.1+1+qp l
theorem PO:∀ (a b:List (List aC×List aC)),qp (a++b)=qp a+qp b
 | [],b=>by simp [qp]
 | q::a,b=>by simp only [eG,qp,PO a b];omega
theorem aco:∀ (a:List (List aC×List aC)),a.length<=qp a
 | []=>by simp [qp]
 | q::a=>by have:=aco a;simp only [iT,qp];omega
def okP (q:List aC×List aC):Prop:=cu q.1/\cu q.2/\q.1.length<=1000000/\q.2.length<=1000000
theorem ado:∀ (a b:List aC),a.length=b.length->cu a->cu b->(match qy a b with
 | none=>a≠b
 | some ps=>((∀q∈ps,q.1=q.2)↔a=b)/\qp ps<=bV a/\∀q∈ps,okP q)
 | [],[],_,_,_=>by simp [qy,qp]
 | [],_::_,e,_,_=>by simp at e
 | _::_,[],e,_,_=>by simp at e
 | .mk t y n s k::a,.mk t' y' n' s' k'::b,e,ha,hb=>by
   simp only [cu,nK] at ha hb;have ih:=ado a b (by simpa using e) ha.2 hb.2;unfold qy;by_cases hc:t=t'/\y=y'/\n=n'/\s=s'
   ·rw [aj hc]
    obtain ⟨rfl,rfl,rfl,rfl⟩:=hc;cases hp:qy a b with
    | none=>
      rw [hp] at ih;simp only [Option.map_none];intro h;injection h with h1 h2
      exact ih h2
    | some ps=>
      rw [hp] at ih;obtain ⟨i1,i2,i3⟩:=ih;simp only [gI];by_cases hk:k.length=0/\k'.length=0
      ·rw [aj hk]
       have e1:=jd hk.1;have e2:=jd hk.2;subst e1;subst e2;refine ⟨by simpa using i1,by simp only [dA,bV,pz];omega,by simpa using i3⟩
      ·rw [ah hk]
       refine ⟨?_,by simp only [eG,dA,qp,bV,pz];omega,λq hq=>?_⟩
       ·simp only [eG,dA,dh,forall_eq_or_imp,i1]
        constructor
        ·rintro ⟨h1,h2⟩;rw [h1,h2]
        ·intro h
         injection h with h1 h2
         injection h1 with _ _ _ _ h5
         exact ⟨h5,h2⟩
       ·simp only [eG,dA,dh] at hq
        rcases hq with rfl | hq
        ·exact ⟨ha.1.2,hb.1.2,ha.1.1.2.2.2.2.2.2.2,hb.1.1.2.2.2.2.2.2.2⟩
        ·exact i3 q hq
   ·rw [ah hc]
    intro h;injection h with h1 h2
    injection h1 with k1 k2 k3 k4 _
    exact hc ⟨k1,k2,k3,k4⟩
theorem Ub (a b:List aC) (hl:a.length=b.length) (hla:a.length<=1000000) (ha:cu a) (hb:cu b):∀ (m i:Nat) (acc:List (List aC×List aC)),i+m=a.length->acc.length+m<=4000000->
 TT.lim 142 [.l (acc.map jC),.i .i64 a.length,.i .i64 i,.l (aA a),.l (aA b)]=some (match qy (a.drop i) (b.drop i) with | none=>[.i .i64 0] | some ps=>[.i .i64 1,.l ((acc++ps).map jC)])
 | 0,i,acc,hi,hacc=>by
   have e1:a.drop i=[]:=gJ (by omega);have e2:b.drop i=[]:=gJ (by omega);have h:¬ ((i:Int) < a.length):=by omega
   rw [e1,e2];simp only [qy,mD];generalize acc.map jC=A at *;refine aB rfl rfl ?_;simp [h]
 | m+1,i,acc,hi,hacc=>by
   obtain ⟨t,y,n,s,k,g1,g2,g3,g4⟩:=BH (l:=a) (i:=i) (by omega);obtain ⟨t',y',n',s',k',g1',g2',g3',g4'⟩:=BH (l:=b) (i:=i) (by omega);have hwr:=wrap64 (n:=(i:Int)+1) (by omega) (by omega);have h:((i:Int) < a.length):=by omega
   have hcast:((i+1:Nat):Int)=(i:Int)+1:=by omega
   have hz1:=kY k;have hz2:=kY k';rw [g3,g3'];unfold qy;by_cases c1:t=t';rotate_left
   ·rw [ah λh=>c1 h.1]
    refine aB rfl rfl ?_;simp [h,g2,g2',c1]
   by_cases c2:y=y';rotate_left
   ·rw [ah λh=>c2 h.2.1]
    refine aB rfl rfl ?_;simp [h,g2,g2',c1,c2]
   by_cases c3:n=n';rotate_left
   ·rw [ah λh=>c3 h.2.2.1]
    refine aB rfl rfl ?_;simp [h,g2,g2',c1,c2,c3]
   by_cases c4:s=s';rotate_left
   ·rw [ah λh=>c4 h.2.2.2]
    refine aB rfl rfl ?_;simp [h,g2,g2',c1,c2,c3,c4]
   rw [aj ⟨c1,c2,c3,c4⟩];by_cases hk:k.length=0/\k'.length=0
   ·rw [aj hk]
    have ih':=Ub a b hl hla ha hb m (i+1) acc (by omega) (by omega);rw [hcast] at ih';have z1:=jd hk.1;have z2:=jd hk.2;have hR:(match Option.map (λr=>[]++r) (qy (a.drop (i+1)) (b.drop (i+1))) with | none=>[GV.i .i64 0] | some ps=>[GV.i .i64 1,GV.l ((acc++ps).map jC)])=(match qy (a.drop (i+1)) (b.drop (i+1)) with | none=>[GV.i .i64 0] | some ps=>[GV.i .i64 1,GV.l ((acc++ps).map jC)]):=by
     cases qy (a.drop (i+1)) (b.drop (i+1))<;>simp
    rw [hR];generalize (match qy (a.drop (i+1)) (b.drop (i+1)) with | none=>[GV.i .i64 0] | some ps=>[GV.i .i64 1,GV.l ((acc++ps).map jC)])=R at *;generalize acc.map jC=A at *;refine aB rfl rfl ?_;simp [h,g2,g2',c1,c2,c3,c4,z1,z2,aA,hwr,ih']
   ·rw [ah hk]
    have ih':=Ub a b hl hla ha hb m (i+1) (acc++[(k,k')]) (by omega) (by simp;omega);rw [hcast] at ih';have hR:(match Option.map (λr=>[(k,k')]++r) (qy (a.drop (i+1)) (b.drop (i+1))) with | none=>[GV.i .i64 0] | some ps=>[GV.i .i64 1,GV.l ((acc++ps).map jC)])=(match qy (a.drop (i+1)) (b.drop (i+1)) with | none=>[GV.i .i64 0] | some ps=>[GV.i .i64 1,GV.l ((acc++[(k,k')]++ps).map jC)]):=by
     cases qy (a.drop (i+1)) (b.drop (i+1))<;>simp
    rw [hR];generalize (match qy (a.drop (i+1)) (b.drop (i+1)) with | none=>[GV.i .i64 0] | some ps=>[GV.i .i64 1,GV.l ((acc++[(k,k')]++ps).map jC)])=R at *;have hmap:(acc++[(k,k')]).map jC=acc.map jC++[.g [.l (aA k),.l (aA k')]]:=by simp [jC]
    rw [hmap] at ih';have hb1:2 * ((acc.map jC).length+1) * 48<=281474976710656/\(acc.map jC).length+1<=281474976710656:=by rw [vO];omega
    generalize acc.map jC=A at *;have hb2:A.length<=281474976710655:=by omega
    by_cases z0:k.length=0;rotate_left
    ·have z1:0 < k.length:=by omega
     have z3:k≠[]:=λe=>by rw [e] at z0;exact z0 rfl
     have hel:GV.fJ 2 (.g [.l (aA k),.l (aA k')])=true:=rfl;refine aB rfl rfl ?_;simp [h,g2,g2',c1,c2,c3,c4,hz1,hz2,z1,z3,hwr,ih',hel,hb1,hb2]
    ·have z1:=jd z0
     have z2:0 < k'.length:=by omega
     have z3:k'≠[]:=λe=>by rw [e] at z2;exact absurd z2 (by simp)
     subst z1;have hel:GV.fJ 2 (.g [.l [],.l (aA k')])=true:=rfl;simp only [aA,oD] at ih' g2 hz1;refine aB rfl rfl ?_;simp [h,g2,g2',c1,c2,c3,c4,hz2,z2,z3,hwr,ih',hel,hb1,hb2]
theorem aaL:∀ (N:Nat) (work:List (List aC×List aC)),qp work < N->qp work<=2000000->(∀q∈work,okP q)->TT.lim 141 [.l (work.map jC)]=some [.i .i64 (if dG (∀q∈work,q.1=q.2)=true then 1 else 0)]
 | 0,work,hN,_,_=>by omega
 | N+1,work,hN,hM,hok=>by
   rcases ae7 work with rfl | ⟨ws,q,rfl⟩
   ·have ht:dG (∀q∈([]:List (List aC×List aC)),q.1=q.2)=true:=jZ (by simp)
    rw [ht];refine aB rfl rfl ?_;simp
   ·rw [ae5] at *
    obtain ⟨a,b⟩:=q;have hq:=hok (a,b) (by simp);obtain ⟨q1,q2,q3,q4⟩:=hq;simp only at q1 q2 q3 q4;have hlen:=aco ws;rw [PO] at hN hM;simp only [qp] at hN hM;have hl1:=kY a;have hl2:=kY b;have hmap:(ws++[(a,b)]).map jC=ws.map jC++[jC (a,b)]:=by simp
    have hwl:(ws.map jC).length=ws.length:=vO ..;have hall:∀x∈ws.map jC,x.cells.length=2:=by
     intro x hx;obtain ⟨r,_,rfl⟩:=mF.1 hx;rfl
    have key:=Ub a b;have i0:(0:Int) < (ws.length:Int)+1:=by omega
    have i1:(ws.length:Int)+1 - 1=ws.length:=by omega
    have i2:(ws.length:Int) < (ws.length:Int)+1:=by omega
    have i3:(ws.length:Int)<=(ws.length:Int)+1:=by omega
    have hwr:=wrap64 (n:=(ws.length:Int)) (by omega) (by omega);rw [hmap];by_cases hl:a.length=b.length;rotate_left
    ·have hne:dG (∀q∈ws++[(a,b)],q.1=q.2)=false:=jM λh=>hl (qR List.length (h (a,b) (by simp)))
     have hc:¬ ((a.length:Int)=(b.length:Int)):=by omega
     rw [hne];generalize ws.map jC=A at *;have Kt:=eq_true hall;clear hall;refine aB rfl rfl ?_;simp [hwl,i0,i1,i2,i3,hwr,jC,hl1,hl2,hc,Kt]
    ·have hpo:=ado a b hl q1 q2
     have key:=key hl q3 q1 q2 a.length 0 ws (by omega) (by omega);rw [eP,eP,show ((0:Nat):Int)=0 from rfl] at key;have hc:b.length=a.length:=by omega
     cases hp:qy a b with
     | none=>
       rw [hp] at hpo key;have hne:dG (∀q∈ws++[(a,b)],q.1=q.2)=false:=jM λh=>hpo (h (a,b) (by simp));rw [hne];simp only at key;generalize ws.map jC=A at *;have hA:A.length < 281474976710656:=by omega
       have Kt:=eq_true hall;clear hall;refine aB rfl rfl ?_;simp [hwl,i0,i1,i2,i3,hwr,jC,hl1,hl2,hc,key,Kt]
     | some ps=>
       rw [hp] at hpo key;obtain ⟨p1,p2,p3⟩:=hpo;have ih:=aaL N (ws++ps) (by rw [PO];omega) (by rw [PO];omega) (λq hq=>by
        rcases lF.1 hq with hq | hq
        ·exact hok q (by simp [hq])
        ·exact p3 q hq)
       have hcg:dG (∀q∈ws++[(a,b)],q.1=q.2)=dG (∀q∈ws++ps,q.1=q.2):=H9 (by
        simp only [lF,or_imp,forall_and,p1,Jp,forall_eq])
       rw [hcg];generalize dG (∀q∈ws++ps,q.1=q.2)=R at *;simp only at key;generalize (ws++ps).map jC=B at *;generalize ws.map jC=A at *;have Kt:=eq_true hall;clear hall;refine aB rfl rfl ?_;simp [hwl,i0,i1,i2,i3,hwr,jC,hl1,hl2,hc,key,Kt,ih]
theorem aiY (a b:List aC) (ha:cu a) (hb:cu b) (hla:a.length<=1000000) (hlb:b.length<=1000000) (hs:bV a<=1000000):TT.lim 140 [.l (aA a),.l (aA b)]=some [.b (dG (a=b))]:=by
 have h:=aaL (bV a+2) [(a,b)] (by simp [qp]) (by simp [qp];omega) (by intro q hq;simp at hq;subst hq;exact ⟨ha,hb,hla,hlb⟩);have hcg:dG (∀q∈[(a,b)],q.1=q.2)=dG (a=b):=H9 (by simp);rw [hcg] at h;have hm:[(a,b)].map jC=[.g [.l (aA a),.l (aA b)]]:=rfl;rw [hm] at h;refine aY rfl rfl ?_ rfl;generalize dG (a=b)=r at *;cases r with
 | true=>simp at h;simp [h]
 | false=>simp at h;simp [h]
mutual
def toFt:aC->Ft
 | .mk t y n s k=>.mk [.int .u64 t,.int .i64 y,.int .u64 n,.string ⟨⟨s⟩⟩] (Fz k)
def Fz:List aC->List Ft
 | []=>[]
 | f::l=>toFt f::Fz l
end
mutual
theorem aqm:∀f:aC,zQ (toFt f) (mP f)/\cntF (toFt f)<=pz f
 | .mk t y n s k=>by
   have h:=XC k;simp only [toFt,zQ,mP,cntF,pz];exact ⟨⟨_,_,_,_,_,rfl,rfl,h.1⟩,by omega⟩
theorem XC:∀l:List aC,nP (Fz l) (aA l)/\lU (Fz l)<=bV l
 | []=>by simp only [Fz,nP,aA,lU,bV];exact ⟨trivial,dN _⟩
 | f::l=>by
   have h1:=aqm f;have h2:=XC l;simp only [Fz,nP,aA,lU,bV];exact ⟨⟨_,_,rfl,h1.1,h2.1⟩,by omega⟩
end
theorem Om (l:List aC) (hs:bV l<=1000000):TT.lim 85 [.l (aA l)]=some [.l (aA l)]:=by
 refine IG (Ds:=Ds) (k:=85) (f:=G5) rfl ?_;have h:=XC l;unfold G5;exact aj ⟨Fz l,h.1,by omega⟩
theorem Oy:∀ (n:Nat) (l:List One) (deep:Int),bV (fE n l deep).1+2 * (fE n l deep).2.length<=2 * l.length
 | 0,l,deep=>by simp [fE,bV]
 | n+1,[],deep=>by simp [fE,bV]
 | n+1,x::l,deep=>by
   simp only [fE];split
   ·by_cases hx:x.deep=255
    ·rw [aj hx]
     have h1:=Oy n l deep;simp only [bV,pz,iT];omega
    ·rw [ah hx]
     have h1:=Oy n l (x.deep+1);have h2:=Oy n (fE n l (x.deep+1)).2 deep;simp only [bV,pz,iT];omega
   ·simp [bV]
theorem abZ (l:List One):bV (rX l)<=2 * l.length:=by
 have:=Oy (l.length+1) l 0;unfold rX;omega
end S
end Go.Proofs.YtnlegpmfkopalaaGreatDoor
