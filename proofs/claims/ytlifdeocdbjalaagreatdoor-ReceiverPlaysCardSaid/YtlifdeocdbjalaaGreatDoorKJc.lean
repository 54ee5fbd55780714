/- What the trees compute: plain laws. -/
import Derived.Test.YtlifdeocdbjalaaGreatDoorKJa
namespace Go.Proofs.YtlifdeocdbjalaaGreatDoor
open Go Go.aN
set_option linter.unusedSimpArgs false
set_option linter.unusedVariables false
set_option maxRecDepth 100000
namespace J
structure One where
 deep:Int
 tag:Int
 typ:Int
 num:Int
 text:List UInt8
inductive bW where
 | mk (tag typ num:Int) (text:List UInt8) (l:List bW)
def one (x:One):GV:=.g [.i .u8 x.deep,.i .u64 x.tag,.i .i8 x.typ,.i .u64 x.num,.s x.text]
@[simp] theorem avb (x:One):(one x).cells=[.i .u8 x.deep,.i .u64 x.tag,.i .i8 x.typ,.i .u64 x.num,.s x.text]:=rfl
mutual
def oH:bW→GV
 | .mk t y n s l=>.g [.i .u64 t,.i .i64 y,.i .u64 n,.s s,.l (aT l)]
def aT:List bW→List GV
 | []=>[]
 | f::l=>oH f::aT l
end
theorem Oj:∀ (a b:List bW),aT (a++b)=aT a++aT b
 | [],b=>rfl
 | f::a,b=>by simp only [List.cons_append,aT,Oj a b]
theorem rD:∀ (a:List bW),(aT a).length=a.length
 | []=>rfl
 | f::a=>by simp only [aT,List.length_cons,rD a]
def wL (x:One):Prop:=0≤x.deep∧x.deep≤255∧-128≤x.typ∧x.typ≤127∧0≤x.tag∧x.tag < 18446744073709551616∧0≤x.num∧x.num < 18446744073709551616∧x.text.length≤140737488351232
def Ones (l:List One):Prop:=l.length≤140737488351232∧∀x∈l,wL x
def vw (l:List One):Bool:=l.all (fun x=>decide (x.text.length≤300))&&decide (l.length≤60)
theorem aaS (l:List One) (hl:l.length≤140737488351232):∀m i:Nat,i+m=l.length→TT.lim 15 [.l (l.map one),.i .i64 l.length,.i .i64 i]=some (if (l.drop i).all (fun x=>decide (x.text.length≤300))=true then [.i .i64 1] else [.i .i64 0])
 | 0,i,hi=>by
   have h0:l.drop i=[]:=List.drop_eq_nil_of_le (by omega)
   refine au rfl rfl ?_
   have h:¬ ((i:Int) < l.length):=by omega
   simp -implicitDefEqProofs [h,h0]
 | m+1,i,hi=>by
   have hlt:i < l.length:=by omega
   have ih:TT.lim 15 [.l (l.map one),.i .i64 l.length,.i .i64 ((i:Int)+1)]=_:=aaS l hl m (i+1) (by omega)
   refine au rfl rfl ?_
   have h:((i:Int) < l.length):=by omega
   have hw:=wrap64 (n:=(i:Int)+1) (by omega) (by omega)
   have hda:(l.drop i).all (fun x=>decide (x.text.length≤300))=(decide (l[i].text.length≤300)&&(l.drop (i+1)).all (fun x=>decide (x.text.length≤300))):=by rw [List.drop_eq_getElem_cons hlt,List.all_cons]
   by_cases hf:(300:Int) < (l[i].text.length:Int)
   ·have:decide (l[i].text.length≤300)=false:=by simp;omega
    simp -implicitDefEqProofs [-List.all_eq_true,h,hlt,hf,hda,this]
   ·have:decide (l[i].text.length≤300)=true:=by simp;omega
    rw [hda,this,Bool.true_and]
    simp -implicitDefEqProofs [-List.all_eq_true,h,hlt,hw,hf,ih]
theorem ahK (l:List One) (hl:l.length≤140737488351232):TT.lim 14 [.l (l.map one)]=some [.b (vw l)]:=by
 refine aH rfl rfl ?_ rfl
 have h5:TT.lim 15 [.l (l.map one),.i .i64 l.length,.i .i64 0]=_:=aaS l hl l.length 0 (by omega)
 rw [List.drop_zero] at h5
 cases hc:l.all (fun x=>decide (x.text.length≤300)) with
 | false=>rw [hc] at h5;simp [-List.all_eq_true,h5,vw,hc]
 | true=>
   rw [hc] at h5;simp only [if_true] at h5
   have:(decide ((l.length:Int)≤60))=decide (l.length≤60):=by rw [Bool.eq_iff_iff];simp;omega
   simp -implicitDefEqProofs [-List.all_eq_true,h5,vw,hc,this]
/-- What Make makes: of the first ones that are at least so deep; and the others. -/
def eH:Nat→List One→Int→List bW×List One
 | 0,l,_=>([],l)
 | _+1,[],_=>([],[])
 | n+1,x::l,deep=>
   if deep≤x.deep then
    let p:=if x.deep=255 then ([],l) else eH n l (x.deep+1)
    let q:=eH n p.2 deep
    (.mk x.tag x.typ x.num x.text p.1::q.1,q.2)
   else ([],x::l)
theorem Bh:∀ (n:Nat) (l:List One) (deep:Int),(eH n l deep).1.length+(eH n l deep).2.length≤l.length∧∃k,(eH n l deep).2=l.drop k
 | 0,l,deep=>by simp only [eH];exact ⟨by simp,0,rfl⟩
 | n+1,[],deep=>by simp only [eH];exact ⟨by simp,0,rfl⟩
 | n+1,x::l,deep=>by
   simp only [eH]
   split
   ·by_cases hx:x.deep=255
    ·rw [if_pos hx]
     obtain ⟨h1,k,h2⟩:=Bh n l deep
     refine ⟨by simp only [List.length_cons];omega,k+1,by simp only [h2,List.drop_succ_cons]⟩
    ·rw [if_neg hx]
     obtain ⟨h1,k,h2⟩:=Bh n l (x.deep+1)
     obtain ⟨h3,k',h4⟩:=Bh n (eH n l (x.deep+1)).2 deep
     refine ⟨by simp only [List.length_cons];omega,k+k'+1, ?_⟩
     simp only [h4,List.drop_succ_cons]
     rw [h2,List.drop_drop]
   ·exact ⟨by simp,0,rfl⟩
def Bd (x:One) (l:List bW):GV:=.g [.i .u64 x.tag,.i .i64 x.typ,.i .u64 x.num,.s x.text,.l (aT l)]
theorem Il:∀ (n:Nat) (l:List One) (deep:Int) (acc:List bW),l.length < n→acc.length+l.length≤1000000→(∀x∈l,wL x)→
 TT.lim 85 [.l (l.map one),.i .u8 deep,.l (aT acc)]=some [.i .i64 0,.l ((eH n l deep).2.map one),.l (aT (acc++(eH n l deep).1))]
 | 0,l,deep,acc,hn,_,_=>by omega
 | n+1,[],deep,acc,hn,hb,hl=>by
   refine au rfl rfl ?_
   simp -implicitDefEqProofs [eH]
 | n+1,x::l,deep,acc,hn,hb,hl=>by
   have hx:=hl x (by simp)
   have hl':∀y∈l,wL y:=fun y hy=>hl y (by simp [hy])
   simp only [List.length_cons] at hn hb
   have hw:=wrap64 (n:=x.typ) (by have:=hx.2.2.1;omega) (by have:=hx.2.2.2.1;omega)
   have hb2:2 * ((aT acc).length+1) * 64≤281474976710656:=by rw [rD];omega
   have hb3:(aT acc).length≤281474976710655:=by rw [rD];omega
   have hcast:((l.length:Int)+1).toNat=l.length+1:=by omega
   have h1:(1:Int)≤(l.length:Int)+1:=by omega
   have htake:List.take l.length (l.map one)=l.map one:=List.take_of_length_le (by simp)
   have hall:∀y∈l.map one,y.cells.length=5:=by
    intro y hy;obtain ⟨z,_,rfl⟩:=List.mem_map.1 hy;rfl
   refine au rfl rfl ?_
   by_cases hd:deep≤x.deep
   ·by_cases Iy:x.deep=255
    ·have ih:=Il n l deep (acc++[.mk x.tag x.typ x.num x.text []]) (by omega) (by simp;omega) hl'
     have e:eH (n+1) (x::l) deep=(.mk x.tag x.typ x.num x.text []::(eH n l deep).1,(eH n l deep).2):=by
      simp only [eH,if_pos hd,if_pos Iy]
     rw [e]
     rw [List.append_assoc,Oj] at ih
     have e2:aT [bW.mk x.tag x.typ x.num x.text []]=[Bd x []]:=rfl
     rw [e2] at ih
     have hel:(Bd x []).fD 5=true:=rfl
     have hfold:GV.g [.i .u64 x.tag,.i .i64 x.typ,.i .u64 x.num,.s x.text,.l []]=Bd x []:=rfl
     have h0:(0:Int) < (l.length:Int)+1:=by omega
     have hd2:deep≤255:=by omega
     simp -implicitDefEqProofs [hd2,Iy,hw,hfold,hel,hb2,hb3,hall,h0,h1,htake,hcast,ih]
    ·have hf:=Bh n l (x.deep+1)
     have ih1:=Il n l (x.deep+1) [] (by omega) (by simp;omega) hl'
     have hk:TT.lim 84 [.l (l.map one),.i .u8 (x.deep+1)]=some [.l (aT (eH n l (x.deep+1)).1),.l ((eH n l (x.deep+1)).2.map one)]:=by
      refine aH rfl rfl ?_ rfl
      have ih1':TT.lim 85 [.l (l.map one),.i .u8 (x.deep+1),.l []]=_:=ih1
      simp -implicitDefEqProofs [ih1']
     have ih2:=Il n (eH n l (x.deep+1)).2 deep (acc++[.mk x.tag x.typ x.num x.text (eH n l (x.deep+1)).1]) (by omega) (by simp;omega) (fun y hy=>by
      obtain ⟨_,k,e⟩:=hf
      rw [e] at hy
      exact hl' y (List.mem_of_mem_drop hy))
     have e:eH (n+1) (x::l) deep=(.mk x.tag x.typ x.num x.text (eH n l (x.deep+1)).1::(eH n (eH n l (x.deep+1)).2 deep).1,(eH n (eH n l (x.deep+1)).2 deep).2):=by
      simp only [eH,if_pos hd,if_neg Iy]
     rw [e]
     rw [List.append_assoc,Oj] at ih2
     generalize eH n l (x.deep+1)=p at *
     obtain ⟨p1,p2⟩:=p
     simp only at *
     have e2:aT [bW.mk x.tag x.typ x.num x.text p1]=[Bd x p1]:=rfl
     rw [e2] at ih2
     have hel:(Bd x p1).fD 5=true:=rfl
     have hfold:GV.g [.i .u64 x.tag,.i .i64 x.typ,.i .u64 x.num,.s x.text,.l (aT p1)]=Bd x p1:=rfl
     have h0:(0:Int) < (l.length:Int)+1:=by omega
     have hw8:=L9 (n:=x.deep+1) (by have:=hx.1;omega) (by have:=hx.2.1;omega)
     simp -implicitDefEqProofs [hd,Iy,hw,hw8,hk,hfold,hel,hb2,hb3,hall,h0,h1,htake,hcast,ih2]
   ·have e:eH (n+1) (x::l) deep=([],x::l):=by simp only [eH,if_neg hd]
    rw [e]
    have h0:(0:Int) < (l.length:Int)+1:=by omega
    simp -implicitDefEqProofs [hd,h0]
def eY (l:List One):List bW:=(eH (l.length+1) l 0).1
theorem ajP (l:List One) (hl:∀x∈l,wL x) (h60:l.length≤1000000):TT.lim 83 [.l (l.map one)]=some [.l (aT (eY l))]:=by
 have hk:TT.lim 84 [.l (l.map one),.i .u8 0]=some [.l (aT (eY l)),.l ((eH (l.length+1) l 0).2.map one)]:=by
  refine aH rfl rfl ?_ rfl
  have ih1:TT.lim 85 [.l (l.map one),.i .u8 0,.l []]=_:=Il (l.length+1) l 0 [] (by omega) (by simp;omega) hl
  simp -implicitDefEqProofs [ih1,eY]
 refine aH rfl rfl ?_ rfl
 simp -implicitDefEqProofs [hk]
structure aB where
 kind:Int
 id:Int
 min:Int
 max:Int
 chosen:Int
 flags:Int
 cost:Int
 priority:Int
 deadline:Int
 retry:Int
 epoch:Int
 base:Int
 digest:Int
 lag:Int
 code:Int
 want:Int
 remaining:Int
 allowed:Bool
 name:List UInt8
 region:List UInt8
 note:List UInt8
 d:List dh
 t:List Row
/-- A message: what it has, and its rest. -/
def bn (b:aB) (r:List GV):GV:=.g [.i .i64 b.kind,.i .u64 b.id,.i .u64 b.min,.i .u64 b.max,.i .u64 b.chosen,.i .u64 b.flags,.i .u64 b.cost,.i .u64 b.priority,.i .u64 b.deadline,.i .u64 b.retry,.i .u64 b.epoch,.i .u64 b.base,.i .u64 b.digest,.i .u64 b.lag,.i .u64 b.code,.i .u64 b.want,.i .i64 b.remaining,.b b.allowed,.s b.name,.s b.region,.s b.note,.l (b.d.map ent),.l (b.t.map row),.l r]
theorem bU (b:aB) (r:List GV):GV.g [.i .i64 b.kind,.i .u64 b.id,.i .u64 b.min,.i .u64 b.max,.i .u64 b.chosen,.i .u64 b.flags,.i .u64 b.cost,.i .u64 b.priority,.i .u64 b.deadline,.i .u64 b.retry,.i .u64 b.epoch,.i .u64 b.base,.i .u64 b.digest,.i .u64 b.lag,.i .u64 b.code,.i .u64 b.want,.i .i64 b.remaining,.b b.allowed,.s b.name,.s b.region,.s b.note,.l (b.d.map ent),.l (b.t.map row),.l r]=bn b r:=rfl
@[simp] theorem vV (b:aB) (r:List GV):(bn b r).cells=[.i .i64 b.kind,.i .u64 b.id,.i .u64 b.min,.i .u64 b.max,.i .u64 b.chosen,.i .u64 b.flags,.i .u64 b.cost,.i .u64 b.priority,.i .u64 b.deadline,.i .u64 b.retry,.i .u64 b.epoch,.i .u64 b.base,.i .u64 b.digest,.i .u64 b.lag,.i .u64 b.code,.i .u64 b.want,.i .i64 b.remaining,.b b.allowed,.s b.name,.s b.region,.s b.note,.l (b.d.map ent),.l (b.t.map row),.l r]:=rfl
structure eU (b:aB):Prop where
 kind : -9223372036854775808≤b.kind∧b.kind≤9223372036854775807
 id:0≤b.id∧b.id < 18446744073709551616
 min:0≤b.min∧b.min < 18446744073709551616
 max:0≤b.max∧b.max < 18446744073709551616
 chosen:0≤b.chosen∧b.chosen < 18446744073709551616
 flags:0≤b.flags∧b.flags < 18446744073709551616
 cost:0≤b.cost∧b.cost < 18446744073709551616
 priority:0≤b.priority∧b.priority < 18446744073709551616
 deadline:0≤b.deadline∧b.deadline < 18446744073709551616
 retry:0≤b.retry∧b.retry < 18446744073709551616
 epoch:0≤b.epoch∧b.epoch < 18446744073709551616
 base:0≤b.base∧b.base < 18446744073709551616
 digest:0≤b.digest∧b.digest < 18446744073709551616
 lag:0≤b.lag∧b.lag < 18446744073709551616
 code:0≤b.code∧b.code < 18446744073709551616
 want:0≤b.want∧b.want < 18446744073709551616
 remaining : -9223372036854775808≤b.remaining∧b.remaining≤9223372036854775807
 name:b.name.length≤140737488351232
 region:b.region.length≤140737488351232
 note:b.note.length≤140737488351232
 d:jW b.d
 t:Rows b.t
def qx (b:aB) (l:List One):Bool:=decide (b.name.length≤600)&&(decide (b.region.length≤600)&&(decide (b.note.length≤600)&&(fM b.d&&(xu b.t&&vw l))))
theorem A8 (b:aB) (l:List One) (hb:eU b) (hl:Ones l):TT.lim 2 [bn b (l.map one)]=some [.b (qx b l)]:=by
 have h12:=aaR b.d hb.d
 have h13:=ahJ b.t hb.t
 have h8:=ahK l hl.1
 have e1:(decide ((b.name.length:Int)≤600))=decide (b.name.length≤600):=by rw [Bool.eq_iff_iff];simp;omega
 have e2:(decide ((b.region.length:Int)≤600))=decide (b.region.length≤600):=by rw [Bool.eq_iff_iff];simp;omega
 have e3:(decide ((b.note.length:Int)≤600))=decide (b.note.length≤600):=by rw [Bool.eq_iff_iff];simp;omega
 refine aH rfl rfl ?_ rfl
 unfold qx
 generalize fM b.d=c1 at *
 generalize xu b.t=c2 at *
 generalize vw l=c3 at *
 cases f1:decide (b.name.length≤600) with
 | false=>rw [f1] at e1;simp at e1;have e1':¬ ((b.name.length:Int)≤600):=by omega
          simp -implicitDefEqProofs [e1']
 | true=>
 rw [f1] at e1;have e1':((b.name.length:Int)≤600):=by simpa using e1
 cases f2:decide (b.region.length≤600) with
 | false=>rw [f2] at e2;simp at e2;have e2':¬ ((b.region.length:Int)≤600):=by omega
          simp -implicitDefEqProofs [e1',e2']
 | true=>
 rw [f2] at e2;have e2':((b.region.length:Int)≤600):=by simpa using e2
 cases f3:decide (b.note.length≤600) with
 | false=>rw [f3] at e3;simp at e3;have e3':¬ ((b.note.length:Int)≤600):=by omega
          simp -implicitDefEqProofs [e1',e2',e3']
 | true=>
 rw [f3] at e3;have e3':((b.note.length:Int)≤600):=by simpa using e3
 cases c1<;>cases c2<;>simp [e1',e2',e3',h12,h13,h8]
theorem EY (b:aB) (l:List One) (hl:Ones l) (hf:vw l=true):TT.lim 82 [bn b (l.map one)]=some [bn b (aT (eY l))]:=by
 have h8:l.length≤60:=by unfold vw at hf;rw [Bool.and_eq_true,decide_eq_true_iff] at hf;exact hf.2
 have hm:=ajP l hl.2 (by omega)
 refine aH rfl rfl ?_ rfl
 simp -implicitDefEqProofs [hm,bU]
theorem OG {k:IntKind} {g:GV} (h:(bg.int k).has g):∃n,g=.i k n∧k.min≤n∧n≤k.max:=by
 simp only [bg.has] at h
 exact h
theorem OE {g:GV} (h:(bg.int .i64).has g):∃n,g=.i .i64 n∧-9223372036854775808≤n∧n≤9223372036854775807:=by
 obtain ⟨n,rfl,h1,h2⟩:=OG h
 exact ⟨n,rfl,by simpa [IntKind.min,IntKind.signed,IntKind.bits] using h1,by simpa [IntKind.max,IntKind.signed,IntKind.bits] using h2⟩
theorem aiA {g:GV} (h:bg.bool.has g):∃b,g=.b b:=by simpa only [bg.has] using h
theorem ag7 {g:GV} (h:(bg.list true [.str,.str]).has g):∃l:List dh,jW l∧g=.l (l.map ent):=by
 obtain ⟨xs,rfl,h1,h2⟩:=BD h
 obtain ⟨rs,h3,rfl⟩:=zi (f:=ent) (p:=fun r:dh=>r.1.length≤140737488351232∧r.2.length≤140737488351232) fun x hx=>by
  obtain ⟨h4,h5⟩:=h2 x hx
  cases x<;>simp [GV.scalar] at h5
  next cs=>
  simp only [Ny] at h4
  obtain ⟨a,r,rfl,ha,h4⟩:=eX h4
  obtain ⟨c,r,rfl,hc,h4⟩:=eX h4
  obtain rfl:=BA h4
  obtain ⟨u,rfl,hu⟩:=xA ha
  obtain ⟨v,rfl,hv⟩:=xA hc
  exact ⟨(u,v),⟨hu,hv⟩,rfl⟩
 exact ⟨rs,⟨by rw [List.length_map] at h1;exact h1,h3⟩,rfl⟩
theorem akM {g:GV} (h:(bg.list true [.int .u8,.int .u64,.int .i8,.int .u64,.str]).has g):∃l:List One,Ones l∧g=.l (l.map one):=by
 obtain ⟨xs,rfl,h1,h2⟩:=BD h
 obtain ⟨rs,h3,rfl⟩:=zi (f:=one) (p:=wL) fun x hx=>by
  obtain ⟨h4,h5⟩:=h2 x hx
  cases x<;>simp [GV.scalar] at h5
  next cs=>
  simp only [Ny] at h4
  obtain ⟨a,r,rfl,ha,h4⟩:=eX h4
  obtain ⟨c,r,rfl,hc,h4⟩:=eX h4
  obtain ⟨e,r,rfl,he,h4⟩:=eX h4
  obtain ⟨f,r,rfl,hf,h4⟩:=eX h4
  obtain ⟨s,r,rfl,hs,h4⟩:=eX h4
  obtain rfl:=BA h4
  obtain ⟨a,rfl,a1,a2⟩:=OG ha
  obtain ⟨c,rfl,c1,c2⟩:=mJ hc
  obtain ⟨e,rfl,e1,e2⟩:=OG he
  obtain ⟨f,rfl,f1,f2⟩:=mJ hf
  obtain ⟨s,rfl,hs0⟩:=xA hs
  have a1':0≤a:=by simpa [IntKind.min,IntKind.signed] using a1
  have a2':a≤255:=by simpa [IntKind.max,IntKind.signed,IntKind.bits] using a2
  have e1' : -128≤e:=by simpa [IntKind.min,IntKind.signed,IntKind.bits] using e1
  have e2':e≤127:=by simpa [IntKind.max,IntKind.signed,IntKind.bits] using e2
  exact ⟨⟨a,c,e,f,s⟩,⟨a1',a2',e1',e2',c1,c2,f1,f2,hs0⟩,rfl⟩
 exact ⟨rs,⟨by rw [List.length_map] at h1;exact h1,h3⟩,rfl⟩
abbrev acY:List bg:=[.int .i64,.int .u64,.int .u64,.int .u64,.int .u64,.int .u64,.int .u64,.int .u64,.int .u64,.int .u64,.int .u64,.int .u64,.int .u64,.int .u64,.int .u64,.int .u64,.int .i64,.bool,.str,.str,.str,.list true [.str,.str],.list true [.list true [.str,.str],.int .u64],.list true [.int .u8,.int .u64,.int .i8,.int .u64,.str]]
theorem alI {cs:List GV} (h:bg.fE acY cs):∃b l,eU b∧Ones l∧GV.g cs=bn b (l.map one):=by
 obtain ⟨_,_,rfl,h1,g0⟩:=eX h;obtain ⟨x0,rfl,k0⟩:=OE h1
 obtain ⟨_,_,rfl,h1,g1⟩:=eX g0;obtain ⟨x1,rfl,k1⟩:=mJ h1
 obtain ⟨_,_,rfl,h1,g2⟩:=eX g1;obtain ⟨x2,rfl,k2⟩:=mJ h1
 obtain ⟨_,_,rfl,h1,g3⟩:=eX g2;obtain ⟨x3,rfl,k3⟩:=mJ h1
 obtain ⟨_,_,rfl,h1,g4⟩:=eX g3;obtain ⟨x4,rfl,k4⟩:=mJ h1
 obtain ⟨_,_,rfl,h1,g5⟩:=eX g4;obtain ⟨x5,rfl,k5⟩:=mJ h1
 obtain ⟨_,_,rfl,h1,g6⟩:=eX g5;obtain ⟨x6,rfl,k6⟩:=mJ h1
 obtain ⟨_,_,rfl,h1,g7⟩:=eX g6;obtain ⟨x7,rfl,k7⟩:=mJ h1
 obtain ⟨_,_,rfl,h1,g8⟩:=eX g7;obtain ⟨x8,rfl,k8⟩:=mJ h1
 obtain ⟨_,_,rfl,h1,g9⟩:=eX g8;obtain ⟨x9,rfl,k9⟩:=mJ h1
 obtain ⟨_,_,rfl,h1,g10⟩:=eX g9;obtain ⟨x10,rfl,k10⟩:=mJ h1
 obtain ⟨_,_,rfl,h1,g11⟩:=eX g10;obtain ⟨x11,rfl,k11⟩:=mJ h1
 obtain ⟨_,_,rfl,h1,g12⟩:=eX g11;obtain ⟨x12,rfl,k12⟩:=mJ h1
 obtain ⟨_,_,rfl,h1,g13⟩:=eX g12;obtain ⟨x13,rfl,k13⟩:=mJ h1
 obtain ⟨_,_,rfl,h1,g14⟩:=eX g13;obtain ⟨x14,rfl,k14⟩:=mJ h1
 obtain ⟨_,_,rfl,h1,g15⟩:=eX g14;obtain ⟨x15,rfl,k15⟩:=mJ h1
 obtain ⟨_,_,rfl,h1,g16⟩:=eX g15;obtain ⟨x16,rfl,k16⟩:=OE h1
 obtain ⟨_,_,rfl,h1,g17⟩:=eX g16;obtain ⟨x17,rfl⟩:=aiA h1
 obtain ⟨_,_,rfl,h1,g18⟩:=eX g17;obtain ⟨x18,rfl,k18⟩:=xA h1
 obtain ⟨_,_,rfl,h1,g19⟩:=eX g18;obtain ⟨x19,rfl,k19⟩:=xA h1
 obtain ⟨_,_,rfl,h1,g20⟩:=eX g19;obtain ⟨x20,rfl,k20⟩:=xA h1
 obtain ⟨_,_,rfl,h1,g21⟩:=eX g20;obtain ⟨x21,k21,rfl⟩:=ag7 h1
 obtain ⟨_,_,rfl,h1,g22⟩:=eX g21;obtain ⟨x22,k22,rfl⟩:=amE h1
 obtain ⟨_,_,rfl,h1,g23⟩:=eX g22;obtain ⟨x23,k23,rfl⟩:=akM h1
 obtain rfl:=BA g23
 exact ⟨⟨x0,x1,x2,x3,x4,x5,x6,x7,x8,x9,x10,x11,x12,x13,x14,x15,x16,x17,x18,x19,x20,x21,x22⟩,x23,⟨k0,k1,k2,k3,k4,k5,k6,k7,k8,k9,k10,k11,k12,k13,k14,k15,k16,k18,k19,k20,k21,k22⟩,k23,rfl⟩
structure dM where
 tag:Int
 use:Int
 from_:Int
 name:List UInt8
def bM (s:dM):GV:=.g [.i .u64 s.tag,.i .i64 s.use,.i .i64 s.from_,.s s.name]
@[simp] theorem avs (s:dM):(bM s).cells=[.i .u64 s.tag,.i .i64 s.use,.i .i64 s.from_,.s s.name]:=rfl
theorem ad7 (s:dM):GV.g [.i .u64 s.tag,.i .i64 s.use,.i .i64 s.from_,.s s.name]=bM s:=rfl
def sp1:List dM:=[⟨1,0,1,[109,105,110]⟩,⟨2,0,1,[109,97,120]⟩,⟨3,3,1,[110,97,109,101]⟩,⟨4,3,2,[114,101,103,105,111,110]⟩,⟨5,0,3,[102,108,97,103,115]⟩]
def sp2:List dM:=[⟨1,0,1,[99,104,111,115,101,110]⟩,⟨2,3,1,[110,97,109,101]⟩,⟨3,3,2,[114,101,103,105,111,110]⟩]
def uq:List dM:=[⟨1,0,1,[105,100]⟩,⟨2,4,1,[100,101,115,99,114]⟩,⟨3,0,1,[99,111,115,116]⟩,⟨4,0,2,[112,114,105,111,114,105,116,121]⟩,⟨5,0,3,[100,101,97,100,108,105,110,101]⟩]
def uw:List dM:=[⟨1,0,1,[105,100]⟩,⟨2,1,1,[97,108,108,111,119,101,100]⟩,⟨3,2,1,[114,101,109,97,105,110,105,110,103]⟩,⟨4,0,2,[114,101,116,114,121]⟩,⟨5,3,3,[110,111,116,101]⟩]
def uy:List dM:=[⟨1,0,1,[101,112,111,99,104]⟩,⟨2,5,1,[116,97,98,108,101]⟩,⟨3,3,2,[114,101,103,105,111,110]⟩,⟨4,0,3,[100,105,103,101,115,116]⟩]
def uz:List dM:=[⟨1,0,2,[98,97,115,101]⟩,⟨2,0,2,[101,112,111,99,104]⟩,⟨3,5,2,[116,97,98,108,101]⟩,⟨4,3,2,[114,101,103,105,111,110]⟩,⟨5,0,3,[100,105,103,101,115,116]⟩]
def uD:List dM:=[⟨1,0,1,[101,112,111,99,104]⟩,⟨2,0,3,[108,97,103]⟩]
def uF:List dM:=[⟨1,0,1,[101,112,111,99,104]⟩,⟨2,0,1,[99,111,100,101]⟩,⟨3,0,2,[119,97,110,116]⟩,⟨4,3,3,[110,111,116,101]⟩]
def jg (k:Int):List dM:=if k=1 then sp1 else if k=2 then sp2 else if k=3 then uq else if k=4 then uw else if k=5 then uy else if k=6 then uz else if k=7 then uD else if k=8 then uF else []
def vF (k:Int):Int:=if k=1 then 1 else if k=2 then 1 else if k=3 then 1 else if k=4 then 1 else if k=5 then 1 else if k=6 then 2 else if k=7 then 1 else if k=8 then 1 else 0
def gy (k v:Int):List dM:=(jg k).filter fun s=>decide (s.from_≤v)
theorem aiK:TT.lim 24 []=some [.l (sp1.map bM)]:=by refine aH rfl rfl ?_ rfl;simp [sp1,bM]
theorem aiJ:TT.lim 26 []=some [.l (sp2.map bM)]:=by refine aH rfl rfl ?_ rfl;simp [sp2,bM]
theorem afI:TT.lim 27 []=some [.l (uq.map bM)]:=by refine aH rfl rfl ?_ rfl;simp [uq,bM]
theorem afJ:TT.lim 28 []=some [.l (uw.map bM)]:=by refine aH rfl rfl ?_ rfl;simp [uw,bM]
theorem ahY:TT.lim 29 []=some [.l (uy.map bM)]:=by refine aH rfl rfl ?_ rfl;simp [uy,bM]
theorem ag3:TT.lim 30 []=some [.l (uz.map bM)]:=by refine aH rfl rfl ?_ rfl;simp [uz,bM]
theorem aeU:TT.lim 31 []=some [.l (uD.map bM)]:=by refine aH rfl rfl ?_ rfl;simp [uD,bM]
theorem alS:TT.lim 32 []=some [.l (uF.map bM)]:=by refine aH rfl rfl ?_ rfl;simp [uF,bM]
theorem ajp (k:Int):TT.lim 22 [.i .i64 k]=some [.i .i64 (vF k)]:=by
 refine aH rfl rfl ?_ rfl
 unfold vF
 by_cases h1:k=1
 ·simp -implicitDefEqProofs [h1]
 by_cases h2:k=2
 ·simp -implicitDefEqProofs [h2]
 by_cases h3:k=3
 ·simp -implicitDefEqProofs [h3]
 by_cases h4:k=4
 ·simp -implicitDefEqProofs [h4]
 by_cases h5:k=5
 ·simp -implicitDefEqProofs [h5]
 by_cases h6:k=6
 ·simp -implicitDefEqProofs [h6]
 by_cases h7:k=7
 ·simp -implicitDefEqProofs [h7]
 by_cases h8:k=8
 ·simp -implicitDefEqProofs [h8]
 simp -implicitDefEqProofs [h1,h2,h3,h4,h5,h6,h7,h8]
theorem O8 (v:Int) (l:List dM) (hl:l.length≤8):∀ (m i:Nat) (acc:List dM),i+m=l.length→acc.length≤i→
 TT.lim 25 [.i .i64 v,.l (acc.map bM),.l (l.map bM),.i .i64 l.length,.i .i64 i]=some [.i .i64 0,.l ((acc++(l.drop i).filter fun s=>decide (s.from_≤v)).map bM)]
 | 0,i,acc,hi,ha=>by
   have h0:l.drop i=[]:=List.drop_eq_nil_of_le (by omega)
   refine au rfl rfl ?_
   have h:¬ ((i:Int) < l.length):=by omega
   simp -implicitDefEqProofs [h,h0]
 | m+1,i,acc,hi,ha=>by
   have hlt:i < l.length:=by omega
   have hd:=List.drop_eq_getElem_cons hlt
   refine au rfl rfl ?_
   have h:((i:Int) < l.length):=by omega
   have hw:=wrap64 (n:=(i:Int)+1) (by omega) (by omega)
   have hb1:2 * (acc.length+1) * 40≤281474976710656:=by omega
   have hb2:acc.length≤281474976710655:=by omega
   have hok:(bM l[i]).fD 4=true:=rfl
   have hcast:((i:Int)+1)=((i+1:Nat):Int):=by omega
   by_cases hf:l[i].from_≤v
   ·have ih:=O8 v l hl m (i+1) (acc++[l[i]]) (by omega) (by simp;omega)
    rw [← hcast,List.map_append] at ih
    simp only [List.map_cons,List.map_nil] at ih
    simp -implicitDefEqProofs [-List.getElem_cons_drop,h,hlt,hf,hw,ad7,hb1,hb2,hok,ih,hd]
   ·have ih:=O8 v l hl m (i+1) acc (by omega) (by omega)
    rw [← hcast] at ih
    simp -implicitDefEqProofs [-List.getElem_cons_drop,h,hlt,hf,hw,ih,hd]
theorem Rt (k:Int):(jg k).length≤8:=by
 unfold jg
 repeat' split
 all_goals (first | (unfold sp1;decide) | (unfold sp2;decide) | (unfold uq;decide) | (unfold uw;decide) | (unfold uy;decide) | (unfold uz;decide) | (unfold uD;decide) | (unfold uF;decide) | decide)
theorem xG (v:Int) (l:List dM) (hl:l.length≤8):TT.lim 25 [.i .i64 v,.l [],.l (l.map bM),.i .i64 l.length,.i .i64 0]=some [.i .i64 0,.l ((l.filter fun s=>decide (s.from_≤v)).map bM)]:=by
 have:=O8 v l hl l.length 0 [] (by omega) (by simp)
 simpa using this
theorem ajq (k v:Int) (h1:1≤v) (h3:v≤3) (hk:vF k≤v):TT.lim 23 [.i .i64 k,.i .i64 v]=some [.l ((gy k v).map bM)]:=by
 have a1:¬ v < 1:=by omega
 have a3:¬ 3 < v:=by omega
 unfold gy jg
 unfold vF at hk
 have g1:=xG v sp1 (by decide)
 have g2:=xG v sp2 (by decide)
 have g3:=xG v uq (by decide)
 have g4:=xG v uw (by decide)
 have g5:=xG v uy (by decide)
 have g6:=xG v uz (by decide)
 have g7:=xG v uD (by decide)
 have g8:=xG v uF (by decide)
 have e1:=aiK
 have e2:=aiJ
 have e3:=afI
 have e4:=afJ
 have e5:=ahY
 have e6:=ag3
 have e7:=aeU
 have e8:=alS
 generalize sp1=p1 at *
 generalize sp2=p2 at *
 generalize uq=p3 at *
 generalize uw=p4 at *
 generalize uy=p5 at *
 generalize uz=p6 at *
 generalize uD=p7 at *
 generalize uF=p8 at *
 refine aH rfl rfl ?_ rfl
 by_cases k1:k=1
 ·simp -implicitDefEqProofs [k1,a1,a3,e1,g1]
 by_cases k2:k=2
 ·simp -implicitDefEqProofs [k2,a1,a3,e2,g2]
 by_cases k3:k=3
 ·simp -implicitDefEqProofs [k3,a1,a3,e3,g3]
 by_cases k4:k=4
 ·simp -implicitDefEqProofs [k4,a1,a3,e4,g4]
 by_cases k5:k=5
 ·simp -implicitDefEqProofs [k5,a1,a3,e5,g5]
 by_cases k6:k=6
 ·have a2:¬ v < 2:=by subst k6;simpa using hk
  simp -implicitDefEqProofs [k6,a1,a2,a3,e6,g6]
 by_cases k7:k=7
 ·simp -implicitDefEqProofs [k7,a1,a3,e7,g7]
 by_cases k8:k=8
 ·simp -implicitDefEqProofs [k8,a1,a3,e8,g8]
 simp -implicitDefEqProofs [k1,k2,k3,k4,k5,k6,k7,k8]
theorem adq (k:Int):TT.lim 96 [.i .i64 k]=some [.l ((jg k).map bM)]:=by
 unfold jg
 refine aH rfl rfl ?_ rfl
 by_cases k1:k=1
 ·simp -implicitDefEqProofs [k1,sp1,bM]
 by_cases k2:k=2
 ·simp -implicitDefEqProofs [k2,sp2,bM]
 by_cases k3:k=3
 ·simp -implicitDefEqProofs [k3,uq,bM]
 by_cases k4:k=4
 ·simp -implicitDefEqProofs [k4,uw,bM]
 by_cases k5:k=5
 ·simp -implicitDefEqProofs [k5,uy,bM]
 by_cases k6:k=6
 ·simp -implicitDefEqProofs [k6,uz,bM]
 by_cases k7:k=7
 ·simp -implicitDefEqProofs [k7,uD,bM]
 by_cases k8:k=8
 ·simp -implicitDefEqProofs [k8,uF,bM]
 simp -implicitDefEqProofs [k1,k2,k3,k4,k5,k6,k7,k8]
theorem QW (v:Int) (h3:v≤3) (l:List dM) (hl:l.length≤8):∀ (m i:Nat) (acc:List dM),i+m=l.length→acc.length≤i→
 TT.lim 97 [.i .i64 v,.l (acc.map bM),.l (l.map bM),.i .i64 l.length,.i .i64 i]=some [.i .i64 0,.l ((acc++(l.drop i).filter fun s=>decide (s.from_≤v)).map bM)]
 | 0,i,acc,hi,ha=>by
   have h0:l.drop i=[]:=List.drop_eq_nil_of_le (by omega)
   refine au rfl rfl ?_
   have h:¬ ((i:Int) < l.length):=by omega
   simp -implicitDefEqProofs [h,h0]
 | m+1,i,acc,hi,ha=>by
   have hlt:i < l.length:=by omega
   have hd:=List.drop_eq_getElem_cons hlt
   refine au rfl rfl ?_
   have h:((i:Int) < l.length):=by omega
   have hw:=wrap64 (n:=(i:Int)+1) (by omega) (by omega)
   have hb1:2 * (acc.length+1) * 40≤281474976710656:=by omega
   have hb2:acc.length≤281474976710655:=by omega
   have hok:(bM l[i]).fD 4=true:=rfl
   have hcast:((i:Int)+1)=((i+1:Nat):Int):=by omega
   by_cases hf:l[i].from_≤v
   ·have ih:=QW v h3 l hl m (i+1) (acc++[l[i]]) (by omega) (by simp;omega)
    rw [← hcast,List.map_append] at ih
    simp only [List.map_cons,List.map_nil] at ih
    simp -implicitDefEqProofs [-List.getElem_cons_drop,h,hlt,h3,hf,hw,ad7,hb1,hb2,hok,ih,hd]
   ·have ih:=QW v h3 l hl m (i+1) acc (by omega) (by omega)
    rw [← hcast] at ih
    simp -implicitDefEqProofs [-List.getElem_cons_drop,h,hlt,h3,hf,hw,ih,hd]
theorem alU (k v:Int) (h3:v≤3):TT.lim 95 [.i .i64 k,.i .i64 v]=some [.l ((gy k v).map bM)]:=by
 have h0:=adq k
 have h1:=QW v h3 (jg k) (Rt k) (jg k).length 0 [] (by omega) (by simp)
 unfold gy
 generalize jg k=l at *
 have h1':TT.lim 97 [.i .i64 v,.l [],.l (l.map bM),.i .i64 l.length,.i .i64 0]=some [.i .i64 0,.l ((l.filter fun s=>decide (s.from_≤v)).map bM)]:=by simpa using h1
 refine aH rfl rfl ?_ rfl
 simp -implicitDefEqProofs [h0,h1']
theorem ajr (k v:Int) (h1:1≤v) (h3:v≤3):gy k v=[]↔vF k=0∨v < vF k:=by
 have hv:v=1∨v=2∨v=3:=by omega
 unfold gy jg vF
 by_cases k1:k=1
 ·subst k1;rcases hv with rfl | rfl | rfl<;>decide
 by_cases k2:k=2
 ·subst k2;rcases hv with rfl | rfl | rfl<;>decide
 by_cases k3:k=3
 ·subst k3;rcases hv with rfl | rfl | rfl<;>decide
 by_cases k4:k=4
 ·subst k4;rcases hv with rfl | rfl | rfl<;>decide
 by_cases k5:k=5
 ·subst k5;rcases hv with rfl | rfl | rfl<;>decide
 by_cases k6:k=6
 ·subst k6;rcases hv with rfl | rfl | rfl<;>decide
 by_cases k7:k=7
 ·subst k7;rcases hv with rfl | rfl | rfl<;>decide
 by_cases k8:k=8
 ·subst k8;rcases hv with rfl | rfl | rfl<;>decide
 simp -implicitDefEqProofs [k1,k2,k3,k4,k5,k6,k7,k8]
def bW.tag:bW→Int
 | .mk t _ _ _ _=>t
theorem yT:∀ (a:List bW),aT a=a.map oH
 | []=>rfl
 | f::a=>by simp only [aT,List.map_cons,yT a]
mutual
def FY:bW→Nat
 | .mk _ _ _ _ l=>uG l+1
def uG:List bW→Nat
 | []=>0
 | f::l=>FY f+uG l+1
end
mutual
def Bf:bW→Prop
 | .mk t y n s k=>(0≤t∧t < 18446744073709551616∧-128≤y∧y≤127∧0≤n∧n < 18446744073709551616∧s.length≤300∧k.length≤1000000)∧fU k
def fU:List bW→Prop
 | []=>True
 | f::r=>Bf f∧fU r
end
theorem Ij:∀ {l:List bW},fU l→∀f∈l,Bf f
 | f::l,h,g,hg=>by
   simp only [fU] at h
   rcases List.mem_cons.1 hg with rfl | hg
   ·exact h.1
   ·exact Ij h.2 g hg
theorem LD:∀ {l:List bW} {f:bW},f∈l→FY f < uG l
 | g::l,f,h=>by
   simp only [uG]
   rcases List.mem_cons.1 h with rfl | h
   ·omega
   ·have:=LD h;omega
mutual
/-- What is wrong with fields within so many lists, behind a tag. -/
def En (w:Nat):bW→Int
 | .mk _ y n s k=>if y=0 then (if s=[]∧k=[] then 0 else 8) else if y=1 then (if n=0∧k=[] then 0 else 8) else if y=2 then (if n=0∧s=[] then (if 8≤w then 9 else gI (w+1) 0 k) else 8) else 8
def gI (w:Nat) (ahead:Int):List bW→Int
 | []=>0
 | f::r=>if f.tag=0 then 18 else if 4294967296 < f.tag then 18 else if f.tag≤ahead then 7 else if En w f≠0 then En w f else gI w f.tag r
end
@[simp] theorem as3 (t y n:Int) (s:List UInt8) (k:List bW):(oH (.mk t y n s k)).cells=[.i .u64 t,.i .i64 y,.i .u64 n,.s s,.l (aT k)]:=by simp only [oH];rfl
theorem Bg (k:List bW):(aT k).length=0↔k=[]:=by rw [rD,List.length_eq_zero_iff]
theorem aaQ:∀ (N:Nat) (l:List bW),uG l < N→fU l→l.length≤1000000→∀w:Nat,w≤8→TT.lim 70 [.l (aT l),.i .i64 w]=some [.i .i64 (gI w 0 l)]
 | 0,l,h,_,_,_,_=>by omega
 | N+1,l,hN,hok,hlen,w,hw8=>by
   have loop:∀m i (ahead:Int),i+m=l.length→TT.lim 71 [.i .i64 w,.i .u64 ahead,.l (aT l),.i .i64 l.length,.i .i64 i]=some (if gI w ahead (l.drop i)=0 then [.i .i64 1] else [.i .i64 0,.i .i64 (gI w ahead (l.drop i))]):=by
    intro m
    induction m with
    | zero=>
      intro i ahead hi
      have h0:l.drop i=[]:=List.drop_eq_nil_of_le (by omega)
      refine au rfl rfl ?_
      have h:¬ ((i:Int) < l.length):=by omega
      simp -implicitDefEqProofs [h,h0,gI]
    | succ m ih=>
      intro i ahead hi
      have hlt:i < l.length:=by omega
      rw [List.drop_eq_getElem_cons hlt]
      have hf:=Ij hok l[i] (List.getElem_mem hlt)
      have hs:=LD (List.getElem_mem hlt)
      have hget:(aT l)[i]? = some (oH l[i]):=by rw [yT,List.getElem?_map,List.getElem?_eq_getElem hlt];rfl
      have hcast:((i:Int)+1)=((i+1:Nat):Int):=by omega
      have ih':=fun a=>ih (i+1) a (by omega)
      simp only [← hcast] at ih'
      generalize l[i]=f at *
      obtain ⟨t,y,n,s,k⟩:=f
      simp only [Bf] at hf
      simp only [FY] at hs
      have hwr:=wrap64 (n:=(i:Int)+1) (by omega) (by omega)
      have rM:=wrap64 (n:=(w:Int)+1) (by omega) (by omega)
      refine au rfl rfl ?_
      have h:((i:Int) < l.length):=by omega
      have hk:=fun h=>aaQ N k (by omega) hf.2 hf.1.2.2.2.2.2.2.2 (w+1) h
      simp only [Int.natCast_add,Int.natCast_one] at hk
      have hkl:((aT k).length=0)=(k=[]):=propext (Bg k)
      simp only [gI,bW.tag]
      by_cases h1:t=0
      ·simp -implicitDefEqProofs [h,hget,h1]
      by_cases h2:4294967296 < t
      ·simp -implicitDefEqProofs [h,hget,h1,h2]
      by_cases h3:t≤ahead
      ·simp -implicitDefEqProofs [h,hget,h1,h2,h3]
      simp only [En]
      by_cases h4:y=0
      ·subst h4
       by_cases h5:s=[]
       ·by_cases h6:k=[]
        ·simp -implicitDefEqProofs [h,hget,h1,h2,h3,h5,h6,hwr,ih',aT]
        ·simp -implicitDefEqProofs [h,hget,h1,h2,h3,h5,h6,hwr,ih',hkl]
       ·simp -implicitDefEqProofs [h,hget,h1,h2,h3,h5]
      by_cases h7:y=1
      ·subst h7
       by_cases h5:n=0
       ·by_cases h6:k=[]
        ·simp -implicitDefEqProofs [h,hget,h1,h2,h3,h5,h6,hwr,ih',aT]
        ·simp -implicitDefEqProofs [h,hget,h1,h2,h3,h5,h6,hwr,ih',hkl]
       ·simp -implicitDefEqProofs [h,hget,h1,h2,h3,h5]
      by_cases h8:y=2
      ·subst h8
       by_cases h5:n=0
       ·by_cases h6:s=[]
        ·by_cases h9:8≤w
         ·have pJ:(8:Int)≤w:=by omega
          simp -implicitDefEqProofs [h,hget,h1,h2,h3,h5,h6,h9,pJ]
         ·have pJ:¬ (8:Int)≤w:=by omega
          have hk:=hk (by omega)
          by_cases h10:gI (w+1) 0 k=0
          ·rw [h10] at hk
           simp -implicitDefEqProofs [h,hget,h1,h2,h3,h5,h6,h9,pJ,rM,hk,h10,hwr,ih',bW.tag]
          ·simp -implicitDefEqProofs [h,hget,h1,h2,h3,h5,h6,h9,pJ,rM,hk,h10,hwr,ih',bW.tag]
        ·simp -implicitDefEqProofs [h,hget,h1,h2,h3,h5,h6]
       ·simp -implicitDefEqProofs [h,hget,h1,h2,h3,h5]
      simp -implicitDefEqProofs [h,hget,h1,h2,h3,h4,h7,h8]
   have h0:=loop l.length 0 0 (by omega)
   rw [List.drop_zero] at h0
   refine aH rfl rfl ?_ rfl
   have hl2:=rD l
   by_cases hc:gI w 0 l=0
   ·rw [if_pos hc] at h0
    have h0':TT.lim 71 [.i .i64 w,.i .u64 0,.l (aT l),.i .i64 (aT l).length,.i .i64 0]=some [.i .i64 1]:=by rw [hl2];exact h0
    simp -implicitDefEqProofs [h0',hc]
   ·rw [if_neg hc] at h0
    have h0':TT.lim 71 [.i .i64 w,.i .u64 0,.l (aT l),.i .i64 (aT l).length,.i .i64 0]=some [.i .i64 0,.i .i64 (gI w 0 l)]:=by rw [hl2];exact h0
    simp -implicitDefEqProofs [h0',hc]
theorem ahH (l:List bW) (hok:fU l) (hlen:l.length≤1000000):TT.lim 69 [.l (aT l)]=some [.i .i64 (gI 0 0 l)]:=by
 have h:=aaQ (uG l+1) l (by omega) hok hlen 0 (by omega)
 have h':TT.lim 70 [.l (aT l),.i .i64 0]=_:=h
 refine aH rfl rfl ?_ rfl
 simp -implicitDefEqProofs [h']
theorem adb:∀ (N:Nat) (l:List bW),uG l < N→fU l→l.length≤1000000→∀w:Nat,w≤8→TT.lim 136 [.l (aT l),.i .i64 w]=some [.i .i64 (gI w 0 l)]
 | 0,l,h,_,_,_,_=>by omega
 | N+1,l,hN,hok,hlen,w,hw8=>by
   have loop:∀m i (ahead:Int),i+m=l.length→(i=0→ahead=0)→(∀j,j+1=i→∀h:j < l.length,(l[j]).tag=ahead)→TT.lim 137 [.l (aT l),.i .i64 w,.i .i64 l.length,.i .i64 i]=some (if gI w ahead (l.drop i)=0 then [.i .i64 1] else [.i .i64 0,.i .i64 (gI w ahead (l.drop i))]):=by
    intro m
    induction m with
    | zero=>
      intro i ahead hi _ _
      have h0:l.drop i=[]:=List.drop_eq_nil_of_le (by omega)
      refine au rfl rfl ?_
      have h:¬ ((i:Int) < l.length):=by omega
      simp -implicitDefEqProofs [h,h0,gI]
    | succ m ih=>
      intro i ahead hi ha0 ha
      have hlt:i < l.length:=by omega
      rw [List.drop_eq_getElem_cons hlt]
      have hf:=Ij hok l[i] (List.getElem_mem hlt)
      have hs:=LD (List.getElem_mem hlt)
      have hget:(aT l)[i]? = some (oH l[i]):=by rw [yT,List.getElem?_map,List.getElem?_eq_getElem hlt];rfl
      have hcast:((i:Int)+1)=((i+1:Nat):Int):=by omega
      have ih':=ih (i+1) l[i].tag (by omega) (by omega) (fun j hj h=>by have:j=i:=by omega
                                                                        subst this;rfl)
      simp only [← hcast] at ih'
      -- the one ahead
      have aiV:∀hi0:¬ i=0,∃y' n' s' k',(aT l)[i - 1]? = some (oH (.mk ahead y' n' s' k')):=by
       intro hi0
       rw [yT,List.getElem?_map,List.getElem?_eq_getElem (show i - 1 < l.length by omega)]
       have:=ha (i - 1) (by omega) (by omega)
       generalize l[i - 1]=g at *
       obtain ⟨t',y',n',s',k'⟩:=g
       simp only [bW.tag] at this
       subst this
       exact ⟨_,_,_,_,rfl⟩
      generalize l[i]=f at *
      obtain ⟨t,y,n,s,k⟩:=f
      simp only [Bf] at hf
      simp only [FY] at hs
      dsimp only [bW.tag] at ih'
      have hwr:=wrap64 (n:=(i:Int)+1) (by omega) (by omega)
      have hwm:=wrap64 (n:=(i:Int) - 1) (by omega) (by omega)
      have rM:=wrap64 (n:=(w:Int)+1) (by omega) (by omega)
      refine au rfl rfl ?_
      have h:((i:Int) < l.length):=by omega
      have hk:=fun h=>adb N k (by omega) hf.2 hf.1.2.2.2.2.2.2.2 (w+1) h
      simp only [Int.natCast_add,Int.natCast_one] at hk
      have hkl:((aT k).length=0)=(k=[]):=propext (Bg k)
      have hnil:TT.lim 136 [.l [],.i .i64 ((w:Int)+1)]=some [.i .i64 0]:=by
       refine aH rfl rfl ?_ rfl
       have h0:TT.lim 137 [.l [],.i .i64 ((w:Int)+1),.i .i64 0,.i .i64 0]=some [.i .i64 1]:=by
        refine au rfl rfl ?_
        simp
       simp -implicitDefEqProofs [h0]
      simp only [gI,bW.tag]
      by_cases h1:t=0
      ·simp -implicitDefEqProofs [h,hget,h1]
      by_cases h2:4294967296 < t
      ·simp -implicitDefEqProofs [h,hget,h1,h2]
      by_cases hi0:(0:Int) < i
      ·obtain ⟨y',n',s',k',hp⟩:=aiV (by omega)
       have hge:0 < i:=by omega
       have pR:(1:Int)≤i:=by omega
       by_cases h3:t≤ahead
       ·simp -implicitDefEqProofs [h,hget,h1,h2,hi0,hge,pR,hwm,hp,h3]
       simp only [En]
       by_cases h4:y=0
       ·subst h4
        by_cases h5:s=[]
        ·by_cases h6:k=[]
         ·simp -implicitDefEqProofs [h,hget,h1,h2,hi0,hge,pR,hwm,hp,h3,h5,h6,hwr,rM,ih',hnil,if_true,if_false,aT,bW.tag]<;>rfl
         ·have h6':¬ (aT k).length=0:=by rw [Bg];exact h6
          have yX:¬ aT k=[]:=fun e=>h6' (by rw [e];rfl)
          simp -implicitDefEqProofs [h,hget,h1,h2,hi0,hge,pR,hwm,hp,h3,h5,h6,yX]
        ·simp -implicitDefEqProofs [h,hget,h1,h2,hi0,hge,pR,hwm,hp,h3,h5]
       by_cases h7:y=1
       ·subst h7
        by_cases h5:n=0
        ·by_cases h6:k=[]
         ·simp -implicitDefEqProofs [h,hget,h1,h2,hi0,hge,pR,hwm,hp,h3,h5,h6,hwr,rM,ih',hnil,if_true,if_false,aT,bW.tag]<;>rfl
         ·have h6':¬ (aT k).length=0:=by rw [Bg];exact h6
          have yX:¬ aT k=[]:=fun e=>h6' (by rw [e];rfl)
          simp -implicitDefEqProofs [h,hget,h1,h2,hi0,hge,pR,hwm,hp,h3,h5,h6,yX]
        ·simp -implicitDefEqProofs [h,hget,h1,h2,hi0,hge,pR,hwm,hp,h3,h5]
       by_cases h8:y=2
       ·subst h8
        by_cases h5:n=0
        ·by_cases h6:s=[]
         ·by_cases h9:8≤w
          ·have pJ:(w:Int)=8:=by omega
           simp -implicitDefEqProofs [h,hget,h1,h2,hi0,hge,pR,hwm,hp,h3,h5,h6,h9,pJ]
          ·have pJ:¬ (w:Int)=8:=by omega
           have hk:=hk (by omega)
           by_cases h10:gI (w+1) 0 k=0
           ·rw [h10] at hk
            simp -implicitDefEqProofs [h,hget,h1,h2,hi0,hge,pR,hwm,hp,h3,h5,h6,h9,pJ,rM,hk,h10,hwr,ih',bW.tag]<;>rfl
           ·simp -implicitDefEqProofs [h,hget,h1,h2,hi0,hge,pR,hwm,hp,h3,h5,h6,h9,pJ,rM,hk,h10,hwr,ih',bW.tag]<;>rfl
         ·simp -implicitDefEqProofs [h,hget,h1,h2,hi0,hge,pR,hwm,hp,h3,h5,h6]
        ·simp -implicitDefEqProofs [h,hget,h1,h2,hi0,hge,pR,hwm,hp,h3,h5]
       by_cases h9:y < 0
       ·simp -implicitDefEqProofs [h,hget,h1,h2,hi0,hge,pR,hwm,hp,h3,h4,h7,h8,h9]
       ·have h10:2 < y:=by omega
        simp -implicitDefEqProofs [h,hget,h1,h2,hi0,hge,pR,hwm,hp,h3,h4,h7,h8,h9,h10]
      ·have hz:(0 < i)=False:=eq_false (by omega)
       have h3:¬ t≤ahead:=by
        rw [ha0 (by omega)];omega
       simp only [En]
       by_cases h4:y=0
       ·subst h4
        by_cases h5:s=[]
        ·by_cases h6:k=[]
         ·simp -implicitDefEqProofs [h,hget,h1,h2,hz,h3,h5,h6,hwr,rM,ih',hnil,if_true,if_false,aT,bW.tag]<;>rfl
         ·have h6':¬ (aT k).length=0:=by rw [Bg];exact h6
          have yX:¬ aT k=[]:=fun e=>h6' (by rw [e];rfl)
          simp -implicitDefEqProofs [h,hget,h1,h2,hz,h3,h5,h6,yX]
        ·simp -implicitDefEqProofs [h,hget,h1,h2,hz,h3,h5]
       by_cases h7:y=1
       ·subst h7
        by_cases h5:n=0
        ·by_cases h6:k=[]
         ·simp -implicitDefEqProofs [h,hget,h1,h2,hz,h3,h5,h6,hwr,rM,ih',hnil,if_true,if_false,aT,bW.tag]<;>rfl
         ·have h6':¬ (aT k).length=0:=by rw [Bg];exact h6
          have yX:¬ aT k=[]:=fun e=>h6' (by rw [e];rfl)
          simp -implicitDefEqProofs [h,hget,h1,h2,hz,h3,h5,h6,yX]
        ·simp -implicitDefEqProofs [h,hget,h1,h2,hz,h3,h5]
       by_cases h8:y=2
       ·subst h8
        by_cases h5:n=0
        ·by_cases h6:s=[]
         ·by_cases h9:8≤w
          ·have pJ:(w:Int)=8:=by omega
           simp -implicitDefEqProofs [h,hget,h1,h2,hz,h3,h5,h6,h9,pJ]
          ·have pJ:¬ (w:Int)=8:=by omega
           have hk:=hk (by omega)
           by_cases h10:gI (w+1) 0 k=0
           ·rw [h10] at hk
            simp -implicitDefEqProofs [h,hget,h1,h2,hz,h3,h5,h6,h9,pJ,rM,hk,h10,hwr,ih',bW.tag]<;>rfl
           ·simp -implicitDefEqProofs [h,hget,h1,h2,hz,h3,h5,h6,h9,pJ,rM,hk,h10,hwr,ih',bW.tag]<;>rfl
         ·simp -implicitDefEqProofs [h,hget,h1,h2,hz,h3,h5,h6]
        ·simp -implicitDefEqProofs [h,hget,h1,h2,hz,h3,h5]
       by_cases h9:y < 0
       ·simp -implicitDefEqProofs [h,hget,h1,h2,hz,h3,h4,h7,h8,h9]
       ·have h10:2 < y:=by omega
        simp -implicitDefEqProofs [h,hget,h1,h2,hz,h3,h4,h7,h8,h9,h10]
   have h0:=loop l.length 0 0 (by omega) (fun _=>rfl) (fun j hj=>by omega)
   rw [List.drop_zero] at h0
   refine aH rfl rfl ?_ rfl
   have hl2:=rD l
   by_cases hc:gI w 0 l=0
   ·rw [if_pos hc] at h0
    have h0':TT.lim 137 [.l (aT l),.i .i64 w,.i .i64 (aT l).length,.i .i64 0]=some [.i .i64 1]:=by rw [hl2];exact h0
    simp -implicitDefEqProofs [h0',hc]
   ·rw [if_neg hc] at h0
    have h0':TT.lim 137 [.l (aT l),.i .i64 w,.i .i64 (aT l).length,.i .i64 0]=some [.i .i64 0,.i .i64 (gI w 0 l)]:=by rw [hl2];exact h0
    simp -implicitDefEqProofs [h0',hc]
inductive Pl where
 | rem | allow | name | region | note | d | t
 | num (k:Nat)
def nI:List UInt8:=[114,101,109,97,105,110,105,110,103]
def nH:List UInt8:=[97,108,108,111,119,101,100]
def kS:List UInt8:=[110,97,109,101]
def kT:List UInt8:=[114,101,103,105,111,110]
def jP:List UInt8:=[110,111,116,101]
def lK:List UInt8:=[100,101,115,99,114]
def lX:List UInt8:=[116,97,98,108,101]
def lQ:List UInt8:=[105,100]
def lU:List UInt8:=[109,105,110]
def lT:List UInt8:=[109,97,120]
def lH:List UInt8:=[99,104,111,115,101,110]
def lN:List UInt8:=[102,108,97,103,115]
def lI:List UInt8:=[99,111,115,116]
def lV:List UInt8:=[112,114,105,111,114,105,116,121]
def lJ:List UInt8:=[100,101,97,100,108,105,110,101]
def lW:List UInt8:=[114,101,116,114,121]
def jG:List UInt8:=[101,112,111,99,104]
def lG:List UInt8:=[98,97,115,101]
def lM:List UInt8:=[100,105,103,101,115,116]
def lS:List UInt8:=[108,97,103]
def jF:List UInt8:=[99,111,100,101]
def jQ:List UInt8:=[119,97,110,116]
def placeOf (n:List UInt8):Option Pl:=
 if n=nI then some .rem else if n=nH then some .allow else if n=kS then some .name else if n=kT then some .region else if n=jP then some .note else if n=lK then some .d else if n=lX then some .t else if n=lQ then some (.num 0) else if n=lU then some (.num 1) else if n=lT then some (.num 2) else if n=lH then some (.num 3) else if n=lN then some (.num 4) else if n=lI then some (.num 5) else if n=lV then some (.num 6) else if n=lJ then some (.num 7) else if n=lW then some (.num 8) else if n=jG then some (.num 9) else if n=lG then some (.num 10) else if n=lM then some (.num 11) else if n=lS then some (.num 12) else if n=jF then some (.num 13) else if n=jQ then some (.num 14) else none
theorem CZ:placeOf nI=some .rem:=rfl
theorem Ci:placeOf nH=some .allow:=rfl
theorem zI:placeOf kS=some .name:=rfl
theorem zK:placeOf kT=some .region:=rfl
theorem zJ:placeOf jP=some .note:=rfl
theorem zH:placeOf lK=some .d:=rfl
theorem zL:placeOf lX=some .t:=rfl
theorem CS:placeOf lQ=some (.num 0):=rfl
theorem CW:placeOf lU=some (.num 1):=rfl
theorem CV:placeOf lT=some (.num 2):=rfl
theorem Cm:placeOf lH=some (.num 3):=rfl
theorem CQ:placeOf lN=some (.num 4):=rfl
theorem CG:placeOf lI=some (.num 5):=rfl
theorem CY:placeOf lV=some (.num 6):=rfl
theorem CJ:placeOf lJ=some (.num 7):=rfl
theorem C9:placeOf lW=some (.num 8):=rfl
theorem CP:placeOf jG=some (.num 9):=rfl
theorem Cj:placeOf lG=some (.num 10):=rfl
theorem CO:placeOf lM=some (.num 11):=rfl
theorem CU:placeOf lS=some (.num 12):=rfl
theorem CB:placeOf jF=some (.num 13):=rfl
theorem Dc:placeOf jQ=some (.num 14):=rfl
def bJ (b:aB) (k:Nat):Int:=match k with
 | 0=>b.id
 | 1=>b.min
 | 2=>b.max
 | 3=>b.chosen
 | 4=>b.flags
 | 5=>b.cost
 | 6=>b.priority
 | 7=>b.deadline
 | 8=>b.retry
 | 9=>b.epoch
 | 10=>b.base
 | 11=>b.digest
 | 12=>b.lag
 | 13=>b.code
 | _=>b.want
def dL (b:aB):Pl→Bool
 | .rem=>decide (b.remaining=0)
 | .allow=>!b.allowed
 | .name=>decide (b.name=[])
 | .region=>decide (b.region=[])
 | .note=>decide (b.note=[])
 | .d=>decide (b.d=[])
 | .t=>decide (b.t=[])
 | .num k=>decide (bJ b k=0)
def dO (b:aB) (n:List UInt8):Bool:=match placeOf n with
 | some p=>dL b p
 | none=>true
def PG (b:aB):Pl→Int
 | .name=>iw b.name 0 256
 | .region=>iw b.region 0 256
 | .note=>iw b.note 0 256
 | .d=>if b.d=[] then 0 else ng b.d
 | .t=>jK b.t
 | _=>0
def iH (b:aB) (n:List UInt8):Int:=match placeOf n with
 | some p=>PG b p
 | none=>0
def zz (x:Int):Int:=if 0≤x then 2 * x else -2 * x - 1
def iy (b:aB):Pl→Int×List UInt8
 | .rem=>(zz b.remaining,[])
 | .allow=>(if b.allowed=true then 1 else 0,[])
 | .name=>(0,b.name)
 | .region=>(0,b.region)
 | .note=>(0,b.note)
 | .d=>(0,if b.d=[] then [] else aY b.d)
 | .t=>(0,if b.t=[] then [] else (Jl b.t).1)
 | .num k=>(bJ b k,[])
def iU:Pl→Int
 | .num _=>0
 | .allow=>1
 | .rem=>2
 | .d=>4
 | .t=>5
 | _=>3
/-- A cascade over all names. -/
theorem D7 {Q:List UInt8→Prop} (ait:Q nI) (ah8:Q nH) (aip:Q kS) (ais:Q kT) (aiq:Q jP) (aie:Q lK) (aiv:Q lX) (aik:Q lQ) (aio:Q lU) (ain:Q lT) (ah9:Q lH) (aij:Q lN) (aib:Q lI) (air:Q lV) (aic:Q lJ) (aiu:Q lW) (aii:Q jG) (h_base:Q lG) (aif:Q lM) (ail:Q lS) (aia:Q jF) (aiw:Q jQ) (h0:∀n,¬ n=nI→¬ n=nH→¬ n=kS→¬ n=kT→¬ n=jP→¬ n=lK→¬ n=lX→¬ n=lQ→¬ n=lU→¬ n=lT→¬ n=lH→¬ n=lN→¬ n=lI→¬ n=lV→¬ n=lJ→¬ n=lW→¬ n=jG→¬ n=lG→¬ n=lM→¬ n=lS→¬ n=jF→¬ n=jQ→Q n) (n:List UInt8):Q n:=by
 by_cases aaA:n=nI
 ·rw [aaA];exact ait
 by_cases aai:n=nH
 ·rw [aai];exact ah8
 by_cases aaw:n=kS
 ·rw [aaw];exact aip
 by_cases aaz:n=kT
 ·rw [aaz];exact ais
 by_cases aax:n=jP
 ·rw [aax];exact aiq
 by_cases aao:n=lK
 ·rw [aao];exact aie
 by_cases aaC:n=lX
 ·rw [aaC];exact aiv
 by_cases aas:n=lQ
 ·rw [aas];exact aik
 by_cases aav:n=lU
 ·rw [aav];exact aio
 by_cases aau:n=lT
 ·rw [aau];exact ain
 by_cases aak:n=lH
 ·rw [aak];exact ah9
 by_cases aar:n=lN
 ·rw [aar];exact aij
 by_cases aam:n=lI
 ·rw [aam];exact aib
 by_cases aay:n=lV
 ·rw [aay];exact air
 by_cases aan:n=lJ
 ·rw [aan];exact aic
 by_cases aaB:n=lW
 ·rw [aaB];exact aiu
 by_cases aaq:n=jG
 ·rw [aaq];exact aii
 by_cases aaj:n=lG
 ·rw [aaj];exact h_base
 by_cases aap:n=lM
 ·rw [aap];exact aif
 by_cases aat:n=lS
 ·rw [aat];exact ail
 by_cases aal:n=jF
 ·rw [aal];exact aia
 by_cases aaD:n=jQ
 ·rw [aaD];exact aiw
 exact h0 n aaA aai aaw aaz aax aao aaC aas aav aau aak aar aam aay aan aaB aaq aaj aap aat aal aaD
theorem CX (n:List UInt8) (e0:¬ n=nI) (e1:¬ n=nH) (e2:¬ n=kS) (e3:¬ n=kT) (e4:¬ n=jP) (e5:¬ n=lK) (e6:¬ n=lX) (e7:¬ n=lQ) (e8:¬ n=lU) (e9:¬ n=lT) (e10:¬ n=lH) (e11:¬ n=lN) (e12:¬ n=lI) (e13:¬ n=lV) (e14:¬ n=lJ) (e15:¬ n=lW) (e16:¬ n=jG) (e17:¬ n=lG) (e18:¬ n=lM) (e19:¬ n=lS) (e20:¬ n=jF) (e21:¬ n=jQ):placeOf n=none:=by
 unfold placeOf
 rw [if_neg e0,if_neg e1,if_neg e2,if_neg e3,if_neg e4,if_neg e5,if_neg e6,if_neg e7,if_neg e8,if_neg e9,if_neg e10,if_neg e11,if_neg e12,if_neg e13,if_neg e14,if_neg e15,if_neg e16,if_neg e17,if_neg e18,if_neg e19,if_neg e20,if_neg e21]
def oG (ps:List (List UInt8)):List GV:=ps.map fun p=>.g [.s p,.b true]
def tV (ps:List (List UInt8)) (x:List UInt8):List (List UInt8):=if x∈ps then ps else ps++[x]
theorem MZ (n:List UInt8):∀ps:List (List UInt8),iZ (.s n) (oG ps)=if n∈ps then some (.b true) else none
 | []=>rfl
 | p::ps=>by
   have ih:=MZ n ps
   simp only [oG,List.map_cons,iZ,xF] at ih ⊢
   by_cases e:n=p
   ·subst e;simp
   ·have e2:¬ p=n:=fun h=>e h.symm
    simp -implicitDefEqProofs [e,ih]
theorem acW (x:List UInt8):∀ps:List (List UInt8),qL (.s x) (.b true) (oG ps)=oG (tV ps x)
 | []=>rfl
 | p::ps=>by
   have ih:=acW x ps
   unfold tV at ih ⊢
   simp only [oG,List.map_cons,qL,xF] at ih ⊢
   by_cases e:x=p
   ·subst e;simp
   ·have e1:(x==p)=false:=by simpa using e
    simp only [e1,Bool.false_eq_true,if_false]
    rw [ih]
    by_cases hm:x∈ps
    ·simp only [hm,if_true,List.mem_cons,or_true,List.map_cons]
    ·simp only [hm,if_false,List.mem_cons,e,or_false,List.cons_append,List.map_cons]
def rO (ps:List (List UInt8)) (l:List dM):List (List UInt8):=l.foldl (fun ps s=>tV ps s.name) ps
theorem ako (n x:List UInt8) (ps:List (List UInt8)):n∈tV ps x↔n∈ps∨x=n:=by
 unfold tV
 split
 ·next h=>exact ⟨.inl,fun e=>e.elim id (fun e=>e ▸ h)⟩
 ·simp -implicitDefEqProofs [eq_comm]
theorem acu (n:List UInt8):∀ (l:List dM) (ps:List (List UInt8)),n∈rO ps l↔n∈ps∨∃s∈l,s.name=n
 | [],ps=>by simp [rO]
 | s::l,ps=>by
   have:=acu n l (tV ps s.name)
   unfold rO at this ⊢
   rw [List.foldl_cons,this,ako]
   simp -implicitDefEqProofs [or_assoc]
def jZ (l:List dM) (n:List UInt8):Bool:=l.any fun s=>decide (s.name=n)
theorem akn (n:List UInt8) (l:List dM):decide (n∈rO [] l)=jZ l n:=by
 rw [Bool.eq_iff_iff,decide_eq_true_iff,acu]
 simp -implicitDefEqProofs [jZ]
theorem acn (b:aB) (r:List GV) (l:List dM) (hl:l.length≤1000):∀ (m i:Nat) (ps:List (List UInt8)),i+m=l.length→
 TT.lim 33 [.l (l.map bM),.i .i64 l.length,.i .i64 i,.l (oG ps),.i .i64 b.kind,.i .u64 b.id,.i .u64 b.min,.i .u64 b.max,.i .u64 b.chosen,.i .u64 b.flags,.i .u64 b.cost,.i .u64 b.priority,.i .u64 b.deadline,.i .u64 b.retry,.i .u64 b.epoch,.i .u64 b.base,.i .u64 b.digest,.i .u64 b.lag,.i .u64 b.code,.i .u64 b.want,.i .i64 b.remaining,.b b.allowed,.s b.name,.s b.region,.s b.note,.l (b.d.map ent),.l (b.t.map row),.l r]=some [.i .i64 0,.l (oG (rO ps (l.drop i)))]
 | 0,i,ps,hi=>by
   have h0:l.drop i=[]:=List.drop_eq_nil_of_le (by omega)
   refine au rfl rfl ?_
   have h:¬ ((i:Int) < l.length):=by omega
   simp -implicitDefEqProofs [h,h0,rO]
 | m+1,i,ps,hi=>by
   have hlt:i < l.length:=by omega
   have ih:=acn b r l hl m (i+1) (tV ps l[i].name) (by omega)
   have hcast:((i:Int)+1)=((i+1:Nat):Int):=by omega
   rw [← hcast] at ih
   have hp:=acW l[i].name ps
   have hd:rO ps (l.drop i)=rO (tV ps l[i].name) (l.drop (i+1)):=by
    rw [List.drop_eq_getElem_cons hlt];rfl
   rw [hd]
   generalize rO (tV ps l[i].name) (l.drop (i+1))=X at *
   generalize oG (tV ps l[i].name)=Y at *
   refine au rfl rfl ?_
   have h:((i:Int) < l.length):=by omega
   have hw:=wrap64 (n:=(i:Int)+1) (by omega) (by omega)
   simp -implicitDefEqProofs [h,hlt,hw,hp,ih]
/-- One round of the second loop. -/
def jr (b:aB) (r:List GV) (n:List UInt8) (c:Prop):Prop:=∀ (sp:GV) (ns:List (List UInt8)) (i:Nat) (ps:List (List UInt8)) (out:List GV) (h:i < ns.length),((i:Int) < ns.length)→IntKind.i64.wrap ((i:Int)+1)=(i:Int)+1→ns[i]=n→iZ (.s n) (oG ps)=none→
    TT.lim 35 [sp,.l (ns.map .s),.i .i64 ns.length,.i .i64 ((i:Int)+1),.l (oG ps),.i .i64 b.kind,.i .u64 b.id,.i .u64 b.min,.i .u64 b.max,.i .u64 b.chosen,.i .u64 b.flags,.i .u64 b.cost,.i .u64 b.priority,.i .u64 b.deadline,.i .u64 b.retry,.i .u64 b.epoch,.i .u64 b.base,.i .u64 b.digest,.i .u64 b.lag,.i .u64 b.code,.i .u64 b.want,.i .i64 b.remaining,.b b.allowed,.s b.name,.s b.region,.s b.note,.l (b.d.map ent),.l (b.t.map row),.l r]=some out→
    (c→TT.lim 35 [sp,.l (ns.map .s),.i .i64 ns.length,.i .i64 i,.l (oG ps),.i .i64 b.kind,.i .u64 b.id,.i .u64 b.min,.i .u64 b.max,.i .u64 b.chosen,.i .u64 b.flags,.i .u64 b.cost,.i .u64 b.priority,.i .u64 b.deadline,.i .u64 b.retry,.i .u64 b.epoch,.i .u64 b.base,.i .u64 b.digest,.i .u64 b.lag,.i .u64 b.code,.i .u64 b.want,.i .i64 b.remaining,.b b.allowed,.s b.name,.s b.region,.s b.note,.l (b.d.map ent),.l (b.t.map row),.l r]=some out)∧(¬ c→TT.lim 35 [sp,.l (ns.map .s),.i .i64 ns.length,.i .i64 i,.l (oG ps),.i .i64 b.kind,.i .u64 b.id,.i .u64 b.min,.i .u64 b.max,.i .u64 b.chosen,.i .u64 b.flags,.i .u64 b.cost,.i .u64 b.priority,.i .u64 b.deadline,.i .u64 b.retry,.i .u64 b.epoch,.i .u64 b.base,.i .u64 b.digest,.i .u64 b.lag,.i .u64 b.code,.i .u64 b.want,.i .i64 b.remaining,.b b.allowed,.s b.name,.s b.region,.s b.note,.l (b.d.map ent),.l (b.t.map row),.l r]=some [.i .i64 0])
theorem aom (b:aB) (r:List GV):jr b r nI (b.remaining=0):=by
 intro sp ns i ps out h h1 hw hn ha ih
 unfold nI at *
 refine ⟨fun hc=>au rfl rfl ?_,fun hc=>au rfl rfl ?_⟩
 ·have hc:=eq_true hc
  simp -implicitDefEqProofs [h1,h,hn,hw,ha,hc,ih]
 ·simp -implicitDefEqProofs [h1,h,hn,ha,hc]
theorem an4 (b:aB) (r:List GV):jr b r nH (b.allowed=false):=by
 intro sp ns i ps out h h1 hw hn ha ih
 unfold nH at *
 refine ⟨fun hc=>au rfl rfl ?_,fun hc=>au rfl rfl ?_⟩
 ·rw [hc] at ih
  simp -implicitDefEqProofs [h1,h,hn,hw,ha,hc,ih]
 ·simp -implicitDefEqProofs [h1,h,hn,ha,hc]
theorem aoi (b:aB) (r:List GV):jr b r kS (b.name=[]):=by
 intro sp ns i ps out h h1 hw hn ha ih
 unfold kS at *
 refine ⟨fun hc=>au rfl rfl ?_,fun hc=>au rfl rfl ?_⟩
 ·have hc:=eq_true hc
  simp -implicitDefEqProofs [h1,h,hn,hw,ha,hc,ih]
 ·simp -implicitDefEqProofs [h1,h,hn,ha,hc]
theorem aol (b:aB) (r:List GV):jr b r kT (b.region=[]):=by
 intro sp ns i ps out h h1 hw hn ha ih
 unfold kT at *
 refine ⟨fun hc=>au rfl rfl ?_,fun hc=>au rfl rfl ?_⟩
 ·have hc:=eq_true hc
  simp -implicitDefEqProofs [h1,h,hn,hw,ha,hc,ih]
 ·simp -implicitDefEqProofs [h1,h,hn,ha,hc]
theorem aoj (b:aB) (r:List GV):jr b r jP (b.note=[]):=by
 intro sp ns i ps out h h1 hw hn ha ih
 unfold jP at *
 refine ⟨fun hc=>au rfl rfl ?_,fun hc=>au rfl rfl ?_⟩
 ·have hc:=eq_true hc
  simp -implicitDefEqProofs [h1,h,hn,hw,ha,hc,ih]
 ·simp -implicitDefEqProofs [h1,h,hn,ha,hc]
theorem aoa (b:aB) (r:List GV):jr b r lK (b.d=[]):=by
 intro sp ns i ps out h h1 hw hn ha ih
 unfold lK at *
 refine ⟨fun hc=>au rfl rfl ?_,fun hc=>au rfl rfl ?_⟩
 ·have hc:=eq_true hc
  simp -implicitDefEqProofs [h1,h,hn,hw,ha,hc,ih]
 ·simp -implicitDefEqProofs [h1,h,hn,ha,hc]
theorem aoo (b:aB) (r:List GV):jr b r lX (b.t=[]):=by
 intro sp ns i ps out h h1 hw hn ha ih
 unfold lX at *
 refine ⟨fun hc=>au rfl rfl ?_,fun hc=>au rfl rfl ?_⟩
 ·have hc:=eq_true hc
  simp -implicitDefEqProofs [h1,h,hn,hw,ha,hc,ih]
 ·simp -implicitDefEqProofs [h1,h,hn,ha,hc]
theorem aoe (b:aB) (r:List GV):jr b r lQ (b.id=0):=by
 intro sp ns i ps out h h1 hw hn ha ih
 unfold lQ at *
 refine ⟨fun hc=>au rfl rfl ?_,fun hc=>au rfl rfl ?_⟩
 ·have hc:=eq_true hc
  simp -implicitDefEqProofs [h1,h,hn,hw,ha,hc,ih]
 ·simp -implicitDefEqProofs [h1,h,hn,ha,hc]
theorem aoh (b:aB) (r:List GV):jr b r lU (b.min=0):=by
 intro sp ns i ps out h h1 hw hn ha ih
 unfold lU at *
 refine ⟨fun hc=>au rfl rfl ?_,fun hc=>au rfl rfl ?_⟩
 ·have hc:=eq_true hc
  simp -implicitDefEqProofs [h1,h,hn,hw,ha,hc,ih]
 ·simp -implicitDefEqProofs [h1,h,hn,ha,hc]
theorem aog (b:aB) (r:List GV):jr b r lT (b.max=0):=by
 intro sp ns i ps out h h1 hw hn ha ih
 unfold lT at *
 refine ⟨fun hc=>au rfl rfl ?_,fun hc=>au rfl rfl ?_⟩
 ·have hc:=eq_true hc
  simp -implicitDefEqProofs [h1,h,hn,hw,ha,hc,ih]
 ·simp -implicitDefEqProofs [h1,h,hn,ha,hc]
theorem an6 (b:aB) (r:List GV):jr b r lH (b.chosen=0):=by
 intro sp ns i ps out h h1 hw hn ha ih
 unfold lH at *
 refine ⟨fun hc=>au rfl rfl ?_,fun hc=>au rfl rfl ?_⟩
 ·have hc:=eq_true hc
  simp -implicitDefEqProofs [h1,h,hn,hw,ha,hc,ih]
 ·simp -implicitDefEqProofs [h1,h,hn,ha,hc]
theorem aod (b:aB) (r:List GV):jr b r lN (b.flags=0):=by
 intro sp ns i ps out h h1 hw hn ha ih
 unfold lN at *
 refine ⟨fun hc=>au rfl rfl ?_,fun hc=>au rfl rfl ?_⟩
 ·have hc:=eq_true hc
  simp -implicitDefEqProofs [h1,h,hn,hw,ha,hc,ih]
 ·simp -implicitDefEqProofs [h1,h,hn,ha,hc]
theorem an8 (b:aB) (r:List GV):jr b r lI (b.cost=0):=by
 intro sp ns i ps out h h1 hw hn ha ih
 unfold lI at *
 refine ⟨fun hc=>au rfl rfl ?_,fun hc=>au rfl rfl ?_⟩
 ·have hc:=eq_true hc
  simp -implicitDefEqProofs [h1,h,hn,hw,ha,hc,ih]
 ·simp -implicitDefEqProofs [h1,h,hn,ha,hc]
theorem aok (b:aB) (r:List GV):jr b r lV (b.priority=0):=by
 intro sp ns i ps out h h1 hw hn ha ih
 unfold lV at *
 refine ⟨fun hc=>au rfl rfl ?_,fun hc=>au rfl rfl ?_⟩
 ·have hc:=eq_true hc
  simp -implicitDefEqProofs [h1,h,hn,hw,ha,hc,ih]
 ·simp -implicitDefEqProofs [h1,h,hn,ha,hc]
theorem an9 (b:aB) (r:List GV):jr b r lJ (b.deadline=0):=by
 intro sp ns i ps out h h1 hw hn ha ih
 unfold lJ at *
 refine ⟨fun hc=>au rfl rfl ?_,fun hc=>au rfl rfl ?_⟩
 ·have hc:=eq_true hc
  simp -implicitDefEqProofs [h1,h,hn,hw,ha,hc,ih]
 ·simp -implicitDefEqProofs [h1,h,hn,ha,hc]
theorem aon (b:aB) (r:List GV):jr b r lW (b.retry=0):=by
 intro sp ns i ps out h h1 hw hn ha ih
 unfold lW at *
 refine ⟨fun hc=>au rfl rfl ?_,fun hc=>au rfl rfl ?_⟩
 ·have hc:=eq_true hc
  simp -implicitDefEqProofs [h1,h,hn,hw,ha,hc,ih]
 ·simp -implicitDefEqProofs [h1,h,hn,ha,hc]
theorem aoc (b:aB) (r:List GV):jr b r jG (b.epoch=0):=by
 intro sp ns i ps out h h1 hw hn ha ih
 unfold jG at *
 refine ⟨fun hc=>au rfl rfl ?_,fun hc=>au rfl rfl ?_⟩
 ·have hc:=eq_true hc
  simp -implicitDefEqProofs [h1,h,hn,hw,ha,hc,ih]
 ·simp -implicitDefEqProofs [h1,h,hn,ha,hc]
theorem an5 (b:aB) (r:List GV):jr b r lG (b.base=0):=by
 intro sp ns i ps out h h1 hw hn ha ih
 unfold lG at *
 refine ⟨fun hc=>au rfl rfl ?_,fun hc=>au rfl rfl ?_⟩
 ·have hc:=eq_true hc
  simp -implicitDefEqProofs [h1,h,hn,hw,ha,hc,ih]
 ·simp -implicitDefEqProofs [h1,h,hn,ha,hc]
theorem aob (b:aB) (r:List GV):jr b r lM (b.digest=0):=by
 intro sp ns i ps out h h1 hw hn ha ih
 unfold lM at *
 refine ⟨fun hc=>au rfl rfl ?_,fun hc=>au rfl rfl ?_⟩
 ·have hc:=eq_true hc
  simp -implicitDefEqProofs [h1,h,hn,hw,ha,hc,ih]
 ·simp -implicitDefEqProofs [h1,h,hn,ha,hc]
theorem aof (b:aB) (r:List GV):jr b r lS (b.lag=0):=by
 intro sp ns i ps out h h1 hw hn ha ih
 unfold lS at *
 refine ⟨fun hc=>au rfl rfl ?_,fun hc=>au rfl rfl ?_⟩
 ·have hc:=eq_true hc
  simp -implicitDefEqProofs [h1,h,hn,hw,ha,hc,ih]
 ·simp -implicitDefEqProofs [h1,h,hn,ha,hc]
theorem an7 (b:aB) (r:List GV):jr b r jF (b.code=0):=by
 intro sp ns i ps out h h1 hw hn ha ih
 unfold jF at *
 refine ⟨fun hc=>au rfl rfl ?_,fun hc=>au rfl rfl ?_⟩
 ·have hc:=eq_true hc
  simp -implicitDefEqProofs [h1,h,hn,hw,ha,hc,ih]
 ·simp -implicitDefEqProofs [h1,h,hn,ha,hc]
theorem aop (b:aB) (r:List GV):jr b r jQ (b.want=0):=by
 intro sp ns i ps out h h1 hw hn ha ih
 unfold jQ at *
 refine ⟨fun hc=>au rfl rfl ?_,fun hc=>au rfl rfl ?_⟩
 ·have hc:=eq_true hc
  simp -implicitDefEqProofs [h1,h,hn,hw,ha,hc,ih]
 ·simp -implicitDefEqProofs [h1,h,hn,ha,hc]
theorem aks:TT.lim 34 []=some [.l (dN.map .s)]:=Fq (Ds:=Ds) (k:=34) (f:=Ja) rfl rfl
theorem jR (b:aB) {n:List UInt8} {p:Pl} (h:placeOf n=some p):dO b n=dL b p:=by unfold dO;rw [h]
def jh (b:aB) (r:List GV) (n:List UInt8):Prop:=∃c:Prop,(dO b n=true↔c)∧jr b r n c
theorem anV (b:aB) (r:List GV):jh b r nI:=⟨_,by rw [jR b CZ];simp [dL,bJ],aom b r⟩
theorem anD (b:aB) (r:List GV):jh b r nH:=⟨_,by rw [jR b Ci];simp [dL,bJ],an4 b r⟩
theorem anR (b:aB) (r:List GV):jh b r kS:=⟨_,by rw [jR b zI];simp [dL,bJ],aoi b r⟩
theorem anU (b:aB) (r:List GV):jh b r kT:=⟨_,by rw [jR b zK];simp [dL,bJ],aol b r⟩
theorem anS (b:aB) (r:List GV):jh b r jP:=⟨_,by rw [jR b zJ];simp [dL,bJ],aoj b r⟩
theorem anJ (b:aB) (r:List GV):jh b r lK:=⟨_,by rw [jR b zH];simp [dL,bJ],aoa b r⟩
theorem anX (b:aB) (r:List GV):jh b r lX:=⟨_,by rw [jR b zL];simp [dL,bJ],aoo b r⟩
theorem anN (b:aB) (r:List GV):jh b r lQ:=⟨_,by rw [jR b CS];simp [dL,bJ],aoe b r⟩
theorem anQ (b:aB) (r:List GV):jh b r lU:=⟨_,by rw [jR b CW];simp [dL,bJ],aoh b r⟩
theorem anP (b:aB) (r:List GV):jh b r lT:=⟨_,by rw [jR b CV];simp [dL,bJ],aog b r⟩
theorem anF (b:aB) (r:List GV):jh b r lH:=⟨_,by rw [jR b Cm];simp [dL,bJ],an6 b r⟩
theorem anM (b:aB) (r:List GV):jh b r lN:=⟨_,by rw [jR b CQ];simp [dL,bJ],aod b r⟩
theorem anH (b:aB) (r:List GV):jh b r lI:=⟨_,by rw [jR b CG];simp [dL,bJ],an8 b r⟩
theorem anT (b:aB) (r:List GV):jh b r lV:=⟨_,by rw [jR b CY];simp [dL,bJ],aok b r⟩
theorem anI (b:aB) (r:List GV):jh b r lJ:=⟨_,by rw [jR b CJ];simp [dL,bJ],an9 b r⟩
theorem anW (b:aB) (r:List GV):jh b r lW:=⟨_,by rw [jR b C9];simp [dL,bJ],aon b r⟩
theorem anL (b:aB) (r:List GV):jh b r jG:=⟨_,by rw [jR b CP];simp [dL,bJ],aoc b r⟩
theorem anE (b:aB) (r:List GV):jh b r lG:=⟨_,by rw [jR b Cj];simp [dL,bJ],an5 b r⟩
theorem anK (b:aB) (r:List GV):jh b r lM:=⟨_,by rw [jR b CO];simp [dL,bJ],aob b r⟩
theorem anO (b:aB) (r:List GV):jh b r lS:=⟨_,by rw [jR b CU];simp [dL,bJ],aof b r⟩
theorem anG (b:aB) (r:List GV):jh b r jF:=⟨_,by rw [jR b CB];simp [dL,bJ],an7 b r⟩
theorem anY (b:aB) (r:List GV):jh b r jQ:=⟨_,by rw [jR b Dc];simp [dL,bJ],aop b r⟩
theorem aoN (b:aB) (r:List GV) (n:List UInt8):placeOf n≠none→jh b r n:=by
 refine D7 (Q:=fun n=>placeOf n≠none→jh b r n) (fun _=>anV b r) (fun _=>anD b r) (fun _=>anR b r) (fun _=>anU b r) (fun _=>anS b r) (fun _=>anJ b r) (fun _=>anX b r) (fun _=>anN b r) (fun _=>anQ b r) (fun _=>anP b r) (fun _=>anF b r) (fun _=>anM b r) (fun _=>anH b r) (fun _=>anT b r) (fun _=>anI b r) (fun _=>anW b r) (fun _=>anL b r) (fun _=>anE b r) (fun _=>anK b r) (fun _=>anO b r) (fun _=>anG b r) (fun _=>anY b r) (fun n e0 e1 e2 e3 e4 e5 e6 e7 e8 e9 e10 e11 e12 e13 e14 e15 e16 e17 e18 e19 e20 e21 h=>absurd (CX n e0 e1 e2 e3 e4 e5 e6 e7 e8 e9 e10 e11 e12 e13 e14 e15 e16 e17 e18 e19 e20 e21) h) n
theorem aco (b:aB) (r:List GV) (sp:GV) (ns:List (List UInt8)) (hlen:ns.length≤1000) (hns:∀n∈ns,placeOf n≠none) (ps:List (List UInt8)):∀ (m i:Nat),i+m=ns.length→
 TT.lim 35 [sp,.l (ns.map .s),.i .i64 ns.length,.i .i64 i,.l (oG ps),.i .i64 b.kind,.i .u64 b.id,.i .u64 b.min,.i .u64 b.max,.i .u64 b.chosen,.i .u64 b.flags,.i .u64 b.cost,.i .u64 b.priority,.i .u64 b.deadline,.i .u64 b.retry,.i .u64 b.epoch,.i .u64 b.base,.i .u64 b.digest,.i .u64 b.lag,.i .u64 b.code,.i .u64 b.want,.i .i64 b.remaining,.b b.allowed,.s b.name,.s b.region,.s b.note,.l (b.d.map ent),.l (b.t.map row),.l r]=some (if (ns.drop i).all (fun n=>decide (n∈ps) || dO b n)=true then [.i .i64 1] else [.i .i64 0])
 | 0,i,hi=>by
   have h0:ns.drop i=[]:=List.drop_eq_nil_of_le (by omega)
   refine au rfl rfl ?_
   have h:¬ ((i:Int) < ns.length):=by omega
   simp -implicitDefEqProofs [h,h0]
 | m+1,i,hi=>by
   have hlt:i < ns.length:=by omega
   have ih:=aco b r sp ns hlen hns ps m (i+1) (by omega)
   have hcast:((i:Int)+1)=((i+1:Nat):Int):=by omega
   rw [← hcast] at ih
   have hd:(ns.drop i).all (fun n=>decide (n∈ps) || dO b n)=((decide (ns[i]∈ps) || dO b ns[i])&&(ns.drop (i+1)).all (fun n=>decide (n∈ps) || dO b n)):=by rw [List.drop_eq_getElem_cons hlt,List.all_cons]
   rw [hd]
   generalize (ns.drop (i+1)).all (fun n=>decide (n∈ps) || dO b n)=X at *
   by_cases hps:ns[i]∈ps
   ·have ha:=MZ ns[i] ps
    rw [if_pos hps] at ha
    have h1:((i:Int) < ns.length):=by omega
    have hw:=wrap64 (n:=(i:Int)+1) (by omega) (by omega)
    rw [decide_eq_true hps,Bool.true_or,Bool.true_and]
    refine au rfl rfl ?_
    simp -implicitDefEqProofs [h1,hlt,hw,ha,ih]
   ·have ha:=MZ ns[i] ps
    rw [if_neg hps] at ha
    obtain ⟨c,c1,c2⟩:=aoN b r ns[i] (hns _ (List.getElem_mem hlt))
    obtain ⟨c3,c4⟩:=c2 sp ns i ps _ hlt (by omega) (wrap64 (n:=(i:Int)+1) (by omega) (by omega)) rfl ha ih
    rw [decide_eq_false hps,Bool.false_or]
    cases hb:dO b ns[i] with
    | true=>rw [c3 (c1.1 hb),Bool.true_and]
    | false=>rw [c4 (fun h=>by rw [c1.2 h] at hb;cases hb),Bool.false_and];rfl
def dR (b:aB) (r:List GV) (k:Nat) (out:List GV):Prop:=TT.lim k [.i .i64 b.kind,.i .u64 b.id,.i .u64 b.min,.i .u64 b.max,.i .u64 b.chosen,.i .u64 b.flags,.i .u64 b.cost,.i .u64 b.priority,.i .u64 b.deadline,.i .u64 b.retry,.i .u64 b.epoch,.i .u64 b.base,.i .u64 b.digest,.i .u64 b.lag,.i .u64 b.code,.i .u64 b.want,.i .i64 b.remaining,.b b.allowed,.s b.name,.s b.region,.s b.note,.l (b.d.map ent),.l (b.t.map row),.l r]=some out
theorem jO (b:aB) {n:List UInt8} {p:Pl} (h:placeOf n=some p):iH b n=PG b p:=by unfold iH;rw [h]
theorem akj (b:aB) (r:List GV):dR b r 37 [.i .i64 0]:=by
 refine au rfl rfl ?_
 simp
theorem ajX (b:aB) (r:List GV):dR b r 38 [.i .i64 0]:=by
 refine au rfl rfl ?_
 simp
theorem ake (b:aB) (r:List GV) (hb:eU b):dR b r 39 [.i .i64 0,.i .i64 (iw b.name 0 256)]:=by
 have h:=Ei b.name 0 256 hb.name
 refine au rfl rfl ?_
 simp -implicitDefEqProofs [h]
theorem akh (b:aB) (r:List GV) (hb:eU b):dR b r 43 [.i .i64 0,.i .i64 (iw b.region 0 256)]:=by
 have h:=Ei b.region 0 256 hb.region
 refine au rfl rfl ?_
 simp -implicitDefEqProofs [h]
theorem akf (b:aB) (r:List GV) (hb:eU b):dR b r 44 [.i .i64 0,.i .i64 (iw b.note 0 256)]:=by
 have h:=Ei b.note 0 256 hb.note
 refine au rfl rfl ?_
 simp -implicitDefEqProofs [h]
theorem aj3 (b:aB) (r:List GV) (hb:eU b):dR b r 45 [.i .i64 0,.i .i64 (if b.d=[] then 0 else ng b.d)]:=by
 have h:=WI b.d hb.d
 refine au rfl rfl ?_
 by_cases e:b.d=[]
 ·simp -implicitDefEqProofs [e]
 ·have e2:¬ (List.map ent b.d)=[]:=by simpa using e
  have e3:0 < b.d.length:=List.length_pos_iff.2 e
  simp -implicitDefEqProofs [e,h]
theorem akl (b:aB) (r:List GV) (hb:eU b) (hf:∀r∈b.t,fM r.1=true):dR b r 49 [.i .i64 0,.i .i64 (jK b.t)]:=by
 have h:=NC b.t hb.t hf
 refine au rfl rfl ?_
 simp -implicitDefEqProofs [h]
theorem aj9 (b:aB) (r:List GV):dR b r 53 [.i .i64 0]:=by
 refine au rfl rfl ?_
 simp
theorem akd (b:aB) (r:List GV):dR b r 54 [.i .i64 0]:=by
 refine au rfl rfl ?_
 simp
theorem akc (b:aB) (r:List GV):dR b r 55 [.i .i64 0]:=by
 refine au rfl rfl ?_
 simp
theorem ajZ (b:aB) (r:List GV):dR b r 56 [.i .i64 0]:=by
 refine au rfl rfl ?_
 simp
theorem aj8 (b:aB) (r:List GV):dR b r 57 [.i .i64 0]:=by
 refine au rfl rfl ?_
 simp
theorem aj1 (b:aB) (r:List GV):dR b r 58 [.i .i64 0]:=by
 refine au rfl rfl ?_
 simp
theorem akg (b:aB) (r:List GV):dR b r 59 [.i .i64 0]:=by
 refine au rfl rfl ?_
 simp
theorem aj2 (b:aB) (r:List GV):dR b r 60 [.i .i64 0]:=by
 refine au rfl rfl ?_
 simp
theorem akk (b:aB) (r:List GV):dR b r 61 [.i .i64 0]:=by
 refine au rfl rfl ?_
 simp
theorem aj7 (b:aB) (r:List GV):dR b r 62 [.i .i64 0]:=by
 refine au rfl rfl ?_
 simp
theorem ajY (b:aB) (r:List GV):dR b r 63 [.i .i64 0]:=by
 refine au rfl rfl ?_
 simp
theorem aj6 (b:aB) (r:List GV):dR b r 64 [.i .i64 0]:=by
 refine au rfl rfl ?_
 simp
theorem akb (b:aB) (r:List GV):dR b r 65 [.i .i64 0]:=by
 refine au rfl rfl ?_
 simp
theorem aj0 (b:aB) (r:List GV):dR b r 66 [.i .i64 0]:=by
 refine au rfl rfl ?_
 simp
theorem akm (b:aB) (r:List GV):dR b r 67 [.i .i64 0]:=by
 refine au rfl rfl ?_
 simp
/-- One round of the third loop. -/
def ji (b:aB) (r:List GV) (n:List UInt8) (c:Int):Prop:=∀ (l:List dM) (i:Nat) (out:List GV) (h:i < l.length),((i:Int) < l.length)→IntKind.i64.wrap ((i:Int)+1)=(i:Int)+1→l[i].name=n→
    TT.lim 36 [.l (l.map bM),.i .i64 l.length,.i .i64 ((i:Int)+1),.i .i64 b.kind,.i .u64 b.id,.i .u64 b.min,.i .u64 b.max,.i .u64 b.chosen,.i .u64 b.flags,.i .u64 b.cost,.i .u64 b.priority,.i .u64 b.deadline,.i .u64 b.retry,.i .u64 b.epoch,.i .u64 b.base,.i .u64 b.digest,.i .u64 b.lag,.i .u64 b.code,.i .u64 b.want,.i .i64 b.remaining,.b b.allowed,.s b.name,.s b.region,.s b.note,.l (b.d.map ent),.l (b.t.map row),.l r]=some out→
    TT.lim 36 [.l (l.map bM),.i .i64 l.length,.i .i64 i,.i .i64 b.kind,.i .u64 b.id,.i .u64 b.min,.i .u64 b.max,.i .u64 b.chosen,.i .u64 b.flags,.i .u64 b.cost,.i .u64 b.priority,.i .u64 b.deadline,.i .u64 b.retry,.i .u64 b.epoch,.i .u64 b.base,.i .u64 b.digest,.i .u64 b.lag,.i .u64 b.code,.i .u64 b.want,.i .i64 b.remaining,.b b.allowed,.s b.name,.s b.region,.s b.note,.l (b.d.map ent),.l (b.t.map row),.l r]=some (if c=0 then out else [.i .i64 0,.i .i64 c])
theorem aoI (b:aB) (r:List GV):ji b r nI 0:=by
 intro l i out h h1 hw hn ih
 have hm:=akj b r
 unfold dR at hm
 unfold nI at *
 rw [if_pos rfl]
 refine au rfl rfl ?_
 simp -implicitDefEqProofs [h1,h,hn,hw,hm,ih]
theorem aoq (b:aB) (r:List GV):ji b r nH 0:=by
 intro l i out h h1 hw hn ih
 have hm:=ajX b r
 unfold dR at hm
 unfold nH at *
 rw [if_pos rfl]
 refine au rfl rfl ?_
 simp -implicitDefEqProofs [h1,h,hn,hw,hm,ih]
theorem aoE (b:aB) (r:List GV) (hb:eU b):ji b r kS (iw b.name 0 256):=by
 intro l i out h h1 hw hn ih
 have hm:=ake b r hb
 unfold dR at hm
 unfold kS at *
 generalize (iw b.name 0 256)=c at *
 by_cases hc:c=0
 ·subst hc
  rw [if_pos rfl]
  refine au rfl rfl ?_
  simp -implicitDefEqProofs [h1,h,hn,hw,hm,ih]
 ·rw [if_neg hc]
  refine au rfl rfl ?_
  simp -implicitDefEqProofs [h1,h,hn,hw,hm,hc]
theorem aoH (b:aB) (r:List GV) (hb:eU b):ji b r kT (iw b.region 0 256):=by
 intro l i out h h1 hw hn ih
 have hm:=akh b r hb
 unfold dR at hm
 unfold kT at *
 generalize (iw b.region 0 256)=c at *
 by_cases hc:c=0
 ·subst hc
  rw [if_pos rfl]
  refine au rfl rfl ?_
  simp -implicitDefEqProofs [h1,h,hn,hw,hm,ih]
 ·rw [if_neg hc]
  refine au rfl rfl ?_
  simp -implicitDefEqProofs [h1,h,hn,hw,hm,hc]
theorem aoF (b:aB) (r:List GV) (hb:eU b):ji b r jP (iw b.note 0 256):=by
 intro l i out h h1 hw hn ih
 have hm:=akf b r hb
 unfold dR at hm
 unfold jP at *
 generalize (iw b.note 0 256)=c at *
 by_cases hc:c=0
 ·subst hc
  rw [if_pos rfl]
  refine au rfl rfl ?_
  simp -implicitDefEqProofs [h1,h,hn,hw,hm,ih]
 ·rw [if_neg hc]
  refine au rfl rfl ?_
  simp -implicitDefEqProofs [h1,h,hn,hw,hm,hc]
theorem aow (b:aB) (r:List GV) (hb:eU b):ji b r lK (if b.d=[] then 0 else ng b.d):=by
 intro l i out h h1 hw hn ih
 have hm:=aj3 b r hb
 unfold dR at hm
 unfold lK at *
 generalize (if b.d=[] then 0 else ng b.d)=c at *
 by_cases hc:c=0
 ·subst hc
  rw [if_pos rfl]
  refine au rfl rfl ?_
  simp -implicitDefEqProofs [h1,h,hn,hw,hm,ih]
 ·rw [if_neg hc]
  refine au rfl rfl ?_
  simp -implicitDefEqProofs [h1,h,hn,hw,hm,hc]
theorem aoK (b:aB) (r:List GV) (hb:eU b) (hf:∀r∈b.t,fM r.1=true):ji b r lX (jK b.t):=by
 intro l i out h h1 hw hn ih
 have hm:=akl b r hb hf
 unfold dR at hm
 unfold lX at *
 generalize (jK b.t)=c at *
 by_cases hc:c=0
 ·subst hc
  rw [if_pos rfl]
  refine au rfl rfl ?_
  simp -implicitDefEqProofs [h1,h,hn,hw,hm,ih]
 ·rw [if_neg hc]
  refine au rfl rfl ?_
  simp -implicitDefEqProofs [h1,h,hn,hw,hm,hc]
theorem aoA (b:aB) (r:List GV):ji b r lQ 0:=by
 intro l i out h h1 hw hn ih
 have hm:=aj9 b r
 unfold dR at hm
 unfold lQ at *
 rw [if_pos rfl]
 refine au rfl rfl ?_
 simp -implicitDefEqProofs [h1,h,hn,hw,hm,ih]
theorem aoD (b:aB) (r:List GV):ji b r lU 0:=by
 intro l i out h h1 hw hn ih
 have hm:=akd b r
 unfold dR at hm
 unfold lU at *
 rw [if_pos rfl]
 refine au rfl rfl ?_
 simp -implicitDefEqProofs [h1,h,hn,hw,hm,ih]
theorem aoC (b:aB) (r:List GV):ji b r lT 0:=by
 intro l i out h h1 hw hn ih
 have hm:=akc b r
 unfold dR at hm
 unfold lT at *
 rw [if_pos rfl]
 refine au rfl rfl ?_
 simp -implicitDefEqProofs [h1,h,hn,hw,hm,ih]
theorem aos (b:aB) (r:List GV):ji b r lH 0:=by
 intro l i out h h1 hw hn ih
 have hm:=ajZ b r
 unfold dR at hm
 unfold lH at *
 rw [if_pos rfl]
 refine au rfl rfl ?_
 simp -implicitDefEqProofs [h1,h,hn,hw,hm,ih]
theorem aoz (b:aB) (r:List GV):ji b r lN 0:=by
 intro l i out h h1 hw hn ih
 have hm:=aj8 b r
 unfold dR at hm
 unfold lN at *
 rw [if_pos rfl]
 refine au rfl rfl ?_
 simp -implicitDefEqProofs [h1,h,hn,hw,hm,ih]
theorem aou (b:aB) (r:List GV):ji b r lI 0:=by
 intro l i out h h1 hw hn ih
 have hm:=aj1 b r
 unfold dR at hm
 unfold lI at *
 rw [if_pos rfl]
 refine au rfl rfl ?_
 simp -implicitDefEqProofs [h1,h,hn,hw,hm,ih]
theorem aoG (b:aB) (r:List GV):ji b r lV 0:=by
 intro l i out h h1 hw hn ih
 have hm:=akg b r
 unfold dR at hm
 unfold lV at *
 rw [if_pos rfl]
 refine au rfl rfl ?_
 simp -implicitDefEqProofs [h1,h,hn,hw,hm,ih]
theorem aov (b:aB) (r:List GV):ji b r lJ 0:=by
 intro l i out h h1 hw hn ih
 have hm:=aj2 b r
 unfold dR at hm
 unfold lJ at *
 rw [if_pos rfl]
 refine au rfl rfl ?_
 simp -implicitDefEqProofs [h1,h,hn,hw,hm,ih]
theorem aoJ (b:aB) (r:List GV):ji b r lW 0:=by
 intro l i out h h1 hw hn ih
 have hm:=akk b r
 unfold dR at hm
 unfold lW at *
 rw [if_pos rfl]
 refine au rfl rfl ?_
 simp -implicitDefEqProofs [h1,h,hn,hw,hm,ih]
theorem aoy (b:aB) (r:List GV):ji b r jG 0:=by
 intro l i out h h1 hw hn ih
 have hm:=aj7 b r
 unfold dR at hm
 unfold jG at *
 rw [if_pos rfl]
 refine au rfl rfl ?_
 simp -implicitDefEqProofs [h1,h,hn,hw,hm,ih]
theorem aor (b:aB) (r:List GV):ji b r lG 0:=by
 intro l i out h h1 hw hn ih
 have hm:=ajY b r
 unfold dR at hm
 unfold lG at *
 rw [if_pos rfl]
 refine au rfl rfl ?_
 simp -implicitDefEqProofs [h1,h,hn,hw,hm,ih]
theorem aox (b:aB) (r:List GV):ji b r lM 0:=by
 intro l i out h h1 hw hn ih
 have hm:=aj6 b r
 unfold dR at hm
 unfold lM at *
 rw [if_pos rfl]
 refine au rfl rfl ?_
 simp -implicitDefEqProofs [h1,h,hn,hw,hm,ih]
theorem aoB (b:aB) (r:List GV):ji b r lS 0:=by
 intro l i out h h1 hw hn ih
 have hm:=akb b r
 unfold dR at hm
 unfold lS at *
 rw [if_pos rfl]
 refine au rfl rfl ?_
 simp -implicitDefEqProofs [h1,h,hn,hw,hm,ih]
theorem aot (b:aB) (r:List GV):ji b r jF 0:=by
 intro l i out h h1 hw hn ih
 have hm:=aj0 b r
 unfold dR at hm
 unfold jF at *
 rw [if_pos rfl]
 refine au rfl rfl ?_
 simp -implicitDefEqProofs [h1,h,hn,hw,hm,ih]
theorem aoL (b:aB) (r:List GV):ji b r jQ 0:=by
 intro l i out h h1 hw hn ih
 have hm:=akm b r
 unfold dR at hm
 unfold jQ at *
 rw [if_pos rfl]
 refine au rfl rfl ?_
 simp -implicitDefEqProofs [h1,h,hn,hw,hm,ih]
theorem aoO (b:aB) (r:List GV) (hb:eU b) (hf:∀r∈b.t,fM r.1=true) (n:List UInt8):placeOf n≠none→ji b r n (iH b n):=by
 refine D7 (Q:=fun n=>placeOf n≠none→ji b r n (iH b n)) (fun _=>by rw [jO b CZ];exact aoI b r ) (fun _=>by rw [jO b Ci];exact aoq b r ) (fun _=>by rw [jO b zI];exact aoE b r hb) (fun _=>by rw [jO b zK];exact aoH b r hb) (fun _=>by rw [jO b zJ];exact aoF b r hb) (fun _=>by rw [jO b zH];exact aow b r hb) (fun _=>by rw [jO b zL];exact aoK b r hb hf) (fun _=>by rw [jO b CS];exact aoA b r ) (fun _=>by rw [jO b CW];exact aoD b r ) (fun _=>by rw [jO b CV];exact aoC b r ) (fun _=>by rw [jO b Cm];exact aos b r ) (fun _=>by rw [jO b CQ];exact aoz b r ) (fun _=>by rw [jO b CG];exact aou b r ) (fun _=>by rw [jO b CY];exact aoG b r ) (fun _=>by rw [jO b CJ];exact aov b r ) (fun _=>by rw [jO b C9];exact aoJ b r ) (fun _=>by rw [jO b CP];exact aoy b r ) (fun _=>by rw [jO b Cj];exact aor b r ) (fun _=>by rw [jO b CO];exact aox b r ) (fun _=>by rw [jO b CU];exact aoB b r ) (fun _=>by rw [jO b CB];exact aot b r ) (fun _=>by rw [jO b Dc];exact aoL b r ) (fun n e0 e1 e2 e3 e4 e5 e6 e7 e8 e9 e10 e11 e12 e13 e14 e15 e16 e17 e18 e19 e20 e21 h=>absurd (CX n e0 e1 e2 e3 e4 e5 e6 e7 e8 e9 e10 e11 e12 e13 e14 e15 e16 e17 e18 e19 e20 e21) h) n
/-- The first thing that is wrong with the values of names. -/
def iI (b:aB):List dM→Int
 | []=>0
 | s::l=>if iH b s.name=0 then iI b l else iH b s.name
theorem acp (b:aB) (r:List GV) (hb:eU b) (hf:∀r∈b.t,fM r.1=true) (l:List dM) (hlen:l.length≤1000) (hns:∀s∈l,placeOf s.name≠none):∀ (m i:Nat),i+m=l.length→
 TT.lim 36 [.l (l.map bM),.i .i64 l.length,.i .i64 i,.i .i64 b.kind,.i .u64 b.id,.i .u64 b.min,.i .u64 b.max,.i .u64 b.chosen,.i .u64 b.flags,.i .u64 b.cost,.i .u64 b.priority,.i .u64 b.deadline,.i .u64 b.retry,.i .u64 b.epoch,.i .u64 b.base,.i .u64 b.digest,.i .u64 b.lag,.i .u64 b.code,.i .u64 b.want,.i .i64 b.remaining,.b b.allowed,.s b.name,.s b.region,.s b.note,.l (b.d.map ent),.l (b.t.map row),.l r]=some (if iI b (l.drop i)=0 then [.i .i64 1] else [.i .i64 0,.i .i64 (iI b (l.drop i))])
 | 0,i,hi=>by
   have h0:l.drop i=[]:=List.drop_eq_nil_of_le (by omega)
   refine au rfl rfl ?_
   have h:¬ ((i:Int) < l.length):=by omega
   simp -implicitDefEqProofs [h,h0,iI]
 | m+1,i,hi=>by
   have hlt:i < l.length:=by omega
   have ih:=acp b r hb hf l hlen hns m (i+1) (by omega)
   have hcast:((i:Int)+1)=((i+1:Nat):Int):=by omega
   rw [← hcast] at ih
   have:=aoO b r hb hf l[i].name (hns _ (List.getElem_mem hlt)) l i _ hlt (by omega) (wrap64 (n:=(i:Int)+1) (by omega) (by omega)) rfl ih
   rw [this,List.drop_eq_getElem_cons hlt]
   by_cases hc:iH b l[i].name=0
   ·have hm:iI b (l[i]::l.drop (i+1))=iI b (l.drop (i+1)):=by simp only [iI,hc,if_true]
    rw [if_pos hc,hm]
   ·have hm:iI b (l[i]::l.drop (i+1))=iH b l[i].name:=by simp only [iI,hc,if_false]
    rw [if_neg hc,hm,if_neg hc]
def hasTag (l:List dM) (t:Int):Bool:=l.any fun s=>decide (t=s.tag)
theorem acs (l:List dM) (hlen:l.length≤1000) (a1 a2 a3:GV) (t:Int) (a7 a8 a9 a10:GV):∀ (m i:Nat),i+m=l.length→
 TT.lim 73 [.l (l.map bM),a1,a2,a3,.i .i64 l.length,.i .i64 i,.i .u64 t,a7,a8,a9,a10]=some (if hasTag (l.drop i) t=true then [.i .i64 0] else [.i .i64 1])
 | 0,i,hi=>by
   have h0:l.drop i=[]:=List.drop_eq_nil_of_le (by omega)
   refine au rfl rfl ?_
   have h:¬ ((i:Int) < l.length):=by omega
   simp -implicitDefEqProofs [h,h0,hasTag]
 | m+1,i,hi=>by
   have hlt:i < l.length:=by omega
   have ih:=acs l hlen a1 a2 a3 t a7 a8 a9 a10 m (i+1) (by omega)
   have hcast:((i:Int)+1)=((i+1:Nat):Int):=by omega
   rw [← hcast] at ih
   have h1:((i:Int) < l.length):=by omega
   have hw:=wrap64 (n:=(i:Int)+1) (by omega) (by omega)
   have hd:hasTag (l.drop i) t=(decide (t=l[i].tag) || hasTag (l.drop (i+1)) t):=by rw [List.drop_eq_getElem_cons hlt];rfl
   rw [hd]
   generalize hasTag (l.drop (i+1)) t=X at *
   refine au rfl rfl ?_
   by_cases hc:t=l[i].tag
   ·simp -implicitDefEqProofs [h1,hlt,hc]
   ·simp -implicitDefEqProofs [h1,hlt,hc,hw,ih]
theorem acr (l:List dM) (hlen:l.length≤1000) (fl:List bW) (hfl:fl.length≤1000000):∀ (m i:Nat),i+m=fl.length→
 TT.lim 72 [.l (l.map bM),.l (aT fl),.i .i64 fl.length,.i .i64 i]=some (if (fl.drop i).any (fun f=>hasTag l f.tag)=true then [.i .i64 0] else [.i .i64 1])
 | 0,i,hi=>by
   have h0:fl.drop i=[]:=List.drop_eq_nil_of_le (by omega)
   refine au rfl rfl ?_
   have h:¬ ((i:Int) < fl.length):=by omega
   simp -implicitDefEqProofs [h,h0]
 | m+1,i,hi=>by
   have hlt:i < fl.length:=by omega
   have ih:=acr l hlen fl hfl m (i+1) (by omega)
   have hcast:((i:Int)+1)=((i+1:Nat):Int):=by omega
   rw [← hcast] at ih
   have h1:((i:Int) < fl.length):=by omega
   have hw:=wrap64 (n:=(i:Int)+1) (by omega) (by omega)
   have hd:(fl.drop i).any (fun f=>hasTag l f.tag)=(hasTag l fl[i].tag || (fl.drop (i+1)).any (fun f=>hasTag l f.tag)):=by rw [List.drop_eq_getElem_cons hlt,List.any_cons]
   rw [hd]
   have hget:(aT fl)[i]? = some (oH fl[i]):=by rw [yT,List.getElem?_map,List.getElem?_eq_getElem hlt];rfl
   clear hd
   obtain ⟨t,y,n,s,k,hfi⟩:∃t y n s k,fl[i]=bW.mk t y n s k:=by
    cases fl[i] with
    | mk t y n s k=>exact ⟨_,_,_,_,_,rfl⟩
   rw [hfi] at hget ⊢
   rw [show (bW.mk t y n s k).tag=t from rfl]
   have h3:TT.lim 73 [.l (l.map bM),.l (aT fl),.i .i64 fl.length,.i .i64 i,.i .i64 l.length,.i .i64 0,.i .u64 t,.i .i64 y,.i .u64 n,.s s,.l (aT k)]=_:=acs l hlen _ _ _ t _ _ _ _ l.length 0 (by omega)
   rw [List.drop_zero] at h3
   refine au rfl rfl ?_
   by_cases hc:hasTag l t=true
   ·rw [if_pos hc] at h3
    simp -implicitDefEqProofs [-List.any_eq_true,h1,hget,h3,hc]
   ·rw [if_neg hc] at h3
    have hc:hasTag l t=false:=by simpa using hc
    simp -implicitDefEqProofs [-List.any_eq_true,h1,hget,h3,hw,ih,hc]
def yJ (b:aB):Int:=
 if b.kind=1 then (if b.min < 1 then 18 else if b.max < b.min then 18 else if 255 < b.max then 18 else 0)
 else if b.kind=2 then (if b.chosen < 1 then 18 else if 255 < b.chosen then 18 else 0)
 else if b.kind=3 then (if b.d=[] then 12 else 0)
 else if b.kind=5 then (if b.epoch < 1 then 18 else 0)
 else if b.kind=6 then (if b.base < 1 then 18 else if b.epoch≤b.base then 20 else 0)
 else 0
/-- What is said of a message at a version. -/
def zQ (sp:List dM) (fl:List bW):Int:=if gI 0 0 fl≠0 then gI 0 0 fl else if fl.any (fun f=>hasTag sp f.tag)=true then 14 else 0
def fQ (b:aB) (fl:List bW) (v:Int):Int:=
 if v < 1 then 16 else if 3 < v then 16 else
 if gy b.kind v=[] then 15 else
 if dN.all (fun n=>jZ (gy b.kind v) n || dO b n)=false then 26 else
 if iI b (gy b.kind v)≠0 then iI b (gy b.kind v) else
 if yJ b≠0 then yJ b else zQ (gy b.kind v) fl
theorem acB:∀n∈dN,placeOf n≠none:=by decide
theorem ajs (k v:Int):∀s∈gy k v,placeOf s.name≠none:=by
 have key:∀s∈jg k,placeOf s.name≠none:=by
  unfold jg
  repeat' split
  all_goals first | (unfold sp1;decide) | (unfold sp2;decide) | (unfold uq;decide) | (unfold uw;decide) | (unfold uy;decide) | (unfold uz;decide) | (unfold uD;decide) | (unfold uF;decide) | (intro s hs;cases hs)
 intro s hs
 exact key s (List.mem_filter.1 hs).1
theorem aby (k v:Int):(gy k v).length≤8:=Nat.le_trans (List.length_filter_le _ _) (Rt k)
set_option maxHeartbeats 4000000 in
theorem BM (b:aB) (fl:List bW) (v:Int) (hb:eU b) (hf:∀r∈b.t,fM r.1=true) (hok:fU fl) (hlen:fl.length≤1000000):TT.lim 21 [bn b (aT fl),.i .i64 v]=some [.i .i64 (fQ b fl v)]:=by
 have hk:=ajp b.kind
 refine aH rfl rfl ?_ rfl
 unfold fQ
 by_cases v1:v < 1
 ·simp -implicitDefEqProofs [v1]
 by_cases v3:3 < v
 ·simp -implicitDefEqProofs [v1,v3]
 rw [if_neg v1,if_neg v3]
 have hnil:=ajr b.kind v (by omega) (by omega)
 by_cases k0:vF b.kind=0
 ·rw [if_pos (hnil.2 (.inl k0))]
  rw [k0] at hk
  simp -implicitDefEqProofs [v1,v3,hk]
 by_cases k1:v < vF b.kind
 ·rw [if_pos (hnil.2 (.inr k1))]
  simp -implicitDefEqProofs [v1,v3,hk,k0,k1]
 rw [if_neg (fun e=>(hnil.1 e).elim k0 k1)]
 have hkn:=ajq b.kind v (by omega) (by omega) (by omega)
 have hpl:=ajs b.kind v
 have hl8:=aby b.kind v
 clear hnil
 generalize gy b.kind v=sp at *
 have hnm:=aks
 have h0:=acn b (aT fl) sp (by omega) sp.length 0 [] (by omega)
 have h1:=aco b (aT fl) (.l (sp.map bM)) dN (by decide) acB (rO [] sp) dN.length 0 (by omega)
 have h2:=acp b (aT fl) hb hf sp (by omega) hpl sp.length 0 (by omega)
 have h3:=acr sp (by omega) fl hlen fl.length 0 (by omega)
 have h4:=ahH fl hok hlen
 rw [List.drop_zero] at h0 h1 h2 h3
 simp only [akn] at h1
 have hnl:(dN.map GV.s).length=dN.length:=List.length_map _
 have hfl:=rD fl
 rw [← hfl] at h3
 generalize hX:rO [] sp=ps at *
 have h0':TT.lim 33 [.l (sp.map bM),.i .i64 sp.length,.i .i64 0,.l [],.i .i64 b.kind,.i .u64 b.id,.i .u64 b.min,.i .u64 b.max,.i .u64 b.chosen,.i .u64 b.flags,.i .u64 b.cost,.i .u64 b.priority,.i .u64 b.deadline,.i .u64 b.retry,.i .u64 b.epoch,.i .u64 b.base,.i .u64 b.digest,.i .u64 b.lag,.i .u64 b.code,.i .u64 b.want,.i .i64 b.remaining,.b b.allowed,.s b.name,.s b.region,.s b.note,.l (b.d.map ent),.l (b.t.map row),.l (aT fl)]=some [.i .i64 0,.l (oG ps)]:=h0
 clear h0
 have h1':TT.lim 35 [.l (sp.map bM),.l (dN.map .s),.i .i64 dN.length,.i .i64 0,.l (oG ps),.i .i64 b.kind,.i .u64 b.id,.i .u64 b.min,.i .u64 b.max,.i .u64 b.chosen,.i .u64 b.flags,.i .u64 b.cost,.i .u64 b.priority,.i .u64 b.deadline,.i .u64 b.retry,.i .u64 b.epoch,.i .u64 b.base,.i .u64 b.digest,.i .u64 b.lag,.i .u64 b.code,.i .u64 b.want,.i .i64 b.remaining,.b b.allowed,.s b.name,.s b.region,.s b.note,.l (b.d.map ent),.l (b.t.map row),.l (aT fl)]=_:=h1
 clear h1
 have h2':TT.lim 36 [.l (sp.map bM),.i .i64 sp.length,.i .i64 0,.i .i64 b.kind,.i .u64 b.id,.i .u64 b.min,.i .u64 b.max,.i .u64 b.chosen,.i .u64 b.flags,.i .u64 b.cost,.i .u64 b.priority,.i .u64 b.deadline,.i .u64 b.retry,.i .u64 b.epoch,.i .u64 b.base,.i .u64 b.digest,.i .u64 b.lag,.i .u64 b.code,.i .u64 b.want,.i .i64 b.remaining,.b b.allowed,.s b.name,.s b.region,.s b.note,.l (b.d.map ent),.l (b.t.map row),.l (aT fl)]=_:=h2
 clear h2
 have h3':TT.lim 72 [.l (sp.map bM),.l (aT fl),.i .i64 (aT fl).length,.i .i64 0]=_:=h3
 clear h3
 have hr:zQ sp fl=if gI 0 0 fl≠0 then gI 0 0 fl else if fl.any (fun f=>hasTag sp f.tag)=true then 14 else 0:=rfl
 generalize (dN.all fun n=>jZ sp n || dO b n)=A at *
 generalize iI b sp=M at *
 generalize gI 0 0 fl=F at *
 generalize (fl.any fun f=>hasTag sp f.tag)=W at *
 generalize zQ sp fl=R at *
 generalize dN=NL at *
 have auv:∀ (x:GV),True:=fun _=>trivial
 cases A with
 | false=>
   simp only [Bool.false_eq_true,if_false] at h1'
   simp -implicitDefEqProofs [v1,v3,hk,k0,k1,hkn,hnm,h0',h1']
 | true=>
 simp only [if_true] at h1'
 by_cases hM:M=0
 rotate_left
 ·rw [if_neg hM] at h2'
  simp -implicitDefEqProofs [v1,v3,hk,k0,k1,hkn,hnm,h0',h1',h2',hM]
 rw [if_pos hM] at h2'
 rw [if_neg (by simp),if_neg (by simp [hM])]
 clear hM
 -- the rest of it
 have key:∀ (c:Int),yJ b=c→c≠0→True:=fun _ _ _=>trivial
 unfold yJ
 by_cases e1:b.kind=1
 ·have e1:=eq_true e1
  by_cases c1:b.min < 1
  ·simp -implicitDefEqProofs [v1,v3,hk,k0,k1,hkn,hnm,h0',h1',h2',e1,c1]
  by_cases c2:b.max < b.min
  ·simp -implicitDefEqProofs [v1,v3,hk,k0,k1,hkn,hnm,h0',h1',h2',e1,c1,c2]
  by_cases c3:255 < b.max
  ·simp -implicitDefEqProofs [v1,v3,hk,k0,k1,hkn,hnm,h0',h1',h2',e1,c1,c2,c3]
  simp only [e1,c1,c2,c3,if_true,if_false,ne_eq,not_true_eq_false]
  rw [hr]
  by_cases hF:F=0
  ·subst hF
   cases W with
   | true=>simp only [if_true] at h3';simp [v1,v3,hk,k0,k1,hkn,hnm,h0',h1',h2',e1,c1,c2,c3,h4,h3']
   | false=>simp only [Bool.false_eq_true,if_false] at h3';simp [v1,v3,hk,k0,k1,hkn,hnm,h0',h1',h2',e1,c1,c2,c3,h4,h3']
  ·simp -implicitDefEqProofs [v1,v3,hk,k0,k1,hkn,hnm,h0',h1',h2',e1,c1,c2,c3,h4,hF]
 by_cases e2:b.kind=2
 ·have e2:=eq_true e2
  by_cases c1:b.chosen < 1
  ·simp -implicitDefEqProofs [v1,v3,hk,k0,k1,hkn,hnm,h0',h1',h2',e1,e2,c1]
  by_cases c2:255 < b.chosen
  ·simp -implicitDefEqProofs [v1,v3,hk,k0,k1,hkn,hnm,h0',h1',h2',e1,e2,c1,c2]
  simp only [e1,e2,c1,c2,if_true,if_false,ne_eq,not_true_eq_false]
  rw [hr]
  by_cases hF:F=0
  ·subst hF
   cases W with
   | true=>simp only [if_true] at h3';simp [v1,v3,hk,k0,k1,hkn,hnm,h0',h1',h2',e1,e2,c1,c2,h4,h3']
   | false=>simp only [Bool.false_eq_true,if_false] at h3';simp [v1,v3,hk,k0,k1,hkn,hnm,h0',h1',h2',e1,e2,c1,c2,h4,h3']
  ·simp -implicitDefEqProofs [v1,v3,hk,k0,k1,hkn,hnm,h0',h1',h2',e1,e2,c1,c2,h4,hF]
 by_cases e3:b.kind=3
 ·have e3:=eq_true e3
  by_cases c1:b.d=[]
  ·have c1:=eq_true c1
   simp -implicitDefEqProofs [v1,v3,hk,k0,k1,hkn,hnm,h0',h1',h2',e1,e2,e3,c1]
  simp only [e1,e2,e3,c1,if_true,if_false,ne_eq,not_true_eq_false]
  rw [hr]
  by_cases hF:F=0
  ·subst hF
   cases W with
   | true=>simp only [if_true] at h3';simp [v1,v3,hk,k0,k1,hkn,hnm,h0',h1',h2',e1,e2,e3,c1,h4,h3']
   | false=>simp only [Bool.false_eq_true,if_false] at h3';simp [v1,v3,hk,k0,k1,hkn,hnm,h0',h1',h2',e1,e2,e3,c1,h4,h3']
  ·simp -implicitDefEqProofs [v1,v3,hk,k0,k1,hkn,hnm,h0',h1',h2',e1,e2,e3,c1,h4,hF]
 by_cases e5:b.kind=5
 ·have e5:=eq_true e5
  by_cases c1:b.epoch < 1
  ·simp -implicitDefEqProofs [v1,v3,hk,k0,k1,hkn,hnm,h0',h1',h2',e1,e2,e3,e5,c1]
  simp only [e1,e2,e3,e5,c1,if_true,if_false,ne_eq,not_true_eq_false]
  rw [hr]
  by_cases hF:F=0
  ·subst hF
   cases W with
   | true=>simp only [if_true] at h3';simp [v1,v3,hk,k0,k1,hkn,hnm,h0',h1',h2',e1,e2,e3,e5,c1,h4,h3']
   | false=>simp only [Bool.false_eq_true,if_false] at h3';simp [v1,v3,hk,k0,k1,hkn,hnm,h0',h1',h2',e1,e2,e3,e5,c1,h4,h3']
  ·simp -implicitDefEqProofs [v1,v3,hk,k0,k1,hkn,hnm,h0',h1',h2',e1,e2,e3,e5,c1,h4,hF]
 by_cases e6:b.kind=6
 ·have e6:=eq_true e6
  by_cases c1:b.base < 1
  ·simp -implicitDefEqProofs [v1,v3,hk,k0,k1,hkn,hnm,h0',h1',h2',e1,e2,e3,e5,e6,c1]
  by_cases c2:b.epoch≤b.base
  ·simp -implicitDefEqProofs [v1,v3,hk,k0,k1,hkn,hnm,h0',h1',h2',e1,e2,e3,e5,e6,c1,c2]
  simp only [e1,e2,e3,e5,e6,c1,c2,if_true,if_false,ne_eq,not_true_eq_false]
  rw [hr]
  by_cases hF:F=0
  ·subst hF
   cases W with
   | true=>simp only [if_true] at h3';simp [v1,v3,hk,k0,k1,hkn,hnm,h0',h1',h2',e1,e2,e3,e5,e6,c1,c2,h4,h3']
   | false=>simp only [Bool.false_eq_true,if_false] at h3';simp [v1,v3,hk,k0,k1,hkn,hnm,h0',h1',h2',e1,e2,e3,e5,e6,c1,c2,h4,h3']
  ·simp -implicitDefEqProofs [v1,v3,hk,k0,k1,hkn,hnm,h0',h1',h2',e1,e2,e3,e5,e6,c1,c2,h4,hF]
 simp only [e1,e2,e3,e5,e6,if_false,ne_eq,not_true_eq_false]
 rw [hr]
 by_cases hF:F=0
 ·subst hF
  cases W with
  | true=>simp only [if_true] at h3';simp [v1,v3,hk,k0,k1,hkn,hnm,h0',h1',h2',e1,e2,e3,e5,e6,h4,h3']
  | false=>simp only [Bool.false_eq_true,if_false] at h3';simp [v1,v3,hk,k0,k1,hkn,hnm,h0',h1',h2',e1,e2,e3,e5,e6,h4,h3']
 ·simp -implicitDefEqProofs [v1,v3,hk,k0,k1,hkn,hnm,h0',h1',h2',e1,e2,e3,e5,e6,h4,hF]
theorem adh:TT.lim 98 []=some [.l (dN.map .s)]:=by
 refine aH rfl rfl ?_ rfl
 simp -implicitDefEqProofs [dN]
def rC (l:List dM) (n:List UInt8):Option Int:=match l with
 | []=>none
 | s::l=>if s.name=n then some s.use else rC l n
def gB:Nat→Int→List UInt8→Option Int
 | 0,_,_=>none
 | m+1,k,n=>match rC (jg k) n with
   | some u=>some u
   | none=>gB m (k+1) n
def oq (n:List UInt8):Int:=match placeOf n with
 | some p=>iU p
 | none=>-1
theorem aeF (n:List UInt8) (a1:GV) (l:List dM) (hlen:l.length≤1000):∀ (m i:Nat),i+m=l.length→
 TT.lim 105 [.s n,a1,.l (l.map bM),.i .i64 l.length,.i .i64 i]=some (match rC (l.drop i) n with | some u=>[.i .i64 0,.i .i64 u] | none=>[.i .i64 1])
 | 0,i,hi=>by
   have h0:l.drop i=[]:=List.drop_eq_nil_of_le (by omega)
   refine au rfl rfl ?_
   have h:¬ ((i:Int) < l.length):=by omega
   simp -implicitDefEqProofs [h,h0,rC]
 | m+1,i,hi=>by
   have hlt:i < l.length:=by omega
   have ih:=aeF n a1 l hlen m (i+1) (by omega)
   have hcast:((i:Int)+1)=((i+1:Nat):Int):=by omega
   rw [← hcast] at ih
   have h1:((i:Int) < l.length):=by omega
   have hw:=wrap64 (n:=(i:Int)+1) (by omega) (by omega)
   rw [List.drop_eq_getElem_cons hlt]
   refine au rfl rfl ?_
   by_cases hc:l[i].name=n
   ·simp only [rC,if_pos hc]
    simp -implicitDefEqProofs [h1,hlt,hc]
   ·simp only [rC,if_neg hc]
    simp -implicitDefEqProofs [h1,hlt,hc,hw,ih]
theorem aeE (n:List UInt8):∀ (m:Nat) (k:Int),k+m=9→1≤k→
 TT.lim 104 [.s n,.i .i64 k]=some (match gB m k n with | some u=>[.i .i64 0,.i .i64 u] | none=>[.i .i64 1])
 | 0,k,hk,h1=>by
   have:¬ k≤8:=by omega
   refine au rfl rfl ?_
   simp -implicitDefEqProofs [this,gB]
 | m+1,k,hk,h1=>by
   have h8:k≤8:=by omega
   have hw:=wrap64 (n:=k+1) (by omega) (by omega)
   have hs:=adq k
   have ih:=aeE n m (k+1) (by omega) (by omega)
   have hu:TT.lim 105 [.s n,.i .i64 k,.l ((jg k).map bM),.i .i64 (jg k).length,.i .i64 0]=_:=aeF n (.i .i64 k) (jg k) (by have:=Rt k;omega) (jg k).length 0 (by omega)
   rw [List.drop_zero] at hu
   have he:gB (m+1) k n=match rC (jg k) n with | some u=>some u | none=>gB m (k+1) n:=rfl
   rw [he]
   generalize jg k=l at *
   cases hf:rC l n with
   | some u=>
     rw [hf] at hu
     refine au rfl rfl ?_
     simp -implicitDefEqProofs [h8,hs,hu]
   | none=>
     rw [hf] at hu
     refine au rfl rfl ?_
     simp -implicitDefEqProofs [h8,hs,hu,hw,ih]
theorem aqn:gB 8 1 nI=some (iU .rem):=by unfold nI;decide
theorem ap4:gB 8 1 nH=some (iU .allow):=by unfold nH;decide
theorem aqi:gB 8 1 kS=some (iU .name):=by unfold kS;decide
theorem aqm:gB 8 1 kT=some (iU .region):=by unfold kT;decide
theorem aqk:gB 8 1 jP=some (iU .note):=by unfold jP;decide
theorem aqa:gB 8 1 lK=some (iU .d):=by unfold lK;decide
theorem aqp:gB 8 1 lX=some (iU .t):=by unfold lX;decide
theorem aqe:gB 8 1 lQ=some (iU (.num 0)):=by unfold lQ;decide
theorem aqh:gB 8 1 lU=some (iU (.num 1)):=by unfold lU;decide
theorem aqg:gB 8 1 lT=some (iU (.num 2)):=by unfold lT;decide
theorem ap6:gB 8 1 lH=some (iU (.num 3)):=by unfold lH;decide
theorem aqd:gB 8 1 lN=some (iU (.num 4)):=by unfold lN;decide
theorem ap8:gB 8 1 lI=some (iU (.num 5)):=by unfold lI;decide
theorem aql:gB 8 1 lV=some (iU (.num 6)):=by unfold lV;decide
theorem ap9:gB 8 1 lJ=some (iU (.num 7)):=by unfold lJ;decide
theorem aqo:gB 8 1 lW=some (iU (.num 8)):=by unfold lW;decide
theorem aqc:gB 8 1 jG=some (iU (.num 9)):=by unfold jG;decide
theorem ap5:gB 8 1 lG=some (iU (.num 10)):=by unfold lG;decide
theorem aqb:gB 8 1 lM=some (iU (.num 11)):=by unfold lM;decide
theorem aqf:gB 8 1 lS=some (iU (.num 12)):=by unfold lS;decide
theorem ap7:gB 8 1 jF=some (iU (.num 13)):=by unfold jF;decide
theorem aqr:gB 8 1 jQ=some (iU (.num 14)):=by unfold jQ;decide
theorem aqj (n:List UInt8) (e0:¬ n=nI) (e1:¬ n=nH) (e2:¬ n=kS) (e3:¬ n=kT) (e4:¬ n=jP) (e5:¬ n=lK) (e6:¬ n=lX) (e7:¬ n=lQ) (e8:¬ n=lU) (e9:¬ n=lT) (e10:¬ n=lH) (e11:¬ n=lN) (e12:¬ n=lI) (e13:¬ n=lV) (e14:¬ n=lJ) (e15:¬ n=lW) (e16:¬ n=jG) (e17:¬ n=lG) (e18:¬ n=lM) (e19:¬ n=lS) (e20:¬ n=jF) (e21:¬ n=jQ):gB 8 1 n=none:=by
 have hh:∀k s,s∈jg k→¬ s.name=n:=by
  intro k s hs e
  have h1:=CX n e0 e1 e2 e3 e4 e5 e6 e7 e8 e9 e10 e11 e12 e13 e14 e15 e16 e17 e18 e19 e20 e21
  rw [← e] at h1
  have key:∀s∈jg k,placeOf s.name≠none:=by
   unfold jg
   repeat' split
   all_goals first | (unfold sp1;decide) | (unfold sp2;decide) | (unfold uq;decide) | (unfold uw;decide) | (unfold uy;decide) | (unfold uz;decide) | (unfold uD;decide) | (unfold uF;decide) | (intro s hs;cases hs)
  exact key s hs h1
 have hf:∀ (l:List dM),(∀s∈l,¬ s.name=n)→rC l n=none:=by
  intro l
  induction l with
  | nil=>intro _;rfl
  | cons s l ih=>intro h;simp only [rC];rw [if_neg (h s (by simp))];exact ih fun s hs=>h s (by simp [hs])
 have hk:∀k,rC (jg k) n=none:=fun k=>hf _ fun s hs=>hh k s hs
 simp only [gB,hk]
theorem aqA (n:List UInt8):TT.lim 103 [.s n]=some [.i .i64 (oq n)]:=by
 have hu:∀o,gB 8 1 n=o→TT.lim 103 [.s n]=some [.i .i64 (match o with | some u=>u | none=>-1)]:=by
  intro o ho
  have h0:=aeE n 8 1 (by omega) (by omega)
  rw [ho] at h0
  refine aH rfl rfl ?_ rfl
  cases o with
  | some u=>simp [h0]
  | none=>simp [h0]
 have hv:gB 8 1 n=(match placeOf n with | some p=>some (iU p) | none=>none):=by
  refine D7 (Q:=fun n=>gB 8 1 n=(match placeOf n with | some p=>some (iU p) | none=>none)) (by rw [CZ];exact aqn) (by rw [Ci];exact ap4) (by rw [zI];exact aqi) (by rw [zK];exact aqm) (by rw [zJ];exact aqk) (by rw [zH];exact aqa) (by rw [zL];exact aqp) (by rw [CS];exact aqe) (by rw [CW];exact aqh) (by rw [CV];exact aqg) (by rw [Cm];exact ap6) (by rw [CQ];exact aqd) (by rw [CG];exact ap8) (by rw [CY];exact aql) (by rw [CJ];exact ap9) (by rw [C9];exact aqo) (by rw [CP];exact aqc) (by rw [Cj];exact ap5) (by rw [CO];exact aqb) (by rw [CU];exact aqf) (by rw [CB];exact ap7) (by rw [Dc];exact aqr) (fun n e0 e1 e2 e3 e4 e5 e6 e7 e8 e9 e10 e11 e12 e13 e14 e15 e16 e17 e18 e19 e20 e21=>by rw [CX n e0 e1 e2 e3 e4 e5 e6 e7 e8 e9 e10 e11 e12 e13 e14 e15 e16 e17 e18 e19 e20 e21];exact aqj n e0 e1 e2 e3 e4 e5 e6 e7 e8 e9 e10 e11 e12 e13 e14 e15 e16 e17 e18 e19 e20 e21) n
 have:=hu _ hv
 rw [this]
 unfold oq
 cases placeOf n<;>rfl
theorem jV {n:List UInt8} {p:Pl} (h:placeOf n=some p):TT.lim 103 [.s n]=some [.i .i64 (iU p)]:=by
 have hu:=aqA n
 unfold oq at hu
 rw [h] at hu
 exact hu
def dS (b:aB) (r:List GV) (n:List UInt8) (p:Pl):Prop:=TT.lim 102 [bn b r,.s n]=some [.i .u64 (iy b p).1,.s (iy b p).2]
theorem amv (b:aB) (r:List GV):TT.lim 106 [bn b r,.s lQ]=some [.i .u64 (bJ b 0)]:=by
 have e:bJ b 0=b.id:=rfl
 rw [e]
 unfold lQ
 refine aH rfl rfl ?_ rfl
 simp
theorem amy (b:aB) (r:List GV):TT.lim 106 [bn b r,.s lU]=some [.i .u64 (bJ b 1)]:=by
 have e:bJ b 1=b.min:=rfl
 rw [e]
 unfold lU
 refine aH rfl rfl ?_ rfl
 simp
theorem amx (b:aB) (r:List GV):TT.lim 106 [bn b r,.s lT]=some [.i .u64 (bJ b 2)]:=by
 have e:bJ b 2=b.max:=rfl
 rw [e]
 unfold lT
 refine aH rfl rfl ?_ rfl
 simp
theorem amm (b:aB) (r:List GV):TT.lim 106 [bn b r,.s lH]=some [.i .u64 (bJ b 3)]:=by
 have e:bJ b 3=b.chosen:=rfl
 rw [e]
 unfold lH
 refine aH rfl rfl ?_ rfl
 simp
theorem amu (b:aB) (r:List GV):TT.lim 106 [bn b r,.s lN]=some [.i .u64 (bJ b 4)]:=by
 have e:bJ b 4=b.flags:=rfl
 rw [e]
 unfold lN
 refine aH rfl rfl ?_ rfl
 simp
theorem amo (b:aB) (r:List GV):TT.lim 106 [bn b r,.s lI]=some [.i .u64 (bJ b 5)]:=by
 have e:bJ b 5=b.cost:=rfl
 rw [e]
 unfold lI
 refine aH rfl rfl ?_ rfl
 simp
theorem amz (b:aB) (r:List GV):TT.lim 106 [bn b r,.s lV]=some [.i .u64 (bJ b 6)]:=by
 have e:bJ b 6=b.priority:=rfl
 rw [e]
 unfold lV
 refine aH rfl rfl ?_ rfl
 simp
theorem amq (b:aB) (r:List GV):TT.lim 106 [bn b r,.s lJ]=some [.i .u64 (bJ b 7)]:=by
 have e:bJ b 7=b.deadline:=rfl
 rw [e]
 unfold lJ
 refine aH rfl rfl ?_ rfl
 simp
theorem amA (b:aB) (r:List GV):TT.lim 106 [bn b r,.s lW]=some [.i .u64 (bJ b 8)]:=by
 have e:bJ b 8=b.retry:=rfl
 rw [e]
 unfold lW
 refine aH rfl rfl ?_ rfl
 simp
theorem ams (b:aB) (r:List GV):TT.lim 106 [bn b r,.s jG]=some [.i .u64 (bJ b 9)]:=by
 have e:bJ b 9=b.epoch:=rfl
 rw [e]
 unfold jG
 refine aH rfl rfl ?_ rfl
 simp
theorem aml (b:aB) (r:List GV):TT.lim 106 [bn b r,.s lG]=some [.i .u64 (bJ b 10)]:=by
 have e:bJ b 10=b.base:=rfl
 rw [e]
 unfold lG
 refine aH rfl rfl ?_ rfl
 simp
theorem amr (b:aB) (r:List GV):TT.lim 106 [bn b r,.s lM]=some [.i .u64 (bJ b 11)]:=by
 have e:bJ b 11=b.digest:=rfl
 rw [e]
 unfold lM
 refine aH rfl rfl ?_ rfl
 simp
theorem amw (b:aB) (r:List GV):TT.lim 106 [bn b r,.s lS]=some [.i .u64 (bJ b 12)]:=by
 have e:bJ b 12=b.lag:=rfl
 rw [e]
 unfold lS
 refine aH rfl rfl ?_ rfl
 simp
theorem amn (b:aB) (r:List GV):TT.lim 106 [bn b r,.s jF]=some [.i .u64 (bJ b 13)]:=by
 have e:bJ b 13=b.code:=rfl
 rw [e]
 unfold jF
 refine aH rfl rfl ?_ rfl
 simp
theorem amB (b:aB) (r:List GV):TT.lim 106 [bn b r,.s jQ]=some [.i .u64 (bJ b 14)]:=by
 have e:bJ b 14=b.want:=rfl
 rw [e]
 unfold jQ
 refine aH rfl rfl ?_ rfl
 simp
theorem adP (b:aB) (r:List GV):TT.lim 107 [bn b r,.s kS]=some [.s b.name]:=by
 unfold kS
 refine aH rfl rfl ?_ rfl
 simp
theorem adR (b:aB) (r:List GV):TT.lim 107 [bn b r,.s kT]=some [.s b.region]:=by
 unfold kT
 refine aH rfl rfl ?_ rfl
 simp
theorem adQ (b:aB) (r:List GV):TT.lim 107 [bn b r,.s jP]=some [.s b.note]:=by
 unfold jP
 refine aH rfl rfl ?_ rfl
 simp
theorem adE (b:aB) (r:List GV):dS b r lQ (.num 0):=by
 have hu:=jV CS
 unfold dS
 have hn:=amv b r
 have hu:TT.lim 103 [.s lQ]=some [.i .i64 0]:=hu
 refine aH rfl rfl ?_ rfl
 simp -implicitDefEqProofs [hu,bU,hn,iy]
theorem adH (b:aB) (r:List GV):dS b r lU (.num 1):=by
 have hu:=jV CW
 unfold dS
 have hn:=amy b r
 have hu:TT.lim 103 [.s lU]=some [.i .i64 0]:=hu
 refine aH rfl rfl ?_ rfl
 simp -implicitDefEqProofs [hu,bU,hn,iy]
theorem adG (b:aB) (r:List GV):dS b r lT (.num 2):=by
 have hu:=jV CV
 unfold dS
 have hn:=amx b r
 have hu:TT.lim 103 [.s lT]=some [.i .i64 0]:=hu
 refine aH rfl rfl ?_ rfl
 simp -implicitDefEqProofs [hu,bU,hn,iy]
theorem adx (b:aB) (r:List GV):dS b r lH (.num 3):=by
 have hu:=jV Cm
 unfold dS
 have hn:=amm b r
 have hu:TT.lim 103 [.s lH]=some [.i .i64 0]:=hu
 refine aH rfl rfl ?_ rfl
 simp -implicitDefEqProofs [hu,bU,hn,iy]
theorem adD (b:aB) (r:List GV):dS b r lN (.num 4):=by
 have hu:=jV CQ
 unfold dS
 have hn:=amu b r
 have hu:TT.lim 103 [.s lN]=some [.i .i64 0]:=hu
 refine aH rfl rfl ?_ rfl
 simp -implicitDefEqProofs [hu,bU,hn,iy]
theorem adz (b:aB) (r:List GV):dS b r lI (.num 5):=by
 have hu:=jV CG
 unfold dS
 have hn:=amo b r
 have hu:TT.lim 103 [.s lI]=some [.i .i64 0]:=hu
 refine aH rfl rfl ?_ rfl
 simp -implicitDefEqProofs [hu,bU,hn,iy]
theorem adK (b:aB) (r:List GV):dS b r lV (.num 6):=by
 have hu:=jV CY
 unfold dS
 have hn:=amz b r
 have hu:TT.lim 103 [.s lV]=some [.i .i64 0]:=hu
 refine aH rfl rfl ?_ rfl
 simp -implicitDefEqProofs [hu,bU,hn,iy]
theorem adA (b:aB) (r:List GV):dS b r lJ (.num 7):=by
 have hu:=jV CJ
 unfold dS
 have hn:=amq b r
 have hu:TT.lim 103 [.s lJ]=some [.i .i64 0]:=hu
 refine aH rfl rfl ?_ rfl
 simp -implicitDefEqProofs [hu,bU,hn,iy]
theorem adN (b:aB) (r:List GV):dS b r lW (.num 8):=by
 have hu:=jV C9
 unfold dS
 have hn:=amA b r
 have hu:TT.lim 103 [.s lW]=some [.i .i64 0]:=hu
 refine aH rfl rfl ?_ rfl
 simp -implicitDefEqProofs [hu,bU,hn,iy]
theorem adC (b:aB) (r:List GV):dS b r jG (.num 9):=by
 have hu:=jV CP
 unfold dS
 have hn:=ams b r
 have hu:TT.lim 103 [.s jG]=some [.i .i64 0]:=hu
 refine aH rfl rfl ?_ rfl
 simp -implicitDefEqProofs [hu,bU,hn,iy]
theorem adw (b:aB) (r:List GV):dS b r lG (.num 10):=by
 have hu:=jV Cj
 unfold dS
 have hn:=aml b r
 have hu:TT.lim 103 [.s lG]=some [.i .i64 0]:=hu
 refine aH rfl rfl ?_ rfl
 simp -implicitDefEqProofs [hu,bU,hn,iy]
theorem adB (b:aB) (r:List GV):dS b r lM (.num 11):=by
 have hu:=jV CO
 unfold dS
 have hn:=amr b r
 have hu:TT.lim 103 [.s lM]=some [.i .i64 0]:=hu
 refine aH rfl rfl ?_ rfl
 simp -implicitDefEqProofs [hu,bU,hn,iy]
theorem adF (b:aB) (r:List GV):dS b r lS (.num 12):=by
 have hu:=jV CU
 unfold dS
 have hn:=amw b r
 have hu:TT.lim 103 [.s lS]=some [.i .i64 0]:=hu
 refine aH rfl rfl ?_ rfl
 simp -implicitDefEqProofs [hu,bU,hn,iy]
theorem ady (b:aB) (r:List GV):dS b r jF (.num 13):=by
 have hu:=jV CB
 unfold dS
 have hn:=amn b r
 have hu:TT.lim 103 [.s jF]=some [.i .i64 0]:=hu
 refine aH rfl rfl ?_ rfl
 simp -implicitDefEqProofs [hu,bU,hn,iy]
theorem adO (b:aB) (r:List GV):dS b r jQ (.num 14):=by
 have hu:=jV Dc
 unfold dS
 have hn:=amB b r
 have hu:TT.lim 103 [.s jQ]=some [.i .i64 0]:=hu
 refine aH rfl rfl ?_ rfl
 simp -implicitDefEqProofs [hu,bU,hn,iy]
theorem adu (b:aB) (r:List GV):dS b r nH .allow:=by
 have hu:=jV Ci
 unfold dS
 have hu:TT.lim 103 [.s nH]=some [.i .i64 1]:=hu
 refine aH rfl rfl ?_ rfl
 cases hc:b.allowed<;>simp [hu,iy,hc]
theorem adM (b:aB) (r:List GV) (hb:eU b):dS b r nI .rem:=by
 have hu:=jV CZ
 unfold dS
 have hu:TT.lim 103 [.s nI]=some [.i .i64 2]:=hu
 have hx:=hb.remaining
 refine aH rfl rfl ?_ rfl
 by_cases hc:0≤b.remaining
 ·have w1:=jI (n:=b.remaining) (by omega) (by omega)
  have w2:=jI (n:=2 * b.remaining) (by omega) (by omega)
  simp -implicitDefEqProofs [hu,iy,zz,hc,w1,w2]
 ·have w0:=wrap64 (n:=b.remaining+1) (by omega) (by omega)
  have w00:=wrap64 (n:=0 - (b.remaining+1)) (by omega) (by omega)
  have w1:=jI (n:=0 - (b.remaining+1)) (by omega) (by omega)
  have w2:=jI (n:=0 - (b.remaining+1)+1) (by omega) (by omega)
  have w3:=jI (n:=0 - (b.remaining+1)+1 - 1) (by omega) (by omega)
  have w4:=jI (n:=2 * (0 - (b.remaining+1)+1 - 1)) (by omega) (by omega)
  have w5:=jI (n:=2 * (0 - (b.remaining+1)+1 - 1)+1) (by omega) (by omega)
  have e:2 * (0 - (b.remaining+1)+1 - 1)+1 = -2 * b.remaining - 1:=by omega
  have hz:zz b.remaining=2 * (0 - (b.remaining+1)+1 - 1)+1:=by unfold zz;rw [if_neg hc,e]
  have hv:iy b .rem=(zz b.remaining,[]):=rfl
  rw [hv,hz]
  simp only [Nat.reduceAdd] at *
  simp -implicitDefEqProofs [-Int.add_sub_cancel, -Int.zero_sub,hu,hc,w0,w00,w1,w2,w3,w4,w5]
theorem adI (b:aB) (r:List GV):dS b r kS .name:=by
 have hu:=jV zI
 unfold dS
 have hn:=adP b r
 have hu:TT.lim 103 [.s kS]=some [.i .i64 3]:=hu
 refine aH rfl rfl ?_ rfl
 simp -implicitDefEqProofs [hu,bU,hn,iy]
theorem adL (b:aB) (r:List GV):dS b r kT .region:=by
 have hu:=jV zK
 unfold dS
 have hn:=adR b r
 have hu:TT.lim 103 [.s kT]=some [.i .i64 3]:=hu
 refine aH rfl rfl ?_ rfl
 simp -implicitDefEqProofs [hu,bU,hn,iy]
theorem adJ (b:aB) (r:List GV):dS b r jP .note:=by
 have hu:=jV zJ
 unfold dS
 have hn:=adQ b r
 have hu:TT.lim 103 [.s jP]=some [.i .i64 3]:=hu
 refine aH rfl rfl ?_ rfl
 simp -implicitDefEqProofs [hu,bU,hn,iy]
theorem ani (b:aB) (r:List GV) (hf:fM b.d=true):dS b r lK .d:=by
 have hu:=jV zH
 unfold dS
 have hu:TT.lim 103 [.s lK]=some [.i .i64 4]:=hu
 have hk:=rP b.d hf
 refine aH rfl rfl ?_ rfl
 by_cases e:b.d=[]
 ·simp -implicitDefEqProofs [hu,iy,e]
 ·simp -implicitDefEqProofs [hu,iy,e,hk]
theorem anj (b:aB) (r:List GV) (hb:eU b) (hf:iC b.t):dS b r lX .t:=by
 have hu:=jV zL
 unfold dS
 have hu:TT.lim 103 [.s lX]=some [.i .i64 5]:=hu
 have hk:=alV b.t hb.t hf
 refine aH rfl rfl ?_ rfl
 by_cases e:b.t=[]
 ·simp -implicitDefEqProofs [hu,iy,e]
 ·simp -implicitDefEqProofs [hu,iy,e,hk]
theorem oL (x:Int):decide (x=0)=(decide (x=0)&&decide (([]:List UInt8)=[])):=by simp
theorem PV (x:List UInt8):decide (x=[])=(decide ((0:Int)=0)&&decide (x=[])):=by simp
theorem kY (b:aB) (r:List GV) {n:List UInt8} {c:Bool} {x:Int×List UInt8} (d1:¬ n=[100,101,115,99,114]) (d2:¬ n=[116,97,98,108,101]) (hv:TT.lim 102 [bn b r,.s n]=some [.i .u64 x.1,.s x.2]) (en:c=(decide (x.1=0)&&decide (x.2=[]))):TT.lim 101 [bn b r,.s n]=some [.b c]:=by
 rw [en]
 refine aH rfl rfl ?_ rfl
 by_cases c1:x.1=0
 ·simp -implicitDefEqProofs [d1,d2,bU,hv,c1]
 ·simp -implicitDefEqProofs [d1,d2,bU,hv,c1]
theorem amh (b:aB) (r:List GV) (hb:eU b):TT.lim 101 [bn b r,.s nI]=some [.b (dL b .rem)]:=kY b r (by decide) (by decide) (adM b r hb) (by
 rw [Bool.eq_iff_iff]
 simp only [dL,iy,zz]
 by_cases hc:0≤b.remaining
 ·simp -implicitDefEqProofs [hc]
  omega
 ·simp -implicitDefEqProofs [hc]
  omega)
theorem alZ (b:aB) (r:List GV):TT.lim 101 [bn b r,.s nH]=some [.b (dL b .allow)]:=kY b r (by decide) (by decide) (adu b r ) (by
 rw [Bool.eq_iff_iff]
 by_cases hc:b.allowed=true<;>simp [dL,iy,hc])
theorem amd (b:aB) (r:List GV):TT.lim 101 [bn b r,.s kS]=some [.b (dL b .name)]:=kY b r (by decide) (by decide) (adI b r ) (PV b.name)
theorem amg (b:aB) (r:List GV):TT.lim 101 [bn b r,.s kT]=some [.b (dL b .region)]:=kY b r (by decide) (by decide) (adL b r ) (PV b.region)
theorem ame (b:aB) (r:List GV):TT.lim 101 [bn b r,.s jP]=some [.b (dL b .note)]:=kY b r (by decide) (by decide) (adJ b r ) (PV b.note)
theorem al5 (b:aB) (r:List GV):TT.lim 101 [bn b r,.s lK]=some [.b (dL b .d)]:=by
 have e:dL b .d=decide (b.d=[]):=rfl
 rw [e]
 unfold lK
 refine aH rfl rfl ?_ rfl
 by_cases hc:b.d=[]<;>simp [hc]
theorem amj (b:aB) (r:List GV):TT.lim 101 [bn b r,.s lX]=some [.b (dL b .t)]:=by
 have e:dL b .t=decide (b.t=[]):=rfl
 rw [e]
 unfold lX
 refine aH rfl rfl ?_ rfl
 by_cases hc:b.t=[]<;>simp [hc]
theorem al9 (b:aB) (r:List GV):TT.lim 101 [bn b r,.s lQ]=some [.b (dL b (.num 0))]:=kY b r (by decide) (by decide) (adE b r ) (oL (bJ b 0))
theorem amc (b:aB) (r:List GV):TT.lim 101 [bn b r,.s lU]=some [.b (dL b (.num 1))]:=kY b r (by decide) (by decide) (adH b r ) (oL (bJ b 1))
theorem amb (b:aB) (r:List GV):TT.lim 101 [bn b r,.s lT]=some [.b (dL b (.num 2))]:=kY b r (by decide) (by decide) (adG b r ) (oL (bJ b 2))
theorem al1 (b:aB) (r:List GV):TT.lim 101 [bn b r,.s lH]=some [.b (dL b (.num 3))]:=kY b r (by decide) (by decide) (adx b r ) (oL (bJ b 3))
theorem al8 (b:aB) (r:List GV):TT.lim 101 [bn b r,.s lN]=some [.b (dL b (.num 4))]:=kY b r (by decide) (by decide) (adD b r ) (oL (bJ b 4))
theorem al3 (b:aB) (r:List GV):TT.lim 101 [bn b r,.s lI]=some [.b (dL b (.num 5))]:=kY b r (by decide) (by decide) (adz b r ) (oL (bJ b 5))
theorem amf (b:aB) (r:List GV):TT.lim 101 [bn b r,.s lV]=some [.b (dL b (.num 6))]:=kY b r (by decide) (by decide) (adK b r ) (oL (bJ b 6))
theorem al4 (b:aB) (r:List GV):TT.lim 101 [bn b r,.s lJ]=some [.b (dL b (.num 7))]:=kY b r (by decide) (by decide) (adA b r ) (oL (bJ b 7))
theorem ami (b:aB) (r:List GV):TT.lim 101 [bn b r,.s lW]=some [.b (dL b (.num 8))]:=kY b r (by decide) (by decide) (adN b r ) (oL (bJ b 8))
theorem al7 (b:aB) (r:List GV):TT.lim 101 [bn b r,.s jG]=some [.b (dL b (.num 9))]:=kY b r (by decide) (by decide) (adC b r ) (oL (bJ b 9))
theorem al0 (b:aB) (r:List GV):TT.lim 101 [bn b r,.s lG]=some [.b (dL b (.num 10))]:=kY b r (by decide) (by decide) (adw b r ) (oL (bJ b 10))
theorem al6 (b:aB) (r:List GV):TT.lim 101 [bn b r,.s lM]=some [.b (dL b (.num 11))]:=kY b r (by decide) (by decide) (adB b r ) (oL (bJ b 11))
theorem ama (b:aB) (r:List GV):TT.lim 101 [bn b r,.s lS]=some [.b (dL b (.num 12))]:=kY b r (by decide) (by decide) (adF b r ) (oL (bJ b 12))
theorem al2 (b:aB) (r:List GV):TT.lim 101 [bn b r,.s jF]=some [.b (dL b (.num 13))]:=kY b r (by decide) (by decide) (ady b r ) (oL (bJ b 13))
theorem amk (b:aB) (r:List GV):TT.lim 101 [bn b r,.s jQ]=some [.b (dL b (.num 14))]:=kY b r (by decide) (by decide) (adO b r ) (oL (bJ b 14))
theorem alY (b:aB) (r:List GV) (hb:eU b) (n:List UInt8):placeOf n≠none→TT.lim 101 [bn b r,.s n]=some [.b (dO b n)]:=by
 refine D7 (Q:=fun n=>placeOf n≠none→TT.lim 101 [bn b r,.s n]=some [.b (dO b n)]) (fun _=>by unfold dO;rw [CZ];exact amh b r hb) (fun _=>by unfold dO;rw [Ci];exact alZ b r ) (fun _=>by unfold dO;rw [zI];exact amd b r ) (fun _=>by unfold dO;rw [zK];exact amg b r ) (fun _=>by unfold dO;rw [zJ];exact ame b r ) (fun _=>by unfold dO;rw [zH];exact al5 b r ) (fun _=>by unfold dO;rw [zL];exact amj b r ) (fun _=>by unfold dO;rw [CS];exact al9 b r ) (fun _=>by unfold dO;rw [CW];exact amc b r ) (fun _=>by unfold dO;rw [CV];exact amb b r ) (fun _=>by unfold dO;rw [Cm];exact al1 b r ) (fun _=>by unfold dO;rw [CQ];exact al8 b r ) (fun _=>by unfold dO;rw [CG];exact al3 b r ) (fun _=>by unfold dO;rw [CY];exact amf b r ) (fun _=>by unfold dO;rw [CJ];exact al4 b r ) (fun _=>by unfold dO;rw [C9];exact ami b r ) (fun _=>by unfold dO;rw [CP];exact al7 b r ) (fun _=>by unfold dO;rw [Cj];exact al0 b r ) (fun _=>by unfold dO;rw [CO];exact al6 b r ) (fun _=>by unfold dO;rw [CU];exact ama b r ) (fun _=>by unfold dO;rw [CB];exact al2 b r ) (fun _=>by unfold dO;rw [Dc];exact amk b r ) (fun n e0 e1 e2 e3 e4 e5 e6 e7 e8 e9 e10 e11 e12 e13 e14 e15 e16 e17 e18 e19 e20 e21 h=>absurd (CX n e0 e1 e2 e3 e4 e5 e6 e7 e8 e9 e10 e11 e12 e13 e14 e15 e16 e17 e18 e19 e20 e21) h) n
theorem ac0 (b:aB) (r:List GV) (n:List UInt8) (a3 a4 a5:GV) (l:List dM) (hlen:l.length≤1000):∀ (m i:Nat) (is:Bool),i+m=l.length→
 TT.lim 100 [.l (l.map bM),.s n,.b is,a3,a4,a5,.i .i64 l.length,.i .i64 i,.i .i64 b.kind,.i .u64 b.id,.i .u64 b.min,.i .u64 b.max,.i .u64 b.chosen,.i .u64 b.flags,.i .u64 b.cost,.i .u64 b.priority,.i .u64 b.deadline,.i .u64 b.retry,.i .u64 b.epoch,.i .u64 b.base,.i .u64 b.digest,.i .u64 b.lag,.i .u64 b.code,.i .u64 b.want,.i .i64 b.remaining,.b b.allowed,.s b.name,.s b.region,.s b.note,.l (b.d.map ent),.l (b.t.map row),.l r]=some [.i .i64 0,.b (is || jZ (l.drop i) n)]
 | 0,i,is,hi=>by
   have h0:l.drop i=[]:=List.drop_eq_nil_of_le (by omega)
   refine au rfl rfl ?_
   have h:¬ ((i:Int) < l.length):=by omega
   simp -implicitDefEqProofs [h,h0,jZ]
 | m+1,i,is,hi=>by
   have hlt:i < l.length:=by omega
   have hcast:((i:Int)+1)=((i+1:Nat):Int):=by omega
   have ih:=fun is=>ac0 b r n a3 a4 a5 l hlen m (i+1) is (by omega)
   simp only [← hcast] at ih
   have h1:((i:Int) < l.length):=by omega
   have hw:=wrap64 (n:=(i:Int)+1) (by omega) (by omega)
   have hd:jZ (l.drop i) n=(decide (l[i].name=n) || jZ (l.drop (i+1)) n):=by rw [List.drop_eq_getElem_cons hlt];rfl
   rw [hd]
   generalize jZ (l.drop (i+1)) n=X at *
   refine au rfl rfl ?_
   cases is with
   | true=>simp [h1,hlt,hw,ih]
   | false=>simp [h1,hlt,hw,ih]
theorem acZ (b:aB) (r:List GV) (hb:eU b) (l:List dM) (hlen:l.length≤1000) (ns:List (List UInt8)) (hn:ns.length≤1000) (hns:∀n∈ns,placeOf n≠none):∀ (m i:Nat),i+m=ns.length→
 TT.lim 99 [.l (l.map bM),.l (ns.map .s),.i .i64 ns.length,.i .i64 i,.i .i64 b.kind,.i .u64 b.id,.i .u64 b.min,.i .u64 b.max,.i .u64 b.chosen,.i .u64 b.flags,.i .u64 b.cost,.i .u64 b.priority,.i .u64 b.deadline,.i .u64 b.retry,.i .u64 b.epoch,.i .u64 b.base,.i .u64 b.digest,.i .u64 b.lag,.i .u64 b.code,.i .u64 b.want,.i .i64 b.remaining,.b b.allowed,.s b.name,.s b.region,.s b.note,.l (b.d.map ent),.l (b.t.map row),.l r]=some (if (ns.drop i).all (fun n=>jZ l n || dO b n)=true then [.i .i64 1] else [.i .i64 0])
 | 0,i,hi=>by
   have h0:ns.drop i=[]:=List.drop_eq_nil_of_le (by omega)
   refine au rfl rfl ?_
   have h:¬ ((i:Int) < ns.length):=by omega
   simp -implicitDefEqProofs [h,h0]
 | m+1,i,hi=>by
   have hlt:i < ns.length:=by omega
   have ih:=acZ b r hb l hlen ns hn hns m (i+1) (by omega)
   have hcast:((i:Int)+1)=((i+1:Nat):Int):=by omega
   rw [← hcast] at ih
   have h1:((i:Int) < ns.length):=by omega
   have hw:=wrap64 (n:=(i:Int)+1) (by omega) (by omega)
   have hd:(ns.drop i).all (fun n=>jZ l n || dO b n)=((jZ l ns[i] || dO b ns[i])&&(ns.drop (i+1)).all (fun n=>jZ l n || dO b n)):=by rw [List.drop_eq_getElem_cons hlt,List.all_cons]
   rw [hd]
   have hN:=alY b r hb ns[i] (hns _ (List.getElem_mem hlt))
   have h0:TT.lim 100 [.l (l.map bM),.s ns[i],.b false,.l (ns.map .s),.i .i64 ns.length,.i .i64 i,.i .i64 l.length,.i .i64 0,.i .i64 b.kind,.i .u64 b.id,.i .u64 b.min,.i .u64 b.max,.i .u64 b.chosen,.i .u64 b.flags,.i .u64 b.cost,.i .u64 b.priority,.i .u64 b.deadline,.i .u64 b.retry,.i .u64 b.epoch,.i .u64 b.base,.i .u64 b.digest,.i .u64 b.lag,.i .u64 b.code,.i .u64 b.want,.i .i64 b.remaining,.b b.allowed,.s b.name,.s b.region,.s b.note,.l (b.d.map ent),.l (b.t.map row),.l r]=_:=ac0 b r ns[i] (.l (ns.map .s)) (.i .i64 ns.length) (.i .i64 i) l hlen l.length 0 false (by omega)
   rw [List.drop_zero,Bool.false_or] at h0
   generalize (ns.drop (i+1)).all (fun n=>jZ l n || dO b n)=X at *
   generalize jZ l ns[i]=A at *
   generalize dO b ns[i]=B at *
   refine au rfl rfl ?_
   cases A with
   | true=>simp [h1,hlt,hw,h0,ih]
   | false=>
     cases B with
     | true=>simp [h1,hlt,hw,h0,bU,hN,ih]
     | false=>simp [h1,hlt,hw,h0,bU,hN]
def sK (b:aB) (r:List GV) (s:dM):Prop:=∀ (l:List dM) (i:Nat) (out:List GV),(h:i < l.length)→l[i]=s→l.length≤1000→
    TT.lim 135 [.l (l.map bM),.i .i64 l.length,.i .i64 ((i:Int)+1),.i .i64 b.kind,.i .u64 b.id,.i .u64 b.min,.i .u64 b.max,.i .u64 b.chosen,.i .u64 b.flags,.i .u64 b.cost,.i .u64 b.priority,.i .u64 b.deadline,.i .u64 b.retry,.i .u64 b.epoch,.i .u64 b.base,.i .u64 b.digest,.i .u64 b.lag,.i .u64 b.code,.i .u64 b.want,.i .i64 b.remaining,.b b.allowed,.s b.name,.s b.region,.s b.note,.l (b.d.map ent),.l (b.t.map row),.l r]=some out→
    TT.lim 135 [.l (l.map bM),.i .i64 l.length,.i .i64 i,.i .i64 b.kind,.i .u64 b.id,.i .u64 b.min,.i .u64 b.max,.i .u64 b.chosen,.i .u64 b.flags,.i .u64 b.cost,.i .u64 b.priority,.i .u64 b.deadline,.i .u64 b.retry,.i .u64 b.epoch,.i .u64 b.base,.i .u64 b.digest,.i .u64 b.lag,.i .u64 b.code,.i .u64 b.want,.i .i64 b.remaining,.b b.allowed,.s b.name,.s b.region,.s b.note,.l (b.d.map ent),.l (b.t.map row),.l r]=some (if iH b s.name=0 then out else [.i .i64 0,.i .i64 (iH b s.name)])
theorem amJ (b:aB) (r:List GV) (s:dM) (u3:s.use≠3) (u4:s.use≠4) (u5:s.use≠5) (hm:iH b s.name=0):sK b r s:=by
 intro l i out h hs hlen ih
 have h1:((i:Int) < l.length):=by omega
 have hw:=wrap64 (n:=(i:Int)+1) (by omega) (by omega)
 rw [if_pos hm]
 refine au rfl rfl ?_
 simp -implicitDefEqProofs [h1,h,hs,hw,u3,u4,u5,ih]
theorem amH (b:aB) (r:List GV) (hb:eU b) (s:dM) (hu:s.use=3) (hn:s.name=kS):sK b r s:=by
 intro l i out h hs hlen ih
 have h1:((i:Int) < l.length):=by omega
 have hw:=wrap64 (n:=(i:Int)+1) (by omega) (by omega)
 have hm:iH b s.name=iw b.name 0 256:=by rw [hn];unfold iH;rw [zI];rfl
 have hr:=adP b r
 have hc:=Ej b.name 0 256 hb.name
 rw [hm]
 generalize iw b.name 0 256=c at *
 rw [← hn] at hr
 by_cases e:c=0
 ·subst e
  rw [if_pos rfl]
  refine au rfl rfl ?_
  simp -implicitDefEqProofs [h1,h,hs,hw,hu,bU,hr,hc,ih]
 ·rw [if_neg e]
  refine au rfl rfl ?_
  simp -implicitDefEqProofs [h1,h,hs,hw,hu,bU,hr,hc,e]
theorem amK (b:aB) (r:List GV) (hb:eU b) (s:dM) (hu:s.use=3) (hn:s.name=kT):sK b r s:=by
 intro l i out h hs hlen ih
 have h1:((i:Int) < l.length):=by omega
 have hw:=wrap64 (n:=(i:Int)+1) (by omega) (by omega)
 have hm:iH b s.name=iw b.region 0 256:=by rw [hn];unfold iH;rw [zK];rfl
 have hr:=adR b r
 have hc:=Ej b.region 0 256 hb.region
 rw [hm]
 generalize iw b.region 0 256=c at *
 rw [← hn] at hr
 by_cases e:c=0
 ·subst e
  rw [if_pos rfl]
  refine au rfl rfl ?_
  simp -implicitDefEqProofs [h1,h,hs,hw,hu,bU,hr,hc,ih]
 ·rw [if_neg e]
  refine au rfl rfl ?_
  simp -implicitDefEqProofs [h1,h,hs,hw,hu,bU,hr,hc,e]
theorem amI (b:aB) (r:List GV) (hb:eU b) (s:dM) (hu:s.use=3) (hn:s.name=jP):sK b r s:=by
 intro l i out h hs hlen ih
 have h1:((i:Int) < l.length):=by omega
 have hw:=wrap64 (n:=(i:Int)+1) (by omega) (by omega)
 have hm:iH b s.name=iw b.note 0 256:=by rw [hn];unfold iH;rw [zJ];rfl
 have hr:=adQ b r
 have hc:=Ej b.note 0 256 hb.note
 rw [hm]
 generalize iw b.note 0 256=c at *
 rw [← hn] at hr
 by_cases e:c=0
 ·subst e
  rw [if_pos rfl]
  refine au rfl rfl ?_
  simp -implicitDefEqProofs [h1,h,hs,hw,hu,bU,hr,hc,ih]
 ·rw [if_neg e]
  refine au rfl rfl ?_
  simp -implicitDefEqProofs [h1,h,hs,hw,hu,bU,hr,hc,e]
theorem amG (b:aB) (r:List GV) (hb:eU b) (s:dM) (hu:s.use=4) (hn:s.name=lK):sK b r s:=by
 intro l i out h hs hlen ih
 have h1:((i:Int) < l.length):=by omega
 have hw:=wrap64 (n:=(i:Int)+1) (by omega) (by omega)
 have hm:iH b s.name=if b.d=[] then 0 else ng b.d:=by rw [hn];unfold iH;rw [zH];rfl
 have hc:=WJ b.d hb.d
 rw [hm]
 by_cases hd:b.d=[]
 ·rw [if_pos (by rw [if_pos hd])]
  have hd':(b.d=[])=True:=eq_true hd
  have hd2:(0 < b.d.length)=False:=eq_false (by rw [hd];simp)
  refine au rfl rfl ?_
  simp -implicitDefEqProofs [h1,h,hs,hw,hu,hd2,ih]
 ·rw [if_neg hd]
  have hd0:0 < b.d.length:=List.length_pos_iff.2 hd
  generalize ng b.d=c at *
  by_cases e:c=0
  ·subst e
   rw [if_pos rfl]
   refine au rfl rfl ?_
   simp -implicitDefEqProofs [h1,h,hs,hw,hu,hd,hc,ih]
  ·rw [if_neg e]
   refine au rfl rfl ?_
   simp -implicitDefEqProofs [h1,h,hs,hw,hu,hd,hc,e]
theorem amL (b:aB) (r:List GV) (hb:eU b) (hf:iC b.t) (s:dM) (hu:s.use=5) (hn:s.name=lX):sK b r s:=by
 intro l i out h hs hlen ih
 have h1:((i:Int) < l.length):=by omega
 have hw:=wrap64 (n:=(i:Int)+1) (by omega) (by omega)
 have hm:iH b s.name=jK b.t:=by rw [hn];unfold iH;rw [zL];rfl
 have hc:=Hq b.t hb.t hf
 rw [hm]
 generalize jK b.t=c at *
 by_cases e:c=0
 ·subst e
  rw [if_pos rfl]
  refine au rfl rfl ?_
  simp -implicitDefEqProofs [h1,h,hs,hw,hu,hc,ih]
 ·rw [if_neg e]
  refine au rfl rfl ?_
  simp -implicitDefEqProofs [h1,h,hs,hw,hu,hc,e]
theorem nN (b:aB) (r:List GV) (s:dM) {n:List UInt8} {p:Pl} (h:placeOf n=some p) (e:iU p < 3) (m:PG b p=0) (_:placeOf n≠none) (hn:s.name=n) (hu:s.use=oq n):sK b r s:=by
 have e2:s.use < 3:=by rw [hu];unfold oq;rw [h];exact e
 exact amJ b r s (by omega) (by omega) (by omega) (by rw [hn];unfold iH;rw [h];exact m)
theorem amF (b:aB) (r:List GV) (hb:eU b) (hf:iC b.t) (s:dM) (hp:placeOf s.name≠none) (hu:s.use=oq s.name):sK b r s:=by
 have key:∀n,placeOf n≠none→s.name=n→s.use=oq n→sK b r s:=by
  intro n
  refine D7 (Q:=fun n=>placeOf n≠none→s.name=n→s.use=oq n→sK b r s) (nN b r s CZ (by decide) rfl) (nN b r s Ci (by decide) rfl) (fun _ hn hu=>amH b r hb s (hu.trans (by unfold oq;rw [zI];rfl)) hn) (fun _ hn hu=>amK b r hb s (hu.trans (by unfold oq;rw [zK];rfl)) hn) (fun _ hn hu=>amI b r hb s (hu.trans (by unfold oq;rw [zJ];rfl)) hn) (fun _ hn hu=>amG b r hb s (hu.trans (by unfold oq;rw [zH];rfl)) hn) (fun _ hn hu=>amL b r hb hf s (hu.trans (by unfold oq;rw [zL];rfl)) hn) (nN b r s CS (by decide) rfl) (nN b r s CW (by decide) rfl) (nN b r s CV (by decide) rfl) (nN b r s Cm (by decide) rfl) (nN b r s CQ (by decide) rfl) (nN b r s CG (by decide) rfl) (nN b r s CY (by decide) rfl) (nN b r s CJ (by decide) rfl) (nN b r s C9 (by decide) rfl) (nN b r s CP (by decide) rfl) (nN b r s Cj (by decide) rfl) (nN b r s CO (by decide) rfl) (nN b r s CU (by decide) rfl) (nN b r s CB (by decide) rfl) (nN b r s Dc (by decide) rfl) (fun n e0 e1 e2 e3 e4 e5 e6 e7 e8 e9 e10 e11 e12 e13 e14 e15 e16 e17 e18 e19 e20 e21 h=>absurd (CX n e0 e1 e2 e3 e4 e5 e6 e7 e8 e9 e10 e11 e12 e13 e14 e15 e16 e17 e18 e19 e20 e21) h) n
 exact key _ hp rfl hu
theorem ac1 (b:aB) (r:List GV) (hb:eU b) (hf:iC b.t) (l:List dM) (hlen:l.length≤1000) (hns:∀s∈l,placeOf s.name≠none∧s.use=oq s.name):∀ (m i:Nat),i+m=l.length→
 TT.lim 135 [.l (l.map bM),.i .i64 l.length,.i .i64 i,.i .i64 b.kind,.i .u64 b.id,.i .u64 b.min,.i .u64 b.max,.i .u64 b.chosen,.i .u64 b.flags,.i .u64 b.cost,.i .u64 b.priority,.i .u64 b.deadline,.i .u64 b.retry,.i .u64 b.epoch,.i .u64 b.base,.i .u64 b.digest,.i .u64 b.lag,.i .u64 b.code,.i .u64 b.want,.i .i64 b.remaining,.b b.allowed,.s b.name,.s b.region,.s b.note,.l (b.d.map ent),.l (b.t.map row),.l r]=some (if iI b (l.drop i)=0 then [.i .i64 1] else [.i .i64 0,.i .i64 (iI b (l.drop i))])
 | 0,i,hi=>by
   have h0:l.drop i=[]:=List.drop_eq_nil_of_le (by omega)
   refine au rfl rfl ?_
   have h:¬ ((i:Int) < l.length):=by omega
   simp -implicitDefEqProofs [h,h0,iI]
 | m+1,i,hi=>by
   have hlt:i < l.length:=by omega
   have ih:=ac1 b r hb hf l hlen hns m (i+1) (by omega)
   have hcast:((i:Int)+1)=((i+1:Nat):Int):=by omega
   rw [← hcast] at ih
   have hq:=hns _ (List.getElem_mem hlt)
   have:=amF b r hb hf l[i] hq.1 hq.2 l i _ hlt rfl hlen ih
   rw [this,List.drop_eq_getElem_cons hlt]
   by_cases hc:iH b l[i].name=0
   ·have hm:iI b (l[i]::l.drop (i+1))=iI b (l.drop (i+1)):=by simp only [iI,hc,if_true]
    rw [if_pos hc,hm]
   ·have hm:iI b (l[i]::l.drop (i+1))=iH b l[i].name:=by simp only [iI,hc,if_false]
    rw [if_neg hc,hm,if_neg hc]
theorem ac3 (l:List dM) (hlen:l.length≤1000) (a1 a2 a3:GV) (t:Int) (a7 a8 a9 a10:GV):∀ (m i:Nat),i+m=l.length→
 TT.lim 139 [.l (l.map bM),a1,a2,a3,.i .i64 l.length,.i .i64 i,.i .u64 t,a7,a8,a9,a10]=some (if hasTag (l.drop i) t=true then [.i .i64 0] else [.i .i64 1])
 | 0,i,hi=>by
   have h0:l.drop i=[]:=List.drop_eq_nil_of_le (by omega)
   refine au rfl rfl ?_
   have h:¬ ((i:Int) < l.length):=by omega
   simp -implicitDefEqProofs [h,h0,hasTag]
 | m+1,i,hi=>by
   have hlt:i < l.length:=by omega
   have ih:=ac3 l hlen a1 a2 a3 t a7 a8 a9 a10 m (i+1) (by omega)
   have hcast:((i:Int)+1)=((i+1:Nat):Int):=by omega
   rw [← hcast] at ih
   have h1:((i:Int) < l.length):=by omega
   have hw:=wrap64 (n:=(i:Int)+1) (by omega) (by omega)
   have hd:hasTag (l.drop i) t=(decide (t=l[i].tag) || hasTag (l.drop (i+1)) t):=by rw [List.drop_eq_getElem_cons hlt];rfl
   rw [hd]
   generalize hasTag (l.drop (i+1)) t=X at *
   refine au rfl rfl ?_
   by_cases hc:t=l[i].tag
   ·simp -implicitDefEqProofs [h1,hlt,hc]
   ·have hc':¬ l[i].tag=t:=fun e=>hc e.symm
    simp -implicitDefEqProofs [h1,hlt,hc,hc',hw,ih]
theorem ac2 (l:List dM) (hlen:l.length≤1000) (fl:List bW) (hfl:fl.length≤1000000):∀ (m i:Nat),i+m=fl.length→
 TT.lim 138 [.l (l.map bM),.l (aT fl),.i .i64 fl.length,.i .i64 i]=some (if (fl.drop i).any (fun f=>hasTag l f.tag)=true then [.i .i64 0] else [.i .i64 1])
 | 0,i,hi=>by
   have h0:fl.drop i=[]:=List.drop_eq_nil_of_le (by omega)
   refine au rfl rfl ?_
   have h:¬ ((i:Int) < fl.length):=by omega
   simp -implicitDefEqProofs [h,h0]
 | m+1,i,hi=>by
   have hlt:i < fl.length:=by omega
   have ih:=ac2 l hlen fl hfl m (i+1) (by omega)
   have hcast:((i:Int)+1)=((i+1:Nat):Int):=by omega
   rw [← hcast] at ih
   have h1:((i:Int) < fl.length):=by omega
   have hw:=wrap64 (n:=(i:Int)+1) (by omega) (by omega)
   have hd:(fl.drop i).any (fun f=>hasTag l f.tag)=(hasTag l fl[i].tag || (fl.drop (i+1)).any (fun f=>hasTag l f.tag)):=by rw [List.drop_eq_getElem_cons hlt,List.any_cons]
   rw [hd]
   have hget:(aT fl)[i]? = some (oH fl[i]):=by rw [yT,List.getElem?_map,List.getElem?_eq_getElem hlt];rfl
   clear hd
   obtain ⟨t,y,n,s,k,hfi⟩:∃t y n s k,fl[i]=bW.mk t y n s k:=by
    cases fl[i] with
    | mk t y n s k=>exact ⟨_,_,_,_,_,rfl⟩
   rw [hfi] at hget ⊢
   rw [show (bW.mk t y n s k).tag=t from rfl]
   have h3:TT.lim 139 [.l (l.map bM),.l (aT fl),.i .i64 fl.length,.i .i64 i,.i .i64 l.length,.i .i64 0,.i .u64 t,.i .i64 y,.i .u64 n,.s s,.l (aT k)]=_:=ac3 l hlen _ _ _ t _ _ _ _ l.length 0 (by omega)
   rw [List.drop_zero] at h3
   refine au rfl rfl ?_
   by_cases hc:hasTag l t=true
   ·rw [if_pos hc] at h3
    simp -implicitDefEqProofs [-List.any_eq_true,h1,hget,h3,hc]
   ·rw [if_neg hc] at h3
    have hc:hasTag l t=false:=by simpa using hc
    simp -implicitDefEqProofs [-List.any_eq_true,h1,hget,h3,hw,ih,hc]
theorem ajt (k v:Int):∀s∈gy k v,placeOf s.name≠none∧s.use=oq s.name:=by
 have key:∀s∈jg k,placeOf s.name≠none∧s.use=oq s.name:=by
  unfold jg
  repeat' split
  all_goals first | (unfold sp1;decide) | (unfold sp2;decide) | (unfold uq;decide) | (unfold uw;decide) | (unfold uy;decide) | (unfold uz;decide) | (unfold uD;decide) | (unfold uF;decide) | (intro s hs;cases hs)
 intro s hs
 exact key s (List.mem_filter.1 hs).1
set_option maxHeartbeats 4000000 in
theorem alJ (b:aB) (fl:List bW) (v:Int) (hb:eU b) (hf:iC b.t) (hok:fU fl) (hlen:fl.length≤1000000):TT.lim 94 [bn b (aT fl),.i .i64 v]=some [.i .i64 (fQ b fl v)]:=by
 refine aH rfl rfl ?_ rfl
 unfold fQ
 by_cases v1:v < 1
 ·simp -implicitDefEqProofs [v1]
 by_cases v3:3 < v
 ·simp -implicitDefEqProofs [v1,v3]
 rw [if_neg v1,if_neg v3]
 have hkn:=alU b.kind v (by omega)
 have hpl:=ajt b.kind v
 have hl8:=aby b.kind v
 generalize gy b.kind v=sp at *
 by_cases hsp:sp=[]
 ·rw [if_pos hsp]
  rw [hsp] at hkn
  simp -implicitDefEqProofs [v1,v3,hkn]
 rw [if_neg hsp]
 have auA:¬ sp.length=0:=fun e=>hsp (List.length_eq_zero_iff.1 e)
 have hnm:=adh
 have h1:=acZ b (aT fl) hb sp (by omega) dN (by decide) acB dN.length 0 (by omega)
 have h2:=ac1 b (aT fl) hb hf sp (by omega) hpl sp.length 0 (by omega)
 have h3:=ac2 sp (by omega) fl hlen fl.length 0 (by omega)
 have h4:TT.lim 136 [.l (aT fl),.i .i64 0]=some [.i .i64 (gI 0 0 fl)]:=adb (uG fl+1) fl (by omega) hok hlen 0 (by omega)
 rw [List.drop_zero] at h1 h2 h3
 have hfl:=rD fl
 rw [← hfl] at h3
 have h1':TT.lim 99 [.l (sp.map bM),.l (dN.map .s),.i .i64 dN.length,.i .i64 0,.i .i64 b.kind,.i .u64 b.id,.i .u64 b.min,.i .u64 b.max,.i .u64 b.chosen,.i .u64 b.flags,.i .u64 b.cost,.i .u64 b.priority,.i .u64 b.deadline,.i .u64 b.retry,.i .u64 b.epoch,.i .u64 b.base,.i .u64 b.digest,.i .u64 b.lag,.i .u64 b.code,.i .u64 b.want,.i .i64 b.remaining,.b b.allowed,.s b.name,.s b.region,.s b.note,.l (b.d.map ent),.l (b.t.map row),.l (aT fl)]=_:=h1
 clear h1
 have h2':TT.lim 135 [.l (sp.map bM),.i .i64 sp.length,.i .i64 0,.i .i64 b.kind,.i .u64 b.id,.i .u64 b.min,.i .u64 b.max,.i .u64 b.chosen,.i .u64 b.flags,.i .u64 b.cost,.i .u64 b.priority,.i .u64 b.deadline,.i .u64 b.retry,.i .u64 b.epoch,.i .u64 b.base,.i .u64 b.digest,.i .u64 b.lag,.i .u64 b.code,.i .u64 b.want,.i .i64 b.remaining,.b b.allowed,.s b.name,.s b.region,.s b.note,.l (b.d.map ent),.l (b.t.map row),.l (aT fl)]=_:=h2
 clear h2
 have h3':TT.lim 138 [.l (sp.map bM),.l (aT fl),.i .i64 (aT fl).length,.i .i64 0]=_:=h3
 clear h3
 have hr:zQ sp fl=if gI 0 0 fl≠0 then gI 0 0 fl else if fl.any (fun f=>hasTag sp f.tag)=true then 14 else 0:=rfl
 generalize (dN.all fun n=>jZ sp n || dO b n)=A at *
 generalize iI b sp=M at *
 generalize gI 0 0 fl=F at *
 generalize (fl.any fun f=>hasTag sp f.tag)=W at *
 generalize zQ sp fl=R at *
 generalize dN=NL at *
 cases A with
 | false=>
   simp only [Bool.false_eq_true,if_false] at h1'
   simp -implicitDefEqProofs [v1,v3,hkn,hsp,hnm,h1']
 | true=>
 simp only [if_true] at h1'
 by_cases hM:M=0
 rotate_left
 ·rw [if_neg hM] at h2'
  simp -implicitDefEqProofs [v1,v3,hkn,hsp,hnm,h1',h2',hM]
 rw [if_pos hM] at h2'
 rw [if_neg (by simp),if_neg (by simp [hM])]
 clear hM
 have z1:(b.min < 1)=(b.min=0):=propext ⟨fun h=>by have:=hb.min;omega,fun h=>by omega⟩
 have z2:(b.chosen < 1)=(b.chosen=0):=propext ⟨fun h=>by have:=hb.chosen;omega,fun h=>by omega⟩
 have z3:(b.epoch < 1)=(b.epoch=0):=propext ⟨fun h=>by have:=hb.epoch;omega,fun h=>by omega⟩
 have z4:(b.base < 1)=(b.base=0):=propext ⟨fun h=>by have:=hb.base;omega,fun h=>by omega⟩
 unfold yJ
 simp only [z1,z2,z3,z4]
 by_cases e1:b.kind=1
 ·have e1:=eq_true e1
  by_cases c1:b.min=0
  ·have c1:=eq_true c1
   simp -implicitDefEqProofs [v1,v3,hkn,hsp,hnm,h1',h2',e1,c1]
  by_cases c2:b.max < b.min
  ·simp -implicitDefEqProofs [v1,v3,hkn,hsp,hnm,h1',h2',e1,c1,c2]
  by_cases c3:255 < b.max
  ·simp -implicitDefEqProofs [v1,v3,hkn,hsp,hnm,h1',h2',e1,c1,c2,c3]
  simp only [e1,c1,c2,c3,if_true,if_false,ne_eq,not_true_eq_false]
  rw [hr]
  by_cases hF:F=0
  ·subst hF
   cases W with
   | true=>simp only [if_true] at h3';simp [v1,v3,hkn,hsp,hnm,h1',h2',e1,c1,c2,c3,h4,h3']
   | false=>simp only [Bool.false_eq_true,if_false] at h3';simp [v1,v3,hkn,hsp,hnm,h1',h2',e1,c1,c2,c3,h4,h3']
  ·simp -implicitDefEqProofs [v1,v3,hkn,hsp,hnm,h1',h2',e1,c1,c2,c3,h4,hF]
 by_cases e2:b.kind=2
 ·have e2:=eq_true e2
  by_cases c1:b.chosen=0
  ·have c1:=eq_true c1
   simp -implicitDefEqProofs [v1,v3,hkn,hsp,hnm,h1',h2',e1,e2,c1]
  by_cases c2:255 < b.chosen
  ·simp -implicitDefEqProofs [v1,v3,hkn,hsp,hnm,h1',h2',e1,e2,c1,c2]
  simp only [e1,e2,c1,c2,if_true,if_false,ne_eq,not_true_eq_false]
  rw [hr]
  by_cases hF:F=0
  ·subst hF
   cases W with
   | true=>simp only [if_true] at h3';simp [v1,v3,hkn,hsp,hnm,h1',h2',e1,e2,c1,c2,h4,h3']
   | false=>simp only [Bool.false_eq_true,if_false] at h3';simp [v1,v3,hkn,hsp,hnm,h1',h2',e1,e2,c1,c2,h4,h3']
  ·simp -implicitDefEqProofs [v1,v3,hkn,hsp,hnm,h1',h2',e1,e2,c1,c2,h4,hF]
 by_cases e3:b.kind=3
 ·have n5:(b.kind=5)=False:=eq_false (by omega)
  have n6:(b.kind=6)=False:=eq_false (by omega)
  have e3:=eq_true e3
  by_cases c1:b.d=[]
  ·have c1:=eq_true c1
   simp -implicitDefEqProofs [v1,v3,hkn,hsp,hnm,h1',h2',e1,e2,e3,n5,n6,c1]
  simp only [e1,e2,e3,c1,if_true,if_false,ne_eq,not_true_eq_false]
  rw [hr]
  by_cases hF:F=0
  ·subst hF
   cases W with
   | true=>simp only [if_true] at h3';simp [v1,v3,hkn,hsp,hnm,h1',h2',e1,e2,e3,n5,n6,c1,h4,h3']
   | false=>simp only [Bool.false_eq_true,if_false] at h3';simp [v1,v3,hkn,hsp,hnm,h1',h2',e1,e2,e3,n5,n6,c1,h4,h3']
  ·simp -implicitDefEqProofs [v1,v3,hkn,hsp,hnm,h1',h2',e1,e2,e3,n5,n6,c1,h4,hF]
 by_cases e5:b.kind=5
 ·have e5:=eq_true e5
  by_cases c1:b.epoch=0
  ·have c1:=eq_true c1
   simp -implicitDefEqProofs [v1,v3,hkn,hsp,hnm,h1',h2',e1,e2,e3,e5,c1]
  simp only [e1,e2,e3,e5,c1,if_true,if_false,ne_eq,not_true_eq_false]
  rw [hr]
  by_cases hF:F=0
  ·subst hF
   cases W with
   | true=>simp only [if_true] at h3';simp [v1,v3,hkn,hsp,hnm,h1',h2',e1,e2,e3,e5,c1,h4,h3']
   | false=>simp only [Bool.false_eq_true,if_false] at h3';simp [v1,v3,hkn,hsp,hnm,h1',h2',e1,e2,e3,e5,c1,h4,h3']
  ·simp -implicitDefEqProofs [v1,v3,hkn,hsp,hnm,h1',h2',e1,e2,e3,e5,c1,h4,hF]
 by_cases e6:b.kind=6
 ·have e6:=eq_true e6
  by_cases c1:b.base=0
  ·have c1:=eq_true c1
   simp -implicitDefEqProofs [v1,v3,hkn,hsp,hnm,h1',h2',e1,e2,e3,e5,e6,c1]
  by_cases c2:b.epoch≤b.base
  ·simp -implicitDefEqProofs [v1,v3,hkn,hsp,hnm,h1',h2',e1,e2,e3,e5,e6,c1,c2]
  simp only [e1,e2,e3,e5,e6,c1,c2,if_true,if_false,ne_eq,not_true_eq_false]
  rw [hr]
  by_cases hF:F=0
  ·subst hF
   cases W with
   | true=>simp only [if_true] at h3';simp [v1,v3,hkn,hsp,hnm,h1',h2',e1,e2,e3,e5,e6,c1,c2,h4,h3']
   | false=>simp only [Bool.false_eq_true,if_false] at h3';simp [v1,v3,hkn,hsp,hnm,h1',h2',e1,e2,e3,e5,e6,c1,c2,h4,h3']
  ·simp -implicitDefEqProofs [v1,v3,hkn,hsp,hnm,h1',h2',e1,e2,e3,e5,e6,c1,c2,h4,hF]
 simp only [e1,e2,e3,e5,e6,if_false,ne_eq,not_true_eq_false]
 rw [hr]
 by_cases hF:F=0
 ·subst hF
  cases W with
  | true=>simp only [if_true] at h3';simp [v1,v3,hkn,hsp,hnm,h1',h2',e1,e2,e3,e5,e6,h4,h3']
  | false=>simp only [Bool.false_eq_true,if_false] at h3';simp [v1,v3,hkn,hsp,hnm,h1',h2',e1,e2,e3,e5,e6,h4,h3']
 ·simp -implicitDefEqProofs [v1,v3,hkn,hsp,hnm,h1',h2',e1,e2,e3,e5,e6,h4,hF]
theorem acE:∀ (N:Nat) (l:List bW),uG l < N→fU l→l.length≤1000000→TT.lim 91 [.l (aT l)]=some [.l (aT l)]
 | 0,l,h,_,_=>by omega
 | N+1,l,hN,hok,hlen=>by
   have loop:∀m i,i+m=l.length→TT.lim 92 [.l ((aT l).take i),.l (aT l),.i .i64 l.length,.i .i64 i]=some [.i .i64 0,.l (aT l)]:=by
    intro m
    induction m with
    | zero=>
      intro i hi
      have h0:(aT l).take i=aT l:=List.take_of_length_le (by rw [rD];omega)
      rw [h0]
      refine au rfl rfl ?_
      have h:¬ ((i:Int) < l.length):=by omega
      simp -implicitDefEqProofs [h]
    | succ m ih=>
      intro i hi
      have hlt:i < l.length:=by omega
      have hf:=Ij hok l[i] (List.getElem_mem hlt)
      have hs:=LD (List.getElem_mem hlt)
      have hget:(aT l)[i]? = some (oH l[i]):=by rw [yT,List.getElem?_map,List.getElem?_eq_getElem hlt];rfl
      have hcast:((i:Int)+1)=((i+1:Nat):Int):=by omega
      have ih':=ih (i+1) (by omega)
      have htk:(aT l).take (i+1)=(aT l).take i++[oH l[i]]:=by
       rw [List.take_add_one,hget];rfl
      rw [htk,← hcast] at ih'
      clear htk
      obtain ⟨t,y,n,s,k,hfi⟩:∃t y n s k,l[i]=bW.mk t y n s k:=by
       cases l[i] with
       | mk t y n s k=>exact ⟨_,_,_,_,_,rfl⟩
      rw [hfi] at hget hf hs ih'
      simp only [Bf] at hf
      simp only [FY] at hs
      have hwr:=wrap64 (n:=(i:Int)+1) (by omega) (by omega)
      have h:((i:Int) < l.length):=by omega
      have hk:=acE N k (by omega) hf.2 hf.1.2.2.2.2.2.2.2
      have hfold:GV.g [.i .u64 t,.i .i64 y,.i .u64 n,.s s,.l (aT k)]=oH (.mk t y n s k):=by simp only [oH]
      have hel:(oH (.mk t y n s k)).fD 5=true:=by simp only [oH];rfl
      have hl0:((aT l).take i).length=i:=by rw [List.length_take,rD];omega
      have hb1:2 * (((aT l).take i).length+1) * 64≤281474976710656:=by rw [hl0];omega
      have hb2:((aT l).take i).length≤281474976710655:=by rw [hl0];omega
      generalize (aT l).take i=acc at *
      refine au rfl rfl ?_
      simp -implicitDefEqProofs [h,hget,hk,hfold,hel,hb1,hb2,hwr,ih']
   have h0:=loop l.length 0 (by omega)
   have hl2:=rD l
   have h0':TT.lim 92 [.l [],.l (aT l),.i .i64 (aT l).length,.i .i64 0]=some [.i .i64 0,.l (aT l)]:=by rw [hl2];exact h0
   refine aH rfl rfl ?_ rfl
   simp -implicitDefEqProofs [h0']
theorem Oo:∀ (n:Nat) (l:List One) (deep:Int),(∀x∈l,wL x∧x.text.length≤300)→l.length≤1000000→fU (eH n l deep).1
 | 0,l,deep,_,_=>by simp only [eH,fU]
 | n+1,[],deep,_,_=>by simp only [eH,fU]
 | n+1,x::l,deep,h,hl=>by
   have hx:=h x (by simp)
   have hl':∀y∈l,wL y∧y.text.length≤300:=fun y hy=>h y (by simp [hy])
   have hx1:=hx.1
   unfold wL at hx1
   simp only [List.length_cons] at hl
   simp only [eH]
   split
   ·have hp:fU (if x.deep=255 then (([]:List bW),l) else eH n l (x.deep+1)).1∧(if x.deep=255 then (([]:List bW),l) else eH n l (x.deep+1)).1.length≤1000000∧∃k,(if x.deep=255 then (([]:List bW),l) else eH n l (x.deep+1)).2=l.drop k:=by
     split
     ·exact ⟨by simp only [fU],by simp,0,rfl⟩
     ·have:=Bh n l (x.deep+1)
      exact ⟨Oo n l _ hl' (by omega),by omega,this.2⟩
    obtain ⟨p1,p2,k,p3⟩:=hp
    simp only [fU,Bf]
    refine ⟨⟨⟨hx1.2.2.2.2.1,hx1.2.2.2.2.2.1,hx1.2.2.1,hx1.2.2.2.1,hx1.2.2.2.2.2.2.1,hx1.2.2.2.2.2.2.2.1,hx.2,p2⟩,p1⟩, ?_⟩
    rw [p3]
    exact Oo n (l.drop k) deep (fun y hy=>hl' y (List.mem_of_mem_drop hy)) (by rw [List.length_drop];omega)
   ·simp only [fU]
theorem EZ (l:List One) (hl:Ones l) (hf:vw l=true):fU (eY l)∧(eY l).length≤1000000:=by
 unfold vw at hf
 rw [Bool.and_eq_true,decide_eq_true_iff,List.all_eq_true] at hf
 refine ⟨Oo _ l 0 (fun x hx=>⟨hl.2 x hx,by simpa using hf.1 x hx⟩) (by omega), ?_⟩
 have:=Bh (l.length+1) l 0
 unfold eY
 omega
theorem tY (b:aB) (fl:List bW) (hd:b.d.length≤40) (ht:fB b.t) (hok:fU fl) (hlen:fl.length≤1000000):TT.lim 86 [bn b (aT fl)]=some [bn b (aT fl)]:=by
 have h1:=aeo b.d hd
 have h2:=aen b.t ht
 have h3:=acE (uG fl+1) fl (by omega) hok hlen
 refine aH rfl rfl ?_ rfl
 simp -implicitDefEqProofs [h1,h2,h3,bU]
abbrev It:=Int×Int×List UInt8
def ltI (a b:It):Bool:=if a.1=b.1 then decide (a.2.1 < b.2.1) else decide (a.1 < b.1)
def leI (a b:It):Prop:=ltI b a=false
def dI:It:=(0,0,[])
abbrev at_ (h:List It) (i:Nat):It:=h.getD i dI
def par (k:Nat):Nat:=(k - 1) / 2
def Heap (h:List It) (n:Nat):Prop:=∀k,0 < k→k < n→leI (at_ h (par k)) (at_ h k)
structure SB (h L:List It) (n:Int):Prop where
 heap:Heap h h.length
 perm:L.Perm h
 srt:L.Pairwise (fun x y=>ltI x y=true)
 low:∀x∈L,x.2.1 < n
theorem SB.len {h L:List It} {n:Int} (s:SB h L n):h.length=L.length:=s.perm.length_eq.symm
end J
end Go.Proofs.YtlifdeocdbjalaaGreatDoor
