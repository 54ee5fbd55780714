/- What the trees compute: plain laws. -/
import Derived.Test.YthgifdbaegpbpaaGreatDoorKQe1
namespace Go.Proofs.YthgifdbaegpbpaaGreatDoor
open Go Go.aP
set_option linter.unusedSimpArgs false
set_option linter.unusedVariables false
set_option maxRecDepth 100000
namespace Q
def oV:List UInt8→List Row→List UInt8
 | _,[]=>[]
 | a,r::t=>rM a (dK r.1)++(aQ r.2.toNat++oV (dK r.1) t)
/-- A table, as it is written. -/
def tu (t:List Row):List UInt8:=aQ t.length++oV [] t
def wY (t:List Row):List UInt8×Int:=if nC t≠0 then ([],nC t) else (tu t,0)
theorem Si:∀ (t:List Row) (a:List UInt8),(∀r∈t,gK r.1=true∧0≤r.2∧r.2 < 18446744073709551616)→(oV a t).length≤40000 * t.length
 | [],a,_=>by simp [oV]
 | r::t,a,h=>by
   obtain ⟨h1,h2,h3⟩:=h r (by simp)
   have hk:=Ah h1
   have ho:=Jz a (dK r.1) (by omega)
   have hv:=fM (n:=r.2.toNat) (by omega)
   have ih:=Si t (dK r.1) fun q hq=>h q (by simp [hq])
   simp only [oV,List.length_append,List.length_cons]
   omega
theorem ajF (L:List GV) (n i:Int) (D:List dW) (N:Int) (a k O V acc:List UInt8) (R:List GV) (j:Nat) (hi:i=j) (h:i < n) (hg:L[j]? = some (row (D,N))) (hw:IntKind.i64.wrap (i+1)=i+1) (k1:TT.lim 7 [.l (D.map ent)]=some [.s k]) (k2:TT.lim 86 [.s a,.s k]=some [.s O])
 (k3:TT.lim 8 [.i .u64 N]=some [.s V]) (hb1:2 * (acc.length+O.length)≤281474976710656∧acc.length+O.length≤281474976710656) (hb2:2 * (acc.length+(O.length+V.length))≤281474976710656∧acc.length+(O.length+V.length)≤281474976710656)
 (ih:TT.lim 85 [.s k,.l L,.i .i64 n,.i .i64 (i+1),.l (dJ acc++(dJ O++dJ V))]=some R) :
 TT.lim 85 [.s a,.l L,.i .i64 n,.i .i64 i,.l (dJ acc)]=some R:=by
 subst hi
 have ok1:=Eo O
 have ok2:=Eo V
 refine aA rfl rfl ?_
 simp -implicitDefEqProofs [-List.all_eq_true,h,hg,hw,k1,k2,k3,ok1,ok2,hb1,hb2,Nat.add_assoc,ih]
theorem abE (l:List Row) (hl:l.length≤1000) (hf:∀r∈l,gK r.1=true∧0≤r.2∧r.2 < 18446744073709551616):∀ (m i:Nat) (a acc:List UInt8),i+m=l.length→a.length≤100000→acc.length≤10+40000 * i→
 TT.lim 85 [.s a,.l (l.map row),.i .i64 l.length,.i .i64 i,.l (dJ acc)]=some [.i .i64 0,.l (dJ (acc++oV a (l.drop i)))]
 | 0,i,a,acc,hi,ha,hacc=>by
   have hd:l.drop i=[]:=List.drop_eq_nil_of_le (by omega)
   have h:¬ ((i:Int) < l.length):=by omega
   rw [hd]
   refine aA rfl rfl ?_
   simp -implicitDefEqProofs [h,oV]
 | m+1,i,a,acc,hi,ha,hacc=>by
   have hlt:i < l.length:=by omega
   obtain ⟨h1,h2,h3⟩:=hf l[i] (List.getElem_mem hlt)
   have hk:=Ah h1
   have k1:=Jf l[i].1 h1
   have k2:=ak0 a (dK l[i].1) (by omega) (by omega)
   have ho:=Jz a (dK l[i].1) (by omega)
   have k3:=qO l[i].2.toNat (by omega)
   rw [show ((l[i].2.toNat:Nat):Int)=l[i].2 by omega] at k3
   have hv:=fM (n:=l[i].2.toNat) (by omega)
   have ih:=abE l hl hf m (i+1) (dK l[i].1) (acc++(rM a (dK l[i].1)++aQ l[i].2.toNat)) (by omega) (by omega) (by simp only [List.length_append];omega)
   have he:acc++oV a (l.drop i)=acc++(rM a (dK l[i].1)++aQ l[i].2.toNat)++oV (dK l[i].1) (l.drop (i+1)):=by
    rw [List.drop_eq_getElem_cons hlt];simp [oV]
   rw [he]
   rw [Oa acc,Oa] at ih
   rw [show ((i+1:Nat):Int)=(i:Int)+1 by omega] at ih
   exact ajF _ _ _ l[i].1 l[i].2 a _ _ _ acc _ i rfl (by omega) (by simp [hlt]) (wrap64 (by omega) (by omega)) k1 k2 k3 (by omega) (by omega) ih
theorem ajE (t:List Row) (ht:Rows t) (hf:oI t):TT.lim 84 [.l (t.map row)]=some [.s (wY t).1,.i .i64 (wY t).2]:=by
 have k1:=XM t ht hf
 unfold wY
 by_cases hc:nC t=0
 rotate_left
 ·rw [if_pos hc]
  refine aG rfl rfl ?_ (by rfl)
  simp -implicitDefEqProofs [k1,hc]
 rw [if_neg (fun e=>e hc)]
 rw [hc] at k1
 have h256:=((Ol t).1 hc).1
 have I5:∀r∈t,gK r.1=true∧0≤r.2∧r.2 < 18446744073709551616:=fun r hr=>⟨hf r hr,(ht.2 r hr).2.1,(ht.2 r hr).2.2⟩
 have k2:=qO t.length (by omega)
 have l2:=fM (n:=t.length) (by omega)
 have k3:=abE t (by omega) I5 t.length 0 [] (aQ t.length) (by omega) (by simp) (by omega)
 rw [List.drop_zero,show ((0:Nat):Int)=0 from rfl] at k3
 have hlen:=Si t [] I5
 have w:=fU (n:=(t.length:Int)) (by omega) (by omega)
 have ok:=Eo (aQ t.length)
 have hb:2 * (aQ t.length).length≤281474976710656∧(aQ t.length).length≤281474976710656:=by omega
 have hbg:=Oc (tu t)
 have hpl:(dJ (tu t)).length≤281474976710656:=by
  rw [Vp];unfold tu;rw [List.length_append];omega
 have hk3:TT.lim 85 [.s [],.l (t.map row),.i .i64 t.length,.i .i64 0,.l (dJ (aQ t.length))]=some [.i .i64 0,.l (dJ (tu t))]:=k3
 generalize dJ (tu t)=PG at *
 generalize tu t=P at *
 generalize hVG:dJ (aQ t.length)=VG at *
 have hvl:VG.length=(aQ t.length).length:=by rw [← hVG,Vp]
 rw [← hvl] at hb
 have hlm:(t.map row).length=t.length:=by simp
 generalize t.map row=L at *
 refine aG rfl rfl ?_ rfl
 simp -implicitDefEqProofs [-List.all_eq_true,k1,hlm,w,k2,hVG,ok,hb,hk3,hbg,hpl]
theorem al1 (L:List GV) (n:Int) (D:List dW) (N:Int) (k O V acc:List UInt8) (R:List GV) (h:0 < n) (hg:L[0]? = some (row (D,N))) (k1:TT.lim 113 [.l (D.map ent)]=some [.s k]) (k2:TT.lim 137 [.s [],.s k]=some [.s O])
 (k3:TT.lim 114 [.i .u64 N]=some [.s V]) (hb1:(acc.length:Int)+(O.length:Int)≤9223372036854775807) (hb2:(acc.length:Int)+(O.length:Int)+(V.length:Int)≤9223372036854775807)
 (ih:TT.lim 136 [.l L,.s (acc++(O++V)),.i .i64 n,.i .i64 1]=some R) :
 TT.lim 136 [.l L,.s acc,.i .i64 n,.i .i64 0]=some R:=by
 have w1:=wrap64 (n:=1) (by omega) (by omega)
 refine aA rfl rfl ?_
 simp -implicitDefEqProofs [h,hg,w1,k1,k2,k3,hb1,hb2,ih]
theorem al0 (L:List GV) (n i:Int) (D E:List dW) (N M:Int) (k k' O V acc:List UInt8) (R:List GV) (j:Nat) (hi:i=(j:Int)+1) (h:i < n) (h0:(0:Int) < i) (hg:L[j+1]? = some (row (D,N))) (hg':L[j]? = some (row (E,M))) (hw:IntKind.i64.wrap (i+1)=i+1) (hw2:IntKind.i64.wrap (i - 1)=i - 1) (hn1:(i - 1).toNat=j) (hn2:i.toNat=j+1) (hn0:(0:Int)≤i - 1) (hn3:(1:Int)≤i) (hn4:(0:Int)≤i)
 (k1:TT.lim 113 [.l (D.map ent)]=some [.s k]) (k1':TT.lim 113 [.l (E.map ent)]=some [.s k']) (k2:TT.lim 137 [.s k',.s k]=some [.s O])
 (k3:TT.lim 114 [.i .u64 N]=some [.s V]) (hb1:(acc.length:Int)+(O.length:Int)≤9223372036854775807) (hb2:(acc.length:Int)+(O.length:Int)+(V.length:Int)≤9223372036854775807)
 (ih:TT.lim 136 [.l L,.s (acc++(O++V)),.i .i64 n,.i .i64 (i+1)]=some R) :
 TT.lim 136 [.l L,.s acc,.i .i64 n,.i .i64 i]=some R:=by
 clear hi
 refine aA rfl rfl ?_
 simp -implicitDefEqProofs [h,h0,hg,hg',hw,hw2,hn0,hn1,hn2,hn3,hn4,k1,k1',k2,k3,hb1,hb2,ih]
theorem adp (l:List Row) (hl:l.length≤1000) (hf:∀r∈l,gK r.1=true∧0≤r.2∧r.2 < 18446744073709551616):∀ (m i:Nat) (acc:List UInt8),i+m=l.length→acc.length≤10+40000 * i→
 TT.lim 136 [.l (l.map row),.s acc,.i .i64 l.length,.i .i64 i]=some [.i .i64 0,.s (acc++oV (if 0 < i then ((l[i - 1]?).map K).getD [] else []) (l.drop i))]
 | 0,i,acc,hi,hacc=>by
   have hd:l.drop i=[]:=List.drop_eq_nil_of_le (by omega)
   have h:¬ ((i:Int) < l.length):=by omega
   rw [hd]
   refine aA rfl rfl ?_
   simp -implicitDefEqProofs [h,oV]
 | m+1,i,acc,hi,hacc=>by
   have hlt:i < l.length:=by omega
   obtain ⟨h1,h2,h3⟩:=hf l[i] (List.getElem_mem hlt)
   have hk:=Ah h1
   have k1:=Fg l[i].1 h1
   have k3:=qP l[i].2.toNat (by omega)
   rw [show ((l[i].2.toNat:Nat):Int)=l[i].2 by omega] at k3
   have hv:=fM (n:=l[i].2.toNat) (by omega)
   have he:∀a,acc++oV a (l.drop i)=acc++(rM a (dK l[i].1)++aQ l[i].2.toNat)++oV (dK l[i].1) (l.drop (i+1)):=by
    intro a
    rw [List.drop_eq_getElem_cons hlt];simp [oV]
   have ih:=fun a (ha:(rM a (dK l[i].1)).length≤20+(dK l[i].1).length)=>adp l hl hf m (i+1) (acc++(rM a (dK l[i].1)++aQ l[i].2.toNat)) (by omega) (by simp only [List.length_append];omega)
   have hpr:(if 0 < i+1 then ((l[i+1 - 1]?).map K).getD [] else [])=dK l[i].1:=by simp [hlt]
   rw [hpr,show ((i+1:Nat):Int)=(i:Int)+1 by omega] at ih
   by_cases h0:i=0
   ·subst h0
    rw [if_neg (by omega),he]
    have k2:=adt [] (dK l[0].1) (by simp) (by omega)
    have ho:=Jz [] (dK l[0].1) (by omega)
    exact al1 _ _ l[0].1 l[0].2 _ _ _ acc _ (by omega) (by simp [hlt]) k1 k2 k3 (by omega) (by omega) (ih [] ho)
   ·obtain ⟨j,rfl⟩:∃j,i=j+1:=⟨i - 1,by omega⟩
    have hj:j < l.length:=by omega
    obtain ⟨g1,_,_⟩:=hf l[j] (List.getElem_mem hj)
    have k1':=Fg l[j].1 g1
    have hkj:=Ah g1
    rw [if_pos (by omega),show ((l[j+1 - 1]?).map K).getD []=dK l[j].1 by simp [hj],he]
    have k2:=adt (dK l[j].1) (dK l[j+1].1) (by omega) (by omega)
    have ho:=Jz (dK l[j].1) (dK l[j+1].1) (by omega)
    exact al0 _ _ _ l[j+1].1 l[j].1 l[j+1].2 l[j].2 _ _ _ _ acc _ j (by omega) (by omega) (by omega) (by simp [hlt]) (by simp [hj]) (wrap64 (by omega) (by omega)) (wrap64 (by omega) (by omega)) (by omega) (by omega) (by omega) (by omega) (by omega) k1 k1' k2 k3 (by omega) (by omega) (ih _ ho)
theorem alZ (t:List Row) (ht:Rows t) (hf:oI t):TT.lim 118 [.l (t.map row)]=some [.s (wY t).1,.i .i64 (wY t).2]:=by
 have k1:=XO t ht hf
 unfold wY
 by_cases hc:nC t=0
 rotate_left
 ·rw [if_pos hc]
  refine aG rfl rfl ?_ (by rfl)
  simp -implicitDefEqProofs [k1,hc]
 rw [if_neg (fun e=>e hc)]
 rw [hc] at k1
 have h256:=((Ol t).1 hc).1
 have I5:∀r∈t,gK r.1=true∧0≤r.2∧r.2 < 18446744073709551616:=fun r hr=>⟨hf r hr,(ht.2 r hr).2.1,(ht.2 r hr).2.2⟩
 have k2:=qP t.length (by omega)
 have l2:=fM (n:=t.length) (by omega)
 have k3:=adp t (by omega) I5 t.length 0 (aQ t.length) (by omega) (by omega)
 rw [List.drop_zero,if_neg (by omega),show ((0:Nat):Int)=0 from rfl] at k3
 have hk3:TT.lim 136 [.l (t.map row),.s (aQ t.length),.i .i64 t.length,.i .i64 0]=some [.i .i64 0,.s (tu t)]:=k3
 have w:=fU (n:=(t.length:Int)) (by omega) (by omega)
 have hlm:(t.map row).length=t.length:=by simp
 generalize tu t=P at *
 generalize aQ t.length=V at *
 generalize t.map row=L at *
 have kt:TT.lim 135 [.l L]=some [.s P]:=by
  refine aG rfl rfl ?_ rfl
  simp -implicitDefEqProofs [hlm,w,k2,hk3]
 refine aG rfl rfl ?_ rfl
 simp -implicitDefEqProofs [k1,kt]
structure GI (t:List Row):Prop where
 ok:Ok t
 few:oI t
 rows:Rows t
theorem GI.tb {t:List Row} (h:GI t):nC t=0:=(Ol t).2 h.ok
theorem GI.len {t:List Row} (h:GI t):t.length≤256:=h.ok.1
structure One where
 deep:Int
 tag:Int
 typ:Int
 num:Int
 text:List UInt8
inductive aJ where
 | mk (tag typ num:Int) (text:List UInt8) (l:List aJ)
def one (x:One):GV:=.g [.i .u8 x.deep,.i .u64 x.tag,.i .i8 x.typ,.i .u64 x.num,.s x.text]
@[simp] theorem aul (x:One):(one x).cells=[.i .u8 x.deep,.i .u64 x.tag,.i .i8 x.typ,.i .u64 x.num,.s x.text]:=rfl
mutual
def gu:aJ→GV
 | .mk t y n s l=>.g [.i .u64 t,.i .i64 y,.i .u64 n,.s s,.l (ak l)]
def ak:List aJ→List GV
 | []=>[]
 | f::l=>gu f::ak l
end
theorem OW:∀ (a b:List aJ),ak (a++b)=ak a++ak b
 | [],b=>rfl
 | f::a,b=>by simp only [List.cons_append,ak,OW a b]
theorem iq:∀ (a:List aJ),(ak a).length=a.length
 | []=>rfl
 | f::a=>by simp only [ak,List.length_cons,iq a]
def xG (x:One):Prop:=0≤x.deep∧x.deep≤255∧-128≤x.typ∧x.typ≤127∧0≤x.tag∧x.tag < 18446744073709551616∧0≤x.num∧x.num < 18446744073709551616∧x.text.length≤140737488351232
def Ones (l:List One):Prop:=l.length≤140737488351232∧∀x∈l,xG x
def pW (l:List One):Bool:=l.all (fun x=>decide (x.text.length≤300))&&decide (l.length≤60)
theorem aaP (l:List One) (hl:l.length≤140737488351232):∀m i:Nat,i+m=l.length→TT.lim 15 [.l (l.map one),.i .i64 l.length,.i .i64 i]=some (if (l.drop i).all (fun x=>decide (x.text.length≤300))=true then [.i .i64 1] else [.i .i64 0])
 | 0,i,hi=>by
   have h0:l.drop i=[]:=List.drop_eq_nil_of_le (by omega)
   refine aA rfl rfl ?_
   have h:¬ ((i:Int) < l.length):=by omega
   simp -implicitDefEqProofs [h,h0]
 | m+1,i,hi=>by
   have hlt:i < l.length:=by omega
   have ih:TT.lim 15 [.l (l.map one),.i .i64 l.length,.i .i64 ((i:Int)+1)]=_:=aaP l hl m (i+1) (by omega)
   refine aA rfl rfl ?_
   have h:((i:Int) < l.length):=by omega
   have hw:=wrap64 (n:=(i:Int)+1) (by omega) (by omega)
   have hda:(l.drop i).all (fun x=>decide (x.text.length≤300))=(decide (l[i].text.length≤300)&&(l.drop (i+1)).all (fun x=>decide (x.text.length≤300))):=by rw [List.drop_eq_getElem_cons hlt,List.all_cons]
   by_cases hf:(300:Int) < (l[i].text.length:Int)
   ·have:decide (l[i].text.length≤300)=false:=by simp;omega
    simp -implicitDefEqProofs [-List.all_eq_true,h,hlt,hf,hda,this]
   ·have:decide (l[i].text.length≤300)=true:=by simp;omega
    rw [hda,this,Bool.true_and]
    simp -implicitDefEqProofs [-List.all_eq_true,h,hlt,hw,hf,ih]
theorem ahO (l:List One) (hl:l.length≤140737488351232):TT.lim 14 [.l (l.map one)]=some [.b (pW l)]:=by
 refine aG rfl rfl ?_ rfl
 have h5:TT.lim 15 [.l (l.map one),.i .i64 l.length,.i .i64 0]=_:=aaP l hl l.length 0 (by omega)
 rw [List.drop_zero] at h5
 cases hc:l.all (fun x=>decide (x.text.length≤300)) with
 | false=>rw [hc] at h5;simp [-List.all_eq_true,h5,pW,hc]
 | true=>
   rw [hc] at h5;simp only [if_true] at h5
   have:(decide ((l.length:Int)≤60))=decide (l.length≤60):=by rw [Bool.eq_iff_iff];simp;omega
   simp -implicitDefEqProofs [-List.all_eq_true,h5,pW,hc,this]
/-- What Make makes: of the first ones that are at least so deep; and the others. -/
def dR:Nat→List One→Int→List aJ×List One
 | 0,l,_=>([],l)
 | _+1,[],_=>([],[])
 | n+1,x::l,deep=>
   if deep≤x.deep then
    let p:=if x.deep=255 then ([],l) else dR n l (x.deep+1)
    let q:=dR n p.2 deep
    (.mk x.tag x.typ x.num x.text p.1::q.1,q.2)
   else ([],x::l)
theorem zW:∀ (n:Nat) (l:List One) (deep:Int),(dR n l deep).1.length+(dR n l deep).2.length≤l.length∧∃k,(dR n l deep).2=l.drop k
 | 0,l,deep=>by simp only [dR];exact ⟨by simp,0,rfl⟩
 | n+1,[],deep=>by simp only [dR];exact ⟨by simp,0,rfl⟩
 | n+1,x::l,deep=>by
   simp only [dR]
   split
   ·by_cases hx:x.deep=255
    ·rw [if_pos hx]
     obtain ⟨h1,k,h2⟩:=zW n l deep
     refine ⟨by simp only [List.length_cons];omega,k+1,by simp only [h2,List.drop_succ_cons]⟩
    ·rw [if_neg hx]
     obtain ⟨h1,k,h2⟩:=zW n l (x.deep+1)
     obtain ⟨h3,k',h4⟩:=zW n (dR n l (x.deep+1)).2 deep
     refine ⟨by simp only [List.length_cons];omega,k+k'+1, ?_⟩
     simp only [h4,List.drop_succ_cons]
     rw [h2,List.drop_drop]
   ·exact ⟨by simp,0,rfl⟩
def CQ (x:One) (l:List aJ):GV:=.g [.i .u64 x.tag,.i .i64 x.typ,.i .u64 x.num,.s x.text,.l (ak l)]
theorem IG:∀ (n:Nat) (l:List One) (deep:Int) (acc:List aJ),l.length < n→acc.length+l.length≤1000000→(∀x∈l,xG x)→
 TT.lim 19 [.l (l.map one),.i .u8 deep,.l (ak acc)]=some [.i .i64 0,.l ((dR n l deep).2.map one),.l (ak (acc++(dR n l deep).1))]
 | 0,l,deep,acc,hn,_,_=>by omega
 | n+1,[],deep,acc,hn,hb,hl=>by
   refine aA rfl rfl ?_
   simp -implicitDefEqProofs [dR]
 | n+1,x::l,deep,acc,hn,hb,hl=>by
   have hx:=hl x (by simp)
   have hl':∀y∈l,xG y:=fun y hy=>hl y (by simp [hy])
   simp only [List.length_cons] at hn hb
   have hw:=wrap64 (n:=x.typ) (by have:=hx.2.2.1;omega) (by have:=hx.2.2.2.1;omega)
   have hb2:2 * ((ak acc).length+1) * 64≤281474976710656:=by rw [iq];omega
   have hb3:(ak acc).length≤281474976710655:=by rw [iq];omega
   have hcast:((l.length:Int)+1).toNat=l.length+1:=by omega
   have h1:(1:Int)≤(l.length:Int)+1:=by omega
   have htake:List.take l.length (l.map one)=l.map one:=List.take_of_length_le (by simp)
   have hall:∀y∈l.map one,y.cells.length=5:=by
    intro y hy;obtain ⟨z,_,rfl⟩:=List.mem_map.1 hy;rfl
   refine aA rfl rfl ?_
   by_cases hd:deep≤x.deep
   ·by_cases IW:x.deep=255
    ·have ih:=IG n l deep (acc++[.mk x.tag x.typ x.num x.text []]) (by omega) (by simp;omega) hl'
     have e:dR (n+1) (x::l) deep=(.mk x.tag x.typ x.num x.text []::(dR n l deep).1,(dR n l deep).2):=by
      simp only [dR,if_pos hd,if_pos IW]
     rw [e]
     rw [List.append_assoc,OW] at ih
     have e2:ak [aJ.mk x.tag x.typ x.num x.text []]=[CQ x []]:=rfl
     rw [e2] at ih
     have hel:(CQ x []).gJ 5=true:=rfl
     have hfold:GV.g [.i .u64 x.tag,.i .i64 x.typ,.i .u64 x.num,.s x.text,.l []]=CQ x []:=rfl
     have h0:(0:Int) < (l.length:Int)+1:=by omega
     have hd2:deep≤255:=by omega
     simp -implicitDefEqProofs [hd2,IW,hw,hfold,hel,hb2,hb3,hall,h0,h1,htake,hcast,ih]
    ·have hf:=zW n l (x.deep+1)
     have ih1:=IG n l (x.deep+1) [] (by omega) (by simp;omega) hl'
     have hk:TT.lim 18 [.l (l.map one),.i .u8 (x.deep+1)]=some [.l (ak (dR n l (x.deep+1)).1),.l ((dR n l (x.deep+1)).2.map one)]:=by
      refine aG rfl rfl ?_ rfl
      have ih1':TT.lim 19 [.l (l.map one),.i .u8 (x.deep+1),.l []]=_:=ih1
      simp -implicitDefEqProofs [ih1']
     have ih2:=IG n (dR n l (x.deep+1)).2 deep (acc++[.mk x.tag x.typ x.num x.text (dR n l (x.deep+1)).1]) (by omega) (by simp;omega) (fun y hy=>by
      obtain ⟨_,k,e⟩:=hf
      rw [e] at hy
      exact hl' y (List.mem_of_mem_drop hy))
     have e:dR (n+1) (x::l) deep=(.mk x.tag x.typ x.num x.text (dR n l (x.deep+1)).1::(dR n (dR n l (x.deep+1)).2 deep).1,(dR n (dR n l (x.deep+1)).2 deep).2):=by
      simp only [dR,if_pos hd,if_neg IW]
     rw [e]
     rw [List.append_assoc,OW] at ih2
     generalize dR n l (x.deep+1)=p at *
     obtain ⟨p1,p2⟩:=p
     simp only at *
     have e2:ak [aJ.mk x.tag x.typ x.num x.text p1]=[CQ x p1]:=rfl
     rw [e2] at ih2
     have hel:(CQ x p1).gJ 5=true:=rfl
     have hfold:GV.g [.i .u64 x.tag,.i .i64 x.typ,.i .u64 x.num,.s x.text,.l (ak p1)]=CQ x p1:=rfl
     have h0:(0:Int) < (l.length:Int)+1:=by omega
     have hw8:=Nk (n:=x.deep+1) (by have:=hx.1;omega) (by have:=hx.2.1;omega)
     simp -implicitDefEqProofs [hd,IW,hw,hw8,hk,hfold,hel,hb2,hb3,hall,h0,h1,htake,hcast,ih2]
   ·have e:dR (n+1) (x::l) deep=([],x::l):=by simp only [dR,if_neg hd]
    rw [e]
    have h0:(0:Int) < (l.length:Int)+1:=by omega
    simp -implicitDefEqProofs [hd,h0]
def jk (l:List One):List aJ:=(dR (l.length+1) l 0).1
theorem aj6 (l:List One) (hl:∀x∈l,xG x) (h60:l.length≤1000000):TT.lim 17 [.l (l.map one)]=some [.l (ak (jk l))]:=by
 have hk:TT.lim 18 [.l (l.map one),.i .u8 0]=some [.l (ak (jk l)),.l ((dR (l.length+1) l 0).2.map one)]:=by
  refine aG rfl rfl ?_ rfl
  have ih1:TT.lim 19 [.l (l.map one),.i .u8 0,.l []]=_:=IG (l.length+1) l 0 [] (by omega) (by simp;omega) hl
  simp -implicitDefEqProofs [ih1,jk]
 refine aG rfl rfl ?_ rfl
 simp -implicitDefEqProofs [hk]
structure ay where
 kind:Int
 id:Int
 min:Int
 max:Int
 chosen:Int
 flags:Int
 cost:Int
 priority:Int
 deadline:Int
 retry:Int
 epoch:Int
 base:Int
 digest:Int
 lag:Int
 code:Int
 want:Int
 remaining:Int
 allowed:Bool
 name:List UInt8
 region:List UInt8
 note:List UInt8
 d:List dW
 t:List Row
/-- A message: what it has, and its rest. -/
def bH (b:ay) (r:List GV):GV:=.g [.i .i64 b.kind,.i .u64 b.id,.i .u64 b.min,.i .u64 b.max,.i .u64 b.chosen,.i .u64 b.flags,.i .u64 b.cost,.i .u64 b.priority,.i .u64 b.deadline,.i .u64 b.retry,.i .u64 b.epoch,.i .u64 b.base,.i .u64 b.digest,.i .u64 b.lag,.i .u64 b.code,.i .u64 b.want,.i .i64 b.remaining,.b b.allowed,.s b.name,.s b.region,.s b.note,.l (b.d.map ent),.l (b.t.map row),.l r]
theorem dF (b:ay) (r:List GV):GV.g [.i .i64 b.kind,.i .u64 b.id,.i .u64 b.min,.i .u64 b.max,.i .u64 b.chosen,.i .u64 b.flags,.i .u64 b.cost,.i .u64 b.priority,.i .u64 b.deadline,.i .u64 b.retry,.i .u64 b.epoch,.i .u64 b.base,.i .u64 b.digest,.i .u64 b.lag,.i .u64 b.code,.i .u64 b.want,.i .i64 b.remaining,.b b.allowed,.s b.name,.s b.region,.s b.note,.l (b.d.map ent),.l (b.t.map row),.l r]=bH b r:=rfl
@[simp] theorem rJ (b:ay) (r:List GV):(bH b r).cells=[.i .i64 b.kind,.i .u64 b.id,.i .u64 b.min,.i .u64 b.max,.i .u64 b.chosen,.i .u64 b.flags,.i .u64 b.cost,.i .u64 b.priority,.i .u64 b.deadline,.i .u64 b.retry,.i .u64 b.epoch,.i .u64 b.base,.i .u64 b.digest,.i .u64 b.lag,.i .u64 b.code,.i .u64 b.want,.i .i64 b.remaining,.b b.allowed,.s b.name,.s b.region,.s b.note,.l (b.d.map ent),.l (b.t.map row),.l r]:=rfl
structure gI (b:ay):Prop where
 kind : -9223372036854775808≤b.kind∧b.kind≤9223372036854775807
 id:0≤b.id∧b.id < 18446744073709551616
 min:0≤b.min∧b.min < 18446744073709551616
 max:0≤b.max∧b.max < 18446744073709551616
 chosen:0≤b.chosen∧b.chosen < 18446744073709551616
 flags:0≤b.flags∧b.flags < 18446744073709551616
 cost:0≤b.cost∧b.cost < 18446744073709551616
 priority:0≤b.priority∧b.priority < 18446744073709551616
 deadline:0≤b.deadline∧b.deadline < 18446744073709551616
 retry:0≤b.retry∧b.retry < 18446744073709551616
 epoch:0≤b.epoch∧b.epoch < 18446744073709551616
 base:0≤b.base∧b.base < 18446744073709551616
 digest:0≤b.digest∧b.digest < 18446744073709551616
 lag:0≤b.lag∧b.lag < 18446744073709551616
 code:0≤b.code∧b.code < 18446744073709551616
 want:0≤b.want∧b.want < 18446744073709551616
 remaining : -9223372036854775808≤b.remaining∧b.remaining≤9223372036854775807
 name:b.name.length≤140737488351232
 region:b.region.length≤140737488351232
 note:b.note.length≤140737488351232
 d:oH b.d
 t:Rows b.t
def CJ (b:ay) (l:List One):Bool:=decide (b.name.length≤600)&&(decide (b.region.length≤600)&&(decide (b.note.length≤600)&&(gK b.d&&(yj b.t&&pW l))))
theorem ahM (b:ay) (l:List One) (hb:gI b) (hl:Ones l):TT.lim 2 [bH b (l.map one)]=some [.b (CJ b l)]:=by
 have h12:=aaO b.d hb.d
 have h13:=ahN b.t hb.t
 have h8:=ahO l hl.1
 have e1:(decide ((b.name.length:Int)≤600))=decide (b.name.length≤600):=by rw [Bool.eq_iff_iff];simp;omega
 have e2:(decide ((b.region.length:Int)≤600))=decide (b.region.length≤600):=by rw [Bool.eq_iff_iff];simp;omega
 have e3:(decide ((b.note.length:Int)≤600))=decide (b.note.length≤600):=by rw [Bool.eq_iff_iff];simp;omega
 refine aG rfl rfl ?_ rfl
 unfold CJ
 generalize gK b.d=c1 at *
 generalize yj b.t=c2 at *
 generalize pW l=c3 at *
 cases f1:decide (b.name.length≤600) with
 | false=>rw [f1] at e1;simp at e1;have e1':¬ ((b.name.length:Int)≤600):=by omega
          simp -implicitDefEqProofs [e1']
 | true=>
 rw [f1] at e1;have e1':((b.name.length:Int)≤600):=by simpa using e1
 cases f2:decide (b.region.length≤600) with
 | false=>rw [f2] at e2;simp at e2;have e2':¬ ((b.region.length:Int)≤600):=by omega
          simp -implicitDefEqProofs [e1',e2']
 | true=>
 rw [f2] at e2;have e2':((b.region.length:Int)≤600):=by simpa using e2
 cases f3:decide (b.note.length≤600) with
 | false=>rw [f3] at e3;simp at e3;have e3':¬ ((b.note.length:Int)≤600):=by omega
          simp -implicitDefEqProofs [e1',e2',e3']
 | true=>
 rw [f3] at e3;have e3':((b.note.length:Int)≤600):=by simpa using e3
 cases c1<;>cases c2<;>simp [e1',e2',e3',h12,h13,h8]
theorem aj2 (b:ay) (l:List One) (hl:Ones l) (hf:pW l=true):TT.lim 16 [bH b (l.map one)]=some [bH b (ak (jk l))]:=by
 have h8:l.length≤60:=by unfold pW at hf;rw [Bool.and_eq_true,decide_eq_true_iff] at hf;exact hf.2
 have hm:=aj6 l hl.2 (by omega)
 refine aG rfl rfl ?_ rfl
 simp -implicitDefEqProofs [hm,dF]
theorem Pg {k:IntKind} {g:GV} (h:(bD.int k).has g):∃n,g=.i k n∧k.min≤n∧n≤k.max:=by
 simp only [bD.has] at h
 exact h
theorem Pe {g:GV} (h:(bD.int .i64).has g):∃n,g=.i .i64 n∧-9223372036854775808≤n∧n≤9223372036854775807:=by
 obtain ⟨n,rfl,h1,h2⟩:=Pg h
 exact ⟨n,rfl,by simpa [IntKind.min,IntKind.signed,IntKind.bits] using h1,by simpa [IntKind.max,IntKind.signed,IntKind.bits] using h2⟩
theorem aiN {g:GV} (h:bD.bool.has g):∃b,g=.b b:=by simpa only [bD.has] using h
theorem ag7 {g:GV} (h:(bD.list true [.str,.str]).has g):∃l:List dW,oH l∧g=.l (l.map ent):=by
 obtain ⟨xs,rfl,h1,h2⟩:=I4 h
 obtain ⟨rs,h3,rfl⟩:=Fq (f:=ent) (p:=fun r:dW=>r.1.length≤140737488351232∧r.2.length≤140737488351232) fun x hx=>by
  obtain ⟨h4,h5⟩:=h2 x hx
  cases x<;>simp [GV.scalar] at h5
  next cs=>
  simp only [Oh] at h4
  obtain ⟨a,r,rfl,ha,h4⟩:=fV h4
  obtain ⟨c,r,rfl,hc,h4⟩:=fV h4
  obtain rfl:=EZ h4
  obtain ⟨u,rfl,hu⟩:=yu ha
  obtain ⟨v,rfl,hv⟩:=yu hc
  exact ⟨(u,v),⟨hu,hv⟩,rfl⟩
 exact ⟨rs,⟨by rw [List.length_map] at h1;exact h1,h3⟩,rfl⟩
theorem ak1 {g:GV} (h:(bD.list true [.int .u8,.int .u64,.int .i8,.int .u64,.str]).has g):∃l:List One,Ones l∧g=.l (l.map one):=by
 obtain ⟨xs,rfl,h1,h2⟩:=I4 h
 obtain ⟨rs,h3,rfl⟩:=Fq (f:=one) (p:=xG) fun x hx=>by
  obtain ⟨h4,h5⟩:=h2 x hx
  cases x<;>simp [GV.scalar] at h5
  next cs=>
  simp only [Oh] at h4
  obtain ⟨a,r,rfl,ha,h4⟩:=fV h4
  obtain ⟨c,r,rfl,hc,h4⟩:=fV h4
  obtain ⟨e,r,rfl,he,h4⟩:=fV h4
  obtain ⟨f,r,rfl,hf,h4⟩:=fV h4
  obtain ⟨s,r,rfl,hs,h4⟩:=fV h4
  obtain rfl:=EZ h4
  obtain ⟨a,rfl,a1,a2⟩:=Pg ha
  obtain ⟨c,rfl,c1,c2⟩:=mM hc
  obtain ⟨e,rfl,e1,e2⟩:=Pg he
  obtain ⟨f,rfl,f1,f2⟩:=mM hf
  obtain ⟨s,rfl,hs0⟩:=yu hs
  have a1':0≤a:=by simpa [IntKind.min,IntKind.signed] using a1
  have a2':a≤255:=by simpa [IntKind.max,IntKind.signed,IntKind.bits] using a2
  have e1' : -128≤e:=by simpa [IntKind.min,IntKind.signed,IntKind.bits] using e1
  have e2':e≤127:=by simpa [IntKind.max,IntKind.signed,IntKind.bits] using e2
  exact ⟨⟨a,c,e,f,s⟩,⟨a1',a2',e1',e2',c1,c2,f1,f2,hs0⟩,rfl⟩
 exact ⟨rs,⟨by rw [List.length_map] at h1;exact h1,h3⟩,rfl⟩
abbrev ac5:List bD:=[.int .i64,.int .u64,.int .u64,.int .u64,.int .u64,.int .u64,.int .u64,.int .u64,.int .u64,.int .u64,.int .u64,.int .u64,.int .u64,.int .u64,.int .u64,.int .u64,.int .i64,.bool,.str,.str,.str,.list true [.str,.str],.list true [.list true [.str,.str],.int .u64],.list true [.int .u8,.int .u64,.int .i8,.int .u64,.str]]
theorem alS {cs:List GV} (h:bD.fO ac5 cs):∃b l,gI b∧Ones l∧GV.g cs=bH b (l.map one):=by
 obtain ⟨_,_,rfl,h1,g0⟩:=fV h;obtain ⟨x0,rfl,k0⟩:=Pe h1
 obtain ⟨_,_,rfl,h1,g1⟩:=fV g0;obtain ⟨x1,rfl,k1⟩:=mM h1
 obtain ⟨_,_,rfl,h1,g2⟩:=fV g1;obtain ⟨x2,rfl,k2⟩:=mM h1
 obtain ⟨_,_,rfl,h1,g3⟩:=fV g2;obtain ⟨x3,rfl,k3⟩:=mM h1
 obtain ⟨_,_,rfl,h1,g4⟩:=fV g3;obtain ⟨x4,rfl,k4⟩:=mM h1
 obtain ⟨_,_,rfl,h1,g5⟩:=fV g4;obtain ⟨x5,rfl,k5⟩:=mM h1
 obtain ⟨_,_,rfl,h1,g6⟩:=fV g5;obtain ⟨x6,rfl,k6⟩:=mM h1
 obtain ⟨_,_,rfl,h1,g7⟩:=fV g6;obtain ⟨x7,rfl,k7⟩:=mM h1
 obtain ⟨_,_,rfl,h1,g8⟩:=fV g7;obtain ⟨x8,rfl,k8⟩:=mM h1
 obtain ⟨_,_,rfl,h1,g9⟩:=fV g8;obtain ⟨x9,rfl,k9⟩:=mM h1
 obtain ⟨_,_,rfl,h1,g10⟩:=fV g9;obtain ⟨x10,rfl,k10⟩:=mM h1
 obtain ⟨_,_,rfl,h1,g11⟩:=fV g10;obtain ⟨x11,rfl,k11⟩:=mM h1
 obtain ⟨_,_,rfl,h1,g12⟩:=fV g11;obtain ⟨x12,rfl,k12⟩:=mM h1
 obtain ⟨_,_,rfl,h1,g13⟩:=fV g12;obtain ⟨x13,rfl,k13⟩:=mM h1
 obtain ⟨_,_,rfl,h1,g14⟩:=fV g13;obtain ⟨x14,rfl,k14⟩:=mM h1
 obtain ⟨_,_,rfl,h1,g15⟩:=fV g14;obtain ⟨x15,rfl,k15⟩:=mM h1
 obtain ⟨_,_,rfl,h1,g16⟩:=fV g15;obtain ⟨x16,rfl,k16⟩:=Pe h1
 obtain ⟨_,_,rfl,h1,g17⟩:=fV g16;obtain ⟨x17,rfl⟩:=aiN h1
 obtain ⟨_,_,rfl,h1,g18⟩:=fV g17;obtain ⟨x18,rfl,k18⟩:=yu h1
 obtain ⟨_,_,rfl,h1,g19⟩:=fV g18;obtain ⟨x19,rfl,k19⟩:=yu h1
 obtain ⟨_,_,rfl,h1,g20⟩:=fV g19;obtain ⟨x20,rfl,k20⟩:=yu h1
 obtain ⟨_,_,rfl,h1,g21⟩:=fV g20;obtain ⟨x21,k21,rfl⟩:=ag7 h1
 obtain ⟨_,_,rfl,h1,g22⟩:=fV g21;obtain ⟨x22,k22,rfl⟩:=amL h1
 obtain ⟨_,_,rfl,h1,g23⟩:=fV g22;obtain ⟨x23,k23,rfl⟩:=ak1 h1
 obtain rfl:=EZ g23
 exact ⟨⟨x0,x1,x2,x3,x4,x5,x6,x7,x8,x9,x10,x11,x12,x13,x14,x15,x16,x17,x18,x19,x20,x21,x22⟩,x23,⟨k0,k1,k2,k3,k4,k5,k6,k7,k8,k9,k10,k11,k12,k13,k14,k15,k16,k18,k19,k20,k21,k22⟩,k23,rfl⟩
structure dh where
 tag:Int
 use:Int
 from_:Int
 name:List UInt8
def bG (s:dh):GV:=.g [.i .u64 s.tag,.i .i64 s.use,.i .i64 s.from_,.s s.name]
@[simp] theorem auC (s:dh):(bG s).cells=[.i .u64 s.tag,.i .i64 s.use,.i .i64 s.from_,.s s.name]:=rfl
theorem aee (s:dh):GV.g [.i .u64 s.tag,.i .i64 s.use,.i .i64 s.from_,.s s.name]=bG s:=rfl
def sp1:List dh:=[⟨1,0,1,[109,105,110]⟩,⟨2,0,1,[109,97,120]⟩,⟨3,3,1,[110,97,109,101]⟩,⟨4,3,2,[114,101,103,105,111,110]⟩,⟨5,0,3,[102,108,97,103,115]⟩]
def sp2:List dh:=[⟨1,0,1,[99,104,111,115,101,110]⟩,⟨2,3,1,[110,97,109,101]⟩,⟨3,3,2,[114,101,103,105,111,110]⟩]
def tH:List dh:=[⟨1,0,1,[105,100]⟩,⟨2,4,1,[100,101,115,99,114]⟩,⟨3,0,1,[99,111,115,116]⟩,⟨4,0,2,[112,114,105,111,114,105,116,121]⟩,⟨5,0,3,[100,101,97,100,108,105,110,101]⟩]
def tJ:List dh:=[⟨1,0,1,[105,100]⟩,⟨2,1,1,[97,108,108,111,119,101,100]⟩,⟨3,2,1,[114,101,109,97,105,110,105,110,103]⟩,⟨4,0,2,[114,101,116,114,121]⟩,⟨5,3,3,[110,111,116,101]⟩]
def tK:List dh:=[⟨1,0,1,[101,112,111,99,104]⟩,⟨2,5,1,[116,97,98,108,101]⟩,⟨3,3,2,[114,101,103,105,111,110]⟩,⟨4,0,3,[100,105,103,101,115,116]⟩]
def tN:List dh:=[⟨1,0,2,[98,97,115,101]⟩,⟨2,0,2,[101,112,111,99,104]⟩,⟨3,5,2,[116,97,98,108,101]⟩,⟨4,3,2,[114,101,103,105,111,110]⟩,⟨5,0,3,[100,105,103,101,115,116]⟩]
def tV:List dh:=[⟨1,0,1,[101,112,111,99,104]⟩,⟨2,0,3,[108,97,103]⟩]
def tX:List dh:=[⟨1,0,1,[101,112,111,99,104]⟩,⟨2,0,1,[99,111,100,101]⟩,⟨3,0,2,[119,97,110,116]⟩,⟨4,3,3,[110,111,116,101]⟩]
def iI (k:Int):List dh:=if k=1 then sp1 else if k=2 then sp2 else if k=3 then tH else if k=4 then tJ else if k=5 then tK else if k=6 then tN else if k=7 then tV else if k=8 then tX else []
def vZ (k:Int):Int:=if k=1 then 1 else if k=2 then 1 else if k=3 then 1 else if k=4 then 1 else if k=5 then 1 else if k=6 then 2 else if k=7 then 1 else if k=8 then 1 else 0
def dP (k v:Int):List dh:=(iI k).filter fun s=>decide (s.from_≤v)
theorem aiU:TT.lim 32 []=some [.l (sp1.map bG)]:=by refine aG rfl rfl ?_ rfl;simp [sp1,bG]
theorem aiT:TT.lim 34 []=some [.l (sp2.map bG)]:=by refine aG rfl rfl ?_ rfl;simp [sp2,bG]
theorem afQ:TT.lim 35 []=some [.l (tH.map bG)]:=by refine aG rfl rfl ?_ rfl;simp [tH,bG]
theorem afR:TT.lim 36 []=some [.l (tJ.map bG)]:=by refine aG rfl rfl ?_ rfl;simp [tJ,bG]
theorem ah8:TT.lim 37 []=some [.l (tK.map bG)]:=by refine aG rfl rfl ?_ rfl;simp [tK,bG]
theorem ag2:TT.lim 38 []=some [.l (tN.map bG)]:=by refine aG rfl rfl ?_ rfl;simp [tN,bG]
theorem afa:TT.lim 39 []=some [.l (tV.map bG)]:=by refine aG rfl rfl ?_ rfl;simp [tV,bG]
theorem alW:TT.lim 40 []=some [.l (tX.map bG)]:=by refine aG rfl rfl ?_ rfl;simp [tX,bG]
theorem ajC (k:Int):TT.lim 30 [.i .i64 k]=some [.i .i64 (vZ k)]:=by
 refine aG rfl rfl ?_ rfl
 unfold vZ
 by_cases h1:k=1
 ·simp -implicitDefEqProofs [h1]
 by_cases h2:k=2
 ·simp -implicitDefEqProofs [h2]
 by_cases h3:k=3
 ·simp -implicitDefEqProofs [h3]
 by_cases h4:k=4
 ·simp -implicitDefEqProofs [h4]
 by_cases h5:k=5
 ·simp -implicitDefEqProofs [h5]
 by_cases h6:k=6
 ·simp -implicitDefEqProofs [h6]
 by_cases h7:k=7
 ·simp -implicitDefEqProofs [h7]
 by_cases h8:k=8
 ·simp -implicitDefEqProofs [h8]
 simp -implicitDefEqProofs [h1,h2,h3,h4,h5,h6,h7,h8]
theorem Qd (v:Int) (l:List dh) (hl:l.length≤8):∀ (m i:Nat) (acc:List dh),i+m=l.length→acc.length≤i→
 TT.lim 33 [.i .i64 v,.l (acc.map bG),.l (l.map bG),.i .i64 l.length,.i .i64 i]=some [.i .i64 0,.l ((acc++(l.drop i).filter fun s=>decide (s.from_≤v)).map bG)]
 | 0,i,acc,hi,ha=>by
   have h0:l.drop i=[]:=List.drop_eq_nil_of_le (by omega)
   refine aA rfl rfl ?_
   have h:¬ ((i:Int) < l.length):=by omega
   simp -implicitDefEqProofs [h,h0]
 | m+1,i,acc,hi,ha=>by
   have hlt:i < l.length:=by omega
   have hd:=List.drop_eq_getElem_cons hlt
   refine aA rfl rfl ?_
   have h:((i:Int) < l.length):=by omega
   have hw:=wrap64 (n:=(i:Int)+1) (by omega) (by omega)
   have hb1:2 * (acc.length+1) * 40≤281474976710656:=by omega
   have hb2:acc.length≤281474976710655:=by omega
   have hok:(bG l[i]).gJ 4=true:=rfl
   have hcast:((i:Int)+1)=((i+1:Nat):Int):=by omega
   by_cases hf:l[i].from_≤v
   ·have ih:=Qd v l hl m (i+1) (acc++[l[i]]) (by omega) (by simp;omega)
    rw [← hcast,List.map_append] at ih
    simp only [List.map_cons,List.map_nil] at ih
    simp -implicitDefEqProofs [-List.getElem_cons_drop,h,hlt,hf,hw,aee,hb1,hb2,hok,ih,hd]
   ·have ih:=Qd v l hl m (i+1) acc (by omega) (by omega)
    rw [← hcast] at ih
    simp -implicitDefEqProofs [-List.getElem_cons_drop,h,hlt,hf,hw,ih,hd]
theorem SL (k:Int):(iI k).length≤8:=by
 unfold iI
 repeat' split
 all_goals (first | (unfold sp1;decide) | (unfold sp2;decide) | (unfold tH;decide) | (unfold tJ;decide) | (unfold tK;decide) | (unfold tN;decide) | (unfold tV;decide) | (unfold tX;decide) | decide)
theorem yC (v:Int) (l:List dh) (hl:l.length≤8):TT.lim 33 [.i .i64 v,.l [],.l (l.map bG),.i .i64 l.length,.i .i64 0]=some [.i .i64 0,.l ((l.filter fun s=>decide (s.from_≤v)).map bG)]:=by
 have:=Qd v l hl l.length 0 [] (by omega) (by simp)
 simpa using this
theorem abA (k v:Int) (h1:1≤v) (h3:v≤3) (hk:vZ k≤v):TT.lim 31 [.i .i64 k,.i .i64 v]=some [.l ((dP k v).map bG)]:=by
 have a1:¬ v < 1:=by omega
 have a3:¬ 3 < v:=by omega
 unfold dP iI
 unfold vZ at hk
 have g1:=yC v sp1 (by decide)
 have g2:=yC v sp2 (by decide)
 have g3:=yC v tH (by decide)
 have g4:=yC v tJ (by decide)
 have g5:=yC v tK (by decide)
 have g6:=yC v tN (by decide)
 have g7:=yC v tV (by decide)
 have g8:=yC v tX (by decide)
 have e1:=aiU
 have e2:=aiT
 have e3:=afQ
 have e4:=afR
 have e5:=ah8
 have e6:=ag2
 have e7:=afa
 have e8:=alW
 generalize sp1=p1 at *
 generalize sp2=p2 at *
 generalize tH=p3 at *
 generalize tJ=p4 at *
 generalize tK=p5 at *
 generalize tN=p6 at *
 generalize tV=p7 at *
 generalize tX=p8 at *
 refine aG rfl rfl ?_ rfl
 by_cases k1:k=1
 ·simp -implicitDefEqProofs [k1,a1,a3,e1,g1]
 by_cases k2:k=2
 ·simp -implicitDefEqProofs [k2,a1,a3,e2,g2]
 by_cases k3:k=3
 ·simp -implicitDefEqProofs [k3,a1,a3,e3,g3]
 by_cases k4:k=4
 ·simp -implicitDefEqProofs [k4,a1,a3,e4,g4]
 by_cases k5:k=5
 ·simp -implicitDefEqProofs [k5,a1,a3,e5,g5]
 by_cases k6:k=6
 ·have a2:¬ v < 2:=by subst k6;simpa using hk
  simp -implicitDefEqProofs [k6,a1,a2,a3,e6,g6]
 by_cases k7:k=7
 ·simp -implicitDefEqProofs [k7,a1,a3,e7,g7]
 by_cases k8:k=8
 ·simp -implicitDefEqProofs [k8,a1,a3,e8,g8]
 simp -implicitDefEqProofs [k1,k2,k3,k4,k5,k6,k7,k8]
theorem adw (k:Int):TT.lim 101 [.i .i64 k]=some [.l ((iI k).map bG)]:=by
 unfold iI
 refine aG rfl rfl ?_ rfl
 by_cases k1:k=1
 ·simp -implicitDefEqProofs [k1,sp1,bG]
 by_cases k2:k=2
 ·simp -implicitDefEqProofs [k2,sp2,bG]
 by_cases k3:k=3
 ·simp -implicitDefEqProofs [k3,tH,bG]
 by_cases k4:k=4
 ·simp -implicitDefEqProofs [k4,tJ,bG]
 by_cases k5:k=5
 ·simp -implicitDefEqProofs [k5,tK,bG]
 by_cases k6:k=6
 ·simp -implicitDefEqProofs [k6,tN,bG]
 by_cases k7:k=7
 ·simp -implicitDefEqProofs [k7,tV,bG]
 by_cases k8:k=8
 ·simp -implicitDefEqProofs [k8,tX,bG]
 simp -implicitDefEqProofs [k1,k2,k3,k4,k5,k6,k7,k8]
theorem RX (v:Int) (h3:v≤3) (l:List dh) (hl:l.length≤8):∀ (m i:Nat) (acc:List dh),i+m=l.length→acc.length≤i→
 TT.lim 102 [.i .i64 v,.l (acc.map bG),.l (l.map bG),.i .i64 l.length,.i .i64 i]=some [.i .i64 0,.l ((acc++(l.drop i).filter fun s=>decide (s.from_≤v)).map bG)]
 | 0,i,acc,hi,ha=>by
   have h0:l.drop i=[]:=List.drop_eq_nil_of_le (by omega)
   refine aA rfl rfl ?_
   have h:¬ ((i:Int) < l.length):=by omega
   simp -implicitDefEqProofs [h,h0]
 | m+1,i,acc,hi,ha=>by
   have hlt:i < l.length:=by omega
   have hd:=List.drop_eq_getElem_cons hlt
   refine aA rfl rfl ?_
   have h:((i:Int) < l.length):=by omega
   have hw:=wrap64 (n:=(i:Int)+1) (by omega) (by omega)
   have hb1:2 * (acc.length+1) * 40≤281474976710656:=by omega
   have hb2:acc.length≤281474976710655:=by omega
   have hok:(bG l[i]).gJ 4=true:=rfl
   have hcast:((i:Int)+1)=((i+1:Nat):Int):=by omega
   by_cases hf:l[i].from_≤v
   ·have ih:=RX v h3 l hl m (i+1) (acc++[l[i]]) (by omega) (by simp;omega)
    rw [← hcast,List.map_append] at ih
    simp only [List.map_cons,List.map_nil] at ih
    simp -implicitDefEqProofs [-List.getElem_cons_drop,h,hlt,h3,hf,hw,aee,hb1,hb2,hok,ih,hd]
   ·have ih:=RX v h3 l hl m (i+1) acc (by omega) (by omega)
    rw [← hcast] at ih
    simp -implicitDefEqProofs [-List.getElem_cons_drop,h,hlt,h3,hf,hw,ih,hd]
theorem ado (k v:Int) (h3:v≤3):TT.lim 100 [.i .i64 k,.i .i64 v]=some [.l ((dP k v).map bG)]:=by
 have h0:=adw k
 have h1:=RX v h3 (iI k) (SL k) (iI k).length 0 [] (by omega) (by simp)
 unfold dP
 generalize iI k=l at *
 have h1':TT.lim 102 [.i .i64 v,.l [],.l (l.map bG),.i .i64 l.length,.i .i64 0]=some [.i .i64 0,.l ((l.filter fun s=>decide (s.from_≤v)).map bG)]:=by simpa using h1
 refine aG rfl rfl ?_ rfl
 simp -implicitDefEqProofs [h0,h1']
theorem abD (k v:Int) (h1:1≤v) (h3:v≤3):dP k v=[]↔vZ k=0∨v < vZ k:=by
 have hv:v=1∨v=2∨v=3:=by omega
 unfold dP iI vZ
 by_cases k1:k=1
 ·subst k1;rcases hv with rfl | rfl | rfl<;>decide
 by_cases k2:k=2
 ·subst k2;rcases hv with rfl | rfl | rfl<;>decide
 by_cases k3:k=3
 ·subst k3;rcases hv with rfl | rfl | rfl<;>decide
 by_cases k4:k=4
 ·subst k4;rcases hv with rfl | rfl | rfl<;>decide
 by_cases k5:k=5
 ·subst k5;rcases hv with rfl | rfl | rfl<;>decide
 by_cases k6:k=6
 ·subst k6;rcases hv with rfl | rfl | rfl<;>decide
 by_cases k7:k=7
 ·subst k7;rcases hv with rfl | rfl | rfl<;>decide
 by_cases k8:k=8
 ·subst k8;rcases hv with rfl | rfl | rfl<;>decide
 simp -implicitDefEqProofs [k1,k2,k3,k4,k5,k6,k7,k8]
def aJ.tag:aJ→Int
 | .mk t _ _ _ _=>t
theorem mJ:∀ (a:List aJ),ak a=a.map gu
 | []=>rfl
 | f::a=>by simp only [ak,List.map_cons,mJ a]
mutual
def oG:aJ→Nat
 | .mk _ _ _ _ l=>cO l+1
def cO:List aJ→Nat
 | []=>0
 | f::l=>oG f+cO l+1
end
mutual
def pY:aJ→Prop
 | .mk t y n s k=>(0≤t∧t < 18446744073709551616∧-128≤y∧y≤127∧0≤n∧n < 18446744073709551616∧s.length≤100000000∧k.length≤1000000)∧dX k
def dX:List aJ→Prop
 | []=>True
 | f::r=>pY f∧dX r
end
theorem rE:∀ {l:List aJ},dX l→∀f∈l,pY f
 | f::l,h,g,hg=>by
   simp only [dX] at h
   rcases List.mem_cons.1 hg with rfl | hg
   ·exact h.1
   ·exact rE h.2 g hg
theorem zi:∀ {l:List aJ} {f:aJ},f∈l→oG f < cO l
 | g::l,f,h=>by
   simp only [cO]
   rcases List.mem_cons.1 h with rfl | h
   ·omega
   ·have:=zi h;omega
mutual
/-- What is wrong with fields within so many lists, behind a tag. -/
def rC (w:Nat):aJ→Int
 | .mk _ y n s k=>if y=0 then (if s=[]∧k=[] then 0 else 8) else if y=1 then (if n=0∧k=[] then 0 else 8) else if y=2 then (if n=0∧s=[] then (if 8≤w then 9 else eG (w+1) 0 k) else 8) else 8
def eG (w:Nat) (ahead:Int):List aJ→Int
 | []=>0
 | f::r=>if f.tag=0 then 18 else if 4294967296 < f.tag then 18 else if f.tag≤ahead then 7 else if rC w f≠0 then rC w f else eG w f.tag r
end
@[simp] theorem asO (t y n:Int) (s:List UInt8) (k:List aJ):(gu (.mk t y n s k)).cells=[.i .u64 t,.i .i64 y,.i .u64 n,.s s,.l (ak k)]:=by simp only [gu];rfl
theorem CS (k:List aJ):(ak k).length=0↔k=[]:=by rw [iq,List.length_eq_zero_iff]
theorem aaN:∀ (N:Nat) (l:List aJ),cO l < N→dX l→l.length≤1000000→∀w:Nat,w≤8→TT.lim 78 [.l (ak l),.i .i64 w]=some [.i .i64 (eG w 0 l)]
 | 0,l,h,_,_,_,_=>by omega
 | N+1,l,hN,hok,hlen,w,hw8=>by
   have loop:∀m i (ahead:Int),i+m=l.length→TT.lim 79 [.i .i64 w,.i .u64 ahead,.l (ak l),.i .i64 l.length,.i .i64 i]=some (if eG w ahead (l.drop i)=0 then [.i .i64 1] else [.i .i64 0,.i .i64 (eG w ahead (l.drop i))]):=by
    intro m
    induction m with
    | zero=>
      intro i ahead hi
      have h0:l.drop i=[]:=List.drop_eq_nil_of_le (by omega)
      refine aA rfl rfl ?_
      have h:¬ ((i:Int) < l.length):=by omega
      simp -implicitDefEqProofs [h,h0,eG]
    | succ m ih=>
      intro i ahead hi
      have hlt:i < l.length:=by omega
      rw [List.drop_eq_getElem_cons hlt]
      have hf:=rE hok l[i] (List.getElem_mem hlt)
      have hs:=zi (List.getElem_mem hlt)
      have hget:(ak l)[i]? = some (gu l[i]):=by rw [mJ,List.getElem?_map,List.getElem?_eq_getElem hlt];rfl
      have hcast:((i:Int)+1)=((i+1:Nat):Int):=by omega
      have ih':=fun a=>ih (i+1) a (by omega)
      simp only [← hcast] at ih'
      generalize l[i]=f at *
      obtain ⟨t,y,n,s,k⟩:=f
      simp only [pY] at hf
      simp only [oG] at hs
      have hwr:=wrap64 (n:=(i:Int)+1) (by omega) (by omega)
      have sQ:=wrap64 (n:=(w:Int)+1) (by omega) (by omega)
      refine aA rfl rfl ?_
      have h:((i:Int) < l.length):=by omega
      have hk:=fun h=>aaN N k (by omega) hf.2 hf.1.2.2.2.2.2.2.2 (w+1) h
      simp only [Int.natCast_add,Int.natCast_one] at hk
      have hkl:((ak k).length=0)=(k=[]):=propext (CS k)
      simp only [eG,aJ.tag]
      by_cases h1:t=0
      ·simp -implicitDefEqProofs [h,hget,h1]
      by_cases h2:4294967296 < t
      ·simp -implicitDefEqProofs [h,hget,h1,h2]
      by_cases h3:t≤ahead
      ·simp -implicitDefEqProofs [h,hget,h1,h2,h3]
      simp only [rC]
      by_cases h4:y=0
      ·subst h4
       by_cases h5:s=[]
       ·by_cases h6:k=[]
        ·simp -implicitDefEqProofs [h,hget,h1,h2,h3,h5,h6,hwr,ih',ak]
        ·simp -implicitDefEqProofs [h,hget,h1,h2,h3,h5,h6,hwr,ih',hkl]
       ·simp -implicitDefEqProofs [h,hget,h1,h2,h3,h5]
      by_cases h7:y=1
      ·subst h7
       by_cases h5:n=0
       ·by_cases h6:k=[]
        ·simp -implicitDefEqProofs [h,hget,h1,h2,h3,h5,h6,hwr,ih',ak]
        ·simp -implicitDefEqProofs [h,hget,h1,h2,h3,h5,h6,hwr,ih',hkl]
       ·simp -implicitDefEqProofs [h,hget,h1,h2,h3,h5]
      by_cases h8:y=2
      ·subst h8
       by_cases h5:n=0
       ·by_cases h6:s=[]
        ·by_cases h9:8≤w
         ·have qj:(8:Int)≤w:=by omega
          simp -implicitDefEqProofs [h,hget,h1,h2,h3,h5,h6,h9,qj]
         ·have qj:¬ (8:Int)≤w:=by omega
          have hk:=hk (by omega)
          by_cases h10:eG (w+1) 0 k=0
          ·rw [h10] at hk
           simp -implicitDefEqProofs [h,hget,h1,h2,h3,h5,h6,h9,qj,sQ,hk,h10,hwr,ih',aJ.tag]
          ·simp -implicitDefEqProofs [h,hget,h1,h2,h3,h5,h6,h9,qj,sQ,hk,h10,hwr,ih',aJ.tag]
        ·simp -implicitDefEqProofs [h,hget,h1,h2,h3,h5,h6]
       ·simp -implicitDefEqProofs [h,hget,h1,h2,h3,h5]
      simp -implicitDefEqProofs [h,hget,h1,h2,h3,h4,h7,h8]
   have h0:=loop l.length 0 0 (by omega)
   rw [List.drop_zero] at h0
   refine aG rfl rfl ?_ rfl
   have hl2:=iq l
   by_cases hc:eG w 0 l=0
   ·rw [if_pos hc] at h0
    have h0':TT.lim 79 [.i .i64 w,.i .u64 0,.l (ak l),.i .i64 (ak l).length,.i .i64 0]=some [.i .i64 1]:=by rw [hl2];exact h0
    simp -implicitDefEqProofs [h0',hc]
   ·rw [if_neg hc] at h0
    have h0':TT.lim 79 [.i .i64 w,.i .u64 0,.l (ak l),.i .i64 (ak l).length,.i .i64 0]=some [.i .i64 0,.i .i64 (eG w 0 l)]:=by rw [hl2];exact h0
    simp -implicitDefEqProofs [h0',hc]
theorem Io (l:List aJ) (hok:dX l) (hlen:l.length≤1000000):TT.lim 77 [.l (ak l)]=some [.i .i64 (eG 0 0 l)]:=by
 have h:=aaN (cO l+1) l (by omega) hok hlen 0 (by omega)
 have h':TT.lim 78 [.l (ak l),.i .i64 0]=_:=h
 refine aG rfl rfl ?_ rfl
 simp -implicitDefEqProofs [h']
theorem JJ:∀ (N:Nat) (l:List aJ),cO l < N→dX l→l.length≤1000000→∀w:Nat,w≤8→TT.lim 141 [.l (ak l),.i .i64 w]=some [.i .i64 (eG w 0 l)]
 | 0,l,h,_,_,_,_=>by omega
 | N+1,l,hN,hok,hlen,w,hw8=>by
   have loop:∀m i (ahead:Int),i+m=l.length→(i=0→ahead=0)→(∀j,j+1=i→∀h:j < l.length,(l[j]).tag=ahead)→TT.lim 142 [.l (ak l),.i .i64 w,.i .i64 l.length,.i .i64 i]=some (if eG w ahead (l.drop i)=0 then [.i .i64 1] else [.i .i64 0,.i .i64 (eG w ahead (l.drop i))]):=by
    intro m
    induction m with
    | zero=>
      intro i ahead hi _ _
      have h0:l.drop i=[]:=List.drop_eq_nil_of_le (by omega)
      refine aA rfl rfl ?_
      have h:¬ ((i:Int) < l.length):=by omega
      simp -implicitDefEqProofs [h,h0,eG]
    | succ m ih=>
      intro i ahead hi ha0 ha
      have hlt:i < l.length:=by omega
      rw [List.drop_eq_getElem_cons hlt]
      have hf:=rE hok l[i] (List.getElem_mem hlt)
      have hs:=zi (List.getElem_mem hlt)
      have hget:(ak l)[i]? = some (gu l[i]):=by rw [mJ,List.getElem?_map,List.getElem?_eq_getElem hlt];rfl
      have hcast:((i:Int)+1)=((i+1:Nat):Int):=by omega
      have ih':=ih (i+1) l[i].tag (by omega) (by omega) (fun j hj h=>by have:j=i:=by omega
                                                                        subst this;rfl)
      simp only [← hcast] at ih'
      -- the one ahead
      have ai7:∀hi0:¬ i=0,∃y' n' s' k',(ak l)[i - 1]? = some (gu (.mk ahead y' n' s' k')):=by
       intro hi0
       rw [mJ,List.getElem?_map,List.getElem?_eq_getElem (show i - 1 < l.length by omega)]
       have:=ha (i - 1) (by omega) (by omega)
       generalize l[i - 1]=g at *
       obtain ⟨t',y',n',s',k'⟩:=g
       simp only [aJ.tag] at this
       subst this
       exact ⟨_,_,_,_,rfl⟩
      generalize l[i]=f at *
      obtain ⟨t,y,n,s,k⟩:=f
      simp only [pY] at hf
      simp only [oG] at hs
      dsimp only [aJ.tag] at ih'
      have hwr:=wrap64 (n:=(i:Int)+1) (by omega) (by omega)
      have hwm:=wrap64 (n:=(i:Int) - 1) (by omega) (by omega)
      have sQ:=wrap64 (n:=(w:Int)+1) (by omega) (by omega)
      refine aA rfl rfl ?_
      have h:((i:Int) < l.length):=by omega
      have hk:=fun h=>JJ N k (by omega) hf.2 hf.1.2.2.2.2.2.2.2 (w+1) h
      simp only [Int.natCast_add,Int.natCast_one] at hk
      have hkl:((ak k).length=0)=(k=[]):=propext (CS k)
      have hnil:TT.lim 141 [.l [],.i .i64 ((w:Int)+1)]=some [.i .i64 0]:=by
       refine aG rfl rfl ?_ rfl
       have h0:TT.lim 142 [.l [],.i .i64 ((w:Int)+1),.i .i64 0,.i .i64 0]=some [.i .i64 1]:=by
        refine aA rfl rfl ?_
        simp
       simp -implicitDefEqProofs [h0]
      simp only [eG,aJ.tag]
      by_cases h1:t=0
      ·simp -implicitDefEqProofs [h,hget,h1]
      by_cases h2:4294967296 < t
      ·simp -implicitDefEqProofs [h,hget,h1,h2]
      by_cases hi0:(0:Int) < i
      ·obtain ⟨y',n',s',k',hp⟩:=ai7 (by omega)
       have hge:0 < i:=by omega
       have ql:(1:Int)≤i:=by omega
       by_cases h3:t≤ahead
       ·simp -implicitDefEqProofs [h,hget,h1,h2,hi0,hge,ql,hwm,hp,h3]
       simp only [rC]
       by_cases h4:y=0
       ·subst h4
        by_cases h5:s=[]
        ·by_cases h6:k=[]
         ·simp -implicitDefEqProofs [h,hget,h1,h2,hi0,hge,ql,hwm,hp,h3,h5,h6,hwr,sQ,ih',hnil,if_true,if_false,ak,aJ.tag]<;>rfl
         ·have h6':¬ (ak k).length=0:=by rw [CS];exact h6
          have zZ:¬ ak k=[]:=fun e=>h6' (by rw [e];rfl)
          simp -implicitDefEqProofs [h,hget,h1,h2,hi0,hge,ql,hwm,hp,h3,h5,h6,zZ]
        ·simp -implicitDefEqProofs [h,hget,h1,h2,hi0,hge,ql,hwm,hp,h3,h5]
       by_cases h7:y=1
       ·subst h7
        by_cases h5:n=0
        ·by_cases h6:k=[]
         ·simp -implicitDefEqProofs [h,hget,h1,h2,hi0,hge,ql,hwm,hp,h3,h5,h6,hwr,sQ,ih',hnil,if_true,if_false,ak,aJ.tag]<;>rfl
         ·have h6':¬ (ak k).length=0:=by rw [CS];exact h6
          have zZ:¬ ak k=[]:=fun e=>h6' (by rw [e];rfl)
          simp -implicitDefEqProofs [h,hget,h1,h2,hi0,hge,ql,hwm,hp,h3,h5,h6,zZ]
        ·simp -implicitDefEqProofs [h,hget,h1,h2,hi0,hge,ql,hwm,hp,h3,h5]
       by_cases h8:y=2
       ·subst h8
        by_cases h5:n=0
        ·by_cases h6:s=[]
         ·by_cases h9:8≤w
          ·have qj:(w:Int)=8:=by omega
           simp -implicitDefEqProofs [h,hget,h1,h2,hi0,hge,ql,hwm,hp,h3,h5,h6,h9,qj]
          ·have qj:¬ (w:Int)=8:=by omega
           have hk:=hk (by omega)
           by_cases h10:eG (w+1) 0 k=0
           ·rw [h10] at hk
            simp -implicitDefEqProofs [h,hget,h1,h2,hi0,hge,ql,hwm,hp,h3,h5,h6,h9,qj,sQ,hk,h10,hwr,ih',aJ.tag]<;>rfl
           ·simp -implicitDefEqProofs [h,hget,h1,h2,hi0,hge,ql,hwm,hp,h3,h5,h6,h9,qj,sQ,hk,h10,hwr,ih',aJ.tag]<;>rfl
         ·simp -implicitDefEqProofs [h,hget,h1,h2,hi0,hge,ql,hwm,hp,h3,h5,h6]
        ·simp -implicitDefEqProofs [h,hget,h1,h2,hi0,hge,ql,hwm,hp,h3,h5]
       by_cases h9:y < 0
       ·simp -implicitDefEqProofs [h,hget,h1,h2,hi0,hge,ql,hwm,hp,h3,h4,h7,h8,h9]
       ·have h10:2 < y:=by omega
        simp -implicitDefEqProofs [h,hget,h1,h2,hi0,hge,ql,hwm,hp,h3,h4,h7,h8,h9,h10]
      ·have hz:(0 < i)=False:=eq_false (by omega)
       have h3:¬ t≤ahead:=by
        rw [ha0 (by omega)];omega
       simp only [rC]
       by_cases h4:y=0
       ·subst h4
        by_cases h5:s=[]
        ·by_cases h6:k=[]
         ·simp -implicitDefEqProofs [h,hget,h1,h2,hz,h3,h5,h6,hwr,sQ,ih',hnil,if_true,if_false,ak,aJ.tag]<;>rfl
         ·have h6':¬ (ak k).length=0:=by rw [CS];exact h6
          have zZ:¬ ak k=[]:=fun e=>h6' (by rw [e];rfl)
          simp -implicitDefEqProofs [h,hget,h1,h2,hz,h3,h5,h6,zZ]
        ·simp -implicitDefEqProofs [h,hget,h1,h2,hz,h3,h5]
       by_cases h7:y=1
       ·subst h7
        by_cases h5:n=0
        ·by_cases h6:k=[]
         ·simp -implicitDefEqProofs [h,hget,h1,h2,hz,h3,h5,h6,hwr,sQ,ih',hnil,if_true,if_false,ak,aJ.tag]<;>rfl
         ·have h6':¬ (ak k).length=0:=by rw [CS];exact h6
          have zZ:¬ ak k=[]:=fun e=>h6' (by rw [e];rfl)
          simp -implicitDefEqProofs [h,hget,h1,h2,hz,h3,h5,h6,zZ]
        ·simp -implicitDefEqProofs [h,hget,h1,h2,hz,h3,h5]
       by_cases h8:y=2
       ·subst h8
        by_cases h5:n=0
        ·by_cases h6:s=[]
         ·by_cases h9:8≤w
          ·have qj:(w:Int)=8:=by omega
           simp -implicitDefEqProofs [h,hget,h1,h2,hz,h3,h5,h6,h9,qj]
          ·have qj:¬ (w:Int)=8:=by omega
           have hk:=hk (by omega)
           by_cases h10:eG (w+1) 0 k=0
           ·rw [h10] at hk
            simp -implicitDefEqProofs [h,hget,h1,h2,hz,h3,h5,h6,h9,qj,sQ,hk,h10,hwr,ih',aJ.tag]<;>rfl
           ·simp -implicitDefEqProofs [h,hget,h1,h2,hz,h3,h5,h6,h9,qj,sQ,hk,h10,hwr,ih',aJ.tag]<;>rfl
         ·simp -implicitDefEqProofs [h,hget,h1,h2,hz,h3,h5,h6]
        ·simp -implicitDefEqProofs [h,hget,h1,h2,hz,h3,h5]
       by_cases h9:y < 0
       ·simp -implicitDefEqProofs [h,hget,h1,h2,hz,h3,h4,h7,h8,h9]
       ·have h10:2 < y:=by omega
        simp -implicitDefEqProofs [h,hget,h1,h2,hz,h3,h4,h7,h8,h9,h10]
   have h0:=loop l.length 0 0 (by omega) (fun _=>rfl) (fun j hj=>by omega)
   rw [List.drop_zero] at h0
   refine aG rfl rfl ?_ rfl
   have hl2:=iq l
   by_cases hc:eG w 0 l=0
   ·rw [if_pos hc] at h0
    have h0':TT.lim 142 [.l (ak l),.i .i64 w,.i .i64 (ak l).length,.i .i64 0]=some [.i .i64 1]:=by rw [hl2];exact h0
    simp -implicitDefEqProofs [h0',hc]
   ·rw [if_neg hc] at h0
    have h0':TT.lim 142 [.l (ak l),.i .i64 w,.i .i64 (ak l).length,.i .i64 0]=some [.i .i64 0,.i .i64 (eG w 0 l)]:=by rw [hl2];exact h0
    simp -implicitDefEqProofs [h0',hc]
end Q
end Go.Proofs.YthgifdbaegpbpaaGreatDoor
