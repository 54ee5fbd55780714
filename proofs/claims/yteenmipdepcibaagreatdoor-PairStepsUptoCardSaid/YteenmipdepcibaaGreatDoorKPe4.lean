/- What the trees compute: plain laws. -/
import Derived.Test.YteenmipdepcibaaGreatDoorKPe3
set_option linter.unusedSimpArgs false
set_option linter.unusedVariables false
namespace Go.Proofs.YteenmipdepcibaaGreatDoor
open Go Go.aN
set_option maxRecDepth 100000
namespace P
noncomputable def dG (p:Prop):Bool:=@decide p (Classical.propDecidable p)
theorem lu{p:Prop}(h:p):dG p=true:=@G7 p (Classical.propDecidable p) h
theorem jT{p:Prop}(h:¬p):dG p=false:=@G6 p (Classical.propDecidable p) h
theorem La{p q:Prop}(h:p↔q):dG p=dG q:=by rw[propext h]
def qB(t y n:Int)(s:Q0)(k:List aI):GV:=.g [.i .u64 t,.i .i64 y,.i .u64 n,.s s,.l (aG k)]
@[simp] theorem aCe(t y n:Int)(s:Q0)(k:List aI):(qB t y n s k).cells=[.i .u64 t,.i .i64 y,.i .u64 n,.s s,.l (aG k)]:=rfl
theorem EP{l:List aI}{i:Nat}(h:i<l.length):∃t y n s k,l[i]? =some (.mk t y n s k)/\(aG l)[i]? =some (qB t y n s k)/\l.drop i=.mk t y n s k::l.drop (i+1)/\aI.mk t y n s k∈l:=by
 have hget:(aG l)[i]? =some (oJ l[i]):=by rw[Aw,iP,bK h];rfl
 have hd:=gY h;have hm:=gK h;have hg:=bK h;cases hf:l[i]with
 |mk t y n s k=>rw[hf]at hget hd hm hg;exact⟨t,y,n,s,k,hg,by rw[hget];simp only[oJ];rfl,hd,hm⟩
def rY:List aI->List aI->Option (List (List aI×List aI))
 |.mk t y n s k::a,.mk t' y' n' s' k'::b=>if t=t'/\y=y'/\n=n'/\s=s' then(rY a b).map λr=>(if k.length=0/\k'.length=0 then[]else[(k,k')])++r else none
 |_,_=>some []
def jQ(q:List aI×List aI):GV:=.g [.l (aG q.1),.l (aG q.2)]
@[simp] theorem aDw(q:List aI×List aI):(jQ q).cells=[.l (aG q.1),.l (aG q.2)]:=rfl
def rV:List (List aI×List aI)->Nat
 |[]=>0
 |q::l=>cO q.1+1+rV l
theorem UJ:∀(a b:List (List aI×List aI)),rV (a++b)=rV a+rV b
 |[],b=>by simp[rV]
 |q::a,b=>by simp only[bC,rV,UJ a b];omega
theorem agW:∀(a:List (List aI×List aI)),a.length<=rV a
 |[]=>by simp[rV]
 |q::a=>by have:=agW a;simp only[gQ,rV];omega
def okP(q:List aI×List aI):Prop:=dS q.1/\dS q.2/\q.1.length<=1000000/\q.2.length<=1000000
theorem ahW:∀(a b:List aI),a.length=b.length->dS a->dS b->(match rY a b with
 |none=>a≠b
 |some ps=>((∀q∈ps,q.1=q.2)↔a=b)/\rV ps<=cO a/\∀q∈ps,okP q)
 |[],[],_,_,_=>by simp[rY,rV]
 |[],_::_,e,_,_=>by simp at e
 |_::_,[],e,_,_=>by simp at e
 |.mk t y n s k::a,.mk t' y' n' s' k'::b,e,ha,hb=>by
  simp only[dS,tK]at ha hb;have ih:=ahW a b (by simpa using e) ha.2 hb.2;unfold rY;by_cases hc:t=t'/\y=y'/\n=n'/\s=s'
  ·rw[aj hc];obtain⟨rfl,rfl,rfl,rfl⟩:=hc;cases hp:rY a b with
   |none=>
    rw[hp]at ih;simp only[acD];intro h;injection h with h1 h2
    exact ih h2
   |some ps=>
    rw[hp]at ih;obtain⟨i1,i2,i3⟩:=ih;simp only[gI];by_cases hk:k.length=0/\k'.length=0
    ·rw[aj hk];have e1:=jw hk.1;have e2:=jw hk.2;subst e1;subst e2;refine⟨by simpa using i1,by simp only[aV,cO,uq];omega,by simpa using i3⟩
    ·rw[ah hk];refine⟨?_,by simp only[bC,aV,rV,cO,uq];omega,λq hq=>?_⟩
     ·simp only[bC,aV,bG,forall_eq_or_imp,i1];constructor
      ·rintro⟨h1,h2⟩;rw[h1,h2]
      ·intro h;injection h with h1 h2
       injection h1 with _ _ _ _ h5
       exact⟨h5,h2⟩
     ·simp only[bC,aV,bG]at hq;rcases hq with rfl|hq
      ·exact⟨ha.1.2,hb.1.2,ha.1.1.2.2.2.2.2.2.2,hb.1.1.2.2.2.2.2.2.2⟩
      ·exact i3 q hq
  ·rw[ah hc];intro h;injection h with h1 h2
   injection h1 with k1 k2 k3 k4 _
   exact hc ⟨k1,k2,k3,k4⟩
theorem Yx(a b:List aI)(hl:a.length=b.length)(hla:a.length<=1000000)(ha:dS a)(hb:dS b):∀(m i:Nat)(acc:List (List aI×List aI)),i+m=a.length->acc.length+m<=4000000->
 TT.lim 230 [.l (acc.map jQ),.i .i64 a.length,.i .i64 i,.l (aG a),.l (aG b)]=some (match rY (a.drop i) (b.drop i)with|none=>[.i .i64 0]|some ps=>[.i .i64 1,.l ((acc++ps).map jQ)])
 |0,i,acc,hi,hacc=>by
  have e1:a.drop i=[]:=fZ (by omega);have e2:b.drop i=[]:=fZ (by omega);have h:¬((i:Int)<a.length):=by omega
  rw[e1,e2];simp only[rY,qL];generalize acc.map jQ=A at *;refine au rfl rfl ?_;simp[h]
 |m+1,i,acc,hi,hacc=>by
  obtain⟨t,y,n,s,k,g1,g2,g3,g4⟩:=EP (l:=a) (i:=i) (by omega);obtain⟨t',y',n',s',k',g1',g2',g3',g4'⟩:=EP (l:=b) (i:=i) (by omega);have hwr:=wrap64 (n:=(i:Int)+1) (by omega) (by omega);have h:((i:Int)<a.length):=by omega
  have hcast:((i+1:Nat):Int)=(i:Int)+1:=by omega
  have hz1:=nX k;have hz2:=nX k';rw[g3,g3'];unfold rY;by_cases c1:t=t';rotate_left
  ·rw[ah λh=>c1 h.1];refine au rfl rfl ?_;simp[h,g2,g2',c1]
  by_cases c2:y=y';rotate_left
  ·rw[ah λh=>c2 h.2.1];refine au rfl rfl ?_;simp[h,g2,g2',c1,c2]
  by_cases c3:n=n';rotate_left
  ·rw[ah λh=>c3 h.2.2.1];refine au rfl rfl ?_;simp[h,g2,g2',c1,c2,c3]
  by_cases c4:s=s';rotate_left
  ·rw[ah λh=>c4 h.2.2.2];refine au rfl rfl ?_;simp[h,g2,g2',c1,c2,c3,c4]
  rw[aj ⟨c1,c2,c3,c4⟩];by_cases hk:k.length=0/\k'.length=0
  ·rw[aj hk];have ih':=Yx a b hl hla ha hb m (i+1) acc (by omega) (by omega);rw[hcast]at ih';have z1:=jw hk.1;have z2:=jw hk.2;have hR:(match Option.map (λr=>[]++r) (rY (a.drop (i+1)) (b.drop (i+1)))with|none=>[GV.i .i64 0]|some ps=>[GV.i .i64 1,GV.l ((acc++ps).map jQ)])=(match rY (a.drop (i+1)) (b.drop (i+1))with|none=>[GV.i .i64 0]|some ps=>[GV.i .i64 1,GV.l ((acc++ps).map jQ)]):=by cases rY (a.drop (i+1)) (b.drop (i+1))<;>simp
   rw[hR];generalize(match rY (a.drop (i+1)) (b.drop (i+1))with|none=>[GV.i .i64 0]|some ps=>[GV.i .i64 1,GV.l ((acc++ps).map jQ)])=R at *;generalize acc.map jQ=A at *;refine au rfl rfl ?_;simp[h,g2,g2',c1,c2,c3,c4,z1,z2,aG,hwr,ih']
  ·rw[ah hk];have ih':=Yx a b hl hla ha hb m (i+1) (acc++[(k,k')]) (by omega) (by simp;omega);rw[hcast]at ih';have hR:(match Option.map (λr=>[(k,k')]++r) (rY (a.drop (i+1)) (b.drop (i+1)))with|none=>[GV.i .i64 0]|some ps=>[GV.i .i64 1,GV.l ((acc++ps).map jQ)])=(match rY (a.drop (i+1)) (b.drop (i+1))with|none=>[GV.i .i64 0]|some ps=>[GV.i .i64 1,GV.l ((acc++[(k,k')]++ps).map jQ)]):=by cases rY (a.drop (i+1)) (b.drop (i+1))<;>simp
   rw[hR];generalize(match rY (a.drop (i+1)) (b.drop (i+1))with|none=>[GV.i .i64 0]|some ps=>[GV.i .i64 1,GV.l ((acc++[(k,k')]++ps).map jQ)])=R at *;have hmap:(acc++[(k,k')]).map jQ=acc.map jQ++[.g [.l (aG k),.l (aG k')]]:=by simp[jQ]
   rw[hmap]at ih';have hb1:2*((acc.map jQ).length+1)*48<=281474976710656/\(acc.map jQ).length+1<=281474976710656:=by rw[fE];omega
   generalize acc.map jQ=A at *;have hb2:A.length<=281474976710655:=by omega
   by_cases z0:k.length=0;rotate_left
   ·have z1:0<k.length:=by omega
    have z3:k≠[]:=λe=>by rw[e]at z0;exact z0 rfl
    have hel:GV.fC 2 (.g [.l (aG k),.l (aG k')])=true:=rfl;refine au rfl rfl ?_;simp[h,g2,g2',c1,c2,c3,c4,hz1,hz2,z1,z3,hwr,ih',hel,hb1,hb2]
   ·have z1:=jw z0;have z2:0<k'.length:=by omega
    have z3:k'≠[]:=λe=>by rw[e]at z2;exact absurd z2 (by simp)
    subst z1;have hel:GV.fC 2 (.g [.l [],.l (aG k')])=true:=rfl;simp only[aG,qB]at ih' g2 hz1;refine au rfl rfl ?_;simp[h,g2,g2',c1,c2,c3,c4,hz2,z2,z3,hwr,ih',hel,hb1,hb2]
theorem ae5:∀(N:Nat)(work:List (List aI×List aI)),rV work<N->rV work<=2000000->(∀q∈work,okP q)->TT.lim 229 [.l (work.map jQ)]=some [.i .i64 (if dG (∀q∈work,q.1=q.2)=true then 1 else 0)]
 |0,work,hN,_,_=>by omega
 |N+1,work,hN,hM,hok=>by
  rcases ajS work with rfl|⟨ws,q,rfl⟩
  ·have ht:dG (∀q∈([]:List (List aI×List aI)),q.1=q.2)=true:=lu (by simp);rw[ht];refine au rfl rfl ?_;simp
  ·rw[ajR]at *;obtain⟨a,b⟩:=q;have hq:=hok (a,b) (by simp);obtain⟨q1,q2,q3,q4⟩:=hq;simp only at q1 q2 q3 q4;have hlen:=agW ws;rw[UJ]at hN hM;simp only[rV]at hN hM;have hl1:=nX a;have hl2:=nX b;have hmap:(ws++[(a,b)]).map jQ=ws.map jQ++[jQ (a,b)]:=by simp
   have hwl:(ws.map jQ).length=ws.length:=fE ..;have hall:∀x∈ws.map jQ,x.cells.length=2:=by intro x hx;obtain⟨r,_,rfl⟩:=qj.1 hx;rfl
   have key:=Yx a b;have i0:(0:Int)<(ws.length:Int)+1:=by omega
   have i1:(ws.length:Int)+1-1=ws.length:=by omega
   have i2:(ws.length:Int)<(ws.length:Int)+1:=by omega
   have i3:(ws.length:Int)<=(ws.length:Int)+1:=by omega
   have hwr:=wrap64 (n:=(ws.length:Int)) (by omega) (by omega);rw[hmap];by_cases hl:a.length=b.length;rotate_left
   ·have hne:dG (∀q∈ws++[(a,b)],q.1=q.2)=false:=jT λh=>hl (uK List.length (h (a,b) (by simp)));have hc:¬((a.length:Int)=(b.length:Int)):=by omega
    rw[hne];generalize ws.map jQ=A at *;have OD:=eq_true hall;clear hall;refine au rfl rfl ?_;simp[hwl,i0,i1,i2,i3,hwr,jQ,hl1,hl2,hc,OD]
   ·have hpo:=ahW a b hl q1 q2;have key:=key hl q3 q1 q2 a.length 0 ws (by omega) (by omega);rw[dD,dD,show((0:Nat):Int)=0 from rfl]at key;have hc:b.length=a.length:=by omega
    cases hp:rY a b with
    |none=>
     rw[hp]at hpo key;have hne:dG (∀q∈ws++[(a,b)],q.1=q.2)=false:=jT λh=>hpo (h (a,b) (by simp));rw[hne];simp only at key;generalize ws.map jQ=A at *;have hA:A.length<281474976710656:=by omega
     have OD:=eq_true hall;clear hall;refine au rfl rfl ?_;simp[hwl,i0,i1,i2,i3,hwr,jQ,hl1,hl2,hc,key,OD]
    |some ps=>
     rw[hp]at hpo key;obtain⟨p1,p2,p3⟩:=hpo;have ih:=ae5 N (ws++ps) (by rw[UJ];omega) (by rw[UJ];omega) (λq hq=>by
      rcases kG.1 hq with hq|hq
      ·exact hok q (by simp[hq])
      ·exact p3 q hq)
     have hcg:dG (∀q∈ws++[(a,b)],q.1=q.2)=dG (∀q∈ws++ps,q.1=q.2):=La (by simp only[kG,or_imp,forall_and,p1,uy,forall_eq])
     rw[hcg];generalize dG (∀q∈ws++ps,q.1=q.2)=R at *;simp only at key;generalize(ws++ps).map jQ=B at *;generalize ws.map jQ=A at *;have OD:=eq_true hall;clear hall;refine au rfl rfl ?_;simp[hwl,i0,i1,i2,i3,hwr,jQ,hl1,hl2,hc,key,OD,ih]
theorem aqs(a b:List aI)(ha:dS a)(hb:dS b)(hla:a.length<=1000000)(hlb:b.length<=1000000)(hs:cO a<=1000000):TT.lim 228 [.l (aG a),.l (aG b)]=some [.b (dG (a=b))]:=by
 have h:=ae5 (cO a+2) [(a,b)] (by simp[rV]) (by simp[rV];omega) (by intro q hq;simp at hq;subst hq;exact⟨ha,hb,hla,hlb⟩);have hcg:dG (∀q∈[(a,b)],q.1=q.2)=dG (a=b):=La (by simp);rw[hcg]at h;have hm:[(a,b)].map jQ=[.g [.l (aG a),.l (aG b)]]:=rfl;rw[hm]at h;refine aP rfl rfl ?_ rfl;generalize dG (a=b)=r at *;cases r with
 |true=>simp at h;simp[h]
 |false=>simp at h;simp[h]
mutual
def toFt:aI->Ft
 |.mk t y n s k=>.mk [.int .u64 t,.int .i64 y,.int .u64 n,.string ⟨⟨s⟩⟩] (Jj k)
def Jj:List aI->List Ft
 |[]=>[]
 |f::l=>toFt f::Jj l
end
mutual
theorem aAn:∀f:aI,Df (toFt f) (oJ f)/\cntF (toFt f)<=uq f
 |.mk t y n s k=>by have h:=abu k;simp only[toFt,Df,oJ,cntF,uq];exact⟨⟨_,_,_,_,_,rfl,rfl,h.1⟩,by omega⟩
theorem abu:∀l:List aI,pO (Jj l) (aG l)/\nU (Jj l)<=cO l
 |[]=>by simp only[Jj,pO,aG,nU,cO];exact⟨trivial,bV _⟩
 |f::l=>by have h1:=aAn f;have h2:=abu l;simp only[Jj,pO,aG,nU,cO];exact⟨⟨_,_,rfl,h1.1,h2.1⟩,by omega⟩
end
theorem SS(l:List aI)(hs:cO l<=1000000):TT.lim 118 [.l (aG l)]=some [.l (aG l)]:=by refine yA (Ds:=Ds) (k:=118) (f:=KD) rfl ?_;have h:=abu l;unfold KD;exact aj ⟨Jj l,h.1,by omega⟩
theorem agQ(b:aT)(fl:List aI)(t:List Row)(ht:t.length<=1000)(hd:∀r∈t,r.1.length<=40):∀(m i:Nat),i+m=t.length->
 TT.lim 195 [.l ((t.take i).map row),.l (t.map row),.i .i64 t.length,.i .i64 i,.i .i64 b.kind,.i .u64 b.id,.i .u64 b.min,.i .u64 b.max,.i .u64 b.chosen,.i .u64 b.flags,.i .u64 b.cost,.i .u64 b.priority,.i .u64 b.deadline,.i .u64 b.retry,.i .u64 b.epoch,.i .u64 b.base,.i .u64 b.digest,.i .u64 b.lag,.i .u64 b.code,.i .u64 b.want,.i .i64 b.remaining,.b b.allowed,.s b.name,.s b.region,.s b.note,.l (b.d.map ent),.l (aG fl)]=some [.i .i64 0,.l (t.map row)]
 |0,i,hi=>by
  have h0:t.take i=t:=jZ (by omega);have h:¬((i:Int)<t.length):=by omega
  rw[h0];refine au rfl rfl ?_;simp[h]
 |m+1,i,hi=>by
  have hlt:i<t.length:=by omega
  have ih:=agQ b fl t ht hd m (i+1) (by omega);have h:((i:Int)<t.length):=by omega
  have hcast:((i+1:Nat):Int)=(i:Int)+1:=by omega
  have hwr:=wrap64 (n:=(i:Int)+1) (by omega) (by omega);have hg:(t.map row)[i]? =some (row t[i]):=by rw[iP,bK hlt];rfl
  have hc:=EG t[i].1 (hd _ (gK hlt));have hfold:GV.g [.l (t[i].1.map ent),.i .u64 t[i].2]=row t[i]:=rfl;have htk:(t.take (i+1)).map row=(t.take i).map row++[row t[i]]:=by rw[WT,bK hlt,lX];rfl
  rw[htk,hcast]at ih;have hel:(row t[i]).fC 2=true:=rfl;have hb1:2*(((t.take i).map row).length+1)*32<=281474976710656:=by simp;omega
  have hb2:((t.take i).map row).length<=281474976710655:=by simp;omega
  generalize(t.take i).map row=A at *;generalize t.map row=L at *;refine au rfl rfl ?_;simp[h,hg,hc,hfold,hel,hb1,hb2,hwr,ih]
theorem atw(b:aT)(fl:List aI)(hd:b.d.length<=40)(ht:fQ b.t)(hs:cO fl<=1000000):TT.lim 194 [iq b (aG fl)]=some [iq b (aG fl)]:=by
 have ar0:∀r∈b.t,r.1.length<=40:=λr hr=>by have:=ht.few r hr;unfold iF at this;rw[aK,decide_eq_true_iff]at this;exact this.2
 have h1:=agQ b fl b.t (by have:=ht.len;omega) ar0 b.t.length 0 (by omega);have hl:=ht.len;rw[QB,show((0:Nat):Int)=0 from rfl]at h1;have h2:=EG b.d hd;have h3:=SS fl hs;have hml:((b.t.map row).length:Int)=b.t.length:=by simp
 have hz1:(32:Int)*b.t.length<=281474976710656:=by omega
 have hz2:(b.t.length:Int)<=1152921504606846976:=by omega
 have hz3:b.t.length<=8796093022208:=by omega
 simp only[jl]at h1;generalize hL:b.t.map row=L at *;refine aP rfl rfl ?_ rfl;unfold iq;rw[hL];simp[hml,h1,h2,h3,GV.fC,hz1,hz2];try omega
def Ju(n:Int):Int:=if n%2=0 then n/2 else -(n/2)-1
theorem aBm(n:Int)(h0:0<=n)(h1:n<18446744073709551616):bQ .and .u64 n 1=some (.i .u64 (n%2))/\bQ .xor .i64 (IntKind.i64.wrap (n/2)) (IntKind.i64.wrap (0-IntKind.i64.wrap (n%2)))=some (.i .i64 (Ju n))/\n.fdiv 2=n/2:=by
 have wu:∀y:Int,IntKind.u64.wrap y=y%18446744073709551616:=λy=>by simp[IntKind.wrap,IntKind.signed,IntKind.bits]
 have hu:IntKind.u64.bits=64:=rfl;have hi:IntKind.i64.bits=64:=rfl;refine⟨?_,?_,Ea _ (by decide)⟩
 ·simp only[bQ,wu,hu];have e:(BitVec.ofInt 64 n &&& BitVec.ofInt 64 1).toNat=(BitVec.ofInt 64 n).toNat%2:=by rw[Wy];exact Nat.and_one_is_mod _
  show some (GV.i IntKind.u64 (((BitVec.ofInt 64 n &&& BitVec.ofInt 64 1).toNat:Int)%18446744073709551616))=_
  rw[e,sJ];congr 2;omega
 ·rw[wrap64 (by omega) (by omega),wrap64 (n:=n%2) (by omega) (by omega),wrap64 (by omega) (by omega)];simp only[bQ,hi];unfold Ju;by_cases h:n%2=0
  ·rw[aj h,h];have e:BitVec.ofInt 64 (0-0)=0#64:=rfl;show some (GV.i IntKind.i64 (IntKind.i64.wrap ((BitVec.ofInt 64 (n/2) ^^^ BitVec.ofInt 64 (0-0)).toNat:Int)))=_
   rw[e,BitVec.xor_zero,sJ];congr 2;rw[wrap64 (by omega) (by omega)];omega
  ·rw[ah h,show n%2=1 by omega];have e:BitVec.ofInt 64 (0-1)=BitVec.allOnes 64:=by decide
   show some (GV.i IntKind.i64 (IntKind.i64.wrap ((BitVec.ofInt 64 (n/2) ^^^ BitVec.ofInt 64 (0-1)).toNat:Int)))=_
   rw[e,abV,abT,sJ];congr 2;have wi:∀y:Int,IntKind.i64.wrap y=if y%18446744073709551616>=9223372036854775808 then y%18446744073709551616-18446744073709551616 else y%18446744073709551616:=λy=>by simp[IntKind.wrap,IntKind.signed,IntKind.bits]
   rw[wi];split<;>omega
def setB(b:aT)(n:Int)(s:Q0):Pl->aT
 |.rem=>{b with remaining:=Ju n}
 |.allow=>{b with allowed:=true}
 |.name=>{b with name:=s}
 |.region=>{b with region:=s}
 |.note=>{b with note:=s}
 |.d=>{b with d:=(rG s).1}
 |.t=>{b with t:=(sD s).1}
 |.num k=>match k with
  |0=>{b with id:=n}
  |1=>{b with min:=n}
  |2=>{b with max:=n}
  |3=>{b with chosen:=n}
  |4=>{b with flags:=n}
  |5=>{b with cost:=n}
  |6=>{b with priority:=n}
  |7=>{b with deadline:=n}
  |8=>{b with retry:=n}
  |9=>{b with epoch:=n}
  |10=>{b with base:=n}
  |11=>{b with digest:=n}
  |12=>{b with lag:=n}
  |13=>{b with code:=n}
  |_=>{b with want:=n}
def DF(n:Int)(s:Q0):Pl->Int
 |.allow=>if n=1 then 0 else 18
 |.name=>pq s 0 256
 |.region=>pq s 0 256
 |.note=>pq s 0 256
 |.d=>(rG s).2
 |.t=>if(sD s).2=0 then(if(sD s).1.length=0 then 17 else 0)else(sD s).2
 |_=>0
def qG(ty n:Int)(s:Q0)(p:Pl):Int:=if ty=fH p then(if ty=0 then(if n=0 then 17 else DF n s p)else(if s=[]then 17 else DF n s p))else 8
theorem asQ(u:Int):TT.lim 197 [.i .i64 u]=some [.i .i64 (if u=0 then 0 else if u=1 then 0 else if u=2 then 0 else if u=3 then 1 else if u=4 then 1 else if u=5 then 1 else -1)]:=by
 refine aP rfl rfl ?_ rfl;by_cases h0:u=0
 ·simp[h0]
 by_cases h1:u=1
 ·simp[h1]
 by_cases h2:u=2
 ·simp[h2]
 by_cases h3:u=3
 ·simp[h3]
 by_cases h4:u=4
 ·simp[h4]
 by_cases h5:u=5
 ·simp[h5]
 simp[h0,h1,h2,h3,h4,h5]
def qC(b:aT):Q1:=[.i .u64 b.id,.i .u64 b.min,.i .u64 b.max,.i .u64 b.chosen,.i .u64 b.flags,.i .u64 b.cost,.i .u64 b.priority,.i .u64 b.deadline,.i .u64 b.retry,.i .u64 b.epoch,.i .u64 b.base,.i .u64 b.digest,.i .u64 b.lag,.i .u64 b.code,.i .u64 b.want,.i .i64 b.remaining,.b b.allowed,.s b.name,.s b.region,.s b.note,.l (b.d.map ent),.l (b.t.map row)]
def WZ(b:aT)(r:Q1)(tag ty n:Int)(s:Q0)(L:GV)(nm:Q0)(p:Pl):Prop:=∃b':aT,TT.lim 196 [.s nm,.i .u64 tag,.i .i64 ty,.i .u64 n,.s s,L,.i .i64 b.kind,.i .u64 b.id,.i .u64 b.min,.i .u64 b.max,.i .u64 b.chosen,.i .u64 b.flags,.i .u64 b.cost,.i .u64 b.priority,.i .u64 b.deadline,.i .u64 b.retry,.i .u64 b.epoch,.i .u64 b.base,.i .u64 b.digest,.i .u64 b.lag,.i .u64 b.code,.i .u64 b.want,.i .i64 b.remaining,.b b.allowed,.s b.name,.s b.region,.s b.note,.l (b.d.map ent),.l (b.t.map row),.l r]=some ([.i .i64 0,.i .i64 (qG ty n s p)]++qC b')/\(qG ty n s p=0->b'=setB b n s p)
set_option maxHeartbeats 8000000 in
theorem ay3(b:aT)(r:Q1)(tag ty n:Int)(s:Q0)(L:GV)(hn:0<=n/\n<18446744073709551616)(hs:s.length<=100000000){nm:Q0}{p:Pl}(hp:placeOf nm=some p):WZ b r tag ty n s L nm p:=by
 unfold WZ;have hk:=asQ;have hI:=Uc hp;have hok:=(LV nm p hp).2.1;clear hp;by_cases h1:ty=fH p;rotate_left
 ·have e:qG ty n s p=8:=by unfold qG;rw[ah h1]
  refine⟨b,?_,λh=>by rw[e]at h;cases h⟩;rw[e];clear e;induction p,hok using LQ<;>(simp only[fH]at h1;refine au rfl rfl ?_;simp[hI,qC,hk,h1])
 subst h1;by_cases h2:(fH p=0/\n=0)\/(fH p=1/\s=[])
 ·have e:qG (fH p) n s p=17:=by
   unfold qG;rw[aj rfl];rcases h2 with⟨a,c⟩|⟨a,c⟩
   ·rw[aj a,aj c]
   ·rw[ah (by omega),aj c]
  refine⟨b,?_,λh=>by rw[e]at h;cases h⟩;rw[e];clear e;induction p,hok using LQ<;>(simp[fH]at h2;refine au rfl rfl ?_;simp[hI,qC,hk,fH,h2])
 have e:qG (fH p) n s p=DF n s p:=by
  unfold qG;rw[aj rfl];by_cases a:fH p=0
  ·rw[aj a,ah λc=>h2 (.inl ⟨a,c⟩)]
  ·rw[ah a,ah λc=>h2 (.inr ⟨by cases p<;>simp[fH]at a⊢,c⟩)]
 rw[e];clear e;induction p,hok using LQ
 case h0=>
  have h2:¬n=0:=by simpa[fH]using h2
  obtain⟨k1,k2,k3⟩:=aBm n hn.1 hn.2;refine⟨{b with remaining:=Ju n},?_,λ_=>rfl⟩;show _=some ([GV.i .i64 0,GV.i .i64 0]++_)
  refine au rfl rfl ?_;simp only[Int.zero_sub]at k2;simp[hI,qC,hk,fH,h2,jB,IntKind.bits,k1,k2,k3]
 case h1=>
  have h2:¬n=0:=by simpa[fH]using h2
  by_cases h3:n=1
  ·have e2:DF n s .allow=0:=by unfold DF;rw[aj h3]
   rw[e2];refine⟨{b with allowed:=true},?_,λ_=>rfl⟩;refine au rfl rfl ?_;simp[hI,qC,hk,fH,h2,h3]
  ·have e2:DF n s .allow=18:=by unfold DF;rw[ah h3]
   rw[e2];refine⟨b,?_,λh=>by cases h⟩;refine au rfl rfl ?_;simp[hI,qC,hk,fH,h2,h3]
 case h5=>
  have h2:¬s=[]:=by simpa[fH]using h2
  have hc:=aeh s hs;refine⟨{b with d:=(rG s).1},?_,λ_=>rfl⟩;show _=some ([GV.i .i64 0,GV.i .i64 (rG s).2]++_)
  refine au rfl rfl ?_;simp[hI,qC,hk,fH,h2,hc]
 case h6=>
  have h2:¬s=[]:=by simpa[fH]using h2
  have hc:=aAt s hs;refine⟨{b with t:=(sD s).1},?_,λ_=>rfl⟩;unfold DF;by_cases h3:(sD s).2=0
  ·rw[aj h3];by_cases h4:(sD s).1.length=0
   ·have h5:=jw h4;rw[aj h4];refine au rfl rfl ?_;simp[hI,qC,hk,fH,h2,hc,h3,h5]
   ·have h5:(sD s).1≠[]:=λe=>h4 (by rw[e];rfl);rw[ah h4];refine au rfl rfl ?_;simp[hI,qC,hk,fH,h2,hc,h3,h5]
  ·rw[ah h3];refine au rfl rfl ?_;simp[hI,qC,hk,fH,h2,hc,h3]
 all_goals first
  |(have h2:¬s=[]:=by simpa[fH]using h2
    have hc:=EF s 0 256 (by omega);refine⟨setB b n s _,?_,λ_=>rfl⟩;show _=some ([GV.i .i64 0,GV.i .i64 (pq s 0 256)]++_)
    generalize pq s 0 256=u at *;refine au rfl rfl ?_;simp[hI,qC,setB,hk,fH,h2,hc];done)
  |(have h2:¬n=0:=by simpa[fH]using h2
    refine⟨setB b n s _,?_,λ_=>rfl⟩;show _=some ([GV.i .i64 0,GV.i .i64 0]++_)
    refine au rfl rfl ?_;simp[hI,qC,setB,hk,fH,h2])
def iZ:aT:={kind:=0,id:=0,min:=0,max:=0,chosen:=0,flags:=0,cost:=0,priority:=0,deadline:=0,retry:=0,epoch:=0,base:=0,digest:=0,lag:=0,code:=0,want:=0,remaining:=0,allowed:=false,name:=[],region:=[],note:=[],d:=[],t:=[]}
def abN(b:aT)(r:Q1)(ty n:Int)(s:Q0)(p:Pl):Q1:=if qG ty n s p=0 then[iq (setB b n s p) r,.i .i64 0]else[iq iZ [],.i .i64 (qG ty n s p)]
def abM(b:aT)(r:Q1)(ty n:Int)(s nm:Q0):Q1:=match placeOf nm with
 |some p=>abN b r ty n s p
 |none=>[iq iZ [],.i .i64 26]
theorem aiz(b:aT)(n:Int)(s:Q0)(p:Pl):(setB b n s p).kind=b.kind:=by unfold setB;split<;>first|rfl|(split<;>rfl)
theorem ay5(b:aT)(r:Q1)(tag ty n:Int)(s:Q0)(L:GV){nm:Q0}(hp:placeOf nm=none):TT.lim 196 [.s nm,.i .u64 tag,.i .i64 ty,.i .u64 n,.s s,L,.i .i64 b.kind,.i .u64 b.id,.i .u64 b.min,.i .u64 b.max,.i .u64 b.chosen,.i .u64 b.flags,.i .u64 b.cost,.i .u64 b.priority,.i .u64 b.deadline,.i .u64 b.retry,.i .u64 b.epoch,.i .u64 b.base,.i .u64 b.digest,.i .u64 b.lag,.i .u64 b.code,.i .u64 b.want,.i .i64 b.remaining,.b b.allowed,.s b.name,.s b.region,.s b.note,.l (b.d.map ent),.l (b.t.map row),.l r]=some ([.i .i64 0,.i .i64 26]++qC b):=by have hI:=afW hp;refine au rfl rfl ?_;simp[qC,hI]
theorem ay2(b:aT)(r:Q1)(tag ty n:Int)(s:Q0)(L:GV)(hn:0<=n/\n<18446744073709551616)(hs:s.length<=100000000)(nm:Q0):(∃p,placeOf nm=some p/\WZ b r tag ty n s L nm p)\/(placeOf nm=none/\TT.lim 196 [.s nm,.i .u64 tag,.i .i64 ty,.i .u64 n,.s s,L,.i .i64 b.kind,.i .u64 b.id,.i .u64 b.min,.i .u64 b.max,.i .u64 b.chosen,.i .u64 b.flags,.i .u64 b.cost,.i .u64 b.priority,.i .u64 b.deadline,.i .u64 b.retry,.i .u64 b.epoch,.i .u64 b.base,.i .u64 b.digest,.i .u64 b.lag,.i .u64 b.code,.i .u64 b.want,.i .i64 b.remaining,.b b.allowed,.s b.name,.s b.region,.s b.note,.l (b.d.map ent),.l (b.t.map row),.l r]=some ([.i .i64 0,.i .i64 26]++qC b)):=by
 cases hp:placeOf nm with
 |some p=>exact .inl ⟨p,rfl,ay3 b r tag ty n s L hn hs hp⟩
 |none=>exact .inr ⟨rfl,ay5 b r tag ty n s L hp⟩
theorem auh(K:Q1)(b:aT)(fl:List aI)(hd:b.d.length<=40)(ht:fQ b.t)(hsz:cO fl<=1000000)(tag ty n:Int)(s:Q0)(hn:0<=n/\n<18446744073709551616)(hs:s.length<=100000000)(nm:Q0):
 TT.lim 193 [iq b (aG fl),.s nm,.g [.i .u64 tag,.i .i64 ty,.i .u64 n,.s s,.l K]]=some (abM b (aG fl) ty n s nm):=by
 have hc:=atw b fl hd ht hsz;have ha:=ay2 b (aG fl) tag ty n s (.l K) hn hs nm;generalize aG fl=r at *;have hz:GV.g [.i .i64 0,.i .u64 0,.i .u64 0,.i .u64 0,.i .u64 0,.i .u64 0,.i .u64 0,.i .u64 0,.i .u64 0,.i .u64 0,.i .u64 0,.i .u64 0,.i .u64 0,.i .u64 0,.i .u64 0,.i .u64 0,.i .i64 0,.b false,.s [],.s [],.s [],.l [],.l [],.l []]=iq iZ []:=rfl;unfold abM;rcases ha with⟨p,hp,b',h1,h2⟩|⟨hp,h1⟩
 ·rw[hp];simp only;unfold abN;have hk:=aiz b n s p;generalize qG ty n s p=e at *;by_cases he:e=0
  ·have h3:=h2 he;rw[aj he];rw[he,h3]at h1;have hm:iq (setB b n s p) r=GV.g ([.i .i64 b.kind]++qC (setB b n s p)++[.l r]):=by rw[<-hk];rfl
   rw[hm];generalize setB b n s p=B at *;unfold qC at h1⊢;refine aP rfl rfl ?_ rfl;simp[jW,hc];simp[h1]
  ·rw[ah he];unfold qC at h1;rw[<-hz];refine aP rfl rfl ?_ rfl;simp[jW,hc];simp[h1,he]
 ·rw[hp];simp only;unfold qC at h1;rw[<-hz];refine aP rfl rfl ?_ rfl;simp[jW,hc];simp[h1]
def dh(b c:aT):Pl->Prop
 |.rem=>b.remaining=c.remaining
 |.allow=>b.allowed=c.allowed
 |.name=>b.name=c.name
 |.region=>b.region=c.region
 |.note=>b.note=c.note
 |.d=>b.d=c.d
 |.t=>b.t=c.t
 |.num k=>Fq b k=Fq c k
def mQ(b c:aT)(rb rc:Q1)(f:Nat)(n:Q0)(p:Prop):Prop:=∀(NL:Q1)(L K:Int)(i:Nat),(i:Int)<L->NL[i]? =some (.s n)->IntKind.i64.wrap ((i:Int)+1)=(i:Int)+1->TT.lim f ([.l NL,.i .i64 L,.i .i64 ((i:Int)+1)]++(iq c rc).cells++(iq b rb).cells)=some [.i .i64 K]->TT.lim f ([.l NL,.i .i64 L,.i .i64 i]++(iq c rc).cells++(iq b rb).cells)=some [.i .i64 (if dG p=true then K else 0)]
theorem atP(b c:aT)(rb rc:Q1):mQ b c rb rc 221 Iy (dh b c (.num 0)):=by
 intro NL L K i h hat hw ih;rw[dO,dO]at ih⊢;simp only[bC,aV]at ih⊢;unfold Iy at hat;by_cases hp:b.id=c.id
 ·have e:dG (dh b c (.num 0))=true:=lu hp;rw[e];replace hp:=eq_true hp
  refine au rfl rfl ?_;simp[h,hat,hp,hw,ih]
 ·have e:dG (dh b c (.num 0))=false:=jT hp;rw[e];refine au rfl rfl ?_;simp[h,hat,hp,hw]
theorem atT(b c:aT)(rb rc:Q1):mQ b c rb rc 221 IC (dh b c (.num 1)):=by
 intro NL L K i h hat hw ih;rw[dO,dO]at ih⊢;simp only[bC,aV]at ih⊢;unfold IC at hat;by_cases hp:b.min=c.min
 ·have e:dG (dh b c (.num 1))=true:=lu hp;rw[e];replace hp:=eq_true hp
  refine au rfl rfl ?_;simp[h,hat,hp,hw,ih]
 ·have e:dG (dh b c (.num 1))=false:=jT hp;rw[e];refine au rfl rfl ?_;simp[h,hat,hp,hw]
theorem atS(b c:aT)(rb rc:Q1):mQ b c rb rc 221 IB (dh b c (.num 2)):=by
 intro NL L K i h hat hw ih;rw[dO,dO]at ih⊢;simp only[bC,aV]at ih⊢;unfold IB at hat;by_cases hp:b.max=c.max
 ·have e:dG (dh b c (.num 2))=true:=lu hp;rw[e];replace hp:=eq_true hp
  refine au rfl rfl ?_;simp[h,hat,hp,hw,ih]
 ·have e:dG (dh b c (.num 2))=false:=jT hp;rw[e];refine au rfl rfl ?_;simp[h,hat,hp,hw]
theorem atG(b c:aT)(rb rc:Q1):mQ b c rb rc 221 Io (dh b c (.num 3)):=by
 intro NL L K i h hat hw ih;rw[dO,dO]at ih⊢;simp only[bC,aV]at ih⊢;unfold Io at hat;by_cases hp:b.chosen=c.chosen
 ·have e:dG (dh b c (.num 3))=true:=lu hp;rw[e];replace hp:=eq_true hp
  refine au rfl rfl ?_;simp[h,hat,hp,hw,ih]
 ·have e:dG (dh b c (.num 3))=false:=jT hp;rw[e];refine au rfl rfl ?_;simp[h,hat,hp,hw]
theorem atO(b c:aT)(rb rc:Q1):mQ b c rb rc 221 Iw (dh b c (.num 4)):=by
 intro NL L K i h hat hw ih;rw[dO,dO]at ih⊢;simp only[bC,aV]at ih⊢;unfold Iw at hat;by_cases hp:b.flags=c.flags
 ·have e:dG (dh b c (.num 4))=true:=lu hp;rw[e];replace hp:=eq_true hp
  refine au rfl rfl ?_;simp[h,hat,hp,hw,ih]
 ·have e:dG (dh b c (.num 4))=false:=jT hp;rw[e];refine au rfl rfl ?_;simp[h,hat,hp,hw]
theorem atI(b c:aT)(rb rc:Q1):mQ b c rb rc 221 Ip (dh b c (.num 5)):=by
 intro NL L K i h hat hw ih;rw[dO,dO]at ih⊢;simp only[bC,aV]at ih⊢;unfold Ip at hat;by_cases hp:b.cost=c.cost
 ·have e:dG (dh b c (.num 5))=true:=lu hp;rw[e];replace hp:=eq_true hp
  refine au rfl rfl ?_;simp[h,hat,hp,hw,ih]
 ·have e:dG (dh b c (.num 5))=false:=jT hp;rw[e];refine au rfl rfl ?_;simp[h,hat,hp,hw]
theorem atX(b c:aT)(rb rc:Q1):mQ b c rb rc 221 IG (dh b c (.num 6)):=by
 intro NL L K i h hat hw ih;rw[dO,dO]at ih⊢;simp only[bC,aV]at ih⊢;unfold IG at hat;by_cases hp:b.priority=c.priority
 ·have e:dG (dh b c (.num 6))=true:=lu hp;rw[e];replace hp:=eq_true hp
  refine au rfl rfl ?_;simp[h,hat,hp,hw,ih]
 ·have e:dG (dh b c (.num 6))=false:=jT hp;rw[e];refine au rfl rfl ?_;simp[h,hat,hp,hw]
theorem atJ(b c:aT)(rb rc:Q1):mQ b c rb rc 221 Iq (dh b c (.num 7)):=by
 intro NL L K i h hat hw ih;rw[dO,dO]at ih⊢;simp only[bC,aV]at ih⊢;unfold Iq at hat;by_cases hp:b.deadline=c.deadline
 ·have e:dG (dh b c (.num 7))=true:=lu hp;rw[e];replace hp:=eq_true hp
  refine au rfl rfl ?_;simp[h,hat,hp,hw,ih]
 ·have e:dG (dh b c (.num 7))=false:=jT hp;rw[e];refine au rfl rfl ?_;simp[h,hat,hp,hw]
theorem at1(b c:aT)(rb rc:Q1):mQ b c rb rc 221 IL (dh b c (.num 8)):=by
 intro NL L K i h hat hw ih;rw[dO,dO]at ih⊢;simp only[bC,aV]at ih⊢;unfold IL at hat;by_cases hp:b.retry=c.retry
 ·have e:dG (dh b c (.num 8))=true:=lu hp;rw[e];replace hp:=eq_true hp
  refine au rfl rfl ?_;simp[h,hat,hp,hw,ih]
 ·have e:dG (dh b c (.num 8))=false:=jT hp;rw[e];refine au rfl rfl ?_;simp[h,hat,hp,hw]
theorem atN(b c:aT)(rb rc:Q1):mQ b c rb rc 221 zC (dh b c (.num 9)):=by
 intro NL L K i h hat hw ih;rw[dO,dO]at ih⊢;simp only[bC,aV]at ih⊢;unfold zC at hat;by_cases hp:b.epoch=c.epoch
 ·have e:dG (dh b c (.num 9))=true:=lu hp;rw[e];replace hp:=eq_true hp
  refine au rfl rfl ?_;simp[h,hat,hp,hw,ih]
 ·have e:dG (dh b c (.num 9))=false:=jT hp;rw[e];refine au rfl rfl ?_;simp[h,hat,hp,hw]
theorem atE(b c:aT)(rb rc:Q1):mQ b c rb rc 221 Il (dh b c (.num 10)):=by
 intro NL L K i h hat hw ih;rw[dO,dO]at ih⊢;simp only[bC,aV]at ih⊢;unfold Il at hat;by_cases hp:b.base=c.base
 ·have e:dG (dh b c (.num 10))=true:=lu hp;rw[e];replace hp:=eq_true hp
  refine au rfl rfl ?_;simp[h,hat,hp,hw,ih]
 ·have e:dG (dh b c (.num 10))=false:=jT hp;rw[e];refine au rfl rfl ?_;simp[h,hat,hp,hw]
theorem atM(b c:aT)(rb rc:Q1):mQ b c rb rc 221 Iu (dh b c (.num 11)):=by
 intro NL L K i h hat hw ih;rw[dO,dO]at ih⊢;simp only[bC,aV]at ih⊢;unfold Iu at hat;by_cases hp:b.digest=c.digest
 ·have e:dG (dh b c (.num 11))=true:=lu hp;rw[e];replace hp:=eq_true hp
  refine au rfl rfl ?_;simp[h,hat,hp,hw,ih]
 ·have e:dG (dh b c (.num 11))=false:=jT hp;rw[e];refine au rfl rfl ?_;simp[h,hat,hp,hw]
theorem atQ(b c:aT)(rb rc:Q1):mQ b c rb rc 221 Iz (dh b c (.num 12)):=by
 intro NL L K i h hat hw ih;rw[dO,dO]at ih⊢;simp only[bC,aV]at ih⊢;unfold Iz at hat;by_cases hp:b.lag=c.lag
 ·have e:dG (dh b c (.num 12))=true:=lu hp;rw[e];replace hp:=eq_true hp
  refine au rfl rfl ?_;simp[h,hat,hp,hw,ih]
 ·have e:dG (dh b c (.num 12))=false:=jT hp;rw[e];refine au rfl rfl ?_;simp[h,hat,hp,hw]
theorem atH(b c:aT)(rb rc:Q1):mQ b c rb rc 221 zB (dh b c (.num 13)):=by
 intro NL L K i h hat hw ih;rw[dO,dO]at ih⊢;simp only[bC,aV]at ih⊢;unfold zB at hat;by_cases hp:b.code=c.code
 ·have e:dG (dh b c (.num 13))=true:=lu hp;rw[e];replace hp:=eq_true hp
  refine au rfl rfl ?_;simp[h,hat,hp,hw,ih]
 ·have e:dG (dh b c (.num 13))=false:=jT hp;rw[e];refine au rfl rfl ?_;simp[h,hat,hp,hw]
theorem aua(b c:aT)(rb rc:Q1):mQ b c rb rc 221 AZ (dh b c (.num 14)):=by
 intro NL L K i h hat hw ih;rw[dO,dO]at ih⊢;simp only[bC,aV]at ih⊢;unfold AZ at hat;by_cases hp:b.want=c.want
 ·have e:dG (dh b c (.num 14))=true:=lu hp;rw[e];replace hp:=eq_true hp
  refine au rfl rfl ?_;simp[h,hat,hp,hw,ih]
 ·have e:dG (dh b c (.num 14))=false:=jT hp;rw[e];refine au rfl rfl ?_;simp[h,hat,hp,hw]
theorem atZ(b c:aT)(rb rc:Q1):mQ b c rb rc 221 IK (dh b c .rem):=by
 intro NL L K i h hat hw ih;rw[dO,dO]at ih⊢;simp only[bC,aV]at ih⊢;unfold IK at hat;by_cases hp:b.remaining=c.remaining
 ·have e:dG (dh b c .rem)=true:=lu hp;rw[e];replace hp:=eq_true hp
  refine au rfl rfl ?_;simp[h,hat,hp,hw,ih]
 ·have e:dG (dh b c .rem)=false:=jT hp;rw[e];refine au rfl rfl ?_;simp[h,hat,hp,hw]
theorem atD(b c:aT)(rb rc:Q1):mQ b c rb rc 221 Ik (dh b c .allow):=by
 intro NL L K i h hat hw ih;rw[dO,dO]at ih⊢;simp only[bC,aV]at ih⊢;unfold Ik at hat;by_cases hp:b.allowed=c.allowed
 ·have e:dG (dh b c .allow)=true:=lu hp;rw[e];replace hp:=eq_true hp
  refine au rfl rfl ?_;simp[h,hat,hp,hw,ih]
 ·have e:dG (dh b c .allow)=false:=jT hp;rw[e];refine au rfl rfl ?_;simp[h,hat,hp,hw]
theorem atU(b c:aT)(rb rc:Q1):mQ b c rb rc 221 IE (dh b c .name):=by
 intro NL L K i h hat hw ih;rw[dO,dO]at ih⊢;simp only[bC,aV]at ih⊢;unfold IE at hat;by_cases hp:b.name=c.name
 ·have e:dG (dh b c .name)=true:=lu hp;rw[e];replace hp:=eq_true hp
  refine au rfl rfl ?_;simp[h,hat,hp,hw,ih]
 ·have e:dG (dh b c .name)=false:=jT hp;rw[e];refine au rfl rfl ?_;simp[h,hat,hp,hw]
theorem atY(b c:aT)(rb rc:Q1):mQ b c rb rc 221 IJ (dh b c .region):=by
 intro NL L K i h hat hw ih;rw[dO,dO]at ih⊢;simp only[bC,aV]at ih⊢;unfold IJ at hat;by_cases hp:b.region=c.region
 ·have e:dG (dh b c .region)=true:=lu hp;rw[e];replace hp:=eq_true hp
  refine au rfl rfl ?_;simp[h,hat,hp,hw,ih]
 ·have e:dG (dh b c .region)=false:=jT hp;rw[e];refine au rfl rfl ?_;simp[h,hat,hp,hw]
theorem atV(b c:aT)(rb rc:Q1):mQ b c rb rc 221 Dn (dh b c .note):=by
 intro NL L K i h hat hw ih;rw[dO,dO]at ih⊢;simp only[bC,aV]at ih⊢;unfold Dn at hat;by_cases hp:b.note=c.note
 ·have e:dG (dh b c .note)=true:=lu hp;rw[e];replace hp:=eq_true hp
  refine au rfl rfl ?_;simp[h,hat,hp,hw,ih]
 ·have e:dG (dh b c .note)=false:=jT hp;rw[e];refine au rfl rfl ?_;simp[h,hat,hp,hw]
theorem atK(b c:aT)(rb rc:Q1)(hbd:b.d.length<=140737488351232)(hcd:c.d.length<=140737488351232):mQ b c rb rc 221 Ir (dh b c .d):=by
 intro NL L K i h hat hw ih;rw[dO,dO]at ih⊢;simp only[bC,aV]at ih⊢;unfold Ir at hat;have k:=aeK b.d c.d hbd hcd;by_cases hp:b.d=c.d
 ·have e:dG (dh b c .d)=true:=lu hp;rw[e];rw[G7 hp]at k;refine au rfl rfl ?_;simp[h,hat,k,hw,ih]
 ·have e:dG (dh b c .d)=false:=jT hp;rw[e];rw[G6 hp]at k;refine au rfl rfl ?_;simp[h,hat,k,hw]
theorem at7(b c:aT)(rb rc:Q1)(hbt:fQ b.t)(hct:fQ c.t):mQ b c rb rc 221 IQ (dh b c .t):=by
 intro NL L K i h hat hw ih;rw[dO,dO]at ih⊢;simp only[bC,aV]at ih⊢;unfold IQ at hat;have k:=ayW b.t c.t hbt hct;by_cases hp:b.t=c.t
 ·have e:dG (dh b c .t)=true:=lu hp;rw[e];rw[G7 hp]at k;refine au rfl rfl ?_;simp[h,hat,k,hw,ih]
 ·have e:dG (dh b c .t)=false:=jT hp;rw[e];rw[G6 hp]at k;refine au rfl rfl ?_;simp[h,hat,k,hw]
theorem ag0:iG=[Ik,Il,Io,zB,Ip,Iq,Ir,Iu,zC,Iw,Iy,Iz,IB,IC,IE,Dn,IG,IJ,IK,IL,IQ,AZ]:=rfl
theorem at6(b c:aT)(rb rc:Q1)(hbd:b.d.length<=140737488351232)(hcd:c.d.length<=140737488351232)(hbt:fQ b.t)(hct:fQ c.t):∀n∈iG,∃p,placeOf n=some p/\mQ b c rb rc 221 n (dh b c p):=by
 intro n hn;rw[ag0]at hn;simp only[bG,F9,or_false]at hn;rcases hn with rfl|rfl|rfl|rfl|rfl|rfl|rfl|rfl|rfl|rfl|rfl|rfl|rfl|rfl|rfl|rfl|rfl|rfl|rfl|rfl|rfl|rfl
 ·exact⟨_,ahp,atD b c rb rc⟩
 ·exact⟨_,ahq,atE b c rb rc⟩
 ·exact⟨_,ahr,atG b c rb rc⟩
 ·exact⟨_,ahs,atH b c rb rc⟩
 ·exact⟨_,aht,atI b c rb rc⟩
 ·exact⟨_,ahu,atJ b c rb rc⟩
 ·exact⟨_,ahv,atK b c rb rc hbd hcd⟩
 ·exact⟨_,ahw,atM b c rb rc⟩
 ·exact⟨_,ahx,atN b c rb rc⟩
 ·exact⟨_,ahy,atO b c rb rc⟩
 ·exact⟨_,ahz,atP b c rb rc⟩
 ·exact⟨_,ahA,atQ b c rb rc⟩
 ·exact⟨_,ahB,atS b c rb rc⟩
 ·exact⟨_,ahC,atT b c rb rc⟩
 ·exact⟨_,ahD,atU b c rb rc⟩
 ·exact⟨_,ahE,atV b c rb rc⟩
 ·exact⟨_,ahF,atX b c rb rc⟩
 ·exact⟨_,ahG,atY b c rb rc⟩
 ·exact⟨_,ahH,atZ b c rb rc⟩
 ·exact⟨_,ahI,at1 b c rb rc⟩
 ·exact⟨_,ahJ,at7 b c rb rc hbt hct⟩
 ·exact⟨_,ahK,aua b c rb rc⟩
theorem air(b c:aT)(rb rc:Q1)(f:Nat)(Q:Pl->Prop)(hend:∀(NL:Q1)(L:Int)(i:Nat),¬(i:Int)<L->TT.lim f ([.l NL,.i .i64 L,.i .i64 i]++(iq c rc).cells++(iq b rb).cells)=some [.i .i64 1])(hs:∀n∈iG,∃p,placeOf n=some p/\mQ b c rb rc f n (Q p)):∀m i:Nat,i+m=iG.length->
 TT.lim f ([.l (iG.map .s),.i .i64 iG.length,.i .i64 i]++(iq c rc).cells++(iq b rb).cells)=some [.i .i64 (if dG (∀n∈iG.drop i,∀p,placeOf n=some p->Q p)=true then 1 else 0)]
 |0,i,hi=>by have e:dG (∀n∈iG.drop i,∀p,placeOf n=some p->Q p)=true:=lu (by rw[fZ (by omega)];simp);rw[e];exact hend _ _ i (by omega)
 |m+1,i,hi=>by
  have hlt:i<iG.length:=by omega
  have aCQ:iG.length=22:=rfl;have hw:=wrap64 (n:=(i:Int)+1) (by omega) (by omega);have ih:=air b c rb rc f Q hend hs m (i+1) (by omega);obtain⟨p,hp,hst⟩:=hs _ (gK hlt);have hat:(iG.map GV.s)[i]? =some (.s iG[i]):=by rw[iP,bK hlt];rfl
  have hcast:((i+1:Nat):Int)=(i:Int)+1:=by omega
  rw[hcast]at ih;have hx:=hst _ _ _ i (by omega) hat hw ih;rw[hx,gY hlt];have hq:(∀n∈iG[i]::iG.drop (i+1),∀p,placeOf n=some p->Q p)↔(Q p/\∀n∈iG.drop (i+1),∀p,placeOf n=some p->Q p):=by
   simp only[bG,forall_eq_or_imp];constructor
   ·exact λh=>⟨h.1 p hp,h.2⟩
   ·intro h;refine⟨λq hq=>?_,h.2⟩;rw[hp]at hq;injection hq with hq
    rw[<-hq];exact h.1
  rw[La hq];by_cases h1:Q p
  ·rw[lu h1,aj rfl];have:dG (Q p/\∀n∈iG.drop (i+1),∀p,placeOf n=some p->Q p)=dG (∀n∈iG.drop (i+1),∀p,placeOf n=some p->Q p):=La ⟨λh=>h.2,λh=>⟨h1,h⟩⟩;rw[this]
  ·rw[jT h1,ah (by decide),jT λh=>h1 h.1,ah (by decide)]
theorem parts_all(b c:aT)(hk:b.kind=c.kind):(∀n∈iG,∀p,placeOf n=some p->dh b c p)↔b=c:=by
 constructor
 ·intro h;rw[ag0]at h;have h0:∀{n:Q0}{p:Pl},n∈[Ik,Il,Io,zB,Ip,Iq,Ir,Iu,zC,Iw,Iy,Iz,IB,IC,IE,Dn,IG,IJ,IK,IL,IQ,AZ]->placeOf n=some p->dh b c p:=λh1 h2=>h _ h1 _ h2;have awo:=h0 (by simp) ahH;have av4:=h0 (by simp) ahp;have awk:=h0 (by simp) ahD;have awn:=h0 (by simp) ahG;have awl:=h0 (by simp) ahE;have awc:=h0 (by simp) ahv;have awq:=h0 (by simp) ahJ;have awg:=h0 (by simp) ahz;have awj:=h0 (by simp) ahC;have awi:=h0 (by simp) ahB;have av6:=h0 (by simp) ahr;have awf:=h0 (by simp) ahy;have av8:=h0 (by simp) aht;have awm:=h0 (by simp) ahF;have av9:=h0 (by simp) ahu;have awp:=h0 (by simp) ahI;have awe:=h0 (by simp) ahx;have av5:=h0 (by simp) ahq;have awd:=h0 (by simp) ahw;have awh:=h0 (by simp) ahA;have av7:=h0 (by simp) ahs;have awr:=h0 (by simp) ahK;clear h h0;cases b;cases c;simp only[dh,Fq]at *;subst hk;subst awo;subst av4;subst awk;subst awn;subst awl;subst awc;subst awq;subst awg;subst awj;subst awi;subst av6;subst awf;subst av8;subst awm;subst av9;subst awp;subst awe;subst av5;subst awd;subst awh;subst av7;subst awr;rfl
 ·rintro rfl n _ p _
  cases p<;>simp[dh]
theorem atW(b c:aT)(fb fc:List aI)(hbd:b.d.length<=40)(hcd:c.d.length<=40)(hbt:fQ b.t)(hct:fQ c.t)(hb8:dS fb)(hc8:dS fc)(hbl:fb.length<=1000000)(hcl:fc.length<=1000000)(hsz:cO fb<=1000000):TT.lim 220 [iq b (aG fb),iq c (aG fc)]=some [.b (dG (b=c/\fb=fc))]:=by
 have h8:=aqs fb fc hb8 hc8 hbl hcl hsz;have hn:=agX;have h0:=air b c (aG fb) (aG fc) 221 (dh b c) (λNL L i h=>by rw[dO,dO];simp only[bC,aV];refine au rfl rfl ?_;simp[h]) (at6 b c (aG fb) (aG fc) (by omega) (by omega) hbt hct) iG.length 0 (by omega)
 have hal:((iG.map GV.s).length:Int)=(iG.length:Int):=by rw[fE]
 rw[dD]at h0;rw[dO,dO]at h0;simp only[bC,aV,qZ]at h0;by_cases hk:b.kind=c.kind;rotate_left
 ·rw[jT λh=>hk (by rw[h.1])];refine aP rfl rfl ?_ rfl;simp[hk]
 have hpa:=parts_all b c hk;replace hk:(b.kind=c.kind)=True:=eq_true hk
 rw[La hpa]at h0;clear hpa;generalize iG.map GV.s=NL at *;generalize(iG.length:Int)=L at *;by_cases hbc:b=c
 ·rw[lu hbc]at h0;have e:dG (b=c/\fb=fc)=dG (fb=fc):=La ⟨λh=>h.2,λh=>⟨hbc,h⟩⟩;rw[e];generalize dG (fb=fc)=u at *;simp only[if_true]at h0;refine aP rfl rfl ?_ rfl;simp[hk,hn,hal,h0,h8]
 ·rw[jT hbc]at h0;rw[jT λh=>hbc h.1];simp only[iO,if_false]at h0;refine aP rfl rfl ?_ rfl;simp[hk,hn,hal,h0]
theorem aBn{n:Int}(hn:0<=n/\n<18446744073709551616): -9223372036854775808<=Ju n/\Ju n<=9223372036854775807:=by unfold Ju;split<;>omega
theorem aiy{b:aT}{n:Int}{s:Q0}{p:Pl}{ty:Int}(hb:sH b)(hd:iF b.d=true)(ht:fQ b.t)(hn:0<=n/\n<18446744073709551616)(hs:s.length<=100000000)(h:qG ty n s p=0):sH (setB b n s p)/\iF (setB b n s p).d=true/\fQ (setB b n s p).t:=by
 have hE:DF n s p=0:=by
  unfold qG at h;split at h
  ·split at h<;>split at h<;>first|exact h|exact absurd h (by decide)
  ·exact absurd h (by decide)
 cases p with
 |rem=>exact⟨{hb with remaining:=aBn hn},hd,ht⟩
 |allow=>exact⟨{hb with},hd,ht⟩
 |name=>exact⟨{hb with name:=by show s.length<=_;omega},hd,ht⟩
 |region=>exact⟨{hb with region:=by show s.length<=_;omega},hd,ht⟩
 |note=>exact⟨{hb with note:=by show s.length<=_;omega},hd,ht⟩
 |d=>have hp:=aei (s:=s) hE hs;exact⟨{hb with d:=hp.ents},hp.few,ht⟩
 |t=>have hp:=(aAu (s:=s) hs).1;exact⟨{hb with t:=hp.rows},hd,hp.good⟩
 |num k=>
  unfold setB;split<;>rename_i hk
  ·exact absurd hk (by simp)
  ·exact absurd hk (by simp)
  ·exact absurd hk (by simp)
  ·exact absurd hk (by simp)
  ·exact absurd hk (by simp)
  ·exact absurd hk (by simp)
  ·exact absurd hk (by simp)
  ·split<;>exact⟨by constructor<;>first|exact hn|exact hb.kind|exact hb.id|exact hb.min|exact hb.max|exact hb.chosen|exact hb.flags|exact hb.cost|exact hb.priority|exact hb.deadline|exact hb.retry|exact hb.epoch|exact hb.base|exact hb.digest|exact hb.lag|exact hb.code|exact hb.want|exact hb.remaining|exact hb.name|exact hb.region|exact hb.note|exact hb.d|exact hb.t,hd,ht⟩
structure rE(b:aT)(fl:List aI):Prop where
 body:sH b
 d:iF b.d=true
 t:fQ b.t
 f8:dS fl
 len:fl.length<=1000000
theorem FX:rE iZ []:=⟨by constructor<;>simp[iZ,qJ,Rows],by simp[iZ,iF],⟨by simp[iZ],by intro r hr;simp[iZ]at hr,by simp[iZ,Rows]⟩,by simp only[dS],by simp⟩
theorem rE.atC{b c:aT}{fb fc:List aI}(h:rE b fb)(k:rE c fc)(hsz:cO fb<=1000000):TT.lim 220 [iq b (aG fb),iq c (aG fc)]=some [.b (dG (b=c/\fb=fc))]:=atW b c fb fc (CQ h.d) (CQ k.d) h.t k.t h.f8 k.f8 h.len k.len hsz
theorem aue(b:aT)(r:Q1)(hb:sH b)(hd:iF b.d=true)(hf:wV b.t)(n:Q0):(∃p,placeOf n=some p/\TT.lim 109 [iq b r,.s n]=some [.g [.i .u64 0,.i .i64 (fH p),.i .u64 (dw b p).1,.s (dw b p).2,.l []],.b true])\/
 (placeOf n=none/\TT.lim 109 [iq b r,.s n]=some [.g [.i .u64 0,.i .i64 0,.i .u64 0,.s [],.l []],.b false]):=by
 cases hp:placeOf n with
 |some p=>exact .inl ⟨p,rfl,aud b r hb (λ_=>hd) (λ_=>hf) hp⟩
 |none=>exact .inr ⟨rfl,aug b r hp⟩
theorem auf{b:aT}{fl:List aI}(h:rE b fl){n:Q0}{p:Pl}(hp:placeOf n=some p):TT.lim 109 [iq b (aG fl),.s n]=some [.g [.i .u64 0,.i .i64 (fH p),.i .u64 (dw b p).1,.s (dw b p).2,.l []],.b true]:=by
 rcases aue b (aG fl) h.body h.d h.t.few n with⟨q,hq,hv⟩|⟨hq,-⟩
 ·rw[hp]at hq;injection hq with hq
  rw[hq];exact hv
 ·rw[hp]at hq;cases hq
theorem au1(t:List Row)(ht:fQ t):(yx t).length<=90000000:=by
 have h:=aaU t [] (λr hr=>⟨ht.few r hr,(ht.rows.2 r hr).2⟩);have h3:=ht.len;have hv:(aY t.length).length<=20:=by have:=ny (n:=t.length) (by omega);omega
 unfold yx;rw[fU];have:40000*t.length<=40000*300:=WW _ h3;omega
