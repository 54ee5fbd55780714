/- What the trees compute: plain laws. -/
import Derived.Test.YthgifdbaegpbpaaGreatDoorKKe2
namespace Go.Proofs.YthgifdbaegpbpaaGreatDoor
open Go Go.aN
set_option linter.unusedSimpArgs false
set_option linter.unusedVariables false
set_option maxRecDepth 100000
namespace K
/-- The first thing that is wrong with the values of names. -/
def nV (b:aB):List bV->Int
 | []=>0
 | s::l=>if uN b s.name=0 then nV b l else uN b s.name
theorem acf (b:aB) (r:List GV) (hb:mM b) (hf:∀r∈b.t,iF r.1=true) (l:List bV) (hlen:l.length<=1000) (hns:∀s∈l,placeOf s.name≠none):∀ (m i:Nat),i+m=l.length->
 TT.lim 39 [.l (l.map dV),.i .i64 l.length,.i .i64 i,.i .i64 b.kind,.i .u64 b.id,.i .u64 b.min,.i .u64 b.max,.i .u64 b.chosen,.i .u64 b.flags,.i .u64 b.cost,.i .u64 b.priority,.i .u64 b.deadline,.i .u64 b.retry,.i .u64 b.epoch,.i .u64 b.base,.i .u64 b.digest,.i .u64 b.lag,.i .u64 b.code,.i .u64 b.want,.i .i64 b.remaining,.b b.allowed,.s b.name,.s b.region,.s b.note,.l (b.d.map ent),.l (b.t.map row),.l r]=some (if nV b (l.drop i)=0 then [.i .i64 1] else [.i .i64 0,.i .i64 (nV b (l.drop i))])
 | 0,i,hi=>by
  have h0:l.drop i=[]:=gZ (by omega);refine aA rfl rfl ?_;have h:¬ ((i:Int) < l.length):=by omega
  simp [h,h0,nV]
 | m+1,i,hi=>by
  have hlt:i < l.length:=by omega
  have ih:=acf b r hb hf l hlen hns m (i+1) (by omega);have hcast:((i:Int)+1)=((i+1:Nat):Int):=by omega
  rw [<- hcast] at ih;have:=aqd b r hb hf l[i].name (hns _ (jh hlt)) l i _ hlt (by omega) (wrap64 (n:=(i:Int)+1) (by omega) (by omega)) rfl ih;rw [this,jw hlt];by_cases hc:uN b l[i].name=0
  ·have hm:nV b (l[i]::l.drop (i+1))=nV b (l.drop (i+1)):=by simp only [nV,hc,if_true]
   rw [aj hc,hm]
  ·have hm:nV b (l[i]::l.drop (i+1))=uN b l[i].name:=by simp only [nV,hc,if_false]
   rw [ah hc,hm,ah hc]
def hasTag (l:List bV) (t:Int):Bool:=l.any λs=>decide (t=s.tag)
theorem ach (l:List bV) (hlen:l.length<=1000) (a1 a2 a3:GV) (t:Int) (a7 a8 a9 a10:GV):∀ (m i:Nat),i+m=l.length->
 TT.lim 76 [.l (l.map dV),a1,a2,a3,.i .i64 l.length,.i .i64 i,.i .u64 t,a7,a8,a9,a10]=some (if hasTag (l.drop i) t=true then [.i .i64 0] else [.i .i64 1])
 | 0,i,hi=>by
  have h0:l.drop i=[]:=gZ (by omega);refine aA rfl rfl ?_;have h:¬ ((i:Int) < l.length):=by omega
  simp [h,h0,hasTag]
 | m+1,i,hi=>by
  have hlt:i < l.length:=by omega
  have ih:=ach l hlen a1 a2 a3 t a7 a8 a9 a10 m (i+1) (by omega);have hcast:((i:Int)+1)=((i+1:Nat):Int):=by omega
  rw [<- hcast] at ih;have h1:((i:Int) < l.length):=by omega
  have hw:=wrap64 (n:=(i:Int)+1) (by omega) (by omega);have hd:hasTag (l.drop i) t=(decide (t=l[i].tag) || hasTag (l.drop (i+1)) t):=by rw [jw hlt];rfl
  rw [hd];generalize hasTag (l.drop (i+1)) t=X at *;refine aA rfl rfl ?_;by_cases hc:t=l[i].tag
  ·simp [h1,hlt,hc]
  ·simp [h1,hlt,hc,hw,ih]
theorem acg (l:List bV) (hlen:l.length<=1000) (fl:List aF) (hfl:fl.length<=1000000):∀ (m i:Nat),i+m=fl.length->
 TT.lim 75 [.l (l.map dV),.l (aC fl),.i .i64 fl.length,.i .i64 i]=some (if (fl.drop i).any (λf=>hasTag l f.tag)=true then [.i .i64 0] else [.i .i64 1])
 | 0,i,hi=>by
  have h0:fl.drop i=[]:=gZ (by omega);refine aA rfl rfl ?_;have h:¬ ((i:Int) < fl.length):=by omega
  simp [h,h0]
 | m+1,i,hi=>by
  have hlt:i < fl.length:=by omega
  have ih:=acg l hlen fl hfl m (i+1) (by omega);have hcast:((i:Int)+1)=((i+1:Nat):Int):=by omega
  rw [<- hcast] at ih;have h1:((i:Int) < fl.length):=by omega
  have hw:=wrap64 (n:=(i:Int)+1) (by omega) (by omega);have hd:(fl.drop i).any (λf=>hasTag l f.tag)=(hasTag l fl[i].tag || (fl.drop (i+1)).any (λf=>hasTag l f.tag)):=by rw [jw hlt,List.any_cons]
  rw [hd];have hget:(aC fl)[i]? = some (nO fl[i]):=by rw [yS,jg,bU hlt];rfl
  clear hd;obtain ⟨t,y,n,s,k,hfi⟩:∃t y n s k,fl[i]=aF.mk t y n s k:=by
   cases fl[i] with
   | mk t y n s k=>exact ⟨_,_,_,_,_,rfl⟩
  rw [hfi] at hget ⊢;rw [show (aF.mk t y n s k).tag=t from rfl];have h3:TT.lim 76 [.l (l.map dV),.l (aC fl),.i .i64 fl.length,.i .i64 i,.i .i64 l.length,.i .i64 0,.i .u64 t,.i .i64 y,.i .u64 n,.s s,.l (aC k)]=_:=ach l hlen _ _ _ t _ _ _ _ l.length 0 (by omega);rw [eH] at h3;refine aA rfl rfl ?_;by_cases hc:hasTag l t=true
  ·rw [aj hc] at h3
   simp [-List.any_eq_true,h1,hget,h3,hc]
  ·rw [ah hc] at h3
   have hc:hasTag l t=false:=by simpa using hc
   simp [-List.any_eq_true,h1,hget,h3,hw,ih,hc]
def yJ (b:aB):Int:=
 if b.kind=1 then (if b.min < 1 then 18 else if b.max < b.min then 18 else if 255 < b.max then 18 else 0)
 else if b.kind=2 then (if b.chosen < 1 then 18 else if 255 < b.chosen then 18 else 0)
 else if b.kind=3 then (if b.d=[] then 12 else 0)
 else if b.kind=5 then (if b.epoch < 1 then 18 else 0)
 else if b.kind=6 then (if b.base < 1 then 18 else if b.epoch<=b.base then 20 else 0)
 else 0
/-- What is said of a message at a version. -/
def Iz (sp:List bV) (fl:List aF):Int:=if iJ 0 0 fl≠0 then iJ 0 0 fl else if fl.any (λf=>hasTag sp f.tag)=true then 14 else 0
def gB (b:aB) (fl:List aF) (v:Int):Int:=
 if v < 1 then 16 else if 3 < v then 16 else
 if aH b.kind v=[] then 15 else
 if gG.all (λn=>qP (aH b.kind v) n || oL b n)=false then 26 else
 if nV b (aH b.kind v)≠0 then nV b (aH b.kind v) else
 if yJ b≠0 then yJ b else Iz (aH b.kind v) fl
theorem acw:∀n∈gG,placeOf n≠none:=by decide
theorem abz (k v:Int):∀s∈aH k v,placeOf s.name≠none:=by
 have key:∀s∈nZ k,placeOf s.name≠none:=by
  unfold nZ;repeat' split
  all_goals first | (unfold sp1;decide) | (unfold sp2;decide) | (unfold rY;decide) | (unfold AL;decide) | (unfold rZ;decide) | (unfold su;decide) | (unfold AO;decide) | (unfold AP;decide) | (intro s hs;cases hs)
 intro s hs;exact key s (vk.1 hs).1
theorem yX (k v:Int):(aH k v).length<=8:=iR (Rw _ _) (apl k)
set_option maxHeartbeats 4000000 in
theorem ab9 (b:aB) (fl:List aF) (v:Int) (hb:mM b) (hf:∀r∈b.t,iF r.1=true) (hok:bW fl) (hlen:fl.length<=1000000):TT.lim 24 [eY b (aC fl),.i .i64 v]=some [.i .i64 (gB b fl v)]:=by
 have hk:=UQ b.kind;refine aY rfl rfl ?_ rfl;unfold gB;by_cases v1:v < 1
 ·simp [v1]
 by_cases v3:3 < v
 ·simp [v1,v3]
 rw [ah v1,ah v3];have hnil:=O9 b.kind v (by omega) (by omega);by_cases k0:jm b.kind=0
 ·rw [aj (hnil.2 (.inl k0))]
  rw [k0] at hk;simp [v1,v3,hk]
 by_cases k1:v < jm b.kind
 ·rw [aj (hnil.2 (.inr k1))]
  simp [v1,v3,hk,k0,k1]
 rw [ah (λe=>(hnil.1 e).elim k0 k1)];have hkn:=O6 b.kind v (by omega) (by omega) (by omega);have hpl:=abz b.kind v;have hl8:=yX b.kind v;clear hnil;generalize aH b.kind v=sp at *;have hnm:=acs;have h0:=acd b (aC fl) sp (by omega) sp.length 0 [] (by omega);have h1:=ace b (aC fl) (.l (sp.map dV)) gG (by decide) acw (xU [] sp) gG.length 0 (by omega);have h2:=acf b (aC fl) hb hf sp (by omega) hpl sp.length 0 (by omega);have h3:=acg sp (by omega) fl hlen fl.length 0 (by omega);have h4:=Oi fl hok hlen;rw [eH] at h0 h1 h2 h3;simp only [akG] at h1;have hnl:(gG.map GV.s).length=gG.length:=wC _;have hfl:=kU fl;rw [<- hfl] at h3;generalize hX:xU [] sp=ps at *;have h0':TT.lim 36 [.l (sp.map dV),.i .i64 sp.length,.i .i64 0,.l [],.i .i64 b.kind,.i .u64 b.id,.i .u64 b.min,.i .u64 b.max,.i .u64 b.chosen,.i .u64 b.flags,.i .u64 b.cost,.i .u64 b.priority,.i .u64 b.deadline,.i .u64 b.retry,.i .u64 b.epoch,.i .u64 b.base,.i .u64 b.digest,.i .u64 b.lag,.i .u64 b.code,.i .u64 b.want,.i .i64 b.remaining,.b b.allowed,.s b.name,.s b.region,.s b.note,.l (b.d.map ent),.l (b.t.map row),.l (aC fl)]=some [.i .i64 0,.l (sV ps)]:=h0;clear h0;have h1':TT.lim 38 [.l (sp.map dV),.l (gG.map .s),.i .i64 gG.length,.i .i64 0,.l (sV ps),.i .i64 b.kind,.i .u64 b.id,.i .u64 b.min,.i .u64 b.max,.i .u64 b.chosen,.i .u64 b.flags,.i .u64 b.cost,.i .u64 b.priority,.i .u64 b.deadline,.i .u64 b.retry,.i .u64 b.epoch,.i .u64 b.base,.i .u64 b.digest,.i .u64 b.lag,.i .u64 b.code,.i .u64 b.want,.i .i64 b.remaining,.b b.allowed,.s b.name,.s b.region,.s b.note,.l (b.d.map ent),.l (b.t.map row),.l (aC fl)]=_:=h1;clear h1;have h2':TT.lim 39 [.l (sp.map dV),.i .i64 sp.length,.i .i64 0,.i .i64 b.kind,.i .u64 b.id,.i .u64 b.min,.i .u64 b.max,.i .u64 b.chosen,.i .u64 b.flags,.i .u64 b.cost,.i .u64 b.priority,.i .u64 b.deadline,.i .u64 b.retry,.i .u64 b.epoch,.i .u64 b.base,.i .u64 b.digest,.i .u64 b.lag,.i .u64 b.code,.i .u64 b.want,.i .i64 b.remaining,.b b.allowed,.s b.name,.s b.region,.s b.note,.l (b.d.map ent),.l (b.t.map row),.l (aC fl)]=_:=h2;clear h2;have h3':TT.lim 75 [.l (sp.map dV),.l (aC fl),.i .i64 (aC fl).length,.i .i64 0]=_:=h3;clear h3;have hr:Iz sp fl=if iJ 0 0 fl≠0 then iJ 0 0 fl else if fl.any (λf=>hasTag sp f.tag)=true then 14 else 0:=rfl
 generalize (gG.all λn=>qP sp n || oL b n)=A at *;generalize nV b sp=M at *;generalize iJ 0 0 fl=F at *;generalize (fl.any λf=>hasTag sp f.tag)=W at *;generalize Iz sp fl=R at *;generalize gG=NL at *;have atx:∀ (x:GV),True:=λ_=>trivial;cases A with
 | false=>
  simp only [gQ,if_false] at h1';simp [v1,v3,hk,k0,k1,hkn,hnm,h0',h1']
 | true=>
 simp only [if_true] at h1';by_cases hM:M=0;rotate_left
 ·rw [ah hM] at h2'
  simp [v1,v3,hk,k0,k1,hkn,hnm,h0',h1',h2',hM]
 rw [aj hM] at h2';rw [ah (by simp),ah (by simp [hM])];clear hM
 -- the rest of it
 have key:∀ (c:Int),yJ b=c->c≠0->True:=λ_ _ _=>trivial;unfold yJ;by_cases e1:b.kind=1
 ·have e1:=eq_true e1
  by_cases c1:b.min < 1
  ·simp [v1,v3,hk,k0,k1,hkn,hnm,h0',h1',h2',e1,c1]
  by_cases c2:b.max < b.min
  ·simp [v1,v3,hk,k0,k1,hkn,hnm,h0',h1',h2',e1,c1,c2]
  by_cases c3:255 < b.max
  ·simp [v1,v3,hk,k0,k1,hkn,hnm,h0',h1',h2',e1,c1,c2,c3]
  simp only [e1,c1,c2,c3,if_true,if_false,ne_eq,not_true_eq_false];rw [hr];by_cases hF:F=0
  ·subst hF
   cases W with
   | true=>simp only [if_true] at h3';simp [v1,v3,hk,k0,k1,hkn,hnm,h0',h1',h2',e1,c1,c2,c3,h4,h3']
   | false=>simp only [gQ,if_false] at h3';simp [v1,v3,hk,k0,k1,hkn,hnm,h0',h1',h2',e1,c1,c2,c3,h4,h3']
  ·simp [v1,v3,hk,k0,k1,hkn,hnm,h0',h1',h2',e1,c1,c2,c3,h4,hF]
 by_cases e2:b.kind=2
 ·have e2:=eq_true e2
  by_cases c1:b.chosen < 1
  ·simp [v1,v3,hk,k0,k1,hkn,hnm,h0',h1',h2',e1,e2,c1]
  by_cases c2:255 < b.chosen
  ·simp [v1,v3,hk,k0,k1,hkn,hnm,h0',h1',h2',e1,e2,c1,c2]
  simp only [e1,e2,c1,c2,if_true,if_false,ne_eq,not_true_eq_false];rw [hr];by_cases hF:F=0
  ·subst hF
   cases W with
   | true=>simp only [if_true] at h3';simp [v1,v3,hk,k0,k1,hkn,hnm,h0',h1',h2',e1,e2,c1,c2,h4,h3']
   | false=>simp only [gQ,if_false] at h3';simp [v1,v3,hk,k0,k1,hkn,hnm,h0',h1',h2',e1,e2,c1,c2,h4,h3']
  ·simp [v1,v3,hk,k0,k1,hkn,hnm,h0',h1',h2',e1,e2,c1,c2,h4,hF]
 by_cases e3:b.kind=3
 ·have e3:=eq_true e3
  by_cases c1:b.d=[]
  ·have c1:=eq_true c1
   simp [v1,v3,hk,k0,k1,hkn,hnm,h0',h1',h2',e1,e2,e3,c1]
  simp only [e1,e2,e3,c1,if_true,if_false,ne_eq,not_true_eq_false];rw [hr];by_cases hF:F=0
  ·subst hF
   cases W with
   | true=>simp only [if_true] at h3';simp [v1,v3,hk,k0,k1,hkn,hnm,h0',h1',h2',e1,e2,e3,c1,h4,h3']
   | false=>simp only [gQ,if_false] at h3';simp [v1,v3,hk,k0,k1,hkn,hnm,h0',h1',h2',e1,e2,e3,c1,h4,h3']
  ·simp [v1,v3,hk,k0,k1,hkn,hnm,h0',h1',h2',e1,e2,e3,c1,h4,hF]
 by_cases e5:b.kind=5
 ·have e5:=eq_true e5
  by_cases c1:b.epoch < 1
  ·simp [v1,v3,hk,k0,k1,hkn,hnm,h0',h1',h2',e1,e2,e3,e5,c1]
  simp only [e1,e2,e3,e5,c1,if_true,if_false,ne_eq,not_true_eq_false];rw [hr];by_cases hF:F=0
  ·subst hF
   cases W with
   | true=>simp only [if_true] at h3';simp [v1,v3,hk,k0,k1,hkn,hnm,h0',h1',h2',e1,e2,e3,e5,c1,h4,h3']
   | false=>simp only [gQ,if_false] at h3';simp [v1,v3,hk,k0,k1,hkn,hnm,h0',h1',h2',e1,e2,e3,e5,c1,h4,h3']
  ·simp [v1,v3,hk,k0,k1,hkn,hnm,h0',h1',h2',e1,e2,e3,e5,c1,h4,hF]
 by_cases e6:b.kind=6
 ·have e6:=eq_true e6
  by_cases c1:b.base < 1
  ·simp [v1,v3,hk,k0,k1,hkn,hnm,h0',h1',h2',e1,e2,e3,e5,e6,c1]
  by_cases c2:b.epoch<=b.base
  ·simp [v1,v3,hk,k0,k1,hkn,hnm,h0',h1',h2',e1,e2,e3,e5,e6,c1,c2]
  simp only [e1,e2,e3,e5,e6,c1,c2,if_true,if_false,ne_eq,not_true_eq_false];rw [hr];by_cases hF:F=0
  ·subst hF
   cases W with
   | true=>simp only [if_true] at h3';simp [v1,v3,hk,k0,k1,hkn,hnm,h0',h1',h2',e1,e2,e3,e5,e6,c1,c2,h4,h3']
   | false=>simp only [gQ,if_false] at h3';simp [v1,v3,hk,k0,k1,hkn,hnm,h0',h1',h2',e1,e2,e3,e5,e6,c1,c2,h4,h3']
  ·simp [v1,v3,hk,k0,k1,hkn,hnm,h0',h1',h2',e1,e2,e3,e5,e6,c1,c2,h4,hF]
 simp only [e1,e2,e3,e5,e6,if_false,ne_eq,not_true_eq_false];rw [hr];by_cases hF:F=0
 ·subst hF
  cases W with
  | true=>simp only [if_true] at h3';simp [v1,v3,hk,k0,k1,hkn,hnm,h0',h1',h2',e1,e2,e3,e5,e6,h4,h3']
  | false=>simp only [gQ,if_false] at h3';simp [v1,v3,hk,k0,k1,hkn,hnm,h0',h1',h2',e1,e2,e3,e5,e6,h4,h3']
 ·simp [v1,v3,hk,k0,k1,hkn,hnm,h0',h1',h2',e1,e2,e3,e5,e6,h4,hF]
def XD (n:List UInt8):Int:=match placeOf n with
 | some p=>aqV p
 | none=>-1
theorem ajE (k v:Int):∀s∈aH k v,placeOf s.name≠none/\s.use=XD s.name:=by
 have key:∀s∈nZ k,placeOf s.name≠none/\s.use=XD s.name:=by
  unfold nZ;repeat' split
  all_goals first | (unfold sp1;decide) | (unfold sp2;decide) | (unfold rY;decide) | (unfold AL;decide) | (unfold rZ;decide) | (unfold su;decide) | (unfold AO;decide) | (unfold AP;decide) | (intro s hs;cases hs)
 intro s hs;exact key s (vk.1 hs).1
/-- The numbers with a sign, written by their bits. -/
theorem arT (x:Int) (h0 : -9223372036854775808<=x) (h1:x<=9223372036854775807):∃u w:Int,IntKind.u64.wrap x=u/\IntKind.u64.wrap (x.fdiv (2 ^ 63))=w/\fE .xor .u64 (IntKind.u64.wrap (u * 2 ^ 1)) w=some (.i .u64 (zz x)):=by
 have wr:∀y:Int,IntKind.u64.wrap y=y % 18446744073709551616:=λy=>by simp [IntKind.wrap,IntKind.signed,IntKind.bits]
 refine ⟨_,_,rfl,rfl, ?_⟩;rw [wr,wr,wr];unfold zz;have hb:IntKind.u64.bits=64:=rfl;by_cases h:0<=x
 ·have e1:x.fdiv (2 ^ 63)=0:=by
   rw [L6 _ (by decide)];exact Int.ediv_eq_zero_of_lt h (by omega)
  rw [e1,aj h];have e2:x % 18446744073709551616 * 2 ^ 1 % 18446744073709551616=2 * x:=by omega
  rw [e2];simp only [fE,wr,hb];have e3:(BitVec.ofInt 64 (2 * x) ^^^ BitVec.ofInt 64 (0 % 18446744073709551616))=BitVec.ofInt 64 (2 * x):=by
   have:BitVec.ofInt 64 (0 % 18446744073709551616)=0#64:=rfl;rw [this,BitVec.xor_zero]
  show some (GV.i IntKind.u64 (((BitVec.ofInt 64 (2 * x) ^^^ BitVec.ofInt 64 (0 % 18446744073709551616)).toNat:Int) % 18446744073709551616))=_
  rw [e3,xu];congr 2;omega
 ·have e1:x.fdiv (2 ^ 63) = -1:=by
   rw [L6 _ (by decide)];omega
  rw [e1,ah h];have e2:x % 18446744073709551616 * 2 ^ 1 % 18446744073709551616=2 * x+18446744073709551616:=by omega
  rw [e2];simp only [fE,wr,hb];have e3:(BitVec.ofInt 64 (2 * x+18446744073709551616) ^^^ BitVec.ofInt 64 (-1 % 18446744073709551616)) = ~~~ BitVec.ofInt 64 (2 * x+18446744073709551616):=by
   have:BitVec.ofInt 64 (-1 % 18446744073709551616)=BitVec.allOnes 64:=by decide
   rw [this,BitVec.xor_allOnes]
  show some (GV.i IntKind.u64 (((BitVec.ofInt 64 (2 * x+18446744073709551616) ^^^ BitVec.ofInt 64 (-1 % 18446744073709551616)).toNat:Int) % 18446744073709551616))=_
  rw [e3,BitVec.toNat_not,xu];congr 2;omega
def fM (b:aB) (r:List GV) (n:List UInt8) (p:Pl):Prop:=TT.lim 78 [eY b r,.s n]=some [.g [.i .u64 0,.i .i64 (aZ p),.i .u64 (aU b p).1,.s (aU b p).2,.l []],.b true]
theorem aq9 (b:aB) (r:List GV):fM b r lH (.num 0):=by
 unfold fM;show _=some [GV.g [.i .u64 0,.i .i64 0,.i .u64 b.id,.s [],.l []],GV.b true]
 unfold lH;refine aY rfl rfl ?_ rfl;simp
theorem ard (b:aB) (r:List GV):fM b r lK (.num 1):=by
 unfold fM;show _=some [GV.g [.i .u64 0,.i .i64 0,.i .u64 b.min,.s [],.l []],GV.b true]
 unfold lK;refine aY rfl rfl ?_ rfl;simp
theorem arb (b:aB) (r:List GV):fM b r lJ (.num 2):=by
 unfold fM;show _=some [GV.g [.i .u64 0,.i .i64 0,.i .u64 b.max,.s [],.l []],GV.b true]
 unfold lJ;refine aY rfl rfl ?_ rfl;simp
theorem aq1 (b:aB) (r:List GV):fM b r kZ (.num 3):=by
 unfold fM;show _=some [GV.g [.i .u64 0,.i .i64 0,.i .u64 b.chosen,.s [],.l []],GV.b true]
 unfold kZ;refine aY rfl rfl ?_ rfl;simp
theorem aq8 (b:aB) (r:List GV):fM b r lG (.num 4):=by
 unfold fM;show _=some [GV.g [.i .u64 0,.i .i64 0,.i .u64 b.flags,.s [],.l []],GV.b true]
 unfold lG;refine aY rfl rfl ?_ rfl;simp
theorem aq3 (b:aB) (r:List GV):fM b r lq (.num 5):=by
 unfold fM;show _=some [GV.g [.i .u64 0,.i .i64 0,.i .u64 b.cost,.s [],.l []],GV.b true]
 unfold lq;refine aY rfl rfl ?_ rfl;simp
theorem ari (b:aB) (r:List GV):fM b r lM (.num 6):=by
 unfold fM;show _=some [GV.g [.i .u64 0,.i .i64 0,.i .u64 b.priority,.s [],.l []],GV.b true]
 unfold lM;refine aY rfl rfl ?_ rfl;simp
theorem aq4 (b:aB) (r:List GV):fM b r lu (.num 7):=by
 unfold fM;show _=some [GV.g [.i .u64 0,.i .i64 0,.i .u64 b.deadline,.s [],.l []],GV.b true]
 unfold lu;refine aY rfl rfl ?_ rfl;simp
theorem arl (b:aB) (r:List GV):fM b r lQ (.num 8):=by
 unfold fM;show _=some [GV.g [.i .u64 0,.i .i64 0,.i .u64 b.retry,.s [],.l []],GV.b true]
 unfold lQ;refine aY rfl rfl ?_ rfl;simp
theorem aq7 (b:aB) (r:List GV):fM b r lF (.num 9):=by
 unfold fM;show _=some [GV.g [.i .u64 0,.i .i64 0,.i .u64 b.epoch,.s [],.l []],GV.b true]
 unfold lF;refine aY rfl rfl ?_ rfl;simp
theorem aq0 (b:aB) (r:List GV):fM b r kY (.num 10):=by
 unfold fM;show _=some [GV.g [.i .u64 0,.i .i64 0,.i .u64 b.base,.s [],.l []],GV.b true]
 unfold kY;refine aY rfl rfl ?_ rfl;simp
theorem aq6 (b:aB) (r:List GV):fM b r lD (.num 11):=by
 unfold fM;show _=some [GV.g [.i .u64 0,.i .i64 0,.i .u64 b.digest,.s [],.l []],GV.b true]
 unfold lD;refine aY rfl rfl ?_ rfl;simp
theorem ara (b:aB) (r:List GV):fM b r lI (.num 12):=by
 unfold fM;show _=some [GV.g [.i .u64 0,.i .i64 0,.i .u64 b.lag,.s [],.l []],GV.b true]
 unfold lI;refine aY rfl rfl ?_ rfl;simp
theorem aq2 (b:aB) (r:List GV):fM b r lg (.num 13):=by
 unfold fM;show _=some [GV.g [.i .u64 0,.i .i64 0,.i .u64 b.code,.s [],.l []],GV.b true]
 unfold lg;refine aY rfl rfl ?_ rfl;simp
theorem aro (b:aB) (r:List GV):fM b r lT (.num 14):=by
 unfold fM;show _=some [GV.g [.i .u64 0,.i .i64 0,.i .u64 b.want,.s [],.l []],GV.b true]
 unfold lT;refine aY rfl rfl ?_ rfl;simp
theorem arf (b:aB) (r:List GV):fM b r kH .name:=by
 unfold fM;show _=some [GV.g [.i .u64 0,.i .i64 1,.i .u64 0,.s b.name,.l []],GV.b true]
 unfold kH;refine aY rfl rfl ?_ rfl;simp
theorem arj (b:aB) (r:List GV):fM b r kK .region:=by
 unfold fM;show _=some [GV.g [.i .u64 0,.i .i64 1,.i .u64 0,.s b.region,.l []],GV.b true]
 unfold kK;refine aY rfl rfl ?_ rfl;simp
theorem arh (b:aB) (r:List GV):fM b r kJ .note:=by
 unfold fM;show _=some [GV.g [.i .u64 0,.i .i64 1,.i .u64 0,.s b.note,.l []],GV.b true]
 unfold kJ;refine aY rfl rfl ?_ rfl;simp
theorem aqZ (b:aB) (r:List GV):fM b r kX .allow:=by
 unfold fM;unfold kX;refine aY rfl rfl ?_ rfl;cases hc:b.allowed<;>simp [aZ,aU,hc]
theorem ark (b:aB) (r:List GV) (hb:mM b):fM b r lN .rem:=by
 unfold fM;obtain ⟨u,w,h1,h2,h3⟩:=arT b.remaining hb.remaining.1 hb.remaining.2;show _=some [GV.g [.i .u64 0,.i .i64 0,.i .u64 (zz b.remaining),.s [],.l []],GV.b true]
 have h2:IntKind.u64.wrap (b.remaining.fdiv 9223372036854775808)=w:=h2;have h3:fE .xor .u64 (IntKind.u64.wrap (u * 2)) w=some (.i .u64 (zz b.remaining)):=h3;unfold lN;refine aY rfl rfl ?_ rfl;simp [nY,h1,h2,h3,IntKind.bits]
theorem aq5 (b:aB) (r:List GV) (hf:iF b.d=true):fM b r lC .d:=by
 unfold fM;have hk:=O1 b.d hf;have e:aU b .d=(0,if b.d=[] then [] else iD b.d):=rfl;rw [e];unfold lC;refine aY rfl rfl ?_ rfl;by_cases e:b.d=[]
 ·have e':=eq_true e
  simp [aZ,e']
 ·simp [aZ,e,hk]
theorem arn (b:aB) (r:List GV) (hb:mM b) (hf:FY b.t):fM b r lS .t:=by
 unfold fM;have hk:=ajF b.t hb.t hf;have e:aU b .t=(0,if b.t=[] then [] else (zh b.t).1):=rfl;rw [e];unfold lS;refine aY rfl rfl ?_ rfl;by_cases e:b.t=[]
 ·have e':=eq_true e
  simp [aZ,e']
 ·simp [aZ,e,hk]
theorem alc (b:aB) (r:List GV) (n:List UInt8) (e0:¬ n=lN) (e1:¬ n=kX) (e2:¬ n=kH) (e3:¬ n=kK) (e4:¬ n=kJ) (e5:¬ n=lC) (e6:¬ n=lS) (e7:¬ n=lH) (e8:¬ n=lK) (e9:¬ n=lJ) (e10:¬ n=kZ) (e11:¬ n=lG) (e12:¬ n=lq) (e13:¬ n=lM) (e14:¬ n=lu) (e15:¬ n=lQ) (e16:¬ n=lF) (e17:¬ n=kY) (e18:¬ n=lD) (e19:¬ n=lI) (e20:¬ n=lg) (e21:¬ n=lT):TT.lim 78 [eY b r,.s n]=some [.g [.i .u64 0,.i .i64 0,.i .u64 0,.s [],.l []],.b false]:=by
 unfold lN kX kH kK kJ lC lS lH lK lJ kZ lG lq lM lu lQ lF kY lD lI lg lT at *;refine aY rfl rfl ?_ rfl;simp [e0,e1,e2,e3,e4,e5,e6,e7,e8,e9,e10,e11,e12,e13,e14,e15,e16,e17,e18,e19,e20,e21]
theorem TS:∀ (n:Nat) (l:List One) (deep:Int),(∀x∈l,Bj x/\x.text.length<=300)->l.length<=1000000->bW (fA n l deep).1
 | 0,l,deep,_,_=>by simp only [fA,bW]
 | n+1,[],deep,_,_=>by simp only [fA,bW]
 | n+1,x::l,deep,h,hl=>by
  have hx:=h x (by simp);have hl':∀y∈l,Bj y/\y.text.length<=300:=λy hy=>h y (by simp [hy]);have hx1:=hx.1;unfold Bj at hx1;simp only [iV] at hl;simp only [fA];split
  ·have hp:bW (if x.deep=255 then (([]:List aF),l) else fA n l (x.deep+1)).1/\(if x.deep=255 then (([]:List aF),l) else fA n l (x.deep+1)).1.length<=1000000/\∃k,(if x.deep=255 then (([]:List aF),l) else fA n l (x.deep+1)).2=l.drop k:=by
    split
    ·exact ⟨by simp only [bW],by simp,0,rfl⟩
    ·have:=Eb n l (x.deep+1)
     exact ⟨TS n l _ hl' (by omega),by omega,this.2⟩
   obtain ⟨p1,p2,k,p3⟩:=hp;simp only [bW,pI];refine ⟨⟨⟨hx1.2.2.2.2.1,hx1.2.2.2.2.2.1,hx1.2.2.1,hx1.2.2.2.1,hx1.2.2.2.2.2.2.1,hx1.2.2.2.2.2.2.2.1,iR hx.2 (by decide),p2⟩,p1⟩, ?_⟩;rw [p3];exact TS n (l.drop k) deep (λy hy=>hl' y (Bh hy)) (by rw [eP];omega)
  ·simp only [bW]
theorem aj8 (l:List One) (hl:Ones l) (hf:uD l=true):bW (tC l)/\(tC l).length<=1000000:=by
 unfold uD at hf;rw [aI,decide_eq_true_iff,List.all_eq_true] at hf;refine ⟨TS _ l 0 (λx hx=>⟨hl.2 x hx,by simpa using hf.1 x hx⟩) (by omega), ?_⟩;have:=Eb (l.length+1) l 0;unfold tC;omega
abbrev It:=Int×Int×List UInt8
def uM (a b:It):Bool:=if a.1=b.1 then decide (a.2.1 < b.2.1) else decide (a.1 < b.1)
def leI (a b:It):Prop:=uM b a=false
theorem U6 (a b:It):leI a b↔a.1 < b.1\/(a.1=b.1/\a.2.1<=b.2.1):=by
 unfold leI uM;split
 ·next h=>simp;omega
 ·next h=>simp;omega
theorem abD {a b c:It} (h1:leI a b) (h2:leI b c):leI a c:=by rw [U6] at *;omega
theorem U7 {a b:It} (h:uM a b=true):leI a b:=by
 rw [U6];unfold uM at h;split at h
 ·next e=>have:=Ak h;omega
 ·next e=>have:=Ak h;omega
theorem ajM {a b:It} (h:leI a b):a.1<=b.1:=by rw [U6] at h;omega
def dI:It:=(0,0,[])
abbrev at_ (h:List It) (i:Nat):It:=h.getD i dI
def AX (h:List It) (i j:Nat):List It:=(h.set i (at_ h j)).set j (at_ h i)
theorem aqg (h:List It) (i j:Nat):(AX h i j).length=h.length:=by simp [AX]
theorem ae7 (h:List It) {i j:Nat} (hi:i < h.length) (hj:j < h.length) (k:Nat):at_ (AX h i j) k=if k=j then at_ h i else if k=i then at_ h j else at_ h k:=by
 unfold AX at_;simp only [wz,List.getElem?_set,List.length_set];by_cases h1:k=j
 ·subst h1;simp [hj]
 ·have h1':¬ j=k:=λe=>h1 e.symm
  rw [ah h1',ah h1];by_cases h2:k=i
  ·subst h2;simp [hi]
  ·have h2':¬ i=k:=λe=>h2 e.symm
   rw [ah h2',ah h2]
theorem swap_perm (h:List It) {i j:Nat} (hi:i < h.length) (hj:j < h.length):(AX h i j).Perm h:=by
 have:=Array.swap_perm (xs:=h.toArray) (i:=i) (j:=j) (by simpa using hi) (by simpa using hj);have h2:=this.toList;simp only [Array.toList_swap] at h2;unfold AX at_;simpa [wz,hi,hj] using h2
def par (k:Nat):Nat:=(k - 1) / 2
def Heap (h:List It) (n:Nat):Prop:=∀k,0 < k->k < n->leI (at_ h (par k)) (at_ h k)
def LK:Nat->List It->Nat->List It
 | 0,h,_=>h
 | f+1,h,j=>if par j=j\/uM (at_ h j) (at_ h (par j))=false then h else LK f (AX h (par j) j) (par j)
structure Yy (h:List It) (n j:Nat):Prop where
 jn:j < n
 heap:∀k,0 < k->k < n->k≠j->leI (at_ h (par k)) (at_ h k)
 kids:∀k,0 < k->k < n->par k=j->0 < j->leI (at_ h (par j)) (at_ h k)
theorem aeg:∀ (f:Nat) (h:List It) (j n:Nat),j < f->n=h.length->Yy h n j->Heap (LK f h j) n/\(LK f h j).Perm h
 | 0,h,j,n,hf,_,_=>by omega
 | f+1,h,j,n,hf,hn,hu=>by
  unfold LK;split
  ·next hc=>
   refine ⟨λk h0 hk=>?_,L9 _⟩;by_cases e:k=j
   ·subst e
    rcases hc with hc | hc
    ·unfold par at hc;omega
    ·exact hc
   ·exact hu.heap k h0 hk e
  ·next hc=>
   rw [not_or] at hc;obtain ⟨c1,c2⟩:=hc;have c2:uM (at_ h j) (at_ h (par j))=true:=by simpa using c2
   have j0:0 < j:=by
    rcases RJ j with e | e
    ·subst e;exact absurd rfl c1
    ·exact e
   have hp:par j < j:=by unfold par;omega
   have hjn:=hu.jn;have hsw:=ae7 h (i:=par j) (j:=j) (by omega) (by omega);have hu2:Yy (AX h (par j) j) n (par j):=by
    refine ⟨by omega,λk h0 hk hne=>?_,λk h0 hk hpk hp0=>?_⟩
    ·rw [hsw,hsw]
     by_cases e1:k=j
     ·subst e1
      rw [ah (by omega),aj rfl,aj rfl];exact U7 c2
     ·rw [ah e1,ah hne]
      by_cases e2:par k=j
      ·rw [aj e2]
       exact hu.kids k h0 hk e2 j0
      ·rw [ah e2]
       by_cases e3:par k=par j
       ·rw [aj e3]
        exact abD (U7 c2) (e3 ▸ hu.heap k h0 hk e1)
       ·rw [ah e3]
        exact hu.heap k h0 hk e1
    ·rw [hsw,hsw]
     have q:par (par j) < par j:=by unfold par at *;omega
     rw [ah (by omega),ah (by omega)];have hg:=hu.heap (par j) hp0 (by omega) (by omega);by_cases e1:k=j
     ·subst e1
      rw [aj rfl];exact hg
     ·rw [ah e1,ah (λe=>by rw [e] at hpk;omega)]
      exact abD hg (hpk ▸ hu.heap k h0 hk e1)
   obtain ⟨r1,r2⟩:=aeg f (AX h (par j) j) (par j) n (by omega) (by rw [aqg];exact hn) hu2;exact ⟨r1,r2.trans (swap_perm h (by omega) (by omega))⟩
def Qb (h:List It) (x:It):List It:=LK (h.length+1) (h++[x]) h.length
theorem acZ (h:List It) (x:It) (hh:Heap h h.length):Heap (Qb h x) (h.length+1)/\(Qb h x).Perm (h++[x]):=by
 refine aeg _ _ _ _ (by omega) (by simp) ⟨by omega,λk h0 hk hne=>?_,λk h0 hk hpk _=>?_⟩
 ·have hk2:k < h.length:=by omega
  have e1:at_ (h++[x]) k=at_ h k:=by simp [at_,kM (show k < h.length by omega)]
  have e2:at_ (h++[x]) (par k)=at_ h (par k):=by simp [at_,kM (show par k < h.length by unfold par;omega)]
  rw [e1,e2];exact hh k h0 (by omega)
 ·exfalso;unfold par at hpk;omega
theorem amv (h:List It) (x:It) (hh:Heap h h.length):(Qb h x).length=h.length+1:=by
 have:=(acZ h x hh).2.length_eq;simpa using this
structure Js (h L:List It) (n:Int):Prop where
 heap:Heap h h.length
 perm:L.Perm h
 srt:L.Pairwise (λx y=>uM x y=true)
 low:∀x∈L,x.2.1 < n
theorem Js.len {h L:List It} {n:Int} (s:Js h L n):h.length=L.length:=s.perm.length_eq.symm
def insL (x:It):List It->List It
 | []=>[x]
 | y::L=>if y.1<=x.1 then y::insL x L else x::y::L
theorem OY (x:It):∀L,(insL x L).Perm (L++[x])
 | []=>L9 _
 | y::L=>by
  unfold insL;split
  ·exact (OY x L).cons y
  ·exact List.perm_append_comm (l₁:=[x]) (l₂:=y::L)
theorem aj3 {y x:It} (h:y.1<=x.1) (h2:y.2.1 < x.2.1):uM y x=true:=by
 unfold uM;split
 ·simpa using h2
 ·simp;omega
theorem abW {y x:It} (h:x.1 < y.1):uM x y=true:=by
 unfold uM;rw [ah (by omega)];simpa using h
theorem aj2 {x y:It} (h:uM x y=true):x.1<=y.1:=ajM (U7 h)
theorem abm (x:It):∀L:List It,L.Pairwise (λa b=>uM a b=true)->(∀y∈L,y.2.1 < x.2.1)->(insL x L).Pairwise (λa b=>uM a b=true)
 | [],_,_=>by simp [insL]
 | y::L,hs,hlow=>by
  obtain ⟨h1,h2⟩:=sG.1 hs;unfold insL;split
  ·next hc=>
   refine sG.2 ⟨λz hz=>?_,abm x L h2 λz hz=>hlow z (yw _ hz)⟩;rcases lX.1 ((OY x L).mem_iff.1 hz) with g | g
   ·exact h1 z g
   ·rw [Jf] at g
    subst g;exact aj3 hc (hlow y List.mem_cons_self)
  ·next hc=>
   refine sG.2 ⟨λz hz=>?_,hs⟩;rcases bZ.1 hz with rfl | g
   ·exact abW (by omega)
   ·exact abW (by have:=aj2 (h1 z g);omega)
theorem Js.put {h L:List It} {n a:Int} {t:List UInt8} (s:Js h L n):Js (Qb h (a,n,t)) (insL (a,n,t) L) (n+1):=by
 have hp:=acZ h (a,n,t) s.heap;have hl:=amv h (a,n,t) s.heap;refine ⟨by rw [hl];exact hp.1,(OY _ _).trans ((s.perm.append_right _).trans hp.2.symm),abm _ _ s.srt s.low,λx hx=>?_⟩;rcases lX.1 ((OY _ _).mem_iff.1 hx) with g | g
 ·have:=s.low x g;omega
 ·rw [Jf] at g
  subst g;show n < n+1
  omega
/-- What may be kept. -/
structure Kp (k:List Sn):Prop where
 len:k.length<=8
 tb:∀s∈k,Tb s.2
 pos:∀s∈k,0 < s.1/\s.1 < 18446744073709551616
 rise:k.Pairwise λa b=>a.1 < b.1/\YO b.2 a.2=true
theorem Kp.nil:Kp []:=⟨by decide,by simp,by simp,List.Pairwise.nil⟩
theorem Kp.drop {k:List Sn} (hk:Kp k) (i:Nat):Kp (k.drop i):=
 ⟨by have:=hk.len;rw [eP];omega,λs hs=>hk.tb s (Bh hs),λs hs=>hk.pos s (Bh hs),hk.rise.sublist (List.drop_sublist i k)⟩
/-- What was published by its epoch. -/
def aeM (xs:List GV) (k:List Sn):Prop:=∀s∈k,gV (.i .u64 s.1) xs=some (sn s)
theorem key_inj {a b:Int} {x:GV} (h1:nT (.i .u64 a) x=true) (h2:nT (.i .u64 b) x=true):a=b:=by
 cases x<;>simp [nT] at h1 h2
 omega
theorem abv (a b:Int):nT (.i .u64 a) (.i .u64 b)=decide (a=b):=by
 simp only [nT];rw [qE];simp
theorem xH (a b:Int) (u:GV):∀xs:List GV,gV (.i .u64 a) (jR (.i .u64 b) u xs)=if a=b then some u else gV (.i .u64 a) xs
 | []=>by
  show (if nT (.i .u64 a) (.i .u64 b)=true then some u else none)=_
  rw [abv];by_cases h:a=b<;>simp [h,gV]
 | .g [x,v]::xs=>by
  have ih:=xH a b u xs;show gV (.i .u64 a) (if nT (.i .u64 b) x=true then .g [.i .u64 b,u]::xs else .g [x,v]::jR (.i .u64 b) u xs)=if a=b then some u else (if nT (.i .u64 a) x=true then some v else gV (.i .u64 a) xs)
  cases hb:nT (.i .u64 b) x with
  | true=>
   rw [aj rfl];show (if nT (.i .u64 a) (.i .u64 b)=true then some u else gV (.i .u64 a) xs)=_
   rw [abv];by_cases h:a=b
   ·simp [h]
   ·cases ha:nT (.i .u64 a) x with
    | true=>exact absurd (key_inj ha hb) h
    | false=>simp [h]
  | false=>
   rw [ah (by simp)];show (if nT (.i .u64 a) x=true then some v else gV (.i .u64 a) (jR (.i .u64 b) u xs))=_
   rw [ih];cases ha:nT (.i .u64 a) x with
   | true=>
    by_cases h:a=b
    ·subst h;rw [ha] at hb;cases hb
    ·simp [h]
   | false=>simp
 | .g []::xs=>xH a b u xs
 | .g [_]::xs=>xH a b u xs
 | .g (_::_::_::_)::xs=>xH a b u xs
 | .i _ _::xs=>xH a b u xs
 | .b _::xs=>xH a b u xs
 | .s _::xs=>xH a b u xs
 | .l _::xs=>xH a b u xs
structure Lead (xs:List GV) (k:List Sn) (b:Int):Prop where
 kp:Kp k
 map:aeM xs k
 base:b=0\/∃s∈k,s.1=b
abbrev An:=Int×Int×Int×Int
/-- A message of a sender. -/
abbrev Tm:=Int×Int×Int×List Row
def aeD (xs:List GV) (m:Tm):Prop:=
 (m.1=5/\Tb m.2.2.2/\(0 < m.2.1/\m.2.1 < 18446744073709551616)/\m.2.2.1=0/\gV (.i .u64 m.2.1) xs=some (sn (m.2.1,m.2.2.2)))\/
 (m.1=6/\Tb m.2.2.2/\(0 < m.2.2.1/\m.2.2.1 < m.2.1/\m.2.1 < 18446744073709551616)/\∃s l:Sn,gV (.i .u64 m.2.2.1) xs=some (sn s)/\gV (.i .u64 m.2.1) xs=some (sn l)/\l.1=m.2.1/\s.1=m.2.2.1/\Tb l.2/\ae5 s (m.2.2.1,m.2.1,m.2.2.2)=(l,0))
/-- A sender and a receiver, and what was told between them. -/
structure X6 (xs:List GV) (told:List Tm) (back:List An) (k:List Sn) (b:Int) (sm:Bool) (h:Sn):Prop where
 lead:Lead xs k b
 keys:∀e g,gV (.i .u64 e) xs=some g->∃l,k.getLast? = some l/\e<=l.1
 told:∀m∈told,aeD xs m
 back:∀a∈back,a.1=7->sm=true/\a.2.1<=h.1
 has:(sm=true/\gV (.i .u64 h.1) xs=some (sn h)/\Tb h.2)\/(sm=false/\h=zS)
 base:b<=0\/(sm=true/\b<=h.1)
 zero:gV (.i .u64 0) xs=none
theorem X6.no {xs:List GV} {told:List Tm} {back:List An} {k:List Sn} {b:Int} {sm:Bool} {h:Sn} (f:X6 xs told back k b sm h) (e:sm=false):h=zS:=by
 rcases f.has with ⟨q, -⟩ | ⟨-,q⟩
 ·rw [q] at e;cases e
 ·exact q
noncomputable def dh (p:Prop):Bool:=@decide p (Classical.propDecidable p)
theorem jO {p:Prop} (h:p):dh p=true:=@GL p (Classical.propDecidable p) h
theorem jB {p:Prop} (h:¬ p):dh p=false:=@D8 p (Classical.propDecidable p) h
theorem H7 {p q:Prop} (h:p↔q):dh p=dh q:=by rw [propext h]
def pG (t y n:Int) (s:List UInt8) (k:List aF):GV:=.g [.i .u64 t,.i .i64 y,.i .u64 n,.s s,.l (aC k)]
@[simp] theorem asT (t y n:Int) (s:List UInt8) (k:List aF):(pG t y n s k).cells=[.i .u64 t,.i .i64 y,.i .u64 n,.s s,.l (aC k)]:=rfl
theorem BX {l:List aF} {i:Nat} (h:i < l.length):∃t y n s k,l[i]? = some (.mk t y n s k)/\(aC l)[i]? = some (pG t y n s k)/\l.drop i=.mk t y n s k::l.drop (i+1)/\aF.mk t y n s k∈l:=by
 have hget:(aC l)[i]? = some (nO l[i]):=by rw [yS,jg,bU h];rfl
 have hd:=jw h;have hm:=jh h;have hg:=bU h;cases hf:l[i] with
 | mk t y n s k=>
  rw [hf] at hget hd hm hg;exact ⟨t,y,n,s,k,hg,by rw [hget];simp only [nO];rfl,hd,hm⟩
/-- What is still to be compared behind two lists' fields. -/
def qZ:List aF->List aF->Option (List (List aF×List aF))
 | .mk t y n s k::a,.mk t' y' n' s' k'::b=>if t=t'/\y=y'/\n=n'/\s=s' then (qZ a b).map λr=>(if k.length=0/\k'.length=0 then [] else [(k,k')])++r else none
 | _,_=>some []
def jv (q:List aF×List aF):GV:=.g [.l (aC q.1),.l (aC q.2)]
@[simp] theorem auo (q:List aF×List aF):(jv q).cells=[.l (aC q.1),.l (aC q.2)]:=rfl
def qX:List (List aF×List aF)->Nat
 | []=>0
 | q::l=>bH q.1+1+qX l
theorem PN:∀ (a b:List (List aF×List aF)),qX (a++b)=qX a+qX b
 | [],b=>by simp [qX]
 | q::a,b=>by simp only [dW,qX,PN a b];omega
theorem acr:∀ (a:List (List aF×List aF)),a.length<=qX a
 | []=>by simp [qX]
 | q::a=>by have:=acr a;simp only [iV,qX];omega
def okP (q:List aF×List aF):Prop:=bW q.1/\bW q.2/\q.1.length<=1000000/\q.2.length<=1000000
theorem acY:∀ (a b:List aF),a.length=b.length->bW a->bW b->(match qZ a b with
 | none=>a≠b
 | some ps=>((∀q∈ps,q.1=q.2)↔a=b)/\qX ps<=bH a/\∀q∈ps,okP q)
 | [],[],_,_,_=>by simp [qZ,qX]
 | [],_::_,e,_,_=>by simp at e
 | _::_,[],e,_,_=>by simp at e
 | .mk t y n s k::a,.mk t' y' n' s' k'::b,e,ha,hb=>by
  simp only [bW,pI] at ha hb;have ih:=acY a b (by simpa using e) ha.2 hb.2;unfold qZ;by_cases hc:t=t'/\y=y'/\n=n'/\s=s'
  ·rw [aj hc]
   obtain ⟨rfl,rfl,rfl,rfl⟩:=hc;cases hp:qZ a b with
   | none=>
    rw [hp] at ih;simp only [Option.map_none];intro h;injection h with h1 h2
    exact ih h2
   | some ps=>
    rw [hp] at ih;obtain ⟨i1,i2,i3⟩:=ih;simp only [gy];by_cases hk:k.length=0/\k'.length=0
    ·rw [aj hk]
     have e1:=je hk.1;have e2:=je hk.2;subst e1;subst e2;refine ⟨by simpa using i1,by simp only [cu,bH,qy];omega,by simpa using i3⟩
    ·rw [ah hk]
     refine ⟨?_,by simp only [dW,cu,qX,bH,qy];omega,λq hq=>?_⟩
     ·simp only [dW,cu,bZ,forall_eq_or_imp,i1]
      constructor
      ·rintro ⟨h1,h2⟩;rw [h1,h2]
      ·intro h
       injection h with h1 h2
       injection h1 with _ _ _ _ h5
       exact ⟨h5,h2⟩
     ·simp only [dW,cu,bZ] at hq
      rcases hq with rfl | hq
      ·exact ⟨ha.1.2,hb.1.2,ha.1.1.2.2.2.2.2.2.2,hb.1.1.2.2.2.2.2.2.2⟩
      ·exact i3 q hq
  ·rw [ah hc]
   intro h;injection h with h1 h2
   injection h1 with k1 k2 k3 k4 _
   exact hc ⟨k1,k2,k3,k4⟩
theorem TU (a b:List aF) (hl:a.length=b.length) (hla:a.length<=1000000) (ha:bW a) (hb:bW b):∀ (m i:Nat) (acc:List (List aF×List aF)),i+m=a.length->acc.length+m<=4000000->
 TT.lim 138 [.l (acc.map jv),.i .i64 a.length,.i .i64 i,.l (aC a),.l (aC b)]=some (match qZ (a.drop i) (b.drop i) with | none=>[.i .i64 0] | some ps=>[.i .i64 1,.l ((acc++ps).map jv)])
 | 0,i,acc,hi,hacc=>by
  have e1:a.drop i=[]:=gZ (by omega);have e2:b.drop i=[]:=gZ (by omega);have h:¬ ((i:Int) < a.length):=by omega
  rw [e1,e2];simp only [qZ,nK];generalize acc.map jv=A at *;refine aA rfl rfl ?_;simp [h]
 | m+1,i,acc,hi,hacc=>by
  obtain ⟨t,y,n,s,k,g1,g2,g3,g4⟩:=BX (l:=a) (i:=i) (by omega);obtain ⟨t',y',n',s',k',g1',g2',g3',g4'⟩:=BX (l:=b) (i:=i) (by omega);have hwr:=wrap64 (n:=(i:Int)+1) (by omega) (by omega);have h:((i:Int) < a.length):=by omega
  have hcast:((i+1:Nat):Int)=(i:Int)+1:=by omega
  have hz1:=kU k;have hz2:=kU k';rw [g3,g3'];unfold qZ;by_cases c1:t=t';rotate_left
  ·rw [ah λh=>c1 h.1]
   refine aA rfl rfl ?_;simp [h,g2,g2',c1]
  by_cases c2:y=y';rotate_left
  ·rw [ah λh=>c2 h.2.1]
   refine aA rfl rfl ?_;simp [h,g2,g2',c1,c2]
  by_cases c3:n=n';rotate_left
  ·rw [ah λh=>c3 h.2.2.1]
   refine aA rfl rfl ?_;simp [h,g2,g2',c1,c2,c3]
  by_cases c4:s=s';rotate_left
  ·rw [ah λh=>c4 h.2.2.2]
   refine aA rfl rfl ?_;simp [h,g2,g2',c1,c2,c3,c4]
  rw [aj ⟨c1,c2,c3,c4⟩];by_cases hk:k.length=0/\k'.length=0
  ·rw [aj hk]
   have ih':=TU a b hl hla ha hb m (i+1) acc (by omega) (by omega);rw [hcast] at ih';have z1:=je hk.1;have z2:=je hk.2;have hR:(match Option.map (λr=>[]++r) (qZ (a.drop (i+1)) (b.drop (i+1))) with | none=>[GV.i .i64 0] | some ps=>[GV.i .i64 1,GV.l ((acc++ps).map jv)])=(match qZ (a.drop (i+1)) (b.drop (i+1)) with | none=>[GV.i .i64 0] | some ps=>[GV.i .i64 1,GV.l ((acc++ps).map jv)]):=by
    cases qZ (a.drop (i+1)) (b.drop (i+1))<;>simp
   rw [hR];generalize (match qZ (a.drop (i+1)) (b.drop (i+1)) with | none=>[GV.i .i64 0] | some ps=>[GV.i .i64 1,GV.l ((acc++ps).map jv)])=R at *;generalize acc.map jv=A at *;refine aA rfl rfl ?_;simp [h,g2,g2',c1,c2,c3,c4,z1,z2,aC,hwr,ih']
  ·rw [ah hk]
   have ih':=TU a b hl hla ha hb m (i+1) (acc++[(k,k')]) (by omega) (by simp;omega);rw [hcast] at ih';have hR:(match Option.map (λr=>[(k,k')]++r) (qZ (a.drop (i+1)) (b.drop (i+1))) with | none=>[GV.i .i64 0] | some ps=>[GV.i .i64 1,GV.l ((acc++ps).map jv)])=(match qZ (a.drop (i+1)) (b.drop (i+1)) with | none=>[GV.i .i64 0] | some ps=>[GV.i .i64 1,GV.l ((acc++[(k,k')]++ps).map jv)]):=by
    cases qZ (a.drop (i+1)) (b.drop (i+1))<;>simp
   rw [hR];generalize (match qZ (a.drop (i+1)) (b.drop (i+1)) with | none=>[GV.i .i64 0] | some ps=>[GV.i .i64 1,GV.l ((acc++[(k,k')]++ps).map jv)])=R at *;have hmap:(acc++[(k,k')]).map jv=acc.map jv++[.g [.l (aC k),.l (aC k')]]:=by simp [jv]
   rw [hmap] at ih';have hb1:2 * ((acc.map jv).length+1) * 48<=281474976710656/\(acc.map jv).length+1<=281474976710656:=by rw [wC];omega
   generalize acc.map jv=A at *;have hb2:A.length<=281474976710655:=by omega
   by_cases z0:k.length=0;rotate_left
   ·have z1:0 < k.length:=by omega
    have z3:k≠[]:=λe=>by rw [e] at z0;exact z0 rfl
    have hel:GV.fO 2 (.g [.l (aC k),.l (aC k')])=true:=rfl;refine aA rfl rfl ?_;simp [h,g2,g2',c1,c2,c3,c4,hz1,hz2,z1,z3,hwr,ih',hel,hb1,hb2]
   ·have z1:=je z0
    have z2:0 < k'.length:=by omega
    have z3:k'≠[]:=λe=>by rw [e] at z2;exact absurd z2 (by simp)
    subst z1;have hel:GV.fO 2 (.g [.l [],.l (aC k')])=true:=rfl;simp only [aC,pG] at ih' g2 hz1;refine aA rfl rfl ?_;simp [h,g2,g2',c1,c2,c3,c4,hz2,z2,z3,hwr,ih',hel,hb1,hb2]
theorem aaT:∀ (N:Nat) (work:List (List aF×List aF)),qX work < N->qX work<=2000000->(∀q∈work,okP q)->TT.lim 137 [.l (work.map jv)]=some [.i .i64 (if dh (∀q∈work,q.1=q.2)=true then 1 else 0)]
 | 0,work,hN,_,_=>by omega
 | N+1,work,hN,hM,hok=>by
  rcases aeG work with rfl | ⟨ws,q,rfl⟩
  ·have ht:dh (∀q∈([]:List (List aF×List aF)),q.1=q.2)=true:=jO (by simp)
   rw [ht];refine aA rfl rfl ?_;simp
  ·rw [aeE] at *
   obtain ⟨a,b⟩:=q;have hq:=hok (a,b) (by simp);obtain ⟨q1,q2,q3,q4⟩:=hq;simp only at q1 q2 q3 q4;have hlen:=acr ws;rw [PN] at hN hM;simp only [qX] at hN hM;have hl1:=kU a;have hl2:=kU b;have hmap:(ws++[(a,b)]).map jv=ws.map jv++[jv (a,b)]:=by simp
   have hwl:(ws.map jv).length=ws.length:=wC ..;have hall:∀x∈ws.map jv,x.cells.length=2:=by
    intro x hx;obtain ⟨r,_,rfl⟩:=nM.1 hx;rfl
   have key:=TU a b;have i0:(0:Int) < (ws.length:Int)+1:=by omega
   have i1:(ws.length:Int)+1 - 1=ws.length:=by omega
   have i2:(ws.length:Int) < (ws.length:Int)+1:=by omega
   have i3:(ws.length:Int)<=(ws.length:Int)+1:=by omega
   have hwr:=wrap64 (n:=(ws.length:Int)) (by omega) (by omega);rw [hmap];by_cases hl:a.length=b.length;rotate_left
   ·have hne:dh (∀q∈ws++[(a,b)],q.1=q.2)=false:=jB λh=>hl (sU List.length (h (a,b) (by simp)))
    have hc:¬ ((a.length:Int)=(b.length:Int)):=by omega
    rw [hne];generalize ws.map jv=A at *;have J9:=eq_true hall;clear hall;refine aA rfl rfl ?_;simp [hwl,i0,i1,i2,i3,hwr,jv,hl1,hl2,hc,J9]
   ·have hpo:=acY a b hl q1 q2
    have key:=key hl q3 q1 q2 a.length 0 ws (by omega) (by omega);rw [eH,eH,show ((0:Nat):Int)=0 from rfl] at key;have hc:b.length=a.length:=by omega
    cases hp:qZ a b with
    | none=>
     rw [hp] at hpo key;have hne:dh (∀q∈ws++[(a,b)],q.1=q.2)=false:=jB λh=>hpo (h (a,b) (by simp));rw [hne];simp only at key;generalize ws.map jv=A at *;have hA:A.length < 281474976710656:=by omega
     have J9:=eq_true hall;clear hall;refine aA rfl rfl ?_;simp [hwl,i0,i1,i2,i3,hwr,jv,hl1,hl2,hc,key,J9]
    | some ps=>
     rw [hp] at hpo key;obtain ⟨p1,p2,p3⟩:=hpo;have ih:=aaT N (ws++ps) (by rw [PN];omega) (by rw [PN];omega) (λq hq=>by
      rcases lX.1 hq with hq | hq
      ·exact hok q (by simp [hq])
      ·exact p3 q hq)
     have hcg:dh (∀q∈ws++[(a,b)],q.1=q.2)=dh (∀q∈ws++ps,q.1=q.2):=H7 (by
      simp only [lX,or_imp,forall_and,p1,Jf,forall_eq])
     rw [hcg];generalize dh (∀q∈ws++ps,q.1=q.2)=R at *;simp only at key;generalize (ws++ps).map jv=B at *;generalize ws.map jv=A at *;have J9:=eq_true hall;clear hall;refine aA rfl rfl ?_;simp [hwl,i0,i1,i2,i3,hwr,jv,hl1,hl2,hc,key,J9,ih]
theorem ahP (a b:List aF) (ha:bW a) (hb:bW b) (hla:a.length<=1000000) (hlb:b.length<=1000000) (hs:bH a<=1000000):TT.lim 136 [.l (aC a),.l (aC b)]=some [.b (dh (a=b))]:=by
 have h:=aaT (bH a+2) [(a,b)] (by simp [qX]) (by simp [qX];omega) (by intro q hq;simp at hq;subst hq;exact ⟨ha,hb,hla,hlb⟩);have hcg:dh (∀q∈[(a,b)],q.1=q.2)=dh (a=b):=H7 (by simp);rw [hcg] at h;have hm:[(a,b)].map jv=[.g [.l (aC a),.l (aC b)]]:=rfl;rw [hm] at h;refine aY rfl rfl ?_ rfl;generalize dh (a=b)=r at *;cases r with
 | true=>simp at h;simp [h]
 | false=>simp at h;simp [h]
mutual
def toFt:aF->Ft
 | .mk t y n s k=>.mk [.int .u64 t,.int .i64 y,.int .u64 n,.string ⟨⟨s⟩⟩] (FK k)
def FK:List aF->List Ft
 | []=>[]
 | f::l=>toFt f::FK l
end
mutual
theorem aqF:∀f:aF,Ae (toFt f) (nO f)/\cntF (toFt f)<=qy f
 | .mk t y n s k=>by
  have h:=Xx k;simp only [toFt,Ae,nO,cntF,qy];exact ⟨⟨_,_,_,_,_,rfl,rfl,h.1⟩,by omega⟩
theorem Xx:∀l:List aF,oI (FK l) (aC l)/\mX (FK l)<=bH l
 | []=>by simp only [FK,oI,aC,mX,bH];exact ⟨trivial,dJ _⟩
 | f::l=>by
  have h1:=aqF f;have h2:=Xx l;simp only [FK,oI,aC,mX,bH];exact ⟨⟨_,_,rfl,h1.1,h2.1⟩,by omega⟩
end
theorem Oj (l:List aF) (hs:bH l<=1000000):TT.lim 87 [.l (aC l)]=some [.l (aC l)]:=by
 refine KY (Ds:=Ds) (k:=87) (f:=GZ) rfl ?_;have h:=Xx l;unfold GZ;exact aj ⟨FK l,h.1,by omega⟩
theorem Ox:∀ (n:Nat) (l:List One) (deep:Int),bH (fA n l deep).1+2 * (fA n l deep).2.length<=2 * l.length
 | 0,l,deep=>by simp [fA,bH]
 | n+1,[],deep=>by simp [fA,bH]
 | n+1,x::l,deep=>by
  simp only [fA];split
  ·by_cases hx:x.deep=255
   ·rw [aj hx]
    have h1:=Ox n l deep;simp only [bH,qy,iV];omega
   ·rw [ah hx]
    have h1:=Ox n l (x.deep+1);have h2:=Ox n (fA n l (x.deep+1)).2 deep;simp only [bH,qy,iV];omega
  ·simp [bH]
theorem ab2 (l:List One):bH (tC l)<=2 * l.length:=by
 have:=Ox (l.length+1) l 0;unfold tC;omega
theorem aci (b:aB) (fl:List aF) (t:List Row) (ht:t.length<=1000) (hd:∀r∈t,r.1.length<=40):∀ (m i:Nat),i+m=t.length->
 TT.lim 114 [.l ((t.take i).map row),.l (t.map row),.i .i64 t.length,.i .i64 i,.i .i64 b.kind,.i .u64 b.id,.i .u64 b.min,.i .u64 b.max,.i .u64 b.chosen,.i .u64 b.flags,.i .u64 b.cost,.i .u64 b.priority,.i .u64 b.deadline,.i .u64 b.retry,.i .u64 b.epoch,.i .u64 b.base,.i .u64 b.digest,.i .u64 b.lag,.i .u64 b.code,.i .u64 b.want,.i .i64 b.remaining,.b b.allowed,.s b.name,.s b.region,.s b.note,.l (b.d.map ent),.l (aC fl)]=some [.i .i64 0,.l (t.map row)]
 | 0,i,hi=>by
  have h0:t.take i=t:=mQ (by omega);have h:¬ ((i:Int) < t.length):=by omega
  rw [h0];refine aA rfl rfl ?_;simp [h]
 | m+1,i,hi=>by
  have hlt:i < t.length:=by omega
  have ih:=aci b fl t ht hd m (i+1) (by omega);have h:((i:Int) < t.length):=by omega
  have hcast:((i+1:Nat):Int)=(i:Int)+1:=by omega
  have hwr:=wrap64 (n:=(i:Int)+1) (by omega) (by omega);have hg:(t.map row)[i]? = some (row t[i]):=by rw [jg,bU hlt];rfl
  have hc:=Zm t[i].1 (hd _ (jh hlt));have hfold:GV.g [.l (t[i].1.map ent),.i .u64 t[i].2]=row t[i]:=rfl;have htk:(t.take (i+1)).map row=(t.take i).map row++[row t[i]]:=by rw [RD,bU hlt,yu];rfl
  rw [htk,hcast] at ih;have hel:(row t[i]).fO 2=true:=rfl;have hb1:2 * (((t.take i).map row).length+1) * 32<=281474976710656:=by simp;omega
  have hb2:((t.take i).map row).length<=281474976710655:=by simp;omega
  generalize (t.take i).map row=A at *;generalize t.map row=L at *;refine aA rfl rfl ?_;simp [h,hg,hc,hfold,hel,hb1,hb2,hwr,ih]
theorem akF (b:aB) (fl:List aF) (hd:b.d.length<=40) (ht:oV b.t) (hs:bH fl<=1000000):TT.lim 112 [eY b (aC fl)]=some [eY b (aC fl)]:=by
 have ai7:∀r∈b.t,r.1.length<=40:=λr hr=>by
  have:=ht.few r hr;unfold iF at this;rw [aI,decide_eq_true_iff] at this;exact this.2
 have h1:=aci b fl b.t (by have:=ht.len;omega) ai7 b.t.length 0 (by omega);have hl:=ht.len;rw [RG,show ((0:Nat):Int)=0 from rfl] at h1;have h2:=Zm b.d hd;have h3:=Oj fl hs;have hml:((b.t.map row).length:Int)=b.t.length:=by simp
 have hz1:(32:Int) * b.t.length<=281474976710656:=by omega
 have hz2:(b.t.length:Int)<=1152921504606846976:=by omega
 have hz3:b.t.length<=8796093022208:=by omega
 simp only [Dp] at h1;generalize hL:b.t.map row=L at *;refine aY rfl rfl ?_ rfl;unfold eY;rw [hL];simp [hml,h1,h2,h3,GV.fO,hz1,hz2];try omega
def Bc (n:Int):Int:=if n % 2=0 then n / 2 else -(n / 2) - 1
theorem arV (n:Int) (h0:0<=n) (h1:n < 18446744073709551616):fE .and .u64 n 1=some (.i .u64 (n % 2))/\fE .xor .i64 (IntKind.i64.wrap (n / 2)) (IntKind.i64.wrap (0 - IntKind.i64.wrap (n % 2)))=some (.i .i64 (Bc n))/\n.fdiv 2=n / 2:=by
 have wu:∀y:Int,IntKind.u64.wrap y=y % 18446744073709551616:=λy=>by simp [IntKind.wrap,IntKind.signed,IntKind.bits]
 have hu:IntKind.u64.bits=64:=rfl;have hi:IntKind.i64.bits=64:=rfl;refine ⟨?_, ?_,L6 _ (by decide)⟩
 ·simp only [fE,wu,hu]
  have e:(BitVec.ofInt 64 n &&& BitVec.ofInt 64 1).toNat=(BitVec.ofInt 64 n).toNat % 2:=by
   rw [XV];exact Nat.and_one_is_mod _
  show some (GV.i IntKind.u64 (((BitVec.ofInt 64 n &&& BitVec.ofInt 64 1).toNat:Int) % 18446744073709551616))=_
  rw [e,xu];congr 2;omega
 ·rw [wrap64 (by omega) (by omega),wrap64 (n:=n % 2) (by omega) (by omega),wrap64 (by omega) (by omega)]
  simp only [fE,hi];unfold Bc;by_cases h:n % 2=0
  ·rw [aj h,h]
   have e:BitVec.ofInt 64 (0 - 0)=0#64:=rfl;show some (GV.i IntKind.i64 (IntKind.i64.wrap ((BitVec.ofInt 64 (n / 2) ^^^ BitVec.ofInt 64 (0 - 0)).toNat:Int)))=_
   rw [e,BitVec.xor_zero,xu];congr 2;rw [wrap64 (by omega) (by omega)];omega
  ·rw [ah h,show n % 2=1 by omega]
   have e:BitVec.ofInt 64 (0 - 1)=BitVec.allOnes 64:=by decide
   show some (GV.i IntKind.i64 (IntKind.i64.wrap ((BitVec.ofInt 64 (n / 2) ^^^ BitVec.ofInt 64 (0 - 1)).toNat:Int)))=_
   rw [e,BitVec.xor_allOnes,BitVec.toNat_not,xu];congr 2;have wi:∀y:Int,IntKind.i64.wrap y=if y % 18446744073709551616>=9223372036854775808 then y % 18446744073709551616 - 18446744073709551616 else y % 18446744073709551616:=λy=>by
    simp [IntKind.wrap,IntKind.signed,IntKind.bits]
   rw [wi];split<;>omega
def setB (b:aB) (n:Int) (s:List UInt8):Pl->aB
 | .rem=>{ b with remaining:=Bc n }
 | .allow=>{ b with allowed:=true }
 | .name=>{ b with name:=s }
 | .region=>{ b with region:=s }
 | .note=>{ b with note:=s }
 | .d=>{ b with d:=(pF s).1 }
 | .t=>{ b with t:=(pV s).1 }
 | .num k=>match k with
  | 0=>{ b with id:=n }
  | 1=>{ b with min:=n }
  | 2=>{ b with max:=n }
  | 3=>{ b with chosen:=n }
  | 4=>{ b with flags:=n }
  | 5=>{ b with cost:=n }
  | 6=>{ b with priority:=n }
  | 7=>{ b with deadline:=n }
  | 8=>{ b with retry:=n }
  | 9=>{ b with epoch:=n }
  | 10=>{ b with base:=n }
  | 11=>{ b with digest:=n }
  | 12=>{ b with lag:=n }
  | 13=>{ b with code:=n }
  | _=>{ b with want:=n }
def iw (n:Int) (s:List UInt8):Pl->Int
 | .allow=>if n=1 then 0 else 18
 | .name=>jA s 0 256
 | .region=>jA s 0 256
 | .note=>jA s 0 256
 | .d=>(pF s).2
 | .t=>if (pV s).2=0 then (if (pV s).1.length=0 then 17 else 0) else (pV s).2
 | _=>0
def aK (ty n:Int) (s:List UInt8) (p:Pl):Int:=if ty=aZ p then (if ty=0 then (if n=0 then 17 else iw n s p) else (if s=[] then 17 else iw n s p)) else 8
theorem ng (u:Int):TT.lim 116 [.i .i64 u]=some [.i .i64 (if u=0 then 0 else if u=1 then 0 else if u=2 then 0 else if u=3 then 1 else if u=4 then 1 else if u=5 then 1 else -1)]:=by
 refine aY rfl rfl ?_ rfl;by_cases h0:u=0
 ·simp [h0]
 by_cases h1:u=1
 ·simp [h1]
 by_cases h2:u=2
 ·simp [h2]
 by_cases h3:u=3
 ·simp [h3]
 by_cases h4:u=4
 ·simp [h4]
 by_cases h5:u=5
 ·simp [h5]
 simp [h0,h1,h2,h3,h4,h5]
/-- A message's cells, but for the first and the last one. -/
def bP (b:aB):List GV:=[.i .u64 b.id,.i .u64 b.min,.i .u64 b.max,.i .u64 b.chosen,.i .u64 b.flags,.i .u64 b.cost,.i .u64 b.priority,.i .u64 b.deadline,.i .u64 b.retry,.i .u64 b.epoch,.i .u64 b.base,.i .u64 b.digest,.i .u64 b.lag,.i .u64 b.code,.i .u64 b.want,.i .i64 b.remaining,.b b.allowed,.s b.name,.s b.region,.s b.note,.l (b.d.map ent),.l (b.t.map row)]
/-- What set does. -/
def fC (b:aB) (r:List GV) (tag ty n:Int) (s:List UInt8) (L:GV) (nm:List UInt8) (p:Pl):Prop:=∃b':aB,TT.lim 115 [.s nm,.i .u64 tag,.i .i64 ty,.i .u64 n,.s s,L,.i .i64 b.kind,.i .u64 b.id,.i .u64 b.min,.i .u64 b.max,.i .u64 b.chosen,.i .u64 b.flags,.i .u64 b.cost,.i .u64 b.priority,.i .u64 b.deadline,.i .u64 b.retry,.i .u64 b.epoch,.i .u64 b.base,.i .u64 b.digest,.i .u64 b.lag,.i .u64 b.code,.i .u64 b.want,.i .i64 b.remaining,.b b.allowed,.s b.name,.s b.region,.s b.note,.l (b.d.map ent),.l (b.t.map row),.l r]=some ([.i .i64 0,.i .i64 (aK ty n s p)]++bP b')/\(aK ty n s p=0->b'=setB b n s p)
theorem aoB (b:aB) (r:List GV) (tag ty n:Int) (s:List UInt8) (L:GV):fC b r tag ty n s L lH (.num 0):=by
 unfold fC;have hk:=ng;unfold lH;by_cases h1:ty=0;rotate_left
 ·have e:aK ty n s (.num 0)=8:=by unfold aK;rw [ah (by simpa [aZ] using h1)]
  refine ⟨b, ?_,λh=>by rw [e] at h;cases h⟩;rw [e];refine aA rfl rfl ?_;simp [bP,hk,h1]
 subst h1;by_cases h2:n=0
 ·have e:aK 0 n s (.num 0)=17:=by unfold aK;simp [aZ,h2]
  refine ⟨b, ?_,λh=>by rw [e] at h;cases h⟩;rw [e];refine aA rfl rfl ?_;simp [bP,hk,h2]
 have e:aK 0 n s (.num 0)=iw n s (.num 0):=by unfold aK;simp [aZ,h2]
 rw [e];refine ⟨{ b with id:=n }, ?_,λ_=>rfl⟩;show _=some ([GV.i .i64 0,GV.i .i64 0]++_)
 refine aA rfl rfl ?_;simp [bP,hk,h2]
theorem aoE (b:aB) (r:List GV) (tag ty n:Int) (s:List UInt8) (L:GV):fC b r tag ty n s L lK (.num 1):=by
 unfold fC;have hk:=ng;unfold lK;by_cases h1:ty=0;rotate_left
 ·have e:aK ty n s (.num 1)=8:=by unfold aK;rw [ah (by simpa [aZ] using h1)]
  refine ⟨b, ?_,λh=>by rw [e] at h;cases h⟩;rw [e];refine aA rfl rfl ?_;simp [bP,hk,h1]
 subst h1;by_cases h2:n=0
 ·have e:aK 0 n s (.num 1)=17:=by unfold aK;simp [aZ,h2]
  refine ⟨b, ?_,λh=>by rw [e] at h;cases h⟩;rw [e];refine aA rfl rfl ?_;simp [bP,hk,h2]
 have e:aK 0 n s (.num 1)=iw n s (.num 1):=by unfold aK;simp [aZ,h2]
 rw [e];refine ⟨{ b with min:=n }, ?_,λ_=>rfl⟩;show _=some ([GV.i .i64 0,GV.i .i64 0]++_)
 refine aA rfl rfl ?_;simp [bP,hk,h2]
theorem aoD (b:aB) (r:List GV) (tag ty n:Int) (s:List UInt8) (L:GV):fC b r tag ty n s L lJ (.num 2):=by
 unfold fC;have hk:=ng;unfold lJ;by_cases h1:ty=0;rotate_left
 ·have e:aK ty n s (.num 2)=8:=by unfold aK;rw [ah (by simpa [aZ] using h1)]
  refine ⟨b, ?_,λh=>by rw [e] at h;cases h⟩;rw [e];refine aA rfl rfl ?_;simp [bP,hk,h1]
 subst h1;by_cases h2:n=0
 ·have e:aK 0 n s (.num 2)=17:=by unfold aK;simp [aZ,h2]
  refine ⟨b, ?_,λh=>by rw [e] at h;cases h⟩;rw [e];refine aA rfl rfl ?_;simp [bP,hk,h2]
 have e:aK 0 n s (.num 2)=iw n s (.num 2):=by unfold aK;simp [aZ,h2]
 rw [e];refine ⟨{ b with max:=n }, ?_,λ_=>rfl⟩;show _=some ([GV.i .i64 0,GV.i .i64 0]++_)
 refine aA rfl rfl ?_;simp [bP,hk,h2]
theorem aot (b:aB) (r:List GV) (tag ty n:Int) (s:List UInt8) (L:GV):fC b r tag ty n s L kZ (.num 3):=by
 unfold fC;have hk:=ng;unfold kZ;by_cases h1:ty=0;rotate_left
 ·have e:aK ty n s (.num 3)=8:=by unfold aK;rw [ah (by simpa [aZ] using h1)]
  refine ⟨b, ?_,λh=>by rw [e] at h;cases h⟩;rw [e];refine aA rfl rfl ?_;simp [bP,hk,h1]
 subst h1;by_cases h2:n=0
 ·have e:aK 0 n s (.num 3)=17:=by unfold aK;simp [aZ,h2]
  refine ⟨b, ?_,λh=>by rw [e] at h;cases h⟩;rw [e];refine aA rfl rfl ?_;simp [bP,hk,h2]
 have e:aK 0 n s (.num 3)=iw n s (.num 3):=by unfold aK;simp [aZ,h2]
 rw [e];refine ⟨{ b with chosen:=n }, ?_,λ_=>rfl⟩;show _=some ([GV.i .i64 0,GV.i .i64 0]++_)
 refine aA rfl rfl ?_;simp [bP,hk,h2]
theorem aoA (b:aB) (r:List GV) (tag ty n:Int) (s:List UInt8) (L:GV):fC b r tag ty n s L lG (.num 4):=by
 unfold fC;have hk:=ng;unfold lG;by_cases h1:ty=0;rotate_left
 ·have e:aK ty n s (.num 4)=8:=by unfold aK;rw [ah (by simpa [aZ] using h1)]
  refine ⟨b, ?_,λh=>by rw [e] at h;cases h⟩;rw [e];refine aA rfl rfl ?_;simp [bP,hk,h1]
 subst h1;by_cases h2:n=0
 ·have e:aK 0 n s (.num 4)=17:=by unfold aK;simp [aZ,h2]
  refine ⟨b, ?_,λh=>by rw [e] at h;cases h⟩;rw [e];refine aA rfl rfl ?_;simp [bP,hk,h2]
 have e:aK 0 n s (.num 4)=iw n s (.num 4):=by unfold aK;simp [aZ,h2]
 rw [e];refine ⟨{ b with flags:=n }, ?_,λ_=>rfl⟩;show _=some ([GV.i .i64 0,GV.i .i64 0]++_)
 refine aA rfl rfl ?_;simp [bP,hk,h2]
theorem aov (b:aB) (r:List GV) (tag ty n:Int) (s:List UInt8) (L:GV):fC b r tag ty n s L lq (.num 5):=by
 unfold fC;have hk:=ng;unfold lq;by_cases h1:ty=0;rotate_left
 ·have e:aK ty n s (.num 5)=8:=by unfold aK;rw [ah (by simpa [aZ] using h1)]
  refine ⟨b, ?_,λh=>by rw [e] at h;cases h⟩;rw [e];refine aA rfl rfl ?_;simp [bP,hk,h1]
 subst h1;by_cases h2:n=0
 ·have e:aK 0 n s (.num 5)=17:=by unfold aK;simp [aZ,h2]
  refine ⟨b, ?_,λh=>by rw [e] at h;cases h⟩;rw [e];refine aA rfl rfl ?_;simp [bP,hk,h2]
 have e:aK 0 n s (.num 5)=iw n s (.num 5):=by unfold aK;simp [aZ,h2]
 rw [e];refine ⟨{ b with cost:=n }, ?_,λ_=>rfl⟩;show _=some ([GV.i .i64 0,GV.i .i64 0]++_)
 refine aA rfl rfl ?_;simp [bP,hk,h2]
theorem aoI (b:aB) (r:List GV) (tag ty n:Int) (s:List UInt8) (L:GV):fC b r tag ty n s L lM (.num 6):=by
 unfold fC;have hk:=ng;unfold lM;by_cases h1:ty=0;rotate_left
 ·have e:aK ty n s (.num 6)=8:=by unfold aK;rw [ah (by simpa [aZ] using h1)]
  refine ⟨b, ?_,λh=>by rw [e] at h;cases h⟩;rw [e];refine aA rfl rfl ?_;simp [bP,hk,h1]
 subst h1;by_cases h2:n=0
 ·have e:aK 0 n s (.num 6)=17:=by unfold aK;simp [aZ,h2]
  refine ⟨b, ?_,λh=>by rw [e] at h;cases h⟩;rw [e];refine aA rfl rfl ?_;simp [bP,hk,h2]
 have e:aK 0 n s (.num 6)=iw n s (.num 6):=by unfold aK;simp [aZ,h2]
 rw [e];refine ⟨{ b with priority:=n }, ?_,λ_=>rfl⟩;show _=some ([GV.i .i64 0,GV.i .i64 0]++_)
 refine aA rfl rfl ?_;simp [bP,hk,h2]
theorem aow (b:aB) (r:List GV) (tag ty n:Int) (s:List UInt8) (L:GV):fC b r tag ty n s L lu (.num 7):=by
 unfold fC;have hk:=ng;unfold lu;by_cases h1:ty=0;rotate_left
 ·have e:aK ty n s (.num 7)=8:=by unfold aK;rw [ah (by simpa [aZ] using h1)]
  refine ⟨b, ?_,λh=>by rw [e] at h;cases h⟩;rw [e];refine aA rfl rfl ?_;simp [bP,hk,h1]
 subst h1;by_cases h2:n=0
 ·have e:aK 0 n s (.num 7)=17:=by unfold aK;simp [aZ,h2]
  refine ⟨b, ?_,λh=>by rw [e] at h;cases h⟩;rw [e];refine aA rfl rfl ?_;simp [bP,hk,h2]
 have e:aK 0 n s (.num 7)=iw n s (.num 7):=by unfold aK;simp [aZ,h2]
 rw [e];refine ⟨{ b with deadline:=n }, ?_,λ_=>rfl⟩;show _=some ([GV.i .i64 0,GV.i .i64 0]++_)
 refine aA rfl rfl ?_;simp [bP,hk,h2]
theorem aoL (b:aB) (r:List GV) (tag ty n:Int) (s:List UInt8) (L:GV):fC b r tag ty n s L lQ (.num 8):=by
 unfold fC;have hk:=ng;unfold lQ;by_cases h1:ty=0;rotate_left
 ·have e:aK ty n s (.num 8)=8:=by unfold aK;rw [ah (by simpa [aZ] using h1)]
  refine ⟨b, ?_,λh=>by rw [e] at h;cases h⟩;rw [e];refine aA rfl rfl ?_;simp [bP,hk,h1]
 subst h1;by_cases h2:n=0
 ·have e:aK 0 n s (.num 8)=17:=by unfold aK;simp [aZ,h2]
  refine ⟨b, ?_,λh=>by rw [e] at h;cases h⟩;rw [e];refine aA rfl rfl ?_;simp [bP,hk,h2]
 have e:aK 0 n s (.num 8)=iw n s (.num 8):=by unfold aK;simp [aZ,h2]
 rw [e];refine ⟨{ b with retry:=n }, ?_,λ_=>rfl⟩;show _=some ([GV.i .i64 0,GV.i .i64 0]++_)
 refine aA rfl rfl ?_;simp [bP,hk,h2]
theorem aoz (b:aB) (r:List GV) (tag ty n:Int) (s:List UInt8) (L:GV):fC b r tag ty n s L lF (.num 9):=by
 unfold fC;have hk:=ng;unfold lF;by_cases h1:ty=0;rotate_left
 ·have e:aK ty n s (.num 9)=8:=by unfold aK;rw [ah (by simpa [aZ] using h1)]
  refine ⟨b, ?_,λh=>by rw [e] at h;cases h⟩;rw [e];refine aA rfl rfl ?_;simp [bP,hk,h1]
 subst h1;by_cases h2:n=0
 ·have e:aK 0 n s (.num 9)=17:=by unfold aK;simp [aZ,h2]
  refine ⟨b, ?_,λh=>by rw [e] at h;cases h⟩;rw [e];refine aA rfl rfl ?_;simp [bP,hk,h2]
 have e:aK 0 n s (.num 9)=iw n s (.num 9):=by unfold aK;simp [aZ,h2]
 rw [e];refine ⟨{ b with epoch:=n }, ?_,λ_=>rfl⟩;show _=some ([GV.i .i64 0,GV.i .i64 0]++_)
 refine aA rfl rfl ?_;simp [bP,hk,h2]
theorem aos (b:aB) (r:List GV) (tag ty n:Int) (s:List UInt8) (L:GV):fC b r tag ty n s L kY (.num 10):=by
 unfold fC;have hk:=ng;unfold kY;by_cases h1:ty=0;rotate_left
 ·have e:aK ty n s (.num 10)=8:=by unfold aK;rw [ah (by simpa [aZ] using h1)]
  refine ⟨b, ?_,λh=>by rw [e] at h;cases h⟩;rw [e];refine aA rfl rfl ?_;simp [bP,hk,h1]
 subst h1;by_cases h2:n=0
 ·have e:aK 0 n s (.num 10)=17:=by unfold aK;simp [aZ,h2]
  refine ⟨b, ?_,λh=>by rw [e] at h;cases h⟩;rw [e];refine aA rfl rfl ?_;simp [bP,hk,h2]
 have e:aK 0 n s (.num 10)=iw n s (.num 10):=by unfold aK;simp [aZ,h2]
 rw [e];refine ⟨{ b with base:=n }, ?_,λ_=>rfl⟩;show _=some ([GV.i .i64 0,GV.i .i64 0]++_)
 refine aA rfl rfl ?_;simp [bP,hk,h2]
theorem aoy (b:aB) (r:List GV) (tag ty n:Int) (s:List UInt8) (L:GV):fC b r tag ty n s L lD (.num 11):=by
 unfold fC;have hk:=ng;unfold lD;by_cases h1:ty=0;rotate_left
 ·have e:aK ty n s (.num 11)=8:=by unfold aK;rw [ah (by simpa [aZ] using h1)]
  refine ⟨b, ?_,λh=>by rw [e] at h;cases h⟩;rw [e];refine aA rfl rfl ?_;simp [bP,hk,h1]
 subst h1;by_cases h2:n=0
 ·have e:aK 0 n s (.num 11)=17:=by unfold aK;simp [aZ,h2]
  refine ⟨b, ?_,λh=>by rw [e] at h;cases h⟩;rw [e];refine aA rfl rfl ?_;simp [bP,hk,h2]
 have e:aK 0 n s (.num 11)=iw n s (.num 11):=by unfold aK;simp [aZ,h2]
 rw [e];refine ⟨{ b with digest:=n }, ?_,λ_=>rfl⟩;show _=some ([GV.i .i64 0,GV.i .i64 0]++_)
 refine aA rfl rfl ?_;simp [bP,hk,h2]
theorem aoC (b:aB) (r:List GV) (tag ty n:Int) (s:List UInt8) (L:GV):fC b r tag ty n s L lI (.num 12):=by
 unfold fC;have hk:=ng;unfold lI;by_cases h1:ty=0;rotate_left
 ·have e:aK ty n s (.num 12)=8:=by unfold aK;rw [ah (by simpa [aZ] using h1)]
  refine ⟨b, ?_,λh=>by rw [e] at h;cases h⟩;rw [e];refine aA rfl rfl ?_;simp [bP,hk,h1]
 subst h1;by_cases h2:n=0
 ·have e:aK 0 n s (.num 12)=17:=by unfold aK;simp [aZ,h2]
  refine ⟨b, ?_,λh=>by rw [e] at h;cases h⟩;rw [e];refine aA rfl rfl ?_;simp [bP,hk,h2]
 have e:aK 0 n s (.num 12)=iw n s (.num 12):=by unfold aK;simp [aZ,h2]
 rw [e];refine ⟨{ b with lag:=n }, ?_,λ_=>rfl⟩;show _=some ([GV.i .i64 0,GV.i .i64 0]++_)
 refine aA rfl rfl ?_;simp [bP,hk,h2]
theorem aou (b:aB) (r:List GV) (tag ty n:Int) (s:List UInt8) (L:GV):fC b r tag ty n s L lg (.num 13):=by
 unfold fC;have hk:=ng;unfold lg;by_cases h1:ty=0;rotate_left
 ·have e:aK ty n s (.num 13)=8:=by unfold aK;rw [ah (by simpa [aZ] using h1)]
  refine ⟨b, ?_,λh=>by rw [e] at h;cases h⟩;rw [e];refine aA rfl rfl ?_;simp [bP,hk,h1]
 subst h1;by_cases h2:n=0
 ·have e:aK 0 n s (.num 13)=17:=by unfold aK;simp [aZ,h2]
  refine ⟨b, ?_,λh=>by rw [e] at h;cases h⟩;rw [e];refine aA rfl rfl ?_;simp [bP,hk,h2]
 have e:aK 0 n s (.num 13)=iw n s (.num 13):=by unfold aK;simp [aZ,h2]
 rw [e];refine ⟨{ b with code:=n }, ?_,λ_=>rfl⟩;show _=some ([GV.i .i64 0,GV.i .i64 0]++_)
 refine aA rfl rfl ?_;simp [bP,hk,h2]
theorem aoN (b:aB) (r:List GV) (tag ty n:Int) (s:List UInt8) (L:GV):fC b r tag ty n s L lT (.num 14):=by
 unfold fC;have hk:=ng;unfold lT;by_cases h1:ty=0;rotate_left
 ·have e:aK ty n s (.num 14)=8:=by unfold aK;rw [ah (by simpa [aZ] using h1)]
  refine ⟨b, ?_,λh=>by rw [e] at h;cases h⟩;rw [e];refine aA rfl rfl ?_;simp [bP,hk,h1]
 subst h1;by_cases h2:n=0
 ·have e:aK 0 n s (.num 14)=17:=by unfold aK;simp [aZ,h2]
  refine ⟨b, ?_,λh=>by rw [e] at h;cases h⟩;rw [e];refine aA rfl rfl ?_;simp [bP,hk,h2]
 have e:aK 0 n s (.num 14)=iw n s (.num 14):=by unfold aK;simp [aZ,h2]
 rw [e];refine ⟨{ b with want:=n }, ?_,λ_=>rfl⟩;show _=some ([GV.i .i64 0,GV.i .i64 0]++_)
 refine aA rfl rfl ?_;simp [bP,hk,h2]
theorem aoK (b:aB) (r:List GV) (tag ty n:Int) (s:List UInt8) (L:GV) (hn:0<=n/\n < 18446744073709551616):fC b r tag ty n s L lN .rem:=by
 unfold fC;have hk:=ng;unfold lN;by_cases h1:ty=0;rotate_left
 ·have e:aK ty n s .rem=8:=by unfold aK;rw [ah (by simpa [aZ] using h1)]
  refine ⟨b, ?_,λh=>by rw [e] at h;cases h⟩;rw [e];refine aA rfl rfl ?_;simp [bP,hk,h1]
 subst h1;by_cases h2:n=0
 ·have e:aK 0 n s .rem=17:=by unfold aK;simp [aZ,h2]
  refine ⟨b, ?_,λh=>by rw [e] at h;cases h⟩;rw [e];refine aA rfl rfl ?_;simp [bP,hk,h2]
 have e:aK 0 n s .rem=iw n s .rem:=by unfold aK;simp [aZ,h2]
 rw [e];obtain ⟨k1,k2,k3⟩:=arV n hn.1 hn.2;refine ⟨{ b with remaining:=Bc n }, ?_,λ_=>rfl⟩;show _=some ([GV.i .i64 0,GV.i .i64 0]++_)
 refine aA rfl rfl ?_;simp only [Int.zero_sub] at k2;simp [bP,hk,h2,nY,IntKind.bits,k1,k2,k3]
theorem aoq (b:aB) (r:List GV) (tag ty n:Int) (s:List UInt8) (L:GV):fC b r tag ty n s L kX .allow:=by
 unfold fC;have hk:=ng;unfold kX;by_cases h1:ty=0;rotate_left
 ·have e:aK ty n s .allow=8:=by unfold aK;rw [ah (by simpa [aZ] using h1)]
  refine ⟨b, ?_,λh=>by rw [e] at h;cases h⟩;rw [e];refine aA rfl rfl ?_;simp [bP,hk,h1]
 subst h1;by_cases h2:n=0
 ·have e:aK 0 n s .allow=17:=by unfold aK;simp [aZ,h2]
  refine ⟨b, ?_,λh=>by rw [e] at h;cases h⟩;rw [e];refine aA rfl rfl ?_;simp [bP,hk,h2]
 have e:aK 0 n s .allow=iw n s .allow:=by unfold aK;simp [aZ,h2]
 rw [e];by_cases h3:n=1
 ·have e2:iw n s .allow=0:=by unfold iw;rw [aj h3]
  rw [e2];refine ⟨{ b with allowed:=true }, ?_,λ_=>rfl⟩;refine aA rfl rfl ?_;simp [bP,hk,h2,h3]
 ·have e2:iw n s .allow=18:=by unfold iw;rw [ah h3]
  rw [e2];refine ⟨b, ?_,λh=>by cases h⟩;refine aA rfl rfl ?_;simp [bP,hk,h2,h3]
theorem aoF (b:aB) (r:List GV) (tag ty n:Int) (s:List UInt8) (L:GV) (hs:s.length<=100000000):fC b r tag ty n s L kH .name:=by
 unfold fC;have hk:=ng;unfold kH;by_cases h1:ty=1;rotate_left
 ·have e:aK ty n s .name=8:=by unfold aK;rw [ah (by simpa [aZ] using h1)]
  refine ⟨b, ?_,λh=>by rw [e] at h;cases h⟩;rw [e];refine aA rfl rfl ?_;simp [bP,hk,h1]
 subst h1;by_cases h2:s=[]
 ·have e:aK 1 n s .name=17:=by unfold aK;simp [aZ,h2]
  refine ⟨b, ?_,λh=>by rw [e] at h;cases h⟩;rw [e];refine aA rfl rfl ?_;simp [bP,hk,h2]
 have e:aK 1 n s .name=iw n s .name:=by unfold aK;simp [aZ,h2]
 rw [e];have hc:=BK s 0 256 (by omega);refine ⟨{ b with name:=s }, ?_,λ_=>rfl⟩;show _=some ([GV.i .i64 0,GV.i .i64 (jA s 0 256)]++_)
 generalize jA s 0 256=u at *;refine aA rfl rfl ?_;simp [bP,hk,h2,hc]
theorem aoJ (b:aB) (r:List GV) (tag ty n:Int) (s:List UInt8) (L:GV) (hs:s.length<=100000000):fC b r tag ty n s L kK .region:=by
 unfold fC;have hk:=ng;unfold kK;by_cases h1:ty=1;rotate_left
 ·have e:aK ty n s .region=8:=by unfold aK;rw [ah (by simpa [aZ] using h1)]
  refine ⟨b, ?_,λh=>by rw [e] at h;cases h⟩;rw [e];refine aA rfl rfl ?_;simp [bP,hk,h1]
 subst h1;by_cases h2:s=[]
 ·have e:aK 1 n s .region=17:=by unfold aK;simp [aZ,h2]
  refine ⟨b, ?_,λh=>by rw [e] at h;cases h⟩;rw [e];refine aA rfl rfl ?_;simp [bP,hk,h2]
 have e:aK 1 n s .region=iw n s .region:=by unfold aK;simp [aZ,h2]
 rw [e];have hc:=BK s 0 256 (by omega);refine ⟨{ b with region:=s }, ?_,λ_=>rfl⟩;show _=some ([GV.i .i64 0,GV.i .i64 (jA s 0 256)]++_)
 generalize jA s 0 256=u at *;refine aA rfl rfl ?_;simp [bP,hk,h2,hc]
theorem aoH (b:aB) (r:List GV) (tag ty n:Int) (s:List UInt8) (L:GV) (hs:s.length<=100000000):fC b r tag ty n s L kJ .note:=by
 unfold fC;have hk:=ng;unfold kJ;by_cases h1:ty=1;rotate_left
 ·have e:aK ty n s .note=8:=by unfold aK;rw [ah (by simpa [aZ] using h1)]
  refine ⟨b, ?_,λh=>by rw [e] at h;cases h⟩;rw [e];refine aA rfl rfl ?_;simp [bP,hk,h1]
 subst h1;by_cases h2:s=[]
 ·have e:aK 1 n s .note=17:=by unfold aK;simp [aZ,h2]
  refine ⟨b, ?_,λh=>by rw [e] at h;cases h⟩;rw [e];refine aA rfl rfl ?_;simp [bP,hk,h2]
 have e:aK 1 n s .note=iw n s .note:=by unfold aK;simp [aZ,h2]
 rw [e];have hc:=BK s 0 256 (by omega);refine ⟨{ b with note:=s }, ?_,λ_=>rfl⟩;show _=some ([GV.i .i64 0,GV.i .i64 (jA s 0 256)]++_)
 generalize jA s 0 256=u at *;refine aA rfl rfl ?_;simp [bP,hk,h2,hc]
theorem aox (b:aB) (r:List GV) (tag ty n:Int) (s:List UInt8) (L:GV) (hs:s.length<=100000000):fC b r tag ty n s L lC .d:=by
 unfold fC;have hk:=ng;unfold lC;by_cases h1:ty=1;rotate_left
 ·have e:aK ty n s .d=8:=by unfold aK;rw [ah (by simpa [aZ] using h1)]
  refine ⟨b, ?_,λh=>by rw [e] at h;cases h⟩;rw [e];refine aA rfl rfl ?_;simp [bP,hk,h1]
 subst h1;by_cases h2:s=[]
 ·have e:aK 1 n s .d=17:=by unfold aK;simp [aZ,h2]
  refine ⟨b, ?_,λh=>by rw [e] at h;cases h⟩;rw [e];refine aA rfl rfl ?_;simp [bP,hk,h2]
 have e:aK 1 n s .d=iw n s .d:=by unfold aK;simp [aZ,h2]
 rw [e];have hc:=ZM s hs;refine ⟨{ b with d:=(pF s).1 }, ?_,λ_=>rfl⟩;show _=some ([GV.i .i64 0,GV.i .i64 (pF s).2]++_)
 refine aA rfl rfl ?_;simp [bP,hk,h2,hc]
theorem aoM (b:aB) (r:List GV) (tag ty n:Int) (s:List UInt8) (L:GV) (hs:s.length<=100000000):fC b r tag ty n s L lS .t:=by
 unfold fC;have hk:=ng;unfold lS;by_cases h1:ty=1;rotate_left
 ·have e:aK ty n s .t=8:=by unfold aK;rw [ah (by simpa [aZ] using h1)]
  refine ⟨b, ?_,λh=>by rw [e] at h;cases h⟩;rw [e];refine aA rfl rfl ?_;simp [bP,hk,h1]
 subst h1;by_cases h2:s=[]
 ·have e:aK 1 n s .t=17:=by unfold aK;simp [aZ,h2]
  refine ⟨b, ?_,λh=>by rw [e] at h;cases h⟩;rw [e];refine aA rfl rfl ?_;simp [bP,hk,h2]
 have e:aK 1 n s .t=iw n s .t:=by unfold aK;simp [aZ,h2]
 rw [e];have hc:=aqG s hs;refine ⟨{ b with t:=(pV s).1 }, ?_,λ_=>rfl⟩;unfold iw;by_cases h3:(pV s).2=0
 ·rw [aj h3]
  by_cases h4:(pV s).1.length=0
  ·have h5:=je h4
   rw [aj h4];refine aA rfl rfl ?_;simp [bP,hk,h2,hc,h3,h5]
  ·have h5:(pV s).1≠[]:=λe=>h4 (by rw [e];rfl)
   rw [ah h4];refine aA rfl rfl ?_;simp [bP,hk,h2,hc,h3,h5]
 ·rw [ah h3]
  refine aA rfl rfl ?_;simp [bP,hk,h2,hc,h3]
end K
end Go.Proofs.YthgifdbaegpbpaaGreatDoor
