/- What the trees compute: plain laws. -/
import Derived.Test.YthgifdbaegpbpaaGreatDoorKVe3
namespace Go.Proofs.YthgifdbaegpbpaaGreatDoor
open Go Go.aK
set_option linter.unusedSimpArgs false
set_option linter.unusedVariables false
set_option maxRecDepth 100000
namespace V
/-- The first thing that is wrong with the values of names. -/
def nN (b:aB):List bY->Int
 | []=>0
 | s::l=>if lG b s.name=0 then nN b l else lG b s.name
theorem aa7 (b:aB) (r:List GV) (hb:iV b) (hf:∀r∈b.t,lF r.1=true) (l:List bY) (hlen:l.length<=1000) (hns:∀s∈l,placeOf s.name≠none):∀ (m i:Nat),i+m=l.length->
 TT.lim 58 [.l (l.map bF),.i .i64 l.length,.i .i64 i,.i .i64 b.kind,.i .u64 b.id,.i .u64 b.min,.i .u64 b.max,.i .u64 b.chosen,.i .u64 b.flags,.i .u64 b.cost,.i .u64 b.priority,.i .u64 b.deadline,.i .u64 b.retry,.i .u64 b.epoch,.i .u64 b.base,.i .u64 b.digest,.i .u64 b.lag,.i .u64 b.code,.i .u64 b.want,.i .i64 b.remaining,.b b.allowed,.s b.name,.s b.region,.s b.note,.l (b.d.map ent),.l (b.t.map row),.l r]=some (if nN b (l.drop i)=0 then [.i .i64 1] else [.i .i64 0,.i .i64 (nN b (l.drop i))])
 | 0,i,hi=>by
   have h0:l.drop i=[]:=dQ (by omega);refine ay rfl rfl ?_;have h:¬ ((i:Int) < l.length):=by omega
   simp [h,h0,nN]
 | m+1,i,hi=>by
   have hlt:i < l.length:=by omega
   have ih:=aa7 b r hb hf l hlen hns m (i+1) (by omega);have hcast:((i:Int)+1)=((i+1:Nat):Int):=by omega
   rw [<- hcast] at ih;have:=ap2 b r hb hf l[i].name (hns _ (iI hlt)) l i _ hlt (by omega) (wrap64 (n:=(i:Int)+1) (by omega) (by omega)) rfl ih;rw [this,eH hlt];by_cases hc:lG b l[i].name=0
   ·have hm:nN b (l[i]::l.drop (i+1))=nN b (l.drop (i+1)):=by simp only [nN,hc,if_true]
    rw [ak hc,hm]
   ·have hm:nN b (l[i]::l.drop (i+1))=lG b l[i].name:=by simp only [nN,hc,if_false]
    rw [ah hc,hm,ah hc]
def hasTag (l:List bY) (t:Int):Bool:=l.any λs=>decide (t=s.tag)
theorem aa9 (l:List bY) (hlen:l.length<=1000) (a1 a2 a3:GV) (t:Int) (a7 a8 a9 a10:GV):∀ (m i:Nat),i+m=l.length->
 TT.lim 98 [.l (l.map bF),a1,a2,a3,.i .i64 l.length,.i .i64 i,.i .u64 t,a7,a8,a9,a10]=some (if hasTag (l.drop i) t=true then [.i .i64 0] else [.i .i64 1])
 | 0,i,hi=>by
   have h0:l.drop i=[]:=dQ (by omega);refine ay rfl rfl ?_;have h:¬ ((i:Int) < l.length):=by omega
   simp [h,h0,hasTag]
 | m+1,i,hi=>by
   have hlt:i < l.length:=by omega
   have ih:=aa9 l hlen a1 a2 a3 t a7 a8 a9 a10 m (i+1) (by omega);have hcast:((i:Int)+1)=((i+1:Nat):Int):=by omega
   rw [<- hcast] at ih;have h1:((i:Int) < l.length):=by omega
   have hw:=wrap64 (n:=(i:Int)+1) (by omega) (by omega);have hd:hasTag (l.drop i) t=(decide (t=l[i].tag) || hasTag (l.drop (i+1)) t):=by rw [eH hlt];rfl
   rw [hd];generalize hasTag (l.drop (i+1)) t=X at *;refine ay rfl rfl ?_;by_cases hc:t=l[i].tag
   ·simp [h1,hlt,hc]
   ·simp [h1,hlt,hc,hw,ih]
theorem aa8 (l:List bY) (hlen:l.length<=1000) (fl:List aS) (hfl:fl.length<=1000000):∀ (m i:Nat),i+m=fl.length->
 TT.lim 97 [.l (l.map bF),.l (aC fl),.i .i64 fl.length,.i .i64 i]=some (if (fl.drop i).any (λf=>hasTag l f.tag)=true then [.i .i64 0] else [.i .i64 1])
 | 0,i,hi=>by
   have h0:fl.drop i=[]:=dQ (by omega);refine ay rfl rfl ?_;have h:¬ ((i:Int) < fl.length):=by omega
   simp [h,h0]
 | m+1,i,hi=>by
   have hlt:i < fl.length:=by omega
   have ih:=aa8 l hlen fl hfl m (i+1) (by omega);have hcast:((i:Int)+1)=((i+1:Nat):Int):=by omega
   rw [<- hcast] at ih;have h1:((i:Int) < fl.length):=by omega
   have hw:=wrap64 (n:=(i:Int)+1) (by omega) (by omega);have hd:(fl.drop i).any (λf=>hasTag l f.tag)=(hasTag l fl[i].tag || (fl.drop (i+1)).any (λf=>hasTag l f.tag)):=by rw [eH hlt,P7]
   rw [hd];have hget:(aC fl)[i]? = some (iR fl[i]):=by rw [Ag,jw,dA hlt];rfl
   clear hd;obtain ⟨t,y,n,s,k,hfi⟩:∃t y n s k,fl[i]=aS.mk t y n s k:=by
    cases fl[i] with
    | mk t y n s k=>exact ⟨_,_,_,_,_,rfl⟩
   rw [hfi] at hget ⊢;rw [show (aS.mk t y n s k).tag=t from rfl];have h3:TT.lim 98 [.l (l.map bF),.l (aC fl),.i .i64 fl.length,.i .i64 i,.i .i64 l.length,.i .i64 0,.i .u64 t,.i .i64 y,.i .u64 n,.s s,.l (aC k)]=_:=aa9 l hlen _ _ _ t _ _ _ _ l.length 0 (by omega);rw [dF] at h3;refine ay rfl rfl ?_;by_cases hc:hasTag l t=true
   ·rw [ak hc] at h3
    simp [-List.any_eq_true,h1,hget,h3,hc]
   ·rw [ah hc] at h3
    have hc:hasTag l t=false:=by simpa using hc
    simp [-List.any_eq_true,h1,hget,h3,hw,ih,hc]
def IU (b:aB):Int:=
 if b.kind=1 then (if b.min < 1 then 18 else if b.max < b.min then 18 else if 255 < b.max then 18 else 0)
 else if b.kind=2 then (if b.chosen < 1 then 18 else if 255 < b.chosen then 18 else 0)
 else if b.kind=3 then (if b.d=[] then 12 else 0)
 else if b.kind=5 then (if b.epoch < 1 then 18 else 0)
 else if b.kind=6 then (if b.base < 1 then 18 else if b.epoch<=b.base then 20 else 0)
 else 0
/-- What is said of a message at a version. -/
def JV (sp:List bY) (fl:List aS):Int:=if jE 0 0 fl≠0 then jE 0 0 fl else if fl.any (λf=>hasTag sp f.tag)=true then 14 else 0
def yB (b:aB) (fl:List aS) (v:Int):Int:=
 if v < 1 then 16 else if 3 < v then 16 else
 if bD b.kind v=[] then 15 else
 if eX.all (λn=>qR (bD b.kind v) n || fU b n)=false then 26 else
 if nN b (bD b.kind v)≠0 then nN b (bD b.kind v) else
 if IU b≠0 then IU b else JV (bD b.kind v) fl
theorem abk:∀n∈eX,placeOf n≠none:=by decide
theorem NP (k v:Int):∀s∈bD k v,placeOf s.name≠none:=by
 have key:∀s∈jP k,placeOf s.name≠none:=by
  unfold jP;repeat' split
  all_goals first | (unfold sp1;decide) | (unfold sp2;decide) | (unfold xB;decide) | (unfold xC;decide) | (unfold xE;decide) | (unfold xF;decide) | (unfold xG;decide) | (unfold xH;decide) | (intro s hs;cases hs)
 intro s hs;exact key s (E5.1 hs).1
theorem JA (k v:Int):(bD k v).length<=8:=jS (KH _ _) (VG k)
set_option maxHeartbeats 4000000 in
theorem aj0 (b:aB) (fl:List aS) (v:Int) (hb:iV b) (hf:∀r∈b.t,lF r.1=true) (hok:gU fl) (hlen:fl.length<=1000000):TT.lim 54 [bJ b (aC fl),.i .i64 v]=some [.i .i64 (yB b fl v)]:=by
 have hk:=SL b.kind;refine aG rfl rfl ?_ rfl;unfold yB;by_cases v1:v < 1
 ·simp [v1]
 by_cases v3:3 < v
 ·simp [v1,v3]
 rw [ah v1,ah v3];have hnil:=ai8 b.kind v (by omega) (by omega);by_cases k0:nG b.kind=0
 ·rw [ak (hnil.2 (.inl k0))]
  rw [k0] at hk;simp [v1,v3,hk]
 by_cases k1:v < nG b.kind
 ·rw [ak (hnil.2 (.inr k1))]
  simp [v1,v3,hk,k0,k1]
 rw [ah (λe=>(hnil.1 e).elim k0 k1)];have hkn:=SS b.kind v (by omega) (by omega) (by omega);have hpl:=NP b.kind v;have hl8:=JA b.kind v;clear hnil;generalize bD b.kind v=sp at *;have hnm:=aj9;have h0:=aa5 b (aC fl) sp (by omega) sp.length 0 [] (by omega);have h1:=aa6 b (aC fl) (.l (sp.map bF)) eX (by decide) abk (wV [] sp) eX.length 0 (by omega);have h2:=aa7 b (aC fl) hb hf sp (by omega) hpl sp.length 0 (by omega);have h3:=aa8 sp (by omega) fl hlen fl.length 0 (by omega);have h4:=ag2 fl hok hlen;rw [dF] at h0 h1 h2 h3;simp only [aj2] at h1;have hnl:(eX.map GV.s).length=eX.length:=Bo _;have hfl:=oU fl;rw [<- hfl] at h3;generalize hX:wV [] sp=ps at *;have h0':TT.lim 55 [.l (sp.map bF),.i .i64 sp.length,.i .i64 0,.l [],.i .i64 b.kind,.i .u64 b.id,.i .u64 b.min,.i .u64 b.max,.i .u64 b.chosen,.i .u64 b.flags,.i .u64 b.cost,.i .u64 b.priority,.i .u64 b.deadline,.i .u64 b.retry,.i .u64 b.epoch,.i .u64 b.base,.i .u64 b.digest,.i .u64 b.lag,.i .u64 b.code,.i .u64 b.want,.i .i64 b.remaining,.b b.allowed,.s b.name,.s b.region,.s b.note,.l (b.d.map ent),.l (b.t.map row),.l (aC fl)]=some [.i .i64 0,.l (rM ps)]:=h0;clear h0;have h1':TT.lim 57 [.l (sp.map bF),.l (eX.map .s),.i .i64 eX.length,.i .i64 0,.l (rM ps),.i .i64 b.kind,.i .u64 b.id,.i .u64 b.min,.i .u64 b.max,.i .u64 b.chosen,.i .u64 b.flags,.i .u64 b.cost,.i .u64 b.priority,.i .u64 b.deadline,.i .u64 b.retry,.i .u64 b.epoch,.i .u64 b.base,.i .u64 b.digest,.i .u64 b.lag,.i .u64 b.code,.i .u64 b.want,.i .i64 b.remaining,.b b.allowed,.s b.name,.s b.region,.s b.note,.l (b.d.map ent),.l (b.t.map row),.l (aC fl)]=_:=h1;clear h1;have h2':TT.lim 58 [.l (sp.map bF),.i .i64 sp.length,.i .i64 0,.i .i64 b.kind,.i .u64 b.id,.i .u64 b.min,.i .u64 b.max,.i .u64 b.chosen,.i .u64 b.flags,.i .u64 b.cost,.i .u64 b.priority,.i .u64 b.deadline,.i .u64 b.retry,.i .u64 b.epoch,.i .u64 b.base,.i .u64 b.digest,.i .u64 b.lag,.i .u64 b.code,.i .u64 b.want,.i .i64 b.remaining,.b b.allowed,.s b.name,.s b.region,.s b.note,.l (b.d.map ent),.l (b.t.map row),.l (aC fl)]=_:=h2;clear h2;have h3':TT.lim 97 [.l (sp.map bF),.l (aC fl),.i .i64 (aC fl).length,.i .i64 0]=_:=h3;clear h3;have hr:JV sp fl=if jE 0 0 fl≠0 then jE 0 0 fl else if fl.any (λf=>hasTag sp f.tag)=true then 14 else 0:=rfl
 generalize (eX.all λn=>qR sp n || fU b n)=A at *;generalize nN b sp=M at *;generalize jE 0 0 fl=F at *;generalize (fl.any λf=>hasTag sp f.tag)=W at *;generalize JV sp fl=R at *;generalize eX=NL at *;have atc:∀ (x:GV),True:=λ_=>trivial;cases A with
 | false=>
   simp only [eG,if_false] at h1';simp [v1,v3,hk,k0,k1,hkn,hnm,h0',h1']
 | true=>
 simp only [if_true] at h1';by_cases hM:M=0;rotate_left
 ·rw [ah hM] at h2'
  simp [v1,v3,hk,k0,k1,hkn,hnm,h0',h1',h2',hM]
 rw [ak hM] at h2';rw [ah (by simp),ah (by simp [hM])];clear hM
 -- the rest of it
 have key:∀ (c:Int),IU b=c->c≠0->True:=λ_ _ _=>trivial;unfold IU;by_cases e1:b.kind=1
 ·have e1:=eq_true e1
  by_cases c1:b.min < 1
  ·simp [v1,v3,hk,k0,k1,hkn,hnm,h0',h1',h2',e1,c1]
  by_cases c2:b.max < b.min
  ·simp [v1,v3,hk,k0,k1,hkn,hnm,h0',h1',h2',e1,c1,c2]
  by_cases c3:255 < b.max
  ·simp [v1,v3,hk,k0,k1,hkn,hnm,h0',h1',h2',e1,c1,c2,c3]
  simp only [e1,c1,c2,c3,if_true,if_false,ne_eq,not_true_eq_false];rw [hr];by_cases hF:F=0
  ·subst hF
   cases W with
   | true=>simp only [if_true] at h3';simp [v1,v3,hk,k0,k1,hkn,hnm,h0',h1',h2',e1,c1,c2,c3,h4,h3']
   | false=>simp only [eG,if_false] at h3';simp [v1,v3,hk,k0,k1,hkn,hnm,h0',h1',h2',e1,c1,c2,c3,h4,h3']
  ·simp [v1,v3,hk,k0,k1,hkn,hnm,h0',h1',h2',e1,c1,c2,c3,h4,hF]
 by_cases e2:b.kind=2
 ·have e2:=eq_true e2
  by_cases c1:b.chosen < 1
  ·simp [v1,v3,hk,k0,k1,hkn,hnm,h0',h1',h2',e1,e2,c1]
  by_cases c2:255 < b.chosen
  ·simp [v1,v3,hk,k0,k1,hkn,hnm,h0',h1',h2',e1,e2,c1,c2]
  simp only [e1,e2,c1,c2,if_true,if_false,ne_eq,not_true_eq_false];rw [hr];by_cases hF:F=0
  ·subst hF
   cases W with
   | true=>simp only [if_true] at h3';simp [v1,v3,hk,k0,k1,hkn,hnm,h0',h1',h2',e1,e2,c1,c2,h4,h3']
   | false=>simp only [eG,if_false] at h3';simp [v1,v3,hk,k0,k1,hkn,hnm,h0',h1',h2',e1,e2,c1,c2,h4,h3']
  ·simp [v1,v3,hk,k0,k1,hkn,hnm,h0',h1',h2',e1,e2,c1,c2,h4,hF]
 by_cases e3:b.kind=3
 ·have e3:=eq_true e3
  by_cases c1:b.d=[]
  ·have c1:=eq_true c1
   simp [v1,v3,hk,k0,k1,hkn,hnm,h0',h1',h2',e1,e2,e3,c1]
  simp only [e1,e2,e3,c1,if_true,if_false,ne_eq,not_true_eq_false];rw [hr];by_cases hF:F=0
  ·subst hF
   cases W with
   | true=>simp only [if_true] at h3';simp [v1,v3,hk,k0,k1,hkn,hnm,h0',h1',h2',e1,e2,e3,c1,h4,h3']
   | false=>simp only [eG,if_false] at h3';simp [v1,v3,hk,k0,k1,hkn,hnm,h0',h1',h2',e1,e2,e3,c1,h4,h3']
  ·simp [v1,v3,hk,k0,k1,hkn,hnm,h0',h1',h2',e1,e2,e3,c1,h4,hF]
 by_cases e5:b.kind=5
 ·have e5:=eq_true e5
  by_cases c1:b.epoch < 1
  ·simp [v1,v3,hk,k0,k1,hkn,hnm,h0',h1',h2',e1,e2,e3,e5,c1]
  simp only [e1,e2,e3,e5,c1,if_true,if_false,ne_eq,not_true_eq_false];rw [hr];by_cases hF:F=0
  ·subst hF
   cases W with
   | true=>simp only [if_true] at h3';simp [v1,v3,hk,k0,k1,hkn,hnm,h0',h1',h2',e1,e2,e3,e5,c1,h4,h3']
   | false=>simp only [eG,if_false] at h3';simp [v1,v3,hk,k0,k1,hkn,hnm,h0',h1',h2',e1,e2,e3,e5,c1,h4,h3']
  ·simp [v1,v3,hk,k0,k1,hkn,hnm,h0',h1',h2',e1,e2,e3,e5,c1,h4,hF]
 by_cases e6:b.kind=6
 ·have e6:=eq_true e6
  by_cases c1:b.base < 1
  ·simp [v1,v3,hk,k0,k1,hkn,hnm,h0',h1',h2',e1,e2,e3,e5,e6,c1]
  by_cases c2:b.epoch<=b.base
  ·simp [v1,v3,hk,k0,k1,hkn,hnm,h0',h1',h2',e1,e2,e3,e5,e6,c1,c2]
  simp only [e1,e2,e3,e5,e6,c1,c2,if_true,if_false,ne_eq,not_true_eq_false];rw [hr];by_cases hF:F=0
  ·subst hF
   cases W with
   | true=>simp only [if_true] at h3';simp [v1,v3,hk,k0,k1,hkn,hnm,h0',h1',h2',e1,e2,e3,e5,e6,c1,c2,h4,h3']
   | false=>simp only [eG,if_false] at h3';simp [v1,v3,hk,k0,k1,hkn,hnm,h0',h1',h2',e1,e2,e3,e5,e6,c1,c2,h4,h3']
  ·simp [v1,v3,hk,k0,k1,hkn,hnm,h0',h1',h2',e1,e2,e3,e5,e6,c1,c2,h4,hF]
 simp only [e1,e2,e3,e5,e6,if_false,ne_eq,not_true_eq_false];rw [hr];by_cases hF:F=0
 ·subst hF
  cases W with
  | true=>simp only [if_true] at h3';simp [v1,v3,hk,k0,k1,hkn,hnm,h0',h1',h2',e1,e2,e3,e5,e6,h4,h3']
  | false=>simp only [eG,if_false] at h3';simp [v1,v3,hk,k0,k1,hkn,hnm,h0',h1',h2',e1,e2,e3,e5,e6,h4,h3']
 ·simp [v1,v3,hk,k0,k1,hkn,hnm,h0',h1',h2',e1,e2,e3,e5,e6,h4,hF]
theorem aci:TT.lim 141 []=some [.l (eX.map .s)]:=by
 refine aG rfl rfl ?_ rfl;simp [eX]
def wO (l:List bY) (n:List UInt8):Option Int:=match l with
 | []=>none
 | s::l=>if s.name=n then some s.use else wO l n
def je:Nat->Int->List UInt8->Option Int
 | 0,_,_=>none
 | m+1,k,n=>match wO (jP k) n with
   | some u=>some u
   | none=>je m (k+1) n
def ru (n:List UInt8):Int:=match placeOf n with
 | some p=>gu p
 | none=>-1
theorem adu (n:List UInt8) (a1:GV) (l:List bY) (hlen:l.length<=1000):∀ (m i:Nat),i+m=l.length->
 TT.lim 115 [.s n,a1,.l (l.map bF),.i .i64 l.length,.i .i64 i]=some (match wO (l.drop i) n with | some u=>[.i .i64 0,.i .i64 u] | none=>[.i .i64 1])
 | 0,i,hi=>by
   have h0:l.drop i=[]:=dQ (by omega);refine ay rfl rfl ?_;have h:¬ ((i:Int) < l.length):=by omega
   simp [h,h0,wO]
 | m+1,i,hi=>by
   have hlt:i < l.length:=by omega
   have ih:=adu n a1 l hlen m (i+1) (by omega);have hcast:((i:Int)+1)=((i+1:Nat):Int):=by omega
   rw [<- hcast] at ih;have h1:((i:Int) < l.length):=by omega
   have hw:=wrap64 (n:=(i:Int)+1) (by omega) (by omega);rw [eH hlt];refine ay rfl rfl ?_;by_cases hc:l[i].name=n
   ·simp only [wO,ak hc]
    simp [h1,hlt,hc]
   ·simp only [wO,ah hc]
    simp [h1,hlt,hc,hw,ih]
theorem adt (n:List UInt8):∀ (m:Nat) (k:Int),k+m=9->1<=k->
 TT.lim 114 [.s n,.i .i64 k]=some (match je m k n with | some u=>[.i .i64 0,.i .i64 u] | none=>[.i .i64 1])
 | 0,k,hk,h1=>by
   have:¬ k<=8:=by omega
   refine ay rfl rfl ?_;simp [this,je]
 | m+1,k,hk,h1=>by
   have h8:k<=8:=by omega
   have hw:=wrap64 (n:=k+1) (by omega) (by omega);have hs:=acs k;have ih:=adt n m (k+1) (by omega) (by omega);have hu:TT.lim 115 [.s n,.i .i64 k,.l ((jP k).map bF),.i .i64 (jP k).length,.i .i64 0]=_:=adu n (.i .i64 k) (jP k) (by have:=VG k;omega) (jP k).length 0 (by omega);rw [dF] at hu;have he:je (m+1) k n=match wO (jP k) n with | some u=>some u | none=>je m (k+1) n:=rfl
   rw [he];generalize jP k=l at *;cases hf:wO l n with
   | some u=>
     rw [hf] at hu;refine ay rfl rfl ?_;simp [h8,hs,hu]
   | none=>
     rw [hf] at hu;refine ay rfl rfl ?_;simp [h8,hs,hu,hw,ih]
theorem aqW:je 8 1 lI=some (gu .rem):=by unfold lI;decide
theorem aqD:je 8 1 lH=some (gu .allow):=by unfold lH;decide
theorem aqR:je 8 1 jK=some (gu .name):=by unfold jK;decide
theorem aqV:je 8 1 jM=some (gu .region):=by unfold jM;decide
theorem aqT:je 8 1 jL=some (gu .note):=by unfold jL;decide
theorem aqJ:je 8 1 jJ=some (gu .d):=by unfold jJ;decide
theorem aqY:je 8 1 jO=some (gu .t):=by unfold jO;decide
theorem aqN:je 8 1 kK=some (gu (.num 0)):=by unfold kK;decide
theorem aqQ:je 8 1 kN=some (gu (.num 1)):=by unfold kN;decide
theorem aqP:je 8 1 kM=some (gu (.num 2)):=by unfold kM;decide
theorem aqF:je 8 1 kC=some (gu (.num 3)):=by unfold kC;decide
theorem aqM:je 8 1 kJ=some (gu (.num 4)):=by unfold kJ;decide
theorem aqH:je 8 1 kE=some (gu (.num 5)):=by unfold kE;decide
theorem aqU:je 8 1 kP=some (gu (.num 6)):=by unfold kP;decide
theorem aqI:je 8 1 kF=some (gu (.num 7)):=by unfold kF;decide
theorem aqX:je 8 1 kQ=some (gu (.num 8)):=by unfold kQ;decide
theorem aqL:je 8 1 kH=some (gu (.num 9)):=by unfold kH;decide
theorem aqE:je 8 1 ku=some (gu (.num 10)):=by unfold ku;decide
theorem aqK:je 8 1 kG=some (gu (.num 11)):=by unfold kG;decide
theorem aqO:je 8 1 kL=some (gu (.num 12)):=by unfold kL;decide
theorem aqG:je 8 1 kD=some (gu (.num 13)):=by unfold kD;decide
theorem aqZ:je 8 1 kR=some (gu (.num 14)):=by unfold kR;decide
theorem aqS (n:List UInt8) (e0:¬ n=lI) (e1:¬ n=lH) (e2:¬ n=jK) (e3:¬ n=jM) (e4:¬ n=jL) (e5:¬ n=jJ) (e6:¬ n=jO) (e7:¬ n=kK) (e8:¬ n=kN) (e9:¬ n=kM) (e10:¬ n=kC) (e11:¬ n=kJ) (e12:¬ n=kE) (e13:¬ n=kP) (e14:¬ n=kF) (e15:¬ n=kQ) (e16:¬ n=kH) (e17:¬ n=ku) (e18:¬ n=kG) (e19:¬ n=kL) (e20:¬ n=kD) (e21:¬ n=kR):je 8 1 n=none:=by
 have hh:∀k s,s∈jP k->¬ s.name=n:=by
  intro k s hs e;have h1:=CQ n e0 e1 e2 e3 e4 e5 e6 e7 e8 e9 e10 e11 e12 e13 e14 e15 e16 e17 e18 e19 e20 e21;rw [<- e] at h1;have key:∀s∈jP k,placeOf s.name≠none:=by
   unfold jP;repeat' split
   all_goals first | (unfold sp1;decide) | (unfold sp2;decide) | (unfold xB;decide) | (unfold xC;decide) | (unfold xE;decide) | (unfold xF;decide) | (unfold xG;decide) | (unfold xH;decide) | (intro s hs;cases hs)
  exact key s hs h1
 have hf:∀ (l:List bY),(∀s∈l,¬ s.name=n)->wO l n=none:=by
  intro l;induction l with
  | nil=>intro _;rfl
  | cons s l ih=>intro h;simp only [wO];rw [ah (h s (by simp))];exact ih λs hs=>h s (by simp [hs])
 have hk:∀k,wO (jP k) n=none:=λk=>hf _ λs hs=>hh k s hs;simp only [je,hk]
theorem aq8 (n:List UInt8):TT.lim 113 [.s n]=some [.i .i64 (ru n)]:=by
 have hu:∀o,je 8 1 n=o->TT.lim 113 [.s n]=some [.i .i64 (match o with | some u=>u | none=>-1)]:=by
  intro o ho;have h0:=adt n 8 1 (by omega) (by omega);rw [ho] at h0;refine aG rfl rfl ?_ rfl;cases o with
  | some u=>simp [h0]
  | none=>simp [h0]
 have hv:je 8 1 n=(match placeOf n with | some p=>some (gu p) | none=>none):=by
  refine DF (Q:=λn=>je 8 1 n=(match placeOf n with | some p=>some (gu p) | none=>none)) (by rw [zl];exact aqW) (by rw [yR];exact aqD) (by rw [xk];exact aqR) (by rw [xu];exact aqV) (by rw [xq];exact aqT) (by rw [yY];exact aqJ) (by rw [zq];exact aqY) (by rw [y9];exact aqN) (by rw [zi];exact aqQ) (by rw [zh];exact aqP) (by rw [yT];exact aqF) (by rw [y8];exact aqM) (by rw [yV];exact aqH) (by rw [zk];exact aqU) (by rw [yX];exact aqI) (by rw [zo];exact aqX) (by rw [y7];exact aqL) (by rw [yS];exact aqE) (by rw [yZ];exact aqK) (by rw [zf];exact aqO) (by rw [yU];exact aqG) (by rw [zu];exact aqZ) (λn e0 e1 e2 e3 e4 e5 e6 e7 e8 e9 e10 e11 e12 e13 e14 e15 e16 e17 e18 e19 e20 e21=>by rw [CQ n e0 e1 e2 e3 e4 e5 e6 e7 e8 e9 e10 e11 e12 e13 e14 e15 e16 e17 e18 e19 e20 e21];exact aqS n e0 e1 e2 e3 e4 e5 e6 e7 e8 e9 e10 e11 e12 e13 e14 e15 e16 e17 e18 e19 e20 e21) n
 have:=hu _ hv;rw [this];unfold ru;cases placeOf n<;>rfl
theorem nT {n:List UInt8} {p:Pl} (h:placeOf n=some p):TT.lim 113 [.s n]=some [.i .i64 (gu p)]:=by
 have hu:=aq8 n;unfold ru at hu;rw [h] at hu;exact hu
def fJ (b:aB) (r:List GV) (n:List UInt8) (p:Pl):Prop:=TT.lim 145 [bJ b r,.s n]=some [.i .u64 (iD b p).1,.s (iD b p).2]
theorem amE (b:aB) (r:List GV):TT.lim 146 [bJ b r,.s kK]=some [.i .u64 (bW b 0)]:=by
 have e:bW b 0=b.id:=rfl;rw [e];unfold kK;refine aG rfl rfl ?_ rfl;simp
theorem amH (b:aB) (r:List GV):TT.lim 146 [bJ b r,.s kN]=some [.i .u64 (bW b 1)]:=by
 have e:bW b 1=b.min:=rfl;rw [e];unfold kN;refine aG rfl rfl ?_ rfl;simp
theorem amG (b:aB) (r:List GV):TT.lim 146 [bJ b r,.s kM]=some [.i .u64 (bW b 2)]:=by
 have e:bW b 2=b.max:=rfl;rw [e];unfold kM;refine aG rfl rfl ?_ rfl;simp
theorem amx (b:aB) (r:List GV):TT.lim 146 [bJ b r,.s kC]=some [.i .u64 (bW b 3)]:=by
 have e:bW b 3=b.chosen:=rfl;rw [e];unfold kC;refine aG rfl rfl ?_ rfl;simp
theorem amD (b:aB) (r:List GV):TT.lim 146 [bJ b r,.s kJ]=some [.i .u64 (bW b 4)]:=by
 have e:bW b 4=b.flags:=rfl;rw [e];unfold kJ;refine aG rfl rfl ?_ rfl;simp
theorem amz (b:aB) (r:List GV):TT.lim 146 [bJ b r,.s kE]=some [.i .u64 (bW b 5)]:=by
 have e:bW b 5=b.cost:=rfl;rw [e];unfold kE;refine aG rfl rfl ?_ rfl;simp
theorem amI (b:aB) (r:List GV):TT.lim 146 [bJ b r,.s kP]=some [.i .u64 (bW b 6)]:=by
 have e:bW b 6=b.priority:=rfl;rw [e];unfold kP;refine aG rfl rfl ?_ rfl;simp
theorem amA (b:aB) (r:List GV):TT.lim 146 [bJ b r,.s kF]=some [.i .u64 (bW b 7)]:=by
 have e:bW b 7=b.deadline:=rfl;rw [e];unfold kF;refine aG rfl rfl ?_ rfl;simp
theorem amJ (b:aB) (r:List GV):TT.lim 146 [bJ b r,.s kQ]=some [.i .u64 (bW b 8)]:=by
 have e:bW b 8=b.retry:=rfl;rw [e];unfold kQ;refine aG rfl rfl ?_ rfl;simp
theorem amC (b:aB) (r:List GV):TT.lim 146 [bJ b r,.s kH]=some [.i .u64 (bW b 9)]:=by
 have e:bW b 9=b.epoch:=rfl;rw [e];unfold kH;refine aG rfl rfl ?_ rfl;simp
theorem amw (b:aB) (r:List GV):TT.lim 146 [bJ b r,.s ku]=some [.i .u64 (bW b 10)]:=by
 have e:bW b 10=b.base:=rfl;rw [e];unfold ku;refine aG rfl rfl ?_ rfl;simp
theorem amB (b:aB) (r:List GV):TT.lim 146 [bJ b r,.s kG]=some [.i .u64 (bW b 11)]:=by
 have e:bW b 11=b.digest:=rfl;rw [e];unfold kG;refine aG rfl rfl ?_ rfl;simp
theorem amF (b:aB) (r:List GV):TT.lim 146 [bJ b r,.s kL]=some [.i .u64 (bW b 12)]:=by
 have e:bW b 12=b.lag:=rfl;rw [e];unfold kL;refine aG rfl rfl ?_ rfl;simp
theorem amy (b:aB) (r:List GV):TT.lim 146 [bJ b r,.s kD]=some [.i .u64 (bW b 13)]:=by
 have e:bW b 13=b.code:=rfl;rw [e];unfold kD;refine aG rfl rfl ?_ rfl;simp
theorem amK (b:aB) (r:List GV):TT.lim 146 [bJ b r,.s kR]=some [.i .u64 (bW b 14)]:=by
 have e:bW b 14=b.want:=rfl;rw [e];unfold kR;refine aG rfl rfl ?_ rfl;simp
theorem acA (b:aB) (r:List GV):TT.lim 147 [bJ b r,.s jK]=some [.s b.name]:=by
 unfold jK;refine aG rfl rfl ?_ rfl;simp
theorem acC (b:aB) (r:List GV):TT.lim 147 [bJ b r,.s jM]=some [.s b.region]:=by
 unfold jM;refine aG rfl rfl ?_ rfl;simp
theorem acB (b:aB) (r:List GV):TT.lim 147 [bJ b r,.s jL]=some [.s b.note]:=by
 unfold jL;refine aG rfl rfl ?_ rfl;simp
theorem Vm (b:aB) (r:List GV):fJ b r kK (.num 0):=by
 have hu:=nT y9;unfold fJ;have hn:=amE b r;have hu:TT.lim 113 [.s kK]=some [.i .i64 0]:=hu;refine aG rfl rfl ?_ rfl;simp [hu,gV,hn,iD]
theorem Vq (b:aB) (r:List GV):fJ b r kN (.num 1):=by
 have hu:=nT zi;unfold fJ;have hn:=amH b r;have hu:TT.lim 113 [.s kN]=some [.i .i64 0]:=hu;refine aG rfl rfl ?_ rfl;simp [hu,gV,hn,iD]
theorem Vp (b:aB) (r:List GV):fJ b r kM (.num 2):=by
 have hu:=nT zh;unfold fJ;have hn:=amG b r;have hu:TT.lim 113 [.s kM]=some [.i .i64 0]:=hu;refine aG rfl rfl ?_ rfl;simp [hu,gV,hn,iD]
theorem Ve (b:aB) (r:List GV):fJ b r kC (.num 3):=by
 have hu:=nT yT;unfold fJ;have hn:=amx b r;have hu:TT.lim 113 [.s kC]=some [.i .i64 0]:=hu;refine aG rfl rfl ?_ rfl;simp [hu,gV,hn,iD]
theorem Vl (b:aB) (r:List GV):fJ b r kJ (.num 4):=by
 have hu:=nT y8;unfold fJ;have hn:=amD b r;have hu:TT.lim 113 [.s kJ]=some [.i .i64 0]:=hu;refine aG rfl rfl ?_ rfl;simp [hu,gV,hn,iD]
theorem Vg (b:aB) (r:List GV):fJ b r kE (.num 5):=by
 have hu:=nT yV;unfold fJ;have hn:=amz b r;have hu:TT.lim 113 [.s kE]=some [.i .i64 0]:=hu;refine aG rfl rfl ?_ rfl;simp [hu,gV,hn,iD]
theorem Vt (b:aB) (r:List GV):fJ b r kP (.num 6):=by
 have hu:=nT zk;unfold fJ;have hn:=amI b r;have hu:TT.lim 113 [.s kP]=some [.i .i64 0]:=hu;refine aG rfl rfl ?_ rfl;simp [hu,gV,hn,iD]
theorem Vh (b:aB) (r:List GV):fJ b r kF (.num 7):=by
 have hu:=nT yX;unfold fJ;have hn:=amA b r;have hu:TT.lim 113 [.s kF]=some [.i .i64 0]:=hu;refine aG rfl rfl ?_ rfl;simp [hu,gV,hn,iD]
theorem Vx (b:aB) (r:List GV):fJ b r kQ (.num 8):=by
 have hu:=nT zo;unfold fJ;have hn:=amJ b r;have hu:TT.lim 113 [.s kQ]=some [.i .i64 0]:=hu;refine aG rfl rfl ?_ rfl;simp [hu,gV,hn,iD]
theorem Vk (b:aB) (r:List GV):fJ b r kH (.num 9):=by
 have hu:=nT y7;unfold fJ;have hn:=amC b r;have hu:TT.lim 113 [.s kH]=some [.i .i64 0]:=hu;refine aG rfl rfl ?_ rfl;simp [hu,gV,hn,iD]
theorem Vd (b:aB) (r:List GV):fJ b r ku (.num 10):=by
 have hu:=nT yS;unfold fJ;have hn:=amw b r;have hu:TT.lim 113 [.s ku]=some [.i .i64 0]:=hu;refine aG rfl rfl ?_ rfl;simp [hu,gV,hn,iD]
theorem Vj (b:aB) (r:List GV):fJ b r kG (.num 11):=by
 have hu:=nT yZ;unfold fJ;have hn:=amB b r;have hu:TT.lim 113 [.s kG]=some [.i .i64 0]:=hu;refine aG rfl rfl ?_ rfl;simp [hu,gV,hn,iD]
theorem Vo (b:aB) (r:List GV):fJ b r kL (.num 12):=by
 have hu:=nT zf;unfold fJ;have hn:=amF b r;have hu:TT.lim 113 [.s kL]=some [.i .i64 0]:=hu;refine aG rfl rfl ?_ rfl;simp [hu,gV,hn,iD]
theorem Vf (b:aB) (r:List GV):fJ b r kD (.num 13):=by
 have hu:=nT yU;unfold fJ;have hn:=amy b r;have hu:TT.lim 113 [.s kD]=some [.i .i64 0]:=hu;refine aG rfl rfl ?_ rfl;simp [hu,gV,hn,iD]
theorem Vy (b:aB) (r:List GV):fJ b r kR (.num 14):=by
 have hu:=nT zu;unfold fJ;have hn:=amK b r;have hu:TT.lim 113 [.s kR]=some [.i .i64 0]:=hu;refine aG rfl rfl ?_ rfl;simp [hu,gV,hn,iD]
theorem Vb (b:aB) (r:List GV):fJ b r lH .allow:=by
 have hu:=nT yR;unfold fJ;have hu:TT.lim 113 [.s lH]=some [.i .i64 1]:=hu;refine aG rfl rfl ?_ rfl;cases hc:b.allowed<;>simp [hu,iD,hc]
theorem Vw (b:aB) (r:List GV) (hb:iV b):fJ b r lI .rem:=by
 have hu:=nT zl;unfold fJ;have hu:TT.lim 113 [.s lI]=some [.i .i64 2]:=hu;have hx:=hb.remaining;refine aG rfl rfl ?_ rfl;by_cases hc:0<=b.remaining
 ·have w1:=dX (n:=b.remaining) (by omega) (by omega)
  have w2:=dX (n:=2 * b.remaining) (by omega) (by omega);simp [hu,iD,zz,hc,w1,w2]
 ·have w0:=wrap64 (n:=b.remaining+1) (by omega) (by omega)
  have w00:=wrap64 (n:=0 - (b.remaining+1)) (by omega) (by omega);have w1:=dX (n:=0 - (b.remaining+1)) (by omega) (by omega);have w2:=dX (n:=0 - (b.remaining+1)+1) (by omega) (by omega);have w3:=dX (n:=0 - (b.remaining+1)+1 - 1) (by omega) (by omega);have w4:=dX (n:=2 * (0 - (b.remaining+1)+1 - 1)) (by omega) (by omega);have w5:=dX (n:=2 * (0 - (b.remaining+1)+1 - 1)+1) (by omega) (by omega);have e:2 * (0 - (b.remaining+1)+1 - 1)+1 = -2 * b.remaining - 1:=by omega
  have hz:zz b.remaining=2 * (0 - (b.remaining+1)+1 - 1)+1:=by unfold zz;rw [ah hc,e]
  have hv:iD b .rem=(zz b.remaining,[]):=rfl;rw [hv,hz];simp only [Nat.reduceAdd] at *;simp [-Int.add_sub_cancel, -Int.zero_sub,hu,hc,w0,w00,w1,w2,w3,w4,w5]
theorem Vr (b:aB) (r:List GV):fJ b r jK .name:=by
 have hu:=nT xk;unfold fJ;have hn:=acA b r;have hu:TT.lim 113 [.s jK]=some [.i .i64 3]:=hu;refine aG rfl rfl ?_ rfl;simp [hu,gV,hn,iD]
theorem Vu (b:aB) (r:List GV):fJ b r jM .region:=by
 have hu:=nT xu;unfold fJ;have hn:=acC b r;have hu:TT.lim 113 [.s jM]=some [.i .i64 3]:=hu;refine aG rfl rfl ?_ rfl;simp [hu,gV,hn,iD]
theorem Vs (b:aB) (r:List GV):fJ b r jL .note:=by
 have hu:=nT xq;unfold fJ;have hn:=acB b r;have hu:TT.lim 113 [.s jL]=some [.i .i64 3]:=hu;refine aG rfl rfl ?_ rfl;simp [hu,gV,hn,iD]
theorem rU (x:Int):decide (x=0)=(decide (x=0)&&decide (([]:List UInt8)=[])):=by simp
theorem TQ (x:List UInt8):decide (x=[])=(decide ((0:Int)=0)&&decide (x=[])):=by simp
theorem oG (b:aB) (r:List GV) {n:List UInt8} {c:Bool} {x:Int×List UInt8} (d1:¬ n=[100,101,115,99,114]) (d2:¬ n=[116,97,98,108,101]) (hv:TT.lim 145 [bJ b r,.s n]=some [.i .u64 x.1,.s x.2]) (en:c=(decide (x.1=0)&&decide (x.2=[]))):TT.lim 144 [bJ b r,.s n]=some [.b c]:=by
 rw [en];refine aG rfl rfl ?_ rfl;by_cases c1:x.1=0
 ·simp [d1,d2,gV,hv,c1]
 ·simp [d1,d2,gV,hv,c1]
theorem amr (b:aB) (r:List GV) (hb:iV b):TT.lim 144 [bJ b r,.s lI]=some [.b (eF b .rem)]:=oG b r (by decide) (by decide) (Vw b r hb) (by
 rw [vg];simp only [eF,iD,zz];by_cases hc:0<=b.remaining
 ·simp [hc]
  omega
 ·simp [hc]
  omega)
theorem al8 (b:aB) (r:List GV):TT.lim 144 [bJ b r,.s lH]=some [.b (eF b .allow)]:=oG b r (by decide) (by decide) (Vb b r ) (by
 rw [vg];by_cases hc:b.allowed=true<;>simp [eF,iD,hc])
theorem amm (b:aB) (r:List GV):TT.lim 144 [bJ b r,.s jK]=some [.b (eF b .name)]:=oG b r (by decide) (by decide) (Vr b r ) (TQ b.name)
theorem amq (b:aB) (r:List GV):TT.lim 144 [bJ b r,.s jM]=some [.b (eF b .region)]:=oG b r (by decide) (by decide) (Vu b r ) (TQ b.region)
theorem amn (b:aB) (r:List GV):TT.lim 144 [bJ b r,.s jL]=some [.b (eF b .note)]:=oG b r (by decide) (by decide) (Vs b r ) (TQ b.note)
theorem ame (b:aB) (r:List GV):TT.lim 144 [bJ b r,.s jJ]=some [.b (eF b .d)]:=by
 have e:eF b .d=decide (b.d=[]):=rfl;rw [e];unfold jJ;refine aG rfl rfl ?_ rfl;by_cases hc:b.d=[]<;>simp [hc]
theorem amu (b:aB) (r:List GV):TT.lim 144 [bJ b r,.s jO]=some [.b (eF b .t)]:=by
 have e:eF b .t=decide (b.t=[]):=rfl;rw [e];unfold jO;refine aG rfl rfl ?_ rfl;by_cases hc:b.t=[]<;>simp [hc]
theorem ami (b:aB) (r:List GV):TT.lim 144 [bJ b r,.s kK]=some [.b (eF b (.num 0))]:=oG b r (by decide) (by decide) (Vm b r ) (rU (bW b 0))
theorem aml (b:aB) (r:List GV):TT.lim 144 [bJ b r,.s kN]=some [.b (eF b (.num 1))]:=oG b r (by decide) (by decide) (Vq b r ) (rU (bW b 1))
theorem amk (b:aB) (r:List GV):TT.lim 144 [bJ b r,.s kM]=some [.b (eF b (.num 2))]:=oG b r (by decide) (by decide) (Vp b r ) (rU (bW b 2))
theorem ama (b:aB) (r:List GV):TT.lim 144 [bJ b r,.s kC]=some [.b (eF b (.num 3))]:=oG b r (by decide) (by decide) (Ve b r ) (rU (bW b 3))
theorem amh (b:aB) (r:List GV):TT.lim 144 [bJ b r,.s kJ]=some [.b (eF b (.num 4))]:=oG b r (by decide) (by decide) (Vl b r ) (rU (bW b 4))
theorem amc (b:aB) (r:List GV):TT.lim 144 [bJ b r,.s kE]=some [.b (eF b (.num 5))]:=oG b r (by decide) (by decide) (Vg b r ) (rU (bW b 5))
theorem amo (b:aB) (r:List GV):TT.lim 144 [bJ b r,.s kP]=some [.b (eF b (.num 6))]:=oG b r (by decide) (by decide) (Vt b r ) (rU (bW b 6))
theorem amd (b:aB) (r:List GV):TT.lim 144 [bJ b r,.s kF]=some [.b (eF b (.num 7))]:=oG b r (by decide) (by decide) (Vh b r ) (rU (bW b 7))
theorem ams (b:aB) (r:List GV):TT.lim 144 [bJ b r,.s kQ]=some [.b (eF b (.num 8))]:=oG b r (by decide) (by decide) (Vx b r ) (rU (bW b 8))
theorem amg (b:aB) (r:List GV):TT.lim 144 [bJ b r,.s kH]=some [.b (eF b (.num 9))]:=oG b r (by decide) (by decide) (Vk b r ) (rU (bW b 9))
theorem al9 (b:aB) (r:List GV):TT.lim 144 [bJ b r,.s ku]=some [.b (eF b (.num 10))]:=oG b r (by decide) (by decide) (Vd b r ) (rU (bW b 10))
theorem amf (b:aB) (r:List GV):TT.lim 144 [bJ b r,.s kG]=some [.b (eF b (.num 11))]:=oG b r (by decide) (by decide) (Vj b r ) (rU (bW b 11))
theorem amj (b:aB) (r:List GV):TT.lim 144 [bJ b r,.s kL]=some [.b (eF b (.num 12))]:=oG b r (by decide) (by decide) (Vo b r ) (rU (bW b 12))
theorem amb (b:aB) (r:List GV):TT.lim 144 [bJ b r,.s kD]=some [.b (eF b (.num 13))]:=oG b r (by decide) (by decide) (Vf b r ) (rU (bW b 13))
theorem amv (b:aB) (r:List GV):TT.lim 144 [bJ b r,.s kR]=some [.b (eF b (.num 14))]:=oG b r (by decide) (by decide) (Vy b r ) (rU (bW b 14))
theorem al7 (b:aB) (r:List GV) (hb:iV b) (n:List UInt8):placeOf n≠none->TT.lim 144 [bJ b r,.s n]=some [.b (fU b n)]:=by
 refine DF (Q:=λn=>placeOf n≠none->TT.lim 144 [bJ b r,.s n]=some [.b (fU b n)]) (λ_=>by unfold fU;rw [zl];exact amr b r hb) (λ_=>by unfold fU;rw [yR];exact al8 b r ) (λ_=>by unfold fU;rw [xk];exact amm b r ) (λ_=>by unfold fU;rw [xu];exact amq b r ) (λ_=>by unfold fU;rw [xq];exact amn b r ) (λ_=>by unfold fU;rw [yY];exact ame b r ) (λ_=>by unfold fU;rw [zq];exact amu b r ) (λ_=>by unfold fU;rw [y9];exact ami b r ) (λ_=>by unfold fU;rw [zi];exact aml b r ) (λ_=>by unfold fU;rw [zh];exact amk b r ) (λ_=>by unfold fU;rw [yT];exact ama b r ) (λ_=>by unfold fU;rw [y8];exact amh b r ) (λ_=>by unfold fU;rw [yV];exact amc b r ) (λ_=>by unfold fU;rw [zk];exact amo b r ) (λ_=>by unfold fU;rw [yX];exact amd b r ) (λ_=>by unfold fU;rw [zo];exact ams b r ) (λ_=>by unfold fU;rw [y7];exact amg b r ) (λ_=>by unfold fU;rw [yS];exact al9 b r ) (λ_=>by unfold fU;rw [yZ];exact amf b r ) (λ_=>by unfold fU;rw [zf];exact amj b r ) (λ_=>by unfold fU;rw [yU];exact amb b r ) (λ_=>by unfold fU;rw [zu];exact amv b r ) (λn e0 e1 e2 e3 e4 e5 e6 e7 e8 e9 e10 e11 e12 e13 e14 e15 e16 e17 e18 e19 e20 e21 h=>absurd (CQ n e0 e1 e2 e3 e4 e5 e6 e7 e8 e9 e10 e11 e12 e13 e14 e15 e16 e17 e18 e19 e20 e21) h) n
theorem abV (b:aB) (r:List GV) (n:List UInt8) (a3 a4 a5:GV) (l:List bY) (hlen:l.length<=1000):∀ (m i:Nat) (is:Bool),i+m=l.length->
 TT.lim 143 [.l (l.map bF),.s n,.b is,a3,a4,a5,.i .i64 l.length,.i .i64 i,.i .i64 b.kind,.i .u64 b.id,.i .u64 b.min,.i .u64 b.max,.i .u64 b.chosen,.i .u64 b.flags,.i .u64 b.cost,.i .u64 b.priority,.i .u64 b.deadline,.i .u64 b.retry,.i .u64 b.epoch,.i .u64 b.base,.i .u64 b.digest,.i .u64 b.lag,.i .u64 b.code,.i .u64 b.want,.i .i64 b.remaining,.b b.allowed,.s b.name,.s b.region,.s b.note,.l (b.d.map ent),.l (b.t.map row),.l r]=some [.i .i64 0,.b (is || qR (l.drop i) n)]
 | 0,i,is,hi=>by
   have h0:l.drop i=[]:=dQ (by omega);refine ay rfl rfl ?_;have h:¬ ((i:Int) < l.length):=by omega
   simp [h,h0,qR]
 | m+1,i,is,hi=>by
   have hlt:i < l.length:=by omega
   have hcast:((i:Int)+1)=((i+1:Nat):Int):=by omega
   have ih:=λis=>abV b r n a3 a4 a5 l hlen m (i+1) is (by omega);simp only [<- hcast] at ih;have h1:((i:Int) < l.length):=by omega
   have hw:=wrap64 (n:=(i:Int)+1) (by omega) (by omega);have hd:qR (l.drop i) n=(decide (l[i].name=n) || qR (l.drop (i+1)) n):=by rw [eH hlt];rfl
   rw [hd];generalize qR (l.drop (i+1)) n=X at *;refine ay rfl rfl ?_;cases is with
   | true=>simp [h1,hlt,hw,ih]
   | false=>simp [h1,hlt,hw,ih]
theorem abU (b:aB) (r:List GV) (hb:iV b) (l:List bY) (hlen:l.length<=1000) (ns:List (List UInt8)) (hn:ns.length<=1000) (hns:∀n∈ns,placeOf n≠none):∀ (m i:Nat),i+m=ns.length->
 TT.lim 142 [.l (l.map bF),.l (ns.map .s),.i .i64 ns.length,.i .i64 i,.i .i64 b.kind,.i .u64 b.id,.i .u64 b.min,.i .u64 b.max,.i .u64 b.chosen,.i .u64 b.flags,.i .u64 b.cost,.i .u64 b.priority,.i .u64 b.deadline,.i .u64 b.retry,.i .u64 b.epoch,.i .u64 b.base,.i .u64 b.digest,.i .u64 b.lag,.i .u64 b.code,.i .u64 b.want,.i .i64 b.remaining,.b b.allowed,.s b.name,.s b.region,.s b.note,.l (b.d.map ent),.l (b.t.map row),.l r]=some (if (ns.drop i).all (λn=>qR l n || fU b n)=true then [.i .i64 1] else [.i .i64 0])
 | 0,i,hi=>by
   have h0:ns.drop i=[]:=dQ (by omega);refine ay rfl rfl ?_;have h:¬ ((i:Int) < ns.length):=by omega
   simp [h,h0]
 | m+1,i,hi=>by
   have hlt:i < ns.length:=by omega
   have ih:=abU b r hb l hlen ns hn hns m (i+1) (by omega);have hcast:((i:Int)+1)=((i+1:Nat):Int):=by omega
   rw [<- hcast] at ih;have h1:((i:Int) < ns.length):=by omega
   have hw:=wrap64 (n:=(i:Int)+1) (by omega) (by omega);have hd:(ns.drop i).all (λn=>qR l n || fU b n)=((qR l ns[i] || fU b ns[i])&&(ns.drop (i+1)).all (λn=>qR l n || fU b n)):=by rw [eH hlt,vC]
   rw [hd];have hN:=al7 b r hb ns[i] (hns _ (iI hlt));have h0:TT.lim 143 [.l (l.map bF),.s ns[i],.b false,.l (ns.map .s),.i .i64 ns.length,.i .i64 i,.i .i64 l.length,.i .i64 0,.i .i64 b.kind,.i .u64 b.id,.i .u64 b.min,.i .u64 b.max,.i .u64 b.chosen,.i .u64 b.flags,.i .u64 b.cost,.i .u64 b.priority,.i .u64 b.deadline,.i .u64 b.retry,.i .u64 b.epoch,.i .u64 b.base,.i .u64 b.digest,.i .u64 b.lag,.i .u64 b.code,.i .u64 b.want,.i .i64 b.remaining,.b b.allowed,.s b.name,.s b.region,.s b.note,.l (b.d.map ent),.l (b.t.map row),.l r]=_:=abV b r ns[i] (.l (ns.map .s)) (.i .i64 ns.length) (.i .i64 i) l hlen l.length 0 false (by omega);rw [dF,xJ] at h0;generalize (ns.drop (i+1)).all (λn=>qR l n || fU b n)=X at *;generalize qR l ns[i]=A at *;generalize fU b ns[i]=B at *;refine ay rfl rfl ?_;cases A with
   | true=>simp [h1,hlt,hw,h0,ih]
   | false=>
     cases B with
     | true=>simp [h1,hlt,hw,h0,gV,hN,ih]
     | false=>simp [h1,hlt,hw,h0,gV,hN]
def xZ (b:aB) (r:List GV) (s:bY):Prop:=∀ (l:List bY) (i:Nat) (out:List GV),(h:i < l.length)->l[i]=s->l.length<=1000->
    TT.lim 162 [.l (l.map bF),.i .i64 l.length,.i .i64 ((i:Int)+1),.i .i64 b.kind,.i .u64 b.id,.i .u64 b.min,.i .u64 b.max,.i .u64 b.chosen,.i .u64 b.flags,.i .u64 b.cost,.i .u64 b.priority,.i .u64 b.deadline,.i .u64 b.retry,.i .u64 b.epoch,.i .u64 b.base,.i .u64 b.digest,.i .u64 b.lag,.i .u64 b.code,.i .u64 b.want,.i .i64 b.remaining,.b b.allowed,.s b.name,.s b.region,.s b.note,.l (b.d.map ent),.l (b.t.map row),.l r]=some out->
    TT.lim 162 [.l (l.map bF),.i .i64 l.length,.i .i64 i,.i .i64 b.kind,.i .u64 b.id,.i .u64 b.min,.i .u64 b.max,.i .u64 b.chosen,.i .u64 b.flags,.i .u64 b.cost,.i .u64 b.priority,.i .u64 b.deadline,.i .u64 b.retry,.i .u64 b.epoch,.i .u64 b.base,.i .u64 b.digest,.i .u64 b.lag,.i .u64 b.code,.i .u64 b.want,.i .i64 b.remaining,.b b.allowed,.s b.name,.s b.region,.s b.note,.l (b.d.map ent),.l (b.t.map row),.l r]=some (if lG b s.name=0 then out else [.i .i64 0,.i .i64 (lG b s.name)])
theorem am0 (b:aB) (r:List GV) (s:bY) (u3:s.use≠3) (u4:s.use≠4) (u5:s.use≠5) (hm:lG b s.name=0):xZ b r s:=by
 intro l i out h hs hlen ih;have h1:((i:Int) < l.length):=by omega
 have hw:=wrap64 (n:=(i:Int)+1) (by omega) (by omega);rw [ak hm];refine ay rfl rfl ?_;simp [h1,h,hs,hw,u3,u4,u5,ih]
theorem amY (b:aB) (r:List GV) (hb:iV b) (s:bY) (hu:s.use=3) (hn:s.name=jK):xZ b r s:=by
 intro l i out h hs hlen ih;have h1:((i:Int) < l.length):=by omega
 have hw:=wrap64 (n:=(i:Int)+1) (by omega) (by omega);have hm:lG b s.name=fC b.name 0 256:=by rw [hn];unfold lG;rw [xk];rfl
 have hr:=acA b r;have hc:=BM b.name 0 256 hb.name;rw [hm];generalize fC b.name 0 256=c at *;rw [<- hn] at hr;by_cases e:c=0
 ·subst e
  rw [ak rfl];refine ay rfl rfl ?_;simp [h1,h,hs,hw,hu,gV,hr,hc,ih]
 ·rw [ah e]
  refine ay rfl rfl ?_;simp [h1,h,hs,hw,hu,gV,hr,hc,e]
theorem am1 (b:aB) (r:List GV) (hb:iV b) (s:bY) (hu:s.use=3) (hn:s.name=jM):xZ b r s:=by
 intro l i out h hs hlen ih;have h1:((i:Int) < l.length):=by omega
 have hw:=wrap64 (n:=(i:Int)+1) (by omega) (by omega);have hm:lG b s.name=fC b.region 0 256:=by rw [hn];unfold lG;rw [xu];rfl
 have hr:=acC b r;have hc:=BM b.region 0 256 hb.region;rw [hm];generalize fC b.region 0 256=c at *;rw [<- hn] at hr;by_cases e:c=0
 ·subst e
  rw [ak rfl];refine ay rfl rfl ?_;simp [h1,h,hs,hw,hu,gV,hr,hc,ih]
 ·rw [ah e]
  refine ay rfl rfl ?_;simp [h1,h,hs,hw,hu,gV,hr,hc,e]
theorem amZ (b:aB) (r:List GV) (hb:iV b) (s:bY) (hu:s.use=3) (hn:s.name=jL):xZ b r s:=by
 intro l i out h hs hlen ih;have h1:((i:Int) < l.length):=by omega
 have hw:=wrap64 (n:=(i:Int)+1) (by omega) (by omega);have hm:lG b s.name=fC b.note 0 256:=by rw [hn];unfold lG;rw [xq];rfl
 have hr:=acB b r;have hc:=BM b.note 0 256 hb.note;rw [hm];generalize fC b.note 0 256=c at *;rw [<- hn] at hr;by_cases e:c=0
 ·subst e
  rw [ak rfl];refine ay rfl rfl ?_;simp [h1,h,hs,hw,hu,gV,hr,hc,ih]
 ·rw [ah e]
  refine ay rfl rfl ?_;simp [h1,h,hs,hw,hu,gV,hr,hc,e]
theorem amX (b:aB) (r:List GV) (hb:iV b) (s:bY) (hu:s.use=4) (hn:s.name=jJ):xZ b r s:=by
 intro l i out h hs hlen ih;have h1:((i:Int) < l.length):=by omega
 have hw:=wrap64 (n:=(i:Int)+1) (by omega) (by omega);have hm:lG b s.name=if b.d=[] then 0 else pW b.d:=by rw [hn];unfold lG;rw [yY];rfl
 have hc:=Ye b.d hb.d;rw [hm];by_cases hd:b.d=[]
 ·rw [ak (by rw [ak hd])]
  have hd':(b.d=[])=True:=eq_true hd;have hd2:(0 < b.d.length)=False:=eq_false (by rw [hd];simp);refine ay rfl rfl ?_;simp [h1,h,hs,hw,hu,hd2,ih]
 ·rw [ah hd]
  have hd0:0 < b.d.length:=Bq.2 hd;generalize pW b.d=c at *;by_cases e:c=0
  ·subst e
   rw [ak rfl];refine ay rfl rfl ?_;simp [h1,h,hs,hw,hu,hd,hc,ih]
  ·rw [ah e]
   refine ay rfl rfl ?_;simp [h1,h,hs,hw,hu,hd,hc,e]
theorem am2 (b:aB) (r:List GV) (hb:iV b) (hf:vk b.t) (s:bY) (hu:s.use=5) (hn:s.name=jO):xZ b r s:=by
 intro l i out h hs hlen ih;have h1:((i:Int) < l.length):=by omega
 have hw:=wrap64 (n:=(i:Int)+1) (by omega) (by omega);have hm:lG b s.name=pV b.t:=by rw [hn];unfold lG;rw [zq];rfl
 have hc:=aeB b.t hb.t hf;rw [hm];generalize pV b.t=c at *;by_cases e:c=0
 ·subst e
  rw [ak rfl];refine ay rfl rfl ?_;simp [h1,h,hs,hw,hu,hc,ih]
 ·rw [ah e]
  refine ay rfl rfl ?_;simp [h1,h,hs,hw,hu,hc,e]
theorem qG (b:aB) (r:List GV) (s:bY) {n:List UInt8} {p:Pl} (h:placeOf n=some p) (e:gu p < 3) (m:TF b p=0) (_:placeOf n≠none) (hn:s.name=n) (hu:s.use=ru n):xZ b r s:=by
 have e2:s.use < 3:=by rw [hu];unfold ru;rw [h];exact e
 exact am0 b r s (by omega) (by omega) (by omega) (by rw [hn];unfold lG;rw [h];exact m)
theorem amW (b:aB) (r:List GV) (hb:iV b) (hf:vk b.t) (s:bY) (hp:placeOf s.name≠none) (hu:s.use=ru s.name):xZ b r s:=by
 have key:∀n,placeOf n≠none->s.name=n->s.use=ru n->xZ b r s:=by
  intro n;refine DF (Q:=λn=>placeOf n≠none->s.name=n->s.use=ru n->xZ b r s) (qG b r s zl (by decide) rfl) (qG b r s yR (by decide) rfl) (λ_ hn hu=>amY b r hb s (hu.trans (by unfold ru;rw [xk];rfl)) hn) (λ_ hn hu=>am1 b r hb s (hu.trans (by unfold ru;rw [xu];rfl)) hn) (λ_ hn hu=>amZ b r hb s (hu.trans (by unfold ru;rw [xq];rfl)) hn) (λ_ hn hu=>amX b r hb s (hu.trans (by unfold ru;rw [yY];rfl)) hn) (λ_ hn hu=>am2 b r hb hf s (hu.trans (by unfold ru;rw [zq];rfl)) hn) (qG b r s y9 (by decide) rfl) (qG b r s zi (by decide) rfl) (qG b r s zh (by decide) rfl) (qG b r s yT (by decide) rfl) (qG b r s y8 (by decide) rfl) (qG b r s yV (by decide) rfl) (qG b r s zk (by decide) rfl) (qG b r s yX (by decide) rfl) (qG b r s zo (by decide) rfl) (qG b r s y7 (by decide) rfl) (qG b r s yS (by decide) rfl) (qG b r s yZ (by decide) rfl) (qG b r s zf (by decide) rfl) (qG b r s yU (by decide) rfl) (qG b r s zu (by decide) rfl) (λn e0 e1 e2 e3 e4 e5 e6 e7 e8 e9 e10 e11 e12 e13 e14 e15 e16 e17 e18 e19 e20 e21 h=>absurd (CQ n e0 e1 e2 e3 e4 e5 e6 e7 e8 e9 e10 e11 e12 e13 e14 e15 e16 e17 e18 e19 e20 e21) h) n
 exact key _ hp rfl hu
theorem abW (b:aB) (r:List GV) (hb:iV b) (hf:vk b.t) (l:List bY) (hlen:l.length<=1000) (hns:∀s∈l,placeOf s.name≠none/\s.use=ru s.name):∀ (m i:Nat),i+m=l.length->
 TT.lim 162 [.l (l.map bF),.i .i64 l.length,.i .i64 i,.i .i64 b.kind,.i .u64 b.id,.i .u64 b.min,.i .u64 b.max,.i .u64 b.chosen,.i .u64 b.flags,.i .u64 b.cost,.i .u64 b.priority,.i .u64 b.deadline,.i .u64 b.retry,.i .u64 b.epoch,.i .u64 b.base,.i .u64 b.digest,.i .u64 b.lag,.i .u64 b.code,.i .u64 b.want,.i .i64 b.remaining,.b b.allowed,.s b.name,.s b.region,.s b.note,.l (b.d.map ent),.l (b.t.map row),.l r]=some (if nN b (l.drop i)=0 then [.i .i64 1] else [.i .i64 0,.i .i64 (nN b (l.drop i))])
 | 0,i,hi=>by
   have h0:l.drop i=[]:=dQ (by omega);refine ay rfl rfl ?_;have h:¬ ((i:Int) < l.length):=by omega
   simp [h,h0,nN]
 | m+1,i,hi=>by
   have hlt:i < l.length:=by omega
   have ih:=abW b r hb hf l hlen hns m (i+1) (by omega);have hcast:((i:Int)+1)=((i+1:Nat):Int):=by omega
   rw [<- hcast] at ih;have hq:=hns _ (iI hlt);have:=amW b r hb hf l[i] hq.1 hq.2 l i _ hlt rfl hlen ih;rw [this,eH hlt];by_cases hc:lG b l[i].name=0
   ·have hm:nN b (l[i]::l.drop (i+1))=nN b (l.drop (i+1)):=by simp only [nN,hc,if_true]
    rw [ak hc,hm]
   ·have hm:nN b (l[i]::l.drop (i+1))=lG b l[i].name:=by simp only [nN,hc,if_false]
    rw [ah hc,hm,ah hc]
theorem abY (l:List bY) (hlen:l.length<=1000) (a1 a2 a3:GV) (t:Int) (a7 a8 a9 a10:GV):∀ (m i:Nat),i+m=l.length->
 TT.lim 166 [.l (l.map bF),a1,a2,a3,.i .i64 l.length,.i .i64 i,.i .u64 t,a7,a8,a9,a10]=some (if hasTag (l.drop i) t=true then [.i .i64 0] else [.i .i64 1])
 | 0,i,hi=>by
   have h0:l.drop i=[]:=dQ (by omega);refine ay rfl rfl ?_;have h:¬ ((i:Int) < l.length):=by omega
   simp [h,h0,hasTag]
 | m+1,i,hi=>by
   have hlt:i < l.length:=by omega
   have ih:=abY l hlen a1 a2 a3 t a7 a8 a9 a10 m (i+1) (by omega);have hcast:((i:Int)+1)=((i+1:Nat):Int):=by omega
   rw [<- hcast] at ih;have h1:((i:Int) < l.length):=by omega
   have hw:=wrap64 (n:=(i:Int)+1) (by omega) (by omega);have hd:hasTag (l.drop i) t=(decide (t=l[i].tag) || hasTag (l.drop (i+1)) t):=by rw [eH hlt];rfl
   rw [hd];generalize hasTag (l.drop (i+1)) t=X at *;refine ay rfl rfl ?_;by_cases hc:t=l[i].tag
   ·simp [h1,hlt,hc]
   ·have hc':¬ l[i].tag=t:=λe=>hc e.symm
    simp [h1,hlt,hc,hc',hw,ih]
theorem abX (l:List bY) (hlen:l.length<=1000) (fl:List aS) (hfl:fl.length<=1000000):∀ (m i:Nat),i+m=fl.length->
 TT.lim 165 [.l (l.map bF),.l (aC fl),.i .i64 fl.length,.i .i64 i]=some (if (fl.drop i).any (λf=>hasTag l f.tag)=true then [.i .i64 0] else [.i .i64 1])
 | 0,i,hi=>by
   have h0:fl.drop i=[]:=dQ (by omega);refine ay rfl rfl ?_;have h:¬ ((i:Int) < fl.length):=by omega
   simp [h,h0]
 | m+1,i,hi=>by
   have hlt:i < fl.length:=by omega
   have ih:=abX l hlen fl hfl m (i+1) (by omega);have hcast:((i:Int)+1)=((i+1:Nat):Int):=by omega
   rw [<- hcast] at ih;have h1:((i:Int) < fl.length):=by omega
   have hw:=wrap64 (n:=(i:Int)+1) (by omega) (by omega);have hd:(fl.drop i).any (λf=>hasTag l f.tag)=(hasTag l fl[i].tag || (fl.drop (i+1)).any (λf=>hasTag l f.tag)):=by rw [eH hlt,P7]
   rw [hd];have hget:(aC fl)[i]? = some (iR fl[i]):=by rw [Ag,jw,dA hlt];rfl
   clear hd;obtain ⟨t,y,n,s,k,hfi⟩:∃t y n s k,fl[i]=aS.mk t y n s k:=by
    cases fl[i] with
    | mk t y n s k=>exact ⟨_,_,_,_,_,rfl⟩
   rw [hfi] at hget ⊢;rw [show (aS.mk t y n s k).tag=t from rfl];have h3:TT.lim 166 [.l (l.map bF),.l (aC fl),.i .i64 fl.length,.i .i64 i,.i .i64 l.length,.i .i64 0,.i .u64 t,.i .i64 y,.i .u64 n,.s s,.l (aC k)]=_:=abY l hlen _ _ _ t _ _ _ _ l.length 0 (by omega);rw [dF] at h3;refine ay rfl rfl ?_;by_cases hc:hasTag l t=true
   ·rw [ak hc] at h3
    simp [-List.any_eq_true,h1,hget,h3,hc]
   ·rw [ah hc] at h3
    have hc:hasTag l t=false:=by simpa using hc
    simp [-List.any_eq_true,h1,hget,h3,hw,ih,hc]
theorem ai9 (k v:Int):∀s∈bD k v,placeOf s.name≠none/\s.use=ru s.name:=by
 have key:∀s∈jP k,placeOf s.name≠none/\s.use=ru s.name:=by
  unfold jP;repeat' split
  all_goals first | (unfold sp1;decide) | (unfold sp2;decide) | (unfold xB;decide) | (unfold xC;decide) | (unfold xE;decide) | (unfold xF;decide) | (unfold xG;decide) | (unfold xH;decide) | (intro s hs;cases hs)
 intro s hs;exact key s (E5.1 hs).1
set_option maxHeartbeats 4000000 in
theorem alL (b:aB) (fl:List aS) (v:Int) (hb:iV b) (hf:vk b.t) (hok:gU fl) (hlen:fl.length<=1000000):TT.lim 140 [bJ b (aC fl),.i .i64 v]=some [.i .i64 (yB b fl v)]:=by
 refine aG rfl rfl ?_ rfl;unfold yB;by_cases v1:v < 1
 ·simp [v1]
 by_cases v3:3 < v
 ·simp [v1,v3]
 rw [ah v1,ah v3];have hkn:=ach b.kind v (by omega);have hpl:=ai9 b.kind v;have hl8:=JA b.kind v;generalize bD b.kind v=sp at *;by_cases hsp:sp=[]
 ·rw [ak hsp]
  rw [hsp] at hkn;simp [v1,v3,hkn]
 rw [ah hsp];have ath:¬ sp.length=0:=λe=>hsp (adJ.1 e);have hnm:=aci;have h1:=abU b (aC fl) hb sp (by omega) eX (by decide) abk eX.length 0 (by omega);have h2:=abW b (aC fl) hb hf sp (by omega) hpl sp.length 0 (by omega);have h3:=abX sp (by omega) fl hlen fl.length 0 (by omega);have h4:TT.lim 163 [.l (aC fl),.i .i64 0]=some [.i .i64 (jE 0 0 fl)]:=ace (gZ fl+1) fl (by omega) hok hlen 0 (by omega);rw [dF] at h1 h2 h3;have hfl:=oU fl;rw [<- hfl] at h3;have h1':TT.lim 142 [.l (sp.map bF),.l (eX.map .s),.i .i64 eX.length,.i .i64 0,.i .i64 b.kind,.i .u64 b.id,.i .u64 b.min,.i .u64 b.max,.i .u64 b.chosen,.i .u64 b.flags,.i .u64 b.cost,.i .u64 b.priority,.i .u64 b.deadline,.i .u64 b.retry,.i .u64 b.epoch,.i .u64 b.base,.i .u64 b.digest,.i .u64 b.lag,.i .u64 b.code,.i .u64 b.want,.i .i64 b.remaining,.b b.allowed,.s b.name,.s b.region,.s b.note,.l (b.d.map ent),.l (b.t.map row),.l (aC fl)]=_:=h1;clear h1;have h2':TT.lim 162 [.l (sp.map bF),.i .i64 sp.length,.i .i64 0,.i .i64 b.kind,.i .u64 b.id,.i .u64 b.min,.i .u64 b.max,.i .u64 b.chosen,.i .u64 b.flags,.i .u64 b.cost,.i .u64 b.priority,.i .u64 b.deadline,.i .u64 b.retry,.i .u64 b.epoch,.i .u64 b.base,.i .u64 b.digest,.i .u64 b.lag,.i .u64 b.code,.i .u64 b.want,.i .i64 b.remaining,.b b.allowed,.s b.name,.s b.region,.s b.note,.l (b.d.map ent),.l (b.t.map row),.l (aC fl)]=_:=h2;clear h2;have h3':TT.lim 165 [.l (sp.map bF),.l (aC fl),.i .i64 (aC fl).length,.i .i64 0]=_:=h3;clear h3;have hr:JV sp fl=if jE 0 0 fl≠0 then jE 0 0 fl else if fl.any (λf=>hasTag sp f.tag)=true then 14 else 0:=rfl
 generalize (eX.all λn=>qR sp n || fU b n)=A at *;generalize nN b sp=M at *;generalize jE 0 0 fl=F at *;generalize (fl.any λf=>hasTag sp f.tag)=W at *;generalize JV sp fl=R at *;generalize eX=NL at *;cases A with
 | false=>
   simp only [eG,if_false] at h1';simp [v1,v3,hkn,hsp,hnm,h1']
 | true=>
 simp only [if_true] at h1';by_cases hM:M=0;rotate_left
 ·rw [ah hM] at h2'
  simp [v1,v3,hkn,hsp,hnm,h1',h2',hM]
 rw [ak hM] at h2';rw [ah (by simp),ah (by simp [hM])];clear hM;have z1:(b.min < 1)=(b.min=0):=propext ⟨λh=>by have:=hb.min;omega,λh=>by omega⟩;have z2:(b.chosen < 1)=(b.chosen=0):=propext ⟨λh=>by have:=hb.chosen;omega,λh=>by omega⟩;have z3:(b.epoch < 1)=(b.epoch=0):=propext ⟨λh=>by have:=hb.epoch;omega,λh=>by omega⟩;have z4:(b.base < 1)=(b.base=0):=propext ⟨λh=>by have:=hb.base;omega,λh=>by omega⟩;unfold IU;simp only [z1,z2,z3,z4];by_cases e1:b.kind=1
 ·have e1:=eq_true e1
  by_cases c1:b.min=0
  ·have c1:=eq_true c1
   simp [v1,v3,hkn,hsp,hnm,h1',h2',e1,c1]
  by_cases c2:b.max < b.min
  ·simp [v1,v3,hkn,hsp,hnm,h1',h2',e1,c1,c2]
  by_cases c3:255 < b.max
  ·simp [v1,v3,hkn,hsp,hnm,h1',h2',e1,c1,c2,c3]
  simp only [e1,c1,c2,c3,if_true,if_false,ne_eq,not_true_eq_false];rw [hr];by_cases hF:F=0
  ·subst hF
   cases W with
   | true=>simp only [if_true] at h3';simp [v1,v3,hkn,hsp,hnm,h1',h2',e1,c1,c2,c3,h4,h3']
   | false=>simp only [eG,if_false] at h3';simp [v1,v3,hkn,hsp,hnm,h1',h2',e1,c1,c2,c3,h4,h3']
  ·simp [v1,v3,hkn,hsp,hnm,h1',h2',e1,c1,c2,c3,h4,hF]
 by_cases e2:b.kind=2
 ·have e2:=eq_true e2
  by_cases c1:b.chosen=0
  ·have c1:=eq_true c1
   simp [v1,v3,hkn,hsp,hnm,h1',h2',e1,e2,c1]
  by_cases c2:255 < b.chosen
  ·simp [v1,v3,hkn,hsp,hnm,h1',h2',e1,e2,c1,c2]
  simp only [e1,e2,c1,c2,if_true,if_false,ne_eq,not_true_eq_false];rw [hr];by_cases hF:F=0
  ·subst hF
   cases W with
   | true=>simp only [if_true] at h3';simp [v1,v3,hkn,hsp,hnm,h1',h2',e1,e2,c1,c2,h4,h3']
   | false=>simp only [eG,if_false] at h3';simp [v1,v3,hkn,hsp,hnm,h1',h2',e1,e2,c1,c2,h4,h3']
  ·simp [v1,v3,hkn,hsp,hnm,h1',h2',e1,e2,c1,c2,h4,hF]
 by_cases e3:b.kind=3
 ·have n5:(b.kind=5)=False:=eq_false (by omega)
  have n6:(b.kind=6)=False:=eq_false (by omega);have e3:=eq_true e3;by_cases c1:b.d=[]
  ·have c1:=eq_true c1
   simp [v1,v3,hkn,hsp,hnm,h1',h2',e1,e2,e3,n5,n6,c1]
  simp only [e1,e2,e3,c1,if_true,if_false,ne_eq,not_true_eq_false];rw [hr];by_cases hF:F=0
  ·subst hF
   cases W with
   | true=>simp only [if_true] at h3';simp [v1,v3,hkn,hsp,hnm,h1',h2',e1,e2,e3,n5,n6,c1,h4,h3']
   | false=>simp only [eG,if_false] at h3';simp [v1,v3,hkn,hsp,hnm,h1',h2',e1,e2,e3,n5,n6,c1,h4,h3']
  ·simp [v1,v3,hkn,hsp,hnm,h1',h2',e1,e2,e3,n5,n6,c1,h4,hF]
 by_cases e5:b.kind=5
 ·have e5:=eq_true e5
  by_cases c1:b.epoch=0
  ·have c1:=eq_true c1
   simp [v1,v3,hkn,hsp,hnm,h1',h2',e1,e2,e3,e5,c1]
  simp only [e1,e2,e3,e5,c1,if_true,if_false,ne_eq,not_true_eq_false];rw [hr];by_cases hF:F=0
  ·subst hF
   cases W with
   | true=>simp only [if_true] at h3';simp [v1,v3,hkn,hsp,hnm,h1',h2',e1,e2,e3,e5,c1,h4,h3']
   | false=>simp only [eG,if_false] at h3';simp [v1,v3,hkn,hsp,hnm,h1',h2',e1,e2,e3,e5,c1,h4,h3']
  ·simp [v1,v3,hkn,hsp,hnm,h1',h2',e1,e2,e3,e5,c1,h4,hF]
 by_cases e6:b.kind=6
 ·have e6:=eq_true e6
  by_cases c1:b.base=0
  ·have c1:=eq_true c1
   simp [v1,v3,hkn,hsp,hnm,h1',h2',e1,e2,e3,e5,e6,c1]
  by_cases c2:b.epoch<=b.base
  ·simp [v1,v3,hkn,hsp,hnm,h1',h2',e1,e2,e3,e5,e6,c1,c2]
  simp only [e1,e2,e3,e5,e6,c1,c2,if_true,if_false,ne_eq,not_true_eq_false];rw [hr];by_cases hF:F=0
  ·subst hF
   cases W with
   | true=>simp only [if_true] at h3';simp [v1,v3,hkn,hsp,hnm,h1',h2',e1,e2,e3,e5,e6,c1,c2,h4,h3']
   | false=>simp only [eG,if_false] at h3';simp [v1,v3,hkn,hsp,hnm,h1',h2',e1,e2,e3,e5,e6,c1,c2,h4,h3']
  ·simp [v1,v3,hkn,hsp,hnm,h1',h2',e1,e2,e3,e5,e6,c1,c2,h4,hF]
 simp only [e1,e2,e3,e5,e6,if_false,ne_eq,not_true_eq_false];rw [hr];by_cases hF:F=0
 ·subst hF
  cases W with
  | true=>simp only [if_true] at h3';simp [v1,v3,hkn,hsp,hnm,h1',h2',e1,e2,e3,e5,e6,h4,h3']
  | false=>simp only [eG,if_false] at h3';simp [v1,v3,hkn,hsp,hnm,h1',h2',e1,e2,e3,e5,e6,h4,h3']
 ·simp [v1,v3,hkn,hsp,hnm,h1',h2',e1,e2,e3,e5,e6,h4,hF]
theorem abp:∀ (N:Nat) (l:List aS),gZ l < N->gU l->l.length<=1000000->TT.lim 172 [.l (aC l)]=some [.l (aC l)]
 | 0,l,h,_,_=>by omega
 | N+1,l,hN,hok,hlen=>by
   have loop:∀m i,i+m=l.length->TT.lim 173 [.l ((aC l).take i),.l (aC l),.i .i64 l.length,.i .i64 i]=some [.i .i64 0,.l (aC l)]:=by
    intro m;induction m with
    | zero=>
      intro i hi;have h0:(aC l).take i=aC l:=mG (by rw [oU];omega);rw [h0];refine ay rfl rfl ?_;have h:¬ ((i:Int) < l.length):=by omega
      simp [h]
    | succ m ih=>
      intro i hi;have hlt:i < l.length:=by omega
      have hf:=Cb hok l[i] (iI hlt);have hs:=Ko (iI hlt);have hget:(aC l)[i]? = some (iR l[i]):=by rw [Ag,jw,dA hlt];rfl
      have hcast:((i:Int)+1)=((i+1:Nat):Int):=by omega
      have ih':=ih (i+1) (by omega);have htk:(aC l).take (i+1)=(aC l).take i++[iR l[i]]:=by
       rw [KL,hget];rfl
      rw [htk,<- hcast] at ih';clear htk;obtain ⟨t,y,n,s,k,hfi⟩:∃t y n s k,l[i]=aS.mk t y n s k:=by
       cases l[i] with
       | mk t y n s k=>exact ⟨_,_,_,_,_,rfl⟩
      rw [hfi] at hget hf hs ih';simp only [uO] at hf;simp only [vY] at hs;have hwr:=wrap64 (n:=(i:Int)+1) (by omega) (by omega);have h:((i:Int) < l.length):=by omega
      have hk:=abp N k (by omega) hf.2 hf.1.2.2.2.2.2.2.2;have hfold:GV.g [.i .u64 t,.i .i64 y,.i .u64 n,.s s,.l (aC k)]=iR (.mk t y n s k):=by simp only [iR]
      have hel:(iR (.mk t y n s k)).fF 5=true:=by simp only [iR];rfl
      have hl0:((aC l).take i).length=i:=by rw [jR,oU];omega
      have hb1:2 * (((aC l).take i).length+1) * 64<=281474976710656:=by rw [hl0];omega
      have hb2:((aC l).take i).length<=281474976710655:=by rw [hl0];omega
      generalize (aC l).take i=acc at *;refine ay rfl rfl ?_;simp [h,hget,hk,hfold,hel,hb1,hb2,hwr,ih']
   have h0:=loop l.length 0 (by omega);have hl2:=oU l;have h0':TT.lim 173 [.l [],.l (aC l),.i .i64 (aC l).length,.i .i64 0]=some [.i .i64 0,.l (aC l)]:=by rw [hl2];exact h0
   refine aG rfl rfl ?_ rfl;simp [h0']
theorem abq (b:aB) (fl:List aS) (hd:b.d.length<=40) (ht:vw b.t) (hok:gU fl) (hlen:fl.length<=1000000):TT.lim 167 [bJ b (aC fl)]=some [bJ b (aC fl)]:=by
 have h1:=ada b.d hd;have h2:=aqu b.t ht;have h3:=abp (gZ fl+1) fl (by omega) hok hlen;refine aG rfl rfl ?_ rfl;simp [h1,h2,h3,gV]
abbrev It:=Int×Int×List UInt8
def ltI (a b:It):Bool:=if a.1=b.1 then decide (a.2.1 < b.2.1) else decide (a.1 < b.1)
def leI (a b:It):Prop:=ltI b a=false
def dI:It:=(0,0,[])
abbrev at_ (h:List It) (i:Nat):It:=h.getD i dI
def par (k:Nat):Nat:=(k - 1) / 2
def Heap (h:List It) (n:Nat):Prop:=∀k,0 < k->k < n->leI (at_ h (par k)) (at_ h k)
structure Xp (h L:List It) (n:Int):Prop where
 heap:Heap h h.length
 perm:L.Perm h
 srt:L.Pairwise (λx y=>ltI x y=true)
 low:∀x∈L,x.2.1 < n
theorem Xp.len {h L:List It} {n:Int} (s:Xp h L n):h.length=L.length:=s.perm.length_eq.symm
/-- What may be kept. -/
structure Kp (k:List Sn):Prop where
 len:k.length<=8
 tb:∀s∈k,Tb s.2
 pos:∀s∈k,0 < s.1/\s.1 < 18446744073709551616
 rise:k.Pairwise λa b=>a.1 < b.1/\XG b.2 a.2=true
theorem Kp.nil:Kp []:=⟨by decide,by simp,by simp,List.Pairwise.nil⟩
theorem Kp.drop {k:List Sn} (hk:Kp k) (i:Nat):Kp (k.drop i):=
 ⟨by have:=hk.len;rw [cZ];omega,λs hs=>hk.tb s (Ih hs),λs hs=>hk.pos s (Ih hs),hk.rise.sublist (List.drop_sublist i k)⟩
/-- What was published by its epoch. -/
def adM (xs:List GV) (k:List Sn):Prop:=∀s∈k,gG (.i .u64 s.1) xs=some (sn s)
theorem key_inj {a b:Int} {x:GV} (h1:nK (.i .u64 a) x=true) (h2:nK (.i .u64 b) x=true):a=b:=by
 cases x<;>simp [nK] at h1 h2
 omega
theorem aat (a b:Int):nK (.i .u64 a) (.i .u64 b)=decide (a=b):=by
 simp only [nK];rw [vg];simp
theorem wE (a b:Int) (u:GV):∀xs:List GV,gG (.i .u64 a) (kS (.i .u64 b) u xs)=if a=b then some u else gG (.i .u64 a) xs
 | []=>by
   show (if nK (.i .u64 a) (.i .u64 b)=true then some u else none)=_
   rw [aat];by_cases h:a=b<;>simp [h,gG]
 | .g [x,v]::xs=>by
   have ih:=wE a b u xs;show gG (.i .u64 a) (if nK (.i .u64 b) x=true then .g [.i .u64 b,u]::xs else .g [x,v]::kS (.i .u64 b) u xs)=if a=b then some u else (if nK (.i .u64 a) x=true then some v else gG (.i .u64 a) xs)
   cases hb:nK (.i .u64 b) x with
   | true=>
     rw [ak rfl];show (if nK (.i .u64 a) (.i .u64 b)=true then some u else gG (.i .u64 a) xs)=_
     rw [aat];by_cases h:a=b
     ·simp [h]
     ·cases ha:nK (.i .u64 a) x with
      | true=>exact absurd (key_inj ha hb) h
      | false=>simp [h]
   | false=>
     rw [ah (by simp)];show (if nK (.i .u64 a) x=true then some v else gG (.i .u64 a) (kS (.i .u64 b) u xs))=_
     rw [ih];cases ha:nK (.i .u64 a) x with
     | true=>
       by_cases h:a=b
       ·subst h;rw [ha] at hb;cases hb
       ·simp [h]
     | false=>simp
 | .g []::xs=>wE a b u xs
 | .g [_]::xs=>wE a b u xs
 | .g (_::_::_::_)::xs=>wE a b u xs
 | .i _ _::xs=>wE a b u xs
 | .b _::xs=>wE a b u xs
 | .s _::xs=>wE a b u xs
 | .l _::xs=>wE a b u xs
structure Lead (xs:List GV) (k:List Sn) (b:Int):Prop where
 kp:Kp k
 map:adM xs k
 base:b=0\/∃s∈k,s.1=b
abbrev An:=Int×Int×Int×Int
/-- A message of a sender. -/
abbrev Tm:=Int×Int×Int×List Row
def adI (xs:List GV) (m:Tm):Prop:=
 (m.1=5/\Tb m.2.2.2/\(0 < m.2.1/\m.2.1 < 18446744073709551616)/\m.2.2.1=0/\gG (.i .u64 m.2.1) xs=some (sn (m.2.1,m.2.2.2)))\/
 (m.1=6/\Tb m.2.2.2/\(0 < m.2.2.1/\m.2.2.1 < m.2.1/\m.2.1 < 18446744073709551616)/\∃s l:Sn,gG (.i .u64 m.2.2.1) xs=some (sn s)/\gG (.i .u64 m.2.1) xs=some (sn l)/\l.1=m.2.1/\s.1=m.2.2.1/\Tb l.2/\ad3 s (m.2.2.1,m.2.1,m.2.2.2)=(l,0))
/-- A sender and a receiver, and what was told between them. -/
structure WM (xs:List GV) (told:List Tm) (back:List An) (k:List Sn) (b:Int) (sm:Bool) (h:Sn):Prop where
 lead:Lead xs k b
 keys:∀e g,gG (.i .u64 e) xs=some g->∃l,k.getLast? = some l/\e<=l.1
 told:∀m∈told,adI xs m
 back:∀a∈back,a.1=7->sm=true/\a.2.1<=h.1
 has:(sm=true/\gG (.i .u64 h.1) xs=some (sn h)/\Tb h.2)\/(sm=false/\h=zS)
 base:b<=0\/(sm=true/\b<=h.1)
 zero:gG (.i .u64 0) xs=none
theorem WM.no {xs:List GV} {told:List Tm} {back:List An} {k:List Sn} {b:Int} {sm:Bool} {h:Sn} (f:WM xs told back k b sm h) (e:sm=false):h=zS:=by
 rcases f.has with ⟨q, -⟩ | ⟨-,q⟩
 ·rw [q] at e;cases e
 ·exact q
end V
end Go.Proofs.YthgifdbaegpbpaaGreatDoor
