/- What the trees compute: plain laws. -/
import Derived.Test.YthgifdbaegpbpaaGreatDoorKVe2
namespace Go.Proofs.YthgifdbaegpbpaaGreatDoor
open Go Go.aK
set_option linter.unusedSimpArgs false
set_option linter.unusedVariables false
set_option maxRecDepth 100000
namespace V
structure One where
 deep:Int
 tag:Int
 typ:Int
 num:Int
 text:List UInt8
inductive aS where
 | mk (tag typ num:Int) (text:List UInt8) (l:List aS)
def one (x:One):GV:=.g [.i .u8 x.deep,.i .u64 x.tag,.i .i8 x.typ,.i .u64 x.num,.s x.text]
@[simp] theorem atZ (x:One):(one x).cells=[.i .u8 x.deep,.i .u64 x.tag,.i .i8 x.typ,.i .u64 x.num,.s x.text]:=rfl
mutual
def iR:aS->GV
 | .mk t y n s l=>.g [.i .u64 t,.i .i64 y,.i .u64 n,.s s,.l (aC l)]
def aC:List aS->List GV
 | []=>[]
 | f::l=>iR f::aC l
end
theorem oU:∀ (a:List aS),(aC a).length=a.length
 | []=>rfl
 | f::a=>by simp only [aC,pJ,oU a]
structure aB where
 kind:Int
 id:Int
 min:Int
 max:Int
 chosen:Int
 flags:Int
 cost:Int
 priority:Int
 deadline:Int
 retry:Int
 epoch:Int
 base:Int
 digest:Int
 lag:Int
 code:Int
 want:Int
 remaining:Int
 allowed:Bool
 name:List UInt8
 region:List UInt8
 note:List UInt8
 d:List bU
 t:List Row
/-- A message: what it has, and its rest. -/
def bJ (b:aB) (r:List GV):GV:=.g [.i .i64 b.kind,.i .u64 b.id,.i .u64 b.min,.i .u64 b.max,.i .u64 b.chosen,.i .u64 b.flags,.i .u64 b.cost,.i .u64 b.priority,.i .u64 b.deadline,.i .u64 b.retry,.i .u64 b.epoch,.i .u64 b.base,.i .u64 b.digest,.i .u64 b.lag,.i .u64 b.code,.i .u64 b.want,.i .i64 b.remaining,.b b.allowed,.s b.name,.s b.region,.s b.note,.l (b.d.map ent),.l (b.t.map row),.l r]
theorem gV (b:aB) (r:List GV):GV.g [.i .i64 b.kind,.i .u64 b.id,.i .u64 b.min,.i .u64 b.max,.i .u64 b.chosen,.i .u64 b.flags,.i .u64 b.cost,.i .u64 b.priority,.i .u64 b.deadline,.i .u64 b.retry,.i .u64 b.epoch,.i .u64 b.base,.i .u64 b.digest,.i .u64 b.lag,.i .u64 b.code,.i .u64 b.want,.i .i64 b.remaining,.b b.allowed,.s b.name,.s b.region,.s b.note,.l (b.d.map ent),.l (b.t.map row),.l r]=bJ b r:=rfl
@[simp] theorem qW (b:aB) (r:List GV):(bJ b r).cells=[.i .i64 b.kind,.i .u64 b.id,.i .u64 b.min,.i .u64 b.max,.i .u64 b.chosen,.i .u64 b.flags,.i .u64 b.cost,.i .u64 b.priority,.i .u64 b.deadline,.i .u64 b.retry,.i .u64 b.epoch,.i .u64 b.base,.i .u64 b.digest,.i .u64 b.lag,.i .u64 b.code,.i .u64 b.want,.i .i64 b.remaining,.b b.allowed,.s b.name,.s b.region,.s b.note,.l (b.d.map ent),.l (b.t.map row),.l r]:=rfl
structure iV (b:aB):Prop where
 kind : -9223372036854775808<=b.kind/\b.kind<=9223372036854775807
 id:0<=b.id/\b.id < 18446744073709551616
 min:0<=b.min/\b.min < 18446744073709551616
 max:0<=b.max/\b.max < 18446744073709551616
 chosen:0<=b.chosen/\b.chosen < 18446744073709551616
 flags:0<=b.flags/\b.flags < 18446744073709551616
 cost:0<=b.cost/\b.cost < 18446744073709551616
 priority:0<=b.priority/\b.priority < 18446744073709551616
 deadline:0<=b.deadline/\b.deadline < 18446744073709551616
 retry:0<=b.retry/\b.retry < 18446744073709551616
 epoch:0<=b.epoch/\b.epoch < 18446744073709551616
 base:0<=b.base/\b.base < 18446744073709551616
 digest:0<=b.digest/\b.digest < 18446744073709551616
 lag:0<=b.lag/\b.lag < 18446744073709551616
 code:0<=b.code/\b.code < 18446744073709551616
 want:0<=b.want/\b.want < 18446744073709551616
 remaining : -9223372036854775808<=b.remaining/\b.remaining<=9223372036854775807
 name:b.name.length<=140737488351232
 region:b.region.length<=140737488351232
 note:b.note.length<=140737488351232
 d:uq b.d
 t:Rows b.t
structure bY where
 tag:Int
 use:Int
 from_:Int
 name:List UInt8
def bF (s:bY):GV:=.g [.i .u64 s.tag,.i .i64 s.use,.i .i64 s.from_,.s s.name]
@[simp] theorem auo (s:bY):(bF s).cells=[.i .u64 s.tag,.i .i64 s.use,.i .i64 s.from_,.s s.name]:=rfl
theorem acS (s:bY):GV.g [.i .u64 s.tag,.i .i64 s.use,.i .i64 s.from_,.s s.name]=bF s:=rfl
def sp1:List bY:=[⟨1,0,1,[109,105,110]⟩,⟨2,0,1,[109,97,120]⟩,⟨3,3,1,[110,97,109,101]⟩,⟨4,3,2,[114,101,103,105,111,110]⟩,⟨5,0,3,[102,108,97,103,115]⟩]
def sp2:List bY:=[⟨1,0,1,[99,104,111,115,101,110]⟩,⟨2,3,1,[110,97,109,101]⟩,⟨3,3,2,[114,101,103,105,111,110]⟩]
def xB:List bY:=[⟨1,0,1,[105,100]⟩,⟨2,4,1,[100,101,115,99,114]⟩,⟨3,0,1,[99,111,115,116]⟩,⟨4,0,2,[112,114,105,111,114,105,116,121]⟩,⟨5,0,3,[100,101,97,100,108,105,110,101]⟩]
def xC:List bY:=[⟨1,0,1,[105,100]⟩,⟨2,1,1,[97,108,108,111,119,101,100]⟩,⟨3,2,1,[114,101,109,97,105,110,105,110,103]⟩,⟨4,0,2,[114,101,116,114,121]⟩,⟨5,3,3,[110,111,116,101]⟩]
def xE:List bY:=[⟨1,0,1,[101,112,111,99,104]⟩,⟨2,5,1,[116,97,98,108,101]⟩,⟨3,3,2,[114,101,103,105,111,110]⟩,⟨4,0,3,[100,105,103,101,115,116]⟩]
def xF:List bY:=[⟨1,0,2,[98,97,115,101]⟩,⟨2,0,2,[101,112,111,99,104]⟩,⟨3,5,2,[116,97,98,108,101]⟩,⟨4,3,2,[114,101,103,105,111,110]⟩,⟨5,0,3,[100,105,103,101,115,116]⟩]
def xG:List bY:=[⟨1,0,1,[101,112,111,99,104]⟩,⟨2,0,3,[108,97,103]⟩]
def xH:List bY:=[⟨1,0,1,[101,112,111,99,104]⟩,⟨2,0,1,[99,111,100,101]⟩,⟨3,0,2,[119,97,110,116]⟩,⟨4,3,3,[110,111,116,101]⟩]
def jP (k:Int):List bY:=if k=1 then sp1 else if k=2 then sp2 else if k=3 then xB else if k=4 then xC else if k=5 then xE else if k=6 then xF else if k=7 then xG else if k=8 then xH else []
def nG (k:Int):Int:=if k=1 then 1 else if k=2 then 1 else if k=3 then 1 else if k=4 then 1 else if k=5 then 1 else if k=6 then 2 else if k=7 then 1 else if k=8 then 1 else 0
def bD (k v:Int):List bY:=(jP k).filter λs=>decide (s.from_<=v)
theorem aif:TT.lim 15 []=some [.l (sp1.map bF)]:=by refine aG rfl rfl ?_ rfl;simp [sp1,bF]
theorem aie:TT.lim 17 []=some [.l (sp2.map bF)]:=by refine aG rfl rfl ?_ rfl;simp [sp2,bF]
theorem aeC:TT.lim 18 []=some [.l (xB.map bF)]:=by refine aG rfl rfl ?_ rfl;simp [xB,bF]
theorem aeD:TT.lim 19 []=some [.l (xC.map bF)]:=by refine aG rfl rfl ?_ rfl;simp [xC,bF]
theorem ahk:TT.lim 20 []=some [.l (xE.map bF)]:=by refine aG rfl rfl ?_ rfl;simp [xE,bF]
theorem agn:TT.lim 21 []=some [.l (xF.map bF)]:=by refine aG rfl rfl ?_ rfl;simp [xF,bF]
theorem adV:TT.lim 22 []=some [.l (xG.map bF)]:=by refine aG rfl rfl ?_ rfl;simp [xG,bF]
theorem al0:TT.lim 23 []=some [.l (xH.map bF)]:=by refine aG rfl rfl ?_ rfl;simp [xH,bF]
theorem SL (k:Int):TT.lim 5 [.i .i64 k]=some [.i .i64 (nG k)]:=by
 refine aG rfl rfl ?_ rfl;unfold nG;by_cases h1:k=1
 ·simp [h1]
 by_cases h2:k=2
 ·simp [h2]
 by_cases h3:k=3
 ·simp [h3]
 by_cases h4:k=4
 ·simp [h4]
 by_cases h5:k=5
 ·simp [h5]
 by_cases h6:k=6
 ·simp [h6]
 by_cases h7:k=7
 ·simp [h7]
 by_cases h8:k=8
 ·simp [h8]
 simp [h1,h2,h3,h4,h5,h6,h7,h8]
theorem SQ (v:Int) (l:List bY) (hl:l.length<=8):∀ (m i:Nat) (acc:List bY),i+m=l.length->acc.length<=i->
 TT.lim 16 [.i .i64 v,.l (acc.map bF),.l (l.map bF),.i .i64 l.length,.i .i64 i]=some [.i .i64 0,.l ((acc++(l.drop i).filter λs=>decide (s.from_<=v)).map bF)]
 | 0,i,acc,hi,ha=>by
   have h0:l.drop i=[]:=dQ (by omega);refine ay rfl rfl ?_;have h:¬ ((i:Int) < l.length):=by omega
   simp [h,h0]
 | m+1,i,acc,hi,ha=>by
   have hlt:i < l.length:=by omega
   have hd:=eH hlt;refine ay rfl rfl ?_;have h:((i:Int) < l.length):=by omega
   have hw:=wrap64 (n:=(i:Int)+1) (by omega) (by omega);have hb1:2 * (acc.length+1) * 40<=281474976710656:=by omega
   have hb2:acc.length<=281474976710655:=by omega
   have hok:(bF l[i]).fF 4=true:=rfl;have hcast:((i:Int)+1)=((i+1:Nat):Int):=by omega
   by_cases hf:l[i].from_<=v
   ·have ih:=SQ v l hl m (i+1) (acc++[l[i]]) (by omega) (by simp;omega)
    rw [<- hcast,uy] at ih;simp only [jy,vF] at ih;simp [-List.getElem_cons_drop,h,hlt,hf,hw,acS,hb1,hb2,hok,ih,hd]
   ·have ih:=SQ v l hl m (i+1) acc (by omega) (by omega)
    rw [<- hcast] at ih;simp [-List.getElem_cons_drop,h,hlt,hf,hw,ih,hd]
theorem VG (k:Int):(jP k).length<=8:=by
 unfold jP;repeat' split
 all_goals (first | (unfold sp1;decide) | (unfold sp2;decide) | (unfold xB;decide) | (unfold xC;decide) | (unfold xE;decide) | (unfold xF;decide) | (unfold xG;decide) | (unfold xH;decide) | decide)
theorem Cj (v:Int) (l:List bY) (hl:l.length<=8):TT.lim 16 [.i .i64 v,.l [],.l (l.map bF),.i .i64 l.length,.i .i64 0]=some [.i .i64 0,.l ((l.filter λs=>decide (s.from_<=v)).map bF)]:=by
 have:=SQ v l hl l.length 0 [] (by omega) (by simp);simpa using this
theorem SS (k v:Int) (h1:1<=v) (h3:v<=3) (hk:nG k<=v):TT.lim 14 [.i .i64 k,.i .i64 v]=some [.l ((bD k v).map bF)]:=by
 have a1:¬ v < 1:=by omega
 have a3:¬ 3 < v:=by omega
 unfold bD jP;unfold nG at hk;have g1:=Cj v sp1 (by decide);have g2:=Cj v sp2 (by decide);have g3:=Cj v xB (by decide);have g4:=Cj v xC (by decide);have g5:=Cj v xE (by decide);have g6:=Cj v xF (by decide);have g7:=Cj v xG (by decide);have g8:=Cj v xH (by decide);have e1:=aif;have e2:=aie;have e3:=aeC;have e4:=aeD;have e5:=ahk;have e6:=agn;have e7:=adV;have e8:=al0;generalize sp1=p1 at *;generalize sp2=p2 at *;generalize xB=p3 at *;generalize xC=p4 at *;generalize xE=p5 at *;generalize xF=p6 at *;generalize xG=p7 at *;generalize xH=p8 at *;refine aG rfl rfl ?_ rfl;by_cases k1:k=1
 ·simp [k1,a1,a3,e1,g1]
 by_cases k2:k=2
 ·simp [k2,a1,a3,e2,g2]
 by_cases k3:k=3
 ·simp [k3,a1,a3,e3,g3]
 by_cases k4:k=4
 ·simp [k4,a1,a3,e4,g4]
 by_cases k5:k=5
 ·simp [k5,a1,a3,e5,g5]
 by_cases k6:k=6
 ·have a2:¬ v < 2:=by subst k6;simpa using hk
  simp [k6,a1,a2,a3,e6,g6]
 by_cases k7:k=7
 ·simp [k7,a1,a3,e7,g7]
 by_cases k8:k=8
 ·simp [k8,a1,a3,e8,g8]
 simp [k1,k2,k3,k4,k5,k6,k7,k8]
theorem acs (k:Int):TT.lim 109 [.i .i64 k]=some [.l ((jP k).map bF)]:=by
 unfold jP;refine aG rfl rfl ?_ rfl;by_cases k1:k=1
 ·simp [k1,sp1,bF]
 by_cases k2:k=2
 ·simp [k2,sp2,bF]
 by_cases k3:k=3
 ·simp [k3,xB,bF]
 by_cases k4:k=4
 ·simp [k4,xC,bF]
 by_cases k5:k=5
 ·simp [k5,xE,bF]
 by_cases k6:k=6
 ·simp [k6,xF,bF]
 by_cases k7:k=7
 ·simp [k7,xG,bF]
 by_cases k8:k=8
 ·simp [k8,xH,bF]
 simp [k1,k2,k3,k4,k5,k6,k7,k8]
theorem U3 (v:Int) (h3:v<=3) (l:List bY) (hl:l.length<=8):∀ (m i:Nat) (acc:List bY),i+m=l.length->acc.length<=i->
 TT.lim 110 [.i .i64 v,.l (acc.map bF),.l (l.map bF),.i .i64 l.length,.i .i64 i]=some [.i .i64 0,.l ((acc++(l.drop i).filter λs=>decide (s.from_<=v)).map bF)]
 | 0,i,acc,hi,ha=>by
   have h0:l.drop i=[]:=dQ (by omega);refine ay rfl rfl ?_;have h:¬ ((i:Int) < l.length):=by omega
   simp [h,h0]
 | m+1,i,acc,hi,ha=>by
   have hlt:i < l.length:=by omega
   have hd:=eH hlt;refine ay rfl rfl ?_;have h:((i:Int) < l.length):=by omega
   have hw:=wrap64 (n:=(i:Int)+1) (by omega) (by omega);have hb1:2 * (acc.length+1) * 40<=281474976710656:=by omega
   have hb2:acc.length<=281474976710655:=by omega
   have hok:(bF l[i]).fF 4=true:=rfl;have hcast:((i:Int)+1)=((i+1:Nat):Int):=by omega
   by_cases hf:l[i].from_<=v
   ·have ih:=U3 v h3 l hl m (i+1) (acc++[l[i]]) (by omega) (by simp;omega)
    rw [<- hcast,uy] at ih;simp only [jy,vF] at ih;simp [-List.getElem_cons_drop,h,hlt,h3,hf,hw,acS,hb1,hb2,hok,ih,hd]
   ·have ih:=U3 v h3 l hl m (i+1) acc (by omega) (by omega)
    rw [<- hcast] at ih;simp [-List.getElem_cons_drop,h,hlt,h3,hf,hw,ih,hd]
theorem ach (k v:Int) (h3:v<=3):TT.lim 108 [.i .i64 k,.i .i64 v]=some [.l ((bD k v).map bF)]:=by
 have h0:=acs k;have h1:=U3 v h3 (jP k) (VG k) (jP k).length 0 [] (by omega) (by simp);unfold bD;generalize jP k=l at *;have h1':TT.lim 110 [.i .i64 v,.l [],.l (l.map bF),.i .i64 l.length,.i .i64 0]=some [.i .i64 0,.l ((l.filter λs=>decide (s.from_<=v)).map bF)]:=by simpa using h1
 refine aG rfl rfl ?_ rfl;simp [h0,h1']
theorem ai8 (k v:Int) (h1:1<=v) (h3:v<=3):bD k v=[]↔nG k=0\/v < nG k:=by
 have hv:v=1\/v=2\/v=3:=by omega
 unfold bD jP nG;by_cases k1:k=1
 ·subst k1;rcases hv with rfl | rfl | rfl<;>decide
 by_cases k2:k=2
 ·subst k2;rcases hv with rfl | rfl | rfl<;>decide
 by_cases k3:k=3
 ·subst k3;rcases hv with rfl | rfl | rfl<;>decide
 by_cases k4:k=4
 ·subst k4;rcases hv with rfl | rfl | rfl<;>decide
 by_cases k5:k=5
 ·subst k5;rcases hv with rfl | rfl | rfl<;>decide
 by_cases k6:k=6
 ·subst k6;rcases hv with rfl | rfl | rfl<;>decide
 by_cases k7:k=7
 ·subst k7;rcases hv with rfl | rfl | rfl<;>decide
 by_cases k8:k=8
 ·subst k8;rcases hv with rfl | rfl | rfl<;>decide
 simp [k1,k2,k3,k4,k5,k6,k7,k8]
def aS.tag:aS->Int
 | .mk t _ _ _ _=>t
theorem Ag:∀ (a:List aS),aC a=a.map iR
 | []=>rfl
 | f::a=>by simp only [aC,jy,Ag a]
mutual
def vY:aS->Nat
 | .mk _ _ _ _ l=>gZ l+1
def gZ:List aS->Nat
 | []=>0
 | f::l=>vY f+gZ l+1
end
mutual
def uO:aS->Prop
 | .mk t y n s k=>(0<=t/\t < 18446744073709551616/\-128<=y/\y<=127/\0<=n/\n < 18446744073709551616/\s.length<=100000000/\k.length<=1000000)/\gU k
def gU:List aS->Prop
 | []=>True
 | f::r=>uO f/\gU r
end
theorem Cb:∀ {l:List aS},gU l->∀f∈l,uO f
 | f::l,h,g,hg=>by
   simp only [gU] at h;rcases dR.1 hg with rfl | hg
   ·exact h.1
   ·exact Cb h.2 g hg
theorem Ko:∀ {l:List aS} {f:aS},f∈l->vY f < gZ l
 | g::l,f,h=>by
   simp only [gZ];rcases dR.1 h with rfl | h
   ·omega
   ·have:=Ko h;omega
mutual
/-- What is wrong with fields within so many lists, behind a tag. -/
def I9 (w:Nat):aS->Int
 | .mk _ y n s k=>if y=0 then (if s=[]/\k=[] then 0 else 8) else if y=1 then (if n=0/\k=[] then 0 else 8) else if y=2 then (if n=0/\s=[] then (if 8<=w then 9 else jE (w+1) 0 k) else 8) else 8
def jE (w:Nat) (ahead:Int):List aS->Int
 | []=>0
 | f::r=>if f.tag=0 then 18 else if 4294967296 < f.tag then 18 else if f.tag<=ahead then 7 else if I9 w f≠0 then I9 w f else jE w f.tag r
end
@[simp] theorem Gf (t y n:Int) (s:List UInt8) (k:List aS):(iR (.mk t y n s k)).cells=[.i .u64 t,.i .i64 y,.i .u64 n,.s s,.l (aC k)]:=by simp only [iR];rfl
theorem Gg (k:List aS):(aC k).length=0↔k=[]:=by rw [oU,adJ]
theorem Zv:∀ (N:Nat) (l:List aS),gZ l < N->gU l->l.length<=1000000->∀w:Nat,w<=8->TT.lim 95 [.l (aC l),.i .i64 w]=some [.i .i64 (jE w 0 l)]
 | 0,l,h,_,_,_,_=>by omega
 | N+1,l,hN,hok,hlen,w,hw8=>by
   have loop:∀m i (ahead:Int),i+m=l.length->TT.lim 96 [.i .i64 w,.i .u64 ahead,.l (aC l),.i .i64 l.length,.i .i64 i]=some (if jE w ahead (l.drop i)=0 then [.i .i64 1] else [.i .i64 0,.i .i64 (jE w ahead (l.drop i))]):=by
    intro m;induction m with
    | zero=>
      intro i ahead hi;have h0:l.drop i=[]:=dQ (by omega);refine ay rfl rfl ?_;have h:¬ ((i:Int) < l.length):=by omega
      simp [h,h0,jE]
    | succ m ih=>
      intro i ahead hi;have hlt:i < l.length:=by omega
      rw [eH hlt];have hf:=Cb hok l[i] (iI hlt);have hs:=Ko (iI hlt);have hget:(aC l)[i]? = some (iR l[i]):=by rw [Ag,jw,dA hlt];rfl
      have hcast:((i:Int)+1)=((i+1:Nat):Int):=by omega
      have ih':=λa=>ih (i+1) a (by omega);simp only [<- hcast] at ih';generalize l[i]=f at *;obtain ⟨t,y,n,s,k⟩:=f;simp only [uO] at hf;simp only [vY] at hs;have hwr:=wrap64 (n:=(i:Int)+1) (by omega) (by omega);have wU:=wrap64 (n:=(w:Int)+1) (by omega) (by omega);refine ay rfl rfl ?_;have h:((i:Int) < l.length):=by omega
      have hk:=λh=>Zv N k (by omega) hf.2 hf.1.2.2.2.2.2.2.2 (w+1) h;simp only [Int.natCast_add,Int.natCast_one] at hk;have hkl:((aC k).length=0)=(k=[]):=propext (Gg k);simp only [jE,aS.tag];by_cases h1:t=0
      ·simp [h,hget,h1]
      by_cases h2:4294967296 < t
      ·simp [h,hget,h1,h2]
      by_cases h3:t<=ahead
      ·simp [h,hget,h1,h2,h3]
      simp only [I9];by_cases h4:y=0
      ·subst h4
       by_cases h5:s=[]
       ·by_cases h6:k=[]
        ·simp [h,hget,h1,h2,h3,h5,h6,hwr,ih',aC]
        ·simp [h,hget,h1,h2,h3,h5,h6,hwr,ih',hkl]
       ·simp [h,hget,h1,h2,h3,h5]
      by_cases h7:y=1
      ·subst h7
       by_cases h5:n=0
       ·by_cases h6:k=[]
        ·simp [h,hget,h1,h2,h3,h5,h6,hwr,ih',aC]
        ·simp [h,hget,h1,h2,h3,h5,h6,hwr,ih',hkl]
       ·simp [h,hget,h1,h2,h3,h5]
      by_cases h8:y=2
      ·subst h8
       by_cases h5:n=0
       ·by_cases h6:s=[]
        ·by_cases h9:8<=w
         ·have tK:(8:Int)<=w:=by omega
          simp [h,hget,h1,h2,h3,h5,h6,h9,tK]
         ·have tK:¬ (8:Int)<=w:=by omega
          have hk:=hk (by omega);by_cases h10:jE (w+1) 0 k=0
          ·rw [h10] at hk
           simp [h,hget,h1,h2,h3,h5,h6,h9,tK,wU,hk,h10,hwr,ih',aS.tag]
          ·simp [h,hget,h1,h2,h3,h5,h6,h9,tK,wU,hk,h10,hwr,ih',aS.tag]
        ·simp [h,hget,h1,h2,h3,h5,h6]
       ·simp [h,hget,h1,h2,h3,h5]
      simp [h,hget,h1,h2,h3,h4,h7,h8]
   have h0:=loop l.length 0 0 (by omega);rw [dF] at h0;refine aG rfl rfl ?_ rfl;have hl2:=oU l;by_cases hc:jE w 0 l=0
   ·rw [ak hc] at h0
    have h0':TT.lim 96 [.i .i64 w,.i .u64 0,.l (aC l),.i .i64 (aC l).length,.i .i64 0]=some [.i .i64 1]:=by rw [hl2];exact h0
    simp [h0',hc]
   ·rw [ah hc] at h0
    have h0':TT.lim 96 [.i .i64 w,.i .u64 0,.l (aC l),.i .i64 (aC l).length,.i .i64 0]=some [.i .i64 0,.i .i64 (jE w 0 l)]:=by rw [hl2];exact h0
    simp [h0',hc]
theorem ag2 (l:List aS) (hok:gU l) (hlen:l.length<=1000000):TT.lim 94 [.l (aC l)]=some [.i .i64 (jE 0 0 l)]:=by
 have h:=Zv (gZ l+1) l (by omega) hok hlen 0 (by omega);have h':TT.lim 95 [.l (aC l),.i .i64 0]=_:=h;refine aG rfl rfl ?_ rfl;simp [h']
theorem ace:∀ (N:Nat) (l:List aS),gZ l < N->gU l->l.length<=1000000->∀w:Nat,w<=8->TT.lim 163 [.l (aC l),.i .i64 w]=some [.i .i64 (jE w 0 l)]
 | 0,l,h,_,_,_,_=>by omega
 | N+1,l,hN,hok,hlen,w,hw8=>by
   have loop:∀m i (ahead:Int),i+m=l.length->(i=0->ahead=0)->(∀j,j+1=i->∀h:j < l.length,(l[j]).tag=ahead)->TT.lim 164 [.l (aC l),.i .i64 w,.i .i64 l.length,.i .i64 i]=some (if jE w ahead (l.drop i)=0 then [.i .i64 1] else [.i .i64 0,.i .i64 (jE w ahead (l.drop i))]):=by
    intro m;induction m with
    | zero=>
      intro i ahead hi _ _;have h0:l.drop i=[]:=dQ (by omega);refine ay rfl rfl ?_;have h:¬ ((i:Int) < l.length):=by omega
      simp [h,h0,jE]
    | succ m ih=>
      intro i ahead hi ha0 ha;have hlt:i < l.length:=by omega
      rw [eH hlt];have hf:=Cb hok l[i] (iI hlt);have hs:=Ko (iI hlt);have hget:(aC l)[i]? = some (iR l[i]):=by rw [Ag,jw,dA hlt];rfl
      have hcast:((i:Int)+1)=((i+1:Nat):Int):=by omega
      have ih':=ih (i+1) l[i].tag (by omega) (by omega) (λj hj h=>by have:j=i:=by omega
                                                                     subst this;rfl)
      simp only [<- hcast] at ih'
      -- the one ahead
      have aiy:∀hi0:¬ i=0,∃y' n' s' k',(aC l)[i - 1]? = some (iR (.mk ahead y' n' s' k')):=by
       intro hi0;rw [Ag,jw,dA (show i - 1 < l.length by omega)];have:=ha (i - 1) (by omega) (by omega);generalize l[i - 1]=g at *;obtain ⟨t',y',n',s',k'⟩:=g;simp only [aS.tag] at this;subst this;exact ⟨_,_,_,_,rfl⟩
      generalize l[i]=f at *;obtain ⟨t,y,n,s,k⟩:=f;simp only [uO] at hf;simp only [vY] at hs;dsimp only [aS.tag] at ih';have hwr:=wrap64 (n:=(i:Int)+1) (by omega) (by omega);have hwm:=wrap64 (n:=(i:Int) - 1) (by omega) (by omega);have wU:=wrap64 (n:=(w:Int)+1) (by omega) (by omega);refine ay rfl rfl ?_;have h:((i:Int) < l.length):=by omega
      have hk:=λh=>ace N k (by omega) hf.2 hf.1.2.2.2.2.2.2.2 (w+1) h;simp only [Int.natCast_add,Int.natCast_one] at hk;have hkl:((aC k).length=0)=(k=[]):=propext (Gg k);have hnil:TT.lim 163 [.l [],.i .i64 ((w:Int)+1)]=some [.i .i64 0]:=by
       refine aG rfl rfl ?_ rfl;have h0:TT.lim 164 [.l [],.i .i64 ((w:Int)+1),.i .i64 0,.i .i64 0]=some [.i .i64 1]:=by
        refine ay rfl rfl ?_;simp
       simp [h0]
      simp only [jE,aS.tag];by_cases h1:t=0
      ·simp [h,hget,h1]
      by_cases h2:4294967296 < t
      ·simp [h,hget,h1,h2]
      by_cases hi0:(0:Int) < i
      ·obtain ⟨y',n',s',k',hp⟩:=aiy (by omega)
       have hge:0 < i:=by omega
       have tV:(1:Int)<=i:=by omega
       by_cases h3:t<=ahead
       ·simp [h,hget,h1,h2,hi0,hge,tV,hwm,hp,h3]
       simp only [I9];by_cases h4:y=0
       ·subst h4
        by_cases h5:s=[]
        ·by_cases h6:k=[]
         ·simp [h,hget,h1,h2,hi0,hge,tV,hwm,hp,h3,h5,h6,hwr,wU,ih',hnil,if_true,if_false,aC,aS.tag]<;>rfl
         ·have h6':¬ (aC k).length=0:=by rw [Gg];exact h6
          have DZ:¬ aC k=[]:=λe=>h6' (by rw [e];rfl);simp [h,hget,h1,h2,hi0,hge,tV,hwm,hp,h3,h5,h6,DZ]
        ·simp [h,hget,h1,h2,hi0,hge,tV,hwm,hp,h3,h5]
       by_cases h7:y=1
       ·subst h7
        by_cases h5:n=0
        ·by_cases h6:k=[]
         ·simp [h,hget,h1,h2,hi0,hge,tV,hwm,hp,h3,h5,h6,hwr,wU,ih',hnil,if_true,if_false,aC,aS.tag]<;>rfl
         ·have h6':¬ (aC k).length=0:=by rw [Gg];exact h6
          have DZ:¬ aC k=[]:=λe=>h6' (by rw [e];rfl);simp [h,hget,h1,h2,hi0,hge,tV,hwm,hp,h3,h5,h6,DZ]
        ·simp [h,hget,h1,h2,hi0,hge,tV,hwm,hp,h3,h5]
       by_cases h8:y=2
       ·subst h8
        by_cases h5:n=0
        ·by_cases h6:s=[]
         ·by_cases h9:8<=w
          ·have tK:(w:Int)=8:=by omega
           simp [h,hget,h1,h2,hi0,hge,tV,hwm,hp,h3,h5,h6,h9,tK]
          ·have tK:¬ (w:Int)=8:=by omega
           have hk:=hk (by omega);by_cases h10:jE (w+1) 0 k=0
           ·rw [h10] at hk
            simp [h,hget,h1,h2,hi0,hge,tV,hwm,hp,h3,h5,h6,h9,tK,wU,hk,h10,hwr,ih',aS.tag]<;>rfl
           ·simp [h,hget,h1,h2,hi0,hge,tV,hwm,hp,h3,h5,h6,h9,tK,wU,hk,h10,hwr,ih',aS.tag]<;>rfl
         ·simp [h,hget,h1,h2,hi0,hge,tV,hwm,hp,h3,h5,h6]
        ·simp [h,hget,h1,h2,hi0,hge,tV,hwm,hp,h3,h5]
       by_cases h9:y < 0
       ·simp [h,hget,h1,h2,hi0,hge,tV,hwm,hp,h3,h4,h7,h8,h9]
       ·have h10:2 < y:=by omega
        simp [h,hget,h1,h2,hi0,hge,tV,hwm,hp,h3,h4,h7,h8,h9,h10]
      ·have hz:(0 < i)=False:=eq_false (by omega)
       have h3:¬ t<=ahead:=by
        rw [ha0 (by omega)];omega
       simp only [I9];by_cases h4:y=0
       ·subst h4
        by_cases h5:s=[]
        ·by_cases h6:k=[]
         ·simp [h,hget,h1,h2,hz,h3,h5,h6,hwr,wU,ih',hnil,if_true,if_false,aC,aS.tag]<;>rfl
         ·have h6':¬ (aC k).length=0:=by rw [Gg];exact h6
          have DZ:¬ aC k=[]:=λe=>h6' (by rw [e];rfl);simp [h,hget,h1,h2,hz,h3,h5,h6,DZ]
        ·simp [h,hget,h1,h2,hz,h3,h5]
       by_cases h7:y=1
       ·subst h7
        by_cases h5:n=0
        ·by_cases h6:k=[]
         ·simp [h,hget,h1,h2,hz,h3,h5,h6,hwr,wU,ih',hnil,if_true,if_false,aC,aS.tag]<;>rfl
         ·have h6':¬ (aC k).length=0:=by rw [Gg];exact h6
          have DZ:¬ aC k=[]:=λe=>h6' (by rw [e];rfl);simp [h,hget,h1,h2,hz,h3,h5,h6,DZ]
        ·simp [h,hget,h1,h2,hz,h3,h5]
       by_cases h8:y=2
       ·subst h8
        by_cases h5:n=0
        ·by_cases h6:s=[]
         ·by_cases h9:8<=w
          ·have tK:(w:Int)=8:=by omega
           simp [h,hget,h1,h2,hz,h3,h5,h6,h9,tK]
          ·have tK:¬ (w:Int)=8:=by omega
           have hk:=hk (by omega);by_cases h10:jE (w+1) 0 k=0
           ·rw [h10] at hk
            simp [h,hget,h1,h2,hz,h3,h5,h6,h9,tK,wU,hk,h10,hwr,ih',aS.tag]<;>rfl
           ·simp [h,hget,h1,h2,hz,h3,h5,h6,h9,tK,wU,hk,h10,hwr,ih',aS.tag]<;>rfl
         ·simp [h,hget,h1,h2,hz,h3,h5,h6]
        ·simp [h,hget,h1,h2,hz,h3,h5]
       by_cases h9:y < 0
       ·simp [h,hget,h1,h2,hz,h3,h4,h7,h8,h9]
       ·have h10:2 < y:=by omega
        simp [h,hget,h1,h2,hz,h3,h4,h7,h8,h9,h10]
   have h0:=loop l.length 0 0 (by omega) (λ_=>rfl) (λj hj=>by omega);rw [dF] at h0;refine aG rfl rfl ?_ rfl;have hl2:=oU l;by_cases hc:jE w 0 l=0
   ·rw [ak hc] at h0
    have h0':TT.lim 164 [.l (aC l),.i .i64 w,.i .i64 (aC l).length,.i .i64 0]=some [.i .i64 1]:=by rw [hl2];exact h0
    simp [h0',hc]
   ·rw [ah hc] at h0
    have h0':TT.lim 164 [.l (aC l),.i .i64 w,.i .i64 (aC l).length,.i .i64 0]=some [.i .i64 0,.i .i64 (jE w 0 l)]:=by rw [hl2];exact h0
    simp [h0',hc]
inductive Pl where
 | rem | allow | name | region | note | d | t
 | num (k:Nat)
def lI:List UInt8:=[114,101,109,97,105,110,105,110,103]
def lH:List UInt8:=[97,108,108,111,119,101,100]
def jK:List UInt8:=[110,97,109,101]
def jM:List UInt8:=[114,101,103,105,111,110]
def jL:List UInt8:=[110,111,116,101]
def jJ:List UInt8:=[100,101,115,99,114]
def jO:List UInt8:=[116,97,98,108,101]
def kK:List UInt8:=[105,100]
def kN:List UInt8:=[109,105,110]
def kM:List UInt8:=[109,97,120]
def kC:List UInt8:=[99,104,111,115,101,110]
def kJ:List UInt8:=[102,108,97,103,115]
def kE:List UInt8:=[99,111,115,116]
def kP:List UInt8:=[112,114,105,111,114,105,116,121]
def kF:List UInt8:=[100,101,97,100,108,105,110,101]
def kQ:List UInt8:=[114,101,116,114,121]
def kH:List UInt8:=[101,112,111,99,104]
def ku:List UInt8:=[98,97,115,101]
def kG:List UInt8:=[100,105,103,101,115,116]
def kL:List UInt8:=[108,97,103]
def kD:List UInt8:=[99,111,100,101]
def kR:List UInt8:=[119,97,110,116]
def placeOf (n:List UInt8):Option Pl:=
 if n=lI then some .rem else if n=lH then some .allow else if n=jK then some .name else if n=jM then some .region else if n=jL then some .note else if n=jJ then some .d else if n=jO then some .t else if n=kK then some (.num 0) else if n=kN then some (.num 1) else if n=kM then some (.num 2) else if n=kC then some (.num 3) else if n=kJ then some (.num 4) else if n=kE then some (.num 5) else if n=kP then some (.num 6) else if n=kF then some (.num 7) else if n=kQ then some (.num 8) else if n=kH then some (.num 9) else if n=ku then some (.num 10) else if n=kG then some (.num 11) else if n=kL then some (.num 12) else if n=kD then some (.num 13) else if n=kR then some (.num 14) else none
theorem zl:placeOf lI=some .rem:=rfl
theorem yR:placeOf lH=some .allow:=rfl
theorem xk:placeOf jK=some .name:=rfl
theorem xu:placeOf jM=some .region:=rfl
theorem xq:placeOf jL=some .note:=rfl
theorem yY:placeOf jJ=some .d:=rfl
theorem zq:placeOf jO=some .t:=rfl
theorem y9:placeOf kK=some (.num 0):=rfl
theorem zi:placeOf kN=some (.num 1):=rfl
theorem zh:placeOf kM=some (.num 2):=rfl
theorem yT:placeOf kC=some (.num 3):=rfl
theorem y8:placeOf kJ=some (.num 4):=rfl
theorem yV:placeOf kE=some (.num 5):=rfl
theorem zk:placeOf kP=some (.num 6):=rfl
theorem yX:placeOf kF=some (.num 7):=rfl
theorem zo:placeOf kQ=some (.num 8):=rfl
theorem y7:placeOf kH=some (.num 9):=rfl
theorem yS:placeOf ku=some (.num 10):=rfl
theorem yZ:placeOf kG=some (.num 11):=rfl
theorem zf:placeOf kL=some (.num 12):=rfl
theorem yU:placeOf kD=some (.num 13):=rfl
theorem zu:placeOf kR=some (.num 14):=rfl
def bW (b:aB) (k:Nat):Int:=match k with
 | 0=>b.id
 | 1=>b.min
 | 2=>b.max
 | 3=>b.chosen
 | 4=>b.flags
 | 5=>b.cost
 | 6=>b.priority
 | 7=>b.deadline
 | 8=>b.retry
 | 9=>b.epoch
 | 10=>b.base
 | 11=>b.digest
 | 12=>b.lag
 | 13=>b.code
 | _=>b.want
def eF (b:aB):Pl->Bool
 | .rem=>decide (b.remaining=0)
 | .allow=>!b.allowed
 | .name=>decide (b.name=[])
 | .region=>decide (b.region=[])
 | .note=>decide (b.note=[])
 | .d=>decide (b.d=[])
 | .t=>decide (b.t=[])
 | .num k=>decide (bW b k=0)
def fU (b:aB) (n:List UInt8):Bool:=match placeOf n with
 | some p=>eF b p
 | none=>true
def TF (b:aB):Pl->Int
 | .name=>fC b.name 0 256
 | .region=>fC b.region 0 256
 | .note=>fC b.note 0 256
 | .d=>if b.d=[] then 0 else pW b.d
 | .t=>pV b.t
 | _=>0
def lG (b:aB) (n:List UInt8):Int:=match placeOf n with
 | some p=>TF b p
 | none=>0
def zz (x:Int):Int:=if 0<=x then 2 * x else -2 * x - 1
def iD (b:aB):Pl->Int×List UInt8
 | .rem=>(zz b.remaining,[])
 | .allow=>(if b.allowed=true then 1 else 0,[])
 | .name=>(0,b.name)
 | .region=>(0,b.region)
 | .note=>(0,b.note)
 | .d=>(0,if b.d=[] then [] else jG b.d)
 | .t=>(0,if b.t=[] then [] else (ald b.t).1)
 | .num k=>(bW b k,[])
def bH:Pl->Int
 | .num _=>0
 | .rem=>0
 | .allow=>0
 | _=>1
def gu:Pl->Int
 | .num _=>0
 | .allow=>1
 | .rem=>2
 | .d=>4
 | .t=>5
 | _=>3
/-- A cascade over all names. -/
theorem DF {Q:List UInt8->Prop} (ah0:Q lI) (ahJ:Q lH) (ahW:Q jK) (ahZ:Q jM) (ahX:Q jL) (ahO:Q jJ) (ah2:Q jO) (ahS:Q kK) (ahV:Q kN) (ahU:Q kM) (ahK:Q kC) (ahR:Q kJ) (ahM:Q kE) (ahY:Q kP) (ahN:Q kF) (ah1:Q kQ) (ahQ:Q kH) (h_base:Q ku) (ahP:Q kG) (ahT:Q kL) (ahL:Q kD) (ah3:Q kR) (h0:∀n,¬ n=lI->¬ n=lH->¬ n=jK->¬ n=jM->¬ n=jL->¬ n=jJ->¬ n=jO->¬ n=kK->¬ n=kN->¬ n=kM->¬ n=kC->¬ n=kJ->¬ n=kE->¬ n=kP->¬ n=kF->¬ n=kQ->¬ n=kH->¬ n=ku->¬ n=kG->¬ n=kL->¬ n=kD->¬ n=kR->Q n) (n:List UInt8):Q n:=by
 by_cases Y7:n=lI
 ·rw [Y7];exact ah0
 by_cases YO:n=lH
 ·rw [YO];exact ahJ
 by_cases Y3:n=jK
 ·rw [Y3];exact ahW
 by_cases Y6:n=jM
 ·rw [Y6];exact ahZ
 by_cases Y4:n=jL
 ·rw [Y4];exact ahX
 by_cases YU:n=jJ
 ·rw [YU];exact ahO
 by_cases Y9:n=jO
 ·rw [Y9];exact ah2
 by_cases YZ:n=kK
 ·rw [YZ];exact ahS
 by_cases Y2:n=kN
 ·rw [Y2];exact ahV
 by_cases Y1:n=kM
 ·rw [Y1];exact ahU
 by_cases YQ:n=kC
 ·rw [YQ];exact ahK
 by_cases YX:n=kJ
 ·rw [YX];exact ahR
 by_cases YS:n=kE
 ·rw [YS];exact ahM
 by_cases Y5:n=kP
 ·rw [Y5];exact ahY
 by_cases YT:n=kF
 ·rw [YT];exact ahN
 by_cases Y8:n=kQ
 ·rw [Y8];exact ah1
 by_cases YW:n=kH
 ·rw [YW];exact ahQ
 by_cases YP:n=ku
 ·rw [YP];exact h_base
 by_cases YV:n=kG
 ·rw [YV];exact ahP
 by_cases Y0:n=kL
 ·rw [Y0];exact ahT
 by_cases YR:n=kD
 ·rw [YR];exact ahL
 by_cases Za:n=kR
 ·rw [Za];exact ah3
 exact h0 n Y7 YO Y3 Y6 Y4 YU Y9 YZ Y2 Y1 YQ YX YS Y5 YT Y8 YW YP YV Y0 YR Za
theorem CQ (n:List UInt8) (e0:¬ n=lI) (e1:¬ n=lH) (e2:¬ n=jK) (e3:¬ n=jM) (e4:¬ n=jL) (e5:¬ n=jJ) (e6:¬ n=jO) (e7:¬ n=kK) (e8:¬ n=kN) (e9:¬ n=kM) (e10:¬ n=kC) (e11:¬ n=kJ) (e12:¬ n=kE) (e13:¬ n=kP) (e14:¬ n=kF) (e15:¬ n=kQ) (e16:¬ n=kH) (e17:¬ n=ku) (e18:¬ n=kG) (e19:¬ n=kL) (e20:¬ n=kD) (e21:¬ n=kR):placeOf n=none:=by
 unfold placeOf;rw [ah e0,ah e1,ah e2,ah e3,ah e4,ah e5,ah e6,ah e7,ah e8,ah e9,ah e10,ah e11,ah e12,ah e13,ah e14,ah e15,ah e16,ah e17,ah e18,ah e19,ah e20,ah e21]
def rM (ps:List (List UInt8)):List GV:=ps.map λp=>.g [.s p,.b true]
def yI (ps:List (List UInt8)) (x:List UInt8):List (List UInt8):=if x∈ps then ps else ps++[x]
theorem Qx (n:List UInt8):∀ps:List (List UInt8),gG (.s n) (rM ps)=if n∈ps then some (.b true) else none
 | []=>rfl
 | p::ps=>by
   have ih:=Qx n ps;simp only [rM,jy,gG,nK] at ih ⊢;by_cases e:n=p
   ·subst e;simp
   ·have e2:¬ p=n:=λh=>e h.symm
    simp [e,ih]
theorem abP (x:List UInt8):∀ps:List (List UInt8),kS (.s x) (.b true) (rM ps)=rM (yI ps x)
 | []=>rfl
 | p::ps=>by
   have ih:=abP x ps;unfold yI at ih ⊢;simp only [rM,jy,kS,nK] at ih ⊢;by_cases e:x=p
   ·subst e;simp
   ·have e1:(x==p)=false:=by simpa using e
    simp only [e1,eG,if_false];rw [ih];by_cases hm:x∈ps
    ·simp only [hm,if_true,dR,or_true,jy]
    ·simp only [hm,if_false,dR,e,or_false,jv,jy]
def wV (ps:List (List UInt8)) (l:List bY):List (List UInt8):=l.foldl (λps s=>yI ps s.name) ps
theorem aj3 (n x:List UInt8) (ps:List (List UInt8)):n∈yI ps x↔n∈ps\/x=n:=by
 unfold yI;split
 ·next h=>exact ⟨.inl,λe=>e.elim id (λe=>e ▸ h)⟩
 ·simp [eq_comm]
theorem abd (n:List UInt8):∀ (l:List bY) (ps:List (List UInt8)),n∈wV ps l↔n∈ps\/∃s∈l,s.name=n
 | [],ps=>by simp [wV]
 | s::l,ps=>by
   have:=abd n l (yI ps s.name);unfold wV at this ⊢;rw [List.foldl_cons,this,aj3];simp [or_assoc]
def qR (l:List bY) (n:List UInt8):Bool:=l.any λs=>decide (s.name=n)
theorem aj2 (n:List UInt8) (l:List bY):decide (n∈wV [] l)=qR l n:=by
 rw [vg,decide_eq_true_iff,abd];simp [qR]
theorem aa5 (b:aB) (r:List GV) (l:List bY) (hl:l.length<=1000):∀ (m i:Nat) (ps:List (List UInt8)),i+m=l.length->
 TT.lim 55 [.l (l.map bF),.i .i64 l.length,.i .i64 i,.l (rM ps),.i .i64 b.kind,.i .u64 b.id,.i .u64 b.min,.i .u64 b.max,.i .u64 b.chosen,.i .u64 b.flags,.i .u64 b.cost,.i .u64 b.priority,.i .u64 b.deadline,.i .u64 b.retry,.i .u64 b.epoch,.i .u64 b.base,.i .u64 b.digest,.i .u64 b.lag,.i .u64 b.code,.i .u64 b.want,.i .i64 b.remaining,.b b.allowed,.s b.name,.s b.region,.s b.note,.l (b.d.map ent),.l (b.t.map row),.l r]=some [.i .i64 0,.l (rM (wV ps (l.drop i)))]
 | 0,i,ps,hi=>by
   have h0:l.drop i=[]:=dQ (by omega);refine ay rfl rfl ?_;have h:¬ ((i:Int) < l.length):=by omega
   simp [h,h0,wV]
 | m+1,i,ps,hi=>by
   have hlt:i < l.length:=by omega
   have ih:=aa5 b r l hl m (i+1) (yI ps l[i].name) (by omega);have hcast:((i:Int)+1)=((i+1:Nat):Int):=by omega
   rw [<- hcast] at ih;have hp:=abP l[i].name ps;have hd:wV ps (l.drop i)=wV (yI ps l[i].name) (l.drop (i+1)):=by
    rw [eH hlt];rfl
   rw [hd];generalize wV (yI ps l[i].name) (l.drop (i+1))=X at *;generalize rM (yI ps l[i].name)=Y at *;refine ay rfl rfl ?_;have h:((i:Int) < l.length):=by omega
   have hw:=wrap64 (n:=(i:Int)+1) (by omega) (by omega);simp [h,hlt,hw,hp,ih]
/-- One round of the second loop. -/
def lS (b:aB) (r:List GV) (n:List UInt8) (c:Prop):Prop:=∀ (sp:GV) (ns:List (List UInt8)) (i:Nat) (ps:List (List UInt8)) (out:List GV) (h:i < ns.length),((i:Int) < ns.length)->IntKind.i64.wrap ((i:Int)+1)=(i:Int)+1->ns[i]=n->gG (.s n) (rM ps)=none->
    TT.lim 57 [sp,.l (ns.map .s),.i .i64 ns.length,.i .i64 ((i:Int)+1),.l (rM ps),.i .i64 b.kind,.i .u64 b.id,.i .u64 b.min,.i .u64 b.max,.i .u64 b.chosen,.i .u64 b.flags,.i .u64 b.cost,.i .u64 b.priority,.i .u64 b.deadline,.i .u64 b.retry,.i .u64 b.epoch,.i .u64 b.base,.i .u64 b.digest,.i .u64 b.lag,.i .u64 b.code,.i .u64 b.want,.i .i64 b.remaining,.b b.allowed,.s b.name,.s b.region,.s b.note,.l (b.d.map ent),.l (b.t.map row),.l r]=some out->
    (c->TT.lim 57 [sp,.l (ns.map .s),.i .i64 ns.length,.i .i64 i,.l (rM ps),.i .i64 b.kind,.i .u64 b.id,.i .u64 b.min,.i .u64 b.max,.i .u64 b.chosen,.i .u64 b.flags,.i .u64 b.cost,.i .u64 b.priority,.i .u64 b.deadline,.i .u64 b.retry,.i .u64 b.epoch,.i .u64 b.base,.i .u64 b.digest,.i .u64 b.lag,.i .u64 b.code,.i .u64 b.want,.i .i64 b.remaining,.b b.allowed,.s b.name,.s b.region,.s b.note,.l (b.d.map ent),.l (b.t.map row),.l r]=some out)/\(¬ c->TT.lim 57 [sp,.l (ns.map .s),.i .i64 ns.length,.i .i64 i,.l (rM ps),.i .i64 b.kind,.i .u64 b.id,.i .u64 b.min,.i .u64 b.max,.i .u64 b.chosen,.i .u64 b.flags,.i .u64 b.cost,.i .u64 b.priority,.i .u64 b.deadline,.i .u64 b.retry,.i .u64 b.epoch,.i .u64 b.base,.i .u64 b.digest,.i .u64 b.lag,.i .u64 b.code,.i .u64 b.want,.i .i64 b.remaining,.b b.allowed,.s b.name,.s b.region,.s b.note,.l (b.d.map ent),.l (b.t.map row),.l r]=some [.i .i64 0])
theorem apA (b:aB) (r:List GV):lS b r lI (b.remaining=0):=by
 intro sp ns i ps out h h1 hw hn ha ih;unfold lI at *;refine ⟨λhc=>ay rfl rfl ?_,λhc=>ay rfl rfl ?_⟩
 ·have hc:=eq_true hc
  simp [h1,h,hn,hw,ha,hc,ih]
 ·simp [h1,h,hn,ha,hc]
theorem apg (b:aB) (r:List GV):lS b r lH (b.allowed=false):=by
 intro sp ns i ps out h h1 hw hn ha ih;unfold lH at *;refine ⟨λhc=>ay rfl rfl ?_,λhc=>ay rfl rfl ?_⟩
 ·rw [hc] at ih
  simp [h1,h,hn,hw,ha,hc,ih]
 ·simp [h1,h,hn,ha,hc]
theorem apw (b:aB) (r:List GV):lS b r jK (b.name=[]):=by
 intro sp ns i ps out h h1 hw hn ha ih;unfold jK at *;refine ⟨λhc=>ay rfl rfl ?_,λhc=>ay rfl rfl ?_⟩
 ·have hc:=eq_true hc
  simp [h1,h,hn,hw,ha,hc,ih]
 ·simp [h1,h,hn,ha,hc]
theorem apz (b:aB) (r:List GV):lS b r jM (b.region=[]):=by
 intro sp ns i ps out h h1 hw hn ha ih;unfold jM at *;refine ⟨λhc=>ay rfl rfl ?_,λhc=>ay rfl rfl ?_⟩
 ·have hc:=eq_true hc
  simp [h1,h,hn,hw,ha,hc,ih]
 ·simp [h1,h,hn,ha,hc]
theorem apx (b:aB) (r:List GV):lS b r jL (b.note=[]):=by
 intro sp ns i ps out h h1 hw hn ha ih;unfold jL at *;refine ⟨λhc=>ay rfl rfl ?_,λhc=>ay rfl rfl ?_⟩
 ·have hc:=eq_true hc
  simp [h1,h,hn,hw,ha,hc,ih]
 ·simp [h1,h,hn,ha,hc]
theorem apn (b:aB) (r:List GV):lS b r jJ (b.d=[]):=by
 intro sp ns i ps out h h1 hw hn ha ih;unfold jJ at *;refine ⟨λhc=>ay rfl rfl ?_,λhc=>ay rfl rfl ?_⟩
 ·have hc:=eq_true hc
  simp [h1,h,hn,hw,ha,hc,ih]
 ·simp [h1,h,hn,ha,hc]
theorem apC (b:aB) (r:List GV):lS b r jO (b.t=[]):=by
 intro sp ns i ps out h h1 hw hn ha ih;unfold jO at *;refine ⟨λhc=>ay rfl rfl ?_,λhc=>ay rfl rfl ?_⟩
 ·have hc:=eq_true hc
  simp [h1,h,hn,hw,ha,hc,ih]
 ·simp [h1,h,hn,ha,hc]
theorem aps (b:aB) (r:List GV):lS b r kK (b.id=0):=by
 intro sp ns i ps out h h1 hw hn ha ih;unfold kK at *;refine ⟨λhc=>ay rfl rfl ?_,λhc=>ay rfl rfl ?_⟩
 ·have hc:=eq_true hc
  simp [h1,h,hn,hw,ha,hc,ih]
 ·simp [h1,h,hn,ha,hc]
theorem apv (b:aB) (r:List GV):lS b r kN (b.min=0):=by
 intro sp ns i ps out h h1 hw hn ha ih;unfold kN at *;refine ⟨λhc=>ay rfl rfl ?_,λhc=>ay rfl rfl ?_⟩
 ·have hc:=eq_true hc
  simp [h1,h,hn,hw,ha,hc,ih]
 ·simp [h1,h,hn,ha,hc]
theorem apu (b:aB) (r:List GV):lS b r kM (b.max=0):=by
 intro sp ns i ps out h h1 hw hn ha ih;unfold kM at *;refine ⟨λhc=>ay rfl rfl ?_,λhc=>ay rfl rfl ?_⟩
 ·have hc:=eq_true hc
  simp [h1,h,hn,hw,ha,hc,ih]
 ·simp [h1,h,hn,ha,hc]
theorem apj (b:aB) (r:List GV):lS b r kC (b.chosen=0):=by
 intro sp ns i ps out h h1 hw hn ha ih;unfold kC at *;refine ⟨λhc=>ay rfl rfl ?_,λhc=>ay rfl rfl ?_⟩
 ·have hc:=eq_true hc
  simp [h1,h,hn,hw,ha,hc,ih]
 ·simp [h1,h,hn,ha,hc]
theorem apr (b:aB) (r:List GV):lS b r kJ (b.flags=0):=by
 intro sp ns i ps out h h1 hw hn ha ih;unfold kJ at *;refine ⟨λhc=>ay rfl rfl ?_,λhc=>ay rfl rfl ?_⟩
 ·have hc:=eq_true hc
  simp [h1,h,hn,hw,ha,hc,ih]
 ·simp [h1,h,hn,ha,hc]
theorem apl (b:aB) (r:List GV):lS b r kE (b.cost=0):=by
 intro sp ns i ps out h h1 hw hn ha ih;unfold kE at *;refine ⟨λhc=>ay rfl rfl ?_,λhc=>ay rfl rfl ?_⟩
 ·have hc:=eq_true hc
  simp [h1,h,hn,hw,ha,hc,ih]
 ·simp [h1,h,hn,ha,hc]
theorem apy (b:aB) (r:List GV):lS b r kP (b.priority=0):=by
 intro sp ns i ps out h h1 hw hn ha ih;unfold kP at *;refine ⟨λhc=>ay rfl rfl ?_,λhc=>ay rfl rfl ?_⟩
 ·have hc:=eq_true hc
  simp [h1,h,hn,hw,ha,hc,ih]
 ·simp [h1,h,hn,ha,hc]
theorem apm (b:aB) (r:List GV):lS b r kF (b.deadline=0):=by
 intro sp ns i ps out h h1 hw hn ha ih;unfold kF at *;refine ⟨λhc=>ay rfl rfl ?_,λhc=>ay rfl rfl ?_⟩
 ·have hc:=eq_true hc
  simp [h1,h,hn,hw,ha,hc,ih]
 ·simp [h1,h,hn,ha,hc]
theorem apB (b:aB) (r:List GV):lS b r kQ (b.retry=0):=by
 intro sp ns i ps out h h1 hw hn ha ih;unfold kQ at *;refine ⟨λhc=>ay rfl rfl ?_,λhc=>ay rfl rfl ?_⟩
 ·have hc:=eq_true hc
  simp [h1,h,hn,hw,ha,hc,ih]
 ·simp [h1,h,hn,ha,hc]
theorem apq (b:aB) (r:List GV):lS b r kH (b.epoch=0):=by
 intro sp ns i ps out h h1 hw hn ha ih;unfold kH at *;refine ⟨λhc=>ay rfl rfl ?_,λhc=>ay rfl rfl ?_⟩
 ·have hc:=eq_true hc
  simp [h1,h,hn,hw,ha,hc,ih]
 ·simp [h1,h,hn,ha,hc]
theorem aph (b:aB) (r:List GV):lS b r ku (b.base=0):=by
 intro sp ns i ps out h h1 hw hn ha ih;unfold ku at *;refine ⟨λhc=>ay rfl rfl ?_,λhc=>ay rfl rfl ?_⟩
 ·have hc:=eq_true hc
  simp [h1,h,hn,hw,ha,hc,ih]
 ·simp [h1,h,hn,ha,hc]
theorem apo (b:aB) (r:List GV):lS b r kG (b.digest=0):=by
 intro sp ns i ps out h h1 hw hn ha ih;unfold kG at *;refine ⟨λhc=>ay rfl rfl ?_,λhc=>ay rfl rfl ?_⟩
 ·have hc:=eq_true hc
  simp [h1,h,hn,hw,ha,hc,ih]
 ·simp [h1,h,hn,ha,hc]
theorem apt (b:aB) (r:List GV):lS b r kL (b.lag=0):=by
 intro sp ns i ps out h h1 hw hn ha ih;unfold kL at *;refine ⟨λhc=>ay rfl rfl ?_,λhc=>ay rfl rfl ?_⟩
 ·have hc:=eq_true hc
  simp [h1,h,hn,hw,ha,hc,ih]
 ·simp [h1,h,hn,ha,hc]
theorem apk (b:aB) (r:List GV):lS b r kD (b.code=0):=by
 intro sp ns i ps out h h1 hw hn ha ih;unfold kD at *;refine ⟨λhc=>ay rfl rfl ?_,λhc=>ay rfl rfl ?_⟩
 ·have hc:=eq_true hc
  simp [h1,h,hn,hw,ha,hc,ih]
 ·simp [h1,h,hn,ha,hc]
theorem apD (b:aB) (r:List GV):lS b r kR (b.want=0):=by
 intro sp ns i ps out h h1 hw hn ha ih;unfold kR at *;refine ⟨λhc=>ay rfl rfl ?_,λhc=>ay rfl rfl ?_⟩
 ·have hc:=eq_true hc
  simp [h1,h,hn,hw,ha,hc,ih]
 ·simp [h1,h,hn,ha,hc]
theorem aj9:TT.lim 56 []=some [.l (eX.map .s)]:=OB (Ds:=Ds) (k:=56) (f:=Oc) rfl rfl
theorem ny (b:aB) {n:List UInt8} {p:Pl} (h:placeOf n=some p):fU b n=eF b p:=by unfold fU;rw [h]
def lu (b:aB) (r:List GV) (n:List UInt8):Prop:=∃c:Prop,(fU b n=true↔c)/\lS b r n c
theorem ao6 (b:aB) (r:List GV):lu b r lI:=⟨_,by rw [ny b zl];simp [eF,bW],apA b r⟩
theorem aoO (b:aB) (r:List GV):lu b r lH:=⟨_,by rw [ny b yR];simp [eF,bW],apg b r⟩
theorem ao2 (b:aB) (r:List GV):lu b r jK:=⟨_,by rw [ny b xk];simp [eF,bW],apw b r⟩
theorem ao5 (b:aB) (r:List GV):lu b r jM:=⟨_,by rw [ny b xu];simp [eF,bW],apz b r⟩
theorem ao3 (b:aB) (r:List GV):lu b r jL:=⟨_,by rw [ny b xq];simp [eF,bW],apx b r⟩
theorem aoU (b:aB) (r:List GV):lu b r jJ:=⟨_,by rw [ny b yY];simp [eF,bW],apn b r⟩
theorem ao8 (b:aB) (r:List GV):lu b r jO:=⟨_,by rw [ny b zq];simp [eF,bW],apC b r⟩
theorem aoY (b:aB) (r:List GV):lu b r kK:=⟨_,by rw [ny b y9];simp [eF,bW],aps b r⟩
theorem ao1 (b:aB) (r:List GV):lu b r kN:=⟨_,by rw [ny b zi];simp [eF,bW],apv b r⟩
theorem ao0 (b:aB) (r:List GV):lu b r kM:=⟨_,by rw [ny b zh];simp [eF,bW],apu b r⟩
theorem aoQ (b:aB) (r:List GV):lu b r kC:=⟨_,by rw [ny b yT];simp [eF,bW],apj b r⟩
theorem aoX (b:aB) (r:List GV):lu b r kJ:=⟨_,by rw [ny b y8];simp [eF,bW],apr b r⟩
theorem aoS (b:aB) (r:List GV):lu b r kE:=⟨_,by rw [ny b yV];simp [eF,bW],apl b r⟩
theorem ao4 (b:aB) (r:List GV):lu b r kP:=⟨_,by rw [ny b zk];simp [eF,bW],apy b r⟩
theorem aoT (b:aB) (r:List GV):lu b r kF:=⟨_,by rw [ny b yX];simp [eF,bW],apm b r⟩
theorem ao7 (b:aB) (r:List GV):lu b r kQ:=⟨_,by rw [ny b zo];simp [eF,bW],apB b r⟩
theorem aoW (b:aB) (r:List GV):lu b r kH:=⟨_,by rw [ny b y7];simp [eF,bW],apq b r⟩
theorem aoP (b:aB) (r:List GV):lu b r ku:=⟨_,by rw [ny b yS];simp [eF,bW],aph b r⟩
theorem aoV (b:aB) (r:List GV):lu b r kG:=⟨_,by rw [ny b yZ];simp [eF,bW],apo b r⟩
theorem aoZ (b:aB) (r:List GV):lu b r kL:=⟨_,by rw [ny b zf];simp [eF,bW],apt b r⟩
theorem aoR (b:aB) (r:List GV):lu b r kD:=⟨_,by rw [ny b yU];simp [eF,bW],apk b r⟩
theorem ao9 (b:aB) (r:List GV):lu b r kR:=⟨_,by rw [ny b zu];simp [eF,bW],apD b r⟩
theorem ap1 (b:aB) (r:List GV) (n:List UInt8):placeOf n≠none->lu b r n:=by
 refine DF (Q:=λn=>placeOf n≠none->lu b r n) (λ_=>ao6 b r) (λ_=>aoO b r) (λ_=>ao2 b r) (λ_=>ao5 b r) (λ_=>ao3 b r) (λ_=>aoU b r) (λ_=>ao8 b r) (λ_=>aoY b r) (λ_=>ao1 b r) (λ_=>ao0 b r) (λ_=>aoQ b r) (λ_=>aoX b r) (λ_=>aoS b r) (λ_=>ao4 b r) (λ_=>aoT b r) (λ_=>ao7 b r) (λ_=>aoW b r) (λ_=>aoP b r) (λ_=>aoV b r) (λ_=>aoZ b r) (λ_=>aoR b r) (λ_=>ao9 b r) (λn e0 e1 e2 e3 e4 e5 e6 e7 e8 e9 e10 e11 e12 e13 e14 e15 e16 e17 e18 e19 e20 e21 h=>absurd (CQ n e0 e1 e2 e3 e4 e5 e6 e7 e8 e9 e10 e11 e12 e13 e14 e15 e16 e17 e18 e19 e20 e21) h) n
theorem aa6 (b:aB) (r:List GV) (sp:GV) (ns:List (List UInt8)) (hlen:ns.length<=1000) (hns:∀n∈ns,placeOf n≠none) (ps:List (List UInt8)):∀ (m i:Nat),i+m=ns.length->
 TT.lim 57 [sp,.l (ns.map .s),.i .i64 ns.length,.i .i64 i,.l (rM ps),.i .i64 b.kind,.i .u64 b.id,.i .u64 b.min,.i .u64 b.max,.i .u64 b.chosen,.i .u64 b.flags,.i .u64 b.cost,.i .u64 b.priority,.i .u64 b.deadline,.i .u64 b.retry,.i .u64 b.epoch,.i .u64 b.base,.i .u64 b.digest,.i .u64 b.lag,.i .u64 b.code,.i .u64 b.want,.i .i64 b.remaining,.b b.allowed,.s b.name,.s b.region,.s b.note,.l (b.d.map ent),.l (b.t.map row),.l r]=some (if (ns.drop i).all (λn=>decide (n∈ps) || fU b n)=true then [.i .i64 1] else [.i .i64 0])
 | 0,i,hi=>by
   have h0:ns.drop i=[]:=dQ (by omega);refine ay rfl rfl ?_;have h:¬ ((i:Int) < ns.length):=by omega
   simp [h,h0]
 | m+1,i,hi=>by
   have hlt:i < ns.length:=by omega
   have ih:=aa6 b r sp ns hlen hns ps m (i+1) (by omega);have hcast:((i:Int)+1)=((i+1:Nat):Int):=by omega
   rw [<- hcast] at ih;have hd:(ns.drop i).all (λn=>decide (n∈ps) || fU b n)=((decide (ns[i]∈ps) || fU b ns[i])&&(ns.drop (i+1)).all (λn=>decide (n∈ps) || fU b n)):=by rw [eH hlt,vC]
   rw [hd];generalize (ns.drop (i+1)).all (λn=>decide (n∈ps) || fU b n)=X at *;by_cases hps:ns[i]∈ps
   ·have ha:=Qx ns[i] ps
    rw [ak hps] at ha;have h1:((i:Int) < ns.length):=by omega
    have hw:=wrap64 (n:=(i:Int)+1) (by omega) (by omega);rw [DT hps,Bool.true_or,Bool.true_and];refine ay rfl rfl ?_;simp [h1,hlt,hw,ha,ih]
   ·have ha:=Qx ns[i] ps
    rw [ah hps] at ha;obtain ⟨c,c1,c2⟩:=ap1 b r ns[i] (hns _ (iI hlt));obtain ⟨c3,c4⟩:=c2 sp ns i ps _ hlt (by omega) (wrap64 (n:=(i:Int)+1) (by omega) (by omega)) rfl ha ih;rw [Ac hps,xJ];cases hb:fU b ns[i] with
    | true=>rw [c3 (c1.1 hb),Bool.true_and]
    | false=>rw [c4 (λh=>by rw [c1.2 h] at hb;cases hb),Bool.false_and];rfl
def fD (b:aB) (r:List GV) (k:Nat) (out:List GV):Prop:=TT.lim k [.i .i64 b.kind,.i .u64 b.id,.i .u64 b.min,.i .u64 b.max,.i .u64 b.chosen,.i .u64 b.flags,.i .u64 b.cost,.i .u64 b.priority,.i .u64 b.deadline,.i .u64 b.retry,.i .u64 b.epoch,.i .u64 b.base,.i .u64 b.digest,.i .u64 b.lag,.i .u64 b.code,.i .u64 b.want,.i .i64 b.remaining,.b b.allowed,.s b.name,.s b.region,.s b.note,.l (b.d.map ent),.l (b.t.map row),.l r]=some out
theorem ng (b:aB) {n:List UInt8} {p:Pl} (h:placeOf n=some p):lG b n=TF b p:=by unfold lG;rw [h]
theorem ajW (b:aB) (r:List GV):fD b r 59 [.i .i64 0]:=by
 refine ay rfl rfl ?_;simp
theorem ajE (b:aB) (r:List GV):fD b r 60 [.i .i64 0]:=by
 refine ay rfl rfl ?_;simp
theorem ajS (b:aB) (r:List GV) (hb:iV b):fD b r 61 [.i .i64 0,.i .i64 (fC b.name 0 256)]:=by
 have h:=BL b.name 0 256 hb.name;refine ay rfl rfl ?_;simp [h]
theorem ajV (b:aB) (r:List GV) (hb:iV b):fD b r 62 [.i .i64 0,.i .i64 (fC b.region 0 256)]:=by
 have h:=BL b.region 0 256 hb.region;refine ay rfl rfl ?_;simp [h]
theorem ajT (b:aB) (r:List GV) (hb:iV b):fD b r 63 [.i .i64 0,.i .i64 (fC b.note 0 256)]:=by
 have h:=BL b.note 0 256 hb.note;refine ay rfl rfl ?_;simp [h]
theorem ajK (b:aB) (r:List GV) (hb:iV b):fD b r 64 [.i .i64 0,.i .i64 (if b.d=[] then 0 else pW b.d)]:=by
 have h:=Yd b.d hb.d;refine ay rfl rfl ?_;by_cases e:b.d=[]
 ·simp [e]
 ·have e2:¬ (List.map ent b.d)=[]:=by simpa using e
  have e3:0 < b.d.length:=Bq.2 e;simp [e,h]
theorem ajY (b:aB) (r:List GV) (hb:iV b) (hf:∀r∈b.t,lF r.1=true):fD b r 67 [.i .i64 0,.i .i64 (pV b.t)]:=by
 have h:=aeA b.t hb.t hf;refine ay rfl rfl ?_;simp [h]
theorem ajO (b:aB) (r:List GV):fD b r 78 [.i .i64 0]:=by
 refine ay rfl rfl ?_;simp
theorem ajR (b:aB) (r:List GV):fD b r 79 [.i .i64 0]:=by
 refine ay rfl rfl ?_;simp
theorem ajQ (b:aB) (r:List GV):fD b r 80 [.i .i64 0]:=by
 refine ay rfl rfl ?_;simp
theorem ajG (b:aB) (r:List GV):fD b r 81 [.i .i64 0]:=by
 refine ay rfl rfl ?_;simp
theorem ajN (b:aB) (r:List GV):fD b r 82 [.i .i64 0]:=by
 refine ay rfl rfl ?_;simp
theorem ajI (b:aB) (r:List GV):fD b r 83 [.i .i64 0]:=by
 refine ay rfl rfl ?_;simp
theorem ajU (b:aB) (r:List GV):fD b r 84 [.i .i64 0]:=by
 refine ay rfl rfl ?_;simp
theorem ajJ (b:aB) (r:List GV):fD b r 85 [.i .i64 0]:=by
 refine ay rfl rfl ?_;simp
theorem ajX (b:aB) (r:List GV):fD b r 86 [.i .i64 0]:=by
 refine ay rfl rfl ?_;simp
theorem ajM (b:aB) (r:List GV):fD b r 87 [.i .i64 0]:=by
 refine ay rfl rfl ?_;simp
theorem ajF (b:aB) (r:List GV):fD b r 88 [.i .i64 0]:=by
 refine ay rfl rfl ?_;simp
theorem ajL (b:aB) (r:List GV):fD b r 89 [.i .i64 0]:=by
 refine ay rfl rfl ?_;simp
theorem ajP (b:aB) (r:List GV):fD b r 90 [.i .i64 0]:=by
 refine ay rfl rfl ?_;simp
theorem ajH (b:aB) (r:List GV):fD b r 91 [.i .i64 0]:=by
 refine ay rfl rfl ?_;simp
theorem ajZ (b:aB) (r:List GV):fD b r 92 [.i .i64 0]:=by
 refine ay rfl rfl ?_;simp
/-- One round of the third loop. -/
def lC (b:aB) (r:List GV) (n:List UInt8) (c:Int):Prop:=∀ (l:List bY) (i:Nat) (out:List GV) (h:i < l.length),((i:Int) < l.length)->IntKind.i64.wrap ((i:Int)+1)=(i:Int)+1->l[i].name=n->
    TT.lim 58 [.l (l.map bF),.i .i64 l.length,.i .i64 ((i:Int)+1),.i .i64 b.kind,.i .u64 b.id,.i .u64 b.min,.i .u64 b.max,.i .u64 b.chosen,.i .u64 b.flags,.i .u64 b.cost,.i .u64 b.priority,.i .u64 b.deadline,.i .u64 b.retry,.i .u64 b.epoch,.i .u64 b.base,.i .u64 b.digest,.i .u64 b.lag,.i .u64 b.code,.i .u64 b.want,.i .i64 b.remaining,.b b.allowed,.s b.name,.s b.region,.s b.note,.l (b.d.map ent),.l (b.t.map row),.l r]=some out->
    TT.lim 58 [.l (l.map bF),.i .i64 l.length,.i .i64 i,.i .i64 b.kind,.i .u64 b.id,.i .u64 b.min,.i .u64 b.max,.i .u64 b.chosen,.i .u64 b.flags,.i .u64 b.cost,.i .u64 b.priority,.i .u64 b.deadline,.i .u64 b.retry,.i .u64 b.epoch,.i .u64 b.base,.i .u64 b.digest,.i .u64 b.lag,.i .u64 b.code,.i .u64 b.want,.i .i64 b.remaining,.b b.allowed,.s b.name,.s b.region,.s b.note,.l (b.d.map ent),.l (b.t.map row),.l r]=some (if c=0 then out else [.i .i64 0,.i .i64 c])
theorem apW (b:aB) (r:List GV):lC b r lI 0:=by
 intro l i out h h1 hw hn ih;have hm:=ajW b r;unfold fD at hm;unfold lI at *;rw [ak rfl];refine ay rfl rfl ?_;simp [h1,h,hn,hw,hm,ih]
theorem apE (b:aB) (r:List GV):lC b r lH 0:=by
 intro l i out h h1 hw hn ih;have hm:=ajE b r;unfold fD at hm;unfold lH at *;rw [ak rfl];refine ay rfl rfl ?_;simp [h1,h,hn,hw,hm,ih]
theorem apS (b:aB) (r:List GV) (hb:iV b):lC b r jK (fC b.name 0 256):=by
 intro l i out h h1 hw hn ih;have hm:=ajS b r hb;unfold fD at hm;unfold jK at *;generalize (fC b.name 0 256)=c at *;by_cases hc:c=0
 ·subst hc
  rw [ak rfl];refine ay rfl rfl ?_;simp [h1,h,hn,hw,hm,ih]
 ·rw [ah hc]
  refine ay rfl rfl ?_;simp [h1,h,hn,hw,hm,hc]
theorem apV (b:aB) (r:List GV) (hb:iV b):lC b r jM (fC b.region 0 256):=by
 intro l i out h h1 hw hn ih;have hm:=ajV b r hb;unfold fD at hm;unfold jM at *;generalize (fC b.region 0 256)=c at *;by_cases hc:c=0
 ·subst hc
  rw [ak rfl];refine ay rfl rfl ?_;simp [h1,h,hn,hw,hm,ih]
 ·rw [ah hc]
  refine ay rfl rfl ?_;simp [h1,h,hn,hw,hm,hc]
theorem apT (b:aB) (r:List GV) (hb:iV b):lC b r jL (fC b.note 0 256):=by
 intro l i out h h1 hw hn ih;have hm:=ajT b r hb;unfold fD at hm;unfold jL at *;generalize (fC b.note 0 256)=c at *;by_cases hc:c=0
 ·subst hc
  rw [ak rfl];refine ay rfl rfl ?_;simp [h1,h,hn,hw,hm,ih]
 ·rw [ah hc]
  refine ay rfl rfl ?_;simp [h1,h,hn,hw,hm,hc]
theorem apK (b:aB) (r:List GV) (hb:iV b):lC b r jJ (if b.d=[] then 0 else pW b.d):=by
 intro l i out h h1 hw hn ih;have hm:=ajK b r hb;unfold fD at hm;unfold jJ at *;generalize (if b.d=[] then 0 else pW b.d)=c at *;by_cases hc:c=0
 ·subst hc
  rw [ak rfl];refine ay rfl rfl ?_;simp [h1,h,hn,hw,hm,ih]
 ·rw [ah hc]
  refine ay rfl rfl ?_;simp [h1,h,hn,hw,hm,hc]
theorem apY (b:aB) (r:List GV) (hb:iV b) (hf:∀r∈b.t,lF r.1=true):lC b r jO (pV b.t):=by
 intro l i out h h1 hw hn ih;have hm:=ajY b r hb hf;unfold fD at hm;unfold jO at *;generalize (pV b.t)=c at *;by_cases hc:c=0
 ·subst hc
  rw [ak rfl];refine ay rfl rfl ?_;simp [h1,h,hn,hw,hm,ih]
 ·rw [ah hc]
  refine ay rfl rfl ?_;simp [h1,h,hn,hw,hm,hc]
theorem apO (b:aB) (r:List GV):lC b r kK 0:=by
 intro l i out h h1 hw hn ih;have hm:=ajO b r;unfold fD at hm;unfold kK at *;rw [ak rfl];refine ay rfl rfl ?_;simp [h1,h,hn,hw,hm,ih]
theorem apR (b:aB) (r:List GV):lC b r kN 0:=by
 intro l i out h h1 hw hn ih;have hm:=ajR b r;unfold fD at hm;unfold kN at *;rw [ak rfl];refine ay rfl rfl ?_;simp [h1,h,hn,hw,hm,ih]
theorem apQ (b:aB) (r:List GV):lC b r kM 0:=by
 intro l i out h h1 hw hn ih;have hm:=ajQ b r;unfold fD at hm;unfold kM at *;rw [ak rfl];refine ay rfl rfl ?_;simp [h1,h,hn,hw,hm,ih]
theorem apG (b:aB) (r:List GV):lC b r kC 0:=by
 intro l i out h h1 hw hn ih;have hm:=ajG b r;unfold fD at hm;unfold kC at *;rw [ak rfl];refine ay rfl rfl ?_;simp [h1,h,hn,hw,hm,ih]
theorem apN (b:aB) (r:List GV):lC b r kJ 0:=by
 intro l i out h h1 hw hn ih;have hm:=ajN b r;unfold fD at hm;unfold kJ at *;rw [ak rfl];refine ay rfl rfl ?_;simp [h1,h,hn,hw,hm,ih]
theorem apI (b:aB) (r:List GV):lC b r kE 0:=by
 intro l i out h h1 hw hn ih;have hm:=ajI b r;unfold fD at hm;unfold kE at *;rw [ak rfl];refine ay rfl rfl ?_;simp [h1,h,hn,hw,hm,ih]
theorem apU (b:aB) (r:List GV):lC b r kP 0:=by
 intro l i out h h1 hw hn ih;have hm:=ajU b r;unfold fD at hm;unfold kP at *;rw [ak rfl];refine ay rfl rfl ?_;simp [h1,h,hn,hw,hm,ih]
theorem apJ (b:aB) (r:List GV):lC b r kF 0:=by
 intro l i out h h1 hw hn ih;have hm:=ajJ b r;unfold fD at hm;unfold kF at *;rw [ak rfl];refine ay rfl rfl ?_;simp [h1,h,hn,hw,hm,ih]
theorem apX (b:aB) (r:List GV):lC b r kQ 0:=by
 intro l i out h h1 hw hn ih;have hm:=ajX b r;unfold fD at hm;unfold kQ at *;rw [ak rfl];refine ay rfl rfl ?_;simp [h1,h,hn,hw,hm,ih]
theorem apM (b:aB) (r:List GV):lC b r kH 0:=by
 intro l i out h h1 hw hn ih;have hm:=ajM b r;unfold fD at hm;unfold kH at *;rw [ak rfl];refine ay rfl rfl ?_;simp [h1,h,hn,hw,hm,ih]
theorem apF (b:aB) (r:List GV):lC b r ku 0:=by
 intro l i out h h1 hw hn ih;have hm:=ajF b r;unfold fD at hm;unfold ku at *;rw [ak rfl];refine ay rfl rfl ?_;simp [h1,h,hn,hw,hm,ih]
theorem apL (b:aB) (r:List GV):lC b r kG 0:=by
 intro l i out h h1 hw hn ih;have hm:=ajL b r;unfold fD at hm;unfold kG at *;rw [ak rfl];refine ay rfl rfl ?_;simp [h1,h,hn,hw,hm,ih]
theorem apP (b:aB) (r:List GV):lC b r kL 0:=by
 intro l i out h h1 hw hn ih;have hm:=ajP b r;unfold fD at hm;unfold kL at *;rw [ak rfl];refine ay rfl rfl ?_;simp [h1,h,hn,hw,hm,ih]
theorem apH (b:aB) (r:List GV):lC b r kD 0:=by
 intro l i out h h1 hw hn ih;have hm:=ajH b r;unfold fD at hm;unfold kD at *;rw [ak rfl];refine ay rfl rfl ?_;simp [h1,h,hn,hw,hm,ih]
theorem apZ (b:aB) (r:List GV):lC b r kR 0:=by
 intro l i out h h1 hw hn ih;have hm:=ajZ b r;unfold fD at hm;unfold kR at *;rw [ak rfl];refine ay rfl rfl ?_;simp [h1,h,hn,hw,hm,ih]
theorem ap2 (b:aB) (r:List GV) (hb:iV b) (hf:∀r∈b.t,lF r.1=true) (n:List UInt8):placeOf n≠none->lC b r n (lG b n):=by
 refine DF (Q:=λn=>placeOf n≠none->lC b r n (lG b n)) (λ_=>by rw [ng b zl];exact apW b r ) (λ_=>by rw [ng b yR];exact apE b r ) (λ_=>by rw [ng b xk];exact apS b r hb) (λ_=>by rw [ng b xu];exact apV b r hb) (λ_=>by rw [ng b xq];exact apT b r hb) (λ_=>by rw [ng b yY];exact apK b r hb) (λ_=>by rw [ng b zq];exact apY b r hb hf) (λ_=>by rw [ng b y9];exact apO b r ) (λ_=>by rw [ng b zi];exact apR b r ) (λ_=>by rw [ng b zh];exact apQ b r ) (λ_=>by rw [ng b yT];exact apG b r ) (λ_=>by rw [ng b y8];exact apN b r ) (λ_=>by rw [ng b yV];exact apI b r ) (λ_=>by rw [ng b zk];exact apU b r ) (λ_=>by rw [ng b yX];exact apJ b r ) (λ_=>by rw [ng b zo];exact apX b r ) (λ_=>by rw [ng b y7];exact apM b r ) (λ_=>by rw [ng b yS];exact apF b r ) (λ_=>by rw [ng b yZ];exact apL b r ) (λ_=>by rw [ng b zf];exact apP b r ) (λ_=>by rw [ng b yU];exact apH b r ) (λ_=>by rw [ng b zu];exact apZ b r ) (λn e0 e1 e2 e3 e4 e5 e6 e7 e8 e9 e10 e11 e12 e13 e14 e15 e16 e17 e18 e19 e20 e21 h=>absurd (CQ n e0 e1 e2 e3 e4 e5 e6 e7 e8 e9 e10 e11 e12 e13 e14 e15 e16 e17 e18 e19 e20 e21) h) n
end V
end Go.Proofs.YthgifdbaegpbpaaGreatDoor
