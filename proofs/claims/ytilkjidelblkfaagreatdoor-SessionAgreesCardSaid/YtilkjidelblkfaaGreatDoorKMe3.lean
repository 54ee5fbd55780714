/- What the trees compute: plain laws. -/
import Derived.Test.YtilkjidelblkfaaGreatDoorKMe2
namespace Go.Proofs.YtilkjidelblkfaaGreatDoor
open Go Go.aJ
set_option linter.unusedSimpArgs false
set_option linter.unusedVariables false
set_option maxRecDepth 100000
namespace M
theorem wrap_u64 (n:Int):0<=IntKind.u64.wrap n/\IntKind.u64.wrap n < 18446744073709551616:=by
 have:IntKind.u64.wrap n=n % 18446744073709551616:=by simp [IntKind.wrap,IntKind.signed,IntKind.bits]
 rw [this];omega
theorem adk {k:List Sn} {i:Nat} (hi:i<=k.length):LU 2 (some (.l (k.map sn))) (some (.i .i64 (i:Int))) (some (.i .i64 (k.length:Int)))=some (.l ((k.drop i).map sn)):=by
 rw [rV,aj]
 ·congr 2
  rw [JI,JI,lu (by simp),List.map_drop]
 ·refine ⟨by omega,by omega,by simp, ?_⟩
  rw [List.all_map];exact List.all_eq_true.2 λx _=>rfl
theorem afr (k:List Sn):(k.map sn).all (GV.fA 2)=true:=by
 rw [List.all_map];exact List.all_eq_true.2 λx _=>rfl
theorem aff (t:List Row) (e:Int) (ht:fF t):∀ (m i:Nat) (acc:List Row),i+m=t.length->acc.length=i->
 TT.lim 31 [.l (t.map row),.i .i64 t.length,.i .i64 i,.i .u64 e,.l (acc.map row)]=some [.i .i64 0,.l ((acc++t.drop i).map row)]
 | 0,i,acc,hi,hl=>by
   have h0:t.drop i=[]:=fJ (by omega);have h:¬ ((i:Int) < t.length):=by omega
   refine aB rfl rfl ?_;simp -implicitDefEqProofs [h,h0]
 | m+1,i,acc,hi,hl=>by
   have hlt:i < t.length:=by omega
   have h3:=ht.len;have kc:=CY t[i].1 (AA (ht.few _ (gU hlt)));have hrow:GV.g [.l (t[i].1.map ent),.i .u64 t[i].2]=row t[i]:=rfl;have hok:(row t[i]).fA 2=true:=rfl;have hbb:2 * (acc.length+1) * 32<=281474976710656/\acc.length+1<=281474976710656:=by omega
   have h:((i:Int) < t.length):=by omega
   have hw:=wrap64 (n:=(i:Int)+1) (by omega) (by omega);have ih:TT.lim 31 [.l (t.map row),.i .i64 t.length,.i .i64 ((i:Int)+1),.i .u64 e,.l ((acc++[t[i]]).map row)]=_:=aff t e ht m (i+1) (acc++[t[i]]) (by omega) (by simp;omega);have hdr:acc++t.drop i=acc++[t[i]]++t.drop (i+1):=by rw [List.append_assoc,JM,<- iC hlt]
   rw [hdr];generalize acc++[t[i]]++t.drop (i+1)=R at *;simp only [mQ,gV,lW] at ih;refine aB rfl rfl ?_;simp -implicitDefEqProofs [-List.getElem_cons_drop,h,hlt,hw,kc,hrow,hok,hbb,ih]
theorem Ym (s:Sn) (h:fF s.2):TT.lim 30 [sn s]=some [sn s]:=by
 have k:TT.lim 31 [.l (s.2.map row),.i .i64 s.2.length,.i .i64 0,.i .u64 s.1,.l []]=_:=aff s.2 s.1 h s.2.length 0 [] (by omega) rfl;rw [bn,dO] at k;have h3:=h.len;have hr:(32:Int) * s.2.length<=281474976710656/\(s.2.length:Int)<=1152921504606846976:=by omega
 have hel:(GV.g [.l [],.i .u64 0]).fA 2=true:=rfl;have e1:GV.g [.i .u64 s.1,.l (s.2.map row)]=sn s:=rfl;refine aQ rfl rfl ?_ rfl;simp -implicitDefEqProofs [hr,hel,k,e1]
/-- What may be kept. -/
structure Kp (k:List Sn):Prop where
 len:k.length<=8
 tb:∀s∈k,Tb s.2
 pos:∀s∈k,0 < s.1/\s.1 < 18446744073709551616
 rise:k.Pairwise λa b=>a.1 < b.1/\kW b.2 a.2=true
theorem Kp.nil:Kp []:=⟨by decide,by simp,by simp,List.Pairwise.nil⟩
theorem amF (v b:GV):TT.lim 42 [v,.l [],b]=some [.i .i64 0,.i .u64 0,.l [],.b false]:=by
 refine aB rfl rfl ?_;simp
theorem amE (v b:GV) (k:List Sn) (m:Nat) (x:Sn) (hk:k.length=m+1) (hm:m<=1000) (hx:k[m]? = some x) (hg:fF x.2) :
 TT.lim 42 [v,.l (k.map sn),b]=some [.i .i64 0,.i .u64 x.1,.l (x.2.map row),.b true]:=by
 have kc:=Ym x hg;have hw:=wrap64 (n:=(m:Int)) (by omega) (by omega);have hc:((k.length:Nat):Int)=(m:Int)+1:=by omega
 have hne:¬ ((m:Int)+1=0):=by omega
 have hlt:(m:Int) < (m:Int)+1:=by omega
 have e1:GV.g [.i .u64 x.1,.l (x.2.map row)]=sn x:=rfl;refine aB rfl rfl ?_;simp -implicitDefEqProofs [hc,hne,hw,hx,kc,e1,hlt]
/-- Where the one of an epoch stands. -/
def je (e:Int) (k:List Sn):Option Nat:=k.findIdx? λs=>decide (s.1=e)
def nX:Option Nat->List GV
 | some j=>[.i .i64 0,.i .i64 (j:Int)]
 | none=>[.i .i64 1]
theorem PE {e:Int} {k:List Sn} {j:Nat} (h:je e k=some j):∃x,k[j]? = some x/\x.1=e/\j < k.length:=by
 unfold je at h;obtain ⟨h1,h2, -⟩:=List.findIdx?_eq_some_iff_getElem.1 h;exact ⟨k[j],bM h1,by simpa using h2,h1⟩
/-- One was acknowledged. -/
def Ah (e:Int) (k:List Sn) (b:Int):Bool×List Sn×Int:=if e<=b then (false,k,b) else match je e k with
 | none=>(false,k,b)
 | some i=>(true,k.drop i,e)
/-- One more. -/
def xJ (x:Sn) (b:Int):List Sn->List Sn×Int
 | []=>([x],b)
 | y::r=>if 8 < r.length+2 then (r++[x],if y.1=b then 0 else b) else (y::r++[x],b)
def uS (x:Sn) (k:List Sn) (b:Int):Int×List Sn×Int:=
 if lD x.2≠0 then (lD x.2,k,b) else if x.1=0 then (18,k,b) else match k.getLast? with
 | none=>(0,xJ x b k)
 | some l=>if x.1<=l.1 then (20,k,b) else if kW x.2 l.2=false then (21,k,b) else (0,xJ x b k)
theorem last_at {k:List Sn} {l:Sn} (h:k.getLast? = some l):∃m,k.length=m+1/\k[m]? = some l/\l∈k:=by
 cases hk:k with
 | nil=>subst hk;simp at h
 | cons y r=>
   refine ⟨r.length,by simp, ?_, ?_⟩
   ·rw [<- hk,<- h,List.getLast?_eq_getElem?,hk];simp
   ·rw [<- hk];exact Zw h
theorem last_none {k:List Sn} (h:k.getLast? = none):k=[]:=List.getLast?_eq_none_iff.1 h
theorem apa (x:Sn) (v:GV) (k:List Sn) (b:Int) (hx:fF x.2) (hk:Kp k) :
 TT.lim 35 [.i .u64 x.1,.l (x.2.map row),v,.l (k.map sn),.i .u64 b]=some [.i .i64 0,.i .i64 (uS x k b).1,.l ((uS x k b).2.1.map sn),.i .u64 (uS x k b).2.2]:=by
 have k1:=OT x hx;have kc:=Ym x hx;have e1:GV.g [.i .u64 x.1,.l (x.2.map row)]=sn x:=rfl;have hel:(sn x).fA 2=true:=rfl;unfold uS;by_cases h1:lD x.2=0;rotate_left
 ·rw [aj h1]
  refine aB rfl rfl ?_;simp -implicitDefEqProofs [e1,k1,h1]
 rw [ah (by simpa using h1)];by_cases h2:x.1=0
 ·rw [aj h2]
  have h2':(x.1=0)=True:=eq_true h2;clear h2;refine aB rfl rfl ?_;simp -implicitDefEqProofs [e1,k1,h1,h2']
 rw [ah h2];have h8:=hk.len;cases hl:k.getLast? with
 | none=>
   obtain rfl:=last_none hl;refine aB rfl rfl ?_;simp -implicitDefEqProofs [e1,k1,h1,h2,kc,hel,xJ]
 | some l=>
   obtain ⟨m,hm,ha,hmem⟩:=last_at hl;have hc:((k.length:Nat):Int)=(m:Int)+1:=by omega
   have hp:(0:Int) < (m:Int)+1:=by omega
   have hlt:(m:Int) < (m:Int)+1:=by omega
   have hw:=wrap64 (n:=(m:Int)) (by omega) (by omega);simp only;by_cases h3:x.1<=l.1
   ·rw [aj h3]
    refine aB rfl rfl ?_;simp -implicitDefEqProofs [e1,k1,h1,h2,hc,hp,hw,ha,h3,hlt]
   rw [ah h3];have k4:=aaj x.2 l.2 ((uD _).1 h1).1 (hk.tb l hmem).ok.1 hx.few (hk.tb l hmem).few;cases h4:kW x.2 l.2 with
   | false=>
     rw [h4] at k4;refine aB rfl rfl ?_;simp -implicitDefEqProofs [e1,k1,h1,h2,hc,hp,hw,ha,h3,k4,hlt]
   | true=>
     rw [h4] at k4;rw [ah (by simp)];have hlen:(k++[x]).length=m+2:=by simp;omega
     have hls:=adk (k:=k++[x]) (i:=1) (by omega);have hap:J6 2 32 (some (.l (k.map sn))) (some (.l [sn x]))=some (.l ((k++[x]).map sn)):=by
      rw [Ht,aj]
      ·rw [mQ];rfl
      ·refine ⟨rfl, ?_, ?_⟩<;>simp only [kR,jK,qy]<;>omega
     have hw2:=wrap64 (n:=(m:Int)+2) (by omega) (by omega);cases k with
     | nil=>simp at hl
     | cons y r=>
       have hr:r.length=m:=by simpa using hm
       by_cases h5:8 < m+2
       ·have hb:2 * ((y::r++[x]).drop 1).length * 32<=281474976710656/\((y::r++[x]).drop 1).length<=281474976710656:=by
         rw [eH];omega
        have hal:=afr ((y::r++[x]).drop 1);have hd:(y::r++[x]).drop 1=r++[x]:=rfl;have hn:(m:Int)+1+1=(m:Int)+2:=by omega
        have h6:(8:Int) < (m:Int)+2:=by omega
        have h0:((y::r++[x]).map sn)[0]? = some (sn y):=rfl;have hpos:(0:Int) < (m:Int)+2:=by omega
        have hcl:(((y::r++[x]).length:Nat):Int)=(m:Int)+2:=by omega
        have xX:(((y::r++[x]).map sn).length:Int)=(m:Int)+2:=by rw [kR];exact hcl
        have Qb:(((y::r).map sn).length:Int)=(m:Int)+1:=by rw [kR];exact hc
        have hat:((y::r).map sn)[m]? = some (sn l):=by rw [iF,ha];rfl
        have acu:LU 2 (some (.l ((y::r++[x]).map sn))) (some (.i .i64 1)) (some (.i .i64 ((m:Int)+2)))=some (.l ((r++[x]).map sn)):=by
         rw [<- hcl];exact hls
        rw [hd] at hb hal;have ace:J6 2 32 (some (.l [])) (some (.l ((r++[x]).map sn)))=some (.l ((r++[x]).map sn)):=by
         rw [Ht,aj]
         ·rfl
         ·exact ⟨hal,by simp only [kR,qy];omega,by simp only [kR,qy];omega⟩
        have hres:xJ x b (y::r)=(r++[x],if y.1=b then 0 else b):=aj (show 8 < r.length+2 by omega);rw [hres];clear hres hls;generalize r++[x]=R1 at *;generalize (y::r++[x]).map sn=M2 at *;generalize (y::r).map sn=M1 at *;by_cases h7:y.1=b
        ·have h7':(y.1=b)=True:=eq_true h7
         clear h7;refine aB rfl rfl ?_;simp -implicitDefEqProofs [-rV, -List.all_eq_true, -List.all_map, -Ht,e1,k1,h1,h2,Qb,xX,hp,hw,hat,h3,k4,kc,hap,h6,hpos,h0,h7',acu,ace,hlt]
        ·refine aB rfl rfl ?_
         simp -implicitDefEqProofs [-rV, -List.all_eq_true, -List.all_map, -Ht,e1,k1,h1,h2,Qb,xX,hp,hw,hat,h3,k4,kc,hap,h6,hpos,h0,h7,acu,ace,hlt]
       ·have h6:¬ (8:Int) < (m:Int)+2:=by omega
        have hcl:(((y::r++[x]).length:Nat):Int)=(m:Int)+2:=by omega
        have xX:(((y::r++[x]).map sn).length:Int)=(m:Int)+2:=by rw [kR];exact hcl
        have Qb:(((y::r).map sn).length:Int)=(m:Int)+1:=by rw [kR];exact hc
        have hat:((y::r).map sn)[m]? = some (sn l):=by rw [iF,ha];rfl
        have hres:xJ x b (y::r)=(y::r++[x],b):=ah (show ¬ 8 < r.length+2 by omega);rw [hres];clear hres hls;show _=some [_,_,GV.l ((y::r++[x]).map sn),_]
        generalize (y::r++[x]).map sn=M2 at *;generalize (y::r).map sn=M1 at *;refine aB rfl rfl ?_;simp -implicitDefEqProofs [-rV, -List.all_eq_true, -List.all_map, -Ht,e1,k1,h1,h2,Qb,xX,hp,hw,hat,h3,k4,kc,hap,h6,hlt]
/-- What it has to tell: kind, epoch, base, table; the code. -/
abbrev Ms:=(Int×Int×Int×List Row)×Int
def full (l:Sn):Ms:=((5,l.1,0,l.2),0)
def kZ (v:Int) (k:List Sn) (b:Int):Ms:=match k.getLast? with
 | none=>((0,0,0,[]),24)
 | some l=>if l.1=b then ((0,0,0,[]),24) else match je b k with
   | none=>full l
   | some i=>if 2<=v then match k[i]? with
      | none=>full l
      | some s=>if (mZ s l).2≠0 then ((0,0,0,[]),(mZ s l).2) else ((6,(mZ s l).1.2.1,(mZ s l).1.1,(mZ s l).1.2.2),0)
     else full l
def DI (r:Ms):List GV:=[.i .i64 0,.i .i64 r.1.1,.i .u64 r.1.2.1,.i .u64 r.1.2.2.1,.l (r.1.2.2.2.map row),.i .i64 r.2]
theorem Kp.add {k:List Sn} (hk:Kp k) {x:Sn} {b:Int} (hx:Tb x.2) (h0:0 < x.1/\x.1 < 18446744073709551616) (hl:∀l,k.getLast? = some l->l.1 < x.1/\kW x.2 l.2=true):Kp (xJ x b k).1:=by
 have hall:∀s∈k,s.1 < x.1/\kW x.2 s.2=true:=by
  intro s hs;obtain ⟨i,hi,rfl⟩:=List.getElem_of_mem hs;cases hg:k.getLast? with
  | none=>exact absurd hi (by rw [last_none hg];simp)
  | some l=>
    obtain ⟨m,hm,ha,hmem⟩:=last_at hg;obtain ⟨c1,c2⟩:=hl l hg;have hml:m < k.length:=by omega
    have acv:k[m]=l:=by have:=bM hml;rw [ha] at this;injection this with this;exact this.symm
    rcases wP i m with him | him
    ·have hp:=TJ.1 hk.rise i m hi hml him
     rw [acv] at hp;exact ⟨by omega,ag6 hx.rise (hk.tb l hmem).rise (hk.tb _ (gU hi)).rise c2 hp.2⟩
    ·have:i=m:=by omega
     subst this;simp only [acv];exact ⟨c1,c2⟩
 cases k with
 | nil=>exact ⟨by simp [xJ],by simpa [xJ] using hx,by simpa [xJ] using h0,by simp [xJ]⟩
 | cons y r=>
   have hr:Kp r:=⟨by have:=hk.len;simp at this;omega,λs hs=>hk.tb s (by simp [hs]),λs hs=>hk.pos s (by simp [hs]),(iV.1 hk.rise).2⟩
   have h8:=hk.len;simp only [jK] at h8;simp only [xJ];split
   ·refine ⟨by simp;omega, ?_, ?_, ?_⟩
    ·intro s hs
     rcases jO.1 hs with h | h
     ·exact hr.tb s h
     ·rw [mW.1 h];exact hx
    ·intro s hs
     rcases jO.1 hs with h | h
     ·exact hr.pos s h
     ·rw [mW.1 h];exact h0
    ·refine List.pairwise_append.2 ⟨hr.rise,by simp,λa ha b hb=>?_⟩
     rw [mW.1 hb];exact hall a (by simp [ha])
   ·refine ⟨by simp;omega, ?_, ?_, ?_⟩
    ·intro s hs
     rcases jO.1 hs with h | h
     ·exact hk.tb s h
     ·rw [mW.1 h];exact hx
    ·intro s hs
     rcases jO.1 hs with h | h
     ·exact hk.pos s h
     ·rw [mW.1 h];exact h0
    ·refine List.pairwise_append.2 ⟨hk.rise,by simp,λa ha b hb=>?_⟩
     rw [mW.1 hb];exact hall a ha
theorem apb {x:Sn} {k:List Sn} {b:Int} (hk:Kp k) (hx:fF x.2) (h0:0<=x.1/\x.1 < 18446744073709551616):Kp (uS x k b).2.1:=by
 unfold uS;split
 ·exact hk
 next h1=>
 split
 ·exact hk
 next h2=>
 have ht:Tb x.2:=hx.tb ((uD _).1 (by simpa using h1));split
 ·next hl=>exact hk.add ht ⟨by omega,h0.2⟩ λl h=>by rw [hl] at h;cases h
 ·next l hl=>
  split
  ·exact hk
  next h3=>
  split
  ·exact hk
  next h4=>exact hk.add ht ⟨by omega,h0.2⟩ λl' h=>by rw [hl] at h;injection h with h;subst h;exact ⟨by omega,by simpa using h4⟩
theorem Kp.drop {k:List Sn} (hk:Kp k) (i:Nat):Kp (k.drop i):=
 ⟨by have:=hk.len;rw [eH];omega,λs hs=>hk.tb s (JK hs),λs hs=>hk.pos s (JK hs),hk.rise.sublist (Zp i k)⟩
theorem agN {e:Int} {k:List Sn} {b:Int} (hk:Kp k):Kp (Ah e k b).2.1:=by
 unfold Ah;split
 ·exact hk
 split
 ·exact hk
 ·exact hk.drop _
theorem Qa {g:GV} (h:(bK.int .u8).has g):∃n,g=.i .u8 n/\0<=n/\n < 256:=by
 simp only [bK.has] at h;obtain ⟨n,rfl,b1,b2⟩:=h;exact ⟨n,rfl,by simpa [IntKind.min,IntKind.signed] using b1,by simp [IntKind.max,IntKind.signed,IntKind.bits] at b2;omega⟩
/-- What was published by its epoch. -/
def agw (xs:List GV) (k:List Sn):Prop:=∀s∈k,ig (.i .u64 s.1) xs=some (sn s)
theorem key_inj {a b:Int} {x:GV} (h1:nG (.i .u64 a) x=true) (h2:nG (.i .u64 b) x=true):a=b:=by
 cases x<;>simp [nG] at h1 h2
 omega
theorem acM (a b:Int):nG (.i .u64 a) (.i .u64 b)=decide (a=b):=by
 simp only [nG];rw [vF];simp
theorem xM (a b:Int) (u:GV):∀xs:List GV,ig (.i .u64 a) (jZ (.i .u64 b) u xs)=if a=b then some u else ig (.i .u64 a) xs
 | []=>by
   show (if nG (.i .u64 a) (.i .u64 b)=true then some u else none)=_
   rw [acM];by_cases h:a=b<;>simp [h,ig]
 | .g [x,v]::xs=>by
   have ih:=xM a b u xs;show ig (.i .u64 a) (if nG (.i .u64 b) x=true then .g [.i .u64 b,u]::xs else .g [x,v]::jZ (.i .u64 b) u xs)=if a=b then some u else (if nG (.i .u64 a) x=true then some v else ig (.i .u64 a) xs)
   cases hb:nG (.i .u64 b) x with
   | true=>
     rw [aj rfl];show (if nG (.i .u64 a) (.i .u64 b)=true then some u else ig (.i .u64 a) xs)=_
     rw [acM];by_cases h:a=b
     ·simp -implicitDefEqProofs [h]
     ·cases ha:nG (.i .u64 a) x with
      | true=>exact absurd (key_inj ha hb) h
      | false=>simp [h]
   | false=>
     rw [ah (by simp)];show (if nG (.i .u64 a) x=true then some v else ig (.i .u64 a) (jZ (.i .u64 b) u xs))=_
     rw [ih];cases ha:nG (.i .u64 a) x with
     | true=>
       by_cases h:a=b
       ·subst h;rw [ha] at hb;cases hb
       ·simp -implicitDefEqProofs [h]
     | false=>simp
 | .g []::xs=>xM a b u xs
 | .g [_]::xs=>xM a b u xs
 | .g (_::_::_::_)::xs=>xM a b u xs
 | .i _ _::xs=>xM a b u xs
 | .b _::xs=>xM a b u xs
 | .s _::xs=>xM a b u xs
 | .l _::xs=>xM a b u xs
structure Lead (xs:List GV) (k:List Sn) (b:Int):Prop where
 kp:Kp k
 map:agw xs k
 base:b=0\/∃s∈k,s.1=b
/-- A message that a sender tells. -/
def OA (kind epoch base:Int) (t:List Row):aS:={ kind:=kind,id:=0,min:=0,max:=0,chosen:=0,flags:=0,cost:=0,priority:=0,deadline:=0,retry:=0,epoch:=epoch,base:=base,digest:=0,lag:=0,code:=0,want:=0,remaining:=0,allowed:=false,name:=[],region:=[],note:=[],d:=[],t:=t }
theorem ag9 {kind epoch base:Int} {t:List Row} (h1 : -9223372036854775808<=kind/\kind<=9223372036854775807) (h2:0<=epoch/\epoch < 18446744073709551616) (h3:0<=base/\base < 18446744073709551616) (ht:Rows t):qW (OA kind epoch base t):=by
 refine ⟨h1, ?_, ?_, ?_, ?_, ?_, ?_, ?_, ?_, ?_,h2,h3, ?_, ?_, ?_, ?_, ?_, ?_, ?_, ?_, ?_,ht⟩<;>simp [OA,pG]
theorem amw {k:List Sn} {b:Int} (hk:Kp k) {l s:Sn} {i:Nat} (hlast:k.getLast? = some l) (hlb:l.1≠b) (hf:je b k=some i) (hs:k[i]? = some s):(mZ s l).2=0/\fF (mZ s l).1.2.2:=by
 obtain ⟨s',hs',hsb,hi⟩:=PE hf;rw [hs] at hs';injection hs' with hs'
 subst hs';have hmem:=Zw hlast;have hsm:=oL hs;obtain ⟨m,hm1,hm2, -⟩:=last_at hlast;have hml:m < k.length:=by omega
 have e1:k[m]=l:=by have:=bM hml;rw [hm2] at this;injection this with this;exact this.symm
 have e2:k[i]=s:=by have:=bM hi;rw [hs] at this;injection this with this;exact this.symm
 have him:i < m:=by
  rcases wP i m with c | c
  ·exact c
  ·have:i=m:=by omega
   subst this;rw [e1] at e2;subst e2;exact absurd hsb hlb
 have hp:=TJ.1 hk.rise i m hi hml him;rw [e1,e2] at hp;have hd:(mZ s l).2=0:=by rw [ajF (hk.tb s hsm).ok (hk.tb l hmem).ok hp.1 hp.2]
 exact ⟨hd,(ag8 (hk.tb s hsm).good (hk.tb l hmem).good hd).2.2⟩
theorem anM {v:Int} {k:List Sn} {b:Int} (hk:Kp k):(-9223372036854775808<=(kZ v k b).1.1/\(kZ v k b).1.1<=9223372036854775807)/\(0<=(kZ v k b).1.2.1/\(kZ v k b).1.2.1 < 18446744073709551616)/\(0<=(kZ v k b).1.2.2.1/\(kZ v k b).1.2.2.1 < 18446744073709551616)/\fF (kZ v k b).1.2.2.2:=by
 have zero:∀c:Int,(-9223372036854775808<=((((0,0,0,[]),c):Ms)).1.1/\((((0,0,0,[]),c):Ms)).1.1<=9223372036854775807)/\(0<=((((0,0,0,[]),c):Ms)).1.2.1/\((((0,0,0,[]),c):Ms)).1.2.1 < 18446744073709551616)/\(0<=((((0,0,0,[]),c):Ms)).1.2.2.1/\((((0,0,0,[]),c):Ms)).1.2.2.1 < 18446744073709551616)/\fF ((((0,0,0,[]),c):Ms)).1.2.2.2:=λc=>⟨by simp,by simp,by simp,DT.good⟩
 unfold kZ;cases hl:k.getLast? with
 | none=>exact zero 24
 | some l=>
   have hmem:=Zw hl;have hp:=hk.pos l hmem
   have hfull:(-9223372036854775808<=(full l).1.1/\(full l).1.1<=9223372036854775807)/\(0<=(full l).1.2.1/\(full l).1.2.1 < 18446744073709551616)/\(0<=(full l).1.2.2.1/\(full l).1.2.2.1 < 18446744073709551616)/\fF (full l).1.2.2.2:=
    ⟨by simp [full],⟨by simp only [full];omega,by simp only [full];omega⟩,by simp [full],(hk.tb l hmem).good⟩
   simp only;by_cases h1:l.1=b
   ·rw [aj h1];exact zero 24
   rw [ah h1];cases hf:je b k with
   | none=>exact hfull
   | some i=>
     obtain ⟨s,hs, -,hi⟩:=PE hf;obtain ⟨hd,hg⟩:=amw hk hl h1 hf hs;simp only [hs];by_cases h2:2<=v
     ·rw [aj h2,ah (by simp [hd])]
      have he:=(abb hd).2.2.2.2;have hps:=hk.pos s (oL hs);refine ⟨by simp, ?_, ?_,hg⟩
      ·simp only [he];omega
      ·simp only [he];omega
     ·rw [ah h2];exact hfull
abbrev An:=Int×Int×Int×Int
def lQ (c v kd ep ba:Int) (t:List Row) (sm:Bool) (h:Sn):An×Int×Bool×Sn:=
 if c≠0 then ((0,0,0,0),c,sm,h)
 else if kd=5 then (if sm=true/\ep<=h.1 then ((7,h.1,0,0),20,sm,h) else ((7,ep,0,0),0,true,(ep,t)))
 else if kd=6 then (if sm=true/\ep<=h.1 then ((7,h.1,0,0),20,sm,h)
  else if (lX h (ba,ep,t)).2≠0 then ((8,ep,IntKind.u64.wrap (lX h (ba,ep,t)).2,if 2<=v then h.1 else 0),(lX h (ba,ep,t)).2,sm,h)
  else ((7,(lX h (ba,ep,t)).1.1,0,0),0,true,(lX h (ba,ep,t)).1))
 else ((0,0,0,0),15,sm,h)
def vk (r:An×Int×Bool×Sn):List GV:=[.i .i64 0,.i .i64 r.1.1,.i .u64 r.1.2.1,.i .u64 r.1.2.2.1,.i .u64 r.1.2.2.2,.i .i64 r.2.1,.b r.2.2.1,.i .u64 r.2.2.2.1,.l (r.2.2.2.2.map row)]
set_option maxHeartbeats 2000000 in
theorem asr (b:aS) (fl:List aH) (v:Int) (sm:Bool) (h:Sn) (hb:qW b) (ht:fF b.t) (hok:dJ fl) (hlen:fl.length<=1000000) (hh:fF h.2) :
 TT.lim 180 ((gI b (aC fl)).cells++[.i .i64 v,.b sm,.i .u64 h.1,.l (h.2.map row)])=some (vk (lQ (iM b fl v) v b.kind b.epoch b.base b.t sm h)):=by
 have hc:=WO b fl v hb ht.few hok hlen;have hcl:=Ym (b.epoch,b.t) ht;have hap:=ag2 h (b.base,b.epoch,b.t) hh ht;have e1:GV.g [.i .u64 b.epoch,.l (b.t.map row)]=sn (b.epoch,b.t):=rfl;have e2:GV.g [.i .u64 h.1,.l (h.2.map row)]=sn h:=rfl;have e3:GV.g [.i .u64 b.base,.i .u64 b.epoch,.l (b.t.map row)]=dl (b.base,b.epoch,b.t):=rfl;rw [dG];simp only [bJ,bn];unfold lQ;generalize lX h (b.base,b.epoch,b.t)=A at *;obtain ⟨⟨A1,A2⟩,A3⟩:=A;generalize iM b fl v=C at *;generalize aC fl=R at *;by_cases h1:C=0;rotate_left
 ·rw [aj h1]
  refine aB rfl rfl ?_;simp -implicitDefEqProofs [jI,hc,h1,vk]
 rw [ah (by simpa using h1)];subst h1;by_cases k5:b.kind=5
 ·rw [aj k5]
  have yc:(b.kind=5)=True:=eq_true k5;clear k5;cases sm with
  | false=>
    refine aB rfl rfl ?_;simp -implicitDefEqProofs [jI,hc,yc,vk,e1,hcl]
  | true=>
    by_cases h3:b.epoch<=h.1
    ·refine aB rfl rfl ?_
     simp -implicitDefEqProofs [jI,hc,yc,vk,h3]
    ·refine aB rfl rfl ?_
     simp -implicitDefEqProofs [jI,hc,yc,vk,h3,e1,hcl]
 rw [ah k5];by_cases k6:b.kind=6;rotate_left
 ·rw [ah k6]
  refine aB rfl rfl ?_;simp -implicitDefEqProofs [jI,hc,k5,k6,vk]
 rw [aj k6];have yc:(b.kind=5)=False:=eq_false k5;have ES:(b.kind=6)=True:=eq_true k6;clear k5 k6;by_cases h3:sm=true/\b.epoch<=h.1
 ·rw [aj h3]
  obtain ⟨rfl,h3⟩:=h3;refine aB rfl rfl ?_;simp -implicitDefEqProofs [jI,hc,yc,ES,vk,h3]
 rw [ah h3];by_cases ha:A3=0
 ·rw [ah (by simpa using ha)]
  subst ha;cases sm with
  | false=>
    refine aB rfl rfl ?_;simp -implicitDefEqProofs [jI,hc,yc,ES,vk,e2,e3,hap]
  | true=>
    have h3:¬ b.epoch<=h.1:=λe=>h3 ⟨rfl,e⟩;refine aB rfl rfl ?_;simp -implicitDefEqProofs [jI,hc,yc,ES,vk,h3,e2,e3,hap]
 ·rw [aj ha]
  by_cases hv:2<=v
  ·cases sm with
   | false=>
     refine aB rfl rfl ?_;simp -implicitDefEqProofs [jI,hc,yc,ES,vk,e2,e3,hap,ha,hv]
   | true=>
     have h3:¬ b.epoch<=h.1:=λe=>h3 ⟨rfl,e⟩;refine aB rfl rfl ?_;simp -implicitDefEqProofs [jI,hc,yc,ES,vk,h3,e2,e3,hap,ha,hv]
  ·cases sm with
   | false=>
     refine aB rfl rfl ?_;simp -implicitDefEqProofs [jI,hc,yc,ES,vk,e2,e3,hap,ha,hv]
   | true=>
     have h3:¬ b.epoch<=h.1:=λe=>h3 ⟨rfl,e⟩;refine aB rfl rfl ?_;simp -implicitDefEqProofs [jI,hc,yc,ES,vk,h3,e2,e3,hap,ha,hv]
/-- A message of a sender. -/
abbrev Tm:=Int×Int×Int×List Row
def agq (xs:List GV) (m:Tm):Prop:=
 (m.1=5/\Tb m.2.2.2/\(0 < m.2.1/\m.2.1 < 18446744073709551616)/\m.2.2.1=0/\ig (.i .u64 m.2.1) xs=some (sn (m.2.1,m.2.2.2)))\/
 (m.1=6/\Tb m.2.2.2/\(0 < m.2.2.1/\m.2.2.1 < m.2.1/\m.2.1 < 18446744073709551616)/\∃s l:Sn,ig (.i .u64 m.2.2.1) xs=some (sn s)/\ig (.i .u64 m.2.1) xs=some (sn l)/\l.1=m.2.1/\s.1=m.2.2.1/\Tb l.2/\lX s (m.2.2.1,m.2.1,m.2.2.2)=(l,0))
/-- A sender and a receiver, and what was told between them. -/
structure NG (xs:List GV) (told:List Tm) (back:List An) (k:List Sn) (b:Int) (sm:Bool) (h:Sn):Prop where
 lead:Lead xs k b
 keys:∀e g,ig (.i .u64 e) xs=some g->∃l,k.getLast? = some l/\e<=l.1
 told:∀m∈told,agq xs m
 back:∀a∈back,a.1=7->sm=true/\a.2.1<=h.1
 has:(sm=true/\ig (.i .u64 h.1) xs=some (sn h)/\Tb h.2)\/(sm=false/\h=zS)
 base:b<=0\/(sm=true/\b<=h.1)
 zero:ig (.i .u64 0) xs=none
theorem NG.tb {xs:List GV} {told:List Tm} {back:List An} {k:List Sn} {b:Int} {sm:Bool} {h:Sn} (f:NG xs told back k b sm h):Tb h.2:=by
 rcases f.has with ⟨-, -,h1⟩ | ⟨-,h1⟩
 ·exact h1
 ·rw [h1];exact DT
theorem afM {p:Int} {n:Nat} (h0:0<=p) (hn:0 < n):∃j:Nat,p.tmod (n:Int)=(j:Int)/\j < n:=by
 rw [Int.tmod_eq_emod_of_nonneg h0];have h1:=Int.emod_nonneg p (b:=(n:Int)) (by omega);have h2:=Int.emod_lt_of_pos p (b:=(n:Int)) (by omega);exact ⟨(p % n).toNat,by omega,by omega⟩
theorem NG.no {xs:List GV} {told:List Tm} {back:List An} {k:List Sn} {b:Int} {sm:Bool} {h:Sn} (f:NG xs told back k b sm h) (e:sm=false):h=zS:=by
 rcases f.has with ⟨q, -⟩ | ⟨-,q⟩
 ·rw [q] at e;cases e
 ·exact q
theorem ae2 (sp:List eG):Jo sp []=0:=by
 have h:jm 0 0 []=0:=by unfold jm;rfl
 unfold Jo;rw [ah (by rw [h];simp),ah (by simp)]
def iL (a:An):aS:={ kind:=a.1,id:=0,min:=0,max:=0,chosen:=0,flags:=0,cost:=0,priority:=0,deadline:=0,retry:=0,epoch:=a.2.1,base:=0,digest:=0,lag:=0,code:=a.2.2.1,want:=a.2.2.2,remaining:=0,allowed:=false,name:=[],region:=[],note:=[],d:=[],t:=[] }
theorem Ui {a:An} (h1 : -9223372036854775808<=a.1/\a.1<=9223372036854775807) (h2:0<=a.2.1/\a.2.1 < 18446744073709551616) (h3:0<=a.2.2.1/\a.2.2.1 < 18446744073709551616) (h4:0<=a.2.2.2/\a.2.2.2 < 18446744073709551616):qW (iL a):=by
 refine ⟨h1, ?_, ?_, ?_, ?_, ?_, ?_, ?_, ?_, ?_,h2, ?_, ?_, ?_,h3,h4, ?_, ?_, ?_, ?_, ?_, ?_⟩<;>simp [iL,pG,Rows]
theorem anT (V e:Int) (hV:V=1\/V=2\/V=3):(gQ.all λn=>zh (bI 7 V) n || rW (iL (7,e,0,0)) n)=true:=by
 rcases hV with rfl | rfl | rfl<;>rfl
theorem anX (e c:Int):(gQ.all λn=>zh (bI 8 1) n || rW (iL (8,e,c,0)) n)=true:=rfl
theorem adQ (V e c w:Int) (hV:V=2\/V=3):(gQ.all λn=>zh (bI 8 V) n || rW (iL (8,e,c,w)) n)=true:=by
 rcases hV with rfl | rfl<;>rfl
theorem am6 (V e:Int) (hV:V=1\/V=2\/V=3):oz (iL (7,e,0,0)) (bI 7 V)=0:=by
 rcases hV with rfl | rfl | rfl<;>rfl
theorem am8 (V e c w:Int) (hV:V=1\/V=2\/V=3):oz (iL (8,e,c,w)) (bI 8 V)=0:=by
 have hu:nM [] 0 256=0:=rfl;have h1:zq (iL (8,e,c,w)) yu=0:=rfl;have h2:zq (iL (8,e,c,w)) yt=0:=rfl;have h3:zq (iL (8,e,c,w)) zu=0:=rfl;have h4:zq (iL (8,e,c,w)) Bg=nM [] 0 256:=rfl;have k1:bI 8 1=[⟨1,0,1,yu⟩,⟨2,0,1,yt⟩]:=rfl;have k2:bI 8 2=[⟨1,0,1,yu⟩,⟨2,0,1,yt⟩,⟨3,0,2,zu⟩]:=rfl;have k3:bI 8 3=[⟨1,0,1,yu⟩,⟨2,0,1,yt⟩,⟨3,0,2,zu⟩,⟨4,3,3,Bg⟩]:=rfl;rcases hV with rfl | rfl | rfl
 ·rw [k1];simp only [oz,h1,h2,if_true]
 ·rw [k2];simp only [oz,h1,h2,h3,if_true]
 ·rw [k3];simp only [oz,h1,h2,h3,h4,hu,if_true]
theorem OW (e:Int) {V:Int} (h1:1<=V) (h3:V<=3):iM (iL (7,e,0,0)) [] V=0:=by
 have hV:V=1\/V=2\/V=3:=by omega
 unfold iM;have hk:bI (iL (7,e,0,0)).kind V≠[]:=(by rcases hV with rfl | rfl | rfl<;>decide:bI 7 V≠[])
 have hn:(gQ.all λn=>zh (bI (iL (7,e,0,0)).kind V) n || rW (iL (7,e,0,0)) n)=true:=anT V e hV;have hy:oz (iL (7,e,0,0)) (bI (iL (7,e,0,0)).kind V)=0:=am6 V e hV;have hb:En (iL (7,e,0,0))=0:=rfl;rw [ah (by omega),ah (by omega),ah hk,ah (by rw [hn];simp),ah (by rw [hy];simp),ah (by rw [hb];simp)];exact ae2 _
theorem ahJ (e c w:Int) {V:Int} (h1:1<=V) (h3:V<=3) (hw:¬ 2<=V->w=0):iM (iL (8,e,c,w)) [] V=0:=by
 have hV:V=1\/V=2\/V=3:=by omega
 unfold iM;have hk:bI (iL (8,e,c,w)).kind V≠[]:=(by rcases hV with rfl | rfl | rfl<;>decide:bI 8 V≠[])
 have hn:(gQ.all λn=>zh (bI (iL (8,e,c,w)).kind V) n || rW (iL (8,e,c,w)) n)=true:=by
  rcases hV with rfl | rfl | rfl
  ·rw [hw (by omega)];exact anX e c
  ·exact adQ 2 e c w (.inl rfl)
  ·exact adQ 3 e c w (.inr rfl)
 have hy:oz (iL (8,e,c,w)) (bI (iL (8,e,c,w)).kind V)=0:=am8 V e c w hV;have hb:En (iL (8,e,c,w))=0:=rfl;rw [ah (by omega),ah (by omega),ah hk,ah (by rw [hn];simp),ah (by rw [hy];simp),ah (by rw [hb];simp)];exact ae2 _
structure Rec (v:Int) (sm:Bool) (h:Sn):Prop where
 lo:1<=v
 hi:v<=3
 good:fF h.2
 ep:0<=h.1/\h.1 < 18446744073709551616
 no:sm=false->h=zS
theorem aeW {v:Int} {sm:Bool} {h:Sn} (r:Rec v sm h) (c kd ep ba:Int) (t:List Row) (ht:fF t) (he:0<=ep/\ep < 18446744073709551616) :
 Rec v (lQ c v kd ep ba t sm h).2.2.1 (lQ c v kd ep ba t sm h).2.2.2/\qW (iL (lQ c v kd ep ba t sm h).1)/\((lQ c v kd ep ba t sm h).1.1=0\/((lQ c v kd ep ba t sm h).1.1≠0/\iM (iL (lQ c v kd ep ba t sm h).1) [] v=0)):=by
 have r1:=r.lo;have r2:=r.hi;have z:qW (iL (0,0,0,0)):=Ui (by decide) (by decide) (by decide) (by decide);have ak:∀e:Int,0<=e/\e < 18446744073709551616->qW (iL (7,e,0,0)):=λe h=>Ui (by simp) h (by simp) (by simp);unfold lQ;split
 ·exact ⟨r,z,.inl rfl⟩
 split
 ·split
  ·exact ⟨r,ak _ r.ep,.inr ⟨by simp,OW _ r1 r2⟩⟩
  ·exact ⟨⟨r1,r2,ht,he,λe=>by cases e⟩,ak _ he,.inr ⟨by simp,OW _ r1 r2⟩⟩
 split
 ·split
  ·exact ⟨r,ak _ r.ep,.inr ⟨by simp,OW _ r1 r2⟩⟩
  split
  ·refine ⟨r,Ui (by simp) he (wrap_u64 _) ?_,.inr ⟨by simp,ahJ _ _ _ r1 r2 λhn=>ah hn⟩⟩
   simp only;split
   ·exact r.ep
   ·simp
  ·next ha=>
   have ha:(lX h (ba,ep,t)).2=0:=by simpa using ha
   have h1:=(aah ha).2.2.2.2;have h2:=(ag4 r.good ht ha).1.good;have h3:0<=(lX h (ba,ep,t)).1.1/\(lX h (ba,ep,t)).1.1 < 18446744073709551616:=by rw [h1];exact he
   exact ⟨⟨r1,r2,h2,h3,λe=>by cases e⟩,ak _ h3,.inr ⟨by simp,OW _ r1 r2⟩⟩
 ·exact ⟨r,z,.inl rfl⟩
end M
end Go.Proofs.YtilkjidelblkfaaGreatDoor
