/- What the trees compute: plain laws. -/
import Derived.Test.YtjglbndncdkhhaaGreatDoorKUe8
namespace Go.Proofs.YtjglbndncdkhhaaGreatDoor
open Go Go.aN
set_option linter.unusedSimpArgs false
set_option linter.unusedVariables false
set_option maxRecDepth 100000
namespace U
theorem apF (b:aJ) (p:Pl):aK (oH b p) p=(0,[]):=by
 cases p with
 | num k=>rcases k with _ | _ | _ | _ | _ | _ | _ | _ | _ | _ | _ | _ | _ | _ | k<;>rfl
 | _=>rfl
theorem ady {o:aJ} {fo:List aC} (hm:jE o fo) (ho:Short o):∀ (ns:List (List UInt8)) (b:aJ),(dQ o b ns).2=0->∀n∈ns,∀q,placeOf n=some q->aK (dQ o b ns).1 q=aK o q
 | [],b,_,n,hn,_,_=>by cases hn
 | m::r,b,h,n,hn,q,hq=>by
   unfold dQ at h ⊢;cases hp:placeOf m with
   | none=>rw [hp] at h;exact absurd h (by simp)
   | some p=>
     rw [hp] at h;simp only at h ⊢;have hpk:=(mJ m p hp).2.1;have hqk:=(mJ n q hq).2.1
     -- the step, and what follows
     have key:∀B:aJ,aK B p=aK o p->(dQ o B r).2=0->aK (dQ o B r).1 q=aK o q:=λB hB h=>by
      by_cases hr:∃n'∈r,placeOf n'=some q
      ·obtain ⟨n',h1,h2⟩:=hr
       exact ady hm ho r B h n' h1 q h2
      ·have:=((Ew ho r B B).2 h).2.2.2 B q hqk λn' h1 h2=>hr ⟨n',h1,h2⟩
       rw [Wq (this.2 (Qa B q))];rcases bU.1 hn with e | hn
       ·subst e
        rw [hp] at hq;injection hq with hq
        rw [<- hq];exact hB
       ·exact absurd ⟨n,hn,hq⟩ hr
     by_cases hz:aK o p=(0,[])
     ·rw [aj hz] at h ⊢
      exact key _ (by rw [apF,hz]) h
     ·rw [ah hz] at h ⊢
      by_cases hc:iJ (bF p) (aK o p).1 (aK o p).2 p=0
      ·rw [aj hc] at h ⊢
       obtain ⟨⟨v1,v2⟩,v3⟩:=LK hm ho p;refine key _ ?_ h;rw [(apG (b:=b) hpk v1 v3 hc).2.1];rcases aeJ o p with ⟨e1,e2⟩ | ⟨e1,e2⟩
       ·rw [aj e1]
        exact Prod.ext rfl e2.symm
       ·rw [ah (by omega)]
        exact Prod.ext e2.symm rfl
      ·rw [ah hc] at h
       exact absurd h hc
/-- What isn't the same behind a Put was put. -/
theorem af9 {o b:aJ} (ho:Short o) {ns:List (List UInt8)} (h:(dQ o b ns).2=0) (fl:List aC):∀n∈DC (dQ o b ns).1 fl b fl,n∈ns:=by
 obtain ⟨k1, -, -,k4⟩:=(Ew ho ns b b).2 h;intro n hn;unfold DC at hn;rw [aj k1,aj (abJ rfl),bV,kK] at hn;unfold mZ at hn;obtain ⟨h1,h2⟩:=lY.1 hn;obtain ⟨q,hq⟩:=RU.1 (Ef n h1);by_cases hm:n∈ns
 ·exact hm
 ·exfalso
  have hp:=(k4 b q (mJ n q hq).2.1 λm hm' e=>hm (by rw [Qc hq e];exact hm')).2 (Qa b q);have:iK (dQ o b ns).1 n=iK b n:=by
   unfold iK;rw [hq];exact Wq hp
  rw [this] at h2;simp at h2
theorem XV (a b y:aJ) (x1 x2 x3 x4 x5 r1 r2 r3:GV) (ns:List (List UInt8)) (hk:ns.length<=1000) (ls:List bJ) (hl:ls.length<=1000):∀ (m i:Nat) (acc:List (List UInt8)),i+m=ls.length->acc.length<=i->
 TT.lim 127 ([.l (ns.map .s),x1,x2,x3,x4,x5,.l (ls.map dG),.i .i64 ls.length,.i .i64 i,.l (acc.map .s)]++(.i .i64 a.kind::(dK a++[r1]))++(.i .i64 b.kind::(dK b++[r2]))++(.i .i64 y.kind::(dK y++[r3])))=some [.i .i64 0,.l ((acc++((ls.drop i).map bJ.name).filter (λn=>decide (n∈ns))).map .s)]
 | 0,i,acc,hi,hacc=>by
   have h:¬ ((i:Int) < ls.length):=by omega
   have e:ls.drop i=[]:=gY (by omega);rw [e];simp only [uD,Rz,kK,dK,dV,bV];generalize acc.map GV.s=A at *;refine aG rfl rfl ?_;simp -implicitDefEqProofs [h]
 | m+1,i,acc,hi,hacc=>by
   have hlt:i < ls.length:=by omega
   have h:((i:Int) < ls.length):=by omega
   have hw:=wrap64 (n:=(i:Int)+1) (by omega) (by omega);have hcast:((i+1:Nat):Int)=(i:Int)+1:=by omega
   have hd2:=jw hlt;have hget:(ls.map dG)[i]? = some (.g [.i .u64 ls[i].tag,.i .i64 ls[i].use,.i .i64 ls[i].from_,.s ls[i].name]):=aoJ hlt;have hc:=abg ls[i].name ns hk;have la:(acc.map GV.s).length=acc.length:=kM _;have c1:2 * ((acc.map GV.s).length+1) * 16<=281474976710656/\(acc.map GV.s).length+1<=281474976710656:=by omega
   rw [hd2,iQ,CU];by_cases hm:ls[i].name∈ns
   ·rw [Bl hm] at hc ⊢
    rw [aj rfl];have ih:=XV a b y x1 x2 x3 x4 x5 r1 r2 r3 ns hk ls hl m (i+1) (acc++[ls[i].name]) (by omega) (by rw [dH,xM];omega);have happ:acc++[ls[i].name]++((ls.drop (i+1)).map bJ.name).filter (λn=>decide (n∈ns))=acc++(ls[i].name::((ls.drop (i+1)).map bJ.name).filter (λn=>decide (n∈ns))):=by simp
    rw [hcast,happ,sD (l₂:=[ls[i].name]),iQ,uD] at ih;generalize (acc++(ls[i].name::((ls.drop (i+1)).map bJ.name).filter (λn=>decide (n∈ns)))).map GV.s=O at *;clear hd2 happ hm;generalize ls[i].tag=s1 at *;generalize ls[i].use=s2 at *;generalize ls[i].from_=s3 at *;generalize ls[i].name=n at *;generalize ns.map GV.s=NS at *;generalize ls.map dG=LS at *;generalize (ls.length:Int)=L at *;generalize acc.map GV.s=A at *;simp only [dK,dV,bV] at ih ⊢;refine aG rfl rfl ?_;simp -implicitDefEqProofs (maxSteps:=10000000) [↓jy,h,hw,hget,hc,DN,c1,ih]
   ·rw [DK hm] at hc ⊢
    rw [ah (by decide)];have ih:=XV a b y x1 x2 x3 x4 x5 r1 r2 r3 ns hk ls hl m (i+1) acc (by omega) (by omega);rw [hcast] at ih;generalize (acc++((ls.drop (i+1)).map bJ.name).filter (λn=>decide (n∈ns))).map GV.s=O at *;clear hd2 hm;generalize ls[i].tag=s1 at *;generalize ls[i].use=s2 at *;generalize ls[i].from_=s3 at *;generalize ls[i].name=n at *;generalize ns.map GV.s=NS at *;generalize ls.map dG=LS at *;generalize (ls.length:Int)=L at *;generalize acc.map GV.s=A at *;simp only [dK,dV,bV] at ih ⊢;refine aG rfl rfl ?_;simp -implicitDefEqProofs (maxSteps:=10000000) [↓jy,h,hw,hget,hc,DN,c1,ih]
/-- All that is changed is among what was put. -/
theorem ael (cs so:List (List UInt8)) (hk:so.length<=1000) (hl:cs.length<=1000) (hs:∀n∈cs,n∈so):∀ (m i:Nat),i+m=cs.length->
 TT.lim 142 [.l (cs.map .s),.i .i64 cs.length,.i .i64 i,.l (so.map .s)]=some [.i .i64 1]
 | 0,i,hi=>by
   have h:¬ ((i:Int) < cs.length):=by omega
   generalize so.map GV.s=S at *;generalize cs.map GV.s=C at *;refine aG rfl rfl ?_;simp -implicitDefEqProofs [h]
 | m+1,i,hi=>by
   have hlt:i < cs.length:=by omega
   have h:((i:Int) < cs.length):=by omega
   have hw:=wrap64 (n:=(i:Int)+1) (by omega) (by omega);have hcast:((i+1:Nat):Int)=(i:Int)+1:=by omega
   have hget:(cs.map GV.s)[i]? = some (.s cs[i]):=by rw [iq,bP hlt];rfl
   have hc:=abg cs[i] so hk;rw [Bl (hs _ (je hlt))] at hc;have ih:=ael cs so hk hl hs m (i+1) (by omega);rw [hcast] at ih;have k:TT.lim 143 [.s cs[i],.l (so.map .s)]=some [.i .i64 0,.b false]:=by
    generalize so.map GV.s=S at *;refine aG rfl rfl ?_;simp -implicitDefEqProofs [hc]
   generalize so.map GV.s=S at *;generalize cs.map GV.s=C at *;generalize (cs.length:Int)=L at *;refine aG rfl rfl ?_;simp -implicitDefEqProofs [h,hw,hget,k,ih]
theorem apg (cs so:List (List UInt8)) (hk:so.length<=1000) (hl:cs.length<=1000) (hs:∀n∈cs,n∈so):TT.lim 140 [.l (cs.map .s),.l (so.map .s)]=some [.i .i64 0,.b false]:=by
 have h0:=ael cs so hk hl hs cs.length 0 (by omega);simp only [qO] at h0;have hcl:((cs.map GV.s).length:Int)=(cs.length:Int):=by rw [kM]
 have k:TT.lim 141 [.l (cs.map .s),.l (so.map .s)]=some [.i .i64 0,.i .i64 (-1)]:=by
  generalize so.map GV.s=S at *;generalize cs.map GV.s=C at *;refine aG rfl rfl ?_;simp -implicitDefEqProofs [hcl,h0]
 generalize so.map GV.s=S at *;generalize cs.map GV.s=C at *;refine aG rfl rfl ?_;simp -implicitDefEqProofs [k]
/-- What was put is there. -/
theorem aem {a o:aJ} {fa fo:List aC} (ha:jE a fa) (ho:jE o fo) (b:aJ) (r2:GV) (r1 r3 L2:List GV) (e1:aA fa=r1) (e3:aA fo=r3) (hmk:TT.lim 26 [dU o L2]=some [dU o r3]) (x0 x1 x2 x3 x4 x5 x6 x7:GV) (so:List (List UInt8)) (hl:so.length<=1000) (hs:∀n∈so,∃q,placeOf n=some q/\aK a q=aK o q):∀ (m i:Nat),i+m=so.length->
 TT.lim 144 ([x0,x1,x2,x3,x4,x5,x6,x7,.l (so.map .s),.i .i64 so.length,.i .i64 i]++(.i .i64 a.kind::(dK a++[.l r1]))++(.i .i64 b.kind::(dK b++[r2]))++(.i .i64 o.kind::(dK o++[.l L2])))=some [.i .i64 1]
 | 0,i,hi=>by
   have h:¬ ((i:Int) < so.length):=by omega
   generalize so.map GV.s=S at *;simp only [dK,dV,bV];refine aG rfl rfl ?_;simp -implicitDefEqProofs [h]
 | m+1,i,hi=>by
   have hlt:i < so.length:=by omega
   have h:((i:Int) < so.length):=by omega
   have hw:=wrap64 (n:=(i:Int)+1) (by omega) (by omega);have hcast:((i+1:Nat):Int)=(i:Int)+1:=by omega
   have hget:(so.map GV.s)[i]? = some (.s so[i]):=by rw [iq,bP hlt];rfl
   obtain ⟨q,hq,hv⟩:=hs _ (je hlt);have va:=VH ha hq;have vo:=VH ho hq;rw [hv] at va;have ih:=aem ha ho b r2 r1 r3 L2 e1 e3 hmk x0 x1 x2 x3 x4 x5 x6 x7 so hl hs m (i+1) (by omega);rw [hcast] at ih;clear hv hq hs;generalize bF q=ty at *;generalize (aK o q).1=vn at *;generalize (aK o q).2=vt at *;generalize so[i]=n at *;generalize so.map GV.s=S at *;generalize (so.length:Int)=L at *;unfold dU at va vo hmk;rw [e1] at va;rw [e3] at vo;simp only [dK,dV,bV] at ih va vo hmk ⊢;refine aG rfl rfl ?_;simp -implicitDefEqProofs (maxSteps:=10000000) [↓jy,h,hw,hget,va,vo,hmk,ih]
theorem ajY (k v:Int):∀n∈(aB k v).map bJ.name,∃q,placeOf n=some q:=λn hn=>by
 obtain ⟨s,hs,rfl⟩:=kX.1 hn;exact RU.1 (Vh k v s hs)
theorem af8 (b c:aJ) (fb fc:List aC):(DC b fb c fc).length<=1000:=by
 have h:=ZK b c dF;have h22:dF.length=22:=by decide
 unfold DC;rw [dH,dH];have h1:(if b.kind=c.kind then [] else [[107,105,110,100]]:List (List UInt8)).length<=1:=by split<;>simp
 have h2:(if oK (fb=fc)=true then [] else [[114,101,115,116]]:List (List UInt8)).length<=1:=by split<;>simp
 omega
set_option maxHeartbeats 4000000 in
theorem tcl {b o:aJ} {fb fo:List aC} (wo:wO b fb) (sz:bH fb<=1000) (O3:wL fb<=1000000) (mo:jE o fo) (uo:Short o) (L2 r1 r3:List GV) (e1:aA fb=r1) (e3:aA fo=r3) (hmk:TT.lim 26 [dU o L2]=some [dU o r3])
 (ns:List (List UInt8)) (hn:ns.length<=1000) {w:Int} (hw1:1<=w) (hw3:w<=3) (hc:eY b fb w=0) (hl:(bytesV b fb w).length<=65536):∀ (m:Nat) (v:Int),1<=v->v+m=w+1->
 TT.lim 92 ([.l (ns.map .s),.i .i64 w,.s (bytesV b fb w),.i .i64 v]++(.i .i64 b.kind::(dK b++[.l r1]))++(.i .i64 o.kind::(dK o++[.l L2])))=some [.i .i64 1]
 | 0,v,h1,hm=>by
   have h:¬ (v<=w):=by omega
   generalize bytesV b fb w=s at *;generalize ns.map GV.s=NS at *;simp only [dK,dV,bV];refine aG rfl rfl ?_;simp -implicitDefEqProofs [h]
 | m+1,v,h1,hm=>by
   have h:v<=w:=by omega
   have hv3:v<=3:=by omega
   have hwr:=wrap64 (n:=v+1) (by omega) (by omega);have ih:=tcl wo sz O3 mo uo L2 r1 r3 e1 e3 hmk ns hn hw1 hw3 hc hl m (v+1) (by omega) (by omega);have kf:=O9 b.kind;have dk:=decode_ok (bytesV b fb w) v (by omega);by_cases f1:v < iV b.kind
   ·rw [ahr hc h1 h f1 hl] at dk
    simp only at dk;unfold dU at dk;generalize bytesV b fb w=s at *;generalize iV b.kind=K at *;generalize ns.map GV.s=NS at *;clear hmk hc hl wo mo uo e1 e3 sz O3;simp only [dK,dV,bV] at ih ⊢;refine aG rfl rfl ?_;simp -implicitDefEqProofs (maxSteps:=10000000) [↓jy,h,kf,f1,dk,hwr,ih]
   have f1':iV b.kind<=v:=by omega
   have hen:sW b fb w=(bytesV b fb w,0):=by
    unfold sW;rw [aj hc,ah (by omega)]
   rw [adD wo hc h1 h f1' hl] at dk;simp only at dk;have ea:=ana hc h1 h f1';have wa:=anf (w:=v) wo sz O3 hc h;have pb:=λ(x:List (List UInt8))=>amw (o:=o) (ns:=x) uo hc h1 h f1';have hka:(fJ b { bM with kind:=b.kind } (aB b.kind v)).kind=b.kind:=yL b _ _;generalize fJ b { bM with kind:=b.kind } (aB b.kind v)=A at *;generalize fH (aB b.kind v) (fE b fb w)=LA at *;have k3:=Ws wa v;rw [ea,hen] at k3;simp only at k3;have k7:=JX b.kind v h1 hv3 f1';have hkl:((aB b.kind v).map bJ.name).length<=1000:=by rw [kM];exact iF (vT _ _) (by decide)
   have k8:=λ(x4 x5 R1 R2 R3:GV)=>XV A b o (.i .i64 w) (.s (bytesV b fb w)) (.i .i64 v) x4 x5 R1 R2 R3 ns hn (aB b.kind v) (iF (vT _ _) (by decide)) (aB b.kind v).length 0 [] (by omega) (by simp);have k8:=k8 (.i .i64 0) (.s (bytesV b fb w)) (.l (aA LA)) (.l r1) (.l L2);rw [eH,bV,uD] at k8;simp only [qO] at k8;have hsl:(((aB b.kind v).map dG).length:Int)=((aB b.kind v).length:Int):=by rw [kM]
   have hin:∀n∈((aB b.kind v).map bJ.name).filter (λn=>decide (n∈ns)),jA (aB b.kind v) n=true:=λn hn=>by
    obtain ⟨s,hs,e⟩:=kX.1 (lY.1 hn).1;exact JE.2 ⟨s,hs,e⟩
   have hpl:∀n∈((aB b.kind v).map bJ.name).filter (λn=>decide (n∈ns)),∃q,placeOf n=some q:=λn hn=>ajY _ _ n (lY.1 hn).1;have hlen2:(((aB b.kind v).map bJ.name).filter (λn=>decide (n∈ns))).length<=1000:=iF (Iz _ _) hkl;generalize ((aB b.kind v).map bJ.name).filter (λn=>decide (n∈ns))=so at *;have k10:=amz mo uo wa.msg (iF wa.sz (by decide)) so hlen2;have pm:=λh=>Qk (fl:=LA) mo uo so A wa.msg h;have ps:=λh=>((Ew uo so A A).2 h).2.1 wa.short;have pb:=pb so hin
   have fin:∃ (B:aJ) (r4:List GV) (ER:Int),TT.lim 131 [dU A (aA LA),dU o r3,.l (so.map .s)]=some [dU B r4,.i .i64 ER]/\(ER≠0\/ER=0/\∃ (T:List UInt8) (E:Int),TT.lim 30 [dU B r4,.i .i64 v]=some [.s T,.i .i64 E]/\(E≠0\/E=0/\∃ (W:aJ) (cs:List (List UInt8)),
    TT.lim 93 [.s T,.i .i64 w]=some [dU W r1,.i .i64 0]/\TT.lim 135 [dU W r1,dU b r1]=some [.l (cs.map .s)]/\TT.lim 140 [.l (cs.map .s),.l (so.map .s)]=some [.i .i64 0,.b false]/\
    ∀ (x0 x1 x2 x3 x4 x5 x6 x7:GV),TT.lim 144 ([x0,x1,x2,x3,x4,x5,x6,x7,.l (so.map .s),.i .i64 so.length,.i .i64 0]++(.i .i64 W.kind::(dK W++[.l r1]))++(.i .i64 b.kind::(dK b++[.l r1]))++(.i .i64 o.kind::(dK o++[.l L2])))=some [.i .i64 1])):=by
    rw [e3] at k10;by_cases er:(dQ o A so).2=0;rotate_left
    ·rw [ah er] at k10
     exact ⟨_,_,_,k10,.inl er⟩
    rw [aj er] at k10;have wB:wO (dQ o A so).1 LA:=⟨pm er,ps er,wa.sz,wa.w⟩
    have g2:=Ws wB v;refine ⟨_,_,_,k10,.inr ⟨rfl,_,_,g2, ?_⟩⟩;by_cases ge:(sW (dQ o A so).1 LA v).2=0;rotate_left
    ·exact .inl ge
    refine .inr ⟨ge, ?_⟩;obtain ⟨hcB,abq,abm⟩:=aau ge;obtain ⟨eW,kW,hcW,hby⟩:=pb er hcB;have WY:=Qk (fl:=fb) mo uo so b wo.msg eW;have wW:wO (dQ o b so).1 fb:=⟨WY,((Ew uo so b b).2 eW).2.1 wo.short,wo.sz,wo.w⟩
    rw [hby] at abq abm;have d4:=adD wW hcW hw1 (E9 w) (by rw [kW];omega) abq;obtain ⟨s3,s4⟩:=ane hcW;rw [s3,s4] at d4;have dk2:=decode_ok (bytesV (dQ o b so).1 fb w) w (by omega);rw [d4] at dk2;simp only at dk2;rw [e1] at dk2;have ch:=af0 WY wo.msg (iF wo.sz (by decide));rw [e1] at ch;have cin:=af9 (b:=b) uo eW fb;have cl:(DC (dQ o b so).1 fb b fb).length<=1000:=af8 _ _ _ _;refine ⟨_,_, ?_,ch,apg _ so hlen2 cl cin,λx0 x1 x2 x3 x4 x5 x6 x7=>?_⟩
    ·rw [abm];exact dk2
    have k:=aem WY mo b (.l r1) r1 r3 L2 e1 e3 hmk x0 x1 x2 x3 x4 x5 x6 x7 so hlen2 (λn hn=>by
     obtain ⟨q,hq⟩:=hpl n hn;exact ⟨q,hq,ady mo uo so b eW n hn q hq⟩) so.length 0 (by omega)
    simpa only [qO] using k
   have ajp:((so.map GV.s).length:Int)=(so.length:Int):=by rw [kM]
   clear hkl hin hpl hlen2 pb k10 pm ps ea wa hka hc hl hen wo mo uo sz O3 e1 e3 hn hw1 hw3 hm;generalize aA LA=r2 at *;generalize so.map GV.s=SO at *;generalize (so.length:Int)=SL at *;generalize (aB b.kind v).map dG=KS at *;generalize ((aB b.kind v).length:Int)=KL at *;generalize bytesV b fb w=s at *;generalize iV b.kind=K at *;generalize ns.map GV.s=NS at *;simp only [dK,dV,bV] at k8 ih fin ⊢;obtain ⟨B,r4,ER,p1,q | ⟨rfl,T,E,p2,q | ⟨rfl,W,cs,p3,p4,p5,p6⟩⟩⟩:=fin
   ·refine aG rfl rfl ?_
    simp -implicitDefEqProofs (maxSteps:=10000000) [↓jy,jY,h,kf,f1,dk,k3,k7,k8,hsl,hmk,hwr,p1,q,ih]
   ·refine aG rfl rfl ?_
    simp -implicitDefEqProofs (maxSteps:=10000000) [↓jy,jY,h,kf,f1,dk,k3,k7,k8,hsl,hmk,hwr,p1,p2,q,ih]
   ·generalize cs.map GV.s=CS at *
    refine aG rfl rfl ?_;simp -implicitDefEqProofs (maxSteps:=10000000) [↓jy,jY,h,kf,f1,dk,k3,k7,k8,hsl,ajp,hmk,hwr,p1,p2,p3,p4,p5,p6,ih]
set_option maxHeartbeats 4000000 in
theorem topCross (gs:List GV) (h:hasArgs [(true,Xh),(true,Xh),(false,[.int .u8]),(false,[.list false [.str]])] gs):TT.lim 1 gs=some [.b true]:=by
 obtain ⟨c1,gs,rfl,h1,h⟩:=abe h;obtain ⟨c2,gs,rfl,h2,h⟩:=abe h;obtain ⟨g4,gs,rfl,h4,h⟩:=abf h;obtain ⟨g5,gs,rfl,h5,h⟩:=abf h;obtain rfl:=aiU h;obtain ⟨b,l,hb,hl,e⟩:=adz h1;obtain ⟨o,l2,ho,hl2,e2⟩:=adz h2;obtain ⟨w,rfl,w0,w1⟩:=aiX h4;obtain ⟨ns,rfl, -, -⟩:=aiW h5;rw [e,e2];have hf:=aaK b l hb hl;have hf2:=aaK o l2 ho hl2;clear h1 h2 h4 h5 h e e2;unfold strs;have al:TT.lim 2 []=some [.b true]:=by
  refine bD rfl rfl ?_ rfl;simp
 have hnl:((ns.map GV.s).length:Int)=(ns.length:Int):=by rw [kM]
 cases hfw:BG b l with
 | false=>
   rw [hfw] at hf;refine bD rfl rfl ?_ rfl;simp -implicitDefEqProofs [jY,al,hf]
 | true=>
 cases hfw2:BG o l2 with
 | false=>
   rw [hfw] at hf;rw [hfw2] at hf2;refine bD rfl rfl ?_ rfl;simp -implicitDefEqProofs [jY,al,hf,hf2]
 | true=>
 rw [hfw] at hf;rw [hfw2] at hf2;obtain ⟨mb,hsb,Ol⟩:=adA hb hl hfw;obtain ⟨mo,hso,f8o⟩:=adA ho hl2 hfw2;have short:∀ {b:aJ} {l:List One},BG b l=true->Short b:=λh=>by
  unfold BG at h;simp only [aI,decide_eq_true_iff] at h;exact ⟨h.1,h.2.1,h.2.2.1⟩
 have uo:=short hfw2;have shb:=short hfw;have h60:l.length<=60:=by
  have f8:=Ol;unfold sZ at f8;rw [aI,decide_eq_true_iff] at f8;exact f8.2
 have hsz:=acn l;have hw8:=akB l Ol;have wo:wO b (qI l):=⟨mb,shb,by omega,by omega⟩
 have hm:=acj b l hl Ol;have hm2:=acj o l2 hl2 f8o;have NW:=Td o.t mo.body.t mo.t.few;obtain ⟨hi1,hi3⟩:=apK w0 w1;clear short hb ho hl hl2 hfw hfw2 Ol f8o w0 w1;generalize hhi:IntKind.i64.wrap (IntKind.i64.wrap (w.tmod 3)+1)=hi at *;generalize l.map one=L1 at *;generalize l2.map one=L2 at *;generalize qI l=fb at *;generalize qI l2=fo at *;by_cases Zu:30 < ns.length
 ·have Zu:(30:Int) < ns.length:=by omega
  clear hm hm2;generalize ns.map GV.s=NS at *;refine bD rfl rfl ?_ rfl;simp -implicitDefEqProofs [jY,al,hf,hf2,hnl,Zu]
 have SV:¬ (30:Int) < ns.length:=by omega
 by_cases t2:sU o.t=0;rotate_left
 ·generalize sU o.t=E2 at *
  clear hm hm2;generalize ns.map GV.s=NS at *;generalize (ns.length:Int)=NL at *;refine bD rfl rfl ?_ rfl;simp -implicitDefEqProofs (maxSteps:=10000000) [↓jy,jY,al,hf,hf2,hnl,SV,NW,t2]
 rw [t2] at NW;have k2:=Ws wo hi;by_cases ce:(sW b fb hi).2=0;rotate_left
 ·generalize sW b fb hi=E at *
  clear hm2;generalize ns.map GV.s=NS at *;generalize (ns.length:Int)=NL at *;generalize aA fb=r1 at *;refine bD rfl rfl ?_ rfl;simp -implicitDefEqProofs (maxSteps:=10000000) [↓jy,jY,al,hf,hf2,hnl,SV,NW,hhi,hm,k2,ce]
 obtain ⟨hc,hlen,hen⟩:=aau ce;rw [hen] at k2;simp only at k2;have kl:=tcl wo (by omega) (by omega) mo uo L2 _ _ rfl rfl hm2 ns (by omega) hi1 hi3 hc hlen hi.toNat 1 (by omega) (by omega);clear hm2 hsz hw8 mb hsb hso h60 mo uo shb wo hc hlen hen ce;generalize bytesV b fb hi=s at *;generalize ns.map GV.s=NS at *;generalize (ns.length:Int)=NL at *;generalize aA fb=r1 at *;simp only [dK,dV,bV] at kl;refine bD rfl rfl ?_ rfl;simp -implicitDefEqProofs (maxSteps:=10000000) [↓jy,jY,al,hf,hf2,hnl,SV,NW,hhi,hm,k2,kl]
end U
end Go.Proofs.YtjglbndncdkhhaaGreatDoor
