/- What the trees compute: plain laws. -/
import Derived.Test.YtcpfjpcdcafjmaaGreatDoorKKe6
import Derived.Test.YtcpfjpcdcafjmaaGreatDoorKKe7
namespace Go.Proofs.YtcpfjpcdcafjmaaGreatDoor
open Go Go.aO
set_option linter.unusedSimpArgs false
set_option linter.unusedVariables false
set_option maxRecDepth 100000
namespace K
set_option maxHeartbeats 4000000 in
theorem crossBack (gs:List GV) (h:hasArgs [(true,Xu),(true,Xu),(false,[.int .u8]),(false,[.int .u8]),(false,[.list false [.str]])] gs):TT.lim 1 gs=some [.b true]:=by
 obtain ⟨c1,gs,rfl,h1,h⟩:=abS h;obtain ⟨c2,gs,rfl,h2,h⟩:=abS h;obtain ⟨g3,gs,rfl,h3,h⟩:=UR h;obtain ⟨g4,gs,rfl,h4,h⟩:=UR h;obtain ⟨g5,gs,rfl,h5,h⟩:=UR h;obtain rfl:=ajG h;obtain ⟨b,l,hb,hl,e⟩:=ad6 h1;obtain ⟨o,l2,ho,hl2,e2⟩:=ad6 h2;obtain ⟨v,rfl,v0,v1⟩:=abV h3;obtain ⟨w,rfl,w0,w1⟩:=abV h4;obtain ⟨ns,rfl, -, -⟩:=ajJ h5;rw [e,e2];have hf:=abm b l hb hl;have hf2:=abm o l2 ho hl2;clear h1 h2 h3 h4 h5 h e e2;unfold strs;have hnl:((ns.map GV.s).length:Int)=(ns.length:Int):=by rw [nV]
 cases hfw:Dh b l with
 | false=>
   rw [hfw] at hf;refine aW rfl rfl ?_ rfl;simp [jk,hf]
 | true=>
 cases hfw2:Dh o l2 with
 | false=>
   rw [hfw] at hf;rw [hfw2] at hf2;refine aW rfl rfl ?_ rfl;simp [jk,hf,hf2]
 | true=>
 rw [hfw] at hf;rw [hfw2] at hf2;obtain ⟨mb,hsb,OV⟩:=ad7 hb hl hfw;obtain ⟨mo,hso,f8o⟩:=ad7 ho hl2 hfw2;have short:∀ {b:aB} {l:List One},Dh b l=true->Short b:=λh=>by
  unfold Dh at h;simp only [aJ,decide_eq_true_iff] at h;exact ⟨h.1,h.2.1,h.2.2.1⟩
 have BI:=short hfw2;have QU:=short hfw;have h60:l.length<=60:=by
  have f8:=OV;unfold uU at f8;rw [aJ,decide_eq_true_iff] at f8;exact f8.2
 have hsz:=acX l;have hw8:=alh l OV;have wo:tu b (sG l):=⟨mb,QU,by omega,by omega⟩
 have hm:=acW b l hl OV;have hm2:=acW o l2 hl2 f8o;have CV:=TN o.t mo.body.t mo.t.few;obtain ⟨lo1,lo3⟩:=afg v0 v1;obtain ⟨hi1,hi3⟩:=afg w0 w1;clear short hb ho hl hl2 hfw hfw2 OV f8o v0 v1 w0 w1;generalize hlo:IntKind.i64.wrap (IntKind.i64.wrap (v.tmod 3)+1)=lo at *;generalize hhi:IntKind.i64.wrap (IntKind.i64.wrap (w.tmod 3)+1)=hi at *;generalize l.map one=L1 at *;generalize l2.map one=L2 at *;generalize sG l=fb at *;generalize sG l2=fo at *;by_cases TF:30 < ns.length
 ·have TF:(30:Int) < ns.length:=by omega
  clear hm hm2;generalize ns.map GV.s=NS at *;refine aW rfl rfl ?_ rfl;simp [jk,hf,hf2,hnl,TF]
 have EL:¬ (30:Int) < ns.length:=by omega
 by_cases t2:uS o.t=0;rotate_left
 ·generalize uS o.t=E2 at *
  clear hm hm2;generalize ns.map GV.s=NS at *;generalize (ns.length:Int)=NL at *;refine aW rfl rfl ?_ rfl;simp -implicitDefEqProofs (maxSteps:=10000000) [↓jF,jk,hf,hf2,hnl,EL,CV,t2]
 rw [t2] at CV;by_cases hlt:hi < lo
 ·clear hm2
  generalize ns.map GV.s=NS at *;generalize (ns.length:Int)=NL at *;generalize aC fb=r1 at *;refine aW rfl rfl ?_ rfl;simp -implicitDefEqProofs (maxSteps:=10000000) [↓jF,jk,hf,hf2,hnl,EL,CV,hlo,hhi,hlt,hm]
 have g1:=abN wo hi;by_cases ce:(kN b fb hi).2=0;rotate_left
 ·rw [yg ce] at g1
  clear hm2;generalize ns.map GV.s=NS at *;generalize (ns.length:Int)=NL at *;generalize aC fb=r1 at *;refine aW rfl rfl ?_ rfl;simp -implicitDefEqProofs (maxSteps:=10000000) [↓jF,jk,hf,hf2,hnl,EL,CV,hlo,hhi,hlt,hm,g1]
 rw [yh ce] at g1;have kf:=PX b.kind;by_cases f1:lo < jm b.kind
 ·clear hm2
  generalize jm b.kind=K at *;generalize ns.map GV.s=NS at *;generalize (ns.length:Int)=NL at *;generalize aC fb=r1 at *;refine aW rfl rfl ?_ rfl;simp -implicitDefEqProofs (maxSteps:=10000000) [↓jF,jk,hf,hf2,hnl,EL,CV,hlo,hhi,hlt,hm,g1,kf,f1]
 obtain ⟨hc,hlen,hen⟩:=aa2 ce;have hle:lo<=hi:=by omega
 have f1':jm b.kind<=lo:=by omega
 have k1:=ald wo hi lo hle;rw [Tc ce,hen] at k1;have d1:=Xy wo hc lo1 hle f1' hlen;have d3:=Xy wo hc hi1 (En hi) (by omega) hlen;obtain ⟨s1,s2⟩:=aea hc;rw [s1,s2] at d3;have k2:=LV wo hi;rw [hen] at k2;have ea:=aog hc lo1 hle f1';have wa:=aoi (w:=lo) wo (by omega) (by omega) hc hle;have rp:=(FZ hc hle).1;have pb:=λ(x:List (List UInt8))=>anD (o:=o) (ns:=x) BI hc lo1 hle f1';have hka:(fM b { bP with kind:=b.kind } (aG b.kind lo)).kind=b.kind:=zF b _ _;generalize fM b { bP with kind:=b.kind } (aG b.kind lo)=A at *;generalize fK (aG b.kind lo) (gB b fb hi)=LA at *;have k3:=LV wa lo;rw [ea,hen] at k3;have k4:=aok (by omega) d1 wa;rw [ea,hen] at k4;have k5:=acD wa lo hi hle;rw [Tc (by rw [ea];exact ce),ea,hen] at k5;simp only [d1,d3] at k1 k5;have k6:=wo.msg.adi (iD wo.sz (by decide));have k7:=Ll b.kind lo lo1 lo3 f1';have k8:=ZM wa.msg wo.msg QU o (.l (ns.map .s)) (.i .i64 lo) (.i .i64 hi) (.l L2) _ _ rfl rfl (aG b.kind lo) (iD (xB _ _) (by decide)) (λs hs=>by
  cases hq:placeOf s.name with
  | none=>exact absurd hq (VA _ _ s hs)
  | some q=>exact ⟨q,rfl,adL (rp s hs q hq).1⟩) (aG b.kind lo).length 0 [] (by omega) (by simp)
 have hkl:((aG b.kind lo).map bM.name).length<=1000:=by rw [nV];exact iD (xB _ _) (by decide)
 have k9:=TJ A b o (.i .i64 lo) (.i .i64 hi) (.l (aC LA)) (.l (aC fb)) (.l L2) ((aG b.kind lo).map bM.name) ns hkl (by omega) ns.length 0 [] (by omega) (by simp);rw [dY,bK,wU] at k8 k9;have hsl:(((aG b.kind lo).map dN).length:Int)=((aG b.kind lo).length:Int):=by rw [nV]
 have hin:∀n∈ns.filter (λn=>decide (n∈(aG b.kind lo).map bM.name)),jG (aG b.kind lo) n=true:=λn hn=>by
  obtain ⟨s,hs,e⟩:=nD.1 (Bf (pO.1 hn).2);exact KR.2 ⟨s,hs,e⟩
 have hlen2:(ns.filter (λn=>decide (n∈(aG b.kind lo).map bM.name))).length<=1000:=iD (Nq _ _) (by omega);simp only [vP] at k8 k9;generalize ns.filter (λn=>decide (n∈(aG b.kind lo).map bM.name))=so at *;have k10:=ad3 mo BI wa.msg (iD wa.sz (by decide)) so hlen2;have pm:=λh=>QF (fl:=LA) mo BI so A wa.msg h;have ps:=λh=>((Jc BI so A A).2 h).2.1 wa.short;have pb:=pb so hin;have k13:=ad3 mo BI wo.msg (iD wo.sz (by decide)) so hlen2;have pm2:=λh=>QF (fl:=fb) mo BI so b wo.msg h;have ps2:=λh=>((Jc BI so b b).2 h).2.1 QU;have p12:=(Jc BI so A b).1
 have fin:∃ (B:aB) (r4:List GV) (ER:Int),TT.lim 146 [bU A (aC LA),bU o (aC fo),.l (so.map .s)]=some [bU B r4,.i .i64 ER]/\(ER≠0\/ER=0/\(TT.lim 29 [bU B r4,.i .i64 lo]=some [.b false]\/TT.lim 29 [bU B r4,.i .i64 lo]=some [.b true]/\∃W:aB,
  TT.lim 129 [bU B r4,.i .i64 lo,.i .i64 hi]=some [bU W (aC fb),.i .i64 0]/\TT.lim 146 [bU b (aC fb),bU o (aC fo),.l (so.map .s)]=some [bU W (aC fb),.i .i64 0]/\TT.lim 130 [bU W (aC fb),bU W (aC fb)]=some [.b true])):=by
  by_cases er:(fC o A so).2=0;rotate_left
  ·rw [ah er] at k10
   exact ⟨_,_,_,k10,.inl er⟩
  rw [aj er] at k10;have wB:tu (fC o A so).1 LA:=⟨pm er,ps er,wa.sz,wa.w⟩
  have g2:=abN wB lo;refine ⟨_,_,_,k10,.inr ⟨rfl, ?_⟩⟩;by_cases ge:(kN (fC o A so).1 LA lo).2=0;rotate_left
  ·rw [yg ge] at g2
   exact .inl g2
  rw [yh ge] at g2;obtain ⟨hcB,ab3,abY⟩:=aa2 ge;obtain ⟨eW,kW,hcW,hby⟩:=pb er hcB;have wW:tu (fC o b so).1 fb:=⟨pm2 eW,ps2 eW,wo.sz,wo.w⟩
  have k12:=acD wB lo hi hle;rw [hby] at ab3 abY;rw [Tc ge,abY] at k12;have d4:=Xy wW hcW hi1 (En hi) (by rw [kW];omega) ab3;obtain ⟨s3,s4⟩:=aea hcW;rw [s3,s4] at d4;simp only [d4] at k12;rw [aj eW] at k13;exact .inr ⟨g2,_,k12,k13,wW.msg.adi (iD wW.sz (by decide))⟩
 simp only [bg,cu,bK] at k8 k9;clear TF hsz hw8 mb hsb hso h60 ea rp d1 d3 s1 s2 hkl hin hlen2 t2 pb k10 k13 pm pm2 ps ps2 ce hc hlen hen wo wa mo BI QU hi1 hi3 lo1 lo3 f1' hka;generalize ((aG b.kind lo).map bM.name).map GV.s=KN at *;generalize (aG b.kind lo).map dN=KS at *;generalize ((aG b.kind lo).length:Int)=KL at *;generalize so.map GV.s=SO at *;generalize ns.map GV.s=NS at *;generalize (ns.length:Int)=NL at *;generalize bytesV b fb hi=BY at *;generalize jm b.kind=K at *;generalize aC fb=r1 at *;generalize aC LA=r2 at *;generalize aC fo=r3 at *;obtain ⟨B,r4,ER,p1,q | ⟨rfl,q | ⟨q,W,p2,p3,p4⟩⟩⟩:=fin
 ·refine aW rfl rfl ?_ rfl
  simp -implicitDefEqProofs (maxSteps:=10000000) [↓jF,jk,hf,hf2,hnl,EL,CV,hlo,hhi,hlt,hm,hm2,g1,kf,f1,k1,k2,k3,k4,k5,k6,k7,k8,k9,hsl,p1,q]
 ·refine aW rfl rfl ?_ rfl
  simp -implicitDefEqProofs (maxSteps:=10000000) [↓jF,jk,hf,hf2,hnl,EL,CV,hlo,hhi,hlt,hm,hm2,g1,kf,f1,k1,k2,k3,k4,k5,k6,k7,k8,k9,hsl,p1,q]
 ·refine aW rfl rfl ?_ rfl
  simp -implicitDefEqProofs (maxSteps:=10000000) [↓jF,jk,hf,hf2,hnl,EL,CV,hlo,hhi,hlt,hm,hm2,g1,kf,f1,k1,k2,k3,k4,k5,k6,k7,k8,k9,hsl,p1,q,p2,p3,p4]
end K
end Go.Proofs.YtcpfjpcdcafjmaaGreatDoor
