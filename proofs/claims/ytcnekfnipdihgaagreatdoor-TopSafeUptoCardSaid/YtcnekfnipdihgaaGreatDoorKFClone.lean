/- field.Clone: its walk. -/
import Derived.Test.YtcnekfnipdihgaaGreatDoorProg
import Derived.Test.YtcnekfnipdihgaaGreatDoorAbsFields
import Derived.Shelf.Slices.Clone
import Derived.Deep.LoopGhost
namespace Go.Proofs.YtcnekfnipdihgaaGreatDoor
open Go.Shelf Go.RowKit Go.Lib Go.aP Go.Deep
set_option maxRecDepth 100000
theorem awf:(Tryz.prog.info? 178).map (λi=>(i.zero,i.size,i.bytes))=some (some (.agg #[.int .u64 0,.int .i64 0,.int .u64 0,.string ⟨#[]⟩,.slice none 0 0]),5,64):=by kernel_rfl
theorem awh:(Tryz.prog.info? 157).map (λi=>(i.zero,i.size,i.bytes))=some (some (.slice none 0 0),1,24):=by kernel_rfl
set_option maxHeartbeats 4000000 in
theorem atI(v:Value)(fs:Wf)(w:World)(ro:QP)(hv:FS w (λb=>ro b≠none) fs v)(hlt:∀b,ro b≠none->b<w.heap.size)(hcnt:pY fs<=1099511627776):
 Calls Tryz.prog 208 #[v] w λer w'=>∃v',er=.returned v'/\∃p,CB 178 w ro fs v' w' p:=by
 obtain⟨i0,hi,hz0,hz1,hz2⟩:=info_parts awf;obtain⟨i1,hi',hz0',hz1',awc⟩:=info_parts awh;go_enter Tryz.func208,Tryz.ntmps208
 have hcl:fs.length<=1099511627776:=kR (Vq fs) hcnt
 obtain⟨m0,RY,hx0,hl0,h10,hn0⟩:∃(m:Nat)(news:Qt),((v=.slice none 0 0/\m=0/\news=[])\/∃ad c,v=.slice (some ad) m c/\∀j u,news[j]? =some u->w.cell? (ad.add j)=some u)/\news.length=m*5/\(∀u∈news,u.oneCell'=true)/\m=fs.length/\
  (∀w' p' pX,wZ w w' (λb=>ro b≠none) p'->(∀j u,news[j]? =some u->w'.cell? ⟨pX,j,none⟩=some u)->gV w' p' pX 0 fs):=by
  rcases hv.src with⟨rfl,rfl⟩|⟨ad,c,news,rfl,n1,n2,n3,n4⟩
  ·exact⟨0,[],.inl ⟨rfl,rfl,rfl⟩,rfl,aA,rfl,λ_ _ _ _ _=>by simp only[gV]⟩
  ·exact⟨_,news,.inr ⟨ad,c,rfl,n2⟩,n1,n3,rfl,n4⟩
 have A:Aside (((v=.slice none 0 0/\m0=0/\RY=[])\/∃ad c,v=.slice (some ad) m0 c/\∀j u,RY[j]? =some u->w.cell? (ad.add j)=some u)/\m0=fs.length/\(∀w' p' pX,wZ w w' (λb=>ro b≠none) p'->(∀j u,RY[j]? =some u->w'.cell? ⟨pX,j,none⟩=some u)->gV w' p' pX 0 fs)/\FS w (λb=>ro b≠none) fs v/\(∀b,ro b≠none->b<w.heap.size)):=⟨hx0,hn0.1,hn0.2,hv,hlt⟩
 clear hx0 hn0 hv hlt;go_wp2_with (at_builtin;refine amY _ rfl _ _ 157 rfl 178 i0 (.agg #[.int .u64 0,.int .i64 0,.int .u64 0,.string ⟨#[]⟩,.slice none 0 0]) 5 64 Tryz.underlying157 hi hz0 hz1 hz2 rfl aU rfl m0 RY v rfl A.out.1 hl0 h10 (by have:=A.out.2.1;unfold maxLen;omega) (by have:=A.out.2.1;omega) ?_)
 intro c1 w1 hown hgrow;have Ws:(∃p,CB 178 w ro fs c1 w1 p)/\newS w c1:=by
  obtain⟨-,hm,hcs,hv,hlt⟩:=A.out;have hpk:Pk 178 w w (λb=>ro b≠none):=⟨hlt,λb hb h1=>absurd (hlt b hb) ah⟩
  rw[hm]at hown;obtain⟨p',s1,s2,s3,s4,s5⟩:=FS.copied hpk (dK _) RY hcs hown hgrow;exact⟨⟨p',(Below.refl _ w).grown hgrow (dK _) aA,λb hb hlt'=>(s2 b hb).elim id (λh=>absurd hlt' ah),s3,s4⟩,s5⟩
 have hCI:=CI.start (T:=157) Ws.1 Ws.2;obtain⟨ca,cn,cc,rfl⟩:∃a n c,c1=.slice a n c:=by obtain⟨⟨p,hb⟩,_⟩:=Ws;exact hb.top.abr
 clear A hown hgrow Ws hl0 h10;go_wp2
 go_loopg [4] (1+pY fs) (λg wk wr=>CI 178 157 w ro fs (.slice ca cn cc) g wk wr/\g<=1099511627777)
 case atStart=>exact⟨hCI,ah⟩
 case round=>
  clear hCI;obtain⟨hci,hgk⟩:=hrel;rcases hci.pop with⟨a,c,rfl,hend⟩|⟨bl,cap,m,s,l,rfl,hcap,hmax,hcell,Wu⟩
  ·go_wp2
   go_ret
   exact⟨_,rfl,hend⟩
  ·clear hci;obtain⟨a',c',rfl⟩:=Wu.len;have hlb:=Wu.bound;have hw1:wrap64 (m:Int)=(m:Int):=(by unfold wrap64;omega)
   have B:Aside (gk<=1099511627777/\l.length<=gk/\pY fs<=1099511627776):=⟨hgk,hlb,hcnt⟩
   clear hmax hgk hlb hcnt hcl;go_wp2
   simp only[hw1];clear hw1;go_loopg [4,28] l.length (λk wk iv wi=>∃i:Nat,i<=l.length/\k=l.length-i/\iv=.int .i64 i/\II 178 157 w ro fs (.slice ca cn cc) gk l (.slice a' l.length c') i wk wi)
   case atStart=>exact⟨0,sG _,rfl,rfl,Wu⟩
   case round=>
    obtain⟨i,hi,rfl,rfl,hI⟩:=hrel;clear Wu hcell;by_cases hlt:i<l.length
    ·obtain⟨y9,off2,c2,li,vi,news,he,hc2,hcell2,hx,hln,h1,hlN,hmid⟩:=hI.step aU hlt;clear hI;simp only[Value.slice.injEq,true_and]at he;obtain⟨rfl,rfl⟩:=he;have hcap2:i<l.length:=hlt
     have B2:Aside (li.length<=gk/\(∀v' w1,w1.ownsRow wr.heap.size 178 5 v' li.length news->wr.grownBy w1 none->
      w1.cell? ⟨y9,off2+i*5+4,none⟩=some vi/\w1.frozen? ⟨y9,off2+i*5+4,none⟩=false/\(∃a c,v'=.slice a li.length c)/\
      MI 178 157 w ro fs (.slice ca cn cc) gk l (.slice (some ⟨y9,off2,none⟩) l.length c') (i+1) u4 (w1.setCell ⟨y9,off2+i*5+4,none⟩ v') v' li)/\
      ((vi=.slice none 0 0/\li=[]/\news=[])\/∃ad ci,vi=.slice (some ad) li.length ci/\∀j u,news[j]? =some u->wr.cell? (ad.add j)=some u)):=⟨hlN,hmid,hx⟩
     clear hlN hmid hx;go_wp2_with (at_builtin;refine amY _ rfl _ _ 157 rfl 178 i0 (.agg #[.int .u64 0,.int .i64 0,.int .u64 0,.string ⟨#[]⟩,.slice none 0 0]) 5 64 Tryz.underlying157 (by assumption) hz0 hz1 hz2 rfl aU rfl li.length news vi rfl ?qx hln h1 ?qm ?qb ?_)
     case qx=>
      rcases B2.out.2.2 with⟨e1,e2,e3⟩|h
      ·exact .inl ⟨e1,by rw[e2];rfl,e3⟩
      ·exact .inr h
     case qm=>have:=B2.out.1;have:=B.out.1;unfold maxLen;omega
     case qb=>have:=B2.out.1;have:=B.out.1;omega
     intro v' w2 hown hgrow;obtain⟨g1,g2,⟨a3,c3,rfl⟩,hM⟩:=B2.out.2.1 v' w2 hown hgrow;have B3:Aside (MI 178 157 w ro fs (.slice ca cn cc) gk l (.slice (some ⟨y9,off2,none⟩) l.length c') (i+1) u4 (w2.setCell ⟨y9,off2+i*5+4,none⟩ (.slice a3 li.length c3)) (.slice a3 li.length c3) li):=hM;clear hM hown hgrow hln h1 hcell2 B2;obtain⟨n,ys,po,pn,psz,pk⟩:=B3.out.push aU;have hw2:wrap64 ((i:Int)+1)=(i:Int)+1:=by have:=B.out.1;have:=B.out.2.1;unfold wrap64;omega
     have B4:Aside ((w2.setCell ⟨y9,off2+i*5+4,none⟩ (.slice a3 li.length c3)).ownsRow w.heap.size 157 1 u4 n ys/\n+1<=gk/\w.heap.size<=(w2.setCell ⟨y9,off2+i*5+4,none⟩ (.slice a3 li.length c3)).heap.size/\∀o Pn w3,w3.ownsRow w.heap.size 157 1 Pn (n+1) (ys++[.slice a3 li.length c3])->((w2.setCell ⟨y9,off2+i*5+4,none⟩ (.slice a3 li.length c3)).alloc o).grownBy w3 u4.ownBlock->II 178 157 w ro fs (.slice ca cn cc) gk l (.slice (some ⟨y9,off2,none⟩) l.length c') (i+1) Pn w3):=⟨po,pn,psz,pk⟩
     clear po pn psz pk;go_wp2_with (at_builtin;refine wpList_append_own _ rfl _ _ 309 rfl w.heap.size 157 i1 (.slice none 0 0) 1 24 Tryz.underlying309 (by assumption) hz0' hz1' awc rfl aU u4 n ys rfl ?qo ⟨w2.heap.size,0,none⟩ 1 1 [.slice a3 li.length c3] ?qs rfl ?qc ?q1 ?qm ?qb ?qz ?_)
     case qo=>refine aj9 B4.out.1 λb hb=>?_;exact Below.heap_alloc _ _ _ (by obtain⟨_,cs,h⟩:=XB B4.out.1 hb;exact(rX.1 h).1)
     case qs=>first|rfl|simp[Act.eval]
     case qc=>
      intro j u hj;have hsz2:(w2.setCell ⟨y9,off2+i*5+4,none⟩ (.slice a3 li.length c3)).heap.size=w2.heap.size:=aA;match j,hj with
      |0,hj=>simp only[kQ,bf]at hj;subst hj;have hr:=heap_alloc_new (w2.setCell ⟨y9,off2+i*5+4,none⟩ (.slice a3 li.length c3)) (.cells #[.slice a3 li.length c3] 157);rw[hsz2]at hr;have:=cell_of_row _ _ 0 _ _ _ hr;simpa[Addr.add]using this
      |j+1,hj=>simp at hj
     case q1=>intro u hu;simp only[jI]at hu;subst hu;rfl
     case qm=>have:=B4.out.2.1;have:=B.out.1;unfold maxLen;omega
     case qb=>have:=B4.out.2.1;have:=B.out.1;omega
     case qz=>have:=B4.out.2.2.1;simp at this⊢;omega
     ·intro v3 w3 hown3 hgrow3 _;have hI:=B4.out.2.2.2 _ v3 w3 hown3 hgrow3;have B5:Aside (II 178 157 w ro fs (.slice ca cn cc) gk l (.slice (some ⟨y9,off2,none⟩) l.length c') (i+1) v3 w3):=hI;clear B3 B4 hI hown3 hgrow3;go_wp2
      have ek:(i:Int)+1=((i+1:Nat):Int):=ah;try simp only[hw2]
      rw[ek];go_roundg (l.length-(i+1))
      case measure=>omega
      case rel=>exact⟨i+1,ah,rfl,rfl,B5.out⟩
     ·have ek:(i:Int)+1=((i+1:Nat):Int):=ah;try simp only[hw2]
      rw[ek];go_roundg (l.length-(i+1))
      case measure=>omega
      case rel=>exact⟨i+1,ah,rfl,rfl,B3.out.skip⟩
    ·have hil:i=l.length:=ah;subst hil;obtain⟨hc,hg1⟩:=hI.done;go_wp2
     go_roundg (gk-1)
     case measure=>omega
     case rel=>exact⟨hc,by have:=B.out.1;omega⟩
theorem atK{tabs:QQ}{gs out:Q3}(h:Nz gs=some out):pO Tryz.prog tabs 208 [] [.sc] gs out:=
 atJ atI (enters_of Tryz.func208 (by kernel_rfl) rfl) h
