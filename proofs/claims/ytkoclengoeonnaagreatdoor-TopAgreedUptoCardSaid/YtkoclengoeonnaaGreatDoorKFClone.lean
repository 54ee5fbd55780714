/- field.Clone: its walk. -/
import Derived.Test.YtkoclengoeonnaaGreatDoorProg
import Derived.Test.YtkoclengoeonnaaGreatDoorAbsFields
import Derived.Shelf.Slices.Clone
import Derived.Deep.LoopGhost
namespace Go.Proofs.YtkoclengoeonnaaGreatDoor
open Go.Shelf Go.RowKit Go.Lib Go.aP Go.Deep
set_option maxRecDepth 100000
theorem as4:(Tryz.prog.info? 155).map (λi=>(i.zero,i.size,i.bytes))=some (some (.agg #[.int .u64 0,.int .i64 0,.int .u64 0,.string ⟨#[]⟩,.slice none 0 0]),5,64):=by kernel_rfl
theorem as6:(Tryz.prog.info? 79).map (λi=>(i.zero,i.size,i.bytes))=some (some (.slice none 0 0),1,24):=by kernel_rfl
set_option maxHeartbeats 4000000 in
theorem aqB(v:Value)(fs:Wc)(w:World)(ro:Qf)(hv:FS w (λb=>ro b≠none) fs v)(hlt:∀b,ro b≠none->b<w.heap.size)(hcnt:oI fs<=1099511627776):
 Calls Tryz.prog 117 #[v] w λer w'=>∃v',er=.returned v'/\∃p,CB 155 w ro fs v' w' p:=by
 obtain⟨i0,hi,hz0,hz1,hz2⟩:=info_parts as4;obtain⟨i1,hi',hz0',hz1',as1⟩:=info_parts as6;go_enter Tryz.func117,Tryz.ntmps117
 have hcl:fs.length<=1099511627776:=kR (TB fs) hcnt
 obtain⟨m0,Qc,hx0,hl0,h10,hn0⟩:∃(m:Nat)(news:Q6),((v=.slice none 0 0/\m=0/\news=[])\/∃ad c,v=.slice (some ad) m c/\∀j u,news[j]? =some u->w.cell? (ad.add j)=some u)/\news.length=m*5/\(∀u∈news,u.oneCell'=true)/\m=fs.length/\
  (∀w' p' oH,vC w w' (λb=>ro b≠none) p'->(∀j u,news[j]? =some u->w'.cell? ⟨oH,j,none⟩=some u)->gq w' p' oH 0 fs):=by
  rcases hv.src with⟨rfl,rfl⟩|⟨ad,c,news,rfl,n1,n2,n3,n4⟩
  ·exact⟨0,[],.inl ⟨rfl,rfl,rfl⟩,rfl,aA,rfl,λ_ _ _ _ _=>by simp only[gq]⟩
  ·exact⟨_,news,.inr ⟨ad,c,rfl,n2⟩,n1,n3,rfl,n4⟩
 have A:Aside (((v=.slice none 0 0/\m0=0/\Qc=[])\/∃ad c,v=.slice (some ad) m0 c/\∀j u,Qc[j]? =some u->w.cell? (ad.add j)=some u)/\m0=fs.length/\(∀w' p' oH,vC w w' (λb=>ro b≠none) p'->(∀j u,Qc[j]? =some u->w'.cell? ⟨oH,j,none⟩=some u)->gq w' p' oH 0 fs)/\FS w (λb=>ro b≠none) fs v/\(∀b,ro b≠none->b<w.heap.size)):=⟨hx0,hn0.1,hn0.2,hv,hlt⟩
 clear hx0 hn0 hv hlt;go_wp2_with (at_builtin;refine akE _ rfl _ _ 79 rfl 155 i0 (.agg #[.int .u64 0,.int .i64 0,.int .u64 0,.string ⟨#[]⟩,.slice none 0 0]) 5 64 Tryz.underlying79 hi hz0 hz1 hz2 rfl aX rfl m0 Qc v rfl A.out.1 hl0 h10 (by have:=A.out.2.1;unfold maxLen;omega) (by have:=A.out.2.1;omega) ?_)
 intro c1 w1 hown hgrow;have Ux:(∃p,CB 155 w ro fs c1 w1 p)/\newS w c1:=by
  obtain⟨-,hm,hcs,hv,hlt⟩:=A.out;have hpk:Pk 155 w w (λb=>ro b≠none):=⟨hlt,λb hb h1=>absurd (hlt b hb) ah⟩
  rw[hm]at hown;obtain⟨p',s1,s2,s3,s4,s5⟩:=FS.copied hpk (cO _) Qc hcs hown hgrow;exact⟨⟨p',(Below.refl _ w).grown hgrow (cO _) aA,λb hb hlt'=>(s2 b hb).elim id (λh=>absurd hlt' ah),s3,s4⟩,s5⟩
 have hCI:=CI.start (T:=79) Ux.1 Ux.2;obtain⟨ca,cn,cc,rfl⟩:∃a n c,c1=.slice a n c:=by obtain⟨⟨p,hb⟩,_⟩:=Ux;exact hb.top.ZL
 clear A hown hgrow Ux hl0 h10;go_wp2
 go_loopg [4] (1+oI fs) (λg wk wr=>CI 155 79 w ro fs (.slice ca cn cc) g wk wr/\g<=1099511627777)
 case atStart=>exact⟨hCI,ah⟩
 case round=>
  clear hCI;obtain⟨hci,hgk⟩:=hrel;rcases hci.pop with⟨a,c,rfl,hend⟩|⟨bl,cap,m,s,l,rfl,hcap,hmax,hcell,Uy⟩
  ·go_wp2
   go_ret
   exact⟨_,rfl,hend⟩
  ·clear hci;obtain⟨a',c',rfl⟩:=Uy.len;have hlb:=Uy.bound;have hw1:wrap64 (m:Int)=(m:Int):=(by unfold wrap64;omega)
   have B:Aside (gk<=1099511627777/\l.length<=gk/\oI fs<=1099511627776):=⟨hgk,hlb,hcnt⟩
   clear hmax hgk hlb hcnt hcl;go_wp2
   simp only[hw1];clear hw1;go_loopg [4,28] l.length (λk wk iv wi=>∃i:Nat,i<=l.length/\k=l.length-i/\iv=.int .i64 i/\II 155 79 w ro fs (.slice ca cn cc) gk l (.slice a' l.length c') i wk wi)
   case atStart=>exact⟨0,rZ _,rfl,rfl,Uy⟩
   case round=>
    obtain⟨i,hi,rfl,rfl,hI⟩:=hrel;clear Uy hcell;by_cases hlt:i<l.length
    ·obtain⟨xY,off2,c2,li,vi,news,he,hc2,hcell2,hx,hln,h1,hlN,hmid⟩:=hI.step aX hlt;clear hI;simp only[Value.slice.injEq,true_and]at he;obtain⟨rfl,rfl⟩:=he;have hcap2:i<l.length:=hlt
     have B2:Aside (li.length<=gk/\(∀v' w1,w1.ownsRow wr.heap.size 155 5 v' li.length news->wr.grownBy w1 none->
      w1.cell? ⟨xY,off2+i*5+4,none⟩=some vi/\w1.frozen? ⟨xY,off2+i*5+4,none⟩=false/\(∃a c,v'=.slice a li.length c)/\
      MI 155 79 w ro fs (.slice ca cn cc) gk l (.slice (some ⟨xY,off2,none⟩) l.length c') (i+1) u4 (w1.setCell ⟨xY,off2+i*5+4,none⟩ v') v' li)/\
      ((vi=.slice none 0 0/\li=[]/\news=[])\/∃ad ci,vi=.slice (some ad) li.length ci/\∀j u,news[j]? =some u->wr.cell? (ad.add j)=some u)):=⟨hlN,hmid,hx⟩
     clear hlN hmid hx;go_wp2_with (at_builtin;refine akE _ rfl _ _ 79 rfl 155 i0 (.agg #[.int .u64 0,.int .i64 0,.int .u64 0,.string ⟨#[]⟩,.slice none 0 0]) 5 64 Tryz.underlying79 (by assumption) hz0 hz1 hz2 rfl aX rfl li.length news vi rfl ?qx hln h1 ?qm ?qb ?_)
     case qx=>
      rcases B2.out.2.2 with⟨e1,e2,e3⟩|h
      ·exact .inl ⟨e1,by rw[e2];rfl,e3⟩
      ·exact .inr h
     case qm=>have:=B2.out.1;have:=B.out.1;unfold maxLen;omega
     case qb=>have:=B2.out.1;have:=B.out.1;omega
     intro v' w2 hown hgrow;obtain⟨g1,g2,⟨a3,c3,rfl⟩,hM⟩:=B2.out.2.1 v' w2 hown hgrow;have B3:Aside (MI 155 79 w ro fs (.slice ca cn cc) gk l (.slice (some ⟨xY,off2,none⟩) l.length c') (i+1) u4 (w2.setCell ⟨xY,off2+i*5+4,none⟩ (.slice a3 li.length c3)) (.slice a3 li.length c3) li):=hM;clear hM hown hgrow hln h1 hcell2 B2;obtain⟨n,ys,po,pn,psz,pk⟩:=B3.out.push aX;have hw2:wrap64 ((i:Int)+1)=(i:Int)+1:=by have:=B.out.1;have:=B.out.2.1;unfold wrap64;omega
     have B4:Aside ((w2.setCell ⟨xY,off2+i*5+4,none⟩ (.slice a3 li.length c3)).ownsRow w.heap.size 79 1 u4 n ys/\n+1<=gk/\w.heap.size<=(w2.setCell ⟨xY,off2+i*5+4,none⟩ (.slice a3 li.length c3)).heap.size/\∀o NQ w3,w3.ownsRow w.heap.size 79 1 NQ (n+1) (ys++[.slice a3 li.length c3])->((w2.setCell ⟨xY,off2+i*5+4,none⟩ (.slice a3 li.length c3)).alloc o).grownBy w3 u4.ownBlock->II 155 79 w ro fs (.slice ca cn cc) gk l (.slice (some ⟨xY,off2,none⟩) l.length c') (i+1) NQ w3):=⟨po,pn,psz,pk⟩
     clear po pn psz pk;go_wp2_with (at_builtin;refine wpList_append_own _ rfl _ _ 255 rfl w.heap.size 79 i1 (.slice none 0 0) 1 24 Tryz.underlying255 (by assumption) hz0' hz1' as1 rfl aX u4 n ys rfl ?qo ⟨w2.heap.size,0,none⟩ 1 1 [.slice a3 li.length c3] ?qs rfl ?qc ?q1 ?qm ?qb ?qz ?_)
     case qo=>refine ah6 B4.out.1 λb hb=>?_;exact Below.heap_alloc _ _ _ (by obtain⟨_,cs,h⟩:=VB B4.out.1 hb;exact(qI.1 h).1)
     case qs=>first|rfl|simp[Act.eval]
     case qc=>
      intro j u hj;have hsz2:(w2.setCell ⟨xY,off2+i*5+4,none⟩ (.slice a3 li.length c3)).heap.size=w2.heap.size:=aA;match j,hj with
      |0,hj=>simp only[kP,aY]at hj;subst hj;have hr:=heap_alloc_new (w2.setCell ⟨xY,off2+i*5+4,none⟩ (.slice a3 li.length c3)) (.cells #[.slice a3 li.length c3] 79);rw[hsz2]at hr;have:=cell_of_row _ _ 0 _ _ _ hr;simpa[Addr.add]using this
      |j+1,hj=>simp at hj
     case q1=>intro u hu;simp only[oz]at hu;subst hu;rfl
     case qm=>have:=B4.out.2.1;have:=B.out.1;unfold maxLen;omega
     case qb=>have:=B4.out.2.1;have:=B.out.1;omega
     case qz=>have:=B4.out.2.2.1;simp at this⊢;omega
     ·intro v3 w3 hown3 hgrow3 _;have hI:=B4.out.2.2.2 _ v3 w3 hown3 hgrow3;have B5:Aside (II 155 79 w ro fs (.slice ca cn cc) gk l (.slice (some ⟨xY,off2,none⟩) l.length c') (i+1) v3 w3):=hI;clear B3 B4 hI hown3 hgrow3;go_wp2
      have ek:(i:Int)+1=((i+1:Nat):Int):=ah;try simp only[hw2]
      rw[ek];go_roundg (l.length-(i+1))
      case measure=>omega
      case rel=>exact⟨i+1,ah,rfl,rfl,B5.out⟩
     ·have ek:(i:Int)+1=((i+1:Nat):Int):=ah;try simp only[hw2]
      rw[ek];go_roundg (l.length-(i+1))
      case measure=>omega
      case rel=>exact⟨i+1,ah,rfl,rfl,B3.out.skip⟩
    ·have hil:i=l.length:=ah;subst hil;obtain⟨hc,hg1⟩:=hI.done;go_wp2
     go_roundg (gk-1)
     case measure=>omega
     case rel=>exact⟨hc,by have:=B.out.1;omega⟩
theorem aqD{tabs:Qt}{gs out:Q1}(h:Ls gs=some out):ou Tryz.prog tabs 117 [] [.sc] gs out:=
 aqC aqB (enters_of Tryz.func117 (by kernel_rfl) rfl) h
