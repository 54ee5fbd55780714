/- What the trees compute: plain laws. -/
import Derived.Test.YtdpjiaedcmagdaaGreatDoorKQe2
namespace Go.Proofs.YtdpjiaedcmagdaaGreatDoor
open Go Go.Abs
set_option linter.unusedSimpArgs false
set_option linter.unusedVariables false
set_option maxRecDepth 100000
namespace Q
theorem cut_no (c:UInt8):∀ (l x:List UInt8),x∈cutF c l->c∉x/\∀b∈x,b∈l
 | [],x,h=>by simp [cutF] at h;subst h;simp
 | b::l,x,h=>by
  have ih:=cut_no c l
  unfold cutF at h
  split at h
  ·next e=>
   rcases List.mem_cons.1 h with rfl | h
   ·simp
   ·obtain ⟨h1,h2⟩:=ih x h
    exact ⟨h1,λy hy=>List.mem_cons_of_mem _ (h2 y hy)⟩
  ·next e=>
   split at h
   ·next hc=>exact absurd hc (cut_cons_ne _ _)
   ·next y r hc=>
    rcases List.mem_cons.1 h with rfl | h
    ·obtain ⟨h1,h2⟩:=ih y (by rw [hc];simp)
     refine ⟨λhm=>?_,λz hz=>?_⟩
     ·rcases List.mem_cons.1 hm with hm | hm
      ·exact e hm.symm
      ·exact h1 hm
     ·rcases List.mem_cons.1 hz with rfl | hz
      ·simp
      ·exact List.mem_cons_of_mem _ (h2 z hz)
    ·obtain ⟨h1,h2⟩:=ih x (by rw [hc];exact List.mem_cons_of_mem _ h)
     exact ⟨h1,λy hy=>List.mem_cons_of_mem _ (h2 y hy)⟩
theorem words_good {l:List UInt8} (h10:(10:UInt8)∉l):∀w∈wordsF l,WordOk w:=λw hw=>by
 obtain ⟨h1,h2⟩:=cut_no 32 l w (List.mem_filter.1 hw).1
 exact ⟨words_ne w hw,h1,λh=>h10 (h2 _ h)⟩
theorem line_is {l w:List UInt8} {r:List (List UInt8)} (h:lineF l=w::r):wordsF l=w::r:=by
 unfold lineF at h
 split at h
 ·cases h
 ·next e=>
  rw [e]
  split at h
  ·cases h
  ·exact h
inductive Le2:List Nat->List Nat->Prop
 | nil:Le2 [] []
 | cons {a b:Nat} {l m:List Nat}:a<=b->Le2 l m->Le2 (a::l) (b::m)
theorem nums_words:∀ {ws:List (List UInt8)} {ms:List Nat},ms.length=ws.length->(∀m∈ms,m < 18446744073709551616)->(numsF ws ms).2=0->(numsF ws ms).1.map (λn=>Lib.decDigits n)=ws/\Le2 (numsF ws ms).1 ms
 | [],[],_,_,_=>⟨rfl,.nil⟩
 | [],_::_,h,_,_=>by cases h
 | _::_,[],h,_,_=>by cases h
 | w::ws,m::ms,h,hm,h0=>by
  rw [numsF_cons] at h0 ⊢
  by_cases e1:(numE w m).2=0
  rotate_left
  ·rw [if_pos e1] at h0;exact absurd h0 e1
  have e1':¬ (numE w m).2≠0:=by simpa using e1
  rw [if_neg e1'] at h0 ⊢
  by_cases e2:(numsF ws ms).2=0
  rotate_left
  ·rw [if_pos e2] at h0;exact absurd h0 e2
  have e2':¬ (numsF ws ms).2≠0:=by simpa using e2
  rw [if_neg e2']
  obtain ⟨i1,i2⟩:=nums_words (ws:=ws) (ms:=ms) (by simpa using h) (λx hx=>hm x (List.mem_cons_of_mem _ hx)) e2
  exact ⟨by rw [List.map_cons,dec_numE e1,i1],.cons numE_le i2⟩
theorem dec_nat (n:Nat):dec (n:Int)=Lib.decDigits n:=by unfold dec;rw [Int.toNat_natCast]
theorem fate_words {r:List (List UInt8)} (h:(fateF r).2=0):(∀way,wordsFt way (fateF r).1=way::r)/\codeFt (fateF r).1=0/\FtOk (fateF r).1/\bareF (fateF r).1=(fateF r).1:=by
 by_cases hd:r=[dropB]
 ·subst hd
  exact ⟨λway=>rfl,rfl,⟨⟨by decide,by decide⟩,⟨by decide,by decide⟩,⟨by decide,by decide⟩,⟨by decide,by decide⟩,by decide,by decide⟩,rfl⟩
 by_cases h5:r.length=5
 rotate_left
 ·rw [fate_other hd h5] at h;cases h
 obtain ⟨a,b,c,d,e,rfl⟩:=len5 h5
 rw [fate5] at h ⊢
 by_cases e0:(numsF [a,b,c,d,e] fateM).2=0
 rotate_left
 ·rw [if_pos e0] at h;exact absurd h e0
 have e0':¬ (numsF [a,b,c,d,e] fateM).2≠0:=by simpa using e0
 rw [if_neg e0'] at h ⊢
 obtain ⟨i1,i2⟩:=nums_words (ws:=[a,b,c,d,e]) (ms:=fateM) rfl (by decide) e0
 obtain ⟨n0,n1,n2,n3,n4,hn⟩:=len5 (numsF_len e0 rfl)
 rw [hn] at i1 i2 ⊢
 unfold fateM at i2
 cases i2 with | cons q0 i2=>cases i2 with | cons q1 i2=>cases i2 with | cons q2 i2=>cases i2 with | cons q3 i2=>cases i2 with | cons q4 i2=>
 have w0:IntKind.u8.wrap (n0:Int)=n0:=by simp [IntKind.wrap,IntKind.signed,IntKind.bits];omega
 have w1:IntKind.u8.wrap (n1:Int)=n1:=by simp [IntKind.wrap,IntKind.signed,IntKind.bits];omega
 have w4:IntKind.u8.wrap (n4:Int)=n4:=by simp [IntKind.wrap,IntKind.signed,IntKind.bits];omega
 have w2:IntKind.i64.wrap (n2:Int)=n2:=wrap64 (by omega) (by omega)
 have w3:IntKind.i64.wrap (n3:Int)=n3:=wrap64 (by omega) (by omega)
 have hm:mkFt [n0,n1,n2,n3,n4]=⟨false,n0,n1,n2,n3,n4⟩:=by
  unfold mkFt
  simp only [List.getD_cons_zero,List.getD_cons_succ]
  rw [w0,w1,w2,w3,w4]
 rw [hm]
 simp only [List.map_cons,List.map_nil] at i1
 refine ⟨λway=>?_, ?_,⟨⟨by simp only;omega,by simp only;omega⟩,⟨by simp only;omega,by simp only;omega⟩,⟨by simp only;omega,by simp only;omega⟩,⟨by simp only;omega,by simp only;omega⟩,by simp only;omega,by simp only;omega⟩,rfl⟩
 ·have:wordsFt way ⟨false,n0,n1,n2,n3,n4⟩=[way,dec n0,dec n1,Lib.itoa n2,Lib.itoa n3,dec n4]:=rfl
  rw [this,itoa_dec (by omega),itoa_dec (by omega),dec_nat,dec_nat,dec_nat,dec_nat,dec_nat,i1]
 ·unfold codeFt
  simp only
  rw [if_neg (by simp),if_neg (by omega)]
theorem itoa_nat (n:Nat):Lib.itoa (n:Int)=Lib.decDigits n:=by rw [itoa_dec (by omega),dec_nat]
theorem cmd1_is {op most:Nat} {f:Nat->Cm} {r:List (List UInt8)} (h:(cmd1 op most f r).2=0):∃a,r=[a]/\(numE a most).2=0/\(cmd1 op most f r).1=f (numE a most).1:=by
 by_cases hl:r.length=1
 ·obtain ⟨a,rfl⟩:=len1 hl
  unfold cmd1 at h ⊢
  simp only at h ⊢
  by_cases e:(numE a most).2=0
  ·exact ⟨a,rfl,e,by rw [if_neg (by simpa using e)]⟩
  ·rw [if_pos e] at h;exact absurd h e
 ·rw [cmd1_bad hl] at h;cases h
theorem cfOk_mk {ln op en n:Int} {w:List UInt8} (h1:0<=op/\op<=255) (h2 : -9223372036854775808<=en/\en<=9223372036854775807) (h3:0<=n/\n < 18446744073709551616) (h4:w.length<=70000):CfOk ⟨ln,op,en,n,w⟩:=⟨h1,h2,h3,h4⟩
theorem cmd_words {w:List UInt8} {r:List (List UInt8)} (hg:∀x∈r,WordOk x) (h:(cmdF w r).2=0) (n:Int):wordsCm { (cmdF w r).1 with ln:=n }=w::r/\codeCm { (cmdF w r).1 with ln:=n }=0/\CfOk { (cmdF w r).1 with ln:=n }:=by
 have one:∀ (a:List UInt8),(numE a 1).2=0->Lib.itoa ((numE a 1).1:Nat)=a/\(numE a 1).1<=1:=λa e=>⟨by rw [itoa_nat,dec_numE e],numE_le⟩
 by_cases w1:w=wAdd
 ·subst w1
  rw [cmdF_add] at h ⊢
  unfold addF at h ⊢
  split at h
  rotate_left
  ·cases h
  next a b c=>
  by_cases h1:(numE a 1).2=0
  rotate_left
  ·rw [if_pos h1] at h;exact absurd h h1
  simp only [if_neg (show ¬ (numE a 1).2≠0 by simpa using h1)] at h ⊢
  by_cases h2:64 < b.length
  ·rw [if_pos h2] at h;exact absurd h (by decide)
  simp only [if_neg h2] at h ⊢
  by_cases h3:(numE c 18446744073709551615).2=0
  rotate_left
  ·rw [if_pos h3] at h;exact absurd h h3
  simp only [if_neg (show ¬ (numE c 18446744073709551615).2≠0 by simpa using h3)] at h ⊢
  obtain ⟨q1,q2⟩:=one a h1
  have l2:=numE_lt c 18446744073709551615
  have hb:=word_good (hg b (by simp))
  refine ⟨?_, ?_,cfOk_mk (by decide) ⟨by omega,by omega⟩ ⟨by omega,by omega⟩ (by omega)⟩
  ·show [wAdd,Lib.itoa ((numE a 1).1:Nat),b,dec ((numE c 18446744073709551615).1:Nat)]=_
   rw [q1,dec_nat,dec_numE h3]
  ·unfold codeCm
   simp only
   rw [if_neg (by decide),if_neg (by omega),if_neg (by omega),if_neg (by rw [hb];simp),if_neg (by omega)]
 by_cases w2:w=wPub
 ·subst w2
  rw [cmdF_pub] at h ⊢
  unfold pubF at h ⊢
  split at h
  rotate_left
  ·cases h
  next a c=>
  by_cases h1:(numE a 1).2=0
  rotate_left
  ·rw [if_pos h1] at h;exact absurd h h1
  simp only [if_neg (show ¬ (numE a 1).2≠0 by simpa using h1)] at h ⊢
  by_cases h3:(numE c 18446744073709551615).2=0
  rotate_left
  ·rw [if_pos h3] at h;exact absurd h h3
  simp only [if_neg (show ¬ (numE c 18446744073709551615).2≠0 by simpa using h3)] at h ⊢
  obtain ⟨q1,q2⟩:=one a h1
  have l2:=numE_lt c 18446744073709551615
  refine ⟨?_, ?_,cfOk_mk (by decide) ⟨by omega,by omega⟩ ⟨by omega,by omega⟩ (by decide)⟩
  ·show [wPub,Lib.itoa ((numE a 1).1:Nat),dec ((numE c 18446744073709551615).1:Nat)]=_
   rw [q1,dec_nat,dec_numE h3]
  ·unfold codeCm
   simp only
   rw [if_neg (by decide),if_neg (by omega),if_neg (by omega),if_neg (by simp),if_neg (by simp)]
 by_cases w3:w=wPoll
 ·subst w3
  rw [cmdF_poll] at h ⊢
  obtain ⟨a,rfl,h1,hf⟩:=cmd1_is h
  rw [hf]
  dsimp only
  obtain ⟨q1,q2⟩:=one a h1
  refine ⟨?_, ?_,cfOk_mk (by decide) ⟨by omega,by omega⟩ (by decide) (by decide)⟩
  ·show [wPoll,Lib.itoa ((numE a 1).1:Nat)]=_
   rw [q1]
  ·unfold codeCm
   simp only
   rw [if_neg (by decide),if_neg (by omega),if_neg (by omega),if_neg (by simp),if_neg (by simp)]
 by_cases w4:w=wStep
 ·subst w4
  rw [cmdF_step] at h ⊢
  obtain ⟨a,rfl,h1,hf⟩:=cmd1_is h
  rw [hf]
  dsimp only
  have q2:=numE_le (w:=a) (m:=100000)
  refine ⟨?_, ?_,cfOk_mk (by decide) (by decide) ⟨by omega,by omega⟩ (by decide)⟩
  ·show [wStep,dec ((numE a 100000).1:Nat)]=_
   rw [dec_nat,dec_numE h1]
  ·unfold codeCm
   simp only
   rw [if_neg (by decide),if_neg (by omega),if_neg (by omega),if_neg (by simp),if_neg (by simp)]
 by_cases w5:w=wShow
 ·subst w5
  rw [cmdF_show] at h ⊢
  obtain ⟨a,rfl,h1,hf⟩:=cmd1_is h
  rw [hf]
  dsimp only
  obtain ⟨q1,q2⟩:=one a h1
  refine ⟨?_, ?_,cfOk_mk (by decide) ⟨by omega,by omega⟩ (by decide) (by decide)⟩
  ·show [wShow,Lib.itoa ((numE a 1).1:Nat)]=_
   rw [q1]
  ·unfold codeCm
   simp only
   rw [if_neg (by decide),if_neg (by omega),if_neg (by omega),if_neg (by simp),if_neg (by simp)]
 by_cases w6:w=wAll
 ·subst w6
  rw [cmdF_all] at h ⊢
  by_cases e:r=[]
  ·subst e
   exact ⟨rfl,rfl,cfOk_mk (by decide) (by decide) (by decide) (by decide)⟩
  ·rw [if_neg e] at h;cases h
 ·rw [cmdF_other r w1 w2 w3 w4 w5 w6] at h;cases h
/-- A state that is read: nothing yet, or what may be printed. -/
structure InvS (b:Bool) (s:Sc) (len:Nat):Prop where
 no:b=false->s=zSc
 pr:b=true->PrOk s/\(∀f∈s.th,bareF f=f)/\(∀f∈s.bk,bareF f=f)/\(textS s).length<=len
theorem flatMap_one {α:Type} (t:α->List UInt8) (l:List α) (a:α):(l++[a]).flatMap t=l.flatMap t++t a:=by rw [List.flatMap_append];simp
theorem lineT_len {l w:List UInt8} {r:List (List UInt8)} (h:lineF l=w::r):(lineT (w::r)).length<=l.length+1:=by
 have:=words_total l
 rw [line_is h] at this
 unfold lineT
 rw [List.length_append,List.length_singleton];omega
theorem pr_pair {a b c d:Nat} (h1:a < 18446744073709551616) (h2:b < 18446744073709551616) (h3:c < 18446744073709551616) (h4:d < 18446744073709551616):PrOk ⟨a,b,c,d,[],[],[]⟩:=
 ⟨⟨h1,h2,h3,h4,λf h=>(by cases h),λf h=>(by cases h),λf h=>(by cases h),Nat.zero_le _,Nat.zero_le _,Nat.zero_le _⟩,⟨Nat.zero_le _,Nat.zero_le _⟩,λf h=>(by cases h),λf h=>(by cases h),λf h=>(by cases h)⟩
theorem PrOk.sc {s:Sc} (h:PrOk s):ScOk s:=h.room
theorem inv_step {no:Nat} {b b':Bool} {s s':Sc} {l:List UInt8} {len:Nat} (h10:(10:UInt8)∉l) (hi:InvS b s len) (hs:stepF no b s l=(0,b',s')):InvS b' s' (len+(l.length+1)):=by
 cases e:lineF l with
 | nil=>
  rw [stepF_nil e] at hs
  cases hs
  exact ⟨hi.no,λh=>by obtain ⟨p1,p2,p3,p4⟩:=hi.pr h;exact ⟨p1,p2,p3,by omega⟩⟩
 | cons w r=>
  have hgood:=words_good h10
  rw [line_is e] at hgood
  have hlt:=lineT_len e
  rw [stepF_cons e] at hs
  cases b with
  | false=>
   have hz:=hi.no rfl
   subst hz
   rw [if_pos rfl] at hs
   by_cases c1:(pairF w r).2=0
   rotate_left
   ·rw [if_pos c1] at hs
    exact absurd (congrArg Prod.fst hs) c1
   rw [if_neg (by simpa using c1)] at hs
   obtain ⟨rfl,hr4,hp⟩:=pairF_good c1
   rw [hp] at hs c1
   obtain ⟨i1,i2⟩:=nums_words (ws:=r) (ms:=M4) hr4.symm (by decide) c1
   obtain ⟨n1,n2,n3,n4,hn⟩:=len4 (numsF_len c1 hr4.symm)
   rw [hn] at i1 i2 hs
   unfold M4 at i2
   cases i2 with | cons q0 i2=>cases i2 with | cons q1 i2=>cases i2 with | cons q2 i2=>cases i2 with | cons q3 i2=>
   injection hs with _ hs
   injection hs with hb hs
   subst hb
   subst hs
   simp only [List.map_cons,List.map_nil] at i1
   refine ⟨λh=>(by cases h),λ_=>⟨pr_pair (Nat.lt_succ_of_le q0) (Nat.lt_succ_of_le q1) (Nat.lt_succ_of_le q2) (Nat.lt_succ_of_le q3),λf h=>(by cases h),λf h=>(by cases h), ?_⟩⟩
   have ht:textS { zSc with m1:=n1,m2:=n2,m3:=n3,m4:=n4 }=lineT (wPair::r):=by
    unfold textS pairL
    simp only [zSc,List.flatMap_nil,List.append_nil]
    rw [dec_nat,dec_nat,dec_nat,dec_nat,i1]
   show (textS { zSc with m1:=n1,m2:=n2,m3:=n3,m4:=n4 }).length<=_
   rw [ht];omega
  | true=>
   obtain ⟨p,p2,p3,p4⟩:=hi.pr rfl
   rw [if_neg (by simp)] at hs
   have hf:(furF ((no:Int)+1) w r s).1=0:=congrArg Prod.fst hs
   injection hs with _ hs
   injection hs with hb hs
   subst hb
   subst hs
   refine ⟨λh=>(by cases h),λ_=>?_⟩
   have hg2:∀x∈r,WordOk x:=λx hx=>hgood x (List.mem_cons_of_mem _ hx)
   obtain ⟨r1,r2⟩:=p.room
   unfold furF at hf ⊢
   by_cases w1:w=wThere
   ·simp only [if_pos w1] at hf ⊢
    by_cases e1:(fateF r).2=0
    rotate_left
    ·rw [if_pos e1] at hf;exact absurd hf e1
    have e1':¬ (fateF r).2≠0:=by simpa using e1
    simp only [if_neg e1'] at hf ⊢
    by_cases e2:s.th.length+s.bk.length=200
    ·rw [if_pos e2] at hf;exact absurd hf (by simp)
    simp only [if_neg e2]
    obtain ⟨f1,f2,f3,f4⟩:=fate_words e1
    have mem:∀f,f∈s.th++[(fateF r).1]->f∈s.th\/f=(fateF r).1:=λf hf=>by
     rcases List.mem_append.1 hf with h | h
     ·exact .inl h
     ·exact .inr (List.mem_singleton.1 h)
    have hlt2:=p.sf.lt
    refine ⟨⟨⟨p.sf.m1,p.sf.m2,p.sf.m3,p.sf.m4,λf hf=>?_,p.sf.bk,p.sf.cm,by simp only [List.length_append,List.length_singleton];omega,p.sf.lb,p.sf.lc⟩,⟨by simp only [List.length_append,List.length_singleton];omega,r2⟩,λf hf=>?_,p.bk,p.cm⟩,λf hf=>?_,p3, ?_⟩
    ·rcases mem f hf with h | rfl
     ·exact p.sf.th f h
     ·exact f3
    ·rcases mem f hf with h | rfl
     ·exact p.th f h
     ·exact f2
    ·rcases mem f hf with h | rfl
     ·exact p2 f h
     ·exact f4
    ·have hft:ftT wThere (fateF r).1=lineT (w::r):=by unfold ftT;rw [f1,w1]
     unfold textS pairL at p4 ⊢
     simp only [flatMap_one,List.length_append] at p4 ⊢
     rw [hft];omega
   simp only [if_neg w1] at hf ⊢
   by_cases w2:w=wBack
   ·simp only [if_pos w2] at hf ⊢
    by_cases e1:(fateF r).2=0
    rotate_left
    ·rw [if_pos e1] at hf;exact absurd hf e1
    have e1':¬ (fateF r).2≠0:=by simpa using e1
    simp only [if_neg e1'] at hf ⊢
    by_cases e2:s.th.length+s.bk.length=200
    ·rw [if_pos e2] at hf;exact absurd hf (by simp)
    simp only [if_neg e2]
    obtain ⟨f1,f2,f3,f4⟩:=fate_words e1
    have mem:∀f,f∈s.bk++[(fateF r).1]->f∈s.bk\/f=(fateF r).1:=λf hf=>by
     rcases List.mem_append.1 hf with h | h
     ·exact .inl h
     ·exact .inr (List.mem_singleton.1 h)
    refine ⟨⟨⟨p.sf.m1,p.sf.m2,p.sf.m3,p.sf.m4,p.sf.th,λf hf=>?_,p.sf.cm,p.sf.lt,by simp only [List.length_append,List.length_singleton];omega,p.sf.lc⟩,⟨by simp only [List.length_append,List.length_singleton];omega,r2⟩,p.th,λf hf=>?_,p.cm⟩,p2,λf hf=>?_, ?_⟩
    ·rcases mem f hf with h | rfl
     ·exact p.sf.bk f h
     ·exact f3
    ·rcases mem f hf with h | rfl
     ·exact p.bk f h
     ·exact f2
    ·rcases mem f hf with h | rfl
     ·exact p3 f h
     ·exact f4
    ·have hft:ftT wBack (fateF r).1=lineT (w::r):=by unfold ftT;rw [f1,w2]
     unfold textS pairL at p4 ⊢
     simp only [flatMap_one,List.length_append] at p4 ⊢
     rw [hft];omega
   simp only [if_neg w2] at hf ⊢
   by_cases e1:(cmdF w r).2=0
   rotate_left
   ·rw [if_pos e1] at hf;exact absurd hf e1
   have e1':¬ (cmdF w r).2≠0:=by simpa using e1
   simp only [if_neg e1'] at hf ⊢
   by_cases e2:s.cm.length=1000
   ·rw [if_pos e2] at hf;exact absurd hf (by simp)
   simp only [if_neg e2]
   obtain ⟨f1,f2,f3⟩:=cmd_words hg2 e1 ((no:Int)+1)
   have mem:∀c,c∈s.cm++[{ (cmdF w r).1 with ln:=(no:Int)+1 }]->c∈s.cm\/c = { (cmdF w r).1 with ln:=(no:Int)+1 }:=λf hf=>by
    rcases List.mem_append.1 hf with h | h
    ·exact .inl h
    ·exact .inr (List.mem_singleton.1 h)
   refine ⟨⟨⟨p.sf.m1,p.sf.m2,p.sf.m3,p.sf.m4,p.sf.th,p.sf.bk,λc hc=>?_,p.sf.lt,p.sf.lb,by simp only [List.length_append,List.length_singleton];omega⟩,⟨r1,by simp only [List.length_append,List.length_singleton];omega⟩,p.th,p.bk,λc hc=>?_⟩,p2,p3, ?_⟩
   ·rcases mem c hc with h | rfl
    ·exact p.sf.cm c h
    ·exact f3
   ·rcases mem c hc with h | rfl
    ·exact p.cm c h
    ·exact f2
   ·have hct:cmT { (cmdF w r).1 with ln:=(no:Int)+1 }=lineT (w::r):=by unfold cmT;rw [f1]
    unfold textS pairL at p4 ⊢
    simp only [flatMap_one,List.length_append] at p4 ⊢
    rw [hct];omega
theorem inv_run:∀ (ls:List (List UInt8)) (no:Nat) (b:Bool) (s:Sc) (len:Nat),(∀l∈ls,(10:UInt8)∉l)->InvS b s len->(runF no b s ls).2.1=0->InvS (runF no b s ls).2.2.1 (runF no b s ls).2.2.2 (len+(ls.map λl=>l.length+1).sum)
 | [],no,b,s,len,_,hi,_=>by rw [List.map_nil,List.sum_nil,Nat.add_zero];exact hi
 | l::ls,no,b,s,len,h10,hi,h=>by
  rw [runF] at h ⊢
  by_cases e:(stepF no b s l).1=0
  rotate_left
  ·rw [if_pos e] at h;exact absurd h e
  have e':¬ (stepF no b s l).1≠0:=by simpa using e
  rw [if_neg e'] at h ⊢
  have hs:=inv_step (no:=no) (h10 l (by simp)) hi (b':=(stepF no b s l).2.1) (s':=(stepF no b s l).2.2) (Prod.ext e rfl)
  have:=inv_run ls (no+1) _ _ _ (λx hx=>h10 x (List.mem_cons_of_mem _ hx)) hs h
  rw [List.map_cons,List.sum_cons,<- Nat.add_assoc]
  exact this
theorem cut_sum (c:UInt8):∀l:List UInt8,((cutF c l).map λx=>x.length+1).sum=l.length+1
 | []=>rfl
 | b::l=>by
  have ih:=cut_sum c l
  unfold cutF
  split
  ·rw [List.map_cons,List.sum_cons,ih];simp;omega
  ·split
   ·next h=>exact absurd h (cut_cons_ne _ _)
   ·next x r h=>
    rw [h,List.map_cons,List.sum_cons] at ih
    rw [List.map_cons,List.sum_cons]
    simp only [List.length_cons] at ih ⊢
    omega
/-- What is parsed may be printed. -/
theorem parsed_ok {t:List UInt8} (ht:t.length<=65000) (h:(parseF t).2.2=0):PrOk (parseF t).1/\(textS (parseF t).1).length<=65536/\codeS (parseF t).1=0:=by
 rw [parse_is (by omega)] at h ⊢
 unfold parseR at h ⊢
 by_cases e:(runF 0 false zSc (cutF 10 t)).2.1=0
 rotate_left
 ·rw [if_pos e] at h;exact absurd h e
 have e':¬ (runF 0 false zSc (cutF 10 t)).2.1≠0:=by simpa using e
 rw [if_neg e'] at h ⊢
 by_cases e2:(runF 0 false zSc (cutF 10 t)).2.2.1=false
 ·rw [if_pos e2] at h;cases h
 rw [if_neg e2]
 have hi:=inv_run (cutF 10 t) 0 false zSc 0 (λl hl=>(cut_no 10 t l hl).1) ⟨λ_=>rfl,λh=>by cases h⟩ e
 rw [cut_sum,Nat.zero_add] at hi
 obtain ⟨p, -, -,p4⟩:=hi.pr (by simpa using e2)
 simp only
 refine ⟨p,by omega, ?_⟩
 obtain ⟨r1,r2⟩:=p.room
 unfold codeS
 rw [if_neg (by omega),if_neg (by rw [codes_of p.th];simp),if_neg (by rw [codes_of p.bk];simp),if_neg (by rw [codes_of p.cm];simp),if_neg (by omega)]
theorem bare_cases {f g:Ft} (h:bareF f=bareF g):(f.dr=true/\g.dr=true)\/(f.dr=false/\g=f):=by
 unfold bareF at h
 by_cases h1:f.dr=true
 ·by_cases h2:g.dr=true
  ·exact .inl ⟨h1,h2⟩
  ·rw [if_pos h1,if_neg h2] at h
   exact absurd (by rw [<- h]) h2
 ·by_cases h2:g.dr=true
  ·rw [if_neg h1,if_pos h2] at h
   exact absurd (by rw [h]) h1
  ·rw [if_neg h1,if_neg h2] at h
   exact .inr ⟨by simpa using h1,h.symm⟩
theorem rfates_sim (a b:List Ft) (hl:a.length<=70000) (h:a.map bareF=b.map bareF):TT.lim 36 [.l (a.map ftG),.l (b.map ftG)]=some [.b true]:=by
 have hlen:b.length=a.length:=by
  have:=congrArg List.length h
  simpa using this.symm
 have loop:∀ (m i:Nat),i+m=a.length->TT.lim 37 [.l (a.map ftG),.l (b.map ftG),.i .i64 a.length,.i .i64 i]=some [.i .i64 1]:=by
  intro m
  induction m with
  | zero=>
   intro i hi
   have h:¬ ((i:Int) < a.length):=by omega
   generalize a.map ftG=L at *
   generalize b.map ftG=L' at *
   refine tree_lim rfl rfl ?_
   simp [h]
  | succ m ih=>
   intro i hi
   have hlt:i < a.length:=by omega
   have hlt2:i < b.length:=by omega
   have h':((i:Int) < a.length):=by omega
   have hw:=wrap64 (n:=(i:Int)+1) (by omega) (by omega)
   have hcast:((i+1:Nat):Int)=(i:Int)+1:=by omega
   have hget:=getG ftG hlt
   have hget2:=getG ftG hlt2
   have he:bareF a[i]=bareF b[i]:=by
    have:=congrArg (λl=>l[i]?) h
    simpa [List.getElem?_map,List.getElem?_eq_getElem hlt,List.getElem?_eq_getElem hlt2] using this
   have ih:=ih (i+1) (by omega)
   rw [hcast] at ih
   generalize a[i]=f at *
   generalize b[i]=g at *
   generalize a.map ftG=L at *
   generalize b.map ftG=L' at *
   generalize (a.length:Int)=N at *
   obtain ⟨f1,f2,f3,f4,f5,f6⟩:=f
   obtain ⟨g1,g2,g3,g4,g5,g6⟩:=g
   rcases bare_cases he with ⟨e1,e2⟩ | ⟨e1,e2⟩
   ·simp only at e1 e2
    subst e1
    subst e2
    refine tree_lim rfl rfl ?_
    simp [h',hw,hget,hget2,ih]
   ·simp only at e1
    subst e1
    cases e2
    have hq:eqGs [2,0,0,0,0,0] [.b false,.i .u8 f2,.i .u8 f3,.i .i64 f4,.i .i64 f5,.i .u8 f6] [.b false,.i .u8 f2,.i .u8 f3,.i .i64 f4,.i .i64 f5,.i .u8 f6]=some true:=by simp [eqGs]
    refine tree_lim rfl rfl ?_
    simp [h',hw,hget,hget2,hq,ih]
 have k:=loop a.length 0 (by omega)
 simp only [Int.natCast_zero] at k
 have hll:((a.map ftG).length:Int)=(a.length:Int):=by rw [List.length_map]
 have hll2:((b.map ftG).length:Int)=(a.length:Int):=by rw [List.length_map,hlen]
 generalize a.map ftG=L at *
 generalize b.map ftG=L' at *
 refine fn_lim rfl rfl ?_ rfl
 simp [hll,hll2,k]
theorem rsame_sim (a b:Sc) (h:SimS a b) (hs:ScOk a) (ha:∀c∈a.cm,CmOk c) (hb:∀c∈b.cm,CmOk c):TT.lim 35 [.g (scL a),.g (scL b)]=some [.b true]:=by
 obtain ⟨m1,m2,m3,m4,th,bk,cm⟩:=a
 obtain ⟨m1',m2',m3',m4',th',bk',cm'⟩:=b
 obtain ⟨e1,e2,e3,e4,e5,e6,e7⟩:=h
 obtain ⟨hs1,hs2⟩:=hs
 simp only at e1 e2 e3 e4 e5 e6 e7 hs1 hs2 ha hb
 subst e1 e2 e3 e4
 have hlen:cm'.length=cm.length:=by
  have:=congrArg List.length e7
  simpa using this.symm
 have loop:∀ (m i:Nat),i+m=cm.length->TT.lim 38 [.i .i64 cm.length,.i .i64 i,nG m1,nG m2,nG m3,nG m4,.l (th'.map ftG),.l (bk'.map ftG),.l (cm'.map cmG),nG m1,nG m2,nG m3,nG m4,.l (th.map ftG),.l (bk.map ftG),.l (cm.map cmG)]=some [.i .i64 1]:=by
  intro m
  induction m with
  | zero=>
   intro i hi
   have h:¬ ((i:Int) < cm.length):=by omega
   generalize cm.map cmG=L at *
   generalize cm'.map cmG=L' at *
   refine tree_lim rfl rfl ?_
   simp [h]
  | succ m ih=>
   intro i hi
   have hlt:i < cm.length:=by omega
   have hlt2:i < cm'.length:=by omega
   have h:((i:Int) < cm.length):=by omega
   have hw:=wrap64 (n:=(i:Int)+1) (by omega) (by omega)
   have hcast:((i+1:Nat):Int)=(i:Int)+1:=by omega
   have hget:=getG cmG hlt
   have hget2:=getG cmG hlt2
   have he:lineS cm'[i]=lineS cm[i]:=by
    have:=congrArg (λl=>l[i]?) e7
    simpa [List.getElem?_map,List.getElem?_eq_getElem hlt,List.getElem?_eq_getElem hlt2] using this.symm
   have ih:=ih (i+1) (by omega)
   rw [hcast] at ih
   have kl:=rline_ok cm[i] (ha _ (List.getElem_mem hlt))
   have kl2:=rline_ok cm'[i] (hb _ (List.getElem_mem hlt2))
   rw [he] at kl2
   generalize lineS cm[i]=S at *
   generalize cm[i]=c at *
   generalize cm'[i]=c' at *
   simp only [cmG] at kl kl2
   generalize th.map ftG=T at *
   generalize bk.map ftG=B at *
   generalize cm.map cmG=L at *
   generalize th'.map ftG=T' at *
   generalize bk'.map ftG=B' at *
   generalize cm'.map cmG=L' at *
   generalize (cm.length:Int)=N at *
   refine tree_lim rfl rfl ?_
   simp [h,hw,hget,hget2,kl,kl2,ih]
 have k:=loop cm.length 0 (by omega)
 simp only [Int.natCast_zero,nG] at k
 have hll:((cm.map cmG).length:Int)=(cm.length:Int):=by rw [List.length_map]
 have hll2:((cm'.map cmG).length:Int)=(cm.length:Int):=by rw [List.length_map,hlen]
 have k1:=rfates_sim th th' (by omega) e5
 have k2:=rfates_sim bk bk' (by omega) e6
 simp only [scL,nG]
 generalize th.map ftG=T at *
 generalize bk.map ftG=B at *
 generalize cm.map cmG=L at *
 generalize th'.map ftG=T' at *
 generalize bk'.map ftG=B' at *
 generalize cm'.map cmG=L' at *
 refine fn_lim rfl rfl ?_ rfl
 simp [hll,hll2,k1,k2,k]
def ftTy:List GTy:=[.bool,.int .u8,.int .u8,.int .i64,.int .i64,.int .u8]
def cmTy:List GTy:=[.int .i64,.int .u8,.int .i64,.int .u64,.str]
def scTy:List GTy:=[.int .u64,.int .u64,.int .u64,.int .u64,.list true ftTy,.list true ftTy,.list true cmTy]
theorem ft_of {x:GV} (h:GTy.hasL ftTy x.cells/\x.scalar = !true):∃f,FtOk f/\x=ftG f:=by
 obtain ⟨k1,k2⟩:=h
 cases x<;>simp [GV.scalar] at k2
 next cs=>
 obtain ⟨_,_,e0,h1,g0⟩:=hasL_cons k1;obtain ⟨x0,rfl⟩:=has_bool h1
 obtain ⟨_,_,e1,h1,g1⟩:=hasL_cons g0;obtain ⟨x1,rfl,a1,b1⟩:=has_u8 h1
 obtain ⟨_,_,e2,h1,g2⟩:=hasL_cons g1;obtain ⟨x2,rfl,a2,b2⟩:=has_u8 h1
 obtain ⟨_,_,e3,h1,g3⟩:=hasL_cons g2;obtain ⟨x3,rfl,a3,b3⟩:=has_i64 h1
 obtain ⟨_,_,e4,h1,g4⟩:=hasL_cons g3;obtain ⟨x4,rfl,a4,b4⟩:=has_i64 h1
 obtain ⟨_,_,e5,h1,g5⟩:=hasL_cons g4;obtain ⟨x5,rfl,a5,b5⟩:=has_u8 h1
 have:=hasL_nil g5
 subst this;subst e5;subst e4;subst e3;subst e2;subst e1
 simp only [GV.cells] at e0
 subst e0
 exact ⟨⟨x0,x1,x2,x3,x4,x5⟩,⟨⟨a1,by show x1<=255;omega⟩,⟨a2,by show x2<=255;omega⟩,⟨a3,b3⟩,⟨a4,b4⟩,a5,by show x5<=255;omega⟩,rfl⟩
/-- A command, but for the length of its word. -/
def CrOk (c:Cm):Prop:=(0<=c.op/\c.op<=255)/\(-9223372036854775808<=c.en/\c.en<=9223372036854775807)/\(0<=c.n/\c.n < 18446744073709551616)/\c.w.length<=reachBytes
theorem cm_of {x:GV} (h:GTy.hasL cmTy x.cells/\x.scalar = !true):∃c,CrOk c/\x=cmG c:=by
 obtain ⟨k1,k2⟩:=h
 cases x<;>simp [GV.scalar] at k2
 next cs=>
 obtain ⟨_,_,e0,h1,g0⟩:=hasL_cons k1;obtain ⟨x0,rfl,a0,b0⟩:=has_i64 h1
 obtain ⟨_,_,e1,h1,g1⟩:=hasL_cons g0;obtain ⟨x1,rfl,a1,b1⟩:=has_u8 h1
 obtain ⟨_,_,e2,h1,g2⟩:=hasL_cons g1;obtain ⟨x2,rfl,a2,b2⟩:=has_i64 h1
 obtain ⟨_,_,e3,h1,g3⟩:=hasL_cons g2;obtain ⟨x3,rfl,a3,b3⟩:=has_u64 h1
 obtain ⟨_,_,e4,h1,g4⟩:=hasL_cons g3;obtain ⟨x4,rfl,a4⟩:=has_str h1
 have:=hasL_nil g4
 subst this;subst e4;subst e3;subst e2;subst e1
 simp only [GV.cells] at e0
 subst e0
 exact ⟨⟨x0,x1,x2,x3,x4⟩,⟨⟨a1,by show x1<=255;omega⟩,⟨a2,b2⟩,⟨a3,b3⟩,a4⟩,rfl⟩
structure RawS (s:Sc):Prop where
 m1:s.m1 < 18446744073709551616
 m2:s.m2 < 18446744073709551616
 m3:s.m3 < 18446744073709551616
 m4:s.m4 < 18446744073709551616
 th:∀f∈s.th,FtOk f
 bk:∀f∈s.bk,FtOk f
 cm:∀c∈s.cm,CrOk c
 lc:s.cm.length<=reachBytes
theorem script_of {cs:List GV} (h:GTy.hasL scTy cs):∃s,RawS s/\cs=scL s:=by
 obtain ⟨_,_,rfl,h1,g0⟩:=hasL_cons h;obtain ⟨x0,rfl,a0,b0⟩:=has_u64 h1
 obtain ⟨_,_,rfl,h1,g1⟩:=hasL_cons g0;obtain ⟨x1,rfl,a1,b1⟩:=has_u64 h1
 obtain ⟨_,_,rfl,h1,g2⟩:=hasL_cons g1;obtain ⟨x2,rfl,a2,b2⟩:=has_u64 h1
 obtain ⟨_,_,rfl,h1,g3⟩:=hasL_cons g2;obtain ⟨x3,rfl,a3,b3⟩:=has_u64 h1
 obtain ⟨_,_,rfl,h1,g4⟩:=hasL_cons g3;obtain ⟨t1,rfl, -,p1⟩:=has_list h1
 obtain ⟨_,_,rfl,h1,g5⟩:=hasL_cons g4;obtain ⟨t2,rfl, -,p2⟩:=has_list h1
 obtain ⟨_,_,rfl,h1,g6⟩:=hasL_cons g5;obtain ⟨t3,rfl,l3,p3⟩:=has_list h1
 have:=hasL_nil g6
 subst this
 obtain ⟨fs,q1,rfl⟩:=list_map (f:=ftG) (p:=FtOk) (xs:=t1) λx hx=>ft_of (p1 x hx)
 obtain ⟨bs,q2,rfl⟩:=list_map (f:=ftG) (p:=FtOk) (xs:=t2) λx hx=>ft_of (p2 x hx)
 obtain ⟨cs,q3,rfl⟩:=list_map (f:=cmG) (p:=CrOk) (xs:=t3) λx hx=>cm_of (p3 x hx)
 obtain ⟨n0,rfl⟩:∃n:Nat,x0=n:=⟨x0.toNat,by omega⟩
 obtain ⟨n1,rfl⟩:∃n:Nat,x1=n:=⟨x1.toNat,by omega⟩
 obtain ⟨n2,rfl⟩:∃n:Nat,x2=n:=⟨x2.toNat,by omega⟩
 obtain ⟨n3,rfl⟩:∃n:Nat,x3=n:=⟨x3.toNat,by omega⟩
 exact ⟨⟨n0,n1,n2,n3,fs,bs,cs⟩,⟨by show n0 < _;omega,by show n1 < _;omega,by show n2 < _;omega,by show n3 < _;omega,q1,q2,q3,by rw [List.length_map] at l3;exact l3⟩,rfl⟩
def lightF (s:Sc):Bool:=(s.cm.all λc=>decide (c.w.length<=300))&&(decide (s.th.length<=210)&&(decide (s.bk.length<=210)&&decide (s.cm.length<=1001)))
theorem light_ok (s:Sc) (h:s.cm.length<=reachBytes):TT.lim 1 [.g (scL s)]=some [.b (lightF s)]:=by
 have hr:reachBytes=140737488351232:=rfl
 rw [hr] at h
 obtain ⟨m1,m2,m3,m4,th,bk,cm⟩:=s
 simp only at h
 have loop:∀ (m i:Nat),i+m=cm.length->TT.lim 2 [.l (cm.map cmG),.i .i64 cm.length,.i .i64 i,nG m1,nG m2,nG m3,nG m4,.l (th.map ftG),.l (bk.map ftG)]=some [.i .i64 (if ((cm.drop i).all λc=>decide (c.w.length<=300))=true then 1 else 0)]:=by
  intro m
  induction m with
  | zero=>
   intro i hi
   have h:¬ ((i:Int) < cm.length):=by omega
   rw [List.drop_eq_nil_of_le (by omega)]
   rw [List.all_nil,if_pos rfl]
   generalize cm.map cmG=L at *
   refine tree_lim rfl rfl ?_
   simp [h]
  | succ m ih=>
   intro i hi
   have hlt:i < cm.length:=by omega
   have h':((i:Int) < cm.length):=by omega
   have hw:=wrap64 (n:=(i:Int)+1) (by omega) (by omega)
   have hcast:((i+1:Nat):Int)=(i:Int)+1:=by omega
   have hget:=getG cmG hlt
   have ih:=ih (i+1) (by omega)
   rw [hcast] at ih
   rw [List.drop_eq_getElem_cons hlt,List.all_cons]
   generalize (cm.drop (i+1)).all (λc=>decide (c.w.length<=300))=A at *
   generalize cm[i]=c at *
   generalize cm.map cmG=L at *
   generalize (cm.length:Int)=N at *
   by_cases g:c.w.length<=300
   ·rw [decide_eq_true g,Bool.true_and]
    have g':¬ (300:Int) < c.w.length:=by omega
    refine tree_lim rfl rfl ?_
    simp [h',hw,hget,g',ih]
   ·rw [decide_eq_false g,Bool.false_and,if_neg (by simp)]
    have g':(300:Int) < c.w.length:=by omega
    refine tree_lim rfl rfl ?_
    simp [h',hw,hget,g']
 have k:=loop cm.length 0 (by omega)
 rw [List.drop_zero] at k
 simp only [Int.natCast_zero,nG] at k
 have ht:((th.map ftG).length:Int)=(th.length:Int):=by rw [List.length_map]
 have hb:((bk.map ftG).length:Int)=(bk.length:Int):=by rw [List.length_map]
 have hc:((cm.map cmG).length:Int)=(cm.length:Int):=by rw [List.length_map]
 unfold lightF
 simp only
 generalize (cm.all λc=>decide (c.w.length<=300))=A at *
 have q1:((th.length:Int)<=210)↔th.length<=210:=by omega
 have q2:((bk.length:Int)<=210)↔bk.length<=210:=by omega
 have q3:((cm.length:Int)<=1001)↔cm.length<=1001:=by omega
 simp only [scL,nG]
 generalize th.map ftG=T at *
 generalize bk.map ftG=B at *
 generalize cm.map cmG=C at *
 cases A with
 | false=>
  rw [if_neg (by simp)] at k
  rw [Bool.false_and]
  refine fn_lim rfl rfl ?_ rfl
  simp [hc,k]
 | true=>
  rw [if_pos rfl] at k
  rw [Bool.true_and]
  by_cases g1:th.length<=210
  rotate_left
  ·rw [decide_eq_false g1,Bool.false_and]
   have g1':¬ (th.length:Int)<=210:=λh=>g1 (q1.1 h)
   refine fn_lim rfl rfl ?_ rfl
   simp [ht,hb,hc,k,g1']
  rw [decide_eq_true g1,Bool.true_and]
  have g1':=q1.2 g1
  by_cases g2:bk.length<=210
  rotate_left
  ·rw [decide_eq_false g2,Bool.false_and]
   have g2':¬ (bk.length:Int)<=210:=λh=>g2 (q2.1 h)
   refine fn_lim rfl rfl ?_ rfl
   simp [ht,hb,hc,k,g1',g2']
  rw [decide_eq_true g2,Bool.true_and]
  have g2':=q2.2 g2
  by_cases g3:cm.length<=1001
  ·rw [decide_eq_true g3]
   have g3':=q3.2 g3
   refine fn_lim rfl rfl ?_ rfl
   simp [ht,hb,hc,k,g1',g2',g3']
  ·rw [decide_eq_false g3]
   have g3':¬ (cm.length:Int)<=1001:=λh=>g3 (q3.1 h)
   refine fn_lim rfl rfl ?_ rfl
   simp [ht,hb,hc,k,g1',g2',g3']
theorem light_sf {s:Sc} (h:RawS s) (hl:lightF s=true):SfOk s:=by
 unfold lightF at hl
 simp only [Bool.and_eq_true,List.all_eq_true,decide_eq_true_eq] at hl
 obtain ⟨h1,h2,h3,h4⟩:=hl
 refine ⟨h.m1,h.m2,h.m3,h.m4,h.th,h.bk,λc hc=>?_,by omega,by omega,by omega⟩
 obtain ⟨a,b,d, -⟩:=h.cm c hc
 exact ⟨a,b,d,by have:=h1 c hc;omega⟩
theorem scL_parts (s:Sc):∃ (a b c d:Int) (T B C:List GV),scL s=[.i .u64 a,.i .u64 b,.i .u64 c,.i .u64 d,.l T,.l B,.l C]:=⟨_,_,_,_,_,_,_,rfl⟩
theorem parse_bad {t:List UInt8} (h:(parseF t).2.2≠0):(parseF t).1=zSc:=by
 unfold parseF at h ⊢
 split
 ·rfl
 split
 ·rfl
 split
 ·rfl
 ·next h1 h2 h3=>rw [if_neg h1,if_neg h2,if_neg h3] at h;exact absurd rfl h
theorem parse_line {t:List UInt8} (h:(parseF t).2.2=0):(parseF t).2.1=0:=by
 unfold parseF at h ⊢
 split
 ·rfl
 next h1=>
 split
 ·next h2=>rw [if_neg h1,if_pos h2] at h;exact absurd h h2
 split<;>rfl
theorem run_line:∀ (ls:List (List UInt8)) (no:Nat) (b:Bool) (s:Sc),(runF no b s ls).1<=no+ls.length
 | [],_,_,_=>Nat.zero_le _
 | l::ls,no,b,s=>by
  rw [runF]
  split
  ·show no+1<=_
   rw [List.length_cons];omega
  ·have:=run_line ls (no+1) (stepF no b s l).2.1 (stepF no b s l).2.2
   rw [List.length_cons];omega
theorem parse_line_le (t:List UInt8):(parseF t).2.1<=t.length+1:=by
 have h1:=run_line (cutF 10 t) 0 false zSc
 have h2:=cutF_len 10 t
 unfold parseF
 split
 ·exact Nat.zero_le _
 split
 ·show (runF 0 false zSc (cutF 10 t)).1<=_
  omega
 split<;>exact Nat.zero_le _
theorem reads_more (t:List UInt8) (ht:t.length<=4000):TT.lim 43 [.s t,.s [32],.s [32,32]]=some [.s (putB 32 [32,32] t)]/\TT.lim 43 [.s (putB 32 [32,32] t),.s [10],.s [32,10,32,32]]=some [.s (moreB t)]:=by
 refine ⟨trepl 32 [32,32] t (by omega) (by decide), ?_⟩
 rw [<- more_put]
 have:=put_len 32 [32,32] t (by decide)
 exact trepl 10 [32,10,32,32] _ (by omega) (by decide)
theorem more_len {t:List UInt8} (ht:t.length<=4000):(moreB t).length<=64000:=by
 rw [<- more_put]
 have h1:=put_len 32 [32,32] t (by decide)
 have h2:=put_len 10 [32,10,32,32] (putB 32 [32,32] t) (by decide)
 omega
theorem scriptBack (gs:List GV) (h:hasArgs [(true,scTy),(false,[.str])] gs):TT.lim 0 gs=some [.b true]:=by
 obtain ⟨cs,gs,rfl,h1,h⟩:=hasA_agg h
 obtain ⟨g,gs,rfl,h2,h⟩:=hasA_sc h
 obtain rfl:=hasA_nil h
 obtain ⟨s,raw,rfl⟩:=script_of h1
 obtain ⟨t,rfl, -⟩:=has_str h2
 clear h h1 h2
 have kl:=light_ok s raw.lc
 by_cases hl:lightF s=true
 rotate_left
 ·have hl':lightF s=false:=by simpa using hl
  rw [hl'] at kl
  obtain ⟨a1,a2,a3,a4,aT,aB,aC,ha⟩:=scL_parts s
  rw [ha] at kl ⊢
  refine fn_lim rfl rfl ?_ rfl
  simp [kl]
 have sf:=light_sf raw hl
 rw [hl] at kl
 by_cases ht:4000 < t.length
 ·have ht':(4000:Int) < t.length:=by omega
  obtain ⟨a1,a2,a3,a4,aT,aB,aC,ha⟩:=scL_parts s
  rw [ha] at kl ⊢
  refine fn_lim rfl rfl ?_ rfl
  simp [kl,ht']
 have ht':¬ (4000:Int) < t.length:=by omega
 -- the text, and it with more blanks
 obtain ⟨r1,r2⟩:=reads_more t (by omega)
 have hml:=more_len (t:=t) (by omega)
 have h16:([35,32,120,10]++moreB t).length<=65536:=by
  rw [List.length_append,show ([35,32,120,10]:List UInt8).length=4 from rfl];omega
 have kd:=pparse_ok t (by omega)
 have ke:=pparse_ok ([35,32,120,10]++moreB t) h16
 obtain ⟨c1,c2,c3,c4⟩:=parse_moreB (t:=t) (by omega)
 obtain ⟨od,od2⟩:=parseF_ok t
 obtain ⟨oe,oe2⟩:=parseF_ok ([35,32,120,10]++moreB t)
 rw [c1] at ke
 have kod:=of28 _ od
 have koe:=of28 _ oe
 have kse:=rsame_sim _ _ c2 od od2 oe2
 obtain ⟨X,hX⟩:∃X:List UInt8,[35,32,120,10]=X:=⟨_,rfl⟩
 have lX:X.length=4:=by rw [<- hX];rfl
 have hcat:((X.length:Int)+((moreB t).length:Int)<=9223372036854775807)=True:=eq_true (by omega)
 rw [hX] at ke koe kse c3 c4
 have hdl:=parse_line_le t
 -- a text that is none
 have kz:(parseF t).2.2≠0->TT.lim 35 [.g (scL (parseF t).1),.g (scL zSc)]=some [.b true]:=λh=>by
  rw [parse_bad h];exact rsame28 zSc ⟨by decide,by decide⟩ (λc h=>by cases h)
 have kb:(parseF t).2.2=0->(parseF t).2.1=0/\TT.lim 3 [.g (scL (parseF t).1)]=some [.s (textS (parseF t).1),.i .i64 0]/\TT.lim 15 [.s (textS (parseF t).1)]=some [.g (scL (normS (parseF t).1)),.i .i64 0,.i .i64 0]/\
  TT.lim 31 [.g (scL (normS (parseF t).1))]=some [.g (scL (normS (parseF t).1))]/\TT.lim 35 [.g (scL (normS (parseF t).1)),.g (scL (parseF t).1)]=some [.b true]:=λh=>by
  obtain ⟨p1,p2,p3⟩:=parsed_ok (t:=t) (by omega) h
  obtain ⟨n1,n2⟩:=normS_ok p1
  have q1:=pprint_ok _ p1.sf
  rw [if_pos p3] at q1
  have q2:=pparse_ok (textS (parseF t).1) p2
  rw [parse_print p1 p2] at q2
  exact ⟨parse_line h,q1,q2,of28 _ n1,rsame_sim _ _ (sim_norm p1) n1 n2 od2⟩
 -- the script
 have ks:(codeS s≠0/\TT.lim 3 [.g (scL s)]=some [.s [],.i .i64 (codeS s)])\/(TT.lim 3 [.g (scL s)]=some [.s (textS s),.i .i64 0]/\TT.lim 15 [.s (textS s)]=some [.g (scL (normS s)),.i .i64 0,.i .i64 0]/\
  TT.lim 31 [.g (scL (normS s))]=some [.g (scL (normS s))]/\TT.lim 31 [.g (scL s)]=some [.g (scL s)]/\TT.lim 35 [.g (scL (normS s)),.g (scL s)]=some [.b true]):=by
  have q1:=pprint_ok _ sf
  by_cases e:codeS s=0
  ·right
   rw [if_pos e] at q1
   have p1:=prOk_of sf e
   have p2:(textS s).length<=65536:=by
    unfold codeS at e
    split at e
    ·cases e
    split at e
    ·next h2=>exact absurd e h2
    split at e
    ·next h2=>exact absurd e h2
    split at e
    ·next h2=>exact absurd e h2
    split at e
    ·cases e
    ·omega
   obtain ⟨n1,n2⟩:=normS_ok p1
   have q2:=pparse_ok (textS s) p2
   rw [parse_print p1 p2] at q2
   exact ⟨q1,q2,of28 _ n1,of28 _ p1.sc,rsame_sim _ _ (sim_norm p1) n1 n2 λc hc=>cf_cm (sf.cm c hc) (codeCm_parts (p1.cm c hc)).1⟩
  ·rw [if_neg e] at q1
   exact .inl ⟨e,q1⟩
 have htl:t.length<=4000:=by omega
 clear raw hl sf ht hml h16 od od2 oe oe2 c1 c2
 have hz:scL zSc=[.i .u64 0,.i .u64 0,.i .u64 0,.i .u64 0,.l [],.l [],.l []]:=rfl
 rw [hz] at kz
 generalize textS (parseF t).1=TD at *
 generalize textS s=TS at *
 generalize codeS s=CS at *
 obtain ⟨a1,a2,a3,a4,aT,aB,aC,ha⟩:=scL_parts s
 obtain ⟨n1,n2,n3,n4,nT,nB,nC,hn⟩:=scL_parts (normS s)
 obtain ⟨d1,d2,d3,d4,dT,dB,dC,hd⟩:=scL_parts (parseF t).1
 obtain ⟨m1,m2,m3,m4,mT,mB,mC,hm⟩:=scL_parts (normS (parseF t).1)
 obtain ⟨e1,e2,e3,e4,eT,eB,eC,he⟩:=scL_parts (parseF (X++moreB t)).1
 rw [ha] at kl
 rw [ha,hn] at ks
 rw [hd] at kd kod kz
 rw [hd,hm] at kb
 rw [he] at ke koe
 rw [hd,he] at kse
 rw [ha]
 clear ha hn hd hm he
 generalize (parseF t).2.1=DL at *
 generalize (parseF (X++moreB t)).2.1=EL at *
 generalize (parseF t).2.2=DE at *
 generalize moreB t=MT at *
 generalize putB 32 [32,32] t=PT at *
 by_cases hDE:DE=0
 ·subst hDE
  obtain ⟨b1,b2,b3,b4,b5⟩:=kb rfl
  subst b1
  have c4:=c4 rfl
  subst c4
  clear c3 kz kb
  simp only [Int.natCast_zero] at kd ke
  rcases ks with ⟨s0,s1⟩ | ⟨s1,s2,s3,s4,s5⟩
  ·refine fn_lim rfl rfl ?_ rfl
   simp [kl,ht',s1,s0,r1,r2,hX,hcat,kd,ke,kod,koe,kse,b2,b3,b4,b5]
  ·refine fn_lim rfl rfl ?_ rfl
   simp [kl,ht',s1,s2,s3,s4,s5,r1,r2,hX,hcat,kd,ke,kod,koe,kse,b2,b3,b4,b5]
 have kz:=kz hDE
 clear kb
 by_cases hDL:DL=0
 ·have cc:=c4 hDL
  clear c3 c4
  subst hDL
  subst cc
  simp only [Int.natCast_zero] at kd ke
  rcases ks with ⟨s0,s1⟩ | ⟨s1,s2,s3,s4,s5⟩
  ·refine fn_lim rfl rfl ?_ rfl
   simp [kl,ht',s1,s0,r1,r2,hX,hcat,kd,ke,kod,koe,kse,hDE,kz]
  ·refine fn_lim rfl rfl ?_ rfl
   simp [kl,ht',s1,s2,s3,s4,s5,r1,r2,hX,hcat,kd,ke,kod,koe,kse,hDE,kz]
 have c3:=c3 (by omega)
 subst c3
 have hpos:(0:Int) < (DL:Int):=by omega
 have hw:=wrap64 (n:=(DL:Int)+1) (by omega) (by omega)
 have hc1:((DL+1:Nat):Int)=(DL:Int)+1:=by omega
 have hne:¬ (DL:Int)=0:=by omega
 rw [hc1] at ke
 clear c4 hdl
 generalize (DL:Int)=Z at *
 rcases ks with ⟨s0,s1⟩ | ⟨s1,s2,s3,s4,s5⟩
 ·refine fn_lim rfl rfl ?_ rfl
  simp [kl,ht',s1,s0,r1,r2,hX,hcat,kd,ke,kod,koe,kse,hDE,kz,hpos,hw,hne]
 ·refine fn_lim rfl rfl ?_ rfl
  simp [kl,ht',s1,s2,s3,s4,s5,r1,r2,hX,hcat,kd,ke,kod,koe,kse,hDE,kz,hpos,hw,hne]
def c5:Cm:=⟨0,5,0,0,[]⟩
theorem bounds0:∀ (m i:Nat) (acc:List Cm),i+m=1000->acc.length=i->TT.lim 45 [.i .i64 i,.l (acc.map cmG)]=some [.i .i64 0,.l ((acc++List.replicate m c5).map cmG)]
 | 0,i,acc,hi,ha=>by
  have h:¬ ((i:Int) < 1000):=by omega
  rw [List.replicate_zero,List.append_nil]
  generalize acc.map cmG=A at *
  refine tree_lim rfl rfl ?_
  simp [h]
 | m+1,i,acc,hi,ha=>by
  have h:((i:Int) < 1000):=by omega
  have hw:=wrap64 (n:=(i:Int)+1) (by omega) (by omega)
  have hcast:((i+1:Nat):Int)=(i:Int)+1:=by omega
  have ih:=bounds0 m (i+1) (acc++[c5]) (by omega) (by rw [List.length_append,List.length_singleton];omega)
  have c1:2 * ((acc.map cmG).length+1) * 48<=281474976710656/\(acc.map cmG).length+1<=281474976710656:=by rw [List.length_map];omega
  have hE:=elemC c5
  rw [hcast,List.append_assoc,List.singleton_append,<- List.replicate_succ,List.map_append (l₂:=[_]),List.map_cons,List.map_nil] at ih
  generalize (acc++List.replicate (m+1) c5).map cmG=O at *
  simp only [cmG,c5] at ih hE
  generalize acc.map cmG=A at *
  refine tree_lim rfl rfl ?_
  simp [h,hw,hE,c1,ih]
def bS (k:Nat):Sc:=⟨0,0,0,0,List.replicate 120 zFt,List.replicate k zFt,List.replicate 1000 c5⟩
theorem rep_flat {α:Type} (t:α->List UInt8) (a:α):∀n,((List.replicate n a).flatMap t).length=n * (t a).length
 | 0=>by simp
 | n+1=>by rw [List.replicate_succ,List.flatMap_cons,List.length_append,rep_flat t a n,Nat.succ_mul,Nat.add_comm]
theorem dec_zero:dec 0=[48]:=by unfold dec;rw [show (0:Int).toNat=0 from rfl,decD_small (by decide)];rfl
theorem ftT_zero (way:List UInt8):ftT way zFt=lineT [way,[48],[48],[48],[48],[48]]:=by
 have:ftT way zFt=lineT [way,dec 0,dec 0,Lib.itoa 0,Lib.itoa 0,dec 0]:=rfl
 rw [this,itoa_dec (by decide),dec_zero]
theorem bS_text (k:Nat) (hk:k<=100):(textS (bS k)).length<=20000:=by
 unfold textS
 rw [List.length_append,List.length_append,List.length_append]
 have e1:(bS k).th=List.replicate 120 zFt:=rfl
 have e2:(bS k).bk=List.replicate k zFt:=rfl
 have e3:(bS k).cm=List.replicate 1000 c5:=rfl
 rw [e1,e2,e3,rep_flat,rep_flat,rep_flat]
 have l1:(ftT wThere zFt).length=16:=by rw [ftT_zero];decide
 have l2:(ftT wBack zFt).length=15:=by rw [ftT_zero];decide
 have l3:(cmT c5).length=4:=by decide
 have l4:(lineT (pairL (bS k))).length<=501:=by
  have:pairL (bS k)=[wPair,dec 0,dec 0,dec 0,dec 0]:=rfl
  rw [this,dec_zero]
  decide
 rw [l1,l2,l3]
 omega
theorem bS_sf (k:Nat) (hk:k<=100):SfOk (bS k):=by
 have hz:FtOk zFt:=⟨⟨by decide,by decide⟩,⟨by decide,by decide⟩,⟨by decide,by decide⟩,⟨by decide,by decide⟩,by decide,by decide⟩
 refine ⟨Nat.zero_lt_succ _,Nat.zero_lt_succ _,Nat.zero_lt_succ _,Nat.zero_lt_succ _,λf hf=>?_,λf hf=>?_,λc hc=>?_, ?_, ?_, ?_⟩
 ·rw [List.eq_of_mem_replicate hf];exact hz
 ·rw [List.eq_of_mem_replicate hf];exact hz
 ·rw [List.eq_of_mem_replicate hc];exact ⟨⟨by decide,by decide⟩,⟨by decide,by decide⟩,⟨by decide,by decide⟩,by decide⟩
 ·show (List.replicate 120 zFt).length<=2000
  rw [List.length_replicate];decide
 ·show (List.replicate k zFt).length<=2000
  rw [List.length_replicate];omega
 ·show (List.replicate 1000 c5).length<=2000
  rw [List.length_replicate];decide
theorem bS_pr:PrOk (bS 80):=by
 refine ⟨bS_sf 80 (by decide),⟨?_, ?_⟩,λf hf=>?_,λf hf=>?_,λc hc=>?_⟩
 ·show (List.replicate 120 zFt).length+(List.replicate 80 zFt).length<=200
  rw [List.length_replicate,List.length_replicate];decide
 ·show (List.replicate 1000 c5).length<=1000
  rw [List.length_replicate];decide
 ·rw [List.eq_of_mem_replicate hf];decide
 ·rw [List.eq_of_mem_replicate hf];decide
 ·rw [List.eq_of_mem_replicate hc];decide
theorem bS_code:codeS (bS 80)=0:=by
 obtain ⟨r1,r2⟩:=bS_pr.room
 have:=bS_text 80 (by decide)
 unfold codeS
 rw [if_neg (by omega),if_neg (by rw [codes_of bS_pr.th];simp),if_neg (by rw [codes_of bS_pr.bk];simp),if_neg (by rw [codes_of bS_pr.cm];simp),if_neg (by omega)]
theorem bS_lens (k:Nat):(bS k).th.length=120/\(bS k).bk.length=k/\(bS k).cm.length=1000:=⟨List.length_replicate,List.length_replicate,List.length_replicate⟩
theorem bS_code81:codeS (bS 81)=13:=by
 obtain ⟨l1,l2,l3⟩:=bS_lens 81
 unfold codeS
 rw [if_pos (by rw [l1,l2];omega)]
theorem bS_back (no:Nat):(stepF no true (normS (bS 80)) [98,97,99,107,32,100,114,111,112]).1=13:=by
 obtain ⟨n1,n2,n3⟩:=norm_lens (bS 80)
 obtain ⟨l1,l2,l3⟩:=bS_lens 80
 have hl:lineF [98,97,99,107,32,100,114,111,112]=wBack::[dropB]:=by decide
 rw [stepF_cons hl,if_neg (by simp)]
 unfold furF
 rw [if_neg (by decide),if_pos rfl,if_neg (by decide),if_pos (by rw [n1,n2,l1,l2])]
theorem bS_all (no:Nat):(stepF no true (normS (bS 80)) [97,108,108]).1=13:=by
 obtain ⟨n1,n2,n3⟩:=norm_lens (bS 80)
 obtain ⟨l1,l2,l3⟩:=bS_lens 80
 have hl:lineF [97,108,108]=wAll::[]:=by decide
 rw [stepF_cons hl,if_neg (by simp)]
 unfold furF
 rw [if_neg (by decide),if_neg (by decide),if_neg (by decide),if_pos (by rw [n3,l3])]
theorem scriptBounds (gs:List GV) (h:hasArgs [] gs):TT.lim 44 gs=some [.b true]:=by
 obtain rfl:=hasA_nil h
 have h0:=bounds0 1000 0 [] (by decide) rfl
 rw [List.nil_append,List.map_nil] at h0
 simp only [Int.natCast_zero] at h0
 have p0:=pprint_ok (bS 80) (bS_sf 80 (by decide))
 rw [bS_code,if_pos rfl] at p0
 have p1:=pprint_ok (bS 81) (bS_sf 81 (by decide))
 rw [bS_code81,if_neg (by decide)] at p1
 have ht:=bS_text 80 (by decide)
 obtain ⟨l1,l2,l3⟩:=bS_lens 80
 have q0:=pparse_ok (textS (bS 80)) (by omega)
 rw [parse_print bS_pr (by omega)] at q0
 have q1:=pparse_ok (textS (bS 80)++[98,97,99,107,32,100,114,111,112]) (by rw [List.length_append,show ([98,97,99,107,32,100,114,111,112]:List UInt8).length=9 from rfl];omega)
 rw [parse_more_line bS_pr (e:=13) (by decide) (by decide) bS_back (by rw [show ([98,97,99,107,32,100,114,111,112]:List UInt8).length=9 from rfl];omega),l1,l2,l3] at q1
 have q2:=pparse_ok (textS (bS 80)++[97,108,108]) (by rw [List.length_append,show ([97,108,108]:List UInt8).length=3 from rfl];omega)
 rw [parse_more_line bS_pr (e:=13) (by decide) (by decide) bS_all (by rw [show ([97,108,108]:List UInt8).length=3 from rfl];omega),l1,l2,l3] at q2
 obtain ⟨X,hX⟩:∃X:List UInt8,[98,97,99,107,32,100,114,111,112]=X:=⟨_,rfl⟩
 obtain ⟨Y,hY⟩:∃X:List UInt8,[97,108,108]=X:=⟨_,rfl⟩
 have lX:X.length=9:=by rw [<- hX];rfl
 have lY:Y.length=3:=by rw [<- hY];rfl
 rw [hX] at q1
 rw [hY] at q2
 have hz:scL zSc=[.i .u64 0,.i .u64 0,.i .u64 0,.i .u64 0,.l [],.l [],.l []]:=rfl
 rw [hz] at q1 q2
 have e0:scL (bS 80)=[.i .u64 0,.i .u64 0,.i .u64 0,.i .u64 0,.l ((List.replicate 120 zFt).map ftG),.l ((List.replicate 80 zFt).map ftG),.l ((List.replicate 1000 c5).map cmG)]:=rfl
 have e1:scL (bS 81)=[.i .u64 0,.i .u64 0,.i .u64 0,.i .u64 0,.l ((List.replicate 120 zFt).map ftG),.l ((List.replicate 81 zFt).map ftG),.l ((List.replicate 1000 c5).map cmG)]:=rfl
 rw [e0] at p0
 rw [e1] at p1
 obtain ⟨n1,n2,n3,n4,nT,nB,nC,hn⟩:=scL_parts (normS (bS 80))
 rw [hn] at q0
 clear hn e0 e1
 have hc1:((textS (bS 80)).length:Int)+(X.length:Int)<=9223372036854775807:=by omega
 have hc2:((textS (bS 80)).length:Int)+(Y.length:Int)<=9223372036854775807:=by omega
 clear l1 l2 l3 ht lX lY
 generalize textS (bS 80)=TS at *
 generalize (List.replicate 1000 c5).map cmG=C at *
 rw [List.map_replicate] at p0 p1
 rw [List.map_replicate] at p0 p1
 simp only [List.replicate_succ,List.replicate_zero,ftG,zFt] at p0 p1
 refine fn_lim rfl rfl ?_ rfl
 simp [h0,p0,p1,q0,q1,q2,hX,hY,hc1,hc2]
end Q
end Go.Proofs.YtdpjiaedcmagdaaGreatDoor
