/- What the trees compute: plain laws. -/
import Derived.Test.YtdpjiaedcmagdaaGreatDoorKQe1
namespace Go.Proofs.YtdpjiaedcmagdaaGreatDoor
open Go Go.Abs
set_option linter.unusedSimpArgs false
set_option linter.unusedVariables false
set_option maxRecDepth 100000
namespace Q
theorem parse_app (m:Nat) (r:List UInt8):∀ (l:List UInt8) (acc:Nat),Lib.parseUintM m acc (l++r)=(match Lib.parseUintM m acc l with | .ok u=>Lib.parseUintM m u r | x=>x)
 | [],acc=>rfl
 | c::l,acc=>by
  simp only [List.cons_append,Lib.parseUintM]
  split
  ·split
   ·rfl
   ·split
    ·rfl
    ·exact parse_app m r l _
  ·rfl
theorem parse_ge (m:Nat):∀ (l:List UInt8) (acc u:Nat),Lib.parseUintM m acc l=.ok u->acc<=u
 | [],acc,u,h=>by simp only [Lib.parseUintM] at h;cases h;exact Nat.le_refl _
 | c::l,acc,u,h=>by
  simp only [Lib.parseUintM] at h
  split at h
  ·split at h
   ·cases h
   ·split at h
    ·cases h
    ·have:=parse_ge m l _ u h
     omega
  ·cases h
theorem dig_nat {d:Nat} (h:d < 10):(UInt8.ofNat (48+d)).toNat=48+d:=by
 rw [UInt8.toNat_ofNat']
 omega
theorem decD_small {n:Nat} (h:n < 10):Lib.decDigits n=[UInt8.ofNat (48+n)]:=by rw [Lib.decDigits,dif_pos h]
theorem decD_big {n:Nat} (h:¬ n < 10):Lib.decDigits n=Lib.decDigits (n / 10)++[UInt8.ofNat (48+n % 10)]:=by rw [Lib.decDigits,dif_neg h]
theorem parse_dec:∀ (k n:Nat),n<=k->n < 18446744073709551616->Lib.parseUintM (2 ^ 64 - 1) 0 (Lib.decDigits n)=.ok n
 | k,n,hk,hn=>by
  by_cases h:n < 10
  ·rw [decD_small h]
   simp only [Lib.parseUintM,dig_nat h]
   rw [if_pos (by omega),if_neg (by omega),if_neg (by omega)]
   congr 1
   omega
  ·match k,hk with
   | 0,hk=>omega
   | k+1,hk=>
    rw [decD_big h,parse_app,parse_dec k (n / 10) (by omega) (by omega)]
    have hd:n % 10 < 10:=by omega
    simp only [Lib.parseUintM,dig_nat hd]
    rw [if_pos (by omega),if_neg (by omega),if_neg (by omega)]
    congr 1
    omega
theorem dig_all:∀ (k n:Nat),n<=k->digB (Lib.decDigits n)=true
 | k,n,hk=>by
  by_cases h:n < 10
  ·rw [decD_small h]
   simp [digB,dig_nat h]
   omega
  ·match k,hk with
   | 0,hk=>omega
   | k+1,hk=>
    have hd:n % 10 < 10:=by omega
    have ih:=dig_all k (n / 10) (by omega)
    unfold digB at *
    rw [decD_big h,List.all_append,ih]
    simp [dig_nat hd]
    omega
theorem dig_head:∀ (k n:Nat),n<=k->1<=n->(Lib.decDigits n)[0]?≠some 48/\Lib.decDigits n≠[]
 | k,n,hk,h1=>by
  by_cases h:n < 10
  ·rw [decD_small h]
   refine ⟨λe=>?_,by simp⟩
   simp only [List.getElem?_cons_zero,Option.some.injEq] at e
   have:=congrArg UInt8.toNat e
   rw [dig_nat h] at this
   have h48:(48:UInt8).toNat=48:=rfl
   omega
  ·match k,hk with
   | 0,hk=>omega
   | k+1,hk=>
    obtain ⟨i1,i2⟩:=dig_head k (n / 10) (by omega) (by omega)
    rw [decD_big h]
    refine ⟨?_,by simp⟩
    rw [List.getElem?_append_left (by exact List.length_pos_iff.2 i2)]
    exact i1
theorem num_dec {n:Nat} (h:n < 18446744073709551616):numF (Lib.decDigits n)=(n,0):=by
 rw [numF_good (w:=Lib.decDigits n) ?_,parse_dec n n (Nat.le_refl _) h]
 intro hb
 rcases hb with hb | hb | ⟨hb1,hb2⟩
 ·by_cases hz:n=0
  ·subst hz;rw [decD_small (by decide)] at hb;cases hb
  ·exact (dig_head n n (Nat.le_refl _) (by omega)).2 hb
 ·rw [dig_all n n (Nat.le_refl _)] at hb;cases hb
 ·by_cases hz:n=0
  ·subst hz;rw [decD_small (by decide)] at hb1;simp at hb1
  ·exact (dig_head n n (Nat.le_refl _) (by omega)).1 hb2
theorem numE_dec {n m:Nat} (h:n<=m) (hm:m < 18446744073709551616):numE (Lib.decDigits n) m=(n,0):=by
 unfold numE
 rw [num_dec (by omega)]
 simp only
 rw [if_neg (by decide),if_neg (by omega)]
/-- What is read as a number would be written so. -/
theorem dec_num_aux:∀ (k:Nat) (w:List UInt8),w.length<=k->digB w=true->w≠[]->¬ (1 < w.length/\w[0]? = some 48)->∀u,Lib.parseUintM (2 ^ 64 - 1) 0 w=.ok u->Lib.decDigits u=w
 | 0,w,hk,_,hne,_,_,_=>absurd (List.eq_nil_of_length_eq_zero (by omega)) hne
 | k+1,w,hk,hd,hne,hz,u,hp=>by
  obtain ⟨v,c,rfl⟩:∃v c,w=v++[c]:=⟨w.dropLast,w.getLast hne,(List.dropLast_concat_getLast hne).symm⟩
  rw [parse_app] at hp
  unfold digB at hd
  rw [List.all_append,Bool.and_eq_true] at hd
  obtain ⟨hdv,hdc⟩:=hd
  simp only [List.all_cons,List.all_nil,Bool.and_true,Bool.and_eq_true,decide_eq_true_eq] at hdc
  cases hv:Lib.parseUintM (2 ^ 64 - 1) 0 v with
  | ok m=>
   rw [hv] at hp
   simp only [Lib.parseUintM] at hp
   rw [if_pos hdc] at hp
   split at hp
   ·cases hp
   next c1=>
   split at hp
   ·cases hp
   next c2=>
   cases hp
   obtain ⟨d,hdd⟩:∃d,c.toNat=48+d:=⟨c.toNat - 48,by omega⟩
   have hc:c=UInt8.ofNat (48+d):=UInt8.toNat_inj.1 (by rw [dig_nat (by omega)];exact hdd)
   rw [hdd,show 48+d - 48=d by omega]
   by_cases hvn:v=[]
   ·subst hvn
    simp only [Lib.parseUintM] at hv
    cases hv
    rw [Nat.zero_mul,Nat.zero_add,decD_small (by omega),hc]
    rfl
   ·have hl:1 < (v++[c]).length:=by
     have:=List.length_pos_iff.2 hvn
     rw [List.length_append,List.length_singleton];omega
    have h48:v[0]?≠some 48:=λe=>hz ⟨hl,by rw [List.getElem?_append_left (List.length_pos_iff.2 hvn)];exact e⟩
    have hm:1<=m:=by
     obtain ⟨b,v',rfl⟩:=List.exists_cons_of_ne_nil hvn
     simp only [List.all_cons,Bool.and_eq_true,decide_eq_true_eq] at hdv
     have hb:b.toNat≠48:=λe=>h48 (by rw [List.getElem?_cons_zero];congr 1;exact UInt8.toNat_inj.1 e)
     simp only [Lib.parseUintM] at hv
     rw [if_pos hdv.1] at hv
     split at hv
     ·cases hv
     ·split at hv
      ·cases hv
      ·have:=parse_ge _ _ _ _ hv
       omega
    have ih:=dec_num_aux k v (by rw [List.length_append,List.length_singleton] at hk;omega) hdv hvn (λe=>h48 e.2) m hv
    rw [decD_big (by omega),show (m * 10+d) / 10=m by omega,show (m * 10+d) % 10=d by omega,ih,hc]
  | _=>rw [hv] at hp;cases hp
theorem dec_num {w:List UInt8} (h:(numF w).2=0):Lib.decDigits (numF w).1=w:=by
 by_cases hb:w=[]\/digB w=false\/(1 < w.length/\w[0]? = some 48)
 ·rw [numF_bad hb] at h;cases h
 ·rw [numF_good hb] at h ⊢
  have h1:w≠[]:=λe=>hb (.inl e)
  have h2:digB w=true:=by
   cases hd:digB w with
   | true=>rfl
   | false=>exact absurd (.inr (.inl hd)) hb
  cases hp:Lib.parseUintM (2 ^ 64 - 1) 0 w with
  | ok u=>exact dec_num_aux w.length w (Nat.le_refl _) h2 h1 (λe=>hb (.inr (.inr e))) u hp
  | _=>rw [hp] at h;cases h
theorem dec_numE {w:List UInt8} {m:Nat} (h:(numE w m).2=0):Lib.decDigits (numE w m).1=w:=by
 unfold numE at h ⊢
 by_cases h1:(numF w).2=0
 rotate_left
 ·rw [if_pos h1] at h;exact absurd h h1
 ·have h1':¬ (numF w).2≠0:=by simpa using h1
  rw [if_neg h1'] at h ⊢
  split at h
  ·cases h
  ·next h2=>rw [if_neg h2];exact dec_num h1
theorem words_join:∀ws:List (List UInt8),(∀w∈ws,w≠[]/\(32:UInt8)∉w)->wordsF (joinW ws)=ws
 | [],_=>rfl
 | [w],h=>by
  obtain ⟨h1,h2⟩:=h w (by simp)
  exact words_last h1 h2
 | w::x::r,h=>by
  obtain ⟨h1,h2⟩:=h w (by simp)
  rw [joinW,words_word h1 h2,words_join (x::r) λy hy=>h y (List.mem_cons_of_mem _ hy)]
theorem join_mem {b:UInt8}:∀ws:List (List UInt8),b∈joinW ws->b=32\/∃w∈ws,b∈w
 | [],h=>by cases h
 | [w],h=>.inr ⟨w,by simp,h⟩
 | w::x::r,h=>by
  rw [joinW] at h
  rcases List.mem_append.1 h with h | h
  ·exact .inr ⟨w,by simp,h⟩
  ·rcases List.mem_cons.1 h with h | h
   ·exact .inl h
   ·rcases join_mem (x::r) h with h | ⟨y,hy,hb⟩
    ·exact .inl h
    ·exact .inr ⟨y,List.mem_cons_of_mem _ hy,hb⟩
theorem cut_cons_ne (c:UInt8) (l:List UInt8):cutF c l≠[]:=by
 cases l with
 | nil=>simp [cutF]
 | cons b l=>
  unfold cutF
  split
  ·simp
  ·split<;>simp
theorem cut_noc {c:UInt8} {l:List UInt8} (h:c∉l):cutF c l=[l]:=by
 have:=cutF_app (l:=[]) h
 rw [List.append_nil] at this
 rw [this]
 simp [cutF]
theorem cut_lines (x:List UInt8) (hx:(10:UInt8)∉x):∀ls:List (List UInt8),(∀l∈ls,(10:UInt8)∉l)->cutF 10 ((ls.map (·++[10])).flatten++x)=ls++[x]
 | [],_=>by simpa using cut_noc hx
 | l::ls,h=>by
  have ih:=cut_lines x hx ls λy hy=>h y (List.mem_cons_of_mem _ hy)
  rw [List.map_cons,List.flatten_cons,List.append_assoc,List.append_assoc,cutF_app (h l (by simp))]
  simp only [List.cons_append,List.nil_append]
  rw [cutF,if_pos rfl,ih]
  simp
/-- The first piece, and the words behind it. -/
def hdP (l:List UInt8):List UInt8×List (List UInt8):=match cutF 32 l with | []=>([],[]) | h::t=>(h,t.filter λw=>!w.isEmpty)
theorem hdP_words {x y:List UInt8} (h:hdP x=hdP y):wordsF x=wordsF y:=by
 unfold hdP at h
 unfold wordsF
 cases hx:cutF 32 x with
 | nil=>exact absurd hx (cut_cons_ne _ _)
 | cons a t=>
  cases hy:cutF 32 y with
  | nil=>exact absurd hy (cut_cons_ne _ _)
  | cons b u=>
   rw [hx,hy] at h
   simp only [Prod.mk.injEq] at h
   obtain ⟨rfl,h2⟩:=h
   rw [List.filter_cons,List.filter_cons,h2]
theorem hdP_sp (x:List UInt8):hdP (32::x)=([],wordsF x):=by
 unfold hdP wordsF
 rw [cutF,if_pos rfl]
theorem hdP_cons {b:UInt8} (hb:b≠32) {x y:List UInt8} (h:hdP x=hdP y):hdP (b::x)=hdP (b::y):=by
 unfold hdP at h ⊢
 rw [cutF,if_neg hb,cutF,if_neg hb]
 cases hx:cutF 32 x with
 | nil=>exact absurd hx (cut_cons_ne _ _)
 | cons a t=>
  cases hy:cutF 32 y with
  | nil=>exact absurd hy (cut_cons_ne _ _)
  | cons c u=>
   rw [hx,hy] at h
   simp only [Prod.mk.injEq] at h ⊢
   obtain ⟨rfl,h2⟩:=h
   exact ⟨rfl,h2⟩
/-- A text with more blanks. -/
def moreB (s:List UInt8):List UInt8:=s.flatMap λb=>if b=32 then [32,32] else if b=10 then [32,10,32,32] else [b]
theorem cut_more:∀s:List UInt8,∃x r y r',cutF 10 (moreB s)=x::r/\cutF 10 s=y::r'/\hdP x=hdP y/\r.map wordsF=r'.map wordsF
 | []=>⟨[],[],[],[],rfl,rfl,rfl,rfl⟩
 | b::s=>by
  obtain ⟨x,r,y,r',h1,h2,h3,h4⟩:=cut_more s
  have hm:moreB (b::s)=(if b=32 then [32,32] else if b=10 then [32,10,32,32] else [b])++moreB s:=rfl
  rw [hm]
  by_cases hb:b=32
  ·subst hb
   refine ⟨32::32::x,r,32::y,r', ?_, ?_, ?_,h4⟩
   ·rw [if_pos rfl]
    simp only [List.cons_append,List.nil_append]
    rw [cutF,if_neg (by decide),cutF,if_neg (by decide),h1]
   ·rw [cutF,if_neg (by decide),h2]
   ·rw [hdP_sp,hdP_sp,words_sp,hdP_words h3]
  ·rw [if_neg hb]
   by_cases hn:b=10
   ·subst hn
    refine ⟨[32],(32::32::x)::r,[],y::r', ?_, ?_,rfl, ?_⟩
    ·rw [if_pos rfl]
     simp only [List.cons_append,List.nil_append]
     rw [cutF,if_neg (by decide),cutF,if_pos rfl,cutF,if_neg (by decide),cutF,if_neg (by decide),h1]
    ·rw [cutF,if_pos rfl,h2]
    ·rw [List.map_cons,List.map_cons,words_sp,words_sp,hdP_words h3,h4]
   ·refine ⟨b::x,r,b::y,r', ?_, ?_,hdP_cons hb h3,h4⟩
    ·rw [if_neg hn]
     simp only [List.cons_append,List.nil_append]
     rw [cutF,if_neg hn,h1]
    ·rw [cutF,if_neg hn,h2]
theorem cut_words (s:List UInt8):(cutF 10 (moreB s)).map wordsF=(cutF 10 s).map wordsF:=by
 obtain ⟨x,r,y,r',h1,h2,h3,h4⟩:=cut_more s
 rw [h1,h2,List.map_cons,List.map_cons,hdP_words h3,h4]
theorem words_total:∀l:List UInt8,(joinW (wordsF l)).length<=l.length:=by
 have key:∀ls:List (List UInt8),(joinW (ls.filter λw=>!w.isEmpty)).length+1<=(ls.map λx=>x.length+1).sum+1/\((ls.filter λw=>!w.isEmpty)≠[]->(joinW (ls.filter λw=>!w.isEmpty)).length+1<=(ls.map λx=>x.length+1).sum):=by
  intro ls
  induction ls with
  | nil=>exact ⟨by decide,λh=>absurd rfl h⟩
  | cons w ls ih=>
   obtain ⟨i1,i2⟩:=ih
   rw [List.map_cons,List.sum_cons]
   by_cases hw:w=[]
   ·subst hw
    rw [List.filter_cons_of_neg (by simp)]
    exact ⟨by omega,λh=>by have:=i2 h;omega⟩
   ·rw [List.filter_cons_of_pos (by simpa using hw)]
    cases hf:ls.filter λw=>!w.isEmpty with
    | nil=>simp only [joinW];exact ⟨by omega,λ_=>by omega⟩
    | cons x r=>
     have:=i2 (by rw [hf];simp)
     rw [hf] at this
     simp only [joinW,List.length_append,List.length_cons] at this ⊢
     exact ⟨by omega,λ_=>by omega⟩
 have cutl:∀l:List UInt8,((cutF 32 l).map λx=>x.length+1).sum=l.length+1:=by
  intro l
  induction l with
  | nil=>rfl
  | cons b l ih=>
   unfold cutF
   split
   ·rw [List.map_cons,List.sum_cons,ih];simp;omega
   ·split
    ·next h=>exact absurd h (cut_cons_ne _ _)
    ·next x r h=>
     rw [h,List.map_cons,List.sum_cons] at ih
     rw [List.map_cons,List.sum_cons]
     simp only [List.length_cons] at ih ⊢
     omega
 intro l
 by_cases h:wordsF l=[]
 ·rw [h];simp [joinW]
 ·have:=(key (cutF 32 l)).2 h
  rw [cutl] at this
  exact Nat.le_of_succ_le_succ this
theorem tjoin (l:List (List UInt8)) (h1:l.length<=70000) (h2:(joinW l).length<=1000000):TT.lim 7 [.l (l.map .s),.s [32]]=some [.s (joinW l)]:=prim_lim (f:=joinP) rfl (by
 simp only [joinP,strsOf_of]
 rw [if_pos ⟨by omega,by omega⟩])
theorem trepl (c:UInt8) (new x:List UInt8) (h:x.length<=100000) (hn:new.length<=100):TT.lim 43 [.s x,.s [c],.s new]=some [.s (putB c new x)]:=prim_lim (f:=replP) rfl (by
 simp only [replP]
 have:x.length * new.length<=100000 * 100:=Nat.mul_le_mul h hn
 rw [if_pos ⟨by omega,by omega⟩])
theorem twith (w:List UInt8) (h:w.length<=281474976710656):TT.lim 14 [.s w,.l [.i .i32 32,.i .i32 10]]=some [.b (goodW w)]:=prim_lim (f:=withoutP) rfl (by
 simp only [withoutP]
 rw [if_pos ⟨trivial,trivial,h⟩])
def lineT (ws:List (List UInt8)):List UInt8:=joinW ws++[10]
theorem pline_ok (ws:List (List UInt8)) (h1:ws.length<=70000) (h2:(joinW ws).length<=1000000):TT.lim 6 [.l (ws.map .s)]=some [.s (lineT ws)]:=by
 have k:=tjoin ws h1 h2
 unfold lineT
 obtain ⟨N,hN⟩:∃A:List UInt8,[10]=A:=⟨_,rfl⟩
 have lN:N.length=1:=by rw [<- hN];rfl
 rw [hN]
 generalize joinW ws=J at *
 generalize ws.map GV.s=W at *
 refine fn_lim rfl rfl ?_ rfl
 repeat' (first | (rw [mlim];rotate_left;omega) | simp [hN,k])
theorem pdig (n:Int) (h0:0<=n) (h1:n < 18446744073709551616):TT.lim 4 [.i .u64 n]=some [.s (dec n)]:=by
 have k:=tfmt n h0 h1
 refine fn_lim rfl rfl ?_ rfl
 simp [k,dec]
theorem join_len1 (a:List UInt8):(joinW [a]).length=a.length:=rfl
theorem join_len2 (a b:List UInt8) (r:List (List UInt8)):(joinW (a::b::r)).length=a.length+1+(joinW (b::r)).length:=by
 rw [joinW,List.length_append,List.length_cons];omega
/-- A fate as this one's fields may be. -/
def FtOk (f:Ft):Prop:=(0<=f.c/\f.c<=255)/\(0<=f.d/\f.d<=255)/\(-9223372036854775808<=f.cu/\f.cu<=9223372036854775807)/\(-9223372036854775808<=f.at_/\f.at_<=9223372036854775807)/\(0<=f.by_/\f.by_<=255)
def wordsFt (way:List UInt8) (f:Ft):List (List UInt8):=if f.dr=true then [way,dropB] else [way,dec f.c,dec f.d,Lib.itoa f.cu,Lib.itoa f.at_,dec f.by_]
def codeFt (f:Ft):Int:=if f.dr=true then 0 else if f.cu < 0\/100000 < f.cu\/f.at_ < 0\/100000 < f.at_ then 18 else 0
theorem wrap_u8u64 {n:Int} (h0:0<=n) (h1:n<=255):IntKind.u64.wrap n=n:=wrapu64 h0 (by omega)
theorem wordsFt_len {way:List UInt8} {f:Ft} (hw:way.length<=10) (h:FtOk f):(wordsFt way f).length<=6/\(joinW (wordsFt way f)).length<=600:=by
 obtain ⟨⟨a1,a2⟩,⟨b1,b2⟩,⟨c1,c2⟩,⟨d1,d2⟩,e1,e2⟩:=h
 have l1:=dec_len a1 (by omega)
 have l2:=dec_len b1 (by omega)
 have l3:=itoa_len c1 c2
 have l4:=itoa_len d1 d2
 have l5:=dec_len e1 (by omega)
 unfold wordsFt
 split
 ·refine ⟨by simp, ?_⟩
  rw [join_len2,join_len1]
  have:dropB.length=4:=rfl
  omega
 ·refine ⟨by simp, ?_⟩
  rw [join_len2,join_len2,join_len2,join_len2,join_len2,join_len1]
  omega
theorem pfateL (way:List UInt8) (hway:way.length<=10) (f:Ft) (h:FtOk f):TT.lim 9 [.s way,ftG f]=some (if codeFt f=0 then [.s (lineT (wordsFt way f)),.i .i64 0] else [.s [],.i .i64 (codeFt f)]):=by
 obtain ⟨l1,l2⟩:=wordsFt_len hway h
 obtain ⟨⟨a1,a2⟩,⟨b1,b2⟩,⟨c1,c2⟩,⟨d1,d2⟩,e1,e2⟩:=h
 obtain ⟨dr,c,d,cu,at_,by_⟩:=f
 simp only at a1 a2 b1 b2 c1 c2 d1 d2 e1 e2
 have k:=pline_ok (wordsFt way ⟨dr,c,d,cu,at_,by_⟩) (by omega) (by omega)
 generalize lineT (wordsFt way ⟨dr,c,d,cu,at_,by_⟩)=T at *
 cases dr with
 | true=>
  have hc:codeFt ⟨true,c,d,cu,at_,by_⟩=0:=rfl
  have hw:wordsFt way ⟨true,c,d,cu,at_,by_⟩=[way,dropB]:=rfl
  rw [hw] at k
  rw [hc,if_pos rfl]
  simp only [List.map_cons,List.map_nil,dropB] at k
  simp only [ftG]
  refine fn_lim rfl rfl ?_ rfl
  simp [k]
 | false=>
  have hw:wordsFt way ⟨false,c,d,cu,at_,by_⟩=[way,dec c,dec d,Lib.itoa cu,Lib.itoa at_,dec by_]:=rfl
  rw [hw] at k
  simp only [List.map_cons,List.map_nil] at k
  have k1:=pdig c a1 (by omega)
  have k2:=pdig d b1 (by omega)
  have k3:=titoa cu c1 c2
  have k4:=titoa at_ d1 d2
  have k5:=pdig by_ e1 (by omega)
  have w1:=wrap_u8u64 a1 a2
  have w2:=wrap_u8u64 b1 b2
  have w3:=wrap_u8u64 e1 e2
  simp only [ftG]
  generalize dec c=D1 at *
  generalize dec d=D2 at *
  generalize dec by_=D3 at *
  generalize Lib.itoa cu=I1 at *
  generalize Lib.itoa at_=I2 at *
  clear l1 l2 hw
  by_cases g:cu < 0\/100000 < cu\/at_ < 0\/100000 < at_
  ·have hc:codeFt ⟨false,c,d,cu,at_,by_⟩=18:=by unfold codeFt;rw [if_neg (by simp),if_pos g]
   rw [hc,if_neg (by decide)]
   clear hc
   by_cases g1:cu < 0
   ·refine fn_lim rfl rfl ?_ rfl
    simp [g1]
   by_cases g2:100000 < cu
   ·refine fn_lim rfl rfl ?_ rfl
    simp [g1,g2]
   by_cases g3:at_ < 0
   ·refine fn_lim rfl rfl ?_ rfl
    simp [g1,g2,g3]
   have g4:100000 < at_:=by omega
   refine fn_lim rfl rfl ?_ rfl
   simp [g1,g2,g3,g4]
  ·have hc:codeFt ⟨false,c,d,cu,at_,by_⟩=0:=by unfold codeFt;rw [if_neg (by simp),if_neg g]
   rw [hc,if_pos rfl]
   clear hc
   have g1:¬ cu < 0:=by omega
   have g2:¬ 100000 < cu:=by omega
   have g3:¬ at_ < 0:=by omega
   have g4:¬ 100000 < at_:=by omega
   clear g
   refine fn_lim rfl rfl ?_ rfl
   simp [g1,g2,g3,g4,w1,w2,w3,k1,k2,k3,k4,k5,k]
/-- A command as its fields may be. -/
def CfOk (c:Cm):Prop:=(0<=c.op/\c.op<=255)/\(-9223372036854775808<=c.en/\c.en<=9223372036854775807)/\(0<=c.n/\c.n < 18446744073709551616)/\c.w.length<=70000
def wordsCm (c:Cm):List (List UInt8):=
 if c.op=0 then [wAdd,Lib.itoa c.en,c.w,dec c.n] else if c.op=1 then [wPub,Lib.itoa c.en,dec c.n] else if c.op=2 then [wPoll,Lib.itoa c.en] else if c.op=3 then [wStep,dec c.n] else if c.op=4 then [wShow,Lib.itoa c.en] else [wAll]
def codeCm (c:Cm):Int:=
 if 5 < c.op then 23 else if c.op≠3/\c.op≠5/\c.en≠0/\c.en≠1 then 18 else if c.op=3/\100000 < c.n then 18
 else if c.op=0/\goodW c.w=false then 23 else if c.op=0/\64 < c.w.length then 13 else 0
theorem wordsCm_len {c:Cm} (h:CfOk c) (hc:codeCm c=0):(wordsCm c).length<=6/\(joinW (wordsCm c)).length<=600:=by
 obtain ⟨⟨o1,o2⟩,⟨e1,e2⟩,⟨n1,n2⟩,hw⟩:=h
 have l1:=itoa_len e1 e2
 have l2:=dec_len n1 n2
 have hw64:c.op=0->c.w.length<=64:=λe=>by
  unfold codeCm at hc
  split at hc
  ·cases hc
  split at hc
  ·cases hc
  split at hc
  ·cases hc
  split at hc
  ·cases hc
  split at hc
  ·cases hc
  ·next h=>exact Nat.not_lt.1 λhl=>h ⟨e,hl⟩
 unfold wordsCm
 split
 ·next e=>
  have:=hw64 e
  refine ⟨by simp, ?_⟩
  rw [join_len2,join_len2,join_len2,join_len1]
  have:wAdd.length=3:=rfl
  omega
 split
 ·refine ⟨by simp, ?_⟩
  rw [join_len2,join_len2,join_len1]
  have:wPub.length=7:=rfl
  omega
 split
 ·refine ⟨by simp, ?_⟩
  rw [join_len2,join_len1]
  have:wPoll.length=4:=rfl
  omega
 split
 ·refine ⟨by simp, ?_⟩
  rw [join_len2,join_len1]
  have:wStep.length=4:=rfl
  omega
 split
 ·refine ⟨by simp, ?_⟩
  rw [join_len2,join_len1]
  have:wShow.length=4:=rfl
  omega
 ·exact ⟨by simp,by decide⟩
theorem pcmdL (c:Cm) (h:CfOk c):TT.lim 13 [cmG c]=some (if codeCm c=0 then [.s (lineT (wordsCm c)),.i .i64 0] else [.s [],.i .i64 (codeCm c)]):=by
 have k:codeCm c=0->TT.lim 6 [.l ((wordsCm c).map .s)]=some [.s (lineT (wordsCm c))]:=λe=>by
  obtain ⟨l1,l2⟩:=wordsCm_len h e
  exact pline_ok _ (by omega) (by omega)
 obtain ⟨⟨o1,o2⟩,⟨e1,e2⟩,⟨n1,n2⟩,hw⟩:=h
 obtain ⟨ln,op,en,n,w⟩:=c
 simp only at o1 o2 e1 e2 n1 n2 hw
 have k1:=titoa en e1 e2
 have k2:=pdig n n1 n2
 have k3:=twith w (by omega)
 generalize lineT (wordsCm ⟨ln,op,en,n,w⟩)=T at *
 simp only [cmG]
 generalize hD:dec n=D at *
 generalize hI:Lib.itoa en=I at *
 by_cases g1:5 < op
 ·have hc:codeCm ⟨ln,op,en,n,w⟩=23:=by unfold codeCm;rw [if_pos g1]
  rw [hc,if_neg (by decide)]
  clear k k1 k2 k3 hc
  refine fn_lim rfl rfl ?_ rfl
  simp [g1]
 by_cases g2:op≠3/\op≠5/\en≠0/\en≠1
 ·have hc:codeCm ⟨ln,op,en,n,w⟩=18:=by unfold codeCm;rw [if_neg g1,if_pos g2]
  rw [hc,if_neg (by decide)]
  obtain ⟨q1,q2,q3,q4⟩:=g2
  clear k k1 k2 k3 hc
  refine fn_lim rfl rfl ?_ rfl
  simp [g1,q1,q2,q3,q4]
 by_cases g3:op=3/\100000 < n
 ·have hc:codeCm ⟨ln,op,en,n,w⟩=18:=by unfold codeCm;rw [if_neg g1,if_neg g2,if_pos g3]
  rw [hc,if_neg (by decide)]
  obtain ⟨rfl,q2⟩:=g3
  clear k k1 k2 k3 hc
  refine fn_lim rfl rfl ?_ rfl
  simp [q2]
 by_cases g4:op=0/\goodW w=false
 ·have hc:codeCm ⟨ln,op,en,n,w⟩=23:=by unfold codeCm;rw [if_neg g1,if_neg g2,if_neg g3,if_pos g4]
  rw [hc,if_neg (by decide)]
  obtain ⟨rfl,q2⟩:=g4
  rw [q2] at k3
  clear k k2 hc
  by_cases q3:en=0
  ·subst q3
   refine fn_lim rfl rfl ?_ rfl
   simp [k1,k3]
  ·have q4:en=1:=Classical.byContradiction λe=>g2 ⟨by decide,by decide,q3,e⟩
   subst q4
   refine fn_lim rfl rfl ?_ rfl
   simp [k1,k3]
 by_cases g5:op=0/\64 < w.length
 ·have hc:codeCm ⟨ln,op,en,n,w⟩=13:=by unfold codeCm;rw [if_neg g1,if_neg g2,if_neg g3,if_neg g4,if_pos g5]
  rw [hc,if_neg (by decide)]
  obtain ⟨rfl,q2⟩:=g5
  have q5:goodW w=true:=by
   cases hg:goodW w with
   | true=>rfl
   | false=>exact absurd ⟨rfl,hg⟩ g4
  rw [q5] at k3
  have q6:(64:Int) < (w.length:Int):=by omega
  clear k k2 hc
  by_cases q3:en=0
  ·subst q3
   refine fn_lim rfl rfl ?_ rfl
   simp [k1,k3,q6]
  ·have q4:en=1:=Classical.byContradiction λe=>g2 ⟨by decide,by decide,q3,e⟩
   subst q4
   refine fn_lim rfl rfl ?_ rfl
   simp [k1,k3,q6]
 have hc:codeCm ⟨ln,op,en,n,w⟩=0:=by unfold codeCm;rw [if_neg g1,if_neg g2,if_neg g3,if_neg g4,if_neg g5]
 have kk:=k hc
 clear k
 rw [hc,if_pos rfl]
 have hen:op≠3->op≠5->en=0\/en=1:=λh3 h5=>by
  by_cases q3:en=0
  ·exact .inl q3
  ·exact .inr (Classical.byContradiction λe=>g2 ⟨h3,h5,q3,e⟩)
 clear hc g2
 unfold wordsCm at kk
 simp only at kk
 rw [hD,hI] at kk
 rcases (show op=0\/op=1\/op=2\/op=3\/op=4\/op=5 by omega) with rfl | rfl | rfl | rfl | rfl | rfl
 ·have q5:goodW w=true:=by
   cases hg:goodW w with
   | true=>rfl
   | false=>exact absurd ⟨rfl,hg⟩ g4
  rw [q5] at k3
  have q6:¬ (64:Int) < (w.length:Int):=λe=>g5 ⟨rfl,by omega⟩
  rw [if_pos rfl] at kk
  simp only [List.map_cons,List.map_nil,wAdd,wPub,wPoll,wStep,wShow,wAll] at kk
  clear g1 g3 g4 g5 hD hI
  rcases hen (by decide) (by decide) with rfl | rfl
  ·refine fn_lim rfl rfl ?_ rfl
   simp [k3,q6,k1,k2,kk]
  ·refine fn_lim rfl rfl ?_ rfl
   simp [k3,q6,k1,k2,kk]
 ·rw [if_neg (by decide),if_pos rfl] at kk
  simp only [List.map_cons,List.map_nil,wAdd,wPub,wPoll,wStep,wShow,wAll] at kk
  clear g1 g3 g4 g5 hD hI
  rcases hen (by decide) (by decide) with rfl | rfl
  ·refine fn_lim rfl rfl ?_ rfl
   simp [k1,k2,kk]
  ·refine fn_lim rfl rfl ?_ rfl
   simp [k1,k2,kk]
 ·rw [if_neg (by decide),if_neg (by decide),if_pos rfl] at kk
  simp only [List.map_cons,List.map_nil,wAdd,wPub,wPoll,wStep,wShow,wAll] at kk
  clear g1 g3 g4 g5 hD hI
  rcases hen (by decide) (by decide) with rfl | rfl
  ·refine fn_lim rfl rfl ?_ rfl
   simp [k1,kk]
  ·refine fn_lim rfl rfl ?_ rfl
   simp [k1,kk]
 ·rw [if_neg (by decide),if_neg (by decide),if_neg (by decide),if_pos rfl] at kk
  simp only [List.map_cons,List.map_nil,wAdd,wPub,wPoll,wStep,wShow,wAll] at kk
  have q7:¬ 100000 < n:=λe=>g3 ⟨rfl,e⟩
  clear g1 g3 g4 g5 hD hI hen
  refine fn_lim rfl rfl ?_ rfl
  simp [q7,k2,k1,kk]
 ·rw [if_neg (by decide),if_neg (by decide),if_neg (by decide),if_neg (by decide),if_pos rfl] at kk
  simp only [List.map_cons,List.map_nil,wAdd,wPub,wPoll,wStep,wShow,wAll] at kk
  clear g1 g3 g4 g5 hD hI
  rcases hen (by decide) (by decide) with rfl | rfl
  ·refine fn_lim rfl rfl ?_ rfl
   simp [k1,kk]
  ·refine fn_lim rfl rfl ?_ rfl
   simp [k1,kk]
 ·rw [if_neg (by decide),if_neg (by decide),if_neg (by decide),if_neg (by decide),if_neg (by decide)] at kk
  simp only [List.map_cons,List.map_nil,wAdd,wPub,wPoll,wStep,wShow,wAll] at kk
  clear g1 g3 g4 g5 hD hI hen
  refine fn_lim rfl rfl ?_ rfl
  simp [k1,kk]
def codesL {α:Type} (f:α->Int):List α->Int
 | []=>0
 | a::l=>if f a≠0 then f a else codesL f l
def ansB {α:Type} (f:α->Int) (t:α->List UInt8) (acc:List UInt8) (l:List α):List GV:=if codesL f l=0 then [.i .i64 1,.l (byteGs (acc++l.flatMap t))] else [.i .i64 0,.i .i64 (codesL f l)]
theorem ansB_cons {α:Type} {f:α->Int} {t:α->List UInt8} {acc:List UInt8} {a:α} {l:List α} (h:f a=0):ansB f t acc (a::l)=ansB f t (acc++t a) l:=by
 have e:codesL f (a::l)=codesL f l:=by rw [codesL,if_neg (by simpa using h)]
 unfold ansB
 rw [e,List.flatMap_cons,List.append_assoc]
theorem ansB_bad {α:Type} {f:α->Int} {t:α->List UInt8} {acc:List UInt8} {a:α} {l:List α} (h:f a≠0):ansB f t acc (a::l)=[.i .i64 0,.i .i64 (f a)]:=by
 have e:codesL f (a::l)=f a:=by rw [codesL,if_pos h]
 unfold ansB
 rw [e,if_neg h]
theorem ansB_nil {α:Type} {f:α->Int} {t:α->List UInt8} {acc:List UInt8}:ansB f t acc []=[.i .i64 1,.l (byteGs acc)]:=by
 unfold ansB
 rw [codesL,if_pos rfl]
 simp
def ftT (way:List UInt8) (f:Ft):List UInt8:=lineT (wordsFt way f)
def cmT (c:Cm):List UInt8:=lineT (wordsCm c)
theorem ftT_len {way:List UInt8} {f:Ft} (hw:way.length<=10) (h:FtOk f):(ftT way f).length<=601:=by
 have:=(wordsFt_len hw h).2
 unfold ftT lineT
 rw [List.length_append,List.length_singleton];omega
theorem cmT_len {c:Cm} (h:CfOk c) (hc:codeCm c=0):(cmT c).length<=601:=by
 have:=(wordsCm_len h hc).2
 unfold cmT lineT
 rw [List.length_append,List.length_singleton];omega
theorem pprint0 (a4 a5 a6 a7 B C:GV) (fs:List Ft) (hf:∀f∈fs,FtOk f) (hl:fs.length<=2000):∀ (m i:Nat) (acc:List UInt8),i+m=fs.length->acc.length<=100000+i * 601->
 TT.lim 8 [.l (fs.map ftG),.i .i64 fs.length,.i .i64 i,.l (byteGs acc),a4,a5,a6,a7,B,C]=some (ansB codeFt (ftT wThere) acc (fs.drop i))
 | 0,i,acc,hi,ha=>by
  have h:¬ ((i:Int) < fs.length):=by omega
  rw [List.drop_eq_nil_of_le (by omega),ansB_nil]
  generalize byteGs acc=A at *
  generalize fs.map ftG=F at *
  refine tree_lim rfl rfl ?_
  simp [h]
 | m+1,i,acc,hi,ha=>by
  have hlt:i < fs.length:=by omega
  have h:((i:Int) < fs.length):=by omega
  have hw:=wrap64 (n:=(i:Int)+1) (by omega) (by omega)
  have hcast:((i+1:Nat):Int)=(i:Int)+1:=by omega
  have hget:=getG ftG hlt
  have hfk:=hf _ (List.getElem_mem hlt)
  have k:TT.lim 9 [.s [116,104,101,114,101],ftG fs[i]]=_:=pfateL wThere (by decide) fs[i] hfk
  have hlen:=ftT_len (way:=wThere) (by decide) hfk
  rw [List.drop_eq_getElem_cons hlt]
  by_cases e:codeFt fs[i]=0
  ·rw [if_pos e] at k
   rw [ansB_cons e]
   have ih:=pprint0 a4 a5 a6 a7 B C fs hf hl m (i+1) (acc++ftT wThere fs[i]) (by omega) (by rw [List.length_append];omega)
   rw [hcast,byteGs_append] at ih
   have hok:=byteGs_ok (ftT wThere fs[i])
   have hb:2 * (acc.length+(ftT wThere fs[i]).length)<=281474976710656/\acc.length+(ftT wThere fs[i]).length<=281474976710656:=by omega
   change TT.lim _ _=some [.s (ftT wThere fs[i]),_] at k
   generalize ansB codeFt (ftT wThere) (acc++ftT wThere fs[i]) (fs.drop (i+1))=O at *
   generalize ftT wThere fs[i]=T at *
   generalize fs[i]=f at *
   simp only [ftG] at k
   generalize fs.map ftG=F at *
   generalize (fs.length:Int)=N at *
   refine tree_lim rfl rfl ?_
   simp [-List.all_eq_true,h,hw,hget,k,hok,hb,ih]
  ·rw [if_neg e] at k
   rw [ansB_bad e]
   generalize codeFt fs[i]=E at *
   generalize fs[i]=f at *
   simp only [ftG] at k
   generalize fs.map ftG=F at *
   generalize (fs.length:Int)=N at *
   refine tree_lim rfl rfl ?_
   simp [h,hw,hget,k,e]
theorem pprint1 (a4 a5 a6 a7 B C:GV) (fs:List Ft) (hf:∀f∈fs,FtOk f) (hl:fs.length<=2000):∀ (m i:Nat) (acc:List UInt8),i+m=fs.length->acc.length<=3000000+i * 601->
 TT.lim 11 [.l (fs.map ftG),.i .i64 fs.length,.i .i64 i,.l (byteGs acc),a4,a5,a6,a7,B,C]=some (ansB codeFt (ftT wBack) acc (fs.drop i))
 | 0,i,acc,hi,ha=>by
  have h:¬ ((i:Int) < fs.length):=by omega
  rw [List.drop_eq_nil_of_le (by omega),ansB_nil]
  generalize byteGs acc=A at *
  generalize fs.map ftG=F at *
  refine tree_lim rfl rfl ?_
  simp [h]
 | m+1,i,acc,hi,ha=>by
  have hlt:i < fs.length:=by omega
  have h:((i:Int) < fs.length):=by omega
  have hw:=wrap64 (n:=(i:Int)+1) (by omega) (by omega)
  have hcast:((i+1:Nat):Int)=(i:Int)+1:=by omega
  have hget:=getG ftG hlt
  have hfk:=hf _ (List.getElem_mem hlt)
  have k:TT.lim 9 [.s [98,97,99,107],ftG fs[i]]=_:=pfateL wBack (by decide) fs[i] hfk
  have hlen:=ftT_len (way:=wBack) (by decide) hfk
  rw [List.drop_eq_getElem_cons hlt]
  by_cases e:codeFt fs[i]=0
  ·rw [if_pos e] at k
   rw [ansB_cons e]
   have ih:=pprint1 a4 a5 a6 a7 B C fs hf hl m (i+1) (acc++ftT wBack fs[i]) (by omega) (by rw [List.length_append];omega)
   rw [hcast,byteGs_append] at ih
   have hok:=byteGs_ok (ftT wBack fs[i])
   have hb:2 * (acc.length+(ftT wBack fs[i]).length)<=281474976710656/\acc.length+(ftT wBack fs[i]).length<=281474976710656:=by omega
   change TT.lim _ _=some [.s (ftT wBack fs[i]),_] at k
   generalize ansB codeFt (ftT wBack) (acc++ftT wBack fs[i]) (fs.drop (i+1))=O at *
   generalize ftT wBack fs[i]=T at *
   generalize fs[i]=f at *
   simp only [ftG] at k
   generalize fs.map ftG=F at *
   generalize (fs.length:Int)=N at *
   refine tree_lim rfl rfl ?_
   simp [-List.all_eq_true,h,hw,hget,k,hok,hb,ih]
  ·rw [if_neg e] at k
   rw [ansB_bad e]
   generalize codeFt fs[i]=E at *
   generalize fs[i]=f at *
   simp only [ftG] at k
   generalize fs.map ftG=F at *
   generalize (fs.length:Int)=N at *
   refine tree_lim rfl rfl ?_
   simp [h,hw,hget,k,e]
theorem pprint2 (cs:List Cm) (hf:∀c∈cs,CfOk c) (hl:cs.length<=2000):∀ (m i:Nat) (acc:List UInt8),i+m=cs.length->acc.length<=6000000+i * 601->
 TT.lim 12 [.l (cs.map cmG),.i .i64 cs.length,.i .i64 i,.l (byteGs acc)]=some (ansB codeCm cmT acc (cs.drop i))
 | 0,i,acc,hi,ha=>by
  have h:¬ ((i:Int) < cs.length):=by omega
  rw [List.drop_eq_nil_of_le (by omega),ansB_nil]
  generalize byteGs acc=A at *
  generalize cs.map cmG=F at *
  refine tree_lim rfl rfl ?_
  simp [h]
 | m+1,i,acc,hi,ha=>by
  have hlt:i < cs.length:=by omega
  have h:((i:Int) < cs.length):=by omega
  have hw:=wrap64 (n:=(i:Int)+1) (by omega) (by omega)
  have hcast:((i+1:Nat):Int)=(i:Int)+1:=by omega
  have hget:=getG cmG hlt
  have hfk:=hf _ (List.getElem_mem hlt)
  have k:=pcmdL cs[i] hfk
  rw [List.drop_eq_getElem_cons hlt]
  by_cases e:codeCm cs[i]=0
  ·have hlen:=cmT_len hfk e
   rw [if_pos e] at k
   rw [ansB_cons e]
   have ih:=pprint2 cs hf hl m (i+1) (acc++cmT cs[i]) (by omega) (by rw [List.length_append];omega)
   rw [hcast,byteGs_append] at ih
   have hok:=byteGs_ok (cmT cs[i])
   have hb:2 * (acc.length+(cmT cs[i]).length)<=281474976710656/\acc.length+(cmT cs[i]).length<=281474976710656:=by omega
   change TT.lim _ _=some [.s (cmT cs[i]),_] at k
   generalize ansB codeCm cmT (acc++cmT cs[i]) (cs.drop (i+1))=O at *
   generalize cmT cs[i]=T at *
   generalize cs[i]=f at *
   simp only [cmG] at k
   generalize cs.map cmG=F at *
   generalize (cs.length:Int)=N at *
   refine tree_lim rfl rfl ?_
   simp [-List.all_eq_true,h,hw,hget,k,hok,hb,ih]
  ·rw [if_neg e] at k
   rw [ansB_bad e]
   generalize codeCm cs[i]=E at *
   generalize cs[i]=f at *
   simp only [cmG] at k
   generalize cs.map cmG=F at *
   generalize (cs.length:Int)=N at *
   refine tree_lim rfl rfl ?_
   simp [h,hw,hget,k,e]
def pairL (s:Sc):List (List UInt8):=[wPair,dec s.m1,dec s.m2,dec s.m3,dec s.m4]
def textS (s:Sc):List UInt8:=lineT (pairL s)++s.th.flatMap (ftT wThere)++s.bk.flatMap (ftT wBack)++s.cm.flatMap cmT
def codeS (s:Sc):Int:=
 if 200 < s.th.length+s.bk.length\/1000 < s.cm.length then 13 else if codesL codeFt s.th≠0 then codesL codeFt s.th else if codesL codeFt s.bk≠0 then codesL codeFt s.bk
 else if codesL codeCm s.cm≠0 then codesL codeCm s.cm else if 65536 < (textS s).length then 4 else 0
/-- A script as its fields may be. -/
structure SfOk (s:Sc):Prop where
 m1:s.m1 < 18446744073709551616
 m2:s.m2 < 18446744073709551616
 m3:s.m3 < 18446744073709551616
 m4:s.m4 < 18446744073709551616
 th:∀f∈s.th,FtOk f
 bk:∀f∈s.bk,FtOk f
 cm:∀c∈s.cm,CfOk c
 lt:s.th.length<=2000
 lb:s.bk.length<=2000
 lc:s.cm.length<=2000
theorem flat_len {α:Type} {t:α->List UInt8}:∀ {l:List α},(∀a∈l,(t a).length<=601)->(l.flatMap t).length<=l.length * 601
 | [],_=>by simp
 | a::l,h=>by
  have h1:=h a (by simp)
  have h2:=flat_len (t:=t) (l:=l) λb hb=>h b (List.mem_cons_of_mem _ hb)
  rw [List.flatMap_cons,List.length_append,List.length_cons]
  omega
theorem codes_all {α:Type} {f:α->Int}:∀ {l:List α},codesL f l=0->∀a∈l,f a=0
 | [],_,a,h=>by cases h
 | b::l,h,a,ha=>by
  rw [codesL] at h
  by_cases e:f b=0
  ·rw [if_neg (by simpa using e)] at h
   rcases List.mem_cons.1 ha with rfl | ha
   ·exact e
   ·exact codes_all h a ha
  ·rw [if_pos e] at h;exact absurd h e
theorem codes_of {α:Type} {f:α->Int}:∀ {l:List α},(∀a∈l,f a=0)->codesL f l=0
 | [],_=>rfl
 | b::l,h=>by
  rw [codesL,if_neg (by simpa using h b (by simp))]
  exact codes_of λa ha=>h a (List.mem_cons_of_mem _ ha)
theorem pairL_len {s:Sc} (h:SfOk s):(joinW (pairL s)).length<=500:=by
 have l1:=dec_len (n:=(s.m1:Int)) (by omega) (by have:=h.m1;omega)
 have l2:=dec_len (n:=(s.m2:Int)) (by omega) (by have:=h.m2;omega)
 have l3:=dec_len (n:=(s.m3:Int)) (by omega) (by have:=h.m3;omega)
 have l4:=dec_len (n:=(s.m4:Int)) (by omega) (by have:=h.m4;omega)
 unfold pairL
 rw [join_len2,join_len2,join_len2,join_len2,join_len1]
 have:wPair.length=4:=rfl
 omega
theorem pprint_ok (s:Sc) (h:SfOk s):TT.lim 3 [.g (scL s)]=some (if codeS s=0 then [.s (textS s),.i .i64 0] else [.s [],.i .i64 (codeS s)]):=by
 have k0:=pdig s.m1 (by omega) (by have:=h.m1;omega)
 have k1:=pdig s.m2 (by omega) (by have:=h.m2;omega)
 have k2:=pdig s.m3 (by omega) (by have:=h.m3;omega)
 have k3:=pdig s.m4 (by omega) (by have:=h.m4;omega)
 have hpl:=pairL_len h
 have k4:=pline_ok (pairL s) (by unfold pairL;simp) (by omega)
 have hll:(lineT (pairL s)).length<=501:=by unfold lineT;rw [List.length_append,List.length_singleton];omega
 have p0:=pprint0 (nG s.m1) (nG s.m2) (nG s.m3) (nG s.m4) (.l (s.bk.map ftG)) (.l (s.cm.map cmG)) s.th h.th h.lt s.th.length 0 (lineT (pairL s)) (by omega) (by omega)
 have hft:(s.th.flatMap (ftT wThere)).length<=s.th.length * 601:=flat_len λf hf=>ftT_len (by decide) (h.th f hf)
 have hfb:(s.bk.flatMap (ftT wBack)).length<=s.bk.length * 601:=flat_len λf hf=>ftT_len (by decide) (h.bk f hf)
 have hlt:=h.lt
 have hlb:=h.lb
 have hlc:=h.lc
 have p1:=pprint1 (nG s.m1) (nG s.m2) (nG s.m3) (nG s.m4) (.l (s.th.map ftG)) (.l (s.cm.map cmG)) s.bk h.bk h.lb s.bk.length 0 (lineT (pairL s)++s.th.flatMap (ftT wThere)) (by omega) (by rw [List.length_append];omega)
 have p2:=pprint2 s.cm h.cm h.lc s.cm.length 0 (lineT (pairL s)++s.th.flatMap (ftT wThere)++s.bk.flatMap (ftT wBack)) (by omega) (by rw [List.length_append,List.length_append];omega)
 have hcl:codesL codeCm s.cm=0->(s.cm.flatMap cmT).length<=s.cm.length * 601:=λe=>flat_len λc hc=>cmT_len (h.cm c hc) (codes_all e c hc)
 have ht:((s.th.map ftG).length:Int)=(s.th.length:Int):=by rw [List.length_map]
 have hb:((s.bk.map ftG).length:Int)=(s.bk.length:Int):=by rw [List.length_map]
 have hc:((s.cm.map cmG).length:Int)=(s.cm.length:Int):=by rw [List.length_map]
 have hwr:IntKind.i64.wrap ((s.th.length:Int)+s.bk.length)=(s.th.length:Int)+s.bk.length:=wrap64 (by omega) (by omega)
 have hok:=byteGs_ok (lineT (pairL s))
 have hbl:2 * (lineT (pairL s)).length<=281474976710656/\(lineT (pairL s)).length<=281474976710656:=by omega
 rw [List.drop_zero] at p0 p1 p2
 simp only [Int.natCast_zero] at p0 p1 p2
 simp only [pairL,List.map_cons,List.map_nil,wPair] at k4
 change TT.lim _ _=some [.s (lineT (pairL s))] at k4
 have hts:textS s=lineT (pairL s)++s.th.flatMap (ftT wThere)++s.bk.flatMap (ftT wBack)++s.cm.flatMap cmT:=rfl
 unfold codeS
 generalize lineT (pairL s)=PL at *
 generalize dec s.m1=D1 at *
 generalize dec s.m2=D2 at *
 generalize dec s.m3=D3 at *
 generalize dec s.m4=D4 at *
 have e200:200 < s.th.length+s.bk.length↔(200:Int) < (s.th.length:Int)+s.bk.length:=by omega
 have e1000:1000 < s.cm.length↔(1000:Int) < (s.cm.length:Int):=by omega
 have htl:codesL codeCm s.cm=0->(textS s).length<=10000000:=λe=>by
  have:=hcl e
  rw [hts,List.length_append,List.length_append,List.length_append];omega
 clear hcl hft hfb hlt hlb hlc hpl hll
 simp only [scL,nG] at *
 generalize s.th.map ftG=T at *
 generalize s.bk.map ftG=B at *
 generalize s.cm.map cmG=C at *
 by_cases g1:200 < s.th.length+s.bk.length\/1000 < s.cm.length
 ·rw [if_pos g1,if_neg (by decide)]
  rw [e200,e1000] at g1
  clear p0 p1 p2
  generalize (s.th.length:Int)=TL at *
  generalize (s.bk.length:Int)=BL at *
  generalize (s.cm.length:Int)=CL at *
  by_cases g2:200 < TL+BL
  ·refine fn_lim rfl rfl ?_ rfl
   simp [ht,hb,hwr,g2]
  ·have g3:1000 < CL:=by omega
   refine fn_lim rfl rfl ?_ rfl
   simp [ht,hb,hc,hwr,g2,g3]
 rw [if_neg g1]
 rw [e200,e1000] at g1
 generalize (s.th.length:Int)=TL at *
 generalize (s.bk.length:Int)=BL at *
 generalize (s.cm.length:Int)=CL at *
 have g2:¬ 200 < TL+BL:=by omega
 have g3:¬ 1000 < CL:=by omega
 clear g1 e200 e1000
 by_cases c1:codesL codeFt s.th=0
 rotate_left
 ·rw [if_pos c1,if_neg c1]
  unfold ansB at p0
  rw [if_neg c1] at p0
  clear p1 p2 htl hts
  generalize codesL codeFt s.th=E at *
  refine fn_lim rfl rfl ?_ rfl
  simp [-List.all_eq_true,ht,hb,hc,hwr,g2,g3,k0,k1,k2,k3,k4,hok,hbl,p0]
 have c1':¬ codesL codeFt s.th≠0:=by simpa using c1
 rw [if_neg c1']
 unfold ansB at p0
 rw [if_pos c1] at p0
 by_cases c2:codesL codeFt s.bk=0
 rotate_left
 ·rw [if_pos c2,if_neg c2]
  unfold ansB at p1
  rw [if_neg c2] at p1
  clear p2 htl hts c1'
  generalize codesL codeFt s.bk=E at *
  generalize byteGs (PL++s.th.flatMap (ftT wThere))=X at *
  refine fn_lim rfl rfl ?_ rfl
  simp [-List.all_eq_true,ht,hb,hc,hwr,g2,g3,k0,k1,k2,k3,k4,hok,hbl,p0,p1]
 have c2':¬ codesL codeFt s.bk≠0:=by simpa using c2
 rw [if_neg c2']
 unfold ansB at p1
 rw [if_pos c2] at p1
 by_cases c3:codesL codeCm s.cm=0
 rotate_left
 ·rw [if_pos c3,if_neg c3]
  unfold ansB at p2
  rw [if_neg c3] at p2
  clear htl hts c1' c2'
  generalize codesL codeCm s.cm=E at *
  generalize byteGs (PL++s.th.flatMap (ftT wThere)++s.bk.flatMap (ftT wBack))=Y at *
  generalize byteGs (PL++s.th.flatMap (ftT wThere))=X at *
  refine fn_lim rfl rfl ?_ rfl
  simp [-List.all_eq_true,ht,hb,hc,hwr,g2,g3,k0,k1,k2,k3,k4,hok,hbl,p0,p1,p2]
 have c3':¬ codesL codeCm s.cm≠0:=by simpa using c3
 rw [if_neg c3']
 unfold ansB at p2
 rw [if_pos c3,<- hts] at p2
 have hbg:=bytesG_byteGs (textS s)
 have hxl:=byteGs_length (textS s)
 have htl:=htl c3
 clear hts c1' c2' c3'
 generalize byteGs (PL++s.th.flatMap (ftT wThere)++s.bk.flatMap (ftT wBack))=Y at *
 generalize byteGs (PL++s.th.flatMap (ftT wThere))=X at *
 generalize textS s=TX at *
 generalize byteGs TX=Z at *
 by_cases g4:65536 < TX.length
 ·rw [if_pos g4,if_neg (by decide)]
  have g4':(65536:Int) < (Z.length:Int):=by omega
  refine fn_lim rfl rfl ?_ rfl
  simp [-List.all_eq_true,ht,hb,hc,hwr,g2,g3,k0,k1,k2,k3,k4,hok,hbl,p0,p1,p2,g4']
 ·rw [if_neg g4,if_pos rfl]
  have g4':¬ (65536:Int) < (Z.length:Int):=by omega
  have g5:Z.length<=281474976710656:=by omega
  refine fn_lim rfl rfl ?_ rfl
  simp [-List.all_eq_true,ht,hb,hc,hwr,g2,g3,k0,k1,k2,k3,k4,hok,hbl,p0,p1,p2,g4',g5,hbg]
/-- A fate as it is read of its line. -/
def bareF (f:Ft):Ft:=if f.dr=true then ⟨true,0,0,0,0,0⟩ else f
theorem dec_ne (n:Int):dec n≠[]:=by
 unfold dec
 by_cases h:n.toNat < 10
 ·rw [decD_small h];simp
 ·rw [decD_big h];simp
theorem dec_digits (n:Int):∀b∈dec n,48<=b.toNat/\b.toNat<=57:=λb hb=>by
 have h:=dig_all n.toNat n.toNat (Nat.le_refl _)
 have:=List.all_eq_true.1 h b hb
 simpa using this
theorem dec_no {n:Int} {c:UInt8} (hc:c.toNat < 48):c∉dec n:=λh=>by
 have:=(dec_digits n c h).1;omega
theorem itoa_dec {n:Int} (h:0<=n):Lib.itoa n=dec n:=by
 unfold Lib.itoa dec
 rw [if_neg (by omega)]
theorem numE_decI {n:Int} {m:Nat} (h0:0<=n) (h:n<=m) (hm:m < 18446744073709551616):numE (dec n) m=(n.toNat,0):=numE_dec (by omega) hm
theorem fateF_print {f:Ft} (h:FtOk f) (hc:codeFt f=0) {way:List UInt8}:fateF ((wordsFt way f).drop 1)=(bareF f,0):=by
 obtain ⟨⟨a1,a2⟩,⟨b1,b2⟩,⟨c1,c2⟩,⟨d1,d2⟩,e1,e2⟩:=h
 obtain ⟨dr,c,d,cu,at_,by_⟩:=f
 simp only at a1 a2 b1 b2 c1 c2 d1 d2 e1 e2
 cases dr with
 | true=>rfl
 | false=>
  have hw:(wordsFt way ⟨false,c,d,cu,at_,by_⟩).drop 1=[dec c,dec d,Lib.itoa cu,Lib.itoa at_,dec by_]:=rfl
  have hb:bareF ⟨false,c,d,cu,at_,by_⟩=⟨false,c,d,cu,at_,by_⟩:=rfl
  have g:¬ (cu < 0\/100000 < cu\/at_ < 0\/100000 < at_):=λg=>by
   have:codeFt ⟨false,c,d,cu,at_,by_⟩=18:=by unfold codeFt;rw [if_neg (by simp),if_pos g]
   rw [this] at hc;cases hc
  rw [hw,hb,itoa_dec (by omega),itoa_dec (by omega),fate5]
  have q1:=numE_decI (n:=c) (m:=255) a1 a2 (by decide)
  have q2:=numE_decI (n:=d) (m:=255) b1 b2 (by decide)
  have q3:=numE_decI (n:=cu) (m:=100000) (by omega) (by omega) (by decide)
  have q4:=numE_decI (n:=at_) (m:=100000) (by omega) (by omega) (by decide)
  have q5:=numE_decI (n:=by_) (m:=255) e1 e2 (by decide)
  have hn:numsF [dec c,dec d,dec cu,dec at_,dec by_] fateM=([c.toNat,d.toNat,cu.toNat,at_.toNat,by_.toNat],0):=by
   unfold fateM
   rw [numsF_cons,numsF_cons,numsF_cons,numsF_cons,numsF_cons,q1,q2,q3,q4,q5]
   rfl
  rw [hn,if_neg (by simp)]
  unfold mkFt
  simp only [List.getD_cons_zero,List.getD_cons_succ]
  have w1:IntKind.u8.wrap ((c.toNat:Nat):Int)=c:=by rw [Int.toNat_of_nonneg a1];simp [IntKind.wrap,IntKind.signed,IntKind.bits];omega
  have w2:IntKind.u8.wrap ((d.toNat:Nat):Int)=d:=by rw [Int.toNat_of_nonneg b1];simp [IntKind.wrap,IntKind.signed,IntKind.bits];omega
  have w5:IntKind.u8.wrap ((by_.toNat:Nat):Int)=by_:=by rw [Int.toNat_of_nonneg e1];simp [IntKind.wrap,IntKind.signed,IntKind.bits];omega
  have w3:IntKind.i64.wrap ((cu.toNat:Nat):Int)=cu:=by rw [Int.toNat_of_nonneg (by omega)];exact wrap64 (by omega) (by omega)
  have w4:IntKind.i64.wrap ((at_.toNat:Nat):Int)=at_:=by rw [Int.toNat_of_nonneg (by omega)];exact wrap64 (by omega) (by omega)
  rw [w1,w2,w3,w4,w5]
/-- A command as it is read of its line. -/
def normC (c:Cm):Cm:=if c.op=0 then ⟨0,0,c.en,c.n,c.w⟩ else if c.op=1 then ⟨0,1,c.en,c.n,[]⟩ else if c.op=2 then ⟨0,2,c.en,0,[]⟩ else if c.op=3 then ⟨0,3,0,c.n,[]⟩ else if c.op=4 then ⟨0,4,c.en,0,[]⟩ else ⟨0,5,0,0,[]⟩
theorem codeCm_parts {c:Cm} (h:codeCm c=0):c.op<=5/\(c.op≠3->c.op≠5->c.en=0\/c.en=1)/\(c.op=3->c.n<=100000)/\(c.op=0->goodW c.w=true/\c.w.length<=64):=by
 unfold codeCm at h
 split at h
 ·cases h
 next h1=>
 split at h
 ·cases h
 next h2=>
 split at h
 ·cases h
 next h3=>
 split at h
 ·cases h
 next h4=>
 split at h
 ·cases h
 next h5=>
 refine ⟨by omega,λa b=>?_,λa=>?_,λa=>⟨?_, ?_⟩⟩
 ·by_cases q:c.en=0
  ·exact .inl q
  ·exact .inr (Classical.byContradiction λe=>h2 ⟨a,b,q,e⟩)
 ·exact Int.not_lt.1 λe=>h3 ⟨a,e⟩
 ·cases hg:goodW c.w with
  | true=>rfl
  | false=>exact absurd ⟨a,hg⟩ h4
 ·exact Nat.not_lt.1 λe=>h5 ⟨a,e⟩
theorem cmdF_print {c:Cm} (h:CfOk c) (hc:codeCm c=0):∃w r,wordsCm c=w::r/\cmdF w r=(normC c,0):=by
 obtain ⟨⟨o1,o2⟩,⟨e1,e2⟩,⟨n1,n2⟩,hw⟩:=h
 obtain ⟨p1,p2,p3,p4⟩:=codeCm_parts hc
 obtain ⟨ln,op,en,n,w⟩:=c
 simp only at o1 o2 e1 e2 n1 n2 hw p1 p2 p3 p4
 clear hc
 have qn:=numE_decI (n:=n) (m:=18446744073709551615) n1 (by omega) (by decide)
 have hnn:((n.toNat:Nat):Int)=n:=Int.toNat_of_nonneg n1
 have qe:en=0\/en=1->numE (Lib.itoa en) 1=(en.toNat,0)/\((en.toNat:Nat):Int)=en:=λh=>by
  have h0:0<=en:=by omega
  rw [itoa_dec h0]
  exact ⟨numE_decI (m:=1) h0 (by omega) (by decide),Int.toNat_of_nonneg h0⟩
 rcases (show op=0\/op=1\/op=2\/op=3\/op=4\/op=5 by omega) with rfl | rfl | rfl | rfl | rfl | rfl
 ·obtain ⟨q1,q2⟩:=qe (p2 (by decide) (by decide))
  obtain ⟨g1,g2⟩:=p4 rfl
  refine ⟨wAdd,[Lib.itoa en,w,dec n],rfl, ?_⟩
  rw [cmdF_add]
  unfold addF
  simp only
  rw [q1,qn,if_neg (by simp),if_neg (by omega),if_neg (by simp)]
  simp only
  rw [q2,hnn]
  rfl
 ·obtain ⟨q1,q2⟩:=qe (p2 (by decide) (by decide))
  refine ⟨wPub,[Lib.itoa en,dec n],rfl, ?_⟩
  rw [cmdF_pub]
  unfold pubF
  simp only
  rw [q1,qn,if_neg (by simp),if_neg (by simp)]
  simp only
  rw [q2,hnn]
  rfl
 ·obtain ⟨q1,q2⟩:=qe (p2 (by decide) (by decide))
  refine ⟨wPoll,[Lib.itoa en],rfl, ?_⟩
  rw [cmdF_poll]
  unfold cmd1
  simp only
  rw [q1,if_neg (by simp)]
  simp only
  rw [q2]
  rfl
 ·have q3:=numE_decI (n:=n) (m:=100000) n1 (by have:=p3 rfl;omega) (by decide)
  refine ⟨wStep,[dec n],rfl, ?_⟩
  rw [cmdF_step]
  unfold cmd1
  simp only
  rw [q3,if_neg (by simp)]
  simp only
  rw [hnn]
  rfl
 ·obtain ⟨q1,q2⟩:=qe (p2 (by decide) (by decide))
  refine ⟨wShow,[Lib.itoa en],rfl, ?_⟩
  rw [cmdF_show]
  unfold cmd1
  simp only
  rw [q1,if_neg (by simp)]
  simp only
  rw [q2]
  rfl
 ·refine ⟨wAll,[],rfl, ?_⟩
  rw [cmdF_all,if_pos rfl]
  rfl
/-- Words that a line may hold. -/
def WordOk (w:List UInt8):Prop:=w≠[]/\(32:UInt8)∉w/\(10:UInt8)∉w
theorem good_word {w:List UInt8} (h:goodW w=true):WordOk w:=by
 unfold goodW at h
 simp only [Bool.and_eq_true,Bool.not_eq_true',List.isEmpty_eq_false_iff] at h
 obtain ⟨⟨h1,h2⟩,h3⟩:=h
 refine ⟨h1,λe=>?_,λe=>?_⟩
 ·have:=List.contains_iff_mem.2 e
  rw [this] at h2;cases h2
 ·have:=List.contains_iff_mem.2 e
  rw [this] at h3;cases h3
theorem word_good {w:List UInt8} (h:WordOk w):goodW w=true:=by
 obtain ⟨h1,h2,h3⟩:=h
 unfold goodW
 simp only [Bool.and_eq_true,Bool.not_eq_true',List.isEmpty_eq_false_iff]
 refine ⟨⟨h1, ?_⟩, ?_⟩
 ·cases hc:w.contains (32:UInt8) with
  | false=>rfl
  | true=>exact absurd (List.contains_iff_mem.1 hc) h2
 ·cases hc:w.contains (10:UInt8) with
  | false=>rfl
  | true=>exact absurd (List.contains_iff_mem.1 hc) h3
theorem dec_word (n:Int):WordOk (dec n):=⟨dec_ne n,dec_no (by decide),dec_no (by decide)⟩
theorem itoa_word {n:Int} (h:0<=n):WordOk (Lib.itoa n):=by rw [itoa_dec h];exact dec_word n
theorem wordsFt_word {way:List UInt8} {f:Ft} (hway:WordOk way) (hc:codeFt f=0):∀w∈wordsFt way f,WordOk w:=λw hw=>by
 unfold wordsFt at hw
 split at hw
 ·simp only [List.mem_cons,List.not_mem_nil,or_false] at hw
  rcases hw with rfl | rfl
  ·exact hway
  ·exact ⟨by decide,by decide,by decide⟩
 ·next hd=>
  have g:¬ (f.cu < 0\/100000 < f.cu\/f.at_ < 0\/100000 < f.at_):=λg=>by
   have:codeFt f=18:=by unfold codeFt;rw [if_neg hd,if_pos g]
   rw [this] at hc;cases hc
  simp only [List.mem_cons,List.not_mem_nil,or_false] at hw
  rcases hw with rfl | rfl | rfl | rfl | rfl | rfl
  ·exact hway
  ·exact dec_word _
  ·exact dec_word _
  ·exact itoa_word (by omega)
  ·exact itoa_word (by omega)
  ·exact dec_word _
theorem wordsCm_word {c:Cm} (hc:codeCm c=0):∀w∈wordsCm c,WordOk w:=λw hw=>by
 obtain ⟨p1,p2,p3,p4⟩:=codeCm_parts hc
 have lit:∀x:List UInt8,x=wAdd\/x=wPub\/x=wPoll\/x=wStep\/x=wShow\/x=wAll->WordOk x:=λx hx=>by
  rcases hx with rfl | rfl | rfl | rfl | rfl | rfl<;>exact ⟨by decide,by decide,by decide⟩
 unfold wordsCm at hw
 split at hw
 ·next e=>
  have:=p2 (by omega) (by omega)
  simp only [List.mem_cons,List.not_mem_nil,or_false] at hw
  rcases hw with rfl | rfl | rfl | rfl
  ·exact lit _ (.inl rfl)
  ·exact itoa_word (by omega)
  ·exact good_word (p4 e).1
  ·exact dec_word _
 split at hw
 ·have:=p2 (by omega) (by omega)
  simp only [List.mem_cons,List.not_mem_nil,or_false] at hw
  rcases hw with rfl | rfl | rfl
  ·exact lit _ (.inr (.inl rfl))
  ·exact itoa_word (by omega)
  ·exact dec_word _
 split at hw
 ·have:=p2 (by omega) (by omega)
  simp only [List.mem_cons,List.not_mem_nil,or_false] at hw
  rcases hw with rfl | rfl
  ·exact lit _ (.inr (.inr (.inl rfl)))
  ·exact itoa_word (by omega)
 split at hw
 ·simp only [List.mem_cons,List.not_mem_nil,or_false] at hw
  rcases hw with rfl | rfl
  ·exact lit _ (.inr (.inr (.inr (.inl rfl))))
  ·exact dec_word _
 split at hw
 ·have:=p2 (by omega) (by omega)
  simp only [List.mem_cons,List.not_mem_nil,or_false] at hw
  rcases hw with rfl | rfl
  ·exact lit _ (.inr (.inr (.inr (.inr (.inl rfl)))))
  ·exact itoa_word (by omega)
 ·simp only [List.mem_cons,List.not_mem_nil,or_false] at hw
  subst hw
  exact lit _ (.inr (.inr (.inr (.inr (.inr rfl)))))
/-- A line of words is read as these. -/
theorem line_words {w:List UInt8} {r:List (List UInt8)} (h:∀x∈w::r,WordOk x) (h35:w[0]?≠some 35):lineF (joinW (w::r))=w::r:=by
 have hw:=words_join (w::r) λx hx=>⟨(h x hx).1,(h x hx).2.1⟩
 obtain ⟨b,w',rfl⟩:=List.exists_cons_of_ne_nil (h w (by simp)).1
 exact lineF_cons hw λe=>h35 (by rw [e];rfl)
theorem step_fate {no:Nat} {s:Sc} {f:Ft} (h:FtOk f) (hc:codeFt f=0) (hr:s.th.length+s.bk.length < 200):stepF no true s (joinW (wordsFt wThere f))=(0,true, { s with th:=s.th++[bareF f] })/\stepF no true s (joinW (wordsFt wBack f))=(0,true, { s with bk:=s.bk++[bareF f] }):=by
 have hd:∀way:List UInt8,∃r,wordsFt way f=way::r/\r=(wordsFt way f).drop 1:=λway=>by
  unfold wordsFt
  split<;>exact ⟨_,rfl,rfl⟩
 constructor
 ·obtain ⟨r,hr1,hr2⟩:=hd wThere
  have hf:=fateF_print h hc (way:=wThere)
  rw [<- hr2] at hf
  have hl:=line_words (w:=wThere) (r:=r) (by rw [<- hr1];exact wordsFt_word ⟨by decide,by decide,by decide⟩ hc) (by decide)
  rw [hr1,stepF_cons hl,if_neg (by simp)]
  unfold furF
  rw [if_pos rfl,hf,if_neg (by simp),if_neg (by omega)]
 ·obtain ⟨r,hr1,hr2⟩:=hd wBack
  have hf:=fateF_print h hc (way:=wBack)
  rw [<- hr2] at hf
  have hl:=line_words (w:=wBack) (r:=r) (by rw [<- hr1];exact wordsFt_word ⟨by decide,by decide,by decide⟩ hc) (by decide)
  rw [hr1,stepF_cons hl,if_neg (by simp)]
  unfold furF
  rw [if_neg (by decide),if_pos rfl,hf,if_neg (by simp),if_neg (by omega)]
theorem wordsCm_head {c:Cm} {w:List UInt8} {r:List (List UInt8)} (e:wordsCm c=w::r):w≠wThere/\w≠wBack/\w[0]?≠some 35:=by
 have key:w=wAdd\/w=wPub\/w=wPoll\/w=wStep\/w=wShow\/w=wAll:=by
  unfold wordsCm at e
  repeat' split at e
  all_goals (cases e;simp)
 rcases key with rfl | rfl | rfl | rfl | rfl | rfl<;>exact ⟨by decide,by decide,by decide⟩
theorem step_cmd {no:Nat} {s:Sc} {c:Cm} (h:CfOk c) (hc:codeCm c=0) (hr:s.cm.length < 1000):stepF no true s (joinW (wordsCm c))=(0,true, { s with cm:=s.cm++[{ normC c with ln:=no+1 }] }):=by
 obtain ⟨w,r,e,hf⟩:=cmdF_print h hc
 obtain ⟨n1,n2,n3⟩:=wordsCm_head e
 have hl:=line_words (w:=w) (r:=r) (by rw [<- e];exact wordsCm_word hc) n3
 rw [e,stepF_cons hl,if_neg (by simp)]
 unfold furF
 rw [if_neg n1,if_neg n2,hf,if_neg (by simp),if_neg (by omega)]
theorem step_pair {no:Nat} {s:Sc} (h:SfOk s):stepF no false zSc (joinW (pairL s))=(0,true, { zSc with m1:=s.m1,m2:=s.m2,m3:=s.m3,m4:=s.m4 }):=by
 have hl:=line_words (w:=wPair) (r:=[dec s.m1,dec s.m2,dec s.m3,dec s.m4]) (λx hx=>by
  simp only [List.mem_cons,List.not_mem_nil,or_false] at hx
  rcases hx with rfl | rfl | rfl | rfl | rfl
  ·exact ⟨by decide,by decide,by decide⟩
  all_goals exact dec_word _) (by decide)
 have q1:=numE_decI (n:=s.m1) (m:=18446744073709551615) (by omega) (by have:=h.m1;omega) (by decide)
 have q2:=numE_decI (n:=s.m2) (m:=18446744073709551615) (by omega) (by have:=h.m2;omega) (by decide)
 have q3:=numE_decI (n:=s.m3) (m:=18446744073709551615) (by omega) (by have:=h.m3;omega) (by decide)
 have q4:=numE_decI (n:=s.m4) (m:=18446744073709551615) (by omega) (by have:=h.m4;omega) (by decide)
 have hp:pairF wPair [dec s.m1,dec s.m2,dec s.m3,dec s.m4]=([s.m1,s.m2,s.m3,s.m4],0):=by
  rw [pairF_is rfl]
  unfold M4
  rw [numsF_cons,numsF_cons,numsF_cons,numsF_cons,q1,q2,q3,q4]
  simp only [Int.toNat_natCast]
  rfl
 unfold pairL
 rw [stepF_cons hl,if_pos rfl,hp,if_neg (by simp)]
 rfl
def linesS (s:Sc):List (List UInt8):=joinW (pairL s)::(s.th.map (λf=>joinW (wordsFt wThere f))++(s.bk.map (λf=>joinW (wordsFt wBack f))++s.cm.map λc=>joinW (wordsCm c)))
theorem flat_nl {α:Type} (g:α->List (List UInt8)):∀l:List α,((l.map λa=>joinW (g a)).map (·++[10])).flatten=l.flatMap λa=>lineT (g a)
 | []=>rfl
 | a::l=>by
  have ih:=flat_nl g l
  simp only [List.map_cons,List.flatten_cons,List.flatMap_cons] at ih ⊢
  rw [ih];rfl
theorem text_lines (s:Sc):textS s=((linesS s).map (·++[10])).flatten:=by
 unfold linesS textS
 simp only [List.map_cons,List.map_append,List.flatten_cons,List.flatten_append]
 rw [flat_nl (wordsFt wThere) s.th,flat_nl (wordsFt wBack) s.bk,flat_nl wordsCm s.cm]
 rw [show lineT (pairL s)=joinW (pairL s)++[10] from rfl]
 simp only [List.append_assoc]
 rfl
theorem no_nl {ws:List (List UInt8)} (h:∀w∈ws,WordOk w):(10:UInt8)∉joinW ws:=λhm=>by
 rcases join_mem ws hm with h10 | ⟨w,hw,hb⟩
 ·cases h10
 ·exact (h w hw).2.2 hb
/-- What may be printed. -/
structure PrOk (s:Sc):Prop where
 sf:SfOk s
 room:s.th.length+s.bk.length<=200/\s.cm.length<=1000
 th:∀f∈s.th,codeFt f=0
 bk:∀f∈s.bk,codeFt f=0
 cm:∀c∈s.cm,codeCm c=0
theorem prOk_of {s:Sc} (h:SfOk s) (hc:codeS s=0):PrOk s:=by
 unfold codeS at hc
 split at hc
 ·cases hc
 next h1=>
 split at hc
 ·next h2=>exact absurd hc h2
 next h2=>
 split at hc
 ·next h3=>exact absurd hc h3
 next h3=>
 split at hc
 ·next h4=>exact absurd hc h4
 next h4=>
 exact ⟨h,by omega,codes_all (by simpa using h2),codes_all (by simpa using h3),codes_all (by simpa using h4)⟩
theorem pairL_word (s:Sc):∀w∈pairL s,WordOk w:=λx hx=>by
 unfold pairL at hx
 simp only [List.mem_cons,List.not_mem_nil,or_false] at hx
 rcases hx with rfl | rfl | rfl | rfl | rfl
 ·exact ⟨by decide,by decide,by decide⟩
 all_goals exact dec_word _
theorem lines_nl {s:Sc} (h:PrOk s):∀l∈linesS s,(10:UInt8)∉l:=λl hl=>by
 unfold linesS at hl
 rcases List.mem_cons.1 hl with rfl | hl
 ·exact no_nl (pairL_word s)
 rcases List.mem_append.1 hl with hl | hl
 ·obtain ⟨f,hf,rfl⟩:=List.mem_map.1 hl
  exact no_nl (wordsFt_word ⟨by decide,by decide,by decide⟩ (h.th f hf))
 rcases List.mem_append.1 hl with hl | hl
 ·obtain ⟨f,hf,rfl⟩:=List.mem_map.1 hl
  exact no_nl (wordsFt_word ⟨by decide,by decide,by decide⟩ (h.bk f hf))
 ·obtain ⟨c,hc,rfl⟩:=List.mem_map.1 hl
  exact no_nl (wordsCm_word (h.cm c hc))
theorem run_step {no:Nat} {b b':Bool} {s s':Sc} {l:List UInt8} {ls:List (List UInt8)} (h:stepF no b s l=(0,b',s')):runF no b s (l::ls)=runF (no+1) b' s' ls:=by
 rw [runF,h,if_neg (by simp)]
theorem run_there:∀ (l:List Ft) (no:Nat) (s:Sc) (ls:List (List UInt8)),(∀f∈l,FtOk f)->(∀f∈l,codeFt f=0)->s.th.length+s.bk.length+l.length<=200->
 runF no true s (l.map (λf=>joinW (wordsFt wThere f))++ls)=runF (no+l.length) true { s with th:=s.th++l.map bareF } ls
 | [],no,s,ls,_,_,_=>by simp
 | f::l,no,s,ls,h1,h2,h3=>by
  rw [List.length_cons] at h3
  have hs:=(step_fate (no:=no) (s:=s) (h1 f (by simp)) (h2 f (by simp)) (by omega)).1
  rw [List.map_cons,List.cons_append,run_step hs,run_there l (no+1) _ ls (λg hg=>h1 g (List.mem_cons_of_mem _ hg)) (λg hg=>h2 g (List.mem_cons_of_mem _ hg)) (by simp only [List.length_append,List.length_singleton];omega)]
  simp only [List.length_cons,List.map_cons,List.append_assoc,List.cons_append,List.nil_append]
  rw [show no+1+l.length=no+(l.length+1) by omega]
theorem run_back:∀ (l:List Ft) (no:Nat) (s:Sc) (ls:List (List UInt8)),(∀f∈l,FtOk f)->(∀f∈l,codeFt f=0)->s.th.length+s.bk.length+l.length<=200->
 runF no true s (l.map (λf=>joinW (wordsFt wBack f))++ls)=runF (no+l.length) true { s with bk:=s.bk++l.map bareF } ls
 | [],no,s,ls,_,_,_=>by simp
 | f::l,no,s,ls,h1,h2,h3=>by
  rw [List.length_cons] at h3
  have hs:=(step_fate (no:=no) (s:=s) (h1 f (by simp)) (h2 f (by simp)) (by omega)).2
  rw [List.map_cons,List.cons_append,run_step hs,run_back l (no+1) _ ls (λg hg=>h1 g (List.mem_cons_of_mem _ hg)) (λg hg=>h2 g (List.mem_cons_of_mem _ hg)) (by simp only [List.length_append,List.length_singleton];omega)]
  simp only [List.length_cons,List.map_cons,List.append_assoc,List.cons_append,List.nil_append]
  rw [show no+1+l.length=no+(l.length+1) by omega]
def numC:Nat->List Cm->List Cm
 | _,[]=>[]
 | no,c::l=>{ normC c with ln:=(no:Int)+1 }::numC (no+1) l
theorem numC_len:∀ (l:List Cm) (no:Nat),(numC no l).length=l.length
 | [],_=>rfl
 | c::l,no=>by rw [numC,List.length_cons,List.length_cons,numC_len l]
theorem run_cmds:∀ (l:List Cm) (no:Nat) (s:Sc) (ls:List (List UInt8)),(∀f∈l,CfOk f)->(∀f∈l,codeCm f=0)->s.cm.length+l.length<=1000->
 runF no true s (l.map (λc=>joinW (wordsCm c))++ls)=runF (no+l.length) true { s with cm:=s.cm++numC no l } ls
 | [],no,s,ls,_,_,_=>by simp [numC]
 | f::l,no,s,ls,h1,h2,h3=>by
  rw [List.length_cons] at h3
  have hs:=step_cmd (no:=no) (s:=s) (h1 f (by simp)) (h2 f (by simp)) (by omega)
  rw [List.map_cons,List.cons_append,run_step hs,run_cmds l (no+1) _ ls (λg hg=>h1 g (List.mem_cons_of_mem _ hg)) (λg hg=>h2 g (List.mem_cons_of_mem _ hg)) (by simp only [List.length_append,List.length_singleton];omega)]
  simp only [List.length_cons,numC,List.append_assoc,List.cons_append,List.nil_append]
  rw [show no+1+l.length=no+(l.length+1) by omega]
def normS (s:Sc):Sc:=⟨s.m1,s.m2,s.m3,s.m4,s.th.map bareF,s.bk.map bareF,numC (1+s.th.length+s.bk.length) s.cm⟩
theorem run_lines {s:Sc} (h:PrOk s) (ls:List (List UInt8)):runF 0 false zSc (linesS s++ls)=runF (1+s.th.length+s.bk.length+s.cm.length) true (normS s) ls:=by
 obtain ⟨r1,r2⟩:=h.room
 unfold linesS
 rw [List.cons_append,run_step (step_pair h.sf),List.append_assoc,run_there s.th 1 _ _ h.sf.th h.th (by show [].length+[].length+s.th.length<=200;simp;omega),List.append_assoc,
  run_back s.bk _ _ _ h.sf.bk h.bk (by show ([]++s.th.map bareF).length+[].length+s.bk.length<=200;simp;omega),
  run_cmds s.cm _ _ _ h.sf.cm h.cm (by show [].length+s.cm.length<=1000;simp;omega)]
 rfl
theorem lineF_empty:lineF []=[]:=rfl
/-- What is printed is read. -/
theorem parse_print {s:Sc} (h:PrOk s) (hl:(textS s).length<=65536):parseF (textS s)=(normS s,0,0):=by
 have hc:cutF 10 (textS s)=linesS s++[[]]:=by
  have:=cut_lines [] (by simp) (linesS s) (lines_nl h)
  rw [List.append_nil] at this
  rw [text_lines];exact this
 have hr:runF 0 false zSc (cutF 10 (textS s))=(0,0,true,normS s):=by
  rw [hc,run_lines h,run_step (stepF_nil lineF_empty)]
  rfl
 unfold parseF
 rw [if_neg (by omega),hr,if_neg (by simp),if_neg (by simp)]
/-- A line too many. -/
theorem parse_more_line {s:Sc} (h:PrOk s) {x:List UInt8} {e:Int} (hx:(10:UInt8)∉x) (he:e≠0) (hs:∀no,(stepF no true (normS s) x).1=e) (hl:(textS s).length+x.length<=65536) :
 parseF (textS s++x)=(zSc,1+s.th.length+s.bk.length+s.cm.length+1,e):=by
 have hc:cutF 10 (textS s++x)=linesS s++[x]:=by
  rw [text_lines];exact cut_lines x hx (linesS s) (lines_nl h)
 have hr:(runF 0 false zSc (cutF 10 (textS s++x))).1=1+s.th.length+s.bk.length+s.cm.length+1/\(runF 0 false zSc (cutF 10 (textS s++x))).2.1=e:=by
  rw [hc,run_lines h,runF,if_pos (by rw [hs];exact he)]
  exact ⟨rfl,hs _⟩
 unfold parseF
 rw [if_neg (by rw [List.length_append];omega),hr.1,hr.2,if_pos he]
/-- Scripts that are the same, but for what plays no part. -/
structure SimS (a b:Sc):Prop where
 m1:a.m1=b.m1
 m2:a.m2=b.m2
 m3:a.m3=b.m3
 m4:a.m4=b.m4
 th:a.th.map bareF=b.th.map bareF
 bk:a.bk.map bareF=b.bk.map bareF
 cm:a.cm.map lineS=b.cm.map lineS
theorem SimS.refl (a:Sc):SimS a a:=⟨rfl,rfl,rfl,rfl,rfl,rfl,rfl⟩
theorem SimS.symm {a b:Sc} (h:SimS a b):SimS b a:=⟨h.m1.symm,h.m2.symm,h.m3.symm,h.m4.symm,h.th.symm,h.bk.symm,h.cm.symm⟩
theorem bare_bare (f:Ft):bareF (bareF f)=bareF f:=by
 unfold bareF
 by_cases h:f.dr=true
 ·rw [if_pos h,if_pos rfl]
 ·rw [if_neg h,if_neg h]
theorem line_norm {c:Cm} (h:0<=c.op/\c.op<=5) (n:Int):lineS { normC c with ln:=n }=lineS c:=by
 obtain ⟨ln,op,en,n,w⟩:=c
 obtain ⟨h1,h2⟩:=h
 simp only at h1 h2
 rcases (show op=0\/op=1\/op=2\/op=3\/op=4\/op=5 by omega) with rfl | rfl | rfl | rfl | rfl | rfl<;>rfl
theorem lines_norm:∀ (l:List Cm) (no:Nat),(∀c∈l,0<=c.op/\c.op<=5)->(numC no l).map lineS=l.map lineS
 | [],_,_=>rfl
 | c::l,no,h=>by
  rw [numC,List.map_cons,List.map_cons,line_norm (h c (by simp)),lines_norm l (no+1) λd hd=>h d (List.mem_cons_of_mem _ hd)]
theorem sim_norm {s:Sc} (h:PrOk s):SimS (normS s) s:=by
 refine ⟨rfl,rfl,rfl,rfl, ?_, ?_,lines_norm _ _ λc hc=>⟨(h.sf.cm c hc).1.1,(codeCm_parts (h.cm c hc)).1⟩⟩
 ·show (s.th.map bareF).map bareF=_
  rw [List.map_map]
  exact List.map_congr_left λf _=>bare_bare f
 ·show (s.bk.map bareF).map bareF=_
  rw [List.map_map]
  exact List.map_congr_left λf _=>bare_bare f
theorem norm_lens (s:Sc):(normS s).th.length=s.th.length/\(normS s).bk.length=s.bk.length/\(normS s).cm.length=s.cm.length:=⟨List.length_map _,List.length_map _,numC_len _ _⟩
theorem cf_cm {c:Cm} (h:CfOk c) (h5:c.op<=5):CmOk c:=⟨⟨h.1.1,h5⟩,h.2.1,h.2.2.1,h.2.2.2⟩
theorem norm_cm {c:Cm} (h:CfOk c) (hc:codeCm c=0) (n:Int):CmOk { normC c with ln:=n }:=by
 obtain ⟨p1,p2,p3,p4⟩:=codeCm_parts hc
 obtain ⟨⟨o1,o2⟩,⟨e1,e2⟩,⟨n1,n2⟩,hw⟩:=h
 obtain ⟨ln,op,en,n,w⟩:=c
 simp only at o1 o2 e1 e2 n1 n2 hw p1
 rcases (show op=0\/op=1\/op=2\/op=3\/op=4\/op=5 by omega) with rfl | rfl | rfl | rfl | rfl | rfl
 ·exact cmOk_mk (op:=0) (en:=en) (n:=n) (w:=w) (by decide) ⟨e1,e2⟩ ⟨n1,n2⟩ hw
 ·exact cmOk_mk (op:=1) (en:=en) (n:=n) (w:=[]) (by decide) ⟨e1,e2⟩ ⟨n1,n2⟩ (by decide)
 ·exact cmOk_mk (op:=2) (en:=en) (n:=0) (w:=[]) (by decide) ⟨e1,e2⟩ (by decide) (by decide)
 ·exact cmOk_mk (op:=3) (en:=0) (n:=n) (w:=[]) (by decide) (by decide) ⟨n1,n2⟩ (by decide)
 ·exact cmOk_mk (op:=4) (en:=en) (n:=0) (w:=[]) (by decide) ⟨e1,e2⟩ (by decide) (by decide)
 ·exact cmOk_mk (op:=5) (en:=0) (n:=0) (w:=[]) (by decide) (by decide) (by decide) (by decide)
theorem numC_ok:∀ (l:List Cm) (no:Nat),(∀c∈l,CfOk c)->(∀c∈l,codeCm c=0)->∀c∈numC no l,CmOk c
 | [],_,_,_,c,h=>by cases h
 | d::l,no,h1,h2,c,h=>by
  rw [numC] at h
  rcases List.mem_cons.1 h with rfl | h
  ·exact norm_cm (h1 d (by simp)) (h2 d (by simp)) _
  ·exact numC_ok l (no+1) (λx hx=>h1 x (List.mem_cons_of_mem _ hx)) (λx hx=>h2 x (List.mem_cons_of_mem _ hx)) c h
theorem normS_ok {s:Sc} (h:PrOk s):ScOk (normS s)/\CsOk (normS s):=by
 obtain ⟨l1,l2,l3⟩:=norm_lens s
 exact ⟨⟨by rw [l1,l2];exact h.room.1,by rw [l3];exact h.room.2⟩,numC_ok s.cm _ h.sf.cm h.cm⟩
theorem more_put (s:List UInt8):putB 10 [32,10,32,32] (putB 32 [32,32] s)=moreB s:=by
 induction s with
 | nil=>rfl
 | cons b s ih=>
  have h1:putB 32 [32,32] (b::s)=(if b=32 then [32,32] else [b])++putB 32 [32,32] s:=rfl
  have h2:moreB (b::s)=(if b=32 then [32,32] else if b=10 then [32,10,32,32] else [b])++moreB s:=rfl
  have h3:∀x y:List UInt8,putB 10 [32,10,32,32] (x++y)=putB 10 [32,10,32,32] x++putB 10 [32,10,32,32] y:=λx y=>by unfold putB;rw [List.flatMap_append]
  rw [h1,h2,h3,ih]
  by_cases e:b=32
  ·rw [if_pos e,if_pos e];rfl
  ·rw [if_neg e,if_neg e]
   by_cases f:b=10
   ·subst f;rfl
   ·rw [if_neg f]
    simp [putB,f]
theorem put_len (c:UInt8) (new s:List UInt8) (h:new.length<=4):(putB c new s).length<=4 * s.length:=by
 induction s with
 | nil=>simp [putB]
 | cons b s ih=>
  have h1:putB c new (b::s)=(if b=c then new else [b])++putB c new s:=rfl
  rw [h1,List.length_append,List.length_cons]
  split
  ·omega
  ·simp;omega
theorem step_congr {no:Nat} {b:Bool} {s:Sc} {l l':List UInt8} (h:wordsF l=wordsF l'):stepF no b s l=stepF no b s l':=by
 unfold stepF lineF
 rw [h]
theorem run_congr:∀ {ls ls':List (List UInt8)} {no:Nat} {b:Bool} {s:Sc},ls.map wordsF=ls'.map wordsF->runF no b s ls=runF no b s ls'
 | [],[],_,_,_,_=>rfl
 | [],_::_,_,_,_,h=>by cases h
 | _::_,[],_,_,_,h=>by cases h
 | l::ls,l'::ls',no,b,s,h=>by
  rw [List.map_cons,List.map_cons] at h
  injection h with h1 h2
  rw [runF,runF,step_congr h1,run_congr h2]
def shS (s:Sc):Sc:={ s with cm:=s.cm.map λc=>{ c with ln:=c.ln+1 } }
theorem step_sh (no:Nat) (b:Bool) (s:Sc) (l:List UInt8):stepF (no+1) b (shS s) l=((stepF no b s l).1,(stepF no b s l).2.1,shS (stepF no b s l).2.2):=by
 cases e:lineF l with
 | nil=>rw [stepF_nil e,stepF_nil e]
 | cons w r=>
  rw [stepF_cons e,stepF_cons e]
  by_cases hb:b=false
  ·rw [if_pos hb,if_pos hb]
   split<;>rfl
  ·rw [if_neg hb,if_neg hb]
   have hl:(shS s).cm.length=s.cm.length:=List.length_map _
   have hf:furF ((no+1:Nat)+1:Int) w r (shS s)=((furF ((no:Int)+1) w r s).1,shS (furF ((no:Int)+1) w r s).2):=by
    have h1:(shS s).th.length=s.th.length:=rfl
    have h2:(shS s).bk.length=s.bk.length:=rfl
    unfold furF
    rw [hl,h1,h2]
    by_cases w1:w=wThere
    ·simp only [if_pos w1]
     by_cases e1:(fateF r).2≠0
     ·simp only [if_pos e1]
     ·simp only [if_neg e1]
      by_cases e2:s.th.length+s.bk.length=200
      ·simp only [if_pos e2]
      ·simp only [if_neg e2]
       rfl
    simp only [if_neg w1]
    by_cases w2:w=wBack
    ·simp only [if_pos w2]
     by_cases e1:(fateF r).2≠0
     ·simp only [if_pos e1]
     ·simp only [if_neg e1]
      by_cases e2:s.th.length+s.bk.length=200
      ·simp only [if_pos e2]
      ·simp only [if_neg e2]
       rfl
    simp only [if_neg w2]
    by_cases e1:(cmdF w r).2≠0
    ·simp only [if_pos e1]
    simp only [if_neg e1]
    by_cases e2:s.cm.length=1000
    ·simp only [if_pos e2]
    simp only [if_neg e2,shS,List.map_append,List.map_cons,List.map_nil]
    rw [show (((no+1:Nat):Int)+1)=(no:Int)+1+1 by omega]
   rw [hf]
theorem run_sh:∀ (ls:List (List UInt8)) (no:Nat) (b:Bool) (s:Sc),runF (no+1) b (shS s) ls=((if (runF no b s ls).2.1≠0 then (runF no b s ls).1+1 else 0),(runF no b s ls).2.1,(runF no b s ls).2.2.1,shS (runF no b s ls).2.2.2)
 | [],no,b,s=>rfl
 | l::ls,no,b,s=>by
  rw [runF,runF,step_sh]
  simp only
  by_cases e:(stepF no b s l).1≠0
  ·rw [if_pos e,if_pos e]
   simp only
   rw [if_pos e]
  ·rw [if_neg e,if_neg e,run_sh ls (no+1)]
theorem run_zero:∀ (ls:List (List UInt8)) (no:Nat) (b:Bool) (s:Sc),((runF no b s ls).2.1=0->(runF no b s ls).1=0)/\((runF no b s ls).2.1≠0->0 < (runF no b s ls).1)
 | [],_,_,_=>⟨λ_=>rfl,λh=>absurd rfl h⟩
 | l::ls,no,b,s=>by
  rw [runF]
  by_cases e:(stepF no b s l).1≠0
  ·rw [if_pos e]
   exact ⟨λh=>absurd h e,λ_=>Nat.succ_pos _⟩
  ·rw [if_neg e]
   exact run_zero ls _ _ _
theorem sim_sh (s:Sc):SimS s (shS s):=by
 refine ⟨rfl,rfl,rfl,rfl,rfl,rfl, ?_⟩
 show s.cm.map lineS=(s.cm.map λc=>{ c with ln:=c.ln+1 }).map lineS
 rw [List.map_map]
 exact List.map_congr_left λc _=>rfl
def parseR (R:Nat×Int×Bool×Sc):Sc×Nat×Int:=if R.2.1≠0 then (zSc,R.1,R.2.1) else if R.2.2.1=false then (zSc,0,24) else (R.2.2.2,0,0)
theorem parse_is {t:List UInt8} (h:t.length<=65536):parseF t=parseR (runF 0 false zSc (cutF 10 t)):=by
 unfold parseF parseR
 rw [if_neg (by omega)]
/-- What is parsed of a text, and of it with more blanks, behind a remark. -/
theorem parse_moreB {t:List UInt8} (h:t.length<=4000):(parseF ([35,32,120,10]++moreB t)).2.2=(parseF t).2.2/\SimS (parseF t).1 (parseF ([35,32,120,10]++moreB t)).1/\
 (0 < (parseF t).2.1->(parseF ([35,32,120,10]++moreB t)).2.1=(parseF t).2.1+1)/\((parseF t).2.1=0->(parseF ([35,32,120,10]++moreB t)).2.1=0):=by
 have hl:(moreB t).length<=4 * (4 * t.length):=by
  rw [<- more_put]
  exact Nat.le_trans (put_len _ _ _ (by decide)) (Nat.mul_le_mul_left 4 (put_len _ _ _ (by decide)))
 have hc:cutF 10 ([35,32,120,10]++moreB t)=[35,32,120]::cutF 10 (moreB t):=by
  have:=cutF_app (c:=10) (l:=10::moreB t) (w:=[35,32,120]) (by decide)
  rw [show [35,32,120,10]++moreB t=[35,32,120]++10::moreB t from rfl,this,cutF,if_pos rfl]
  rfl
 have hn:lineF [35,32,120]=[]:=by
  have:wordsF [35,32,120]=[35]::[[120]]:=by decide
  exact lineF_hash this
 have hz:zSc=shS zSc:=rfl
 have hr:runF 0 false zSc (cutF 10 ([35,32,120,10]++moreB t))=runF 1 false (shS zSc) (cutF 10 t):=by
  rw [hc,run_step (stepF_nil hn),run_congr (cut_words t)]
  rfl
 rw [run_sh] at hr
 obtain ⟨z1,z2⟩:=run_zero (cutF 10 t) 0 false zSc
 have h16:([35,32,120,10]++moreB t).length<=65536:=by
  rw [List.length_append,show ([35,32,120,10]:List UInt8).length=4 from rfl];omega
 rw [parse_is h16,parse_is (by omega),hr]
 unfold parseR
 generalize runF 0 false zSc (cutF 10 t)=R at *
 simp only
 by_cases e:R.2.1≠0
 ·rw [if_pos e,if_pos e,if_pos e]
  exact ⟨rfl,SimS.refl _,λ_=>rfl,λh=>absurd h (Nat.ne_of_gt (z2 e))⟩
 ·rw [if_neg e,if_neg e]
  by_cases e2:R.2.2.1=false
  ·rw [if_pos e2,if_pos e2]
   exact ⟨rfl,SimS.refl _,λh=>absurd h (by simp),λ_=>rfl⟩
  ·rw [if_neg e2,if_neg e2]
   exact ⟨rfl,sim_sh _,λh=>absurd h (by simp),λ_=>rfl⟩
end Q
end Go.Proofs.YtdpjiaedcmagdaaGreatDoor
