/- What the trees compute: plain laws. -/
import Derived.Test.YtdpjiaedcmagdaaGreatDoorKQT
import Derived.Test.YtdpjiaedcmagdaaGreatDoorAbsPl
import Derived.Test.YtdpjiaedcmagdaaGreatDoorAbsScr2
namespace Go.Proofs.YtdpjiaedcmagdaaGreatDoor
open Go Go.Abs
set_option linter.unusedSimpArgs false
set_option linter.unusedVariables false
set_option maxRecDepth 100000
namespace Q
theorem bytesLess_lt:∀a b:List UInt8,Op.bytesLess a b=decide (a < b)
 | _,[]=>by simp [Op.bytesLess]
 | [],_::_=>by simp [Op.bytesLess]
 | a::x,b::y=>by
  rw [Op.bytesLess,bytesLess_lt x y,Bool.eq_iff_iff]
  simp [List.cons_lt_cons_iff]
/-- An entry: key and value. A row: its entries and its number. -/
abbrev Ent:=List UInt8×List UInt8
abbrev Row:=List Ent×Int
def ent (x:Ent):GV:=.g [.s x.1,.s x.2]
def row (r:Row):GV:=.g [.l (r.1.map ent),.i .u64 r.2]
@[simp] theorem ent_cells (x:Ent):(ent x).cells=[.s x.1,.s x.2]:=rfl
@[simp] theorem row_cells (r:Row):(row r).cells=[.l (r.1.map ent),.i .u64 r.2]:=rfl
@[simp] theorem ent_scalar (x:Ent):(ent x).scalar=false:=rfl
@[simp] theorem row_scalar (r:Row):(row r).scalar=false:=rfl
/-- Texts and lists of no more than any machine bears. -/
def Ents (d:List Ent):Prop:=d.length<=140737488351232/\∀x∈d,x.1.length<=140737488351232/\x.2.length<=140737488351232
def Rows (l:List Row):Prop:=l.length<=140737488351232/\∀r∈l,Ents r.1/\0<=r.2/\r.2 < 18446744073709551616
def fewE (x:Ent):Bool:=decide (x.1.length+x.2.length<=600)
def few12 (d:List Ent):Bool:=d.all fewE&&decide (d.length<=40)
def vput (n:Nat):List UInt8:=if n < 128 then [UInt8.ofNat n] else UInt8.ofNat (n % 128+128)::vput (n / 128)
termination_by n
decreasing_by omega
theorem byteGs_append (a b:List UInt8):byteGs (a++b)=byteGs a++byteGs b:=by simp [byteGs]
@[simp] theorem byteGs_length (a:List UInt8):(byteGs a).length=a.length:=by simp [byteGs]
theorem byteGs_ok (a:List UInt8):(byteGs a).all (GV.elemOk 1)=true:=by
 rw [List.all_eq_true]
 intro x hx
 obtain ⟨b,_,rfl⟩:=List.mem_map.1 hx
 rfl
theorem bytesG_byteGs:∀a:List UInt8,bytesG (byteGs a)=some a
 | []=>rfl
 | x::a=>by
  have ih:=bytesG_byteGs a
  simp only [byteGs,List.map_cons,bytesG] at ih ⊢
  have:=x.toNat_lt
  rw [if_pos (by omega),ih]
  simp
def entPut (x:Ent):List UInt8:=vput x.1.length++x.1++vput x.2.length++x.2
def keyF (d:List Ent):List UInt8:=vput d.length++d.flatMap entPut
def utfChk (s:List UInt8) (lo hi:Int):Int:=if (s.length:Int) < lo then 13 else if hi < (s.length:Int) then 13 else if Lib.validD s=true then 0 else 11
def entChk (x:Ent):Int:=if utfChk x.1 1 64≠0 then utfChk x.1 1 64 else utfChk x.2 0 256
def chkL:Option (List UInt8)->List Ent->Int
 | _,[]=>0
 | p,x::xs=>if entChk x≠0 then entChk x else match p with
  | none=>chkL (some x.1) xs
  | some k=>if x.1=k then 14 else if Op.bytesLess x.1 k=true then 7 else chkL (some x.1) xs
def descrChk (d:List Ent):Int:=if d.length=0 then 12 else if 16 < d.length then 13 else chkL none d
def rowChk (r:Row):Int:=if descrChk r.1≠0 then descrChk r.1 else if r.2=0 then 18 else 0
abbrev K (r:Row):List UInt8:=keyF r.1
/-- How many rows at the head have lesser keys. -/
def adv (k:List UInt8):List Row->Nat
 | []=>0
 | r::rs=>if Op.bytesLess (K r) k=true then adv k rs+1 else 0
def atL:List Row->List Row->Bool
 | _,[]=>true
 | t,r::rs=>match t.drop (adv (K r) t) with
  | []=>false
  | s::t'=>decide (K s=K r)&&decide (r.2<=s.2)&&atL (s::t') rs
theorem bl_iff (a b:List UInt8):Op.bytesLess a b=true↔a < b:=by rw [bytesLess_lt];simp
/-- Rows whose keys rise. -/
def Rise (l:List Row):Prop:=l.Pairwise λa b=>K a < K b
def chkR:Option (List UInt8)->List Row->Int
 | _,[]=>0
 | p,r::rs=>if rowChk r≠0 then rowChk r else match p with
  | none=>chkR (some (K r)) rs
  | some k=>if K r=k then 14 else if Op.bytesLess (K r) k=true then 7 else chkR (some (K r)) rs
def checkT (t:List Row):Int:=if 256 < t.length then 13 else chkR none t
theorem chkR_rise:∀ {t:List Row} (p:Option (List UInt8)),Rise t->(∀r∈t,rowChk r=0)->(∀k,p=some k->∀r∈t,k < K r)->chkR p t=0
 | [],p,_,_,_=>by cases p<;>rfl
 | r::t,p,ht,hc,hp=>by
  have ht':=List.pairwise_cons.1 ht
  have ih:=chkR_rise (t:=t) (some (K r)) ht'.2 (λx hx=>hc x (by simp [hx])) (λk hk x hx=>by cases hk;exact ht'.1 x hx)
  unfold chkR
  rw [if_neg (by simp [hc r (by simp)])]
  cases p with
  | none=>exact ih
  | some k=>
   have hk:=hp k rfl r (by simp)
   have h1:¬ K r=k:=λe=>by rw [e] at hk;exact List.lt_irrefl _ hk
   have h2:¬ Op.bytesLess (K r) k=true:=λe=>List.lt_irrefl _ (List.lt_trans hk ((bl_iff _ _).1 e))
   simp only
   rw [if_neg h1,if_neg h2]
   exact ih
theorem Rows.perm {l m:List Row} (h:l.Perm m) (hl:Rows l):Rows m:=⟨by rw [<- h.length_eq];exact hl.1,λr hr=>hl.2 r (h.mem_iff.2 hr)⟩
def Pos (t:List Row):Prop:=∀r∈t,0 < r.2/\r.2 < 18446744073709551616
def mergeR:List Row->List Row->Option (List Row)
 | [],b=>some b
 | x::a,[]=>some (x::a)
 | x::a,y::b=>
  if K x < K y then (mergeR a (y::b)).map (x::·)
  else if K y < K x then (mergeR (x::a) b).map (y::·)
  else if x.2+y.2 < 18446744073709551616 then (mergeR a b).map ((x.1,x.2+y.2)::·) else none
termination_by a b=>a.length+b.length
def Few (t:List Row):Prop:=∀r∈t,few12 r.1=true
def Ok (t:List Row):Prop:=t.length<=256/\Rise t/\∀r∈t,rowChk r=0
theorem chkR_inv:∀ {t:List Row} (p:Option (List UInt8)),chkR p t=0->Rise t/\(∀r∈t,rowChk r=0)/\∀k,p=some k->∀r∈t,k < K r
 | [],p,_=>⟨List.Pairwise.nil,by simp,by simp⟩
 | r::t,p,h=>by
  unfold chkR at h
  by_cases h1:rowChk r=0
  rotate_left
  ·rw [if_pos h1] at h;exact absurd h h1
  rw [if_neg (by simp [h1])] at h
  have main:∀ (h:chkR (some (K r)) t=0),Rise (r::t)/\∀x∈r::t,rowChk x=0:=by
   intro h
   obtain ⟨i1,i2,i3⟩:=chkR_inv (some (K r)) h
   refine ⟨List.Pairwise.cons (i3 _ rfl) i1,λx hx=>?_⟩
   rcases List.mem_cons.1 hx with rfl | hx
   ·exact h1
   ·exact i2 x hx
  cases p with
  | none=>exact ⟨(main h).1,(main h).2,by simp⟩
  | some k=>
   simp only at h
   split at h
   ·cases h
   next h2=>
   split at h
   ·cases h
   next h3=>
   refine ⟨(main h).1,(main h).2, ?_⟩
   rintro _ ⟨⟩ x hx
   have hk:k < K r:=by
    rcases List.le_iff_lt_or_eq.1 (List.not_lt.1 λe=>h3 ((bl_iff _ _).2 e)) with e | e
    ·exact e
    ·exact absurd e.symm h2
   rcases List.mem_cons.1 hx with rfl | hx
   ·exact hk
   ·exact List.lt_trans hk ((List.pairwise_cons.1 (main h).1).1 x hx)
theorem checkT_iff (t:List Row):checkT t=0↔Ok t:=by
 unfold checkT Ok
 constructor
 ·intro h
  split at h
  ·cases h
  ·obtain ⟨h1,h2,_⟩:=chkR_inv none h
   exact ⟨by omega,h1,h2⟩
 ·rintro ⟨h1,h2,h3⟩
  rw [if_neg (by omega)]
  exact chkR_rise none h2 h3 (by simp)
theorem rowChk_iff (r:Row):rowChk r=0↔descrChk r.1=0/\r.2≠0:=by
 unfold rowChk
 by_cases h:descrChk r.1=0
 ·simp [h]
 ·simp [h]
structure Tb (t:List Row):Prop where
 ok:Ok t
 rows:Rows t
 few:Few t
theorem Tb.pos {t:List Row} (h:Tb t):Pos t:=λr hr=>by
 have h1:=((rowChk_iff r).1 (h.ok.2.2 r hr)).2
 have h2:=(h.rows.2 r hr).2
 omega
theorem Tb.rise {t:List Row} (h:Tb t):Rise t:=h.ok.2.1
def tog (a b:List Row):List Row×Int:=match mergeR a b with
 | none=>([],3)
 | some m=>if 256 < m.length then ([],13) else (m,0)
structure GoodT (t:List Row):Prop where
 len:t.length<=300
 few:Few t
 rows:Rows t
abbrev Dl:=Int×Int×List Row
def chkD (d:Dl):Int:=if d.2.1<=d.1 then 20 else checkT d.2.2
theorem GoodT.tb {t:List Row} (h:GoodT t) (ho:Ok t):Tb t:=⟨ho,h.rows,h.few⟩
abbrev Sn:=Int×List Row
def sn (s:Sn):GV:=.g [.i .u64 s.1,.l (s.2.map row)]
@[simp] theorem sn_cells (s:Sn):(sn s).cells=[.i .u64 s.1,.l (s.2.map row)]:=rfl
@[simp] theorem sn_scalar (s:Sn):(sn s).scalar=false:=rfl
def zS:Sn:=(0,[])
def applyS (s:Sn) (d:Dl):Sn×Int:=
 if checkT s.2≠0 then (zS,checkT s.2) else if chkD d≠0 then (zS,chkD d) else if s.1≠d.1 then (zS,19)
 else if (tog s.2 d.2.2).2≠0 then (zS,(tog s.2 d.2.2).2) else ((d.2.1,(tog s.2 d.2.2).1),0)
theorem has_bool {g:GV} (h:GTy.bool.has g):∃b,g=.b b:=by simpa only [GTy.has] using h
structure TOk (t:List Row):Prop where
 ok:Ok t
 few:Few t
 rows:Rows t
theorem TOk.tb {t:List Row} (h:TOk t):checkT t=0:=(checkT_iff t).2 h.ok
theorem TOk.len {t:List Row} (h:TOk t):t.length<=256:=h.ok.1
structure One where
 deep:Int
 tag:Int
 typ:Int
 num:Int
 text:List UInt8
def one (x:One):GV:=.g [.i .u8 x.deep,.i .u64 x.tag,.i .i8 x.typ,.i .u64 x.num,.s x.text]
@[simp] theorem one_cells (x:One):(one x).cells=[.i .u8 x.deep,.i .u64 x.tag,.i .i8 x.typ,.i .u64 x.num,.s x.text]:=rfl
theorem has_int {k:IntKind} {g:GV} (h:(GTy.int k).has g):∃n,g=.i k n/\k.min<=n/\n<=k.max:=by
 simp only [GTy.has] at h
 exact h
theorem has_i64 {g:GV} (h:(GTy.int .i64).has g):∃n,g=.i .i64 n/\-9223372036854775808<=n/\n<=9223372036854775807:=by
 obtain ⟨n,rfl,h1,h2⟩:=has_int h
 exact ⟨n,rfl,by simpa [IntKind.min,IntKind.signed,IntKind.bits] using h1,by simpa [IntKind.max,IntKind.signed,IntKind.bits] using h2⟩
abbrev It:=Int×Int×List UInt8
def ltI (a b:It):Bool:=if a.1=b.1 then decide (a.2.1 < b.2.1) else decide (a.1 < b.1)
def leI (a b:It):Prop:=ltI b a=false
def dI:It:=(0,0,[])
abbrev at_ (h:List It) (i:Nat):It:=h.getD i dI
def par (k:Nat):Nat:=(k - 1) / 2
def Heap (h:List It) (n:Nat):Prop:=∀k,0 < k->k < n->leI (at_ h (par k)) (at_ h k)
structure Sim (h L:List It) (n:Int):Prop where
 heap:Heap h h.length
 perm:L.Perm h
 srt:L.Pairwise (λx y=>ltI x y=true)
 low:∀x∈L,x.2.1 < n
theorem Sim.len {h L:List It} {n:Int} (s:Sim h L n):h.length=L.length:=s.perm.length_eq.symm
/-- What may be kept. -/
structure Kp (k:List Sn):Prop where
 len:k.length<=8
 tb:∀s∈k,Tb s.2
 pos:∀s∈k,0 < s.1/\s.1 < 18446744073709551616
 rise:k.Pairwise λa b=>a.1 < b.1/\atL b.2 a.2=true
theorem Kp.nil:Kp []:=⟨by decide,by simp,by simp,List.Pairwise.nil⟩
theorem Kp.drop {k:List Sn} (hk:Kp k) (i:Nat):Kp (k.drop i):=
 ⟨by have:=hk.len;rw [List.length_drop];omega,λs hs=>hk.tb s (List.mem_of_mem_drop hs),λs hs=>hk.pos s (List.mem_of_mem_drop hs),hk.rise.sublist (List.drop_sublist i k)⟩
theorem has_u8 {g:GV} (h:(GTy.int .u8).has g):∃n,g=.i .u8 n/\0<=n/\n < 256:=by
 simp only [GTy.has] at h
 obtain ⟨n,rfl,b1,b2⟩:=h
 exact ⟨n,rfl,by simpa [IntKind.min,IntKind.signed] using b1,by simp [IntKind.max,IntKind.signed,IntKind.bits] at b2;omega⟩
/-- What was published by its epoch. -/
def MapOk (xs:List GV) (k:List Sn):Prop:=∀s∈k,assocG (.i .u64 s.1) xs=some (sn s)
structure Lead (xs:List GV) (k:List Sn) (b:Int):Prop where
 kp:Kp k
 map:MapOk xs k
 base:b=0\/∃s∈k,s.1=b
abbrev An:=Int×Int×Int×Int
/-- A message of a sender. -/
abbrev Tm:=Int×Int×Int×List Row
def GoodM (xs:List GV) (m:Tm):Prop:=
 (m.1=5/\Tb m.2.2.2/\(0 < m.2.1/\m.2.1 < 18446744073709551616)/\m.2.2.1=0/\assocG (.i .u64 m.2.1) xs=some (sn (m.2.1,m.2.2.2)))\/
 (m.1=6/\Tb m.2.2.2/\(0 < m.2.2.1/\m.2.2.1 < m.2.1/\m.2.1 < 18446744073709551616)/\∃s l:Sn,assocG (.i .u64 m.2.2.1) xs=some (sn s)/\assocG (.i .u64 m.2.1) xs=some (sn l)/\l.1=m.2.1/\s.1=m.2.2.1/\Tb l.2/\applyS s (m.2.2.1,m.2.1,m.2.2.2)=(l,0))
/-- A sender and a receiver, and what was told between them. -/
structure Foll (xs:List GV) (told:List Tm) (back:List An) (k:List Sn) (b:Int) (sm:Bool) (h:Sn):Prop where
 lead:Lead xs k b
 keys:∀e g,assocG (.i .u64 e) xs=some g->∃l,k.getLast? = some l/\e<=l.1
 told:∀m∈told,GoodM xs m
 back:∀a∈back,a.1=7->sm=true/\a.2.1<=h.1
 has:(sm=true/\assocG (.i .u64 h.1) xs=some (sn h)/\Tb h.2)\/(sm=false/\h=zS)
 base:b<=0\/(sm=true/\b<=h.1)
 zero:assocG (.i .u64 0) xs=none
theorem Foll.getD {xs:List GV} {told:List Tm} {back:List An} {k:List Sn} {b:Int} {sm:Bool} {h:Sn} (f:Foll xs told back k b sm h):(assocG (.i .u64 h.1) xs).getD (.g [.i .u64 0,.l []])=sn h:=by
 rcases f.has with ⟨-,q, -⟩ | ⟨-,q⟩
 ·rw [q];rfl
 ·rw [q]
  show (assocG (.i .u64 0) xs).getD _=_
  rw [f.zero];rfl
theorem Foll.no {xs:List GV} {told:List Tm} {back:List An} {k:List Sn} {b:Int} {sm:Bool} {h:Sn} (f:Foll xs told back k b sm h) (e:sm=false):h=zS:=by
 rcases f.has with ⟨q, -⟩ | ⟨-,q⟩
 ·rw [q] at e;cases e
 ·exact q
theorem tsplit (x:List UInt8) (h:x.length < 4294967281):TT.lim 16 [.s x,.s [10]]=some [.l ((cutF 10 x).map .s)]:=prim_lim (f:=splitP) rfl (by simp only [splitP];rw [if_pos h])
theorem tfields (x:List UInt8) (h:x.length<=4294967296):TT.lim 18 [.s x]=some [.l ((wordsF x).map .s)]:=prim_lim (f:=fieldsP) rfl (by simp only [fieldsP];rw [if_pos h])
theorem tnum (w:List UInt8) (h:w.length<=281474976710656):TT.lim 22 [.s w]=some [.i .u64 ((numF w).1:Nat),.i .i64 (numF w).2]:=prim_lim (f:=numberP) rfl (by simp only [numberP];rw [if_pos h])
theorem tfmt (n:Int) (h0:0<=n) (h1:n < 18446744073709551616):TT.lim 5 [.i .u64 n,.i .i64 10]=some [.s (Lib.decDigits n.toNat)]:=prim_lim (f:=fmtUP) rfl (by simp only [fmtUP];rw [if_pos ⟨⟨h0,h1⟩,trivial⟩])
theorem titoa (n:Int) (h0 : -9223372036854775808<=n) (h1:n<=9223372036854775807):TT.lim 10 [.i .i64 n]=some [.s (Lib.itoa n)]:=prim_lim (f:=itoaP) rfl (by simp only [itoaP];rw [if_pos ⟨h0,h1⟩])
theorem elemS1 (n:List UInt8):(GV.s n).elemOk 1=true:=rfl
/-- The document's cut, a round. -/
theorem rcut0 (s:List UInt8) (c:UInt8) (hs:s.length<=70000):∀ (m from_ i:Nat) (acc:List (List UInt8)),i+m=s.length->from_<=i->acc.length<=i->c∉(s.take i).drop from_->
 ∃ (l:List (List UInt8)) (f:Nat),TT.lim 42 [.s s,.i .u8 c.toNat,.l (acc.map .s),.i .i64 from_,.i .i64 i]=some [.i .i64 0,.l (l.map .s),.i .i64 f]/\f<=s.length/\l.length<=s.length/\l++[s.drop f]=acc++cutF c (s.drop from_)
 | 0,from_,i,acc,hi,hf,ha,hc=>by
  have h:¬ ((i:Int) < s.length):=by omega
  refine ⟨acc,from_, ?_,by omega,by omega, ?_⟩
  ·generalize acc.map GV.s=A at *
   refine tree_lim rfl rfl ?_
   simp [h]
  ·have e:s.take i=s:=List.take_of_length_le (by omega)
   rw [e] at hc
   have:=cutF_app (l:=[]) hc
   rw [List.append_nil] at this
   rw [this]
   simp [cutF]
 | m+1,from_,i,acc,hi,hf,ha,hc=>by
  have hlt:i < s.length:=by omega
  have h:((i:Int) < s.length):=by omega
  have hw:=wrap64 (n:=(i:Int)+1) (by omega) (by omega)
  have hcast:((i+1:Nat):Int)=(i:Int)+1:=by omega
  have hget:s[i]? = some s[i]:=List.getElem?_eq_getElem hlt
  have hd:s.drop from_=(s.take i).drop from_++s[i]::s.drop (i+1):=by
   rw [<- List.drop_eq_getElem_cons hlt,<- List.drop_append_of_le_length (by rw [List.length_take];omega),List.take_append_drop]
  by_cases e:s[i]=c
  ·have hla:(acc.map GV.s).length=acc.length:=List.length_map _
   have c1:2 * ((acc.map GV.s).length+1) * 16<=281474976710656/\(acc.map GV.s).length+1<=281474976710656:=by omega
   obtain ⟨l,f,ih,i1,i2,i3⟩:=rcut0 s c hs m (i+1) (i+1) (acc++[(s.take i).drop from_]) (by omega) (by omega) (by rw [List.length_append,List.length_singleton];omega) (by rw [List.drop_eq_nil_of_le (by rw [List.length_take];omega)];simp)
   refine ⟨l,f, ?_,i1,i2, ?_⟩
   ·rw [hcast,List.map_append,List.map_cons,List.map_nil] at ih
    have e':((s[i].toNat:Int)=c.toNat)=True:=eq_true (by rw [e])
    clear hc hd i3 e
    generalize acc.map GV.s=A at *
    refine tree_lim rfl rfl ?_
    have c3:=Nat.le_of_lt hlt
    simp [h,hw,hget,e',c1,hf,c3,elemS1,ih]
   ·rw [i3,hd,e]
    rw [cutF_app hc]
    simp [cutF]
  ·obtain ⟨l,f,ih,i1,i2,i3⟩:=rcut0 s c hs m from_ (i+1) acc (by omega) (by omega) (by omega) (by
    rw [List.take_add_one,hget,List.drop_append_of_le_length (by rw [List.length_take];omega)]
    simp only [Option.toList_some,List.mem_append,List.mem_singleton,not_or]
    exact ⟨hc,λh=>e h.symm⟩)
   refine ⟨l,f, ?_,i1,i2,i3⟩
   rw [hcast] at ih
   have e':((s[i].toNat:Int)=c.toNat)=False:=eq_false (by
    intro h;exact e (UInt8.toNat_inj.1 (by omega)))
   clear hc hd i3 e
   generalize acc.map GV.s=A at *
   refine tree_lim rfl rfl ?_
   simp [h,hw,hget,e',ih]
theorem rcut_ok (s:List UInt8) (c:UInt8) (hs:s.length<=70000):TT.lim 41 [.s s,.i .u8 c.toNat]=some [.l ((cutF c s).map .s)]:=by
 obtain ⟨l,f,h0,h1,h2,h3⟩:=rcut0 s c hs s.length 0 0 [] (by omega) (by omega) (by simp) (by simp)
 rw [List.nil_append,List.drop_zero] at h3
 rw [<- h3,List.map_append,List.map_cons,List.map_nil]
 rw [List.map_nil] at h0
 simp only [Int.natCast_zero] at h0
 have hla:(l.map GV.s).length=l.length:=List.length_map _
 have c1:2 * ((l.map GV.s).length+1) * 16<=281474976710656/\(l.map GV.s).length+1<=281474976710656:=by omega
 have e:s.take s.length=s:=List.take_length
 generalize l.map GV.s=A at *
 refine fn_lim rfl rfl ?_ rfl
 simp [h0,c1,h1,elemS1,e]
/-- The words of a line: those of a remark are none. -/
def lineF (l:List UInt8):List (List UInt8):=match wordsF l with | []=>[] | w::r=>if w[0]? = some 35 then [] else w::r
theorem cutF_len (c:UInt8):∀s:List UInt8,(cutF c s).length<=s.length+1
 | []=>by simp [cutF]
 | b::s=>by
  have ih:=cutF_len c s
  unfold cutF
  split
  ·simp;omega
  ·split
   ·simp
   ·next x r e=>rw [e] at ih;simp at ih ⊢;omega
theorem words_ne {l:List UInt8}:∀w∈wordsF l,w≠[]:=λw hw=>by
 have:=(List.mem_filter.1 hw).2
 intro e;subst e;simp at this
def numE (w:List UInt8) (most:Nat):Nat×Int:=if (numF w).2≠0 then (0,(numF w).2) else if most < (numF w).1 then (0,18) else ((numF w).1,0)
def numsF:List (List UInt8)->List Nat->List Nat×Int
 | w::ws,m::ms=>if (numE w m).2≠0 then ([],(numE w m).2) else if (numsF ws ms).2≠0 then ([],(numsF ws ms).2) else ((numE w m).1::(numsF ws ms).1,0)
 | _,_=>([],0)
theorem parseM_lt {l:List UInt8}:∀ {acc u:Nat},acc < 18446744073709551616->Lib.parseUintM (2 ^ 64 - 1) acc l=.ok u->u < 18446744073709551616:=by
 induction l with
 | nil=>intro acc u ha h;simp only [Lib.parseUintM] at h;cases h;exact ha
 | cons c r ih=>
  intro acc u ha h
  simp only [Lib.parseUintM] at h
  split at h
  ·split at h
   ·cases h
   ·split at h
    ·cases h
    ·exact ih (by omega) h
  ·cases h
theorem numF_lt (w:List UInt8):(numF w).1 < 18446744073709551616:=by
 unfold numF
 split
 ·decide
 ·split
  ·next u h=>
   unfold Lib.parseUintB at h
   split at h
   ·cases h
   ·exact parseM_lt (by decide) h
  ·decide
theorem numE_lt (w:List UInt8) (m:Nat):(numE w m).1 < 18446744073709551616:=by
 unfold numE
 split
 ·show 0 < _
  decide
 ·split
  ·show 0 < _
   decide
  ·exact numF_lt w
theorem numE_le {w:List UInt8} {m:Nat}:(numE w m).1<=m:=by
 unfold numE
 split
 ·exact Nat.zero_le _
 ·split
  ·exact Nat.zero_le _
  ·simp only;omega
theorem numF_bad {w:List UInt8} (h:w=[]\/digB w=false\/(1 < w.length/\w[0]? = some 48)):numF w=(0,23):=by unfold numF;rw [if_pos h]
theorem numF_good {w:List UInt8} (h:¬ (w=[]\/digB w=false\/(1 < w.length/\w[0]? = some 48))):numF w=(match Lib.parseUintM (2 ^ 64 - 1) 0 w with | .ok u=>(u,0) | _=>(0,3)):=by
 have hw:w≠[]:=λe=>h (.inl e)
 unfold numF
 rw [if_neg h]
 unfold Lib.parseUintB
 rw [if_neg hw]
 cases Lib.parseUintM (2 ^ 64 - 1) 0 w<;>rfl
theorem numE_bad {w:List UInt8} {m:Nat} (h:(numF w).2≠0):numE w m=(0,(numF w).2):=by unfold numE;rw [if_pos h]
def nG (n:Nat):GV:=.i .u64 n
theorem elemN (n:Int):(GV.i .u64 n).elemOk 1=true:=rfl
theorem numsF_err {ws:List (List UInt8)} {ms:List Nat} (h:(numsF ws ms).2≠0):(numsF ws ms).1=[]:=by
 unfold numsF at h ⊢
 split
 ·split
  ·rfl
  ·next h2=>
   simp only [if_neg h2] at h
   split
   ·rfl
   ·next h3=>rw [if_neg h3] at h;exact absurd rfl h
 ·rfl
theorem numsF_cons (w:List UInt8) (ws:List (List UInt8)) (m:Nat) (ms:List Nat):numsF (w::ws) (m::ms)=if (numE w m).2≠0 then ([],(numE w m).2) else if (numsF ws ms).2≠0 then ([],(numsF ws ms).2) else ((numE w m).1::(numsF ws ms).1,0):=rfl
def ansN (acc:List Nat) (N:List Nat×Int):List GV:=if N.2=0 then [.i .i64 1,.l ((acc++N.1).map nG)] else [.i .i64 0,.i .i64 N.2]
theorem ansN_cons (acc:List Nat) (v:Nat) (N:List Nat×Int):ansN acc (if N.2≠0 then ([],N.2) else (v::N.1,0))=ansN (acc++[v]) N:=by
 unfold ansN
 by_cases e:N.2=0
 ·simp [e]
 ·simp [e]
theorem pnums0 (ws:List (List UInt8)) (ms:List Nat) (hl:ms.length=ws.length) (hw:∀w∈ws,w.length<=70000) (hm:ms.length<=1000):∀ (m i:Nat) (acc:List Nat),i+m=ms.length->acc.length<=i->
 TT.lim 21 [.l (ws.map .s),.l (acc.map nG),.l (ms.map nG),.i .i64 ms.length,.i .i64 i]=some (ansN acc (numsF (ws.drop i) (ms.drop i)))
 | 0,i,acc,hi,ha=>by
  have h:¬ ((i:Int) < ms.length):=by omega
  rw [List.drop_eq_nil_of_le (show ms.length<=i by omega),List.drop_eq_nil_of_le (show ws.length<=i by omega)]
  have e:ansN acc (numsF [] [])=[.i .i64 1,.l (acc.map nG)]:=by simp [ansN,numsF]
  rw [e]
  generalize acc.map nG=A at *
  refine tree_lim rfl rfl ?_
  simp [h]
 | m+1,i,acc,hi,ha=>by
  have hlt:i < ms.length:=by omega
  have hlt2:i < ws.length:=by omega
  have h:((i:Int) < ms.length):=by omega
  have hwr:=wrap64 (n:=(i:Int)+1) (by omega) (by omega)
  have hcast:((i+1:Nat):Int)=(i:Int)+1:=by omega
  have hg1:(ws.map GV.s)[i]? = some (.s ws[i]):=by rw [List.getElem?_map,List.getElem?_eq_getElem hlt2];rfl
  have hg2:(ms.map nG)[i]? = some (.i .u64 ms[i]):=by rw [List.getElem?_map,List.getElem?_eq_getElem hlt];rfl
  have k:=tnum ws[i] (by have:=hw _ (List.getElem_mem hlt2);omega)
  have hla:(acc.map nG).length=acc.length:=List.length_map _
  have c1:2 * ((acc.map nG).length+1) * 8<=281474976710656/\(acc.map nG).length+1<=281474976710656:=by omega
  rw [List.drop_eq_getElem_cons hlt,List.drop_eq_getElem_cons hlt2]
  rw [numsF_cons]
  by_cases e1:(numF ws[i]).2=0
  rotate_left
  ·rw [numE_bad e1,if_pos e1]
   have e0:∀e:Int,e≠0->ansN acc ([],e)=[.i .i64 0,.i .i64 e]:=λe h=>by simp [ansN,h]
   rw [e0 _ (by simpa using e1)]
   clear e0
   clear hla c1
   generalize (numF ws[i]).2=e at *
   generalize (numF ws[i]).1=v at *
   generalize ws.map GV.s=W at *
   generalize ms.map nG=M at *
   generalize acc.map nG=A at *
   refine tree_lim rfl rfl ?_
   simp [h,hg1,hg2,k,e1]
  ·by_cases e2:ms[i] < (numF ws[i]).1
   ·have:numE ws[i] ms[i]=(0,18):=by unfold numE;rw [if_neg (by simpa using e1),if_pos e2]
    rw [this,if_pos (by decide)]
    have e0:ansN acc ([],18)=[.i .i64 0,.i .i64 18]:=by simp [ansN]
    simp only
    rw [e0]
    clear e0
    rw [e1] at k
    clear hla c1
    generalize (numF ws[i]).1=v at *
    generalize ms[i]=mo at *
    generalize ws.map GV.s=W at *
    generalize ms.map nG=M at *
    generalize acc.map nG=A at *
    refine tree_lim rfl rfl ?_
    simp [h,hg1,hg2,k,e2]
   ·have e3:numE ws[i] ms[i]=((numF ws[i]).1,0):=by unfold numE;rw [if_neg (by simpa using e1),if_neg e2]
    rw [e3]
    rw [e1] at k
    rw [if_neg (by simp),ansN_cons]
    have ih:=pnums0 ws ms hl hw hm m (i+1) (acc++[(numF ws[i]).1]) (by omega) (by rw [List.length_append,List.length_singleton];omega)
    rw [hcast] at ih
    generalize numsF (ws.drop (i+1)) (ms.drop (i+1))=N at *
    rw [List.map_append,List.map_cons,List.map_nil] at ih
    have fin:∀X,TT.lim 21 [.l (ws.map .s),.l (acc.map nG++[nG (numF ws[i]).1]),.l (ms.map nG),.i .i64 ms.length,.i .i64 ((i:Int)+1)]=some X->TT.lim 21 [.l (ws.map .s),.l (acc.map nG),.l (ms.map nG),.i .i64 ms.length,.i .i64 i]=some X:=λX ih=>by
     have hv:nG (numF ws[i]).1=.i .u64 ((numF ws[i]).1:Nat):=rfl
     rw [hv] at ih
     clear hv
     have e2':=Nat.not_lt.1 e2
     clear hla
     generalize (numF ws[i]).1=v at *
     generalize ms[i]=mo at *
     generalize ws.map GV.s=W at *
     generalize ms.map nG=M at *
     generalize acc.map nG=A at *
     refine tree_lim rfl rfl ?_
     simp [h,hwr,hg1,hg2,k,e2,c1,elemN,ih]
    exact fin _ ih
theorem pnums_ok (ws:List (List UInt8)) (ms:List Nat) (hl:ms.length=ws.length) (hw:∀w∈ws,w.length<=70000) (hm:ms.length<=1000):TT.lim 20 [.l (ws.map .s),.l (ms.map nG)]=some [.l ((numsF ws ms).1.map nG),.i .i64 (numsF ws ms).2]:=by
 have k:=pnums0 ws ms hl hw hm ms.length 0 [] (by omega) (by simp)
 rw [List.drop_zero,List.drop_zero,List.map_nil] at k
 simp only [Int.natCast_zero] at k
 have hml:(((ms.map nG).length:Nat):Int)=(ms.length:Int):=by rw [List.length_map]
 have he:=numsF_err (ws:=ws) (ms:=ms)
 generalize ws.map GV.s=W at *
 generalize ms.map nG=M at *
 generalize (ms.length:Int)=ML at *
 by_cases e:(numsF ws ms).2=0
 ·unfold ansN at k
  rw [if_pos e,List.nil_append] at k
  rw [e]
  generalize (numsF ws ms).1.map nG=O at *
  refine fn_lim rfl rfl ?_ rfl
  simp [hml,k]
 ·unfold ansN at k
  rw [if_neg e] at k
  rw [he e,List.map_nil]
  generalize (numsF ws ms).2=E at *
  refine fn_lim rfl rfl ?_ rfl
  simp [hml,k]
theorem numsF_len:∀ {ws:List (List UInt8)} {ms:List Nat},(numsF ws ms).2=0->ms.length=ws.length->(numsF ws ms).1.length=ms.length
 | [],ms,h,e=>by
  have:ms=[]:=List.eq_nil_of_length_eq_zero e
  subst this;rfl
 | w::ws,[],h,e=>by cases e
 | w::ws,m::ms,h,e=>by
  rw [numsF_cons] at h ⊢
  split at h
  ·next h1=>exact absurd h h1
  ·next h1=>
   split at h
   ·next h2=>exact absurd h h2
   ·next h2=>
    rw [if_neg h1,if_neg h2]
    simp only [List.length_cons] at e ⊢
    rw [numsF_len (by simpa using h2) (by omega)]
structure Ft where
 dr:Bool
 c:Int
 d:Int
 cu:Int
 at_:Int
 by_:Int
def ftG (f:Ft):GV:=.g [.b f.dr,.i .u8 f.c,.i .u8 f.d,.i .i64 f.cu,.i .i64 f.at_,.i .u8 f.by_]
@[simp] theorem ftG_cells (f:Ft):(ftG f).cells=[.b f.dr,.i .u8 f.c,.i .u8 f.d,.i .i64 f.cu,.i .i64 f.at_,.i .u8 f.by_]:=rfl
def zFt:Ft:=⟨false,0,0,0,0,0⟩
def dropB:List UInt8:=[100,114,111,112]
def fateM:List Nat:=[255,255,100000,100000,255]
def mkFt (l:List Nat):Ft:=⟨false,IntKind.u8.wrap ((l.getD 0 0:Nat):Int),IntKind.u8.wrap ((l.getD 1 0:Nat):Int),IntKind.i64.wrap ((l.getD 2 0:Nat):Int),IntKind.i64.wrap ((l.getD 3 0:Nat):Int),IntKind.u8.wrap ((l.getD 4 0:Nat):Int)⟩
def fateF (l:List (List UInt8)):Ft×Int:=
 if l=[dropB] then (⟨true,0,0,0,0,0⟩,0) else if l.length≠5 then (zFt,23) else if (numsF l fateM).2≠0 then (zFt,(numsF l fateM).2) else (mkFt (numsF l fateM).1,0)
theorem len5 {α:Type} {l:List α} (h:l.length=5):∃a b c d e,l=[a,b,c,d,e]:=by
 match l,h with
 | [a,b,c,d,e],_=>exact ⟨a,b,c,d,e,rfl⟩
theorem fate5 {a b c d e:List UInt8}:fateF [a,b,c,d,e]=if (numsF [a,b,c,d,e] fateM).2≠0 then (zFt,(numsF [a,b,c,d,e] fateM).2) else (mkFt (numsF [a,b,c,d,e] fateM).1,0):=by
 unfold fateF
 rw [if_neg (by simp),if_neg (by simp)]
theorem fate_other {l:List (List UInt8)} (h:l≠[dropB]) (h5:l.length≠5):fateF l=(zFt,23):=by
 unfold fateF
 rw [if_neg h,if_pos h5]
theorem pfate_ok (w:List UInt8) (l:List (List UInt8)) (hl:l.length<=70000) (hw:∀x∈l,x.length<=70000):TT.lim 24 [.l (.s w::l.map .s)]=some [ftG (fateF l).1,.i .i64 (fateF l).2]:=by
 by_cases h5:l.length=5
 ·obtain ⟨a,b,c,d,e,rfl⟩:=len5 h5
  have k:TT.lim 20 [.l [.s a,.s b,.s c,.s d,.s e],.l [.i .u64 255,.i .u64 255,.i .u64 100000,.i .u64 100000,.i .u64 255]]=_:=pnums_ok [a,b,c,d,e] fateM rfl hw (by decide)
  rw [fate5]
  by_cases e0:(numsF [a,b,c,d,e] fateM).2=0
  rotate_left
  ·rw [if_pos e0]
   generalize (numsF [a,b,c,d,e] fateM).1.map nG=N at *
   generalize (numsF [a,b,c,d,e] fateM).2=E at *
   refine fn_lim rfl rfl ?_ rfl
   simp [k,e0,ftG,zFt]
  ·rw [if_neg (by simpa using e0)]
   obtain ⟨n0,n1,n2,n3,n4,hn⟩:=len5 (numsF_len e0 rfl)
   rw [e0,hn] at k
   rw [hn]
   simp only [List.map_cons,List.map_nil,nG] at k
   refine fn_lim rfl rfl ?_ rfl
   simp [k,ftG,mkFt]
 by_cases hd:l=[dropB]
 ·subst hd
  have:fateF [dropB]=(⟨true,0,0,0,0,0⟩,0):=by unfold fateF;rw [if_pos rfl]
  rw [this]
  unfold dropB
  refine fn_lim rfl rfl ?_ rfl
  simp [ftG]
 rw [fate_other hd h5]
 match l,h5,hd with
 | [],_,_=>
  refine fn_lim rfl rfl ?_ rfl
  simp [ftG,zFt]
 | [a],_,hd=>
  have ha:(a=[100,114,111,112])=False:=eq_false λe=>hd (by rw [e];rfl)
  clear hd
  refine fn_lim rfl rfl ?_ rfl
  simp [ha,ftG,zFt]
 | a::b::r,h5,_=>
  have h2:¬ ((r.length:Int)+1+1+1=2):=by omega
  have h6:¬ ((r.length:Int)+1+1+1=6):=by simp only [List.length_cons] at h5;omega
  have hrl:((r.map GV.s).length:Int)=(r.length:Int):=by rw [List.length_map]
  clear hw h5 hd
  refine fn_lim rfl rfl ?_ rfl
  simp [h2,h6,ftG,zFt]
structure Cm where
 ln:Int
 op:Int
 en:Int
 n:Int
 w:List UInt8
def cmG (c:Cm):GV:=.g [.i .i64 c.ln,.i .u8 c.op,.i .i64 c.en,.i .u64 c.n,.s c.w]
@[simp] theorem cmG_cells (c:Cm):(cmG c).cells=[.i .i64 c.ln,.i .u8 c.op,.i .i64 c.en,.i .u64 c.n,.s c.w]:=rfl
def zCm:Cm:=⟨0,0,0,0,[]⟩
abbrev wAdd:List UInt8:=[97,100,100]
abbrev wPub:List UInt8:=[112,117,98,108,105,115,104]
abbrev wPoll:List UInt8:=[112,111,108,108]
abbrev wStep:List UInt8:=[115,116,101,112]
abbrev wShow:List UInt8:=[115,104,111,119]
abbrev wAll:List UInt8:=[97,108,108]
def cmd1 (op most:Nat) (f:Nat->Cm) (r:List (List UInt8)):Cm×Int:=
 match r with
 | [a]=>if (numE a most).2≠0 then (zCm,(numE a most).2) else (f (numE a most).1,0)
 | _=>(zCm,23)
def addF (r:List (List UInt8)):Cm×Int:=
 match r with
 | [a,b,c]=>if (numE a 1).2≠0 then (zCm,(numE a 1).2) else if 64 < b.length then (zCm,13) else if (numE c 18446744073709551615).2≠0 then (zCm,(numE c 18446744073709551615).2) else (⟨0,0,(numE a 1).1,(numE c 18446744073709551615).1,b⟩,0)
 | _=>(zCm,23)
def pubF (r:List (List UInt8)):Cm×Int:=
 match r with
 | [a,b]=>if (numE a 1).2≠0 then (zCm,(numE a 1).2) else if (numE b 18446744073709551615).2≠0 then (zCm,(numE b 18446744073709551615).2) else (⟨0,1,(numE a 1).1,(numE b 18446744073709551615).1,[]⟩,0)
 | _=>(zCm,23)
def cmdF (w:List UInt8) (r:List (List UInt8)):Cm×Int:=
 if w=wAdd then addF r else if w=wPub then pubF r
 else if w=wPoll then cmd1 2 1 (λn=>⟨0,2,n,0,[]⟩) r
 else if w=wStep then cmd1 3 100000 (λn=>⟨0,3,0,n,[]⟩) r
 else if w=wShow then cmd1 4 1 (λn=>⟨0,4,n,0,[]⟩) r
 else if w=wAll/\r=[] then (⟨0,5,0,0,[]⟩,0) else (zCm,23)
theorem nums1 (b:List UInt8) (m:Nat):numsF [b] [m]=if (numE b m).2≠0 then ([],(numE b m).2) else ([(numE b m).1],0):=rfl
theorem pn1 (a:List UInt8) (m:Nat) (ha:a.length<=70000):((numE a m).2=0/\TT.lim 20 [.l [.s a],.l [.i .u64 m]]=some [.l [.i .u64 (numE a m).1],.i .i64 0])\/((numE a m).2≠0/\TT.lim 20 [.l [.s a],.l [.i .u64 m]]=some [.l [],.i .i64 (numE a m).2]):=by
 have k:TT.lim 20 [.l [.s a],.l [.i .u64 m]]=_:=pnums_ok [a] [m] rfl (by simpa using ha) (by simp)
 rw [nums1] at k
 by_cases e:(numE a m).2=0
 ·rw [if_neg (by simpa using e)] at k
  exact .inl ⟨e,k⟩
 ·rw [if_pos e] at k
  exact .inr ⟨e,k⟩
theorem pn2 (a b:List UInt8) (m m2:Nat) (ha:a.length<=70000) (hb:b.length<=70000):((numE a m).2≠0/\TT.lim 20 [.l [.s a,.s b],.l [.i .u64 m,.i .u64 m2]]=some [.l [],.i .i64 (numE a m).2])\/((numE a m).2=0/\(numE b m2).2≠0/\TT.lim 20 [.l [.s a,.s b],.l [.i .u64 m,.i .u64 m2]]=some [.l [],.i .i64 (numE b m2).2])\/((numE a m).2=0/\(numE b m2).2=0/\TT.lim 20 [.l [.s a,.s b],.l [.i .u64 m,.i .u64 m2]]=some [.l [.i .u64 (numE a m).1,.i .u64 (numE b m2).1],.i .i64 0]):=by
 have k:TT.lim 20 [.l [.s a,.s b],.l [.i .u64 m,.i .u64 m2]]=_:=pnums_ok [a,b] [m,m2] rfl (by simp;exact ⟨ha,hb⟩) (by simp)
 rw [numsF_cons,nums1] at k
 by_cases e:(numE a m).2=0
 ·rw [if_neg (by simpa using e)] at k
  by_cases e2:(numE b m2).2=0
  ·rw [if_neg (c:=(numE b m2).2≠0) (by simpa using e2)] at k
   exact .inr (.inr ⟨e,e2,k⟩)
  ·rw [if_pos (c:=(numE b m2).2≠0) e2,if_pos (c:=(numE b m2).2≠0) e2] at k
   exact .inr (.inl ⟨e,e2,k⟩)
 ·rw [if_pos e] at k
  exact .inl ⟨e,k⟩
theorem padd_ok (r:List (List UInt8)) (a b c:List UInt8) (hr:r=[a,b,c]) (w:List UInt8) (hw:∀x∈r,x.length<=70000):TT.lim 26 [.l (.s w::r.map .s)]=some [cmG (addF r).1,.i .i64 (addF r).2]:=by
 subst hr
 have k1:=pn1 a 1 (hw a (by simp))
 have k2:=pn1 c 18446744073709551615 (hw c (by simp))
 have hle:=numE_le (w:=a) (m:=1)
 simp only [Int.natCast_one] at k1
 simp only [Int.cast_ofNat_Int] at k2
 unfold addF
 simp only
 rcases k1 with ⟨e1,k1⟩ | ⟨e1,k1⟩
 ·rw [if_neg (by simpa using e1)]
  by_cases hb:64 < b.length
  ·rw [if_pos hb]
   have hb':(64:Int) < b.length:=by omega
   generalize (numE a 1).1=v at *
   refine fn_lim rfl rfl ?_ rfl
   simp [k1,hb',cmG,zCm]
  ·rw [if_neg hb]
   have hb':¬ (64:Int) < b.length:=by omega
   rcases k2 with ⟨e2,k2⟩ | ⟨e2,k2⟩
   ·rw [if_neg (by simpa using e2)]
    have hv:=wrap64 (n:=((numE a 1).1:Int)) (by omega) (by omega)
    generalize (numE a 1).1=v at *
    generalize (numE c 18446744073709551615).1=u at *
    refine fn_lim rfl rfl ?_ rfl
    simp [k1,hb',k2,hv,cmG]
   ·rw [if_pos e2]
    generalize (numE a 1).1=v at *
    generalize (numE c 18446744073709551615).2=u at *
    refine fn_lim rfl rfl ?_ rfl
    simp [k1,hb',k2,e2,cmG,zCm]
 ·rw [if_pos e1]
  generalize (numE a 1).2=u at *
  refine fn_lim rfl rfl ?_ rfl
  simp [k1,e1,cmG,zCm]
theorem len1 {α:Type} {r:List α} (h:r.length=1):∃a,r=[a]:=by
 match r,h with
 | [a],_=>exact ⟨a,rfl⟩
theorem len2 {α:Type} {r:List α} (h:r.length=2):∃a b,r=[a,b]:=by
 match r,h with
 | [a,b],_=>exact ⟨a,b,rfl⟩
theorem len3 {α:Type} {r:List α} (h:r.length=3):∃a b c,r=[a,b,c]:=by
 match r,h with
 | [a,b,c],_=>exact ⟨a,b,c,rfl⟩
theorem cmd1_bad {op most:Nat} {f:Nat->Cm} {r:List (List UInt8)} (h:r.length≠1):cmd1 op most f r=(zCm,23):=by
 unfold cmd1
 split
 ·exact absurd rfl h
 ·rfl
theorem addF_bad {r:List (List UInt8)} (h:r.length≠3):addF r=(zCm,23):=by
 unfold addF
 split
 ·exact absurd rfl h
 ·rfl
theorem pubF_bad {r:List (List UInt8)} (h:r.length≠2):pubF r=(zCm,23):=by
 unfold pubF
 split
 ·exact absurd rfl h
 ·rfl
theorem cmdF_add (r:List (List UInt8)):cmdF wAdd r=addF r:=rfl
theorem cmdF_pub (r:List (List UInt8)):cmdF wPub r=pubF r:=by unfold cmdF;rw [if_neg (by decide),if_pos rfl]
theorem cmdF_poll (r:List (List UInt8)):cmdF wPoll r=cmd1 2 1 (λn=>⟨0,2,n,0,[]⟩) r:=by unfold cmdF;rw [if_neg (by decide),if_neg (by decide),if_pos rfl]
theorem cmdF_step (r:List (List UInt8)):cmdF wStep r=cmd1 3 100000 (λn=>⟨0,3,0,n,[]⟩) r:=by unfold cmdF;rw [if_neg (by decide),if_neg (by decide),if_neg (by decide),if_pos rfl]
theorem cmdF_show (r:List (List UInt8)):cmdF wShow r=cmd1 4 1 (λn=>⟨0,4,n,0,[]⟩) r:=by unfold cmdF;rw [if_neg (by decide),if_neg (by decide),if_neg (by decide),if_neg (by decide),if_pos rfl]
theorem cmdF_all (r:List (List UInt8)):cmdF wAll r=if r=[] then (⟨0,5,0,0,[]⟩,0) else (zCm,23):=by
 unfold cmdF
 rw [if_neg (by decide),if_neg (by decide),if_neg (by decide),if_neg (by decide),if_neg (by decide)]
 by_cases h:r=[]
 ·rw [if_pos ⟨rfl,h⟩,if_pos h]
 ·rw [if_neg (λx=>h x.2),if_neg h]
theorem cmdF_other {w:List UInt8} (r:List (List UInt8)) (h1:w≠wAdd) (h2:w≠wPub) (h3:w≠wPoll) (h4:w≠wStep) (h5:w≠wShow) (h6:w≠wAll):cmdF w r=(zCm,23):=by
 unfold cmdF
 rw [if_neg h1,if_neg h2,if_neg h3,if_neg h4,if_neg h5,if_neg (λx=>h6 x.1)]
theorem mapLen (r:List (List UInt8)):(((r.map GV.s).length:Nat):Int)=(r.length:Int):=by rw [List.length_map]
theorem pcmd_ok (w:List UInt8) (r:List (List UInt8)) (hl:r.length<=70000) (hw:∀x∈r,x.length<=70000):TT.lim 25 [.l (.s w::r.map .s)]=some [cmG (cmdF w r).1,.i .i64 (cmdF w r).2]:=by
 have hml:=mapLen r
 by_cases w1:w=wAdd
 ·subst w1
  rw [cmdF_add]
  by_cases h:r.length=3
  ·obtain ⟨a,b,c,rfl⟩:=len3 h
   have k:=padd_ok [a,b,c] a b c rfl wAdd hw
   generalize addF [a,b,c]=A at *
   simp only [cmG,List.map_cons,List.map_nil] at k ⊢
   refine fn_lim rfl rfl ?_ rfl
   simp [k]
  ·rw [addF_bad h]
   have h':¬ ((r.length:Int)+1=4):=by omega
   generalize r.map GV.s=R at *
   refine fn_lim rfl rfl ?_ rfl
   simp [hml,h',cmG,zCm]
 by_cases w2:w=wPub
 ·subst w2
  rw [cmdF_pub]
  by_cases h:r.length=2
  ·obtain ⟨a,b,rfl⟩:=len2 h
   have k:=pn2 a b 1 18446744073709551615 (hw a (by simp)) (hw b (by simp))
   have hle:=numE_le (w:=a) (m:=1)
   simp only [Int.natCast_one,Int.cast_ofNat_Int] at k
   unfold pubF
   simp only
   rcases k with ⟨e1,k⟩ | ⟨e1,e2,k⟩ | ⟨e1,e2,k⟩
   ·rw [if_pos e1]
    generalize (numE a 1).2=u at *
    refine fn_lim rfl rfl ?_ rfl
    simp [k,e1,cmG,zCm]
   ·rw [if_neg (by simpa using e1),if_pos e2]
    generalize (numE b 18446744073709551615).2=u at *
    refine fn_lim rfl rfl ?_ rfl
    simp [k,e2,cmG,zCm]
   ·rw [if_neg (by simpa using e1),if_neg (by simpa using e2)]
    have hv:=wrap64 (n:=((numE a 1).1:Int)) (by omega) (by omega)
    generalize (numE a 1).1=v at *
    generalize (numE b 18446744073709551615).1=u at *
    refine fn_lim rfl rfl ?_ rfl
    simp [k,hv,cmG]
  ·rw [pubF_bad h]
   have h':¬ ((r.length:Int)+1=3):=by omega
   generalize r.map GV.s=R at *
   refine fn_lim rfl rfl ?_ rfl
   simp [hml,h',cmG,zCm]
 by_cases w3:w=wPoll
 ·subst w3
  rw [cmdF_poll]
  by_cases h:r.length=1
  ·obtain ⟨a,rfl⟩:=len1 h
   have k:=pn1 a 1 (hw a (by simp))
   have hle:=numE_le (w:=a) (m:=1)
   simp only [Int.natCast_one] at k
   unfold cmd1
   simp only
   rcases k with ⟨e1,k⟩ | ⟨e1,k⟩
   ·rw [if_neg (by simpa using e1)]
    have hv:=wrap64 (n:=((numE a 1).1:Int)) (by omega) (by omega)
    generalize (numE a 1).1=v at *
    refine fn_lim rfl rfl ?_ rfl
    simp [k,hv,cmG]
   ·rw [if_pos e1]
    generalize (numE a 1).2=u at *
    refine fn_lim rfl rfl ?_ rfl
    simp [k,e1,cmG,zCm]
  ·rw [cmd1_bad h]
   have h':¬ ((r.length:Int)+1=2):=by omega
   generalize r.map GV.s=R at *
   refine fn_lim rfl rfl ?_ rfl
   simp [hml,h',cmG,zCm]
 by_cases w4:w=wStep
 ·subst w4
  rw [cmdF_step]
  by_cases h:r.length=1
  ·obtain ⟨a,rfl⟩:=len1 h
   have k:=pn1 a 100000 (hw a (by simp))
   rw [show ((100000:Nat):Int)=100000 from rfl] at k
   unfold cmd1
   simp only
   rcases k with ⟨e1,k⟩ | ⟨e1,k⟩
   ·rw [if_neg (by simpa using e1)]
    generalize (numE a 100000).1=v at *
    refine fn_lim rfl rfl ?_ rfl
    simp [k,cmG]
   ·rw [if_pos e1]
    generalize (numE a 100000).2=u at *
    refine fn_lim rfl rfl ?_ rfl
    simp [k,e1,cmG,zCm]
  ·rw [cmd1_bad h]
   have h':¬ ((r.length:Int)+1=2):=by omega
   generalize r.map GV.s=R at *
   refine fn_lim rfl rfl ?_ rfl
   simp [hml,h',cmG,zCm]
 by_cases w5:w=wShow
 ·subst w5
  rw [cmdF_show]
  by_cases h:r.length=1
  ·obtain ⟨a,rfl⟩:=len1 h
   have k:=pn1 a 1 (hw a (by simp))
   have hle:=numE_le (w:=a) (m:=1)
   simp only [Int.natCast_one] at k
   unfold cmd1
   simp only
   rcases k with ⟨e1,k⟩ | ⟨e1,k⟩
   ·rw [if_neg (by simpa using e1)]
    have hv:=wrap64 (n:=((numE a 1).1:Int)) (by omega) (by omega)
    generalize (numE a 1).1=v at *
    refine fn_lim rfl rfl ?_ rfl
    simp [k,hv,cmG]
   ·rw [if_pos e1]
    generalize (numE a 1).2=u at *
    refine fn_lim rfl rfl ?_ rfl
    simp [k,e1,cmG,zCm]
  ·rw [cmd1_bad h]
   have h':¬ ((r.length:Int)+1=2):=by omega
   generalize r.map GV.s=R at *
   refine fn_lim rfl rfl ?_ rfl
   simp [hml,h',cmG,zCm]
 by_cases w6:w=wAll
 ·subst w6
  rw [cmdF_all]
  by_cases h:r=[]
  ·subst h
   rw [if_pos rfl]
   refine fn_lim rfl rfl ?_ rfl
   simp [cmG]
  ·rw [if_neg h]
   have:r.length≠0:=λe=>h (List.eq_nil_of_length_eq_zero e)
   have h':¬ ((r.length:Int)+1=1):=by omega
   generalize r.map GV.s=R at *
   refine fn_lim rfl rfl ?_ rfl
   simp [hml,h',cmG,zCm]
 ·rw [cmdF_other r w1 w2 w3 w4 w5 w6]
  have w1':=eq_false w1
  have w2':=eq_false w2
  have w3':=eq_false w3
  have w4':=eq_false w4
  have w5':=eq_false w5
  have w6':=eq_false w6
  clear w1 w2 w3 w4 w5 w6
  generalize r.map GV.s=R at *
  refine fn_lim rfl rfl ?_ rfl
  simp [w1',w2',w3',w4',w5',w6',cmG,zCm]
abbrev wPair:List UInt8:=[112,97,105,114]
abbrev wThere:List UInt8:=[116,104,101,114,101]
abbrev wBack:List UInt8:=[98,97,99,107]
def M4:List Nat:=[18446744073709551615,18446744073709551615,18446744073709551615,18446744073709551615]
def pairF (w:List UInt8) (r:List (List UInt8)):List Nat×Int:=if w≠wPair then ([],23) else if r.length≠4 then ([],23) else numsF r M4
theorem len4 {α:Type} {l:List α} (h:l.length=4):∃a b c d,l=[a,b,c,d]:=by
 match l,h with
 | [a,b,c,d],_=>exact ⟨a,b,c,d,rfl⟩
theorem pairF_good {w:List UInt8} {r:List (List UInt8)} (h:(pairF w r).2=0):w=wPair/\r.length=4/\pairF w r=numsF r M4:=by
 unfold pairF at *
 split at h
 ·cases h
 ·next h1=>
  split at h
  ·cases h
  ·next h2=>
   rw [if_neg h1,if_neg h2]
   exact ⟨by simpa using h1,by simpa using h2,rfl⟩
structure Sc where
 m1:Nat
 m2:Nat
 m3:Nat
 m4:Nat
 th:List Ft
 bk:List Ft
 cm:List Cm
def zSc:Sc:=⟨0,0,0,0,[],[],[]⟩
def scL (s:Sc):List GV:=[nG s.m1,nG s.m2,nG s.m3,nG s.m4,.l (s.th.map ftG),.l (s.bk.map ftG),.l (s.cm.map cmG)]
theorem ppair_ok (w:List UInt8) (r:List (List UInt8)) (hl:r.length<=70000) (hw:∀x∈r,x.length<=70000) (a1 a2 a3 a4 T B C:GV) :
 ((pairF w r).2≠0/\TT.lim 30 [.l (.s w::r.map .s),a1,a2,a3,a4,T,B,C]=some [.i .i64 0,.i .i64 (pairF w r).2,a1,a2,a3,a4])\/
 ∃n1 n2 n3 n4,pairF w r=([n1,n2,n3,n4],0)/\TT.lim 30 [.l (.s w::r.map .s),a1,a2,a3,a4,T,B,C]=some [.i .i64 0,.i .i64 0,nG n1,nG n2,nG n3,nG n4]:=by
 have hml:=mapLen r
 by_cases h1:w=wPair
 rotate_left
 ·left
  have e:pairF w r=([],23):=by unfold pairF;rw [if_pos h1]
  rw [e]
  have h1':=eq_false h1
  clear h1 e
  generalize r.map GV.s=R at *
  refine ⟨by decide,tree_lim rfl rfl ?_⟩
  simp [h1']
 subst h1
 by_cases h2:r.length=4
 rotate_left
 ·left
  have e:pairF wPair r=([],23):=by unfold pairF;rw [if_neg (by simp),if_pos h2]
  rw [e]
  have h2':¬ ((r.length:Int)+1=5):=by omega
  clear e
  generalize r.map GV.s=R at *
  refine ⟨by decide,tree_lim rfl rfl ?_⟩
  simp [hml,h2']
 have e:pairF wPair r=numsF r M4:=by unfold pairF;rw [if_neg (by simp),if_neg (by simpa using h2)]
 obtain ⟨a,b,c,d,rfl⟩:=len4 h2
 have k:TT.lim 20 [.l [.s a,.s b,.s c,.s d],.l [.i .u64 18446744073709551615,.i .u64 18446744073709551615,.i .u64 18446744073709551615,.i .u64 18446744073709551615]]=_:=pnums_ok [a,b,c,d] M4 rfl hw (by decide)
 rw [e]
 by_cases e0:(numsF [a,b,c,d] M4).2=0
 ·right
  obtain ⟨n1,n2,n3,n4,hn⟩:=len4 (numsF_len e0 rfl)
  refine ⟨n1,n2,n3,n4,Prod.ext hn e0, ?_⟩
  rw [e0,hn] at k
  simp only [List.map_cons,List.map_nil,nG] at k ⊢
  clear e
  refine tree_lim rfl rfl ?_
  simp [k]
 ·left
  refine ⟨e0, ?_⟩
  clear e
  generalize (numsF [a,b,c,d] M4).1.map nG=N at *
  generalize (numsF [a,b,c,d] M4).2=E at *
  refine tree_lim rfl rfl ?_
  simp [k,e0]
def furF (no:Int) (w:List UInt8) (r:List (List UInt8)) (s:Sc):Int×Sc:=
 if w=wThere then (if (fateF r).2≠0 then ((fateF r).2,s) else if s.th.length+s.bk.length=200 then (13,s) else (0, { s with th:=s.th++[(fateF r).1] }))
 else if w=wBack then (if (fateF r).2≠0 then ((fateF r).2,s) else if s.th.length+s.bk.length=200 then (13,s) else (0, { s with bk:=s.bk++[(fateF r).1] }))
 else if (cmdF w r).2≠0 then ((cmdF w r).2,s) else if s.cm.length=1000 then (13,s) else (0, { s with cm:=s.cm++[{ (cmdF w r).1 with ln:=no }] })
theorem elemF (f:Ft):(ftG f).elemOk 6=true:=rfl
theorem elemC (c:Cm):(cmG c).elemOk 5=true:=rfl
def ScOk (s:Sc):Prop:=s.th.length+s.bk.length<=200/\s.cm.length<=1000
theorem furF_ok {no:Int} {w:List UInt8} {r:List (List UInt8)} {s:Sc} (h:ScOk s):ScOk (furF no w r s).2:=by
 obtain ⟨h1,h2⟩:=h
 unfold furF
 repeat' split
 all_goals first | exact ⟨h1,h2⟩ | skip
 all_goals
  refine ⟨?_, ?_⟩<;>simp only [List.length_append,List.length_singleton]<;>omega
theorem pfur_ok (no:Int) (w:List UInt8) (r:List (List UInt8)) (hl:r.length<=70000) (hw:∀x∈r,x.length<=70000) (s:Sc) (hs:ScOk s) :
 TT.lim 29 (.i .i64 no::.l (.s w::r.map .s)::scL s)=some (.i .i64 0::.i .i64 (furF no w r s).1::(scL (furF no w r s).2).drop 4):=by
 have kf:=pfate_ok w r hl hw
 have kc:=pcmd_ok w r hl hw
 obtain ⟨m1,m2,m3,m4,th,bk,cm⟩:=s
 obtain ⟨hs1,hs2⟩:=hs
 simp only at hs1 hs2
 have ht:((th.map ftG).length:Int)=(th.length:Int):=by rw [List.length_map]
 have hb:((bk.map ftG).length:Int)=(bk.length:Int):=by rw [List.length_map]
 have hc:((cm.map cmG).length:Int)=(cm.length:Int):=by rw [List.length_map]
 have hwr:IntKind.i64.wrap ((th.length:Int)+bk.length)=(th.length:Int)+bk.length:=wrap64 (by omega) (by omega)
 have c1:2 * ((th.map ftG).length+1) * 32<=281474976710656/\(th.map ftG).length+1<=281474976710656:=by rw [List.length_map];omega
 have c2:2 * ((bk.map ftG).length+1) * 32<=281474976710656/\(bk.map ftG).length+1<=281474976710656:=by rw [List.length_map];omega
 have c3:2 * ((cm.map cmG).length+1) * 48<=281474976710656/\(cm.map cmG).length+1<=281474976710656:=by rw [List.length_map];omega
 have w200:IntKind.i64.wrap 200=200:=rfl
 unfold furF
 simp only
 by_cases w1:w=wThere
 ·rw [if_pos w1]
  subst w1
  clear kc
  by_cases e1:(fateF r).2=0
  rotate_left
  ·rw [if_pos e1]
   simp only [scL,List.drop_succ_cons,List.drop_zero]
   generalize (fateF r).2=E at *
   generalize r.map GV.s=R at *
   generalize th.map ftG=T at *
   generalize bk.map ftG=B at *
   generalize cm.map cmG=C at *
   refine tree_lim rfl rfl ?_
   simp [kf,e1]
  rw [if_neg (by simpa using e1)]
  rw [e1] at kf
  by_cases e2:th.length+bk.length=200
  ·rw [if_pos e2]
   have e2':(th.length:Int)+bk.length=200:=by omega
   simp only [scL,List.drop_succ_cons,List.drop_zero]
   generalize r.map GV.s=R at *
   generalize th.map ftG=T at *
   generalize bk.map ftG=B at *
   generalize cm.map cmG=C at *
   refine tree_lim rfl rfl ?_
   simp [kf,ht,hb,hwr,w200,e2']
  ·rw [if_neg e2]
   have e2':¬ (th.length:Int)+bk.length=200:=by omega
   simp only [scL,List.drop_succ_cons,List.drop_zero,List.map_append,List.map_cons,List.map_nil]
   have hE:=elemF (fateF r).1
   generalize fateF r=F at *
   obtain ⟨⟨f1,f2,f3,f4,f5,f6⟩,FE⟩:=F
   simp only [ftG] at kf hE ⊢
   generalize r.map GV.s=R at *
   generalize th.map ftG=T at *
   generalize bk.map ftG=B at *
   generalize cm.map cmG=C at *
   refine tree_lim rfl rfl ?_
   simp [kf,ht,hb,hwr,e2',c1,hE]
 rw [if_neg w1]
 by_cases w2:w=wBack
 ·rw [if_pos w2]
  subst w2
  clear kc w1
  by_cases e1:(fateF r).2=0
  rotate_left
  ·rw [if_pos e1]
   simp only [scL,List.drop_succ_cons,List.drop_zero]
   generalize (fateF r).2=E at *
   generalize r.map GV.s=R at *
   generalize th.map ftG=T at *
   generalize bk.map ftG=B at *
   generalize cm.map cmG=C at *
   refine tree_lim rfl rfl ?_
   simp [kf,e1]
  rw [if_neg (by simpa using e1)]
  rw [e1] at kf
  by_cases e2:th.length+bk.length=200
  ·rw [if_pos e2]
   have e2':(th.length:Int)+bk.length=200:=by omega
   simp only [scL,List.drop_succ_cons,List.drop_zero]
   generalize r.map GV.s=R at *
   generalize th.map ftG=T at *
   generalize bk.map ftG=B at *
   generalize cm.map cmG=C at *
   refine tree_lim rfl rfl ?_
   simp [kf,ht,hb,hwr,w200,e2']
  ·rw [if_neg e2]
   have e2':¬ (th.length:Int)+bk.length=200:=by omega
   simp only [scL,List.drop_succ_cons,List.drop_zero,List.map_append,List.map_cons,List.map_nil]
   have hE:=elemF (fateF r).1
   generalize fateF r=F at *
   obtain ⟨⟨f1,f2,f3,f4,f5,f6⟩,FE⟩:=F
   simp only [ftG] at kf hE ⊢
   generalize r.map GV.s=R at *
   generalize th.map ftG=T at *
   generalize bk.map ftG=B at *
   generalize cm.map cmG=C at *
   refine tree_lim rfl rfl ?_
   simp [kf,ht,hb,hwr,e2',c2,hE]
 rw [if_neg w2]
 have w1':=eq_false w1
 have w2':=eq_false w2
 clear kf w1 w2
 by_cases e1:(cmdF w r).2=0
 rotate_left
 ·rw [if_pos e1]
  simp only [scL,List.drop_succ_cons,List.drop_zero]
  generalize (cmdF w r).2=E at *
  generalize r.map GV.s=R at *
  generalize th.map ftG=T at *
  generalize bk.map ftG=B at *
  generalize cm.map cmG=C at *
  refine tree_lim rfl rfl ?_
  simp [w1',w2',kc,e1]
 rw [if_neg (by simpa using e1)]
 rw [e1] at kc
 by_cases e2:cm.length=1000
 ·rw [if_pos e2]
  have e2':(cm.length:Int)=1000:=by omega
  simp only [scL,List.drop_succ_cons,List.drop_zero]
  generalize r.map GV.s=R at *
  generalize th.map ftG=T at *
  generalize bk.map ftG=B at *
  generalize cm.map cmG=C at *
  refine tree_lim rfl rfl ?_
  simp [w1',w2',kc,hc,e2']
 ·rw [if_neg e2]
  have e2':¬ (cm.length:Int)=1000:=by omega
  simp only [scL,List.drop_succ_cons,List.drop_zero,List.map_append,List.map_cons,List.map_nil]
  generalize cmdF w r=F at *
  obtain ⟨⟨f1,f2,f3,f4,f5⟩,FE⟩:=F
  have hE:=elemC ⟨no,f2,f3,f4,f5⟩
  simp only [cmG] at kc hE ⊢
  generalize r.map GV.s=R at *
  generalize th.map ftG=T at *
  generalize bk.map ftG=B at *
  generalize cm.map cmG=C at *
  refine tree_lim rfl rfl ?_
  simp [w1',w2',kc,hc,e2',c3,hE]
def stepF (no:Nat) (b:Bool) (s:Sc) (l:List UInt8):Int×Bool×Sc:=
 match lineF l with
 | []=>(0,b,s)
 | w::r=>if b=false then (if (pairF w r).2≠0 then ((pairF w r).2,b,s) else (0,true, { s with m1:=(pairF w r).1.getD 0 0,m2:=(pairF w r).1.getD 1 0,m3:=(pairF w r).1.getD 2 0,m4:=(pairF w r).1.getD 3 0 }))
  else ((furF (no+1) w r s).1,b,(furF (no+1) w r s).2)
def runF:Nat->Bool->Sc->List (List UInt8)->Nat×Int×Bool×Sc
 | _,b,s,[]=>(0,0,b,s)
 | no,b,s,l::ls=>if (stepF no b s l).1≠0 then (no+1,(stepF no b s l).1,b,s) else runF (no+1) (stepF no b s l).2.1 (stepF no b s l).2.2 ls
def parseF (t:List UInt8):Sc×Nat×Int:=
 if 65536 < t.length then (zSc,0,4) else
 if (runF 0 false zSc (cutF 10 t)).2.1≠0 then (zSc,(runF 0 false zSc (cutF 10 t)).1,(runF 0 false zSc (cutF 10 t)).2.1)
 else if (runF 0 false zSc (cutF 10 t)).2.2.1=false then (zSc,0,24) else ((runF 0 false zSc (cutF 10 t)).2.2.2,0,0)
def ansP (x:Nat×Int×Bool×Sc):List GV:=if x.2.1≠0 then [.i .i64 0,.i .i64 x.1,.i .i64 x.2.1] else .i .i64 1::.b x.2.2.1::scL x.2.2.2
theorem lineF_nil {l:List UInt8} (h:wordsF l=[]):lineF l=[]:=by unfold lineF;rw [h]
theorem lineF_hash {l w:List UInt8} {r:List (List UInt8)} (h:wordsF l=(35::w)::r):lineF l=[]:=by unfold lineF;rw [h];rfl
theorem lineF_cons {l w:List UInt8} {b:UInt8} {r:List (List UInt8)} (h:wordsF l=(b::w)::r) (hb:b≠35):lineF l=(b::w)::r:=by
 unfold lineF
 rw [h]
 simp only [List.getElem?_cons_zero,Option.some.injEq]
 rw [if_neg hb]
theorem stepF_nil {no:Nat} {b:Bool} {s:Sc} {l:List UInt8} (h:lineF l=[]):stepF no b s l=(0,b,s):=by unfold stepF;rw [h]
theorem stepF_cons {no:Nat} {b:Bool} {s:Sc} {l w:List UInt8} {r:List (List UInt8)} (h:lineF l=w::r):stepF no b s l=if b=false then (if (pairF w r).2≠0 then ((pairF w r).2,b,s) else (0,true, { s with m1:=(pairF w r).1.getD 0 0,m2:=(pairF w r).1.getD 1 0,m3:=(pairF w r).1.getD 2 0,m4:=(pairF w r).1.getD 3 0 })) else ((furF (no+1) w r s).1,b,(furF (no+1) w r s).2):=by unfold stepF;rw [h]
theorem stepF_ok {no:Nat} {b:Bool} {s:Sc} {l:List UInt8} (h:ScOk s):ScOk (stepF no b s l).2.2:=by
 cases e:lineF l with
 | nil=>rw [stepF_nil e];exact h
 | cons w r=>
  rw [stepF_cons e]
  split
  ·split
   ·exact h
   ·exact h
  ·exact furF_ok h
theorem cutF_mem_len (c:UInt8):∀ (s x:List UInt8),x∈cutF c s->x.length<=s.length
 | [],x,h=>by simp [cutF] at h;subst h;simp
 | b::s,x,h=>by
  have ih:=cutF_mem_len c s
  unfold cutF at h
  split at h
  ·rcases List.mem_cons.1 h with rfl | h
   ·simp
   ·have:=ih x h;simp;omega
  ·split at h
   ·next e=>
    rcases List.mem_cons.1 h with rfl | h
    ·simp
    ·cases h
   ·next y r e=>
    rcases List.mem_cons.1 h with rfl | h
    ·have:=ih y (by rw [e];simp)
     simp;omega
    ·have:=ih x (by rw [e];simp [h]);simp;omega
theorem words_len (l:List UInt8):(wordsF l).length<=l.length+1:=by
 have h1:=List.length_filter_le (λw:List UInt8=>!w.isEmpty) (cutF 32 l)
 have h2:=cutF_len 32 l
 exact Nat.le_trans h1 h2
theorem words_mem {l x:List UInt8} (h:x∈wordsF l):x.length<=l.length:=cutF_mem_len 32 l x (List.mem_filter.1 h).1
theorem scL_eq (s:Sc):scL s=[nG s.m1,nG s.m2,nG s.m3,nG s.m4,.l (s.th.map ftG),.l (s.bk.map ftG),.l (s.cm.map cmG)]:=rfl
theorem pparse0 (ls:List (List UInt8)) (hk:ls.length<=70000) (hls:∀l∈ls,l.length<=65536):∀ (m i:Nat) (b:Bool) (s:Sc),i+m=ls.length->ScOk s->
 TT.lim 17 (.b b::.l (ls.map .s)::.i .i64 ls.length::.i .i64 i::scL s)=some (ansP (runF i b s (ls.drop i)))
 | 0,i,b,s,hi,hs=>by
  have h:¬ ((i:Int) < ls.length):=by omega
  rw [List.drop_eq_nil_of_le (by omega)]
  have e:ansP (runF i b s [])=.i .i64 1::.b b::scL s:=rfl
  rw [e,scL_eq]
  generalize s.th.map ftG=T at *
  generalize s.bk.map ftG=B at *
  generalize s.cm.map cmG=C at *
  refine tree_lim rfl rfl ?_
  simp [h]
 | m+1,i,b,s,hi,hs=>by
  have hlt:i < ls.length:=by omega
  have h:((i:Int) < ls.length):=by omega
  have hw:=wrap64 (n:=(i:Int)+1) (by omega) (by omega)
  have hcast:((i+1:Nat):Int)=(i:Int)+1:=by omega
  have hget:(ls.map GV.s)[i]? = some (.s ls[i]):=by rw [List.getElem?_map,List.getElem?_eq_getElem hlt];rfl
  have hll:ls[i].length<=65536:=hls _ (List.getElem_mem hlt)
  have kw:=tfields ls[i] (by omega)
  have ih:=λb s=>pparse0 ls hk hls m (i+1) b s (by omega)
  rw [List.drop_eq_getElem_cons hlt]
  have hsk:stepF i b s ls[i]=(0,b,s)->TT.lim 17 (.b b::.l (ls.map .s)::.i .i64 ls.length::.i .i64 ((i+1:Nat):Int)::scL s)=some (ansP (runF i b s (ls[i]::ls.drop (i+1)))):=λe=>by
   rw [ih b s hs]
   conv=>rhs;rw [runF,e]
   rfl
  cases hws:wordsF ls[i] with
  | nil=>
   have hk:=hsk (stepF_nil (lineF_nil hws))
   rw [hws,List.map_nil] at kw
   rw [hcast,scL_eq] at hk
   rw [scL_eq]
   generalize ansP (runF i b s (ls[i]::ls.drop (i+1)))=O at *
   generalize s.th.map ftG=T at *
   generalize s.bk.map ftG=B at *
   generalize s.cm.map cmG=C at *
   generalize ls[i]=l at *
   generalize ls.map GV.s=LS at *
   generalize (ls.length:Int)=L at *
   refine tree_lim rfl rfl ?_
   simp [h,hw,hget,kw,hk]
  | cons w0 r=>
   obtain ⟨c,w,rfl⟩:=List.exists_cons_of_ne_nil (words_ne (l:=ls[i]) w0 (by rw [hws];simp))
   have hrl:r.length<=70000:=by
    have:=words_len ls[i]
    rw [hws,List.length_cons] at this;omega
   have hrw:∀x∈r,x.length<=70000:=λx hx=>by
    have:=words_mem (l:=ls[i]) (x:=x) (by rw [hws];simp [hx]);omega
   rw [hws,List.map_cons] at kw
   have hp:¬ (((r.map GV.s).length:Int)+1=0):=by omega
   by_cases hc:c=35
   ·subst hc
    have hk:=hsk (stepF_nil (lineF_hash hws))
    rw [hcast,scL_eq] at hk
    rw [scL_eq]
    generalize ansP (runF i b s (ls[i]::ls.drop (i+1)))=O at *
    generalize s.th.map ftG=T at *
    generalize s.bk.map ftG=B at *
    generalize s.cm.map cmG=C at *
    generalize ls[i]=l at *
    generalize ls.map GV.s=LS at *
    generalize (ls.length:Int)=L at *
    generalize r.map GV.s=R at *
    refine tree_lim rfl rfl ?_
    simp [h,hw,hget,kw,hp,hk]
   have hc':((c.toNat:Int)=35)=False:=eq_false λh=>hc (UInt8.toNat_inj.1 (by show c.toNat=35;omega))
   have hst:=stepF_cons (no:=i) (b:=b) (s:=s) (lineF_cons hws hc)
   clear hsk
   cases b with
   | false=>
    rw [if_pos rfl] at hst
    have kp:=ppair_ok (c::w) r hrl hrw (nG s.m1) (nG s.m2) (nG s.m3) (nG s.m4) (.l (s.th.map ftG)) (.l (s.bk.map ftG)) (.l (s.cm.map cmG))
    rcases kp with ⟨e1,kp⟩ | ⟨n1,n2,n3,n4,e1,kp⟩
    ·rw [if_pos e1] at hst
     have:ansP (runF i false s (ls[i]::ls.drop (i+1)))=[.i .i64 0,.i .i64 ((i:Int)+1),.i .i64 (pairF (c::w) r).2]:=by
      rw [runF,hst,if_pos e1]
      unfold ansP
      rw [if_pos e1,hcast]
     rw [this,scL_eq]
     clear this hst ih
     generalize (pairF (c::w) r).2=E at *
     generalize s.th.map ftG=T at *
     generalize s.bk.map ftG=B at *
     generalize s.cm.map cmG=C at *
     generalize ls[i]=l at *
     generalize ls.map GV.s=LS at *
     generalize (ls.length:Int)=L at *
     generalize r.map GV.s=R at *
     refine tree_lim rfl rfl ?_
     simp [h,hw,hget,kw,hp,hc',kp,e1]
    ·rw [e1,if_neg (by simp)] at hst
     have ih1:=ih true { s with m1:=n1,m2:=n2,m3:=n3,m4:=n4 } hs
     rw [runF,hst,if_neg (by simp)]
     change TT.lim _ _=some (ansP (runF (i+1) true { s with m1:=n1,m2:=n2,m3:=n3,m4:=n4 } (ls.drop (i+1))))
     clear hst ih
     rw [hcast,scL_eq] at ih1
     rw [scL_eq]
     generalize ansP (runF (i+1) true { s with m1:=n1,m2:=n2,m3:=n3,m4:=n4 } (ls.drop (i+1)))=O at *
     simp only at ih1
     generalize s.th.map ftG=T at *
     generalize s.bk.map ftG=B at *
     generalize s.cm.map cmG=C at *
     generalize ls[i]=l at *
     generalize ls.map GV.s=LS at *
     generalize (ls.length:Int)=L at *
     generalize r.map GV.s=R at *
     refine tree_lim rfl rfl ?_
     simp [h,hw,hget,kw,hp,hc',kp,ih1]
   | true=>
    rw [if_neg (by simp)] at hst
    have kp:=pfur_ok ((i:Int)+1) (c::w) r hrl hrw s hs
    have hok:=furF_ok (no:=(i:Int)+1) (w:=c::w) (r:=r) hs
    by_cases e1:(furF ((i:Int)+1) (c::w) r s).1=0
    ·have ih1:=ih true (furF ((i:Int)+1) (c::w) r s).2 hok
     have hm:(furF ((i:Int)+1) (c::w) r s).2.m1=s.m1/\(furF ((i:Int)+1) (c::w) r s).2.m2=s.m2/\(furF ((i:Int)+1) (c::w) r s).2.m3=s.m3/\(furF ((i:Int)+1) (c::w) r s).2.m4=s.m4:=by
      unfold furF
      repeat' split
      all_goals exact ⟨rfl,rfl,rfl,rfl⟩
     rw [runF,hst]
     simp only
     rw [if_neg (by simpa using e1)]
     clear hst ih hok
     rw [e1] at kp
     rw [hcast,scL_eq,hm.1,hm.2.1,hm.2.2.1,hm.2.2.2] at ih1
     simp only [scL_eq,List.drop_succ_cons,List.drop_zero] at kp
     rw [scL_eq]
     generalize furF ((i:Int)+1) (c::w) r s=F at *
     generalize ansP (runF (i+1) true F.2 (ls.drop (i+1)))=O at *
     generalize F.2.th.map ftG=T' at *
     generalize F.2.bk.map ftG=B' at *
     generalize F.2.cm.map cmG=C' at *
     generalize s.th.map ftG=T at *
     generalize s.bk.map ftG=B at *
     generalize s.cm.map cmG=C at *
     generalize ls[i]=l at *
     generalize ls.map GV.s=LS at *
     generalize (ls.length:Int)=L at *
     generalize r.map GV.s=R at *
     clear hm e1
     refine tree_lim rfl rfl ?_
     simp [h,hw,hget,kw,hp,hc',kp,ih1]
    ·have:ansP (runF i true s (ls[i]::ls.drop (i+1)))=[.i .i64 0,.i .i64 ((i:Int)+1),.i .i64 (furF ((i:Int)+1) (c::w) r s).1]:=by
      rw [runF,hst]
      simp only
      rw [if_pos e1]
      unfold ansP
      rw [if_pos e1,hcast]
     rw [this]
     clear this hst ih hok
     simp only [scL_eq,List.drop_succ_cons,List.drop_zero] at kp
     rw [scL_eq]
     generalize furF ((i:Int)+1) (c::w) r s=F at *
     generalize F.2.th.map ftG=T' at *
     generalize F.2.bk.map ftG=B' at *
     generalize F.2.cm.map cmG=C' at *
     generalize F.1=E at *
     generalize s.th.map ftG=T at *
     generalize s.bk.map ftG=B at *
     generalize s.cm.map cmG=C at *
     generalize ls[i]=l at *
     generalize ls.map GV.s=LS at *
     generalize (ls.length:Int)=L at *
     generalize r.map GV.s=R at *
     refine tree_lim rfl rfl ?_
     simp [h,hw,hget,kw,hp,hc',kp,e1]
theorem pparse_ok (t:List UInt8) (ht:t.length<=65536):TT.lim 15 [.s t]=some [.g (scL (parseF t).1),.i .i64 (parseF t).2.1,.i .i64 (parseF t).2.2]:=by
 have k1:=tsplit t (by omega)
 have hcl:=cutF_len 10 t
 have k2:=pparse0 (cutF 10 t) (by omega) (λl hl=>Nat.le_trans (cutF_mem_len 10 t l hl) ht) (cutF 10 t).length 0 false zSc (by omega) ⟨by decide,by decide⟩
 rw [List.drop_zero] at k2
 have hml:=mapLen (cutF 10 t)
 have h0:¬ (65536:Int) < t.length:=by omega
 have hz:scL zSc=[.i .u64 0,.i .u64 0,.i .u64 0,.i .u64 0,.l [],.l [],.l []]:=rfl
 rw [hz] at k2
 simp only [Int.natCast_zero] at k2
 unfold parseF
 rw [if_neg (by omega)]
 generalize runF 0 false zSc (cutF 10 t)=R at *
 generalize (cutF 10 t).map GV.s=C at *
 generalize ((cutF 10 t).length:Int)=CL at *
 unfold ansP at k2
 by_cases e:R.2.1=0
 ·rw [if_neg (by simpa using e)] at k2
  rw [if_neg (by simpa using e)]
  by_cases e2:R.2.2.1=false
  ·rw [if_pos e2,hz]
   rw [e2,scL_eq] at k2
   generalize R.2.2.2.th.map ftG=T' at *
   generalize R.2.2.2.bk.map ftG=B' at *
   generalize R.2.2.2.cm.map cmG=C' at *
   refine fn_lim rfl rfl ?_ rfl
   simp [h0,k1,hml,k2]
  ·rw [if_neg e2]
   have e3:R.2.2.1=true:=by simpa using e2
   rw [e3] at k2
   simp only [scL_eq,nG] at k2 ⊢
   generalize R.2.2.2.th.map ftG=T' at *
   generalize R.2.2.2.bk.map ftG=B' at *
   generalize R.2.2.2.cm.map cmG=C' at *
   refine fn_lim rfl rfl ?_ rfl
   simp [h0,k1,hml,k2]
 ·rw [if_pos e] at k2
  rw [if_pos e,hz]
  refine fn_lim rfl rfl ?_ rfl
  simp [h0,k1,hml,k2]
theorem pairF_is {r:List (List UInt8)} (h:r.length=4):pairF wPair r=numsF r M4:=by unfold pairF;rw [if_neg (by simp),if_neg (by simpa using h)]
def dec (n:Int):List UInt8:=Lib.decDigits n.toNat
def lineS (c:Cm):List UInt8×Int:=
 if c.op=5 then ([97,108,108,10],0)
 else if c.op=3 then (if 100000 < c.n then ([],18) else ([115,116,101,112,32]++dec c.n++[10],0))
 else if c.en < 0 then ([],18) else if 1 < c.en then ([],18)
 else if c.op=0 then (if c.w=[] then ([],23) else if 1 < (cutF 32 c.w).length then ([],23) else if 1 < (cutF 10 c.w).length then ([],23) else if 64 < c.w.length then ([],13)
  else ([97,100,100,32]++Lib.itoa c.en++[32]++c.w++[32]++dec c.n++[10],0))
 else if c.op=1 then ([112,117,98,108,105,115,104,32]++Lib.itoa c.en++[32]++dec c.n++[10],0)
 else if c.op=2 then ([112,111,108,108,32]++Lib.itoa c.en++[10],0)
 else ([115,104,111,119,32]++Lib.itoa c.en++[10],0)
def CmOk (c:Cm):Prop:=(0<=c.op/\c.op<=5)/\(-9223372036854775808<=c.en/\c.en<=9223372036854775807)/\(0<=c.n/\c.n < 18446744073709551616)/\c.w.length<=70000
theorem dec_len {n:Int} (h0:0<=n) (h1:n < 18446744073709551616):(dec n).length<=100:=by
 unfold dec
 have:∀ (k u:Nat),u < 10 ^ (k+1)->Lib.nDigits u<=k+1:=by
  intro k
  induction k with
  | zero=>intro u h;rw [Lib.nDigits_small (by simpa using h)];exact Nat.le_refl _
  | succ k ih=>
   intro u h
   by_cases hu:u < 10
   ·rw [Lib.nDigits_small hu];omega
   ·rw [Lib.nDigits_big hu]
    have:=ih (u / 10) (by rw [Nat.pow_succ] at h;omega)
    omega
 rw [Lib.decDigits_length]
 exact Nat.le_trans (this 20 n.toNat (by omega)) (by decide)
theorem itoa_len {n:Int} (h0 : -9223372036854775808<=n) (h1:n<=9223372036854775807):(Lib.itoa n).length<=100:=by
 unfold Lib.itoa
 split
 ·have:=dec_len (n:=n.natAbs) (by omega) (by omega)
  unfold dec at this
  rw [Int.toNat_natCast] at this
  rw [List.length_cons]
  have h2:Lib.nDigits n.natAbs<=99:=by
   rw [Lib.decDigits_length] at this
   have:∀ (k u:Nat),u < 10 ^ (k+1)->Lib.nDigits u<=k+1:=by
    intro k
    induction k with
    | zero=>intro u h;rw [Lib.nDigits_small (by simpa using h)];exact Nat.le_refl _
    | succ k ih=>
     intro u h
     by_cases hu:u < 10
     ·rw [Lib.nDigits_small hu];omega
     ·rw [Lib.nDigits_big hu]
      have:=ih (u / 10) (by rw [Nat.pow_succ] at h;omega)
      omega
   exact Nat.le_trans (this 20 n.natAbs (by omega)) (by decide)
  rw [Lib.decDigits_length];omega
 ·exact dec_len (n:=n) (by omega) (by omega)
theorem tdig (n:Int) (h0:0<=n) (h1:n < 18446744073709551616):TT.lim 40 [.i .u64 n]=some [.s (dec n)]:=by
 have k:=tfmt n h0 h1
 refine fn_lim rfl rfl ?_ rfl
 simp [k,dec]
theorem mlim {x:Int} {α:Type} {a b:Option α} (h:x<=9223372036854775807):(if x<=9223372036854775807 then a else b)=a:=if_pos h
theorem line0 (ln en n:Int) (w I D:List UInt8) (kd:TT.lim 40 [.i .u64 n]=some [.s D]) (ki:TT.lim 10 [.i .i64 en]=some [.s I]) (hD:D.length<=100) (hI:I.length<=100) (hw:w.length<=70000)
 (g1:¬ en < 0) (g2:¬ 1 < en) (g3:(w=[])=False) (C1 C2:List GV) (kc1:TT.lim 41 [.s w,.i .u8 32]=some [.l C1]) (kc2:TT.lim 41 [.s w,.i .u8 10]=some [.l C2]) :
 TT.lim 39 [.g [.i .i64 ln,.i .u8 0,.i .i64 en,.i .u64 n,.s w]]=some (if 1 < C1.length then [.s [],.i .i64 23] else if 1 < C2.length then [.s [],.i .i64 23] else if 64 < w.length then [.s [],.i .i64 13] else [.s ([97,100,100,32]++I++[32]++w++[32]++D++[10]),.i .i64 0]):=by
 obtain ⟨A,hA⟩:∃A:List UInt8,[97,100,100,32]=A:=⟨_,rfl⟩
 obtain ⟨S,hS⟩:∃A:List UInt8,[32]=A:=⟨_,rfl⟩
 obtain ⟨N,hN⟩:∃A:List UInt8,[10]=A:=⟨_,rfl⟩
 have lA:A.length=4:=by rw [<- hA];rfl
 have lS:S.length=1:=by rw [<- hS];rfl
 have lN:N.length=1:=by rw [<- hN];rfl
 rw [hS] at hA
 rw [hS,hA,hN]
 by_cases g4:1 < C1.length
 ·rw [if_pos g4]
  have g4':(1:Int) < C1.length:=by omega
  refine fn_lim rfl rfl ?_ rfl
  repeat' (first | (rw [mlim];rotate_left;omega) | simp [hA,hS,hN,g1,g2,g3,kc1,g4,g4',ki])
 rw [if_neg g4]
 have g4':¬ (1:Int) < C1.length:=by omega
 by_cases g5:1 < C2.length
 ·rw [if_pos g5]
  have g5':(1:Int) < C2.length:=by omega
  refine fn_lim rfl rfl ?_ rfl
  repeat' (first | (rw [mlim];rotate_left;omega) | simp [hA,hS,hN,g1,g2,g3,kc1,g4,g4',kc2,g5,g5',ki])
 rw [if_neg g5]
 have g5':¬ (1:Int) < C2.length:=by omega
 by_cases g6:64 < w.length
 ·rw [if_pos g6]
  have g6':(64:Int) < (w.length:Int):=by omega
  refine fn_lim rfl rfl ?_ rfl
  repeat' (first | (rw [mlim];rotate_left;omega) | simp [hA,hS,hN,g1,g2,g3,kc1,g4,g4',kc2,g5,g5',g6,g6',ki])
 rw [if_neg g6]
 have g6':¬ (64:Int) < (w.length:Int):=by omega
 refine fn_lim rfl rfl ?_ rfl
 repeat' (first | (rw [mlim];rotate_left;omega) | simp [hA,hS,hN,g1,g2,g3,kc1,g4,g4',kc2,g5,g5',g6,g6',ki,kd])
theorem line1 (ln en n:Int) (w I D:List UInt8) (kd:TT.lim 40 [.i .u64 n]=some [.s D]) (ki:TT.lim 10 [.i .i64 en]=some [.s I]) (hD:D.length<=100) (hI:I.length<=100) (g1:¬ en < 0) (g2:¬ 1 < en) :
 TT.lim 39 [.g [.i .i64 ln,.i .u8 1,.i .i64 en,.i .u64 n,.s w]]=some [.s ([112,117,98,108,105,115,104,32]++I++[32]++D++[10]),.i .i64 0]:=by
 obtain ⟨A,hA⟩:∃A:List UInt8,[112,117,98,108,105,115,104,32]=A:=⟨_,rfl⟩
 obtain ⟨S,hS⟩:∃A:List UInt8,[32]=A:=⟨_,rfl⟩
 obtain ⟨N,hN⟩:∃A:List UInt8,[10]=A:=⟨_,rfl⟩
 have lA:A.length=8:=by rw [<- hA];rfl
 have lS:S.length=1:=by rw [<- hS];rfl
 have lN:N.length=1:=by rw [<- hN];rfl
 rw [hS] at hA
 rw [hS,hA,hN]
 refine fn_lim rfl rfl ?_ rfl
 repeat' (first | (rw [mlim];rotate_left;omega) | simp [hA,hS,hN,g1,g2,ki,kd])
theorem line2 (ln en n:Int) (w I:List UInt8) (ki:TT.lim 10 [.i .i64 en]=some [.s I]) (hI:I.length<=100) (g1:¬ en < 0) (g2:¬ 1 < en) :
 TT.lim 39 [.g [.i .i64 ln,.i .u8 2,.i .i64 en,.i .u64 n,.s w]]=some [.s ([112,111,108,108,32]++I++[10]),.i .i64 0]:=by
 obtain ⟨A,hA⟩:∃A:List UInt8,[112,111,108,108,32]=A:=⟨_,rfl⟩
 obtain ⟨S,hS⟩:∃A:List UInt8,[32]=A:=⟨_,rfl⟩
 obtain ⟨N,hN⟩:∃A:List UInt8,[10]=A:=⟨_,rfl⟩
 have lA:A.length=5:=by rw [<- hA];rfl
 have lS:S.length=1:=by rw [<- hS];rfl
 have lN:N.length=1:=by rw [<- hN];rfl
 rw [hA,hN]
 refine fn_lim rfl rfl ?_ rfl
 repeat' (first | (rw [mlim];rotate_left;omega) | simp [hA,hN,g1,g2,ki])
theorem line4 (ln en n:Int) (w I:List UInt8) (ki:TT.lim 10 [.i .i64 en]=some [.s I]) (hI:I.length<=100) (g1:¬ en < 0) (g2:¬ 1 < en) :
 TT.lim 39 [.g [.i .i64 ln,.i .u8 4,.i .i64 en,.i .u64 n,.s w]]=some [.s ([115,104,111,119,32]++I++[10]),.i .i64 0]:=by
 obtain ⟨A,hA⟩:∃A:List UInt8,[115,104,111,119,32]=A:=⟨_,rfl⟩
 obtain ⟨S,hS⟩:∃A:List UInt8,[32]=A:=⟨_,rfl⟩
 obtain ⟨N,hN⟩:∃A:List UInt8,[10]=A:=⟨_,rfl⟩
 have lA:A.length=5:=by rw [<- hA];rfl
 have lS:S.length=1:=by rw [<- hS];rfl
 have lN:N.length=1:=by rw [<- hN];rfl
 rw [hA,hN]
 refine fn_lim rfl rfl ?_ rfl
 repeat' (first | (rw [mlim];rotate_left;omega) | simp [hA,hN,g1,g2,ki])
theorem line3 (ln en n:Int) (w D:List UInt8) (kd:TT.lim 40 [.i .u64 n]=some [.s D]) (hD:D.length<=100) (g1:¬ 100000 < n) :
 TT.lim 39 [.g [.i .i64 ln,.i .u8 3,.i .i64 en,.i .u64 n,.s w]]=some [.s ([115,116,101,112,32]++D++[10]),.i .i64 0]:=by
 obtain ⟨A,hA⟩:∃A:List UInt8,[115,116,101,112,32]=A:=⟨_,rfl⟩
 obtain ⟨S,hS⟩:∃A:List UInt8,[32]=A:=⟨_,rfl⟩
 obtain ⟨N,hN⟩:∃A:List UInt8,[10]=A:=⟨_,rfl⟩
 have lA:A.length=5:=by rw [<- hA];rfl
 have lS:S.length=1:=by rw [<- hS];rfl
 have lN:N.length=1:=by rw [<- hN];rfl
 rw [hA,hN]
 refine fn_lim rfl rfl ?_ rfl
 repeat' (first | (rw [mlim];rotate_left;omega) | simp [hA,hN,g1,kd])
theorem lineE (ln op en n:Int) (w:List UInt8) (ho:op=0\/op=1\/op=2\/op=4) (g:en < 0\/1 < en):TT.lim 39 [.g [.i .i64 ln,.i .u8 op,.i .i64 en,.i .u64 n,.s w]]=some [.s [],.i .i64 18]:=by
 by_cases g1:en < 0
 ·clear g
  rcases ho with rfl | rfl | rfl | rfl<;>(refine fn_lim rfl rfl ?_ rfl;simp [g1])
 ·have g2:1 < en:=g.resolve_left g1
  clear g
  rcases ho with rfl | rfl | rfl | rfl<;>(refine fn_lim rfl rfl ?_ rfl;simp [g1,g2])
theorem lineW (ln en n:Int) (I:List UInt8) (ki:TT.lim 10 [.i .i64 en]=some [.s I]) (hI:I.length<=100) (g1:¬ en < 0) (g2:¬ 1 < en) :
 TT.lim 39 [.g [.i .i64 ln,.i .u8 0,.i .i64 en,.i .u64 n,.s []]]=some [.s [],.i .i64 23]:=by
 obtain ⟨A,hA⟩:∃A:List UInt8,[97,100,100,32]=A:=⟨_,rfl⟩
 have lA:A.length=4:=by rw [<- hA];rfl
 refine fn_lim rfl rfl ?_ rfl
 repeat' (first | (rw [mlim];rotate_left;omega) | simp [hA,g1,g2,ki])
theorem rlin0 (ln en n:Int) (w:List UInt8) (e1 : -9223372036854775808<=en) (e2:en<=9223372036854775807) (n1:0<=n) (n2:n < 18446744073709551616) (hw:w.length<=70000):TT.lim 39 [cmG ⟨ln,0,en,n,w⟩]=some [.s (lineS ⟨ln,0,en,n,w⟩).1,.i .i64 (lineS ⟨ln,0,en,n,w⟩).2]:=by
 have kd:=tdig n n1 n2
 have ki:=titoa en e1 e2
 have hD:=dec_len n1 n2
 have hI:=itoa_len e1 e2
 unfold lineS
 dsimp only [cmG]
 rw [if_neg (by decide),if_neg (by decide)]
 by_cases g1:en < 0
 ·rw [if_pos g1];exact lineE ln 0 en n w (.inl rfl) (.inl g1)
 rw [if_neg g1]
 by_cases g2:1 < en
 ·rw [if_pos g2];exact lineE ln 0 en n w (.inl rfl) (.inr g2)
 rw [if_neg g2,if_pos rfl]
 by_cases g3:w=[]
 ·rw [if_pos g3]
  subst g3
  exact lineW ln en n _ ki hI g1 g2
 rw [if_neg g3]
 have kc1:=rcut_ok w 32 hw
 have kc2:=rcut_ok w 10 hw
 rw [show ((32:UInt8).toNat:Int)=32 from rfl] at kc1
 rw [show ((10:UInt8).toNat:Int)=10 from rfl] at kc2
 have k:=line0 ln en n w _ _ kd ki hD hI hw g1 g2 (eq_false g3) _ _ kc1 kc2
 rw [List.length_map,List.length_map] at k
 rw [k]
 split
 ·rfl
 split
 ·rfl
 split
 ·rfl
 ·rfl
theorem rlin1 (ln en n:Int) (w:List UInt8) (e1 : -9223372036854775808<=en) (e2:en<=9223372036854775807) (n1:0<=n) (n2:n < 18446744073709551616) (hw:w.length<=70000):TT.lim 39 [cmG ⟨ln,1,en,n,w⟩]=some [.s (lineS ⟨ln,1,en,n,w⟩).1,.i .i64 (lineS ⟨ln,1,en,n,w⟩).2]:=by
 have kd:=tdig n n1 n2
 have ki:=titoa en e1 e2
 have hD:=dec_len n1 n2
 have hI:=itoa_len e1 e2
 unfold lineS
 dsimp only [cmG]
 rw [if_neg (by decide),if_neg (by decide)]
 by_cases g1:en < 0
 ·rw [if_pos g1];exact lineE ln 1 en n w (.inr (.inl rfl)) (.inl g1)
 rw [if_neg g1]
 by_cases g2:1 < en
 ·rw [if_pos g2];exact lineE ln 1 en n w (.inr (.inl rfl)) (.inr g2)
 rw [if_neg g2,if_neg (by decide),if_pos rfl]
 exact line1 ln en n w _ _ kd ki hD hI g1 g2
theorem rlin2 (ln en n:Int) (w:List UInt8) (e1 : -9223372036854775808<=en) (e2:en<=9223372036854775807) (n1:0<=n) (n2:n < 18446744073709551616) (hw:w.length<=70000):TT.lim 39 [cmG ⟨ln,2,en,n,w⟩]=some [.s (lineS ⟨ln,2,en,n,w⟩).1,.i .i64 (lineS ⟨ln,2,en,n,w⟩).2]:=by
 have kd:=tdig n n1 n2
 have ki:=titoa en e1 e2
 have hD:=dec_len n1 n2
 have hI:=itoa_len e1 e2
 unfold lineS
 dsimp only [cmG]
 rw [if_neg (by decide),if_neg (by decide)]
 by_cases g1:en < 0
 ·rw [if_pos g1];exact lineE ln 2 en n w (.inr (.inr (.inl rfl))) (.inl g1)
 rw [if_neg g1]
 by_cases g2:1 < en
 ·rw [if_pos g2];exact lineE ln 2 en n w (.inr (.inr (.inl rfl))) (.inr g2)
 rw [if_neg g2,if_neg (by decide),if_neg (by decide),if_pos rfl]
 exact line2 ln en n w _ ki hI g1 g2
theorem rlin3 (ln en n:Int) (w:List UInt8) (e1 : -9223372036854775808<=en) (e2:en<=9223372036854775807) (n1:0<=n) (n2:n < 18446744073709551616) (hw:w.length<=70000):TT.lim 39 [cmG ⟨ln,3,en,n,w⟩]=some [.s (lineS ⟨ln,3,en,n,w⟩).1,.i .i64 (lineS ⟨ln,3,en,n,w⟩).2]:=by
 have kd:=tdig n n1 n2
 have ki:=titoa en e1 e2
 have hD:=dec_len n1 n2
 have hI:=itoa_len e1 e2
 unfold lineS
 dsimp only [cmG]
 rw [if_neg (by decide),if_pos rfl]
 by_cases g1:100000 < n
 ·rw [if_pos g1]
  clear kd ki hD hI
  refine fn_lim rfl rfl ?_ rfl
  simp [g1]
 rw [if_neg g1]
 exact line3 ln en n w _ kd hD g1
theorem rlin4 (ln en n:Int) (w:List UInt8) (e1 : -9223372036854775808<=en) (e2:en<=9223372036854775807) (n1:0<=n) (n2:n < 18446744073709551616) (hw:w.length<=70000):TT.lim 39 [cmG ⟨ln,4,en,n,w⟩]=some [.s (lineS ⟨ln,4,en,n,w⟩).1,.i .i64 (lineS ⟨ln,4,en,n,w⟩).2]:=by
 have kd:=tdig n n1 n2
 have ki:=titoa en e1 e2
 have hD:=dec_len n1 n2
 have hI:=itoa_len e1 e2
 unfold lineS
 dsimp only [cmG]
 rw [if_neg (by decide),if_neg (by decide)]
 by_cases g1:en < 0
 ·rw [if_pos g1];exact lineE ln 4 en n w (.inr (.inr (.inr rfl))) (.inl g1)
 rw [if_neg g1]
 by_cases g2:1 < en
 ·rw [if_pos g2];exact lineE ln 4 en n w (.inr (.inr (.inr rfl))) (.inr g2)
 rw [if_neg g2,if_neg (by decide),if_neg (by decide),if_neg (by decide)]
 exact line4 ln en n w _ ki hI g1 g2
theorem rlin5 (ln en n:Int) (w:List UInt8) (e1 : -9223372036854775808<=en) (e2:en<=9223372036854775807) (n1:0<=n) (n2:n < 18446744073709551616) (hw:w.length<=70000):TT.lim 39 [cmG ⟨ln,5,en,n,w⟩]=some [.s (lineS ⟨ln,5,en,n,w⟩).1,.i .i64 (lineS ⟨ln,5,en,n,w⟩).2]:=by
 have kd:=tdig n n1 n2
 have ki:=titoa en e1 e2
 have hD:=dec_len n1 n2
 have hI:=itoa_len e1 e2
 unfold lineS
 dsimp only [cmG]
 rw [if_pos rfl]
 clear kd ki hD hI
 refine fn_lim rfl rfl ?_ rfl
 simp
theorem rline_ok (c:Cm) (h:CmOk c):TT.lim 39 [cmG c]=some [.s (lineS c).1,.i .i64 (lineS c).2]:=by
 obtain ⟨ln,op,en,n,w⟩:=c
 obtain ⟨⟨o1,o2⟩,⟨e1,e2⟩,⟨n1,n2⟩,hw⟩:=h
 simp only at o1 o2 e1 e2 n1 n2 hw
 rcases (show op=0\/op=1\/op=2\/op=3\/op=4\/op=5 by omega) with rfl | rfl | rfl | rfl | rfl | rfl
 ·exact rlin0 ln en n w e1 e2 n1 n2 hw
 ·exact rlin1 ln en n w e1 e2 n1 n2 hw
 ·exact rlin2 ln en n w e1 e2 n1 n2 hw
 ·exact rlin3 ln en n w e1 e2 n1 n2 hw
 ·exact rlin4 ln en n w e1 e2 n1 n2 hw
 ·exact rlin5 ln en n w e1 e2 n1 n2 hw
theorem getG {α:Type} {l:List α} {i:Nat} (f:α->GV) (h:i < l.length):(l.map f)[i]? = some (f l[i]):=by rw [List.getElem?_map,List.getElem?_eq_getElem h];rfl
theorem rfates_refl (l:List Ft) (hl:l.length<=70000):TT.lim 36 [.l (l.map ftG),.l (l.map ftG)]=some [.b true]:=by
 have loop:∀ (m i:Nat),i+m=l.length->TT.lim 37 [.l (l.map ftG),.l (l.map ftG),.i .i64 l.length,.i .i64 i]=some [.i .i64 1]:=by
  intro m
  induction m with
  | zero=>
   intro i hi
   have h:¬ ((i:Int) < l.length):=by omega
   generalize l.map ftG=L at *
   refine tree_lim rfl rfl ?_
   simp [h]
  | succ m ih=>
   intro i hi
   have hlt:i < l.length:=by omega
   have h:((i:Int) < l.length):=by omega
   have hw:=wrap64 (n:=(i:Int)+1) (by omega) (by omega)
   have hcast:((i+1:Nat):Int)=(i:Int)+1:=by omega
   have hget:=getG ftG hlt
   have ih:=ih (i+1) (by omega)
   rw [hcast] at ih
   generalize l[i]=f at *
   obtain ⟨f1,f2,f3,f4,f5,f6⟩:=f
   generalize l.map ftG=L at *
   generalize (l.length:Int)=N at *
   cases f1
   ·have hq:eqGs [2,0,0,0,0,0] [.b false,.i .u8 f2,.i .u8 f3,.i .i64 f4,.i .i64 f5,.i .u8 f6] [.b false,.i .u8 f2,.i .u8 f3,.i .i64 f4,.i .i64 f5,.i .u8 f6]=some true:=by simp [eqGs]
    refine tree_lim rfl rfl ?_
    simp [h,hw,hget,hq,ih]
   ·refine tree_lim rfl rfl ?_
    simp [h,hw,hget,ih]
 have k:=loop l.length 0 (by omega)
 simp only [Int.natCast_zero] at k
 have hll:((l.map ftG).length:Int)=(l.length:Int):=by rw [List.length_map]
 generalize l.map ftG=L at *
 refine fn_lim rfl rfl ?_ rfl
 simp [hll,k]
theorem rsame28 (s:Sc) (hs:ScOk s) (hc:∀c∈s.cm,CmOk c):TT.lim 35 [.g (scL s),.g (scL s)]=some [.b true]:=by
 obtain ⟨m1,m2,m3,m4,th,bk,cm⟩:=s
 obtain ⟨hs1,hs2⟩:=hs
 simp only at hs1 hs2 hc
 have loop:∀ (m i:Nat),i+m=cm.length->TT.lim 38 [.i .i64 cm.length,.i .i64 i,nG m1,nG m2,nG m3,nG m4,.l (th.map ftG),.l (bk.map ftG),.l (cm.map cmG),nG m1,nG m2,nG m3,nG m4,.l (th.map ftG),.l (bk.map ftG),.l (cm.map cmG)]=some [.i .i64 1]:=by
  intro m
  induction m with
  | zero=>
   intro i hi
   have h:¬ ((i:Int) < cm.length):=by omega
   generalize cm.map cmG=L at *
   refine tree_lim rfl rfl ?_
   simp [h]
  | succ m ih=>
   intro i hi
   have hlt:i < cm.length:=by omega
   have h:((i:Int) < cm.length):=by omega
   have hw:=wrap64 (n:=(i:Int)+1) (by omega) (by omega)
   have hcast:((i+1:Nat):Int)=(i:Int)+1:=by omega
   have hget:=getG cmG hlt
   have ih:=ih (i+1) (by omega)
   rw [hcast] at ih
   have kl:=rline_ok cm[i] (hc _ (List.getElem_mem hlt))
   generalize cm[i]=c at *
   generalize lineS c=S at *
   simp only [cmG] at kl
   generalize th.map ftG=T at *
   generalize bk.map ftG=B at *
   generalize cm.map cmG=L at *
   generalize (cm.length:Int)=N at *
   refine tree_lim rfl rfl ?_
   simp [h,hw,hget,kl,ih]
 have k:=loop cm.length 0 (by omega)
 simp only [Int.natCast_zero,nG] at k
 have hll:((cm.map cmG).length:Int)=(cm.length:Int):=by rw [List.length_map]
 have k1:=rfates_refl th (by omega)
 have k2:=rfates_refl bk (by omega)
 simp only [scL,nG]
 generalize th.map ftG=T at *
 generalize bk.map ftG=B at *
 generalize cm.map cmG=L at *
 refine fn_lim rfl rfl ?_ rfl
 simp [hll,k1,k2,k]
theorem fates22 (l:List Ft) (hl:l.length<=70000):TT.lim 32 [.l (l.map ftG)]=some [.l (l.map ftG)]:=by
 have loop:∀ (m i:Nat),i+m=l.length->TT.lim 33 [.l ((l.take i).map ftG),.l (l.map ftG),.i .i64 l.length,.i .i64 i]=some [.i .i64 0,.l (l.map ftG)]:=by
  intro m
  induction m with
  | zero=>
   intro i hi
   have h:¬ ((i:Int) < l.length):=by omega
   rw [List.take_of_length_le (by omega)]
   generalize l.map ftG=L at *
   refine tree_lim rfl rfl ?_
   simp [h]
  | succ m ih=>
   intro i hi
   have hlt:i < l.length:=by omega
   have h:((i:Int) < l.length):=by omega
   have hw:=wrap64 (n:=(i:Int)+1) (by omega) (by omega)
   have hcast:((i+1:Nat):Int)=(i:Int)+1:=by omega
   have hget:=getG ftG hlt
   have ih:=ih (i+1) (by omega)
   have c1:2 * (((l.take i).map ftG).length+1) * 32<=281474976710656/\((l.take i).map ftG).length+1<=281474976710656:=by rw [List.length_map,List.length_take];omega
   rw [hcast,List.take_add_one,List.getElem?_eq_getElem hlt,List.map_append] at ih
   simp only [Option.toList_some,List.map_cons,List.map_nil] at ih
   have hE:=elemF l[i]
   generalize l[i]=f at *
   simp only [ftG] at ih hE
   generalize (l.take i).map ftG=A at *
   generalize l.map ftG=L at *
   generalize (l.length:Int)=N at *
   refine tree_lim rfl rfl ?_
   simp [h,hw,hget,hE,c1,ih]
 have k:=loop l.length 0 (by omega)
 rw [List.take_zero,List.map_nil] at k
 simp only [Int.natCast_zero] at k
 have hll:((l.map ftG).length:Int)=(l.length:Int):=by rw [List.length_map]
 generalize l.map ftG=L at *
 refine fn_lim rfl rfl ?_ rfl
 simp [hll,k]
theorem of28 (s:Sc) (hs:ScOk s):TT.lim 31 [.g (scL s)]=some [.g (scL s)]:=by
 obtain ⟨m1,m2,m3,m4,th,bk,cm⟩:=s
 obtain ⟨hs1,hs2⟩:=hs
 simp only at hs1 hs2
 have loop:∀ (m i:Nat),i+m=cm.length->TT.lim 34 [.l (cm.map cmG),.i .i64 cm.length,.i .i64 i,nG m1,nG m2,nG m3,nG m4,.l (th.map ftG),.l (bk.map ftG),.l ((cm.take i).map cmG)]=some [.i .i64 0,.l (cm.map cmG)]:=by
  intro m
  induction m with
  | zero=>
   intro i hi
   have h:¬ ((i:Int) < cm.length):=by omega
   rw [List.take_of_length_le (by omega)]
   generalize cm.map cmG=L at *
   refine tree_lim rfl rfl ?_
   simp [h]
  | succ m ih=>
   intro i hi
   have hlt:i < cm.length:=by omega
   have h:((i:Int) < cm.length):=by omega
   have hw:=wrap64 (n:=(i:Int)+1) (by omega) (by omega)
   have hcast:((i+1:Nat):Int)=(i:Int)+1:=by omega
   have hget:=getG cmG hlt
   have ih:=ih (i+1) (by omega)
   have c1:2 * (((cm.take i).map cmG).length+1) * 48<=281474976710656/\((cm.take i).map cmG).length+1<=281474976710656:=by rw [List.length_map,List.length_take];omega
   rw [hcast,List.take_add_one,List.getElem?_eq_getElem hlt,List.map_append] at ih
   simp only [Option.toList_some,List.map_cons,List.map_nil] at ih
   have hE:=elemC cm[i]
   generalize cm[i]=f at *
   simp only [cmG] at ih hE
   generalize (cm.take i).map cmG=A at *
   generalize th.map ftG=T at *
   generalize bk.map ftG=B at *
   generalize cm.map cmG=L at *
   generalize (cm.length:Int)=N at *
   refine tree_lim rfl rfl ?_
   simp [h,hw,hget,hE,c1,ih]
 have k:=loop cm.length 0 (by omega)
 rw [List.take_zero,List.map_nil] at k
 simp only [Int.natCast_zero,nG] at k
 have hll:((cm.map cmG).length:Int)=(cm.length:Int):=by rw [List.length_map]
 have k1:=fates22 th (by omega)
 have k2:=fates22 bk (by omega)
 simp only [scL,nG]
 generalize th.map ftG=T at *
 generalize bk.map ftG=B at *
 generalize cm.map cmG=L at *
 refine fn_lim rfl rfl ?_ rfl
 simp [hll,k1,k2,k]
theorem cmOk_mk {ln op en n:Int} {w:List UInt8} (h1:0<=op/\op<=5) (h2 : -9223372036854775808<=en/\en<=9223372036854775807) (h3:0<=n/\n < 18446744073709551616) (h4:w.length<=70000):CmOk ⟨ln,op,en,n,w⟩:=⟨h1,h2,h3,h4⟩
theorem cmd1_cm {op most:Nat} {f:Nat->Cm} {r:List (List UInt8)} (h:(cmd1 op most f r).2=0) (hf:∀n,n<=most->n < 18446744073709551616->CmOk (f n)):CmOk (cmd1 op most f r).1:=by
 unfold cmd1 at *
 split at h
 ·split at h
  ·next h1=>exact absurd h h1
  ·next h1=>simp only [if_neg h1];exact hf _ numE_le (numE_lt _ _)
 ·cases h
theorem addF_cm {r:List (List UInt8)} (h:(addF r).2=0):CmOk (addF r).1:=by
 unfold addF at *
 split at h
 ·next a b c=>
  by_cases h1:(numE a 1).2=0
  rotate_left
  ·rw [if_pos h1] at h;exact absurd h h1
  simp only [if_neg (show ¬ (numE a 1).2≠0 by simpa using h1)] at *
  by_cases h2:64 < b.length
  ·rw [if_pos h2] at h;exact absurd h (by decide)
  simp only [if_neg h2] at *
  by_cases h3:(numE c 18446744073709551615).2=0
  rotate_left
  ·rw [if_pos h3] at h;exact absurd h h3
  simp only [if_neg (show ¬ (numE c 18446744073709551615).2≠0 by simpa using h3)] at *
  have l1:=numE_le (w:=a) (m:=1)
  have l2:=numE_lt c 18446744073709551615
  exact cmOk_mk (by decide) ⟨by omega,by omega⟩ ⟨by omega,by omega⟩ (by omega)
 ·cases h
theorem pubF_cm {r:List (List UInt8)} (h:(pubF r).2=0):CmOk (pubF r).1:=by
 unfold pubF at *
 split at h
 ·next a c=>
  by_cases h1:(numE a 1).2=0
  rotate_left
  ·rw [if_pos h1] at h;exact absurd h h1
  simp only [if_neg (show ¬ (numE a 1).2≠0 by simpa using h1)] at *
  by_cases h3:(numE c 18446744073709551615).2=0
  rotate_left
  ·rw [if_pos h3] at h;exact absurd h h3
  simp only [if_neg (show ¬ (numE c 18446744073709551615).2≠0 by simpa using h3)] at *
  have l1:=numE_le (w:=a) (m:=1)
  have l2:=numE_lt c 18446744073709551615
  exact cmOk_mk (by decide) ⟨by omega,by omega⟩ ⟨by omega,by omega⟩ (by decide)
 ·cases h
theorem cmdF_cm {w:List UInt8} {r:List (List UInt8)} (h:(cmdF w r).2=0):CmOk (cmdF w r).1:=by
 by_cases w1:w=wAdd
 ·subst w1;rw [cmdF_add] at *;exact addF_cm h
 by_cases w2:w=wPub
 ·subst w2;rw [cmdF_pub] at *;exact pubF_cm h
 by_cases w3:w=wPoll
 ·subst w3;rw [cmdF_poll] at *
  exact cmd1_cm h λn h1 h2=>cmOk_mk (by decide) ⟨by omega,by omega⟩ (by decide) (by decide)
 by_cases w4:w=wStep
 ·subst w4;rw [cmdF_step] at *
  exact cmd1_cm h λn h1 h2=>cmOk_mk (by decide) (by decide) ⟨by omega,by omega⟩ (by decide)
 by_cases w5:w=wShow
 ·subst w5;rw [cmdF_show] at *
  exact cmd1_cm h λn h1 h2=>cmOk_mk (by decide) ⟨by omega,by omega⟩ (by decide) (by decide)
 by_cases w6:w=wAll
 ·subst w6;rw [cmdF_all] at *
  split at h
  ·next e=>rw [if_pos e];exact cmOk_mk (by decide) (by decide) (by decide) (by decide)
  ·cases h
 ·rw [cmdF_other r w1 w2 w3 w4 w5 w6] at h;cases h
def CsOk (s:Sc):Prop:=∀c∈s.cm,CmOk c
theorem furF_cs {no:Int} {w:List UInt8} {r:List (List UInt8)} {s:Sc} (h:CsOk s):CsOk (furF no w r s).2:=by
 unfold furF
 split
 ·split
  ·exact h
  ·split<;>exact h
 split
 ·split
  ·exact h
  ·split<;>exact h
 split
 ·exact h
 ·next h1=>
  split
  ·exact h
  ·intro c hc
   rcases List.mem_append.1 hc with hc | hc
   ·exact h c hc
   ·rw [List.mem_singleton.1 hc]
    exact cmdF_cm (w:=w) (r:=r) (by simpa using h1)
theorem stepF_cs {no:Nat} {b:Bool} {s:Sc} {l:List UInt8} (h:CsOk s):CsOk (stepF no b s l).2.2:=by
 cases e:lineF l with
 | nil=>rw [stepF_nil e];exact h
 | cons w r=>
  rw [stepF_cons e]
  split
  ·split
   ·exact h
   ·exact h
  ·exact furF_cs h
theorem runF_ok:∀ {ls:List (List UInt8)} {no:Nat} {b:Bool} {s:Sc},ScOk s->CsOk s->ScOk (runF no b s ls).2.2.2/\CsOk (runF no b s ls).2.2.2
 | [],_,_,_,h,h'=>⟨h,h'⟩
 | l::ls,no,b,s,h,h'=>by
  rw [runF]
  split
  ·exact ⟨h,h'⟩
  ·exact runF_ok (stepF_ok h) (stepF_cs h')
theorem parseF_ok (t:List UInt8):ScOk (parseF t).1/\CsOk (parseF t).1:=by
 have z:ScOk zSc/\CsOk zSc:=⟨⟨by decide,by decide⟩,λc h=>by cases h⟩
 unfold parseF
 split
 ·exact z
 split
 ·exact z
 split
 ·exact z
 ·exact runF_ok z.1 z.2
end Q
end Go.Proofs.YtdpjiaedcmagdaaGreatDoor
