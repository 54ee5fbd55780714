/- slices.Clone of a list of our own: an own list again. -/
import Derived.Test.YtogfeeabnklegaaGreatDoorAbsTold
set_option linter.all false
namespace Go.aP
open Go.RowKit
noncomputable section
variable{P:Program}
section
variable[iI]
def aIh(k et:Nat):fO:=λargs J=>match args with
 |[.iq]=>some (.iq,J)
 |[.sv id n]=>match J.get id with
  |some (.vec a e f)=>
   if Nat.beq a n&&Nat.beq e et then
    match gI (.call k [n] 0)with
    |some m=>some (.sv J.next m,J.new (.vec m et false))
    |none=>none
   else none
  |_=>none
 |_=>none
end
def St.adopt[aJ]{F:Env}{J:aC}{w w':World}(h:SR P F J w)(r:Kept w w')(o:bP)(q:Place)(H:w.heap.size<=q.bl)
 (I:OR P (F.put J.next q) q w' o):St P F J w (F.put J.next q) (J.new o) w':=by
 have c:=Env.IK h q;have i:∀k,k<w.heap.size->w'.heap[k]? =w.heap[k]?:=r.keep;have E:∀b o,F.ro b=some o->b<w.heap.size:=λb o u=>xP (h.jF b o u);refine⟨c,⟨?_,?_,?_,Env.adg h q (Ew _),?_,λb o u=>?_,λid o1 p v L s=>?_,λp d=>(h.tabs p d).mono c⟩,r.size,λbl x _=>i bl x,?_,r.os,r.tape,r.output,rfl,Nat.le_succ _,?_,λ_ h=>.inl h⟩;rotate_right
 ·rintro id (⟨p,d⟩|y)
  ·simp only[Env.put]at d;split at d
   ·next e=>subst e;exact .inr ⟨Nat.le_refl _,Ew _⟩
   ·exact .inl (.inl ⟨p,d⟩)
  ·exact .inl (.inr y)
 ·intro g y;obtain⟨M,es,a⟩:=h.oO g y;exact⟨M,es,c.pl _ _ a⟩
 ·intro id p d;simp only[Env.put]at d;show id<J.next+1
  split at d
  ·omega
  ·have:=h.dom id p d;omega
 ·intro id N f;rw[aC.rD]at f;split at f
  ·next e=>cases f;subst e;exact .inl ⟨q,by simp[Env.put],I⟩
  ·exact((h.live id N f).heap (w:=w) (λp _ O=>i _ O.lt)).mono c
 ·intro id o1 z G p Q a A n j l m;rw[aC.rD]at a n;simp only[Env.put]at l m;split at a<;>split at n
  ·omega
  ·next e t=>
   rw[au e]at l;rw[aj t]at m;cases l;have:=(h.at n m).lt;omega
  ·next e t=>
   rw[aj e]at l;rw[au t]at m;cases m;have:=(h.at a l).lt;omega
  ·next e t=>
   rw[aj e]at l;rw[aj t]at m;exact h.sep id o1 z G p Q a A n j l m
 ·exact(i b (E b o u)).trans (h.jF b o u)
 ·rw[aC.rD]at v;simp only[Env.put]at s⊢;split at v
  ·next e=>
   rw[au e]at s;cases s;cases D:F.ro q.bl with
   |none=>rfl
   |some G=>have:=E _ _ D;omega
  ·next e=>rw[aj e]at s;exact h.ng id o1 p v L s
 ·intro id o1 p a A n j;rw[aC.rD]at a;simp only[Env.put]at j;split at a
  ·next e=>rw[au e]at j;cases j;left;exact H
  ·next e=>rw[aj e]at j;exact .inr ⟨id,o1,p,a,A,n,j,rfl⟩
def J5(bytes:Nat):Q1->Option Q1
 |[.i .i64 n]=>if 0<=n/\n.toNat*bytes<=140737488355328/\n<=4611686018427387904 then some [.l []]else none
 |_=>none
section
variable[iI]
def XI(k et:Nat):fO:=λargs J=>match args with
 |[.iq,a]=>match jD a with
  |some n=>match gI (.call k [n] 0)with
   |some m=>some (.sv J.next m,J.new (.vec m et false))
   |none=>none
  |none=>none
 |_=>none
end
def avk{bytes:Nat}{g:GV}{a:Q1}(h:J5 bytes [g]=some a):∃n:Nat,g=.i .i64 (n:Int)/\n*bytes<=140737488355328/\n<=4611686018427387904/\a=[.l []]:=by
 unfold J5 at h;split at h;rotate_left
 ·cases h
 next n e=>
 injection e with e _
 subst e;split at h;rotate_left
 ·cases h
 next c=>
 injection h with h
 refine⟨n.toNat,by rw[Jd c.1],c.2.1,ah,h.symm⟩
def ayZ{T:aJ}{f size bytes k:Nat}{e:TypeId}(h0:0<size)(W:sizeT P e=some size)(X:e≠0)
 (t:∀(n:Nat)(w:World),0<n->n*bytes<=140737488355328->n<=4611686018427387904->
  Calls P f #[.slice none 0 0,.int .i64 n] w λv w'=>∃H,v=.returned H/\w'.ownsRow w.heap.size e size H 0 []/\Kept w w')
 (nil:∀w,Calls P f #[.slice none 0 0,.int .i64 ((0:Nat):Int)] w λv w'=>v=.returned (.slice none 0 0)/\w'=w)
 (b:∀args w,(callFunc f args).run P w=.ok (.enter f args) w) (Y:∀gs q,T.I k gs=some q->J5 bytes gs=some q):@fJ T P f (@XI T.toiI k e):=by
 letI:=T
 intro args J r J' i F w vs R Z;unfold XI at i;split at i;rotate_left
 ·cases i
 next a=>
 split at i;rotate_left
 ·cases i
 next nn I=>
 split at i;rotate_left
 ·cases i
 next m hm=>
 cases i;obtain⟨x,aa,rfl,E,z⟩:=Z;simp only[aG]at z;obtain⟨y,ab,rfl,L,M⟩:=z;subst M;simp only[VR]at E;subst E;obtain⟨gn,n1,n2,S⟩:=nV I L;obtain⟨gm,G,A⟩:=iG hm;simp only[Nd.den,valsOf,n1]at A;split at A;rotate_left
 ·cases A
 next q D=>
 obtain⟨n,rfl,b1,b2,rfl⟩:=avk (Y _ _ D);simp only[l9,bF]at A;subst A;simp only[GR]at S;subst S;have ghost:∀w',Kept w w'->∃s,St P F J w s (J.new (.vec m e false)) w'/\VR s (.sv J.next m) (.slice none 0 0):=by intro w' l;have U:=St.ace R l;have s2:=U.trans (St.ghost (m:=m) (et:=e) (f:=false) U.rel G rfl rfl (λ_ _ h=>h));refine⟨_,s2,?_⟩;simp only[VR];exact⟨[],G,.inr (by simp[Env.ghost])⟩
 by_cases V:n=0
 ·subst V;refine .inr ⟨b _ w,Calls.mono' (nil w) ?_⟩;rintro v w' ⟨rfl,hw⟩
  obtain⟨s,N,g2⟩:=ghost w (Kept.refl w);rw[hw];exact⟨_,rfl,s,N,g2⟩
 refine .inr ⟨b _ w,Calls.mono' (t n w ah b1 b2) ?_⟩;rintro v w' ⟨H,rfl,c,l⟩
 obtain⟨_,c⟩:=c;rcases c with⟨rfl,V⟩|⟨g,d,O,rfl,hg,hb,o,_,ac,Q⟩
 ·obtain⟨s,N,g2⟩:=ghost w' l;exact⟨_,rfl,s,N,g2⟩
 ·have p:d*size/size=d:=Zq _ h0;refine⟨_,rfl,F.put J.next ⟨g,0,d*size,size⟩,St.adopt R l _ ⟨g,0,d*size,size⟩ hg ?_,?_⟩
  ·refine⟨[],O,e,(0,0),[],G,hb,by simp only[aU],λy L=>(by cases L),?_,wC _ o,?_,λx E=>(by cases E),λh=>by cases h⟩
   ·intro j u hj;simp[eP]at hj
   ·exact {fits:=(by simp;omega),le:=aA,shut:=(λh=>by cases h),cell:=(λkk a l=>by simp at l),free:=(λ_ kk _ l=>by simp at l),whole:=(λ_=>⟨rfl,by simp;omega,λh=>by cases h⟩),room:=(λ_=>⟨X,h0,W⟩)}
  ·simp only[VR];exact⟨[],G,.inl ⟨⟨g,0,d*size,size⟩,by simp[Env.put],by simp only[p];exact o,by simp only[p];rfl⟩⟩
