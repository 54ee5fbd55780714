/- slices.Clone of a list of our own: an own list again. -/
import Derived.Test.YtboioicpmmipfaaGreatDoorAbsTold
set_option linter.all false
namespace Go.aP
open Go.RowKit
noncomputable section
variable{P:Program}
section
variable[iM]
def aJh(k et:Nat):eU:=λargs F=>match args with
 |[.iw]=>some (.iw,F)
 |[.sv id n]=>match F.get id with
  |some (.vec a e f)=>
   if Nat.beq a n&&Nat.beq e et then
    match gB (.call k [n] 0)with
    |some m=>some (.sv F.next m,F.new (.vec m et false))
    |none=>none
   else none
  |_=>none
 |_=>none
end
def St.adopt[aJ]{H:Env}{F:aC}{w w':World}(h:SR P H F w)(r:Kept w w')(o:bP)(q:Place)(G:w.heap.size<=q.bl)
 (I:OR P (H.put F.next q) q w' o):St P H F w (H.put F.next q) (F.new o) w':=by
 have c:=Env.IK h q;have i:∀k,k<w.heap.size->w'.heap[k]? =w.heap[k]?:=r.keep;have D:∀b o,H.ro b=some o->b<w.heap.size:=λb o u=>xP (h.jH b o u);refine⟨c,⟨?_,?_,?_,Env.adq h q (Eu _),?_,λb o u=>?_,λid o1 p v L s=>?_,λp d=>(h.tabs p d).mono c⟩,r.size,λbl x _=>i bl x,?_,r.os,r.tape,r.output,rfl,Nat.le_succ _,?_,λ_ h=>.inl h⟩;rotate_right
 ·rintro id (⟨p,d⟩|y)
  ·simp only[Env.put]at d;split at d
   ·next e=>subst e;exact .inr ⟨Nat.le_refl _,Eu _⟩
   ·exact .inl (.inl ⟨p,d⟩)
  ·exact .inl (.inr y)
 ·intro g y;obtain⟨M,es,a⟩:=h.oN g y;exact⟨M,es,c.pl _ _ a⟩
 ·intro id p d;simp only[Env.put]at d;show id<F.next+1
  split at d
  ·omega
  ·have:=h.dom id p d;omega
 ·intro id N f;rw[aC.rD]at f;split at f
  ·next e=>cases f;subst e;exact .inl ⟨q,by simp[Env.put],I⟩
  ·exact((h.live id N f).heap (w:=w) (λp _ O=>i _ O.lt)).mono c
 ·intro id o1 z E p Q a A n j l m;rw[aC.rD]at a n;simp only[Env.put]at l m;split at a<;>split at n
  ·omega
  ·next e t=>
   rw[au e]at l;rw[aj t]at m;cases l;have:=(h.at n m).lt;omega
  ·next e t=>
   rw[aj e]at l;rw[au t]at m;cases m;have:=(h.at a l).lt;omega
  ·next e t=>
   rw[aj e]at l;rw[aj t]at m;exact h.sep id o1 z E p Q a A n j l m
 ·exact(i b (D b o u)).trans (h.jH b o u)
 ·rw[aC.rD]at v;simp only[Env.put]at s⊢;split at v
  ·next e=>
   rw[au e]at s;cases s;cases B:H.ro q.bl with
   |none=>rfl
   |some E=>have:=D _ _ B;omega
  ·next e=>rw[aj e]at s;exact h.ny id o1 p v L s
 ·intro id o1 p a A n j;rw[aC.rD]at a;simp only[Env.put]at j;split at a
  ·next e=>rw[au e]at j;cases j;left;exact G
  ·next e=>rw[aj e]at j;exact .inr ⟨id,o1,p,a,A,n,j,rfl⟩
def J3(bytes:Nat):Q1->Option Q1
 |[.i .i64 n]=>if 0<=n/\n.toNat*bytes<=140737488355328/\n<=4611686018427387904 then some [.l []]else none
 |_=>none
section
variable[iM]
def XJ(k et:Nat):eU:=λargs F=>match args with
 |[.iw,a]=>match jE a with
  |some n=>match gB (.call k [n] 0)with
   |some m=>some (.sv F.next m,F.new (.vec m et false))
   |none=>none
  |none=>none
 |_=>none
end
def avY{bytes:Nat}{g:GV}{a:Q1}(h:J3 bytes [g]=some a):∃n:Nat,g=.i .i64 (n:Int)/\n*bytes<=140737488355328/\n<=4611686018427387904/\a=[.l []]:=by
 unfold J3 at h;split at h;rotate_left
 ·cases h
 next n e=>
 injection e with e _
 subst e;split at h;rotate_left
 ·cases h
 next c=>
 injection h with h
 refine⟨n.toNat,by rw[Jf c.1],c.2.1,ah,h.symm⟩
def azH{T:aJ}{f size bytes k:Nat}{e:TypeId}(h0:0<size)(X:sizeT P e=some size)(Y:e≠0)
 (t:∀(n:Nat)(w:World),0<n->n*bytes<=140737488355328->n<=4611686018427387904->
  Calls P f #[.slice none 0 0,.int .i64 n] w λv w'=>∃G,v=.returned G/\w'.ownsRow w.heap.size e size G 0 []/\Kept w w')
 (nil:∀w,Calls P f #[.slice none 0 0,.int .i64 ((0:Nat):Int)] w λv w'=>v=.returned (.slice none 0 0)/\w'=w)
 (b:∀args w,(callFunc f args).run P w=.ok (.enter f args) w) (Z:∀gs q,T.I k gs=some q->J3 bytes gs=some q):@eG T P f (@XJ T.toiM k e):=by
 letI:=T
 intro args F r F' i H w vs S hv;unfold XJ at i;split at i;rotate_left
 ·cases i
 next a=>
 split at i;rotate_left
 ·cases i
 next nn I=>
 split at i;rotate_left
 ·cases i
 next m hm=>
 cases i;obtain⟨x,aa,rfl,D,z⟩:=hv;simp only[aG]at z;obtain⟨y,ab,rfl,L,M⟩:=z;subst M;simp only[VR]at D;subst D;obtain⟨gn,n1,n2,U⟩:=nV I L;obtain⟨gm,E,A⟩:=iJ hm;simp only[Nd.den,valsOf,n1]at A;split at A;rotate_left
 ·cases A
 next q B=>
 obtain⟨n,rfl,b1,b2,rfl⟩:=avY (Z _ _ B);simp only[mD,bD]at A;subst A;simp only[GR]at U;subst U;have ghost:∀w',Kept w w'->∃s,St P H F w s (F.new (.vec m e false)) w'/\VR s (.sv F.next m) (.slice none 0 0):=by intro w' l;have V:=St.acg S l;have s2:=V.trans (St.ghost (m:=m) (et:=e) (f:=false) V.rel E rfl rfl (λ_ _ h=>h));refine⟨_,s2,?_⟩;simp only[VR];exact⟨[],E,.inr (by simp[Env.ghost])⟩
 by_cases W:n=0
 ·subst W;refine .inr ⟨b _ w,Calls.mono' (nil w) ?_⟩;rintro v w' ⟨rfl,hw⟩
  obtain⟨s,N,O⟩:=ghost w (Kept.refl w);rw[hw];exact⟨_,rfl,s,N,O⟩
 refine .inr ⟨b _ w,Calls.mono' (t n w ah b1 b2) ?_⟩;rintro v w' ⟨G,rfl,c,l⟩
 obtain⟨_,c⟩:=c;rcases c with⟨rfl,W⟩|⟨g,d,Q,rfl,hg,hb,o,_,ac,R⟩
 ·obtain⟨s,N,O⟩:=ghost w' l;exact⟨_,rfl,s,N,O⟩
 ·have p:d*size/size=d:=Zm _ h0;refine⟨_,rfl,H.put F.next ⟨g,0,d*size,size⟩,St.adopt S l _ ⟨g,0,d*size,size⟩ hg ?_,?_⟩
  ·refine⟨[],Q,e,(0,0),[],E,hb,by simp only[aV],λy L=>(by cases L),?_,wC _ o,?_,λx D=>(by cases D),λh=>by cases h⟩
   ·intro j u hj;simp[eX]at hj
   ·exact {fits:=(by simp;omega),le:=aA,shut:=(λh=>by cases h),cell:=(λkk a l=>by simp at l),free:=(λ_ kk _ l=>by simp at l),whole:=(λ_=>⟨rfl,by simp;omega,λh=>by cases h⟩),room:=(λ_=>⟨Y,h0,X⟩)}
  ·simp only[VR];exact⟨[],E,.inl ⟨⟨g,0,d*size,size⟩,by simp[Env.put],by simp only[p];exact o,by simp only[p];rfl⟩⟩
