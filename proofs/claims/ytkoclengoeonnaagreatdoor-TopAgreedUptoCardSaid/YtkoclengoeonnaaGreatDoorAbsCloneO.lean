/- slices.Clone of a list of our own: an own list again. -/
import Derived.Test.YtkoclengoeonnaaGreatDoorAbsTold
set_option linter.all false
namespace Go.aP
open Go.RowKit
noncomputable section
variable{P:Program}
section
variable[gQ]
def aEB(k et:Nat):dM:=λargs J=>match args with
 |[.gy]=>some (.gy,J)
 |[.sv id n]=>match J.get id with
  |some (.vec a e f)=>
   if Nat.beq a n&&Nat.beq e et then
    match fK (.call k [n] 0)with
    |some m=>some (.sv J.next m,J.new (.vec m et false))
    |none=>none
   else none
  |_=>none
 |_=>none
end
def St.adopt[aJ]{F:Env}{J:aC}{w w':World}(h:SR P F J w)(r:Kept w w')(o:bG)(q:Place)(G:w.heap.size<=q.bl)
 (H:OR P (F.put J.next q) q w' o):St P F J w (F.put J.next q) (J.new o) w':=by
 have c:=Env.Gv h q;have i:∀k,k<w.heap.size->w'.heap[k]? =w.heap[k]?:=r.keep;have D:∀b o,F.ro b=some o->b<w.heap.size:=λb o u=>vN (h.jc b o u);refine⟨c,⟨?_,?_,?_,Env.abx h q (Dp _),?_,λb o u=>?_,λid o1 p v I s=>?_,λp d=>(h.tabs p d).mono c⟩,r.size,λbl x _=>i bl x,?_,r.os,r.tape,r.output,rfl,Nat.le_succ _,?_,λ_ h=>.inl h⟩;rotate_right
 ·rintro id (⟨p,d⟩|y)
  ·simp only[Env.put]at d;split at d
   ·next e=>subst e;exact .inr ⟨Nat.le_refl _,Dp _⟩
   ·exact .inl (.inl ⟨p,d⟩)
  ·exact .inl (.inr y)
 ·intro g y;obtain⟨L,es,a⟩:=h.mJ g y;exact⟨L,es,c.pl _ _ a⟩
 ·intro id p d;simp only[Env.put]at d;show id<J.next+1
  split at d
  ·omega
  ·have:=h.dom id p d;omega
 ·intro id M f;rw[aC.pF]at f;split at f
  ·next e=>cases f;subst e;exact .inl ⟨q,by simp[Env.put],H⟩
  ·exact((h.live id M f).heap (w:=w) (λp _ N=>i _ N.lt)).mono c
 ·intro id o1 z E p O a A n j l m;rw[aC.pF]at a n;simp only[Env.put]at l m;split at a<;>split at n
  ·omega
  ·next e t=>
   rw[au e]at l;rw[aj t]at m;cases l;have:=(h.at n m).lt;omega
  ·next e t=>
   rw[aj e]at l;rw[au t]at m;cases m;have:=(h.at a l).lt;omega
  ·next e t=>
   rw[aj e]at l;rw[aj t]at m;exact h.sep id o1 z E p O a A n j l m
 ·exact(i b (D b o u)).trans (h.jc b o u)
 ·rw[aC.pF]at v;simp only[Env.put]at s⊢;split at v
  ·next e=>
   rw[au e]at s;cases s;cases B:F.ro q.bl with
   |none=>rfl
   |some E=>have:=D _ _ B;omega
  ·next e=>rw[aj e]at s;exact h.lq id o1 p v I s
 ·intro id o1 p a A n j;rw[aC.pF]at a;simp only[Env.put]at j;split at a
  ·next e=>rw[au e]at j;cases j;left;exact G
  ·next e=>rw[aj e]at j;exact .inr ⟨id,o1,p,a,A,n,j,rfl⟩
def IE(bytes:Nat):Q1->Option Q1
 |[.i .i64 n]=>if 0<=n/\n.toNat*bytes<=140737488355328/\n<=4611686018427387904 then some [.l []]else none
 |_=>none
section
variable[gQ]
def VE(k et:Nat):dM:=λargs J=>match args with
 |[.gy,a]=>match iY a with
  |some n=>match fK (.call k [n] 0)with
   |some m=>some (.sv J.next m,J.new (.vec m et false))
   |none=>none
  |none=>none
 |_=>none
end
def arS{bytes:Nat}{g:GV}{a:Q1}(h:IE bytes [g]=some a):∃n:Nat,g=.i .i64 (n:Int)/\n*bytes<=140737488355328/\n<=4611686018427387904/\a=[.l []]:=by
 unfold IE at h;split at h;rotate_left
 ·cases h
 next n e=>
 injection e with e _
 subst e;split at h;rotate_left
 ·cases h
 next c=>
 injection h with h
 refine⟨n.toNat,by rw[Dj c.1],c.2.1,ah,h.symm⟩
def avI{T:aJ}{f size bytes k:Nat}{e:TypeId}(h0:0<size)(X:sizeT P e=some size)(Y:e≠0)
 (t:∀(n:Nat)(w:World),0<n->n*bytes<=140737488355328->n<=4611686018427387904->
  Calls P f #[.slice none 0 0,.int .i64 n] w λv w'=>∃G,v=.returned G/\w'.ownsRow w.heap.size e size G 0 []/\Kept w w')
 (nil:∀w,Calls P f #[.slice none 0 0,.int .i64 ((0:Nat):Int)] w λv w'=>v=.returned (.slice none 0 0)/\w'=w)
 (b:∀args w,(callFunc f args).run P w=.ok (.enter f args) w) (Z:∀gs q,T.I k gs=some q->IE bytes gs=some q):@dK T P f (@VE T.togQ k e):=by
 letI:=T
 intro args J r J' i F w vs S hv;unfold VE at i;split at i;rotate_left
 ·cases i
 next a=>
 split at i;rotate_left
 ·cases i
 next nn H=>
 split at i;rotate_left
 ·cases i
 next m hm=>
 cases i;obtain⟨x,aa,rfl,D,z⟩:=hv;simp only[aG]at z;obtain⟨y,ab,rfl,I,L⟩:=z;subst L;simp only[VR]at D;subst D;obtain⟨gn,n1,n2,U⟩:=lN H I;obtain⟨gm,E,A⟩:=gK hm;simp only[Nd.den,valsOf,n1]at A;split at A;rotate_left
 ·cases A
 next q B=>
 obtain⟨n,rfl,b1,b2,rfl⟩:=arS (Z _ _ B);simp only[kP,aY]at A;subst A;simp only[GR]at U;subst U;have ghost:∀w',Kept w w'->∃s,St P F J w s (J.new (.vec m e false)) w'/\VR s (.sv J.next m) (.slice none 0 0):=by intro w' l;have V:=St.aau S l;have s2:=V.trans (St.ghost (m:=m) (et:=e) (f:=false) V.rel E rfl rfl (λ_ _ h=>h));refine⟨_,s2,?_⟩;simp only[VR];exact⟨[],E,.inr (by simp[Env.ghost])⟩
 by_cases W:n=0
 ·subst W;refine .inr ⟨b _ w,Calls.mono' (nil w) ?_⟩;rintro v w' ⟨rfl,hw⟩
  obtain⟨s,M,N⟩:=ghost w (Kept.refl w);rw[hw];exact⟨_,rfl,s,M,N⟩
 refine .inr ⟨b _ w,Calls.mono' (t n w ah b1 b2) ?_⟩;rintro v w' ⟨G,rfl,c,l⟩
 obtain⟨_,c⟩:=c;rcases c with⟨rfl,W⟩|⟨g,d,O,rfl,hg,hb,o,_,ac,R⟩
 ·obtain⟨s,M,N⟩:=ghost w' l;exact⟨_,rfl,s,M,N⟩
 ·have p:d*size/size=d:=XG _ h0;refine⟨_,rfl,F.put J.next ⟨g,0,d*size,size⟩,St.adopt S l _ ⟨g,0,d*size,size⟩ hg ?_,?_⟩
  ·refine⟨[],O,e,(0,0),[],E,hb,by simp only[aS],λy I=>(by cases I),?_,uj _ o,?_,λx D=>(by cases D),λh=>by cases h⟩
   ·intro j u hj;simp[dN]at hj
   ·exact {fits:=(by simp;omega),le:=aA,shut:=(λh=>by cases h),cell:=(λkk a l=>by simp at l),free:=(λ_ kk _ l=>by simp at l),whole:=(λ_=>⟨rfl,by simp;omega,λh=>by cases h⟩),room:=(λ_=>⟨Y,h0,X⟩)}
  ·simp only[VR];exact⟨[],E,.inl ⟨⟨g,0,d*size,size⟩,by simp[Env.put],by simp only[p];exact o,by simp only[p];rfl⟩⟩
