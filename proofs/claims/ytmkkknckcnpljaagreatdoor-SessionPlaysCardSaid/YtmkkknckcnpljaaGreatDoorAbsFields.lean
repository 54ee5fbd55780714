/- Fields that hold fields: what slices of them tell, cell by cell; a write of what tells the same changes nothing. (For field.Clone.) -/
import Derived.Test.YtmkkknckcnpljaaGreatDoorAbsTold
import Derived.Laws.OwnMore
set_option linter.all false
namespace Go.aO
open Go.RowKit
noncomputable section
inductive Ft where
 |mk (cs:Q6) (l:List Ft)
abbrev Wb:=List Ft
mutual
def cntF:Ft->Nat
 |.mk _ l=>1+oq l
def oq:Wb->Nat
 |[]=>0
 |f::fs=>cntF f+oq fs
end
def U0:Value->Bool
 |.slice ..=>false
 |v=>v.oneCell'
def E5:GV->Option Value
 |.b x=>some (.bool x)
 |.i k n=>some (.int k n)
 |.s x=>some (.string ⟨⟨x⟩⟩)
 |_=>none
mutual
def DJ:Ft->GV->Prop
 |.mk cs l,x=>∃a b c d f,x=.g [a,b,c,d,.l f]/\[E5 a,E5 b,E5 c,E5 d]=cs.map some/\pU l f
def pU:Wb->List GV->Prop
 |[],xs=>xs=[]
 |f::fs,xs=>∃x r,xs=x::r/\DJ f x/\pU fs r
end
mutual
def FS(w:World)(p:Nat->Prop):Wb->Value->Prop
 |[],v=>∃a c,v=.slice a 0 c/\((∃bl off,a=some ⟨bl,off,none⟩)\/c=0)
 |f::fs,v=>∃bl off c,v=.slice (some ⟨bl,off,none⟩) (fs.length+1) c/\fs.length+1<=c/\p bl/\FC w p bl off f/\fM w p bl (off+5) fs
def FC(w:World)(p:Nat->Prop)(bl off:Nat):Ft->Prop
 |.mk cs l=>cs.length=4/\(∀j x,cs[j]? =some x->U0 x=true/\w.cell? ⟨bl,off+j,none⟩=some x)/\∃v,w.cell? ⟨bl,off+4,none⟩=some v/\FS w p l v
def fM(w:World)(p:Nat->Prop)(bl off:Nat):Wb->Prop
 |[]=>True
 |f::fs=>FC w p bl off f/\fM w p bl (off+5) fs
end
mutual
def FS.fn{w:World}{p x:Nat->Prop}:∀(a b:Wb){v:Value},FS w p a v->FS w x b v->a=b
 |[],[],_,_,_=>rfl
 |[],f::fs,v,h,d=>by
  simp only[FS]at h d;obtain⟨a,c,rfl,_⟩:=h;obtain⟨o,j,q,e,-⟩:=d;injection e with k r t
  omega
 |f::fs,[],v,h,d=>by
  simp only[FS]at h d;obtain⟨o,j,q,rfl,-⟩:=h;obtain⟨a,c,e,_⟩:=d;injection e with k r t
  omega
 |f::fs,g::y,v,h,d=>by
  simp only[FS]at h d;obtain⟨o,j,c,rfl,-,-,z,A⟩:=h;obtain⟨E,u,q,e,-,-,m,n⟩:=d;injection e with k r t
  injection k with k
  injection k with B D
  subst B D;rw[FC.fn f g z m,fM.fn fs y (by omega) A n]
def FC.fn{w:World}{p k:Nat->Prop}{bl off:Nat}:∀(a b:Ft),FC w p bl off a->FC w k bl off b->a=b
 |.mk cs l,.mk c m,h,f=>by
  simp only[FC]at h f;obtain⟨z,n,v,o,q⟩:=h;obtain⟨A,r,v',d,t⟩:=f;rw[o]at d;injection d with d
  subst d;have u:cs=c:=by
   apply J4;intro j;rcases vP j 4 with x|x
   ·have y:=(n j cs[j] (bP (by omega))).2;have g:=(r j c[j] (bP (by omega))).2;rw[bP (by omega),bP (by omega)];rw[y]at g;exact g
   ·rw[sZ (by omega),sZ (by omega)]
  rw[u,FS.fn l m q t]
def fM.fn{w:World}{p d:Nat->Prop}{bl:Nat}:∀{off:Nat}(a b:Wb),a.length=b.length->fM w p bl off a->fM w d bl off b->a=b
 |_,[],[],_,_,_=>rfl
 |_,[],_::_,e,_,_=>by simp at e
 |_,_::_,[],e,_,_=>by simp at e
 |_,f::fs,g::gs,e,h,c=>by simp only[fM]at h c;rw[FC.fn f g h.1 c.1,fM.fn fs gs (by simpa using e) h.2 c.2]
end
structure uK(w w':World)(p p':Nat->Prop):Prop where
 sub:∀b,p b->p' b
 cell:∀b o x,p b->w.cell? ⟨b,o,none⟩=some x->w'.cell? ⟨b,o,none⟩=some x
mutual
def FS.sub{w w':World}{p g:Nat->Prop}(h:uK w w' p g):∀(a:Wb){v:Value},FS w p a v->FS w' g a v
 |[],v,b=>by simpa only[FS]using b
 |f::fs,v,b=>by simp only[FS]at b⊢;obtain⟨bl,off,c,e,j,d,h1,k⟩:=b;exact⟨bl,off,c,e,j,h.sub _ d,FC.sub h d f h1,fM.sub h d fs k⟩
def FC.sub{w w':World}{p b:Nat->Prop}(h:uK w w' p b){bl off:Nat}(c:p bl):∀(a:Ft),FC w p bl off a->FC w' b bl off a
 |.mk cs l,d=>by simp only[FC]at d⊢;obtain⟨g,f,v,k,m⟩:=d;exact⟨g,λj x e=>⟨(f j x e).1,h.cell _ _ _ c (f j x e).2⟩,v,h.cell _ _ _ c k,FS.sub h l m⟩
def fM.sub{w w':World}{p c:Nat->Prop}(h:uK w w' p c){bl:Nat}(d:p bl):∀{off:Nat}(a:Wb),fM w p bl off a->fM w' c bl off a
 |_,[],_=>by simp only[fM]
 |_,f::fs,b=>by simp only[fM]at b⊢;exact⟨FC.sub h d f b.1,fM.sub h d fs b.2⟩
end
structure NK(w w':World)(p:Nat->Prop)(B O:Nat)(g:Wb):Prop where
 old:∃v,w.cell? ⟨B,O,none⟩=some v/\FS w p g v
 new:∃v,w'.cell? ⟨B,O,none⟩=some v/\FS w p g v
 rest:∀b o x,¬(b=B/\o=O)->w.cell? ⟨b,o,none⟩=some x->w'.cell? ⟨b,o,none⟩=some x
def FS.Zp{w:World}{p:Nat->Prop}{a:Wb}{v:Value}(h:FS w p a v):∃x n c,v=.slice x n c:=by
 cases a with
 |nil=>simp only[FS]at h;obtain⟨_,_,rfl,_⟩:=h;exact⟨_,_,_,rfl⟩
 |cons f b=>simp only[FS]at h;obtain⟨_,_,_,rfl,-⟩:=h;exact⟨_,_,_,rfl⟩
def FS.axx{w w':World}{p:Nat->Prop}{B O:Nat}{g l:Wb}(h:NK w w' p B O g){b o:Nat}{v:Value}(a:w.cell? ⟨b,o,none⟩=some v)(c:FS w p l v)
 : ∃z,w'.cell? ⟨b,o,none⟩=some z/\FS w p l z:=by
 by_cases q:b=B/\o=O
 ·obtain⟨u,f,j⟩:=h.old;obtain⟨z,k,d⟩:=h.new;rw[q.1,q.2,f]at a;injection a with a
  subst a;have e:g=l:=FS.fn g l j c;rw[e]at d;exact⟨z,by rw[q.1,q.2];exact k,d⟩
 ·exact⟨v,h.rest _ _ _ q a,c⟩
mutual
def FS.put{w w':World}{p:Nat->Prop}{B O:Nat}{g:Wb}(h:NK w w' p B O g):∀(a:Wb){v:Value},FS w p a v->FS w' p a v
 |[],v,b=>by simpa only[FS]using b
 |f::fs,v,b=>by simp only[FS]at b⊢;obtain⟨bl,off,c,e,d,j,h1,k⟩:=b;exact⟨bl,off,c,e,d,j,FC.put h f h1,fM.put h fs k⟩
def FC.put{w w':World}{p:Nat->Prop}{B O:Nat}{g:Wb}(h:NK w w' p B O g){bl off:Nat}:∀(a:Ft),FC w p bl off a->FC w' p bl off a
 |.mk cs l,d=>by
  simp only[FC]at d⊢;obtain⟨f,b,v,k,m⟩:=d;obtain⟨z,n,o⟩:=FS.axx h k m;refine⟨f,λj x e=>⟨(b j x e).1,h.rest _ _ _ (λq=>?_) (b j x e).2⟩,z,n,FS.put h l o⟩;obtain⟨u,r,t⟩:=h.old;have c:=(b j x e).2;rw[q.1,q.2,r]at c;injection c with c
  have y:=(b j x e).1;obtain⟨_,_,_,rfl⟩:=t.Zp;subst c;simp[U0]at y
def fM.put{w w':World}{p:Nat->Prop}{B O:Nat}{g:Wb}(h:NK w w' p B O g){bl:Nat}:∀{off:Nat}(a:Wb),fM w p bl off a->fM w' p bl off a
 |_,[],_=>by simp only[fM]
 |_,f::fs,b=>by simp only[fM]at b⊢;exact⟨FC.put h f b.1,fM.put h fs b.2⟩
end
def fM.at{w:World}{p:Nat->Prop}{bl:Nat}:∀{off:Nat}{fs:Wb}{i:Nat}{f:Ft},fM w p bl off fs->fs[i]? =some f->FC w p bl (off+i*5) f
 |off,[],i,f,h,hi=>by simp at hi
 |off,g::fs,0,f,h,hi=>by simp only[fM]at h;simp only[kW,aZ]at hi;subst hi;simpa using h.1
 |off,g::fs,i+1,f,h,hi=>by simp only[fM]at h;simp only[uH]at hi;have:=fM.at h.2 hi;rw[show off+(i+1)*5=off+5+i*5 by omega];exact this
def fM.src{w:World}{p:Nat->Prop}{bl:Nat}:∀{off:Nat}(fs:Wb),fM w p bl off fs->∃b:Q6,b.length=fs.length*5/\(∀j u,b[j]? =some u->w.cell? ⟨bl,off+j,none⟩=some u)/\(∀u∈b,u.oneCell'=true)/\
 (∀w' g m a,uK w w' p g->(∀j u,b[j]? =some u->w'.cell? ⟨m,a+j,none⟩=some u)->fM w' g m a fs)
 |_,[],_=>⟨[],rfl,by simp,by simp,λ_ _ _ _ _ _=>by simp only[fM]⟩
 |off,.mk cs l::fs,h=>by
  simp only[fM,FC]at h;obtain⟨⟨d,n,v,A,y⟩,B⟩:=h;obtain⟨r,r1,r2,r3,D⟩:=fM.src fs B;refine⟨cs++v::r,by simp[d,r1];omega,λj u c=>?_,λu hu=>?_,λw' g m a z o=>?_⟩
  ·rcases vP j 4 with f|q
   ·rw[ny (by omega)]at c;exact(n j u c).2
   ·rw[vK (by omega),d]at c;rcases Nat.eq_or_lt_of_le q with e|E
    ·subst e;simp only[AL,kW,aZ]at c;subst c;exact A
    ·obtain⟨k,rfl⟩:∃k,j=k+5:=⟨j-5,by omega⟩
     rw[show k+5-4=k+1 by omega,uH]at c;have:=r2 k u c;rw[show off+(k+5)=off+5+k by omega];exact this
  ·rcases iW.1 hu with hu|hu
   ·obtain⟨j,c⟩:=Nw hu;have:=(n j u c).1;unfold U0 at this;split at this
    ·cases this
    ·exact this
   ·rcases bD.1 hu with rfl|hu
    ·obtain⟨_,_,_,rfl⟩:=y.Zp;rfl
    ·exact r3 u hu
  ·simp only[fM,FC];refine⟨⟨d,λj x t=>⟨(n j x t).1,?_⟩,v,?_,FS.sub z l y⟩,?_⟩
   ·have f:j<cs.length:=(fB.1 t).1;exact o j x (by rw[ny f];exact t)
   ·exact o 4 v (by rw[vK (by omega),d];rfl)
   ·refine D w' g m (a+5) z λj u c=>?_;have:=o (j+5) u (by rw[vK (by omega),d,show j+5-4=j+1 by omega,uH];exact c);rw[show a+5+j=a+(j+5) by omega];exact this
def FS.len{w:World}{p:Nat->Prop}{l:Wb}{v:Value}(h:FS w p l v):∃a c,v=.slice a l.length c:=by
 cases l with
 |nil=>simp only[FS]at h;obtain⟨a,c,rfl,_⟩:=h;exact⟨a,c,rfl⟩
 |cons f d=>simp only[FS]at h;obtain⟨g,b,c,rfl,-⟩:=h;exact⟨_,c,rfl⟩
def FS.src{w:World}{p:Nat->Prop}{l:Wb}{v:Value}(h:FS w p l v):(v=.slice none 0 0/\l=[])\/∃k c,∃b:Q6,v=.slice (some k) l.length c/\b.length=l.length*5/\(∀j u,b[j]? =some u->w.cell? (k.add j)=some u)/\(∀u∈b,u.oneCell'=true)/\
 (∀w' m n,uK w w' p m->(∀j u,b[j]? =some u->w'.cell? ⟨n,j,none⟩=some u)->fM w' m n 0 l):=by
 cases l with
 |nil=>
  simp only[FS]at h;obtain⟨a,c,rfl,h⟩:=h;cases a with
  |none=>
   rcases h with⟨_,_,e⟩|rfl
   ·cases e
   ·exact .inl ⟨rfl,rfl⟩
  |some k=>exact .inr ⟨k,c,[],rfl,rfl,by simp,by simp,λ_ _ _ _ _=>by simp only[fM]⟩
 |cons f r=>
  simp only[FS]at h;obtain⟨o,d,c,rfl,F,G,t,x⟩:=h;obtain⟨b,y,z,A,B⟩:=fM.src (f::r) (by simp only[fM];exact⟨t,x⟩);refine .inr ⟨⟨o,d,none⟩,c,b,rfl,y,λj u q=>?_,A,λw' m n D q=>B w' m n 0 D λj u E=>by rw[jQ];exact q j u E⟩;have g:(Addr.mk o d none).add j=⟨o,d+j,none⟩:=by unfold Addr.add;split<;>simp_all
  rw[g];exact z j u q
structure Pk(e:TypeId)(w0 w:World)(p:Nat->Prop):Prop where
 lt:∀b,p b->b<w.heap.size
 el:∀b,p b->w0.heap.size<=b->∃cs,w.heap[b]? =some (.cells cs e (0,0))
def newS(w0:World)(v:Value):Prop:=∀b a n c,v=.slice (some ⟨b,a,none⟩) n c->w0.heap.size<=b
def FS.copied{e:TypeId}{w0 w w':World}{p:Nat->Prop}(r:Pk e w0 w p)(h0:w0.heap.size<=w.heap.size){l:Wb}{v':Value}(d:Q6)
 (y:∀w' t M,uK w w' p t->(∀j u,d[j]? =some u->w'.cell? ⟨M,j,none⟩=some u)->fM w' t M 0 l)
 (k:w'.ownsRow w.heap.size e 5 v' l.length d) (z:w.grownBy w' none):
 ∃t,uK w w' p t/\(∀b,t b->p b\/w.heap.size<=b)/\Pk e w0 w' t/\FS w' t l v'/\newS w0 v':=by
 have m:∀b o,b<w.heap.size->w'.cell? ⟨b,o,none⟩=w.cell? ⟨b,o,none⟩:=λb o a=>ac2 (w:=w) (z.block b a (by simp));obtain⟨_,k⟩:=k;rcases k with⟨rfl,P⟩|⟨g,E,Q,rfl,F,a,A,_,S,v⟩
 ·have U:l=[]:=jl P;subst U
  exact⟨p,⟨λ_ h=>h,λb o x a G=>by rw[m b o (r.lt b a)];exact G⟩,λ_ h=>.inl h,⟨λb a=>xG (r.lt b a) z.size,λb a H=>by rw[z.block b (r.lt b a) (by simp)];exact r.el b a H⟩,
   by simp only[FS];exact⟨_,_,rfl,.inr rfl⟩,by intro V I n c e;simp at e⟩
 ·have J:g<w'.heap.size:=(qj.1 a).1;have O:uK w w' p (λb=>p b\/b=g):=⟨λ_ h=>.inl h,λb o x a G=>by rw[m b o (r.lt b a)];exact G⟩
  have L:∀j u,d[j]? =some u->w'.cell? ⟨g,j,none⟩=some u:=by
   intro j u D;rw[<-v,mG]at D;split at D
   ·simp only[World.cell?,a];rw[ah (by simp)];simpa using D
   ·cases D
  have q:=y w' _ g O L;refine⟨λb=>p b\/b=g,O,λb a=>a.imp id (λe=>by subst e;exact F),⟨λb a=>?_,λb a H=>?_⟩,?_,?_⟩
  ·rcases a with a|rfl
   ·exact xG (r.lt b a) z.size
   ·exact J
  ·rcases a with B|rfl
   ·rw[z.block b (r.lt b B) (by simp)];exact r.el b B H
   ·exact⟨_,a⟩
  ·cases l with
   |nil=>simp only[FS];exact⟨_,_,rfl,.inl ⟨_,_,rfl⟩⟩
   |cons f W=>simp only[fM]at q;simp only[FS];exact⟨g,0,E,rfl,A,.inr rfl,q.1,q.2⟩
  ·intro V I n c e;simp only[Value.slice.injEq,aZ,Addr.mk.injEq]at e;obtain⟨⟨rfl,-⟩,-⟩:=e;omega
def sumW:List (Value×Wb)->Nat
 |[]=>0
 |q::l=>1+oq q.2+sumW l
def abD:∀(a b:List (Value×Wb)),sumW (a++b)=sumW a+sumW b
 |[],b=>by simp[sumW]
 |q::a,b=>by simp[sumW,abD a b];omega
def abE:∀(a:List (Value×Wb)),a.length<=sumW a
 |[]=>by simp[sumW]
 |q::a=>by have:=abE a;simp[sumW];omega
def SQ:∀(a:Wb),a.length<=oq a
 |[]=>by simp[oq]
 |.mk cs l::a=>by have:=SQ a;simp[oq,cntF];omega
def aef:∀{a:Wb}{i:Nat}{cs:Q6}{l:Wb},a[i]? =some (.mk cs l)->oq (a.drop i)=1+oq l+oq (a.drop (i+1))
 |[],i,cs,l,h=>by simp at h
 |x::a,0,cs,l,h=>by simp at h;subst h;simp[oq,cntF]
 |x::a,i+1,cs,l,h=>by simp at h;simpa using aef h
structure CB(e:TypeId)(w0:World)(ro:Qf)(xs:Wb)(cv:Value)(w:World)(p:Nat->Prop):Prop where
 below:Below w0.heap.size w0 w
 Vh:∀b,p b->b<w0.heap.size->ro b≠none
 pk:Pk e w0 w p
 top:FS w p xs cv
structure NU(w0 w:World)(p:Nat->Prop)(T:TypeId)(wk:Value)(ws:List (Value×Wb)):Prop where
 own:w.ownsRow w0.heap.size T 1 wk ws.length (ws.map (·.1))
 each:∀q∈ws,FS w p q.2 q.1/\newS w0 q.1
section
variable{e T:TypeId}{w0 w:World}{ro:Qf}{xs l li:Wb}{cv s wk v':Value}{N i:Nat}
def CI(e T:TypeId)(w0:World)(ro:Qf)(xs:Wb)(cv:Value)(N:Nat)(wk:Value)(w:World):Prop:=
 ∃p a,CB e w0 ro xs cv w p/\NU w0 w p T wk a/\sumW a<=N
def II(e T:TypeId)(w0:World)(ro:Qf)(xs:Wb)(cv:Value)(N:Nat)(l:Wb)(s:Value)(i:Nat)(wk:Value)(w:World):Prop:=
 ∃p a,CB e w0 ro xs cv w p/\NU w0 w p T wk a/\FS w p l s/\newS w0 s/\sumW a+oq (l.drop i)+1<=N
def MI(e T:TypeId)(w0:World)(ro:Qf)(xs:Wb)(cv:Value)(N:Nat)(l:Wb)(s:Value)(i:Nat)(wk:Value)(w:World)(v':Value)(li:Wb):Prop:=
 ∃p a,CB e w0 ro xs cv w p/\NU w0 w p T wk a/\FS w p l s/\newS w0 s/\FS w p li v'/\newS w0 v'/\sumW a+(1+oq li)+oq (l.drop i)+1<=N
def U9{base size n:Nat}{xs:Q6}(h:w.ownsRow base T size wk n xs){b:Nat}(a:wk.ownBlock=some b):base<=b/\∃cs,w.heap[b]? =some (.cells cs T (0,0)):=by
 rcases h.2 with⟨rfl,_⟩|⟨g,d,f,rfl,c,j,_⟩
 ·simp[Value.ownBlock]at a
 ·simp only[Value.ownBlock,aZ]at a;subst a;exact⟨c,_,j⟩
def ahp{base size n:Nat}{xs:Q6}{w':World}(h:w.ownsRow base T size wk n xs)(f:∀b,wk.ownBlock=some b->w'.heap[b]? =w.heap[b]?):w'.ownsRow base T size wk n xs:=by
 refine⟨h.1,?_⟩;rcases h.2 with j|⟨g,a,c,rfl,d,k,m⟩
 ·exact .inl j
 ·exact .inr ⟨g,a,c,rfl,d,by rw[f g rfl];exact k,m⟩
def NU.ahg{p:Nat->Prop}{c:List (Value×Wb)}(h:NU w0 w p T wk c)(d:Pk e w0 w p)(f:e≠T){b:Nat}(g:wk.ownBlock=some b):¬p b:=by intro j;obtain⟨k,o,m⟩:=U9 h.own g;obtain⟨n,a⟩:=d.el b j k;rw[m]at a;simp only[aZ,Obj.cells.injEq]at a;exact f a.2.1.symm
def Pk.same{w':World}{p:Nat->Prop}(d:Pk e w0 w p)(c:w.heap.size<=w'.heap.size)(h:∀b,p b->w'.heap[b]? =w.heap[b]?):Pk e w0 w' p:=
 ⟨λb a=>xG (d.lt b a) c,λb a f=>by rw[h b a];exact d.el b a f⟩
def uK.of{w':World}{p:Nat->Prop}(h:∀b,p b->w'.heap[b]? =w.heap[b]?):uK w w' p p:=
 ⟨λ_ h=>h,λb o x a c=>by rw[ac2 (w:=w) (h b a)];exact c⟩
def CI.start{w1:World}{f:Value}(h:∃p,CB e w0 ro xs f w1 p)(k:newS w0 f):CI e T w0 ro xs f (1+oq xs) (.slice (some ⟨w1.heap.size,0,none⟩) 1 1) (w1.alloc (.cells #[f] T)):=by obtain⟨p,c⟩:=h;have d:∀b,p b->(w1.alloc (.cells #[f] T)).heap[b]? =w1.heap[b]?:=λb m=>Below.heap_alloc w1 _ b (c.pk.lt b m);have a:=uK.of d;have g:=World.ownsRow_lit (base:=w0.heap.size) (e:=T) (size:=1) w1 #[f] 1 c.below.size (by unfold maxLen;omega) rfl;refine⟨p,[(f,xs)],⟨c.below.alloc c.below.size _,c.Vh,c.pk.same (by simp) d,c.top.sub a⟩,⟨by simpa using g,λq j=>?_⟩,by simp[sumW]⟩;simp only[yC]at j;subst j;exact⟨c.top.sub a,k⟩
def II.len(h:II e T w0 ro xs cv N l s i wk w):∃a c,s=.slice a l.length c:=by obtain⟨p,d,f,g,b,_⟩:=h;exact b.len
def II.bound(h:II e T w0 ro xs cv N l s 0 wk w):l.length<=N:=by obtain⟨p,c,d,f,a,_,b⟩:=h;have:=SQ l;simp only[bK]at b;omega
def CI.pop(h:CI e T w0 ro xs cv N wk w):(∃a c,wk=.slice a 0 c/\∃p,CB e w0 ro xs cv w p)\/
 ∃bl cap m s l,wk=.slice (some ⟨bl,0,none⟩) (m+1) cap/\m+1<=cap/\m+1<=N/\w.cell? ⟨bl,m,none⟩=some s/\II e T w0 ro xs cv N l s 0 (.slice (some ⟨bl,0,none⟩) m cap) w:=by
 obtain⟨p,D,x,v,A⟩:=h;rcases akt D with rfl|⟨b,q,rfl⟩
 ·left;rcases v.own.2 with⟨rfl,_⟩|⟨g,cap,f,rfl,_⟩
  ·exact⟨_,_,rfl,p,x⟩
  ·exact⟨_,_,rfl,p,x⟩
 ·right;rcases v.own.2 with⟨_,E⟩|⟨g,cap,f,n,y,B,j,o,z,d⟩
  ·simp at E
  ·have t:(b.concat q).length=b.length+1:=by simp
   rw[t]at n j d;have u:q∈b.concat q:=by simp
   obtain⟨F,G⟩:=v.each q u;refine⟨g,cap,b.length,q.1,q.2,n,j,by have:=abE (b.concat q);omega,?_,p,b,x,⟨⟨by simp,.inr ⟨g,cap,f,rfl,y,B,by omega,o,z,?_⟩⟩,λr H=>v.each r (by simp[H])⟩,F,G,?_⟩
   ·have I:f.toList[b.length]? =some q.1:=by
     have k:(f.toList.take ((b.length+1)*1))[b.length]? =some q.1:=by rw[d];simp
     rw[mG]at k;rw[aj (by omega)]at k;exact k
    simp only[World.cell?,B];rw[ah (by simp)];simpa using I
   ·have k:(f.toList.take ((b.length+1)*1)).take (b.length*1)=b.map (·.1):=by rw[d];simp
    rw[acO,Ho (by omega)]at k;exact k
   ·rw[aks,abD]at A;simp only[sumW]at A;simp only[bK];omega
def II.done(h:II e T w0 ro xs cv N l s l.length wk w):CI e T w0 ro xs cv (N-1) wk w/\1<=N:=by obtain⟨p,a,b,c,_,_,d⟩:=h;exact⟨⟨p,a,b,c,by omega⟩,by omega⟩
def MI.skip(h:MI e T w0 ro xs cv N l s i wk w v' li):II e T w0 ro xs cv N l s i wk w:=by obtain⟨p,a,b,c,d,f,_,_,g⟩:=h;exact⟨p,a,b,c,d,f,by omega⟩
def MI.push(D:e≠T)(h:MI e T w0 ro xs cv N l s i wk w v' li):∃n A,w.ownsRow w0.heap.size T 1 wk n A/\n+1<=N/\w0.heap.size<=w.heap.size/\
 ∀o v g,g.ownsRow w0.heap.size T 1 v (n+1) (A++[v'])->(w.alloc o).grownBy g wk.ownBlock->II e T w0 ro xs cv N l s i v g:=by
 obtain⟨p,t,c,j,E,F,G,H,L⟩:=h;have B:=abE t;refine⟨t.length,t.map (·.1),j.own,by omega,c.below.size,λo v g m x=>?_⟩;have r:∀b,p b->some b≠wk.ownBlock:=λb u I=>j.ahg c.pk D I.symm u;have d:∀b,p b->g.heap[b]? =w.heap[b]?:=λb u=>by have y:=c.pk.lt b u;rw[x.block b (by simp;omega) (r b u)];exact Below.heap_alloc w o b y
 have z:w.heap.size<=g.heap.size:=by have:=x.size;simp at this;omega
 have a:=uK.of d;refine⟨p,t++[(v',li)],⟨?_,c.Vh,c.pk.same z d,c.top.sub a⟩,⟨by simpa using m,λq f=>?_⟩,E.sub a,F,?_⟩
 ·refine(c.below.alloc c.below.size o).grown x (by simp;have:=c.below.size;omega) λk J=>(U9 j.own J).1
 ·rcases iW.1 f with f|f
  ·exact⟨(j.each q f).1.sub a,(j.each q f).2⟩
  ·simp only[yC]at f;subst f;exact⟨G.sub a,H⟩
 ·rw[abD];simp only[sumW];omega
def II.step(hT:e≠T)(h:II e T w0 ro xs cv N l s i wk w)(hi:i<l.length):∃bl off c li D,∃d:Q6,s=.slice (some ⟨bl,off,none⟩) l.length c/\l.length<=c/\w.cell? ⟨bl,off+i*5+4,none⟩=some D/\
 ((D=.slice none 0 0/\li=[]/\d=[])\/∃W ci,D=.slice (some W) li.length ci/\∀j u,d[j]? =some u->w.cell? (W.add j)=some u)/\d.length=li.length*5/\(∀u∈d,u.oneCell'=true)/\li.length<=N/\
 ∀v' w1,w1.ownsRow w.heap.size e 5 v' li.length d->w.grownBy w1 none->
  w1.cell? ⟨bl,off+i*5+4,none⟩=some D/\w1.frozen? ⟨bl,off+i*5+4,none⟩=false/\(∃a c,v'=.slice a li.length c)/\
  MI e T w0 ro xs cv N l s (i+1) wk (w1.setCell ⟨bl,off+i*5+4,none⟩ v') v' li:=by
 obtain⟨p,ws,t,H,v,I,ai⟩:=h;obtain⟨f,hf⟩:∃f,l[i]? =some f:=⟨_,bP hi⟩
 obtain⟨cs,li⟩:=f;have Y:=v;cases J:l with
 |nil=>rw[J]at hi;simp at hi
 |cons x0 Z=>
 rw[J]at v;simp only[FS]at v;obtain⟨bl,off,c,rfl,hc,X,L,aa⟩:=v;have M:w0.heap.size<=bl:=I _ _ _ _ rfl;have O:FC w p bl (off+i*5) (.mk cs li):=fM.at (fs:=x0::Z) (by simp only[fM];exact⟨L,aa⟩) (by rw[<-J];exact hf);simp only[FC]at O;obtain⟨_,_,D,Zh,P⟩:=O;have ak:=aef hf;have al:=SQ li;rw[<-J]
 have E:∀d:Q6,(∀w' Q oh,uK w w' p Q->(∀j u,d[j]? =some u->w'.cell? ⟨oh,j,none⟩=some u)->fM w' Q oh 0 li)->
  ∀v' w1,w1.ownsRow w.heap.size e 5 v' li.length d->w.grownBy w1 none->
  w1.cell? ⟨bl,off+i*5+4,none⟩=some D/\w1.frozen? ⟨bl,off+i*5+4,none⟩=false/\(∃a c,v'=.slice a li.length c)/\
  MI e T w0 ro xs cv N l (.slice (some ⟨bl,off,none⟩) (Z.length+1) c) (i+1) wk (w1.setCell ⟨bl,off+i*5+4,none⟩ v') v' li:=by
  intro d hn v' w1 S hg;obtain⟨Q,G,s2,s3,s4,s5⟩:=FS.copied t.pk t.below.size d hn S hg;have am:=t.pk.lt bl X;obtain⟨y,z⟩:=s3.el bl (G.sub _ X) M;have m:w1.cell? ⟨bl,off+i*5+4,none⟩=some D:=G.cell _ _ _ X Zh;refine⟨m,by simp only[World.frozen?,z];simp,s4.len,?_⟩;have an:li.length=li.length:=rfl;have g:∀b,b≠bl->(w1.setCell ⟨bl,off+i*5+4,none⟩ v').heap[b]? =w1.heap[b]?:=λb F=>heap_setCell_other w1 ⟨bl,off+i*5+4,none⟩ b v' F;have n:(w1.setCell ⟨bl,off+i*5+4,none⟩ v').heap[bl]? =some (.cells (y.setIfInBounds (off+i*5+4) v') e (0,0)):=heap_setCell_same w1 bl (off+i*5+4) y e v' z;have ab:off+i*5+4<y.size:=by simp only[World.cell?,z]at m;rw[ah (by simp)]at m;exact(qj.1 m).1
  have k:NK w1 (w1.setCell ⟨bl,off+i*5+4,none⟩ v') Q bl (off+i*5+4) li:=by
   refine⟨⟨D,m,P.sub G⟩,⟨v',?_,s4⟩,λb o x F L=>?_⟩
   ·simp only[World.cell?,n];rw[ah (by simp)];simp[ab]
   ·by_cases A:b=bl
    ·have ac:o≠off+i*5+4:=λe2=>F ⟨A,e2⟩;rw[A,cell_of_row w1 bl o y e (0,0) z]at L;rw[A,cell_of_row _ bl o _ e (0,0) n,CJ,ah (λe2=>ac e2.symm)];exact L
    ·rw[ac2 (w:=w1) (g b A)];exact L
  have U:(w1.setCell ⟨bl,off+i*5+4,none⟩ v').heap.size=w1.heap.size:=by simp
  have ae:∀b,wk.ownBlock=some b->b≠bl:=λb B A=>by subst A;exact H.ahg t.pk hT B X
  have af:Below w0.heap.size w0 w1:=t.below.grown hg t.below.size (by simp);refine⟨Q,ws,⟨af.setCell M v',λb r ag=>?_,⟨λb r=>by rw[U];exact s3.lt b r,λb r h1=>?_⟩,(t.top.sub G).put k⟩,⟨?_,λq hq=>⟨((H.each q hq).1.sub G).put k,(H.each q hq).2⟩⟩,(Y.sub G).put k,I,s4.put k,s5,?_⟩
  ·rcases s2 b r with h1|h1
   ·exact t.Vh b h1 ag
   ·have:=t.below.size;omega
  ·by_cases A:b=bl
   ·subst A;exact⟨_,n⟩
   ·rw[g b A];exact s3.el b r h1
  ·refine ahp H.own λb B=>?_;rw[g b (ae b B)];obtain⟨_,ao,h2⟩:=U9 H.own B;exact hg.block b (qj.1 h2).1 (by simp)
  ·omega
 have V:Z.length+1=l.length:=by rw[J];rfl
 rcases P.src with⟨rfl,rfl⟩|⟨W,ci,d,rfl,n1,n2,n3,n4⟩
 ·exact⟨bl,off,c,[],_,[],by rw[V],by omega,Zh,.inl ⟨rfl,rfl,rfl⟩,rfl,by simp,by simp,E [] λ_ _ _ _ _=>by simp only[fM]⟩
 ·exact⟨bl,off,c,li,_,d,by rw[V],by omega,Zh,.inr ⟨W,ci,rfl,n2⟩,n1,n3,by omega,E d n4⟩
end
def akk{P:Program}(w:World){n:W4}{rest:List Oper}{o:Oper}{a:Act}{Q:Exit->Act->World->Prop}(p:o.guard=none)(s x:Operand)(t:TypeId)
 (F:o.op=.call {callee:=.builtin .append,args:=#[s,x],argTypes:=#[t,t]})
 (e:TypeId) (i:TypeInfo) (z:Value) (b bytes:Nat) (G:P.underlying t=some (.slice e)) (hi:P.info? e=some i) (J:i.zero=some z)
 (k:i.size=b) (A:i.bytes=bytes) (B:z.cells.size=b) (D:0<b)
 (H:a.eval s=.slice none 0 0) (m:Nat) (d:Q6) (E:Value) (q:a.eval x=E)
 (r:(E=.slice none 0 0/\m=0/\d=[])\/∃y c,E=.slice (some y) m c/\∀j u,d[j]? =some u->w.cell? (y.add j)=some u)
 (L:d.length=m*b) (M:∀u∈d,u.oneCell'=true) (O:m<=maxLen) (g:m*bytes<=140737488355328)
 (h:∀v' v,v.ownsRow w.heap.size e b v' m d->w.grownBy v none->wpList P n Q rest (a.put o.dst v') v):wpList P n Q (o::rest) a w:=by
 have f:w.ownsRow w.heap.size e b (.slice none 0 0) 0 []:=⟨by simp,.inl ⟨rfl,rfl⟩⟩
 rcases r with⟨r,rfl,rfl⟩|⟨y,c,r,S⟩
 ·refine wpList_plain p λK U=>?_;have V:=run_append_owned_none (P:=P) w w.heap.size t o.type e i b G hi (.slice none 0 0) 0 [] f;unfold Oper.wp execOp;simp only[F,resolve,invoke,builtin,aT,bF,aQ,List.map_toArray,gX,jO,H,q,r,V];exact U _ _ (h _ w f ⟨rfl,rfl,rfl,dY _,λ_ _ _=>rfl⟩)
 ·refine wpList_append_own w p s x t F w.heap.size e i z b bytes G hi J k A B D (.slice none 0 0) 0 [] H f y m c d (q.trans r) L S M (by omega) (by rw[jQ];exact g) (dY _) λv' v I W _=>?_;rw[jQ,aW]at I;exact h v' v I W
def SX{ro:Qf}{a:GV}{x v:Value}(h:E5 a=some x)(b:GR ro a v):v=x/\U0 x=true:=by cases a<;>simp only[E5,aZ,reduceCtorEq]at h<;>(simp only[GR]at b;subst h;subst b;exact⟨rfl,rfl⟩)
def SY{ro:Qf}{a:GV}{x:Value}(h:E5 a=some x):GR ro a x:=by cases a<;>simp only[E5,aZ,reduceCtorEq]at h<;>(subst h;simp only[GR])
def Zo:∀(fs:Wb)(xs:Q1),pU fs xs->xs.length=fs.length
 |[],xs,h=>by simp only[pU]at h;subst h;rfl
 |f::fs,xs,h=>by simp only[pU]at h;obtain⟨x,r,rfl,_,a⟩:=h;simp[Zo fs r a]
def afP{ro:Qf}(f:Ft)(x:GV){y:Value}(h:DJ f x)(g:GR ro x y):y.cells.size=5:=by obtain⟨j,l⟩:=f;simp only[DJ]at h;obtain⟨a,b,c,d,k,rfl,_,_⟩:=h;simp only[GR,aP]at g;obtain⟨m,rfl,n,o,rfl,_,p,q,rfl,_,r,t,rfl,_,u,v,rfl,_,z,A,rfl,_,rfl⟩:=g;rfl
mutual
def acp{ro:Qf}{w:World}(d:∀b o,ro b=some o->w.heap[b]? =some o):∀(fs:Wb)(xs:Q1){v:Value},pU fs xs->GR ro (.l xs) v->FS w (λb=>ro b≠none) fs v
 |[],xs,v,k,h=>by
  simp only[pU]at k;subst k;simp only[GR]at h;simp only[FS];rcases h with⟨_,p,rfl⟩|⟨bl,off,c,G,sz,rfl,_⟩
  ·exact⟨_,_,rfl,.inr rfl⟩
  ·exact⟨_,_,rfl,.inl ⟨_,_,rfl⟩⟩
 |f::fs,xs,v,k,h=>by
  simp only[pU]at k;obtain⟨x,r,rfl,A,B⟩:=k;simp only[GR]at h;rcases h with⟨h,_⟩|⟨bl,off,c,G,sz,rfl,H,m,I,J⟩
  ·cases h
  obtain⟨L,n,M,D,Q,O⟩:=J (by simp);have q:r.length=fs.length:=Zo fs r B;simp only[aP]at m;obtain⟨y,t,rfl,E,P⟩:=m;have a:∀j u,(dS (y::t))[j]? =some u->w.cell? ⟨bl,off+j,none⟩=some u:=λj u g=>by rw[cell_of_row w bl (off+j) L n M (d _ _ D)];exact O j u g
  simp only[FS];have F:=afP f x A E;refine⟨bl,off,c,by simp[q],by simp at H;omega,by simp[D],aci d f x A E λj u g=>a j u ?_,acn d fs r B P λj u g=>?_⟩
  ·have z:j<y.cells.toList.length:=(fB.1 g).1;simp only[dS,jF];rw[ny z];exact g
  ·have:=a (5+j) u (by simp only[dS,jF];rw[vK (by simp[F]),show 5+j-y.cells.toList.length=j by simp[F]];exact g)
   rw[show off+5+j=off+(5+j) by omega];exact this
def aci{ro:Qf}{w:World}(p:∀b o,ro b=some o->w.heap[b]? =some o):∀(f:Ft)(x:GV){y:Value}{bl off:Nat},DJ f x->GR ro x y->(∀j u,y.cells.toList[j]? =some u->w.cell? ⟨bl,off+j,none⟩=some u)->FC w (λb=>ro b≠none) bl off f
 |.mk cs l,x,y,bl,off,q,h,n=>by
  simp only[DJ]at q;obtain⟨a,b,c,d,t,rfl,m,v⟩:=q;simp only[GR,aP]at h;obtain⟨P,rfl,Q,S,rfl,g1,U,V,rfl,g2,W,X,rfl,A,Y,Z,rfl,B,r,l5,rfl,D,rfl⟩:=h;have E:cs.length=4:=by have:=tX List.length m;simpa using this.symm
  match cs,E with
  |[c1,c2,c3,c4],_=>
  simp only[gX,jO,xE,and_true]at m;obtain⟨F,G,H,I⟩:=m;obtain⟨rfl,J⟩:=SX F g1;obtain⟨rfl,L⟩:=SX G g2;obtain⟨rfl,M⟩:=SX H A;obtain⟨rfl,O⟩:=SX I B;simp only[FC];refine⟨rfl,λj z g=>?_,r,n 4 r rfl,acp p l t v (by simp only[GR];exact D)⟩;match j,g with
  |0,g=>simp only[kW,aZ]at g;subst g;exact⟨J,n 0 _ rfl⟩
  |1,g=>simp only[uH,kW,aZ]at g;subst g;exact⟨L,n 1 _ rfl⟩
  |2,g=>simp only[uH,kW,aZ]at g;subst g;exact⟨M,n 2 _ rfl⟩
  |3,g=>simp only[uH,kW,aZ]at g;subst g;exact⟨O,n 3 _ rfl⟩
  |k+4,g=>simp at g
def acn{ro:Qf}{w:World}(a:∀b o,ro b=some o->w.heap[b]? =some o):∀(fs:Wb)(xs:Q1){c:Q6}{bl off:Nat},pU fs xs->aP ro xs c->(∀j u,(dS c)[j]? =some u->w.cell? ⟨bl,off+j,none⟩=some u)->fM w (λb=>ro b≠none) bl off fs
 |[],xs,c,bl,off,g,h,k=>by simp only[fM]
 |f::fs,xs,c,bl,off,g,h,k=>by
  simp only[pU]at g;obtain⟨x,r,rfl,n,t⟩:=g;simp only[aP]at h;obtain⟨y,v,rfl,p,z⟩:=h;simp only[fM];have q:=afP f x n p;refine⟨aci a f x n p λj u d=>k j u ?_,acn a fs r t z λj u d=>?_⟩
  ·have m:j<y.cells.toList.length:=(fB.1 d).1;simp only[dS,jF];rw[ny m];exact d
  ·have:=k (5+j) u (by simp only[dS,jF];rw[vK (by simp[q]),show 5+j-y.cells.toList.length=j by simp[q]];exact d)
   rw[show off+5+j=off+(5+j) by omega];exact this
end
mutual
def acr{ro:Qf}{w:World}{p:Nat->Prop}(G:∀b,p b->∀o,w.heap[b]? =some o->ro b=some o):∀(fs:Wb)(xs:Q1){v:Value},pU fs xs->FS w p fs v->GR ro (.l xs) v
 |[],xs,v,B,h=>by
  simp only[pU]at B;subst B;simp only[FS]at h;simp only[GR];obtain⟨a,c,rfl,⟨bl,off,rfl⟩|rfl⟩:=h
  ·exact .inr ⟨bl,off,c,[],0,rfl,vT _,by simp[aP],by simp,λP=>absurd rfl P⟩
  ·exact .inl ⟨trivial,_,rfl⟩
 |f::fs,xs,v,B,h=>by
  simp only[pU]at B;obtain⟨x,r,rfl,Q,L⟩:=B;simp only[FS]at h;obtain⟨bl,off,c,rfl,hc,H,S,U⟩:=h;have m:r.length=fs.length:=Zo fs r L;obtain⟨y,V,D,W⟩:=acj G f x Q S;obtain⟨t,X,M,Y⟩:=aco G fs r L U;simp only[GR];refine .inr ⟨bl,off,c,y::t,5,by simp[m],by simp[m];omega,by simp only[aP];exact⟨y,t,rfl,V,X⟩,λq z=>?_,λ_=>?_⟩
  ·rcases bD.1 z with rfl|z
   ·exact D
   ·exact M q z
  ·have n:∀j u,(dS (y::t))[j]? =some u->w.cell? ⟨bl,off+j,none⟩=some u:=by
    intro j u A;simp only[dS,jF]at A;rcases vP j 5 with I|J
    ·rw[ny (by simp[D];exact I)]at A;exact W j u A
    ·rw[vK (by simp[D];exact J)]at A;have:=Y (j-5) u (by simpa[D,dS]using A);rw[show off+5+(j-5)=off+j by omega]at this;exact this
   have h5:(dS (y::t)).length=(t.length+1)*5:=by
    letI:aI:=Tg [] [] 0
    rw[Iq (sz:=5)]
    ·rfl
    ·intro q z;rcases bD.1 z with rfl|z
     ·exact D
     ·exact M q z
   obtain⟨u,Z⟩:∃u,(dS (y::t))[(t.length+1)*5-1]? =some u:=⟨_,bP (by omega)⟩
   have g:=n _ u Z;have k:∃E d F,w.heap[bl]? =some (.cells E d F):=by
    simp only[World.cell?]at g;cases O:w.heap[bl]? with
    |none=>simp[O]at g
    |some o=>cases o<;>simp[O]at g<;>exact⟨_,_,_,rfl⟩
   obtain⟨E,d,F,k⟩:=k;refine⟨E,d,F,G bl H _ k,?_,λj u A=>?_⟩
   ·rw[cell_of_row w bl _ E d F k]at g;have:=(qj.1 g).1;omega
   ·have:=n j u A;rw[cell_of_row w bl _ E d F k]at this;exact this
def acj{ro:Qf}{w:World}{p:Nat->Prop}(D:∀b,p b->∀o,w.heap[b]? =some o->ro b=some o):∀(f:Ft)(x:GV){bl off:Nat},DJ f x->FC w p bl off f->∃y,GR ro x y/\y.cells.size=5/\∀j u,y.cells.toList[j]? =some u->w.cell? ⟨bl,off+j,none⟩=some u
 |.mk cs l,x,bl,off,q,h=>by
  simp only[DJ]at q;obtain⟨a,b,c,d,E,rfl,m,F⟩:=q;simp only[FC]at h;obtain⟨G,n,v,H,I⟩:=h;match cs,G with
  |[r,t,z,A],_=>
  simp only[gX,jO,xE,and_true]at m;obtain⟨J,L,M,O⟩:=m;refine⟨.agg #[r,t,z,A,v],?_,rfl,λj u g=>?_⟩
  ·have B:=acr D l E F I;simp only[GR,aP]at B⊢;exact⟨[r,t,z,A,v],rfl,_,_,rfl,SY J,_,_,rfl,SY L,_,_,rfl,SY M,_,_,rfl,SY O,_,_,rfl,B,rfl⟩
  ·match j,g with
   |0,g=>simp[Value.cells]at g;subst g;exact(n 0 _ rfl).2
   |1,g=>simp[Value.cells]at g;subst g;exact(n 1 _ rfl).2
   |2,g=>simp[Value.cells]at g;subst g;exact(n 2 _ rfl).2
   |3,g=>simp[Value.cells]at g;subst g;exact(n 3 _ rfl).2
   |4,g=>simp[Value.cells]at g;subst g;exact H
   |k+5,g=>simp[Value.cells]at g
def aco{ro:Qf}{w:World}{p:Nat->Prop}(t:∀b,p b->∀o,w.heap[b]? =some o->ro b=some o):∀(fs:Wb)(xs:Q1){bl off:Nat},pU fs xs->fM w p bl off fs->∃a,aP ro xs a/\(∀y∈a,y.cells.size=5)/\∀j u,(dS a)[j]? =some u->w.cell? ⟨bl,off+j,none⟩=some u
 |[],xs,bl,off,c,h=>by simp only[pU]at c;subst c;exact⟨[],by simp[aP],by simp,by simp[dS]⟩
 |f::fs,xs,bl,off,c,h=>by
  simp only[pU]at c;obtain⟨x,r,rfl,v,z⟩:=c;simp only[fM]at h;obtain⟨y,A,g,B⟩:=acj t f x v h.1;obtain⟨a,D,E,F⟩:=aco t fs r z h.2;refine⟨y::a,by simp only[aP];exact⟨y,a,rfl,A,D⟩,λq k=>?_,λj u d=>?_⟩
  ·rcases bD.1 k with rfl|k
   ·exact g
   ·exact E q k
  ·simp only[dS,jF]at d;rcases vP j 5 with m|n
   ·rw[ny (by simp[g];exact m)]at d;exact B j u d
   ·rw[vK (by simp[g];exact n)]at d;have:=F (j-5) u (by simpa[g,dS]using d);rw[show off+5+(j-5)=off+j by omega]at this;exact this
end
open Classical in
def KY:Q1->Option Q1
 |[.l xs]=>if ∃fs,pU fs xs/\oq fs<=1099511627776 then some [.l xs]else none
 |_=>none
def arq{P:Program}{tabs:Qt}{f:FuncId}{e:TypeId}
 (j:∀(v:Value)(fs:Wb)(w:World)(ro:Qf),FS w (λb=>ro b≠none) fs v->(∀b,ro b≠none->b<w.heap.size)->oq fs<=1099511627776->
  Calls P f #[v] w λu w'=>∃v',u=.returned v'/\∃p,CB e w ro fs v' w' p)
 (c:∀args w,(callFunc f args).run P w=.ok (.enter f args) w) {gs k:Q1} (h:KY gs=some k):ql P tabs f [] [.sc] gs k:=by
 unfold KY at h;split at h;rotate_left
 ·cases h
 next xs=>
 split at h;rotate_left
 ·cases h
 next z=>
 cases h;obtain⟨fs,m,n⟩:=z;letI:aI:=Tg [] [] 0
 refine⟨λro w E d q=>?_,rfl⟩;simp only[aP]at q;obtain⟨v,l,rfl,A,rfl⟩:=q;refine .inr ⟨c _ w,Calls.mono' (j v fs w ro (acp d.at' fs xs m A) (λb g=>?_) n) ?_⟩
 ·cases a:ro b with
  |none=>exact absurd a g
  |some o=>exact(qj.1 (d.at' b o a)).1
 ·rintro u w' ⟨v',rfl,p,g⟩
  refine⟨v',rfl,Vu ro w w',Vx d g.below,[v'],rfl,?_⟩;simp only[aP];refine⟨_,_,rfl,acr (p:=p) (λb t o x=>?_) fs xs m g.top,rfl⟩;show(if b<w.heap.size then ro b else w'.heap[b]?)=some o
  split
  ·next r=>
   have B:=g.Vh b t r;cases a:ro b with
   |none=>exact absurd a B
   |some D=>have y:=d.at' b D a;rw[<-g.below.block b r,x]at y;exact y.symm
  ·exact x
