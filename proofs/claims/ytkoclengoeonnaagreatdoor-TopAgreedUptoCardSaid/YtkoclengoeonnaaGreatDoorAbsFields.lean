/- Fields that hold fields: what slices of them tell, cell by cell; a write of what tells the same changes nothing. (For field.Clone.) -/
import Derived.Test.YtkoclengoeonnaaGreatDoorAbsTold
import Derived.Laws.OwnMore
set_option linter.all false
namespace Go.aP
open Go.RowKit
noncomputable section
inductive Ft where
 |mk (cs:Q6) (l:List Ft)
abbrev Wc:=List Ft
mutual
def cntF:Ft->Nat
 |.mk _ l=>1+oI l
def oI:Wc->Nat
 |[]=>0
 |f::fs=>cntF f+oI fs
end
def Vs:Value->Bool
 |.slice ..=>false
 |v=>v.oneCell'
def FN:GV->Option Value
 |.b x=>some (.bool x)
 |.i k n=>some (.int k n)
 |.s x=>some (.string ⟨⟨x⟩⟩)
 |_=>none
mutual
def Ea:Ft->GV->Prop
 |.mk cs l,x=>∃a b c d f,x=.g [a,b,c,d,.l f]/\[FN a,FN b,FN c,FN d]=cs.map some/\qy l f
def qy:Wc->List GV->Prop
 |[],xs=>xs=[]
 |f::fs,xs=>∃x r,xs=x::r/\Ea f x/\qy fs r
end
mutual
def FS(w:World)(p:Nat->Prop):Wc->Value->Prop
 |[],v=>∃a c,v=.slice a 0 c/\((∃bl off,a=some ⟨bl,off,none⟩)\/c=0)
 |f::fs,v=>∃bl off c,v=.slice (some ⟨bl,off,none⟩) (fs.length+1) c/\fs.length+1<=c/\p bl/\FC w p bl off f/\gq w p bl (off+5) fs
def FC(w:World)(p:Nat->Prop)(bl off:Nat):Ft->Prop
 |.mk cs l=>cs.length=4/\(∀j x,cs[j]? =some x->Vs x=true/\w.cell? ⟨bl,off+j,none⟩=some x)/\∃v,w.cell? ⟨bl,off+4,none⟩=some v/\FS w p l v
def gq(w:World)(p:Nat->Prop)(bl off:Nat):Wc->Prop
 |[]=>True
 |f::fs=>FC w p bl off f/\gq w p bl (off+5) fs
end
mutual
def FS.fn{w:World}{p x:Nat->Prop}:∀(a b:Wc){v:Value},FS w p a v->FS w x b v->a=b
 |[],[],_,_,_=>rfl
 |[],f::fs,v,h,d=>by
  simp only[FS]at h d;obtain⟨a,c,rfl,_⟩:=h;obtain⟨o,j,q,e,-⟩:=d;injection e with k r t
  omega
 |f::fs,[],v,h,d=>by
  simp only[FS]at h d;obtain⟨o,j,q,rfl,-⟩:=h;obtain⟨a,c,e,_⟩:=d;injection e with k r t
  omega
 |f::fs,g::y,v,h,d=>by
  simp only[FS]at h d;obtain⟨o,j,c,rfl,-,-,z,A⟩:=h;obtain⟨E,u,q,e,-,-,m,n⟩:=d;injection e with k r t
  injection k with k
  injection k with B D
  subst B D;rw[FC.fn f g z m,gq.fn fs y ah A n]
def FC.fn{w:World}{p k:Nat->Prop}{bl off:Nat}:∀(a b:Ft),FC w p bl off a->FC w k bl off b->a=b
 |.mk cs l,.mk c m,h,f=>by
  simp only[FC]at h f;obtain⟨z,n,v,o,q⟩:=h;obtain⟨A,r,v',d,t⟩:=f;rw[o]at d;injection d with d
  subst d;have u:cs=c:=by
   apply Kv;intro j;rcases zM j 4 with x|x
   ·have y:=(n j cs[j] (bT ah)).2;have g:=(r j c[j] (bT ah)).2;rw[bT ah,bT ah];rw[y]at g;exact g
   ·rw[wG ah,wG ah]
  rw[u,FS.fn l m q t]
def gq.fn{w:World}{p d:Nat->Prop}{bl:Nat}:∀{off:Nat}(a b:Wc),a.length=b.length->gq w p bl off a->gq w d bl off b->a=b
 |_,[],[],_,_,_=>rfl
 |_,[],_::_,e,_,_=>by simp at e
 |_,_::_,[],e,_,_=>by simp at e
 |_,f::fs,g::gs,e,h,c=>by simp only[gq]at h c;rw[FC.fn f g h.1 c.1,gq.fn fs gs (by simpa using e) h.2 c.2]
end
structure vC(w w':World)(p p':Nat->Prop):Prop where
 sub:∀b,p b->p' b
 cell:∀b o x,p b->w.cell? ⟨b,o,none⟩=some x->w'.cell? ⟨b,o,none⟩=some x
mutual
def FS.sub{w w':World}{p g:Nat->Prop}(h:vC w w' p g):∀(a:Wc){v:Value},FS w p a v->FS w' g a v
 |[],v,b=>by simpa only[FS]using b
 |f::fs,v,b=>by simp only[FS]at b⊢;obtain⟨bl,off,c,e,j,d,h1,k⟩:=b;exact⟨bl,off,c,e,j,h.sub _ d,FC.sub h d f h1,gq.sub h d fs k⟩
def FC.sub{w w':World}{p b:Nat->Prop}(h:vC w w' p b){bl off:Nat}(c:p bl):∀(a:Ft),FC w p bl off a->FC w' b bl off a
 |.mk cs l,d=>by simp only[FC]at d⊢;obtain⟨g,f,v,k,m⟩:=d;exact⟨g,λj x e=>⟨(f j x e).1,h.cell _ _ _ c (f j x e).2⟩,v,h.cell _ _ _ c k,FS.sub h l m⟩
def gq.sub{w w':World}{p c:Nat->Prop}(h:vC w w' p c){bl:Nat}(d:p bl):∀{off:Nat}(a:Wc),gq w p bl off a->gq w' c bl off a
 |_,[],_=>by simp only[gq]
 |_,f::fs,b=>by simp only[gq]at b⊢;exact⟨FC.sub h d f b.1,gq.sub h d fs b.2⟩
end
structure Oc(w w':World)(p:Nat->Prop)(B O:Nat)(g:Wc):Prop where
 old:∃v,w.cell? ⟨B,O,none⟩=some v/\FS w p g v
 new:∃v,w'.cell? ⟨B,O,none⟩=some v/\FS w p g v
 rest:∀b o x,¬(b=B/\o=O)->w.cell? ⟨b,o,none⟩=some x->w'.cell? ⟨b,o,none⟩=some x
def FS.ZL{w:World}{p:Nat->Prop}{a:Wc}{v:Value}(h:FS w p a v):∃x n c,v=.slice x n c:=by
 cases a with
 |nil=>simp only[FS]at h;obtain⟨_,_,rfl,_⟩:=h;exact⟨_,_,_,rfl⟩
 |cons f b=>simp only[FS]at h;obtain⟨_,_,_,rfl,-⟩:=h;exact⟨_,_,_,rfl⟩
def FS.awW{w w':World}{p:Nat->Prop}{B O:Nat}{g l:Wc}(h:Oc w w' p B O g){b o:Nat}{v:Value}(a:w.cell? ⟨b,o,none⟩=some v)(c:FS w p l v)
 : ∃z,w'.cell? ⟨b,o,none⟩=some z/\FS w p l z:=by
 by_cases q:b=B/\o=O
 ·obtain⟨u,f,j⟩:=h.old;obtain⟨z,k,d⟩:=h.new;rw[q.1,q.2,f]at a;injection a with a
  subst a;have e:g=l:=FS.fn g l j c;rw[e]at d;exact⟨z,by rw[q.1,q.2];exact k,d⟩
 ·exact⟨v,h.rest _ _ _ q a,c⟩
mutual
def FS.put{w w':World}{p:Nat->Prop}{B O:Nat}{g:Wc}(h:Oc w w' p B O g):∀(a:Wc){v:Value},FS w p a v->FS w' p a v
 |[],v,b=>by simpa only[FS]using b
 |f::fs,v,b=>by simp only[FS]at b⊢;obtain⟨bl,off,c,e,d,j,h1,k⟩:=b;exact⟨bl,off,c,e,d,j,FC.put h f h1,gq.put h fs k⟩
def FC.put{w w':World}{p:Nat->Prop}{B O:Nat}{g:Wc}(h:Oc w w' p B O g){bl off:Nat}:∀(a:Ft),FC w p bl off a->FC w' p bl off a
 |.mk cs l,d=>by
  simp only[FC]at d⊢;obtain⟨f,b,v,k,m⟩:=d;obtain⟨z,n,o⟩:=FS.awW h k m;refine⟨f,λj x e=>⟨(b j x e).1,h.rest _ _ _ (λq=>?_) (b j x e).2⟩,z,n,FS.put h l o⟩;obtain⟨u,r,t⟩:=h.old;have c:=(b j x e).2;rw[q.1,q.2,r]at c;injection c with c
  have y:=(b j x e).1;obtain⟨_,_,_,rfl⟩:=t.ZL;subst c;simp[Vs]at y
def gq.put{w w':World}{p:Nat->Prop}{B O:Nat}{g:Wc}(h:Oc w w' p B O g){bl:Nat}:∀{off:Nat}(a:Wc),gq w p bl off a->gq w' p bl off a
 |_,[],_=>by simp only[gq]
 |_,f::fs,b=>by simp only[gq]at b⊢;exact⟨FC.put h f b.1,gq.put h fs b.2⟩
end
def gq.at{w:World}{p:Nat->Prop}{bl:Nat}:∀{off:Nat}{fs:Wc}{i:Nat}{f:Ft},gq w p bl off fs->fs[i]? =some f->FC w p bl (off+i*5) f
 |off,[],i,f,h,hi=>by simp at hi
 |off,g::fs,0,f,h,hi=>by simp only[gq]at h;simp only[kP,aY]at hi;subst hi;simpa using h.1
 |off,g::fs,i+1,f,h,hi=>by simp only[gq]at h;simp only[vk]at hi;have:=gq.at h.2 hi;rw[(ah:off+(i+1)*5=off+5+i*5)];exact this
def gq.src{w:World}{p:Nat->Prop}{bl:Nat}:∀{off:Nat}(fs:Wc),gq w p bl off fs->∃b:Q6,b.length=fs.length*5/\(∀j u,b[j]? =some u->w.cell? ⟨bl,off+j,none⟩=some u)/\(∀u∈b,u.oneCell'=true)/\
 (∀w' g m a,vC w w' p g->(∀j u,b[j]? =some u->w'.cell? ⟨m,a+j,none⟩=some u)->gq w' g m a fs)
 |_,[],_=>⟨[],rfl,aA,aA,λ_ _ _ _ _ _=>by simp only[gq]⟩
 |off,.mk cs l::fs,h=>by
  simp only[gq,FC]at h;obtain⟨⟨d,n,v,A,y⟩,B⟩:=h;obtain⟨r,r1,r2,r3,D⟩:=gq.src fs B;refine⟨cs++v::r,by simp[d,r1];omega,λj u c=>?_,λu hu=>?_,λw' g m a z o=>?_⟩
  ·rcases zM j 4 with f|q
   ·rw[mY ah]at c;exact(n j u c).2
   ·rw[wE ah,d]at c;rcases Nat.eq_or_lt_of_le q with e|E
    ·subst e;simp only[AY,kP,aY]at c;subst c;exact A
    ·obtain⟨k,rfl⟩:∃k,j=k+5:=⟨j-5,ah⟩
     rw[(ah:k+5-4=k+1),vk]at c;have:=r2 k u c;rw[(ah:off+(k+5)=off+5+k)];exact this
  ·rcases ny.1 hu with hu|hu
   ·obtain⟨j,c⟩:=NY hu;have:=(n j u c).1;unfold Vs at this;split at this
    ·cases this
    ·exact this
   ·rcases bJ.1 hu with rfl|hu
    ·obtain⟨_,_,_,rfl⟩:=y.ZL;rfl
    ·exact r3 u hu
  ·simp only[gq,FC];refine⟨⟨d,λj x t=>⟨(n j x t).1,?_⟩,v,?_,FS.sub z l y⟩,?_⟩
   ·have f:j<cs.length:=(fH.1 t).1;exact o j x (by rw[mY f];exact t)
   ·exact o 4 v (by rw[wE ah,d];rfl)
   ·refine D w' g m (a+5) z λj u c=>?_;have:=o (j+5) u (by rw[wE ah,d,(ah:j+5-4=j+1),vk];exact c);rw[(ah:a+5+j=a+(j+5))];exact this
def FS.len{w:World}{p:Nat->Prop}{l:Wc}{v:Value}(h:FS w p l v):∃a c,v=.slice a l.length c:=by
 cases l with
 |nil=>simp only[FS]at h;obtain⟨a,c,rfl,_⟩:=h;exact⟨a,c,rfl⟩
 |cons f d=>simp only[FS]at h;obtain⟨g,b,c,rfl,-⟩:=h;exact⟨_,c,rfl⟩
def FS.src{w:World}{p:Nat->Prop}{l:Wc}{v:Value}(h:FS w p l v):(v=.slice none 0 0/\l=[])\/∃k c,∃b:Q6,v=.slice (some k) l.length c/\b.length=l.length*5/\(∀j u,b[j]? =some u->w.cell? (k.add j)=some u)/\(∀u∈b,u.oneCell'=true)/\
 (∀w' m n,vC w w' p m->(∀j u,b[j]? =some u->w'.cell? ⟨n,j,none⟩=some u)->gq w' m n 0 l):=by
 cases l with
 |nil=>
  simp only[FS]at h;obtain⟨a,c,rfl,h⟩:=h;cases a with
  |none=>
   rcases h with⟨_,_,e⟩|rfl
   ·cases e
   ·exact .inl ⟨rfl,rfl⟩
  |some k=>exact .inr ⟨k,c,[],rfl,rfl,aA,aA,λ_ _ _ _ _=>by simp only[gq]⟩
 |cons f r=>
  simp only[FS]at h;obtain⟨o,d,c,rfl,F,G,t,x⟩:=h;obtain⟨b,y,z,A,B⟩:=gq.src (f::r) (by simp only[gq];exact⟨t,x⟩);refine .inr ⟨⟨o,d,none⟩,c,b,rfl,y,λj u q=>?_,A,λw' m n D q=>B w' m n 0 D λj u E=>by rw[kX];exact q j u E⟩;have g:(Addr.mk o d none).add j=⟨o,d+j,none⟩:=by unfold Addr.add;split<;>simp_all
  rw[g];exact z j u q
structure Pk(e:TypeId)(w0 w:World)(p:Nat->Prop):Prop where
 lt:∀b,p b->b<w.heap.size
 el:∀b,p b->w0.heap.size<=b->∃cs,w.heap[b]? =some (.cells cs e (0,0))
def newS(w0:World)(v:Value):Prop:=∀b a n c,v=.slice (some ⟨b,a,none⟩) n c->w0.heap.size<=b
def FS.copied{e:TypeId}{w0 w w':World}{p:Nat->Prop}(r:Pk e w0 w p)(h0:w0.heap.size<=w.heap.size){l:Wc}{v':Value}(d:Q6)
 (y:∀w' t M,vC w w' p t->(∀j u,d[j]? =some u->w'.cell? ⟨M,j,none⟩=some u)->gq w' t M 0 l)
 (k:w'.ownsRow w.heap.size e 5 v' l.length d) (z:w.grownBy w' none):
 ∃t,vC w w' p t/\(∀b,t b->p b\/w.heap.size<=b)/\Pk e w0 w' t/\FS w' t l v'/\newS w0 v':=by
 have m:∀b o,b<w.heap.size->w'.cell? ⟨b,o,none⟩=w.cell? ⟨b,o,none⟩:=λb o a=>adE (w:=w) (z.block b a aA);obtain⟨_,k⟩:=k;rcases k with⟨rfl,P⟩|⟨g,E,R,rfl,F,a,A,_,S,v⟩
 ·have U:l=[]:=jR P;subst U
  exact⟨p,⟨λ_ h=>h,λb o x a G=>by rw[m b o (r.lt b a)];exact G⟩,λ_ h=>.inl h,⟨λb a=>xR (r.lt b a) z.size,λb a H=>by rw[z.block b (r.lt b a) aA];exact r.el b a H⟩,
   by simp only[FS];exact⟨_,_,rfl,.inr rfl⟩,by intro V I n c e;simp at e⟩
 ·have J:g<w'.heap.size:=(qI.1 a).1;have O:vC w w' p (λb=>p b\/b=g):=⟨λ_ h=>.inl h,λb o x a G=>by rw[m b o (r.lt b a)];exact G⟩
  have L:∀j u,d[j]? =some u->w'.cell? ⟨g,j,none⟩=some u:=by
   intro j u D;rw[<-v,lT]at D;split at D
   ·simp only[World.cell?,a];rw[aj aA];simpa using D
   ·cases D
  have q:=y w' _ g O L;refine⟨λb=>p b\/b=g,O,λb a=>a.imp id (λe=>by subst e;exact F),⟨λb a=>?_,λb a H=>?_⟩,?_,?_⟩
  ·rcases a with a|rfl
   ·exact xR (r.lt b a) z.size
   ·exact J
  ·rcases a with B|rfl
   ·rw[z.block b (r.lt b B) aA];exact r.el b B H
   ·exact⟨_,a⟩
  ·cases l with
   |nil=>simp only[FS];exact⟨_,_,rfl,.inl ⟨_,_,rfl⟩⟩
   |cons f W=>simp only[gq]at q;simp only[FS];exact⟨g,0,E,rfl,A,.inr rfl,q.1,q.2⟩
  ·intro V I n c e;simp only[Value.slice.injEq,aY,Addr.mk.injEq]at e;obtain⟨⟨rfl,-⟩,-⟩:=e;omega
def sumW:List (Value×Wc)->Nat
 |[]=>0
 |q::l=>1+oI q.2+sumW l
def ab2:∀(a b:List (Value×Wc)),sumW (a++b)=sumW a+sumW b
 |[],b=>by simp[sumW]
 |q::a,b=>by simp[sumW,ab2 a b];omega
def ab3:∀(a:List (Value×Wc)),a.length<=sumW a
 |[]=>by simp[sumW]
 |q::a=>by have:=ab3 a;simp[sumW];omega
def TB:∀(a:Wc),a.length<=oI a
 |[]=>by simp[oI]
 |.mk cs l::a=>by have:=TB a;simp[oI,cntF];omega
def aeJ:∀{a:Wc}{i:Nat}{cs:Q6}{l:Wc},a[i]? =some (.mk cs l)->oI (a.drop i)=1+oI l+oI (a.drop (i+1))
 |[],i,cs,l,h=>by simp at h
 |x::a,0,cs,l,h=>by simp at h;subst h;simp[oI,cntF]
 |x::a,i+1,cs,l,h=>by simp at h;simpa using aeJ h
structure CB(e:TypeId)(w0:World)(ro:Qf)(xs:Wc)(cv:Value)(w:World)(p:Nat->Prop):Prop where
 below:Below w0.heap.size w0 w
 VL:∀b,p b->b<w0.heap.size->ro b≠none
 pk:Pk e w0 w p
 top:FS w p xs cv
structure Oj(w0 w:World)(p:Nat->Prop)(T:TypeId)(wk:Value)(ws:List (Value×Wc)):Prop where
 own:w.ownsRow w0.heap.size T 1 wk ws.length (ws.map (·.1))
 each:∀q∈ws,FS w p q.2 q.1/\newS w0 q.1
section
variable{e T:TypeId}{w0 w:World}{ro:Qf}{xs l li:Wc}{cv s wk v':Value}{N i:Nat}
def CI(e T:TypeId)(w0:World)(ro:Qf)(xs:Wc)(cv:Value)(N:Nat)(wk:Value)(w:World):Prop:=
 ∃p a,CB e w0 ro xs cv w p/\Oj w0 w p T wk a/\sumW a<=N
def II(e T:TypeId)(w0:World)(ro:Qf)(xs:Wc)(cv:Value)(N:Nat)(l:Wc)(s:Value)(i:Nat)(wk:Value)(w:World):Prop:=
 ∃p a,CB e w0 ro xs cv w p/\Oj w0 w p T wk a/\FS w p l s/\newS w0 s/\sumW a+oI (l.drop i)+1<=N
def MI(e T:TypeId)(w0:World)(ro:Qf)(xs:Wc)(cv:Value)(N:Nat)(l:Wc)(s:Value)(i:Nat)(wk:Value)(w:World)(v':Value)(li:Wc):Prop:=
 ∃p a,CB e w0 ro xs cv w p/\Oj w0 w p T wk a/\FS w p l s/\newS w0 s/\FS w p li v'/\newS w0 v'/\sumW a+(1+oI li)+oI (l.drop i)+1<=N
def VB{base size n:Nat}{xs:Q6}(h:w.ownsRow base T size wk n xs){b:Nat}(a:wk.ownBlock=some b):base<=b/\∃cs,w.heap[b]? =some (.cells cs T (0,0)):=by
 rcases h.2 with⟨rfl,_⟩|⟨g,d,f,rfl,c,j,_⟩
 ·simp[Value.ownBlock]at a
 ·simp only[Value.ownBlock,aY]at a;subst a;exact⟨c,_,j⟩
def ah6{base size n:Nat}{xs:Q6}{w':World}(h:w.ownsRow base T size wk n xs)(f:∀b,wk.ownBlock=some b->w'.heap[b]? =w.heap[b]?):w'.ownsRow base T size wk n xs:=by
 refine⟨h.1,?_⟩;rcases h.2 with j|⟨g,a,c,rfl,d,k,m⟩
 ·exact .inl j
 ·exact .inr ⟨g,a,c,rfl,d,by rw[f g rfl];exact k,m⟩
def Oj.ahY{p:Nat->Prop}{c:List (Value×Wc)}(h:Oj w0 w p T wk c)(d:Pk e w0 w p)(f:e≠T){b:Nat}(g:wk.ownBlock=some b):¬p b:=by intro j;obtain⟨k,o,m⟩:=VB h.own g;obtain⟨n,a⟩:=d.el b j k;rw[m]at a;simp only[aY,Obj.cells.injEq]at a;exact f a.2.1.symm
def Pk.same{w':World}{p:Nat->Prop}(d:Pk e w0 w p)(c:w.heap.size<=w'.heap.size)(h:∀b,p b->w'.heap[b]? =w.heap[b]?):Pk e w0 w' p:=
 ⟨λb a=>xR (d.lt b a) c,λb a f=>by rw[h b a];exact d.el b a f⟩
def vC.of{w':World}{p:Nat->Prop}(h:∀b,p b->w'.heap[b]? =w.heap[b]?):vC w w' p p:=
 ⟨λ_ h=>h,λb o x a c=>by rw[adE (w:=w) (h b a)];exact c⟩
def CI.start{w1:World}{f:Value}(h:∃p,CB e w0 ro xs f w1 p)(k:newS w0 f):CI e T w0 ro xs f (1+oI xs) (.slice (some ⟨w1.heap.size,0,none⟩) 1 1) (w1.alloc (.cells #[f] T)):=by obtain⟨p,c⟩:=h;have d:∀b,p b->(w1.alloc (.cells #[f] T)).heap[b]? =w1.heap[b]?:=λb m=>Below.heap_alloc w1 _ b (c.pk.lt b m);have a:=vC.of d;have g:=World.ownsRow_lit (base:=w0.heap.size) (e:=T) (size:=1) w1 #[f] 1 c.below.size (by unfold maxLen;omega) rfl;refine⟨p,[(f,xs)],⟨c.below.alloc c.below.size _,c.VL,c.pk.same aA d,c.top.sub a⟩,⟨by simpa using g,λq j=>?_⟩,by simp[sumW]⟩;simp only[oz]at j;subst j;exact⟨c.top.sub a,k⟩
def II.len(h:II e T w0 ro xs cv N l s i wk w):∃a c,s=.slice a l.length c:=by obtain⟨p,d,f,g,b,_⟩:=h;exact b.len
def II.bound(h:II e T w0 ro xs cv N l s 0 wk w):l.length<=N:=by obtain⟨p,c,d,f,a,_,b⟩:=h;have:=TB l;simp only[dD]at b;omega
def CI.pop(h:CI e T w0 ro xs cv N wk w):(∃a c,wk=.slice a 0 c/\∃p,CB e w0 ro xs cv w p)\/
 ∃bl cap m s l,wk=.slice (some ⟨bl,0,none⟩) (m+1) cap/\m+1<=cap/\m+1<=N/\w.cell? ⟨bl,m,none⟩=some s/\II e T w0 ro xs cv N l s 0 (.slice (some ⟨bl,0,none⟩) m cap) w:=by
 obtain⟨p,D,x,v,A⟩:=h;rcases akM D with rfl|⟨b,q,rfl⟩
 ·left;rcases v.own.2 with⟨rfl,_⟩|⟨g,cap,f,rfl,_⟩
  ·exact⟨_,_,rfl,p,x⟩
  ·exact⟨_,_,rfl,p,x⟩
 ·right;rcases v.own.2 with⟨_,E⟩|⟨g,cap,f,n,y,B,j,o,z,d⟩
  ·simp at E
  ·have t:(b.concat q).length=b.length+1:=aA;rw[t]at n j d;have u:q∈b.concat q:=aA;obtain⟨F,G⟩:=v.each q u;refine⟨g,cap,b.length,q.1,q.2,n,j,by have:=ab3 (b.concat q);omega,?_,p,b,x,⟨⟨aA,.inr ⟨g,cap,f,rfl,y,B,ah,o,z,?_⟩⟩,λr H=>v.each r (by simp[H])⟩,F,G,?_⟩
   ·have I:f.toList[b.length]? =some q.1:=by
     have k:(f.toList.take ((b.length+1)*1))[b.length]? =some q.1:=by rw[d];simp
     rw[lT]at k;rw[au ah]at k;exact k
    simp only[World.cell?,B];rw[aj aA];simpa using I
   ·have k:(f.toList.take ((b.length+1)*1)).take (b.length*1)=b.map (·.1):=by rw[d];simp
    rw[ado,KE ah]at k;exact k
   ·rw[akL,ab2]at A;simp only[sumW]at A;simp only[dD];omega
def II.done(h:II e T w0 ro xs cv N l s l.length wk w):CI e T w0 ro xs cv (N-1) wk w/\1<=N:=by obtain⟨p,a,b,c,_,_,d⟩:=h;exact⟨⟨p,a,b,c,ah⟩,ah⟩
def MI.skip(h:MI e T w0 ro xs cv N l s i wk w v' li):II e T w0 ro xs cv N l s i wk w:=by obtain⟨p,a,b,c,d,f,_,_,g⟩:=h;exact⟨p,a,b,c,d,f,ah⟩
def MI.push(D:e≠T)(h:MI e T w0 ro xs cv N l s i wk w v' li):∃n A,w.ownsRow w0.heap.size T 1 wk n A/\n+1<=N/\w0.heap.size<=w.heap.size/\
 ∀o v g,g.ownsRow w0.heap.size T 1 v (n+1) (A++[v'])->(w.alloc o).grownBy g wk.ownBlock->II e T w0 ro xs cv N l s i v g:=by
 obtain⟨p,t,c,j,E,F,G,H,L⟩:=h;have B:=ab3 t;refine⟨t.length,t.map (·.1),j.own,ah,c.below.size,λo v g m x=>?_⟩;have r:∀b,p b->some b≠wk.ownBlock:=λb u I=>j.ahY c.pk D I.symm u;have d:∀b,p b->g.heap[b]? =w.heap[b]?:=λb u=>by have y:=c.pk.lt b u;rw[x.block b (by simp;omega) (r b u)];exact Below.heap_alloc w o b y
 have z:w.heap.size<=g.heap.size:=by have:=x.size;simp at this;omega
 have a:=vC.of d;refine⟨p,t++[(v',li)],⟨?_,c.VL,c.pk.same z d,c.top.sub a⟩,⟨by simpa using m,λq f=>?_⟩,E.sub a,F,?_⟩
 ·refine(c.below.alloc c.below.size o).grown x (by simp;have:=c.below.size;omega) λk J=>(VB j.own J).1
 ·rcases ny.1 f with f|f
  ·exact⟨(j.each q f).1.sub a,(j.each q f).2⟩
  ·simp only[oz]at f;subst f;exact⟨G.sub a,H⟩
 ·rw[ab2];simp only[sumW];omega
def II.step(hT:e≠T)(h:II e T w0 ro xs cv N l s i wk w)(hi:i<l.length):∃bl off c li D,∃d:Q6,s=.slice (some ⟨bl,off,none⟩) l.length c/\l.length<=c/\w.cell? ⟨bl,off+i*5+4,none⟩=some D/\
 ((D=.slice none 0 0/\li=[]/\d=[])\/∃W ci,D=.slice (some W) li.length ci/\∀j u,d[j]? =some u->w.cell? (W.add j)=some u)/\d.length=li.length*5/\(∀u∈d,u.oneCell'=true)/\li.length<=N/\
 ∀v' w1,w1.ownsRow w.heap.size e 5 v' li.length d->w.grownBy w1 none->
  w1.cell? ⟨bl,off+i*5+4,none⟩=some D/\w1.frozen? ⟨bl,off+i*5+4,none⟩=false/\(∃a c,v'=.slice a li.length c)/\
  MI e T w0 ro xs cv N l s (i+1) wk (w1.setCell ⟨bl,off+i*5+4,none⟩ v') v' li:=by
 obtain⟨p,ws,t,H,v,I,ai⟩:=h;obtain⟨f,hf⟩:∃f,l[i]? =some f:=⟨_,bT hi⟩
 obtain⟨cs,li⟩:=f;have Y:=v;cases J:l with
 |nil=>rw[J]at hi;simp at hi
 |cons x0 Z=>
 rw[J]at v;simp only[FS]at v;obtain⟨bl,off,c,rfl,hc,X,L,aa⟩:=v;have M:w0.heap.size<=bl:=I _ _ _ _ rfl;have O:FC w p bl (off+i*5) (.mk cs li):=gq.at (fs:=x0::Z) (by simp only[gq];exact⟨L,aa⟩) (by rw[<-J];exact hf);simp only[FC]at O;obtain⟨_,_,D,ZE,P⟩:=O;have ak:=aeJ hf;have al:=TB li;rw[<-J]
 have E:∀d:Q6,(∀w' R oH,vC w w' p R->(∀j u,d[j]? =some u->w'.cell? ⟨oH,j,none⟩=some u)->gq w' R oH 0 li)->
  ∀v' w1,w1.ownsRow w.heap.size e 5 v' li.length d->w.grownBy w1 none->
  w1.cell? ⟨bl,off+i*5+4,none⟩=some D/\w1.frozen? ⟨bl,off+i*5+4,none⟩=false/\(∃a c,v'=.slice a li.length c)/\
  MI e T w0 ro xs cv N l (.slice (some ⟨bl,off,none⟩) (Z.length+1) c) (i+1) wk (w1.setCell ⟨bl,off+i*5+4,none⟩ v') v' li:=by
  intro d hn v' w1 S hg;obtain⟨R,G,s2,s3,s4,s5⟩:=FS.copied t.pk t.below.size d hn S hg;have am:=t.pk.lt bl X;obtain⟨y,z⟩:=s3.el bl (G.sub _ X) M;have m:w1.cell? ⟨bl,off+i*5+4,none⟩=some D:=G.cell _ _ _ X ZE;refine⟨m,by simp only[World.frozen?,z];simp,s4.len,?_⟩;have an:li.length=li.length:=rfl;have g:∀b,b≠bl->(w1.setCell ⟨bl,off+i*5+4,none⟩ v').heap[b]? =w1.heap[b]?:=λb F=>heap_setCell_other w1 ⟨bl,off+i*5+4,none⟩ b v' F;have n:(w1.setCell ⟨bl,off+i*5+4,none⟩ v').heap[bl]? =some (.cells (y.setIfInBounds (off+i*5+4) v') e (0,0)):=heap_setCell_same w1 bl (off+i*5+4) y e v' z;have ab:off+i*5+4<y.size:=by simp only[World.cell?,z]at m;rw[aj aA]at m;exact(qI.1 m).1
  have k:Oc w1 (w1.setCell ⟨bl,off+i*5+4,none⟩ v') R bl (off+i*5+4) li:=by
   refine⟨⟨D,m,P.sub G⟩,⟨v',?_,s4⟩,λb o x F L=>?_⟩
   ·simp only[World.cell?,n];rw[aj aA];simp[ab]
   ·by_cases A:b=bl
    ·have ac:o≠off+i*5+4:=λe2=>F ⟨A,e2⟩;rw[A,cell_of_row w1 bl o y e (0,0) z]at L;rw[A,cell_of_row _ bl o _ e (0,0) n,Df,aj (λe2=>ac e2.symm)];exact L
    ·rw[adE (w:=w1) (g b A)];exact L
  have U:(w1.setCell ⟨bl,off+i*5+4,none⟩ v').heap.size=w1.heap.size:=aA;have ae:∀b,wk.ownBlock=some b->b≠bl:=λb B A=>by subst A;exact H.ahY t.pk hT B X
  have af:Below w0.heap.size w0 w1:=t.below.grown hg t.below.size aA;refine⟨R,ws,⟨af.setCell M v',λb r ag=>?_,⟨λb r=>by rw[U];exact s3.lt b r,λb r h1=>?_⟩,(t.top.sub G).put k⟩,⟨?_,λq hq=>⟨((H.each q hq).1.sub G).put k,(H.each q hq).2⟩⟩,(Y.sub G).put k,I,s4.put k,s5,?_⟩
  ·rcases s2 b r with h1|h1
   ·exact t.VL b h1 ag
   ·have:=t.below.size;omega
  ·by_cases A:b=bl
   ·subst A;exact⟨_,n⟩
   ·rw[g b A];exact s3.el b r h1
  ·refine ah6 H.own λb B=>?_;rw[g b (ae b B)];obtain⟨_,ao,h2⟩:=VB H.own B;exact hg.block b (qI.1 h2).1 aA
  ·omega
 have V:Z.length+1=l.length:=by rw[J];rfl
 rcases P.src with⟨rfl,rfl⟩|⟨W,ci,d,rfl,n1,n2,n3,n4⟩
 ·exact⟨bl,off,c,[],_,[],by rw[V],ah,ZE,.inl ⟨rfl,rfl,rfl⟩,rfl,aA,aA,E [] λ_ _ _ _ _=>by simp only[gq]⟩
 ·exact⟨bl,off,c,li,_,d,by rw[V],ah,ZE,.inr ⟨W,ci,rfl,n2⟩,n1,n3,ah,E d n4⟩
end
def akE{P:Program}(w:World){n:W5}{rest:List Oper}{o:Oper}{a:Act}{Q:Exit->Act->World->Prop}(p:o.guard=none)(s x:Operand)(t:TypeId)
 (F:o.op=.call {callee:=.builtin .append,args:=#[s,x],argTypes:=#[t,t]})
 (e:TypeId) (i:TypeInfo) (z:Value) (b bytes:Nat) (G:P.underlying t=some (.slice e)) (hi:P.info? e=some i) (J:i.zero=some z)
 (k:i.size=b) (A:i.bytes=bytes) (B:z.cells.size=b) (D:0<b)
 (H:a.eval s=.slice none 0 0) (m:Nat) (d:Q6) (E:Value) (q:a.eval x=E)
 (r:(E=.slice none 0 0/\m=0/\d=[])\/∃y c,E=.slice (some y) m c/\∀j u,d[j]? =some u->w.cell? (y.add j)=some u)
 (L:d.length=m*b) (M:∀u∈d,u.oneCell'=true) (O:m<=maxLen) (g:m*bytes<=140737488355328)
 (h:∀v' v,v.ownsRow w.heap.size e b v' m d->w.grownBy v none->wpList P n Q rest (a.put o.dst v') v):wpList P n Q (o::rest) a w:=by
 have f:w.ownsRow w.heap.size e b (.slice none 0 0) 0 []:=⟨aA,.inl ⟨rfl,rfl⟩⟩
 rcases r with⟨r,rfl,rfl⟩|⟨y,c,r,R⟩
 ·refine wpList_plain p λK S=>?_;have U:=run_append_owned_none (P:=P) w w.heap.size t o.type e i b G hi (.slice none 0 0) 0 [] f;unfold Oper.wp execOp;simp only[F,resolve,invoke,builtin,aU,bH,aT,List.map_toArray,iC,jg,H,q,r,U];exact S _ _ (h _ w f ⟨rfl,rfl,rfl,cO _,λ_ _ _=>rfl⟩)
 ·refine wpList_append_own w p s x t F w.heap.size e i z b bytes G hi J k A B D (.slice none 0 0) 0 [] H f y m c d (q.trans r) L R M ah (by rw[kX];exact g) (cO _) λv' v I V _=>?_;rw[kX,bf]at I;exact h v' v I V
def TF{ro:Qf}{a:GV}{x v:Value}(h:FN a=some x)(b:GR ro a v):v=x/\Vs x=true:=by cases a<;>simp only[FN,aY,reduceCtorEq]at h<;>(simp only[GR]at b;subst h;subst b;exact⟨rfl,rfl⟩)
def TI{ro:Qf}{a:GV}{x:Value}(h:FN a=some x):GR ro a x:=by cases a<;>simp only[FN,aY,reduceCtorEq]at h<;>(subst h;simp only[GR])
def ZK:∀(fs:Wc)(xs:Q1),qy fs xs->xs.length=fs.length
 |[],xs,h=>by simp only[qy]at h;subst h;rfl
 |f::fs,xs,h=>by simp only[qy]at h;obtain⟨x,r,rfl,_,a⟩:=h;simp[ZK fs r a]
def agO{ro:Qf}(f:Ft)(x:GV){y:Value}(h:Ea f x)(g:GR ro x y):y.cells.size=5:=by obtain⟨j,l⟩:=f;simp only[Ea]at h;obtain⟨a,b,c,d,k,rfl,_,_⟩:=h;simp only[GR,aS]at g;obtain⟨m,rfl,n,o,rfl,_,p,q,rfl,_,r,t,rfl,_,u,v,rfl,_,z,A,rfl,_,rfl⟩:=g;rfl
mutual
def acY{ro:Qf}{w:World}(d:∀b o,ro b=some o->w.heap[b]? =some o):∀(fs:Wc)(xs:Q1){v:Value},qy fs xs->GR ro (.l xs) v->FS w (λb=>ro b≠none) fs v
 |[],xs,v,k,h=>by
  simp only[qy]at k;subst k;simp only[GR]at h;simp only[FS];rcases h with⟨_,p,rfl⟩|⟨bl,off,c,G,sz,rfl,_⟩
  ·exact⟨_,_,rfl,.inr rfl⟩
  ·exact⟨_,_,rfl,.inl ⟨_,_,rfl⟩⟩
 |f::fs,xs,v,k,h=>by
  simp only[qy]at k;obtain⟨x,r,rfl,A,B⟩:=k;simp only[GR]at h;rcases h with⟨h,_⟩|⟨bl,off,c,G,sz,rfl,H,m,I,J⟩
  ·cases h
  obtain⟨L,n,M,D,R,O⟩:=J aA;have q:r.length=fs.length:=ZK fs r B;simp only[aS]at m;obtain⟨y,t,rfl,E,P⟩:=m;have a:∀j u,(dN (y::t))[j]? =some u->w.cell? ⟨bl,off+j,none⟩=some u:=λj u g=>by rw[cell_of_row w bl (off+j) L n M (d _ _ D)];exact O j u g
  simp only[FS];have F:=agO f x A E;refine⟨bl,off,c,by simp[q],by simp at H;omega,by simp[D],acU d f x A E λj u g=>a j u ?_,acW d fs r B P λj u g=>?_⟩
  ·have z:j<y.cells.toList.length:=(fH.1 g).1;simp only[dN,jS];rw[mY z];exact g
  ·have:=a (5+j) u (by simp only[dN,jS];rw[wE (by simp[F]),show 5+j-y.cells.toList.length=j by simp[F]];exact g)
   rw[(ah:off+5+j=off+(5+j))];exact this
def acU{ro:Qf}{w:World}(p:∀b o,ro b=some o->w.heap[b]? =some o):∀(f:Ft)(x:GV){y:Value}{bl off:Nat},Ea f x->GR ro x y->(∀j u,y.cells.toList[j]? =some u->w.cell? ⟨bl,off+j,none⟩=some u)->FC w (λb=>ro b≠none) bl off f
 |.mk cs l,x,y,bl,off,q,h,n=>by
  simp only[Ea]at q;obtain⟨a,b,c,d,t,rfl,m,v⟩:=q;simp only[GR,aS]at h;obtain⟨P,rfl,R,S,rfl,A,U,V,rfl,B,W,X,rfl,g3,Y,Z,rfl,g4,r,l5,rfl,D,rfl⟩:=h;have E:cs.length=4:=by have:=uH List.length m;simpa using this.symm
  match cs,E with
  |[c1,c2,c3,c4],_=>
  simp only[iC,jg,zI,and_true]at m;obtain⟨F,G,H,I⟩:=m;obtain⟨rfl,J⟩:=TF F A;obtain⟨rfl,L⟩:=TF G B;obtain⟨rfl,M⟩:=TF H g3;obtain⟨rfl,O⟩:=TF I g4;simp only[FC];refine⟨rfl,λj z g=>?_,r,n 4 r rfl,acY p l t v (by simp only[GR];exact D)⟩;match j,g with
  |0,g=>simp only[kP,aY]at g;subst g;exact⟨J,n 0 _ rfl⟩
  |1,g=>simp only[vk,kP,aY]at g;subst g;exact⟨L,n 1 _ rfl⟩
  |2,g=>simp only[vk,kP,aY]at g;subst g;exact⟨M,n 2 _ rfl⟩
  |3,g=>simp only[vk,kP,aY]at g;subst g;exact⟨O,n 3 _ rfl⟩
  |k+4,g=>simp at g
def acW{ro:Qf}{w:World}(a:∀b o,ro b=some o->w.heap[b]? =some o):∀(fs:Wc)(xs:Q1){c:Q6}{bl off:Nat},qy fs xs->aS ro xs c->(∀j u,(dN c)[j]? =some u->w.cell? ⟨bl,off+j,none⟩=some u)->gq w (λb=>ro b≠none) bl off fs
 |[],xs,c,bl,off,g,h,k=>by simp only[gq]
 |f::fs,xs,c,bl,off,g,h,k=>by
  simp only[qy]at g;obtain⟨x,r,rfl,n,t⟩:=g;simp only[aS]at h;obtain⟨y,v,rfl,p,z⟩:=h;simp only[gq];have q:=agO f x n p;refine⟨acU a f x n p λj u d=>k j u ?_,acW a fs r t z λj u d=>?_⟩
  ·have m:j<y.cells.toList.length:=(fH.1 d).1;simp only[dN,jS];rw[mY m];exact d
  ·have:=k (5+j) u (by simp only[dN,jS];rw[wE (by simp[q]),show 5+j-y.cells.toList.length=j by simp[q]];exact d)
   rw[(ah:off+5+j=off+(5+j))];exact this
end
mutual
def acZ{ro:Qf}{w:World}{p:Nat->Prop}(G:∀b,p b->∀o,w.heap[b]? =some o->ro b=some o):∀(fs:Wc)(xs:Q1){v:Value},qy fs xs->FS w p fs v->GR ro (.l xs) v
 |[],xs,v,B,h=>by
  simp only[qy]at B;subst B;simp only[FS]at h;simp only[GR];obtain⟨a,c,rfl,⟨bl,off,rfl⟩|rfl⟩:=h
  ·exact .inr ⟨bl,off,c,[],0,rfl,rZ _,by simp[aS],aA,λP=>absurd rfl P⟩
  ·exact .inl ⟨trivial,_,rfl⟩
 |f::fs,xs,v,B,h=>by
  simp only[qy]at B;obtain⟨x,r,rfl,R,L⟩:=B;simp only[FS]at h;obtain⟨bl,off,c,rfl,hc,H,S,U⟩:=h;have m:r.length=fs.length:=ZK fs r L;obtain⟨y,V,D,W⟩:=acV G f x R S;obtain⟨t,X,M,Y⟩:=acX G fs r L U;simp only[GR];refine .inr ⟨bl,off,c,y::t,5,by simp[m],by simp[m];omega,by simp only[aS];exact⟨y,t,rfl,V,X⟩,λq z=>?_,λ_=>?_⟩
  ·rcases bJ.1 z with rfl|z
   ·exact D
   ·exact M q z
  ·have n:∀j u,(dN (y::t))[j]? =some u->w.cell? ⟨bl,off+j,none⟩=some u:=by
    intro j u A;simp only[dN,jS]at A;rcases zM j 5 with I|J
    ·rw[mY (by simp[D];exact I)]at A;exact W j u A
    ·rw[wE (by simp[D];exact J)]at A;have:=Y (j-5) u (by simpa[D,dN]using A);rw[(ah:off+5+(j-5)=off+j)]at this;exact this
   have h5:(dN (y::t)).length=(t.length+1)*5:=by
    letI:aJ:=Tg [] [] 0
    rw[Ir (sz:=5)]
    ·rfl
    ·intro q z;rcases bJ.1 z with rfl|z
     ·exact D
     ·exact M q z
   obtain⟨u,Z⟩:∃u,(dN (y::t))[(t.length+1)*5-1]? =some u:=⟨_,bT ah⟩
   have g:=n _ u Z;have k:∃E d F,w.heap[bl]? =some (.cells E d F):=by
    simp only[World.cell?]at g;cases O:w.heap[bl]? with
    |none=>simp[O]at g
    |some o=>cases o<;>simp[O]at g<;>exact⟨_,_,_,rfl⟩
   obtain⟨E,d,F,k⟩:=k;refine⟨E,d,F,G bl H _ k,?_,λj u A=>?_⟩
   ·rw[cell_of_row w bl _ E d F k]at g;have:=(qI.1 g).1;omega
   ·have:=n j u A;rw[cell_of_row w bl _ E d F k]at this;exact this
def acV{ro:Qf}{w:World}{p:Nat->Prop}(D:∀b,p b->∀o,w.heap[b]? =some o->ro b=some o):∀(f:Ft)(x:GV){bl off:Nat},Ea f x->FC w p bl off f->∃y,GR ro x y/\y.cells.size=5/\∀j u,y.cells.toList[j]? =some u->w.cell? ⟨bl,off+j,none⟩=some u
 |.mk cs l,x,bl,off,q,h=>by
  simp only[Ea]at q;obtain⟨a,b,c,d,E,rfl,m,F⟩:=q;simp only[FC]at h;obtain⟨G,n,v,H,I⟩:=h;match cs,G with
  |[r,t,z,A],_=>
  simp only[iC,jg,zI,and_true]at m;obtain⟨J,L,M,O⟩:=m;refine⟨.agg #[r,t,z,A,v],?_,rfl,λj u g=>?_⟩
  ·have B:=acZ D l E F I;simp only[GR,aS]at B⊢;exact⟨[r,t,z,A,v],rfl,_,_,rfl,TI J,_,_,rfl,TI L,_,_,rfl,TI M,_,_,rfl,TI O,_,_,rfl,B,rfl⟩
  ·match j,g with
   |0,g=>simp[Value.cells]at g;subst g;exact(n 0 _ rfl).2
   |1,g=>simp[Value.cells]at g;subst g;exact(n 1 _ rfl).2
   |2,g=>simp[Value.cells]at g;subst g;exact(n 2 _ rfl).2
   |3,g=>simp[Value.cells]at g;subst g;exact(n 3 _ rfl).2
   |4,g=>simp[Value.cells]at g;subst g;exact H
   |k+5,g=>simp[Value.cells]at g
def acX{ro:Qf}{w:World}{p:Nat->Prop}(t:∀b,p b->∀o,w.heap[b]? =some o->ro b=some o):∀(fs:Wc)(xs:Q1){bl off:Nat},qy fs xs->gq w p bl off fs->∃a,aS ro xs a/\(∀y∈a,y.cells.size=5)/\∀j u,(dN a)[j]? =some u->w.cell? ⟨bl,off+j,none⟩=some u
 |[],xs,bl,off,c,h=>by simp only[qy]at c;subst c;exact⟨[],by simp[aS],aA,by simp[dN]⟩
 |f::fs,xs,bl,off,c,h=>by
  simp only[qy]at c;obtain⟨x,r,rfl,v,z⟩:=c;simp only[gq]at h;obtain⟨y,A,g,B⟩:=acV t f x v h.1;obtain⟨a,D,E,F⟩:=acX t fs r z h.2;refine⟨y::a,by simp only[aS];exact⟨y,a,rfl,A,D⟩,λq k=>?_,λj u d=>?_⟩
  ·rcases bJ.1 k with rfl|k
   ·exact g
   ·exact E q k
  ·simp only[dN,jS]at d;rcases zM j 5 with m|n
   ·rw[mY (by simp[g];exact m)]at d;exact B j u d
   ·rw[wE (by simp[g];exact n)]at d;have:=F (j-5) u (by simpa[g,dN]using d);rw[(ah:off+5+(j-5)=off+j)]at this;exact this
end
open Classical in
def Ls:Q1->Option Q1
 |[.l xs]=>if ∃fs,qy fs xs/\oI fs<=1099511627776 then some [.l xs]else none
 |_=>none
def aqC{P:Program}{tabs:Qt}{f:FuncId}{e:TypeId}
 (j:∀(v:Value)(fs:Wc)(w:World)(ro:Qf),FS w (λb=>ro b≠none) fs v->(∀b,ro b≠none->b<w.heap.size)->oI fs<=1099511627776->
  Calls P f #[v] w λu w'=>∃v',u=.returned v'/\∃p,CB e w ro fs v' w' p)
 (c:∀args w,(callFunc f args).run P w=.ok (.enter f args) w) {gs k:Q1} (h:Ls gs=some k):ou P tabs f [] [.sc] gs k:=by
 unfold Ls at h;split at h;rotate_left
 ·cases h
 next xs=>
 split at h;rotate_left
 ·cases h
 next z=>
 cases h;obtain⟨fs,m,n⟩:=z;letI:aJ:=Tg [] [] 0
 refine⟨λro w E d q=>?_,rfl⟩;simp only[aS]at q;obtain⟨v,l,rfl,A,rfl⟩:=q;refine .inr ⟨c _ w,Calls.mono' (j v fs w ro (acY d.at' fs xs m A) (λb g=>?_) n) ?_⟩
 ·cases a:ro b with
  |none=>exact absurd a g
  |some o=>exact(qI.1 (d.at' b o a)).1
 ·rintro u w' ⟨v',rfl,p,g⟩
  refine⟨v',rfl,VU ro w w',VX d g.below,[v'],rfl,?_⟩;simp only[aS];refine⟨_,_,rfl,acZ (p:=p) (λb t o x=>?_) fs xs m g.top,rfl⟩;show(if b<w.heap.size then ro b else w'.heap[b]?)=some o
  split
  ·next r=>
   have B:=g.VL b t r;cases a:ro b with
   |none=>exact absurd a B
   |some D=>have y:=d.at' b D a;rw[<-g.below.block b r,x]at y;exact y.symm
  ·exact x
