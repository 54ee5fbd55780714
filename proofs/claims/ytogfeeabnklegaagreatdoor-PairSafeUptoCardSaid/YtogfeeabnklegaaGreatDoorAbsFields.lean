/- Fields that hold fields: what slices of them tell, cell by cell; a write of what tells the same changes nothing. (For field.Clone.) -/
import Derived.Test.YtogfeeabnklegaaGreatDoorAbsTold
import Derived.Laws.OwnMore
set_option linter.all false
namespace Go.aP
open Go.RowKit
noncomputable section
inductive Ft where
 |mk (cs:Q6) (l:List Ft)
abbrev We:=List Ft
mutual
def cntF:Ft->Nat
 |.mk _ l=>1+qM l
def qM:We->Nat
 |[]=>0
 |f::fs=>cntF f+qM fs
end
def XA:Value->Bool
 |.slice ..=>false
 |v=>v.oneCell'
def Hy:GV->Option Value
 |.b x=>some (.bool x)
 |.i k n=>some (.int k n)
 |.s x=>some (.string ⟨⟨x⟩⟩)
 |_=>none
mutual
def Fp:Ft->GV->Prop
 |.mk cs l,x=>∃a b c d f,x=.g [a,b,c,d,.l f]/\[Hy a,Hy b,Hy c,Hy d]=cs.map some/\sQ l f
def sQ:We->List GV->Prop
 |[],xs=>xs=[]
 |f::fs,xs=>∃x r,xs=x::r/\Fp f x/\sQ fs r
end
mutual
def FS(w:World)(p:Nat->Prop):We->Value->Prop
 |[],v=>∃a c,v=.slice a 0 c/\((∃bl off,a=some ⟨bl,off,none⟩)\/c=0)
 |f::fs,v=>∃bl off c,v=.slice (some ⟨bl,off,none⟩) (fs.length+1) c/\fs.length+1<=c/\p bl/\FC w p bl off f/\gY w p bl (off+5) fs
def FC(w:World)(p:Nat->Prop)(bl off:Nat):Ft->Prop
 |.mk cs l=>cs.length=4/\(∀j x,cs[j]? =some x->XA x=true/\w.cell? ⟨bl,off+j,none⟩=some x)/\∃v,w.cell? ⟨bl,off+4,none⟩=some v/\FS w p l v
def gY(w:World)(p:Nat->Prop)(bl off:Nat):We->Prop
 |[]=>True
 |f::fs=>FC w p bl off f/\gY w p bl (off+5) fs
end
mutual
def FS.fn{w:World}{p p':Nat->Prop}:∀(a b:We){v:Value},FS w p a v->FS w p' b v->a=b
 |[],[],_,_,_=>rfl
 |[],f::fs,v,h,d=>by
  simp only[FS]at h d;obtain⟨a,c,rfl,_⟩:=h;obtain⟨o,j,q,e,-⟩:=d;injection e with k r t
  omega
 |f::fs,[],v,h,d=>by
  simp only[FS]at h d;obtain⟨o,j,q,rfl,-⟩:=h;obtain⟨a,c,e,_⟩:=d;injection e with k r t
  omega
 |f::fs,g::x,v,h,d=>by
  simp only[FS]at h d;obtain⟨o,j,c,rfl,-,-,y,z⟩:=h;obtain⟨E,u,q,e,-,-,m,n⟩:=d;injection e with k r t
  injection k with k
  injection k with A D
  subst A D;rw[FC.fn f g y m,gY.fn fs x ah z n]
def FC.fn{w:World}{p p':Nat->Prop}{bl off:Nat}:∀(a b:Ft),FC w p bl off a->FC w p' bl off b->a=b
 |.mk cs l,.mk c k,h,f=>by
  simp only[FC]at h f;obtain⟨y,m,v,n,o⟩:=h;obtain⟨z,q,v',d,r⟩:=f;rw[n]at d;injection d with d
  subst d;have t:cs=c:=by
   apply Jf;intro j;rcases zI j 4 with u|u
   ·have x:=(m j cs[j] (bZ ah)).2;have g:=(q j c[j] (bZ ah)).2;rw[bZ ah,bZ ah];rw[x]at g;exact g
   ·rw[xA ah,xA ah]
  rw[t,FS.fn l k o r]
def gY.fn{w:World}{p p':Nat->Prop}{bl:Nat}:∀{off:Nat}(a b:We),a.length=b.length->gY w p bl off a->gY w p' bl off b->a=b
 |_,[],[],_,_,_=>rfl
 |_,[],_::_,e,_,_=>by simp at e
 |_,_::_,[],e,_,_=>by simp at e
 |_,f::fs,g::gs,e,h,c=>by simp only[gY]at h c;rw[FC.fn f g h.1 c.1,gY.fn fs gs (by simpa using e) h.2 c.2]
end
structure xE(w w':World)(p p':Nat->Prop):Prop where
 sub:∀b,p b->p' b
 cell:∀b o x,p b->w.cell? ⟨b,o,none⟩=some x->w'.cell? ⟨b,o,none⟩=some x
mutual
def FS.sub{w w':World}{p p':Nat->Prop}(h:xE w w' p p'):∀(a:We){v:Value},FS w p a v->FS w' p' a v
 |[],v,b=>by simpa only[FS]using b
 |f::fs,v,b=>by simp only[FS]at b⊢;obtain⟨bl,off,c,e,g,d,h1,j⟩:=b;exact⟨bl,off,c,e,g,h.sub _ d,FC.sub h d f h1,gY.sub h d fs j⟩
def FC.sub{w w':World}{p p':Nat->Prop}(h:xE w w' p p'){bl off:Nat}(b:p bl):∀(a:Ft),FC w p bl off a->FC w' p' bl off a
 |.mk cs l,c=>by simp only[FC]at c⊢;obtain⟨f,d,v,g,k⟩:=c;exact⟨f,λj x e=>⟨(d j x e).1,h.cell _ _ _ b (d j x e).2⟩,v,h.cell _ _ _ b g,FS.sub h l k⟩
def gY.sub{w w':World}{p p':Nat->Prop}(h:xE w w' p p'){bl:Nat}(c:p bl):∀{off:Nat}(a:We),gY w p bl off a->gY w' p' bl off a
 |_,[],_=>by simp only[gY]
 |_,f::fs,b=>by simp only[gY]at b⊢;exact⟨FC.sub h c f b.1,gY.sub h c fs b.2⟩
end
structure Qg(w w':World)(p:Nat->Prop)(B O:Nat)(g:We):Prop where
 old:∃v,w.cell? ⟨B,O,none⟩=some v/\FS w p g v
 new:∃v,w'.cell? ⟨B,O,none⟩=some v/\FS w p g v
 rest:∀b o x,¬(b=B/\o=O)->w.cell? ⟨b,o,none⟩=some x->w'.cell? ⟨b,o,none⟩=some x
def FS.aby{w:World}{p:Nat->Prop}{a:We}{v:Value}(h:FS w p a v):∃x n c,v=.slice x n c:=by
 cases a with
 |nil=>simp only[FS]at h;obtain⟨_,_,rfl,_⟩:=h;exact⟨_,_,_,rfl⟩
 |cons f b=>simp only[FS]at h;obtain⟨_,_,_,rfl,-⟩:=h;exact⟨_,_,_,rfl⟩
def FS.aAe{w w':World}{p:Nat->Prop}{B O:Nat}{g l:We}(h:Qg w w' p B O g){b o:Nat}{v:Value}(a:w.cell? ⟨b,o,none⟩=some v)(c:FS w p l v)
 : ∃z,w'.cell? ⟨b,o,none⟩=some z/\FS w p l z:=by
 by_cases q:b=B/\o=O
 ·obtain⟨u,f,j⟩:=h.old;obtain⟨z,k,d⟩:=h.new;rw[q.1,q.2,f]at a;injection a with a
  subst a;have e:g=l:=FS.fn g l j c;rw[e]at d;exact⟨z,by rw[q.1,q.2];exact k,d⟩
 ·exact⟨v,h.rest _ _ _ q a,c⟩
mutual
def FS.put{w w':World}{p:Nat->Prop}{B O:Nat}{g:We}(h:Qg w w' p B O g):∀(a:We){v:Value},FS w p a v->FS w' p a v
 |[],v,b=>by simpa only[FS]using b
 |f::fs,v,b=>by simp only[FS]at b⊢;obtain⟨bl,off,c,e,d,j,h1,k⟩:=b;exact⟨bl,off,c,e,d,j,FC.put h f h1,gY.put h fs k⟩
def FC.put{w w':World}{p:Nat->Prop}{B O:Nat}{g:We}(h:Qg w w' p B O g){bl off:Nat}:∀(a:Ft),FC w p bl off a->FC w' p bl off a
 |.mk cs l,d=>by
  simp only[FC]at d⊢;obtain⟨f,b,v,k,m⟩:=d;obtain⟨z,n,o⟩:=FS.aAe h k m;refine⟨f,λj x e=>⟨(b j x e).1,h.rest _ _ _ (λq=>?_) (b j x e).2⟩,z,n,FS.put h l o⟩;obtain⟨u,r,t⟩:=h.old;have c:=(b j x e).2;rw[q.1,q.2,r]at c;injection c with c
  have y:=(b j x e).1;obtain⟨_,_,_,rfl⟩:=t.aby
  subst c;simp[XA]at y
def gY.put{w w':World}{p:Nat->Prop}{B O:Nat}{g:We}(h:Qg w w' p B O g){bl:Nat}:∀{off:Nat}(a:We),gY w p bl off a->gY w' p bl off a
 |_,[],_=>by simp only[gY]
 |_,f::fs,b=>by simp only[gY]at b⊢;exact⟨FC.put h f b.1,gY.put h fs b.2⟩
end
def gY.at{w:World}{p:Nat->Prop}{bl:Nat}:∀{off:Nat}{fs:We}{i:Nat}{f:Ft},gY w p bl off fs->fs[i]? =some f->FC w p bl (off+i*5) f
 |off,[],i,f,h,hi=>by simp at hi
 |off,g::fs,0,f,h,hi=>by simp only[gY]at h;simp only[l9,bF]at hi;subst hi;simpa using h.1
 |off,g::fs,i+1,f,h,hi=>by simp only[gY]at h;simp only[xw]at hi;have:=gY.at h.2 hi;rw[(ah:off+(i+1)*5=off+5+i*5)];exact this
def gY.src{w:World}{p:Nat->Prop}{bl:Nat}:∀{off:Nat}(fs:We),gY w p bl off fs->∃b:Q6,b.length=fs.length*5/\(∀j u,b[j]? =some u->w.cell? ⟨bl,off+j,none⟩=some u)/\(∀u∈b,u.oneCell'=true)/\
 (∀w' p' g a,xE w w' p p'->(∀j u,b[j]? =some u->w'.cell? ⟨g,a+j,none⟩=some u)->gY w' p' g a fs)
 |_,[],_=>⟨[],rfl,aA,aA,λ_ _ _ _ _ _=>by simp only[gY]⟩
 |off,.mk cs l::fs,h=>by
  simp only[gY,FC]at h;obtain⟨⟨d,m,v,z,t⟩,A⟩:=h;obtain⟨r,r1,r2,r3,D⟩:=gY.src fs A;refine⟨cs++v::r,by simp[d,r1];omega,λj u c=>?_,λu hu=>?_,λw' p' g a y n=>?_⟩
  ·rcases zI j 4 with f|o
   ·rw[pG ah]at c;exact(m j u c).2
   ·rw[yB ah,d]at c;rcases Nat.eq_or_lt_of_le o with e|E
    ·subst e;simp only[Dh,l9,bF]at c;subst c;exact z
    ·obtain⟨k,rfl⟩:∃k,j=k+5:=⟨j-5,ah⟩
     rw[(ah:k+5-4=k+1),xw]at c;have:=r2 k u c;rw[(ah:off+(k+5)=off+5+k)];exact this
  ·rcases jP.1 hu with hu|hu
   ·obtain⟨j,c⟩:=P9 hu;have:=(m j u c).1;unfold XA at this;split at this
    ·cases this
    ·exact this
   ·rcases bI.1 hu with rfl|hu
    ·obtain⟨_,_,_,rfl⟩:=t.aby;rfl
    ·exact r3 u hu
  ·simp only[gY,FC];refine⟨⟨d,λj x q=>⟨(m j x q).1,?_⟩,v,?_,FS.sub y l t⟩,?_⟩
   ·have f:j<cs.length:=(gu.1 q).1;exact n j x (by rw[pG f];exact q)
   ·exact n 4 v (by rw[yB ah,d];rfl)
   ·refine D w' p' g (a+5) y λj u c=>?_;have:=n (j+5) u (by rw[yB ah,d,(ah:j+5-4=j+1),xw];exact c);rw[(ah:a+5+j=a+(j+5))];exact this
def FS.len{w:World}{p:Nat->Prop}{l:We}{v:Value}(h:FS w p l v):∃a c,v=.slice a l.length c:=by
 cases l with
 |nil=>simp only[FS]at h;obtain⟨a,c,rfl,_⟩:=h;exact⟨a,c,rfl⟩
 |cons f d=>simp only[FS]at h;obtain⟨g,b,c,rfl,-⟩:=h;exact⟨_,c,rfl⟩
def FS.src{w:World}{p:Nat->Prop}{l:We}{v:Value}(h:FS w p l v):(v=.slice none 0 0/\l=[])\/∃k c,∃b:Q6,v=.slice (some k) l.length c/\b.length=l.length*5/\(∀j u,b[j]? =some u->w.cell? (k.add j)=some u)/\(∀u∈b,u.oneCell'=true)/\
 (∀w' p' m,xE w w' p p'->(∀j u,b[j]? =some u->w'.cell? ⟨m,j,none⟩=some u)->gY w' p' m 0 l):=by
 cases l with
 |nil=>
  simp only[FS]at h;obtain⟨a,c,rfl,h⟩:=h;cases a with
  |none=>
   rcases h with⟨_,_,e⟩|rfl
   ·cases e
   ·exact .inl ⟨rfl,rfl⟩
  |some k=>exact .inr ⟨k,c,[],rfl,rfl,aA,aA,λ_ _ _ _ _=>by simp only[gY]⟩
 |cons f q=>
  simp only[FS]at h;obtain⟨n,d,c,rfl,F,G,r,t⟩:=h;obtain⟨b,x,y,z,A⟩:=gY.src (f::q) (by simp only[gY];exact⟨r,t⟩);refine .inr ⟨⟨n,d,none⟩,c,b,rfl,x,λj u o=>?_,z,λw' p' m D o=>A w' p' m 0 D λj u E=>by rw[mQ];exact o j u E⟩;have g:(Addr.mk n d none).add j=⟨n,d+j,none⟩:=by unfold Addr.add;split<;>simp_all
  rw[g];exact y j u o
structure Pk(e:TypeId)(w0 w:World)(p:Nat->Prop):Prop where
 lt:∀b,p b->b<w.heap.size
 el:∀b,p b->w0.heap.size<=b->∃cs,w.heap[b]? =some (.cells cs e (0,0))
def newS(w0:World)(v:Value):Prop:=∀b a n c,v=.slice (some ⟨b,a,none⟩) n c->w0.heap.size<=b
def FS.copied{e:TypeId}{w0 w w':World}{p:Nat->Prop}(r:Pk e w0 w p)(h0:w0.heap.size<=w.heap.size){l:We}{v':Value}(d:Q6)
 (v:∀w' p' M,xE w w' p p'->(∀j u,d[j]? =some u->w'.cell? ⟨M,j,none⟩=some u)->gY w' p' M 0 l)
 (k:w'.ownsRow w.heap.size e 5 v' l.length d) (y:w.grownBy w' none):
 ∃p',xE w w' p p'/\(∀b,p' b->p b\/w.heap.size<=b)/\Pk e w0 w' p'/\FS w' p' l v'/\newS w0 v':=by
 have m:∀b o,b<w.heap.size->w'.cell? ⟨b,o,none⟩=w.cell? ⟨b,o,none⟩:=λb o a=>afe (w:=w) (y.block b a aA);obtain⟨_,k⟩:=k;rcases k with⟨rfl,P⟩|⟨g,E,Q,rfl,F,a,z,_,R,t⟩
 ·have S:l=[]:=kK P;subst S
  exact⟨p,⟨λ_ h=>h,λb o x a G=>by rw[m b o (r.lt b a)];exact G⟩,λ_ h=>.inl h,⟨λb a=>zH (r.lt b a) y.size,λb a H=>by rw[y.block b (r.lt b a) aA];exact r.el b a H⟩,
   by simp only[FS];exact⟨_,_,rfl,.inr rfl⟩,by intro U I n c e;simp at e⟩
 ·have J:g<w'.heap.size:=(tH.1 a).1;have O:xE w w' p (λb=>p b\/b=g):=⟨λ_ h=>.inl h,λb o x a G=>by rw[m b o (r.lt b a)];exact G⟩
  have L:∀j u,d[j]? =some u->w'.cell? ⟨g,j,none⟩=some u:=by
   intro j u D;rw[<-t,oh]at D;split at D
   ·simp only[World.cell?,a];rw[aj aA];simpa using D
   ·cases D
  have q:=v w' _ g O L;refine⟨λb=>p b\/b=g,O,λb a=>a.imp id (λe=>by subst e;exact F),⟨λb a=>?_,λb a H=>?_⟩,?_,?_⟩
  ·rcases a with a|rfl
   ·exact zH (r.lt b a) y.size
   ·exact J
  ·rcases a with A|rfl
   ·rw[y.block b (r.lt b A) aA];exact r.el b A H
   ·exact⟨_,a⟩
  ·cases l with
   |nil=>simp only[FS];exact⟨_,_,rfl,.inl ⟨_,_,rfl⟩⟩
   |cons f V=>simp only[gY]at q;simp only[FS];exact⟨g,0,E,rfl,z,.inr rfl,q.1,q.2⟩
  ·intro U I n c e;simp only[Value.slice.injEq,bF,Addr.mk.injEq]at e;obtain⟨⟨rfl,-⟩,-⟩:=e;omega
def sumW:List (Value×We)->Nat
 |[]=>0
 |q::l=>1+qM q.2+sumW l
def adM:∀(a b:List (Value×We)),sumW (a++b)=sumW a+sumW b
 |[],b=>by simp[sumW]
 |q::a,b=>by simp[sumW,adM a b];omega
def adN:∀(a:List (Value×We)),a.length<=sumW a
 |[]=>by simp[sumW]
 |q::a=>by have:=adN a;simp[sumW];omega
def Vz:∀(a:We),a.length<=qM a
 |[]=>by simp[qM]
 |.mk cs l::a=>by have:=Vz a;simp[qM,cntF];omega
def agn:∀{a:We}{i:Nat}{cs:Q6}{l:We},a[i]? =some (.mk cs l)->qM (a.drop i)=1+qM l+qM (a.drop (i+1))
 |[],i,cs,l,h=>by simp at h
 |x::a,0,cs,l,h=>by simp at h;subst h;simp[qM,cntF]
 |x::a,i+1,cs,l,h=>by simp at h;simpa using agn h
structure CB(e:TypeId)(w0:World)(ro:Qf)(xs:We)(cv:Value)(w:World)(p:Nat->Prop):Prop where
 below:Below w0.heap.size w0 w
 XQ:∀b,p b->b<w0.heap.size->ro b≠none
 pk:Pk e w0 w p
 top:FS w p xs cv
structure Ql(w0 w:World)(p:Nat->Prop)(T:TypeId)(wk:Value)(ws:List (Value×We)):Prop where
 own:w.ownsRow w0.heap.size T 1 wk ws.length (ws.map (·.1))
 each:∀q∈ws,FS w p q.2 q.1/\newS w0 q.1
section
variable{e T:TypeId}{w0 w:World}{ro:Qf}{xs l li:We}{cv s wk v':Value}{N i:Nat}
def CI(e T:TypeId)(w0:World)(ro:Qf)(xs:We)(cv:Value)(N:Nat)(wk:Value)(w:World):Prop:=
 ∃p a,CB e w0 ro xs cv w p/\Ql w0 w p T wk a/\sumW a<=N
def II(e T:TypeId)(w0:World)(ro:Qf)(xs:We)(cv:Value)(N:Nat)(l:We)(s:Value)(i:Nat)(wk:Value)(w:World):Prop:=
 ∃p a,CB e w0 ro xs cv w p/\Ql w0 w p T wk a/\FS w p l s/\newS w0 s/\sumW a+qM (l.drop i)+1<=N
def MI(e T:TypeId)(w0:World)(ro:Qf)(xs:We)(cv:Value)(N:Nat)(l:We)(s:Value)(i:Nat)(wk:Value)(w:World)(v':Value)(li:We):Prop:=
 ∃p a,CB e w0 ro xs cv w p/\Ql w0 w p T wk a/\FS w p l s/\newS w0 s/\FS w p li v'/\newS w0 v'/\sumW a+(1+qM li)+qM (l.drop i)+1<=N
def XG{base size n:Nat}{xs:Q6}(h:w.ownsRow base T size wk n xs){b:Nat}(a:wk.ownBlock=some b):base<=b/\∃cs,w.heap[b]? =some (.cells cs T (0,0)):=by
 rcases h.2 with⟨rfl,_⟩|⟨g,d,f,rfl,c,j,_⟩
 ·simp[Value.ownBlock]at a
 ·simp only[Value.ownBlock,bF]at a;subst a;exact⟨c,_,j⟩
def akf{base size n:Nat}{xs:Q6}{w':World}(h:w.ownsRow base T size wk n xs)(f:∀b,wk.ownBlock=some b->w'.heap[b]? =w.heap[b]?):w'.ownsRow base T size wk n xs:=by
 refine⟨h.1,?_⟩;rcases h.2 with j|⟨g,a,c,rfl,d,k,m⟩
 ·exact .inl j
 ·exact .inr ⟨g,a,c,rfl,d,by rw[f g rfl];exact k,m⟩
def Ql.aj6{p:Nat->Prop}{c:List (Value×We)}(h:Ql w0 w p T wk c)(d:Pk e w0 w p)(f:e≠T){b:Nat}(g:wk.ownBlock=some b):¬p b:=by intro j;obtain⟨k,o,m⟩:=XG h.own g;obtain⟨n,a⟩:=d.el b j k;rw[m]at a;simp only[bF,Obj.cells.injEq]at a;exact f a.2.1.symm
def Pk.same{w':World}{p:Nat->Prop}(d:Pk e w0 w p)(c:w.heap.size<=w'.heap.size)(h:∀b,p b->w'.heap[b]? =w.heap[b]?):Pk e w0 w' p:=
 ⟨λb a=>zH (d.lt b a) c,λb a f=>by rw[h b a];exact d.el b a f⟩
def xE.of{w':World}{p:Nat->Prop}(h:∀b,p b->w'.heap[b]? =w.heap[b]?):xE w w' p p:=
 ⟨λ_ h=>h,λb o x a c=>by rw[afe (w:=w) (h b a)];exact c⟩
def CI.start{w1:World}{f:Value}(h:∃p,CB e w0 ro xs f w1 p)(k:newS w0 f):CI e T w0 ro xs f (1+qM xs) (.slice (some ⟨w1.heap.size,0,none⟩) 1 1) (w1.alloc (.cells #[f] T)):=by obtain⟨p,c⟩:=h;have d:∀b,p b->(w1.alloc (.cells #[f] T)).heap[b]? =w1.heap[b]?:=λb m=>Below.heap_alloc w1 _ b (c.pk.lt b m);have a:=xE.of d;have g:=World.ownsRow_lit (base:=w0.heap.size) (e:=T) (size:=1) w1 #[f] 1 c.below.size (by unfold maxLen;omega) rfl;refine⟨p,[(f,xs)],⟨c.below.alloc c.below.size _,c.XQ,c.pk.same aA d,c.top.sub a⟩,⟨by simpa using g,λq j=>?_⟩,by simp[sumW]⟩;simp only[jW]at j;subst j;exact⟨c.top.sub a,k⟩
def II.len(h:II e T w0 ro xs cv N l s i wk w):∃a c,s=.slice a l.length c:=by obtain⟨p,d,f,g,b,_⟩:=h;exact b.len
def II.bound(h:II e T w0 ro xs cv N l s 0 wk w):l.length<=N:=by obtain⟨p,c,d,f,a,_,b⟩:=h;have:=Vz l;simp only[dY]at b;omega
def CI.pop(h:CI e T w0 ro xs cv N wk w):(∃a c,wk=.slice a 0 c/\∃p,CB e w0 ro xs cv w p)\/
 ∃bl cap m s l,wk=.slice (some ⟨bl,0,none⟩) (m+1) cap/\m+1<=cap/\m+1<=N/\w.cell? ⟨bl,m,none⟩=some s/\II e T w0 ro xs cv N l s 0 (.slice (some ⟨bl,0,none⟩) m cap) w:=by
 obtain⟨p,E,x,v,A⟩:=h;rcases ano E with rfl|⟨b,q,rfl⟩
 ·left;rcases v.own.2 with⟨rfl,_⟩|⟨g,cap,f,rfl,_⟩
  ·exact⟨_,_,rfl,p,x⟩
  ·exact⟨_,_,rfl,p,x⟩
 ·right;rcases v.own.2 with⟨_,F⟩|⟨g,cap,f,n,y,D,j,o,z,d⟩
  ·simp at F
  ·have t:(b.concat q).length=b.length+1:=aA;rw[t]at n j d;have u:q∈b.concat q:=aA;obtain⟨G,H⟩:=v.each q u;refine⟨g,cap,b.length,q.1,q.2,n,j,by have:=adN (b.concat q);omega,?_,p,b,x,⟨⟨aA,.inr ⟨g,cap,f,rfl,y,D,ah,o,z,?_⟩⟩,λr I=>v.each r (by simp[I])⟩,G,H,?_⟩
   ·have J:f.toList[b.length]? =some q.1:=by
     have k:(f.toList.take ((b.length+1)*1))[b.length]? =some q.1:=by rw[d];simp
     rw[oh]at k;rw[au ah]at k;exact k
    simp only[World.cell?,D];rw[aj aA];simpa using J
   ·have k:(f.toList.take ((b.length+1)*1)).take (b.length*1)=b.map (·.1):=by rw[d];simp
    rw[aeZ,MX ah]at k;exact k
   ·rw[anm,adM]at A;simp only[sumW]at A;simp only[dY];omega
def II.done(h:II e T w0 ro xs cv N l s l.length wk w):CI e T w0 ro xs cv (N-1) wk w/\1<=N:=by obtain⟨p,a,b,c,_,_,d⟩:=h;exact⟨⟨p,a,b,c,ah⟩,ah⟩
def MI.skip(h:MI e T w0 ro xs cv N l s i wk w v' li):II e T w0 ro xs cv N l s i wk w:=by obtain⟨p,a,b,c,d,f,_,_,g⟩:=h;exact⟨p,a,b,c,d,f,ah⟩
def MI.push(E:e≠T)(h:MI e T w0 ro xs cv N l s i wk w v' li):∃n A,w.ownsRow w0.heap.size T 1 wk n A/\n+1<=N/\w0.heap.size<=w.heap.size/\
 ∀o v g,g.ownsRow w0.heap.size T 1 v (n+1) (A++[v'])->(w.alloc o).grownBy g wk.ownBlock->II e T w0 ro xs cv N l s i v g:=by
 obtain⟨p,t,c,j,F,G,H,I,M⟩:=h;have D:=adN t;refine⟨t.length,t.map (·.1),j.own,ah,c.below.size,λo v g m x=>?_⟩;have r:∀b,p b->some b≠wk.ownBlock:=λb u J=>j.aj6 c.pk E J.symm u;have d:∀b,p b->g.heap[b]? =w.heap[b]?:=λb u=>by have y:=c.pk.lt b u;rw[x.block b (by simp;omega) (r b u)];exact Below.heap_alloc w o b y
 have z:w.heap.size<=g.heap.size:=by have:=x.size;simp at this;omega
 have a:=xE.of d;refine⟨p,t++[(v',li)],⟨?_,c.XQ,c.pk.same z d,c.top.sub a⟩,⟨by simpa using m,λq f=>?_⟩,F.sub a,G,?_⟩
 ·refine(c.below.alloc c.below.size o).grown x (by simp;have:=c.below.size;omega) λk L=>(XG j.own L).1
 ·rcases jP.1 f with f|f
  ·exact⟨(j.each q f).1.sub a,(j.each q f).2⟩
  ·simp only[jW]at f;subst f;exact⟨H.sub a,I⟩
 ·rw[adM];simp only[sumW];omega
def II.step(hT:e≠T)(h:II e T w0 ro xs cv N l s i wk w)(hi:i<l.length):∃bl off c li E,∃d:Q6,s=.slice (some ⟨bl,off,none⟩) l.length c/\l.length<=c/\w.cell? ⟨bl,off+i*5+4,none⟩=some E/\
 ((E=.slice none 0 0/\li=[]/\d=[])\/∃X ci,E=.slice (some X) li.length ci/\∀j u,d[j]? =some u->w.cell? (X.add j)=some u)/\d.length=li.length*5/\(∀u∈d,u.oneCell'=true)/\li.length<=N/\
 ∀v' w1,w1.ownsRow w.heap.size e 5 v' li.length d->w.grownBy w1 none->
  w1.cell? ⟨bl,off+i*5+4,none⟩=some E/\w1.frozen? ⟨bl,off+i*5+4,none⟩=false/\(∃a c,v'=.slice a li.length c)/\
  MI e T w0 ro xs cv N l s (i+1) wk (w1.setCell ⟨bl,off+i*5+4,none⟩ v') v' li:=by
 obtain⟨p,ws,t,J,v,L,ai⟩:=h;obtain⟨f,hf⟩:∃f,l[i]? =some f:=⟨_,bZ hi⟩
 obtain⟨cs,li⟩:=f;have Z:=v;cases M:l with
 |nil=>rw[M]at hi;simp at hi
 |cons x0 l0=>
 rw[M]at v;simp only[FS]at v;obtain⟨bl,off,c,rfl,hc,Y,O,aa⟩:=v;have P:w0.heap.size<=bl:=L _ _ _ _ rfl;have Q:FC w p bl (off+i*5) (.mk cs li):=gY.at (fs:=x0::l0) (by simp only[gY];exact⟨O,aa⟩) (by rw[<-M];exact hf);simp only[FC]at Q;obtain⟨_,_,E,G,R⟩:=Q;have ak:=agn hf;have al:=Vz li;rw[<-M]
 have F:∀d:Q6,(∀w' S qL,xE w w' p S->(∀j u,d[j]? =some u->w'.cell? ⟨qL,j,none⟩=some u)->gY w' S qL 0 li)->
  ∀v' w1,w1.ownsRow w.heap.size e 5 v' li.length d->w.grownBy w1 none->
  w1.cell? ⟨bl,off+i*5+4,none⟩=some E/\w1.frozen? ⟨bl,off+i*5+4,none⟩=false/\(∃a c,v'=.slice a li.length c)/\
  MI e T w0 ro xs cv N l (.slice (some ⟨bl,off,none⟩) (l0.length+1) c) (i+1) wk (w1.setCell ⟨bl,off+i*5+4,none⟩ v') v' li:=by
  intro d hn v' w1 U hg;obtain⟨S,I,s2,s3,s4,s5⟩:=FS.copied t.pk t.below.size d hn U hg;have am:=t.pk.lt bl Y;obtain⟨y,z⟩:=s3.el bl (I.sub _ Y) P;have m:w1.cell? ⟨bl,off+i*5+4,none⟩=some E:=I.cell _ _ _ Y G;refine⟨m,by simp only[World.frozen?,z];simp,s4.len,?_⟩;have an:li.length=li.length:=rfl;have g:∀b,b≠bl->(w1.setCell ⟨bl,off+i*5+4,none⟩ v').heap[b]? =w1.heap[b]?:=λb H=>heap_setCell_other w1 ⟨bl,off+i*5+4,none⟩ b v' H;have n:(w1.setCell ⟨bl,off+i*5+4,none⟩ v').heap[bl]? =some (.cells (y.setIfInBounds (off+i*5+4) v') e (0,0)):=heap_setCell_same w1 bl (off+i*5+4) y e v' z;have ab:off+i*5+4<y.size:=by simp only[World.cell?,z]at m;rw[aj aA]at m;exact(tH.1 m).1
  have k:Qg w1 (w1.setCell ⟨bl,off+i*5+4,none⟩ v') S bl (off+i*5+4) li:=by
   refine⟨⟨E,m,R.sub I⟩,⟨v',?_,s4⟩,λb o x H O=>?_⟩
   ·simp only[World.cell?,n];rw[aj aA];simp[ab]
   ·by_cases A:b=bl
    ·have ac:o≠off+i*5+4:=λe2=>H ⟨A,e2⟩;rw[A,cell_of_row w1 bl o y e (0,0) z]at O;rw[A,cell_of_row _ bl o _ e (0,0) n,Es,aj (λe2=>ac e2.symm)];exact O
    ·rw[afe (w:=w1) (g b A)];exact O
  have V:(w1.setCell ⟨bl,off+i*5+4,none⟩ v').heap.size=w1.heap.size:=aA;have ae:∀b,wk.ownBlock=some b->b≠bl:=λb D A=>by subst A;exact J.aj6 t.pk hT D Y
  have af:Below w0.heap.size w0 w1:=t.below.grown hg t.below.size aA;refine⟨S,ws,⟨af.setCell P v',λb r ag=>?_,⟨λb r=>by rw[V];exact s3.lt b r,λb r h1=>?_⟩,(t.top.sub I).put k⟩,⟨?_,λq hq=>⟨((J.each q hq).1.sub I).put k,(J.each q hq).2⟩⟩,(Z.sub I).put k,L,s4.put k,s5,?_⟩
  ·rcases s2 b r with h1|h1
   ·exact t.XQ b h1 ag
   ·have:=t.below.size;omega
  ·by_cases A:b=bl
   ·subst A;exact⟨_,n⟩
   ·rw[g b A];exact s3.el b r h1
  ·refine akf J.own λb D=>?_;rw[g b (ae b D)];obtain⟨_,ao,h2⟩:=XG J.own D;exact hg.block b (tH.1 h2).1 aA
  ·omega
 have W:l0.length+1=l.length:=by rw[M];rfl
 rcases R.src with⟨rfl,rfl⟩|⟨X,ci,d,rfl,n1,n2,n3,n4⟩
 ·exact⟨bl,off,c,[],_,[],by rw[W],ah,G,.inl ⟨rfl,rfl,rfl⟩,rfl,aA,aA,F [] λ_ _ _ _ _=>by simp only[gY]⟩
 ·exact⟨bl,off,c,li,_,d,by rw[W],ah,G,.inr ⟨X,ci,rfl,n2⟩,n1,n3,ah,F d n4⟩
end
def ane{P:Program}(w:World){n:W6}{rest:List Oper}{o:Oper}{a:Act}{Q:Exit->Act->World->Prop}(p:o.guard=none)(s x:Operand)(t:TypeId)
 (G:o.op=.call {callee:=.builtin .append,args:=#[s,x],argTypes:=#[t,t]})
 (e:TypeId) (i:TypeInfo) (z:Value) (b bytes:Nat) (H:P.underlying t=some (.slice e)) (hi:P.info? e=some i) (L:i.zero=some z)
 (k:i.size=b) (A:i.bytes=bytes) (D:z.cells.size=b) (E:0<b)
 (I:a.eval s=.slice none 0 0) (m:Nat) (d:Q6) (F:Value) (q:a.eval x=F)
 (r:(F=.slice none 0 0/\m=0/\d=[])\/∃y c,F=.slice (some y) m c/\∀j u,d[j]? =some u->w.cell? (y.add j)=some u)
 (M:d.length=m*b) (O:∀u∈d,u.oneCell'=true) (R:m<=maxLen) (g:m*bytes<=140737488355328)
 (h:∀v' v,v.ownsRow w.heap.size e b v' m d->w.grownBy v none->wpList P n Q rest (a.put o.dst v') v):wpList P n Q (o::rest) a w:=by
 have f:w.ownsRow w.heap.size e b (.slice none 0 0) 0 []:=⟨aA,.inl ⟨rfl,rfl⟩⟩
 rcases r with⟨r,rfl,rfl⟩|⟨y,c,r,S⟩
 ·refine wpList_plain p λK U=>?_;have V:=run_append_owned_none (P:=P) w w.heap.size t o.type e i b H hi (.slice none 0 0) 0 [] f;unfold Oper.wp execOp;simp only[G,resolve,invoke,builtin,aZ,bQ,aY,List.map_toArray,iU,jH,I,q,r,V];exact U _ _ (h _ w f ⟨rfl,rfl,rfl,dP _,λ_ _ _=>rfl⟩)
 ·refine wpList_append_own w p s x t G w.heap.size e i z b bytes H hi L k A D E (.slice none 0 0) 0 [] I f y m c d (q.trans r) M S O ah (by rw[mQ];exact g) (dP _) λv' v J W _=>?_;rw[mQ,aX]at J;exact h v' v J W
def VE{ro:Qf}{a:GV}{x v:Value}(h:Hy a=some x)(b:GR ro a v):v=x/\XA x=true:=by cases a<;>simp only[Hy,bF,reduceCtorEq]at h<;>(simp only[GR]at b;subst h;subst b;exact⟨rfl,rfl⟩)
def VF{ro:Qf}{a:GV}{x:Value}(h:Hy a=some x):GR ro a x:=by cases a<;>simp only[Hy,bF,reduceCtorEq]at h<;>(subst h;simp only[GR])
def abx:∀(fs:We)(xs:Q1),sQ fs xs->xs.length=fs.length
 |[],xs,h=>by simp only[sQ]at h;subst h;rfl
 |f::fs,xs,h=>by simp only[sQ]at h;obtain⟨x,r,rfl,_,a⟩:=h;simp[abx fs r a]
def aiN{ro:Qf}(f:Ft)(x:GV){y:Value}(h:Fp f x)(g:GR ro x y):y.cells.size=5:=by obtain⟨j,l⟩:=f;simp only[Fp]at h;obtain⟨a,b,c,d,k,rfl,_,_⟩:=h;simp only[GR,aU]at g;obtain⟨m,rfl,n,o,rfl,_,p,q,rfl,_,r,t,rfl,_,u,v,rfl,_,z,A,rfl,_,rfl⟩:=g;rfl
mutual
def aez{ro:Qf}{w:World}(d:∀b o,ro b=some o->w.heap[b]? =some o):∀(fs:We)(xs:Q1){v:Value},sQ fs xs->GR ro (.l xs) v->FS w (λb=>ro b≠none) fs v
 |[],xs,v,k,h=>by
  simp only[sQ]at k;subst k;simp only[GR]at h;simp only[FS];rcases h with⟨_,p,rfl⟩|⟨bl,off,c,I,sz,rfl,_⟩
  ·exact⟨_,_,rfl,.inr rfl⟩
  ·exact⟨_,_,rfl,.inl ⟨_,_,rfl⟩⟩
 |f::fs,xs,v,k,h=>by
  simp only[sQ]at k;obtain⟨x,r,rfl,D,E⟩:=k;simp only[GR]at h;rcases h with⟨h,_⟩|⟨bl,off,c,I,sz,rfl,J,m,L,M⟩
  ·cases h
  obtain⟨O,n,P,F,R,Q⟩:=M aA;have q:r.length=fs.length:=abx fs r E;simp only[aU]at m;obtain⟨y,t,rfl,G,z⟩:=m;have a:∀j u,(eP (y::t))[j]? =some u->w.cell? ⟨bl,off+j,none⟩=some u:=λj u g=>by rw[cell_of_row w bl (off+j) O n P (d _ _ F)];exact Q j u g
  simp only[FS];have H:=aiN f x D G;refine⟨bl,off,c,by simp[q],by simp at J;omega,by simp[F],aev d f x D G λj u g=>a j u ?_,aex d fs r E z λj u g=>?_⟩
  ·have A:j<y.cells.toList.length:=(gu.1 g).1;simp only[eP,kV];rw[pG A];exact g
  ·have:=a (5+j) u (by simp only[eP,kV];rw[yB (by simp[H]),show 5+j-y.cells.toList.length=j by simp[H]];exact g)
   rw[(ah:off+5+j=off+(5+j))];exact this
def aev{ro:Qf}{w:World}(p:∀b o,ro b=some o->w.heap[b]? =some o):∀(f:Ft)(x:GV){y:Value}{bl off:Nat},Fp f x->GR ro x y->(∀j u,y.cells.toList[j]? =some u->w.cell? ⟨bl,off+j,none⟩=some u)->FC w (λb=>ro b≠none) bl off f
 |.mk cs l,x,y,bl,off,q,h,n=>by
  simp only[Fp]at q;obtain⟨a,b,c,d,t,rfl,m,v⟩:=q;simp only[GR,aU]at h;obtain⟨Q,rfl,R,S,rfl,A,U,V,rfl,g2,W,X,rfl,g3,Y,Z,rfl,D,r,l5,rfl,E,rfl⟩:=h;have F:cs.length=4:=by have:=uS List.length m;simpa using this.symm
  match cs,F with
  |[c1,c2,c3,c4],_=>
  simp only[iU,jH,yA,and_true]at m;obtain⟨G,H,I,J⟩:=m;obtain⟨rfl,L⟩:=VE G A;obtain⟨rfl,M⟩:=VE H g2;obtain⟨rfl,O⟩:=VE I g3;obtain⟨rfl,P⟩:=VE J D;simp only[FC];refine⟨rfl,λj z g=>?_,r,n 4 r rfl,aez p l t v (by simp only[GR];exact E)⟩;match j,g with
  |0,g=>simp only[l9,bF]at g;subst g;exact⟨L,n 0 _ rfl⟩
  |1,g=>simp only[xw,l9,bF]at g;subst g;exact⟨M,n 1 _ rfl⟩
  |2,g=>simp only[xw,l9,bF]at g;subst g;exact⟨O,n 2 _ rfl⟩
  |3,g=>simp only[xw,l9,bF]at g;subst g;exact⟨P,n 3 _ rfl⟩
  |k+4,g=>simp at g
def aex{ro:Qf}{w:World}(a:∀b o,ro b=some o->w.heap[b]? =some o):∀(fs:We)(xs:Q1){c:Q6}{bl off:Nat},sQ fs xs->aU ro xs c->(∀j u,(eP c)[j]? =some u->w.cell? ⟨bl,off+j,none⟩=some u)->gY w (λb=>ro b≠none) bl off fs
 |[],xs,c,bl,off,g,h,k=>by simp only[gY]
 |f::fs,xs,c,bl,off,g,h,k=>by
  simp only[sQ]at g;obtain⟨x,r,rfl,p,v⟩:=g;simp only[aU]at h;obtain⟨y,z,rfl,q,m⟩:=h;simp only[gY];have t:=aiN f x p q;refine⟨aev a f x p q λj u d=>k j u ?_,aex a fs r v m λj u d=>?_⟩
  ·have n:j<y.cells.toList.length:=(gu.1 d).1;simp only[eP,kV];rw[pG n];exact d
  ·have:=k (5+j) u (by simp only[eP,kV];rw[yB (by simp[t]),show 5+j-y.cells.toList.length=j by simp[t]];exact d)
   rw[(ah:off+5+j=off+(5+j))];exact this
end
mutual
def aeA{ro:Qf}{w:World}{p:Nat->Prop}(H:∀b,p b->∀o,w.heap[b]? =some o->ro b=some o):∀(fs:We)(xs:Q1){v:Value},sQ fs xs->FS w p fs v->GR ro (.l xs) v
 |[],xs,v,D,h=>by
  simp only[sQ]at D;subst D;simp only[FS]at h;simp only[GR];obtain⟨a,c,rfl,⟨bl,off,rfl⟩|rfl⟩:=h
  ·exact .inr ⟨bl,off,c,[],0,rfl,vG _,by simp[aU],aA,λQ=>absurd rfl Q⟩
  ·exact .inl ⟨trivial,_,rfl⟩
 |f::fs,xs,v,D,h=>by
  simp only[sQ]at D;obtain⟨x,r,rfl,R,M⟩:=D;simp only[FS]at h;obtain⟨bl,off,c,rfl,hc,I,S,U⟩:=h;have m:r.length=fs.length:=abx fs r M;obtain⟨y,V,E,W⟩:=aew H f x R S;obtain⟨t,X,O,Y⟩:=aey H fs r M U;simp only[GR];refine .inr ⟨bl,off,c,y::t,5,by simp[m],by simp[m];omega,by simp only[aU];exact⟨y,t,rfl,V,X⟩,λq z=>?_,λ_=>?_⟩
  ·rcases bI.1 z with rfl|z
   ·exact E
   ·exact O q z
  ·have n:∀j u,(eP (y::t))[j]? =some u->w.cell? ⟨bl,off+j,none⟩=some u:=by
    intro j u A;simp only[eP,kV]at A;rcases zI j 5 with J|L
    ·rw[pG (by simp[E];exact J)]at A;exact W j u A
    ·rw[yB (by simp[E];exact L)]at A;have:=Y (j-5) u (by simpa[E,eP]using A);rw[(ah:off+5+(j-5)=off+j)]at this;exact this
   have h5:(eP (y::t)).length=(t.length+1)*5:=by
    letI:aJ:=Tg [] [] 0
    rw[JL (sz:=5)]
    ·rfl
    ·intro q z;rcases bI.1 z with rfl|z
     ·exact E
     ·exact O q z
   obtain⟨u,Z⟩:∃u,(eP (y::t))[(t.length+1)*5-1]? =some u:=⟨_,bZ ah⟩
   have g:=n _ u Z;have k:∃F d G,w.heap[bl]? =some (.cells F d G):=by
    simp only[World.cell?]at g;cases P:w.heap[bl]? with
    |none=>simp[P]at g
    |some o=>cases o<;>simp[P]at g<;>exact⟨_,_,_,rfl⟩
   obtain⟨F,d,G,k⟩:=k;refine⟨F,d,G,H bl I _ k,?_,λj u A=>?_⟩
   ·rw[cell_of_row w bl _ F d G k]at g;have:=(tH.1 g).1;omega
   ·have:=n j u A;rw[cell_of_row w bl _ F d G k]at this;exact this
def aew{ro:Qf}{w:World}{p:Nat->Prop}(E:∀b,p b->∀o,w.heap[b]? =some o->ro b=some o):∀(f:Ft)(x:GV){bl off:Nat},Fp f x->FC w p bl off f->∃y,GR ro x y/\y.cells.size=5/\∀j u,y.cells.toList[j]? =some u->w.cell? ⟨bl,off+j,none⟩=some u
 |.mk cs l,x,bl,off,q,h=>by
  simp only[Fp]at q;obtain⟨a,b,c,d,F,rfl,m,G⟩:=q;simp only[FC]at h;obtain⟨H,n,v,I,J⟩:=h;match cs,H with
  |[r,t,z,A],_=>
  simp only[iU,jH,yA,and_true]at m;obtain⟨L,M,O,P⟩:=m;refine⟨.agg #[r,t,z,A,v],?_,rfl,λj u g=>?_⟩
  ·have D:=aeA E l F G J;simp only[GR,aU]at D⊢;exact⟨[r,t,z,A,v],rfl,_,_,rfl,VF L,_,_,rfl,VF M,_,_,rfl,VF O,_,_,rfl,VF P,_,_,rfl,D,rfl⟩
  ·match j,g with
   |0,g=>simp[Value.cells]at g;subst g;exact(n 0 _ rfl).2
   |1,g=>simp[Value.cells]at g;subst g;exact(n 1 _ rfl).2
   |2,g=>simp[Value.cells]at g;subst g;exact(n 2 _ rfl).2
   |3,g=>simp[Value.cells]at g;subst g;exact(n 3 _ rfl).2
   |4,g=>simp[Value.cells]at g;subst g;exact I
   |k+5,g=>simp[Value.cells]at g
def aey{ro:Qf}{w:World}{p:Nat->Prop}(t:∀b,p b->∀o,w.heap[b]? =some o->ro b=some o):∀(fs:We)(xs:Q1){bl off:Nat},sQ fs xs->gY w p bl off fs->∃a,aU ro xs a/\(∀y∈a,y.cells.size=5)/\∀j u,(eP a)[j]? =some u->w.cell? ⟨bl,off+j,none⟩=some u
 |[],xs,bl,off,c,h=>by simp only[sQ]at c;subst c;exact⟨[],by simp[aU],aA,by simp[eP]⟩
 |f::fs,xs,bl,off,c,h=>by
  simp only[sQ]at c;obtain⟨x,r,rfl,v,z⟩:=c;simp only[gY]at h;obtain⟨y,A,g,D⟩:=aew t f x v h.1;obtain⟨a,E,F,G⟩:=aey t fs r z h.2;refine⟨y::a,by simp only[aU];exact⟨y,a,rfl,A,E⟩,λq k=>?_,λj u d=>?_⟩
  ·rcases bI.1 k with rfl|k
   ·exact g
   ·exact F q k
  ·simp only[eP,kV]at d;rcases zI j 5 with m|n
   ·rw[pG (by simp[g];exact m)]at d;exact D j u d
   ·rw[yB (by simp[g];exact n)]at d;have:=G (j-5) u (by simpa[g,eP]using d);rw[(ah:off+5+(j-5)=off+j)]at this;exact this
end
open Classical in
def NY:Q1->Option Q1
 |[.l xs]=>if ∃fs,sQ fs xs/\qM fs<=1099511627776 then some [.l xs]else none
 |_=>none
def atW{P:Program}{tabs:QP}{f:FuncId}{e:TypeId}
 (j:∀(v:Value)(fs:We)(w:World)(ro:Qf),FS w (λb=>ro b≠none) fs v->(∀b,ro b≠none->b<w.heap.size)->qM fs<=1099511627776->
  Calls P f #[v] w λu w'=>∃v',u=.returned v'/\∃p,CB e w ro fs v' w' p)
 (c:∀args w,(callFunc f args).run P w=.ok (.enter f args) w) {gs k:Q1} (h:NY gs=some k):qG P tabs f [] [.sc] gs k:=by
 unfold NY at h;split at h;rotate_left
 ·cases h
 next xs=>
 split at h;rotate_left
 ·cases h
 next z=>
 cases h;obtain⟨fs,m,n⟩:=z;letI:aJ:=Tg [] [] 0
 refine⟨λro w F d q=>?_,rfl⟩;simp only[aU]at q;obtain⟨v,l,rfl,A,rfl⟩:=q;refine .inr ⟨c _ w,Calls.mono' (j v fs w ro (aez d.at' fs xs m A) (λb g=>?_) n) ?_⟩
 ·cases a:ro b with
  |none=>exact absurd a g
  |some o=>exact(tH.1 (d.at' b o a)).1
 ·rintro u w' ⟨v',rfl,p,g⟩
  refine⟨v',rfl,X3 ro w w',X5 d g.below,[v'],rfl,?_⟩;simp only[aU];refine⟨_,_,rfl,aeA (p:=p) (λb t o x=>?_) fs xs m g.top,rfl⟩;show(if b<w.heap.size then ro b else w'.heap[b]?)=some o
  split
  ·next r=>
   have D:=g.XQ b t r;cases a:ro b with
   |none=>exact absurd a D
   |some E=>have y:=d.at' b E a;rw[<-g.below.block b r,x]at y;exact y.symm
  ·exact x
