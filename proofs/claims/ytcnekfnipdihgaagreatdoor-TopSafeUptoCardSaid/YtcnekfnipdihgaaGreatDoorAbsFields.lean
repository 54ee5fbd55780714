/- Fields that hold fields: what slices of them tell, cell by cell; a write of what tells the same changes nothing. (For field.Clone.) -/
import Derived.Test.YtcnekfnipdihgaaGreatDoorAbsTold
import Derived.Laws.OwnMore
set_option linter.all false
namespace Go.aP
open Go.RowKit
noncomputable section
inductive Ft where
 |mk (cs:Qt) (l:List Ft)
abbrev Wf:=List Ft
mutual
def cntF:Ft->Nat
 |.mk _ l=>1+pY l
def pY:Wf->Nat
 |[]=>0
 |f::fs=>cntF f+pY fs
end
def Xw:Value->Bool
 |.slice ..=>false
 |v=>v.oneCell'
def GK:GV->Option Value
 |.b x=>some (.bool x)
 |.i k n=>some (.int k n)
 |.s x=>some (.string ⟨⟨x⟩⟩)
 |_=>none
mutual
def EM:Ft->GV->Prop
 |.mk cs l,x=>∃a b c d f,x=.g [a,b,c,d,.l f]/\[GK a,GK b,GK c,GK d]=cs.map some/\rM l f
def rM:Wf->List GV->Prop
 |[],xs=>xs=[]
 |f::fs,xs=>∃x r,xs=x::r/\EM f x/\rM fs r
end
mutual
def FS(w:World)(p:Nat->Prop):Wf->Value->Prop
 |[],v=>∃a c,v=.slice a 0 c/\((∃bl off,a=some ⟨bl,off,none⟩)\/c=0)
 |f::fs,v=>∃bl off c,v=.slice (some ⟨bl,off,none⟩) (fs.length+1) c/\fs.length+1<=c/\p bl/\FC w p bl off f/\gV w p bl (off+5) fs
def FC(w:World)(p:Nat->Prop)(bl off:Nat):Ft->Prop
 |.mk cs l=>cs.length=4/\(∀j x,cs[j]? =some x->Xw x=true/\w.cell? ⟨bl,off+j,none⟩=some x)/\∃v,w.cell? ⟨bl,off+4,none⟩=some v/\FS w p l v
def gV(w:World)(p:Nat->Prop)(bl off:Nat):Wf->Prop
 |[]=>True
 |f::fs=>FC w p bl off f/\gV w p bl (off+5) fs
end
mutual
def FS.fn{w:World}{p p':Nat->Prop}:∀(a b:Wf){v:Value},FS w p a v->FS w p' b v->a=b
 |[],[],_,_,_=>rfl
 |[],f::fs,v,h,d=>by
  simp only[FS]at h d;obtain⟨a,c,rfl,_⟩:=h;obtain⟨o,j,q,e,-⟩:=d;injection e with k r t
  omega
 |f::fs,[],v,h,d=>by
  simp only[FS]at h d;obtain⟨o,j,q,rfl,-⟩:=h;obtain⟨a,c,e,_⟩:=d;injection e with k r t
  omega
 |f::fs,g::x,v,h,d=>by
  simp only[FS]at h d;obtain⟨o,j,c,rfl,-,-,y,z⟩:=h;obtain⟨D,u,q,e,-,-,m,n⟩:=d;injection e with k r t
  injection k with k
  injection k with A B
  subst A B;rw[FC.fn f g y m,gV.fn fs x ah z n]
def FC.fn{w:World}{p p':Nat->Prop}{bl off:Nat}:∀(a b:Ft),FC w p bl off a->FC w p' bl off b->a=b
 |.mk cs l,.mk c k,h,f=>by
  simp only[FC]at h f;obtain⟨y,m,v,n,o⟩:=h;obtain⟨z,q,v',d,r⟩:=f;rw[n]at d;injection d with d
  subst d;have t:cs=c:=by
   apply IK;intro j;rcases xY j 4 with u|u
   ·have x:=(m j cs[j] (bV ah)).2;have g:=(q j c[j] (bV ah)).2;rw[bV ah,bV ah];rw[x]at g;exact g
   ·rw[wV ah,wV ah]
  rw[t,FS.fn l k o r]
def gV.fn{w:World}{p p':Nat->Prop}{bl:Nat}:∀{off:Nat}(a b:Wf),a.length=b.length->gV w p bl off a->gV w p' bl off b->a=b
 |_,[],[],_,_,_=>rfl
 |_,[],_::_,e,_,_=>by simp at e
 |_,_::_,[],e,_,_=>by simp at e
 |_,f::fs,g::gs,e,h,c=>by simp only[gV]at h c;rw[FC.fn f g h.1 c.1,gV.fn fs gs (by simpa using e) h.2 c.2]
end
structure wZ(w w':World)(p p':Nat->Prop):Prop where
 sub:∀b,p b->p' b
 cell:∀b o x,p b->w.cell? ⟨b,o,none⟩=some x->w'.cell? ⟨b,o,none⟩=some x
mutual
def FS.sub{w w':World}{p p':Nat->Prop}(h:wZ w w' p p'):∀(a:Wf){v:Value},FS w p a v->FS w' p' a v
 |[],v,b=>by simpa only[FS]using b
 |f::fs,v,b=>by simp only[FS]at b⊢;obtain⟨bl,off,c,e,g,d,h1,j⟩:=b;exact⟨bl,off,c,e,g,h.sub _ d,FC.sub h d f h1,gV.sub h d fs j⟩
def FC.sub{w w':World}{p p':Nat->Prop}(h:wZ w w' p p'){bl off:Nat}(b:p bl):∀(a:Ft),FC w p bl off a->FC w' p' bl off a
 |.mk cs l,c=>by simp only[FC]at c⊢;obtain⟨f,d,v,g,k⟩:=c;exact⟨f,λj x e=>⟨(d j x e).1,h.cell _ _ _ b (d j x e).2⟩,v,h.cell _ _ _ b g,FS.sub h l k⟩
def gV.sub{w w':World}{p p':Nat->Prop}(h:wZ w w' p p'){bl:Nat}(c:p bl):∀{off:Nat}(a:Wf),gV w p bl off a->gV w' p' bl off a
 |_,[],_=>by simp only[gV]
 |_,f::fs,b=>by simp only[gV]at b⊢;exact⟨FC.sub h c f b.1,gV.sub h c fs b.2⟩
end
structure PV(w w':World)(p:Nat->Prop)(B O:Nat)(g:Wf):Prop where
 old:∃v,w.cell? ⟨B,O,none⟩=some v/\FS w p g v
 new:∃v,w'.cell? ⟨B,O,none⟩=some v/\FS w p g v
 rest:∀b o x,¬(b=B/\o=O)->w.cell? ⟨b,o,none⟩=some x->w'.cell? ⟨b,o,none⟩=some x
def FS.abr{w:World}{p:Nat->Prop}{a:Wf}{v:Value}(h:FS w p a v):∃x n c,v=.slice x n c:=by
 cases a with
 |nil=>simp only[FS]at h;obtain⟨_,_,rfl,_⟩:=h;exact⟨_,_,_,rfl⟩
 |cons f b=>simp only[FS]at h;obtain⟨_,_,_,rfl,-⟩:=h;exact⟨_,_,_,rfl⟩
def FS.azY{w w':World}{p:Nat->Prop}{B O:Nat}{g l:Wf}(h:PV w w' p B O g){b o:Nat}{v:Value}(a:w.cell? ⟨b,o,none⟩=some v)(c:FS w p l v)
 : ∃z,w'.cell? ⟨b,o,none⟩=some z/\FS w p l z:=by
 by_cases q:b=B/\o=O
 ·obtain⟨u,f,j⟩:=h.old;obtain⟨z,k,d⟩:=h.new;rw[q.1,q.2,f]at a;injection a with a
  subst a;have e:g=l:=FS.fn g l j c;rw[e]at d;exact⟨z,by rw[q.1,q.2];exact k,d⟩
 ·exact⟨v,h.rest _ _ _ q a,c⟩
mutual
def FS.put{w w':World}{p:Nat->Prop}{B O:Nat}{g:Wf}(h:PV w w' p B O g):∀(a:Wf){v:Value},FS w p a v->FS w' p a v
 |[],v,b=>by simpa only[FS]using b
 |f::fs,v,b=>by simp only[FS]at b⊢;obtain⟨bl,off,c,e,d,j,h1,k⟩:=b;exact⟨bl,off,c,e,d,j,FC.put h f h1,gV.put h fs k⟩
def FC.put{w w':World}{p:Nat->Prop}{B O:Nat}{g:Wf}(h:PV w w' p B O g){bl off:Nat}:∀(a:Ft),FC w p bl off a->FC w' p bl off a
 |.mk cs l,d=>by
  simp only[FC]at d⊢;obtain⟨f,b,v,k,m⟩:=d;obtain⟨z,n,o⟩:=FS.azY h k m;refine⟨f,λj x e=>⟨(b j x e).1,h.rest _ _ _ (λq=>?_) (b j x e).2⟩,z,n,FS.put h l o⟩;obtain⟨u,r,t⟩:=h.old;have c:=(b j x e).2;rw[q.1,q.2,r]at c;injection c with c
  have y:=(b j x e).1;obtain⟨_,_,_,rfl⟩:=t.abr;subst c;simp[Xw]at y
def gV.put{w w':World}{p:Nat->Prop}{B O:Nat}{g:Wf}(h:PV w w' p B O g){bl:Nat}:∀{off:Nat}(a:Wf),gV w p bl off a->gV w' p bl off a
 |_,[],_=>by simp only[gV]
 |_,f::fs,b=>by simp only[gV]at b⊢;exact⟨FC.put h f b.1,gV.put h fs b.2⟩
end
def gV.at{w:World}{p:Nat->Prop}{bl:Nat}:∀{off:Nat}{fs:Wf}{i:Nat}{f:Ft},gV w p bl off fs->fs[i]? =some f->FC w p bl (off+i*5) f
 |off,[],i,f,h,hi=>by simp at hi
 |off,g::fs,0,f,h,hi=>by simp only[gV]at h;simp only[kQ,bf]at hi;subst hi;simpa using h.1
 |off,g::fs,i+1,f,h,hi=>by simp only[gV]at h;simp only[vT]at hi;have:=gV.at h.2 hi;rw[(ah:off+(i+1)*5=off+5+i*5)];exact this
def gV.src{w:World}{p:Nat->Prop}{bl:Nat}:∀{off:Nat}(fs:Wf),gV w p bl off fs->∃b:Qt,b.length=fs.length*5/\(∀j u,b[j]? =some u->w.cell? ⟨bl,off+j,none⟩=some u)/\(∀u∈b,u.oneCell'=true)/\
 (∀w' p' g a,wZ w w' p p'->(∀j u,b[j]? =some u->w'.cell? ⟨g,a+j,none⟩=some u)->gV w' p' g a fs)
 |_,[],_=>⟨[],rfl,aA,aA,λ_ _ _ _ _ _=>by simp only[gV]⟩
 |off,.mk cs l::fs,h=>by
  simp only[gV,FC]at h;obtain⟨⟨d,m,v,z,t⟩,A⟩:=h;obtain⟨r,r1,r2,r3,B⟩:=gV.src fs A;refine⟨cs++v::r,by simp[d,r1];omega,λj u c=>?_,λu hu=>?_,λw' p' g a y n=>?_⟩
  ·rcases xY j 4 with f|o
   ·rw[oG ah]at c;exact(m j u c).2
   ·rw[xW ah,d]at c;rcases Nat.eq_or_lt_of_le o with e|D
    ·subst e;simp only[Ci,kQ,bf]at c;subst c;exact z
    ·obtain⟨k,rfl⟩:∃k,j=k+5:=⟨j-5,ah⟩
     rw[(ah:k+5-4=k+1),vT]at c;have:=r2 k u c;rw[(ah:off+(k+5)=off+5+k)];exact this
  ·rcases iP.1 hu with hu|hu
   ·obtain⟨j,c⟩:=LX hu;have:=(m j u c).1;unfold Xw at this;split at this
    ·cases this
    ·exact this
   ·rcases bJ.1 hu with rfl|hu
    ·obtain⟨_,_,_,rfl⟩:=t.abr;rfl
    ·exact r3 u hu
  ·simp only[gV,FC];refine⟨⟨d,λj x q=>⟨(m j x q).1,?_⟩,v,?_,FS.sub y l t⟩,?_⟩
   ·have f:j<cs.length:=(fV.1 q).1;exact n j x (by rw[oG f];exact q)
   ·exact n 4 v (by rw[xW ah,d];rfl)
   ·refine B w' p' g (a+5) y λj u c=>?_;have:=n (j+5) u (by rw[xW ah,d,(ah:j+5-4=j+1),vT];exact c);rw[(ah:a+5+j=a+(j+5))];exact this
def FS.len{w:World}{p:Nat->Prop}{l:Wf}{v:Value}(h:FS w p l v):∃a c,v=.slice a l.length c:=by
 cases l with
 |nil=>simp only[FS]at h;obtain⟨a,c,rfl,_⟩:=h;exact⟨a,c,rfl⟩
 |cons f d=>simp only[FS]at h;obtain⟨g,b,c,rfl,-⟩:=h;exact⟨_,c,rfl⟩
def FS.src{w:World}{p:Nat->Prop}{l:Wf}{v:Value}(h:FS w p l v):(v=.slice none 0 0/\l=[])\/∃k c,∃b:Qt,v=.slice (some k) l.length c/\b.length=l.length*5/\(∀j u,b[j]? =some u->w.cell? (k.add j)=some u)/\(∀u∈b,u.oneCell'=true)/\
 (∀w' p' m,wZ w w' p p'->(∀j u,b[j]? =some u->w'.cell? ⟨m,j,none⟩=some u)->gV w' p' m 0 l):=by
 cases l with
 |nil=>
  simp only[FS]at h;obtain⟨a,c,rfl,h⟩:=h;cases a with
  |none=>
   rcases h with⟨_,_,e⟩|rfl
   ·cases e
   ·exact .inl ⟨rfl,rfl⟩
  |some k=>exact .inr ⟨k,c,[],rfl,rfl,aA,aA,λ_ _ _ _ _=>by simp only[gV]⟩
 |cons f q=>
  simp only[FS]at h;obtain⟨n,d,c,rfl,E,F,r,t⟩:=h;obtain⟨b,x,y,z,A⟩:=gV.src (f::q) (by simp only[gV];exact⟨r,t⟩);refine .inr ⟨⟨n,d,none⟩,c,b,rfl,x,λj u o=>?_,z,λw' p' m B o=>A w' p' m 0 B λj u D=>by rw[l9];exact o j u D⟩;have g:(Addr.mk n d none).add j=⟨n,d+j,none⟩:=by unfold Addr.add;split<;>simp_all
  rw[g];exact y j u o
structure Pk(e:TypeId)(w0 w:World)(p:Nat->Prop):Prop where
 lt:∀b,p b->b<w.heap.size
 el:∀b,p b->w0.heap.size<=b->∃cs,w.heap[b]? =some (.cells cs e (0,0))
def newS(w0:World)(v:Value):Prop:=∀b a n c,v=.slice (some ⟨b,a,none⟩) n c->w0.heap.size<=b
def FS.copied{e:TypeId}{w0 w w':World}{p:Nat->Prop}(r:Pk e w0 w p)(h0:w0.heap.size<=w.heap.size){l:Wf}{v':Value}(d:Qt)
 (v:∀w' p' L,wZ w w' p p'->(∀j u,d[j]? =some u->w'.cell? ⟨L,j,none⟩=some u)->gV w' p' L 0 l)
 (k:w'.ownsRow w.heap.size e 5 v' l.length d) (y:w.grownBy w' none):
 ∃p',wZ w w' p p'/\(∀b,p' b->p b\/w.heap.size<=b)/\Pk e w0 w' p'/\FS w' p' l v'/\newS w0 v':=by
 have m:∀b o,b<w.heap.size->w'.cell? ⟨b,o,none⟩=w.cell? ⟨b,o,none⟩:=λb o a=>ae6 (w:=w) (y.block b a aA);obtain⟨_,k⟩:=k;rcases k with⟨rfl,O⟩|⟨g,D,P,rfl,E,a,z,_,Q,t⟩
 ·have R:l=[]:=jT O;subst R
  exact⟨p,⟨λ_ h=>h,λb o x a F=>by rw[m b o (r.lt b a)];exact F⟩,λ_ h=>.inl h,⟨λb a=>yX (r.lt b a) y.size,λb a G=>by rw[y.block b (r.lt b a) aA];exact r.el b a G⟩,
   by simp only[FS];exact⟨_,_,rfl,.inr rfl⟩,by intro S H n c e;simp at e⟩
 ·have I:g<w'.heap.size:=(rX.1 a).1;have M:wZ w w' p (λb=>p b\/b=g):=⟨λ_ h=>.inl h,λb o x a F=>by rw[m b o (r.lt b a)];exact F⟩
  have J:∀j u,d[j]? =some u->w'.cell? ⟨g,j,none⟩=some u:=by
   intro j u B;rw[<-t,mW]at B;split at B
   ·simp only[World.cell?,a];rw[aj aA];simpa using B
   ·cases B
  have q:=v w' _ g M J;refine⟨λb=>p b\/b=g,M,λb a=>a.imp id (λe=>by subst e;exact E),⟨λb a=>?_,λb a G=>?_⟩,?_,?_⟩
  ·rcases a with a|rfl
   ·exact yX (r.lt b a) y.size
   ·exact I
  ·rcases a with A|rfl
   ·rw[y.block b (r.lt b A) aA];exact r.el b A G
   ·exact⟨_,a⟩
  ·cases l with
   |nil=>simp only[FS];exact⟨_,_,rfl,.inl ⟨_,_,rfl⟩⟩
   |cons f U=>simp only[gV]at q;simp only[FS];exact⟨g,0,D,rfl,z,.inr rfl,q.1,q.2⟩
  ·intro S H n c e;simp only[Value.slice.injEq,bf,Addr.mk.injEq]at e;obtain⟨⟨rfl,-⟩,-⟩:=e;omega
def sumW:List (Value×Wf)->Nat
 |[]=>0
 |q::l=>1+pY q.2+sumW l
def adF:∀(a b:List (Value×Wf)),sumW (a++b)=sumW a+sumW b
 |[],b=>by simp[sumW]
 |q::a,b=>by simp[sumW,adF a b];omega
def adG:∀(a:List (Value×Wf)),a.length<=sumW a
 |[]=>by simp[sumW]
 |q::a=>by have:=adG a;simp[sumW];omega
def Vq:∀(a:Wf),a.length<=pY a
 |[]=>by simp[pY]
 |.mk cs l::a=>by have:=Vq a;simp[pY,cntF];omega
def agj:∀{a:Wf}{i:Nat}{cs:Qt}{l:Wf},a[i]? =some (.mk cs l)->pY (a.drop i)=1+pY l+pY (a.drop (i+1))
 |[],i,cs,l,h=>by simp at h
 |x::a,0,cs,l,h=>by simp at h;subst h;simp[pY,cntF]
 |x::a,i+1,cs,l,h=>by simp at h;simpa using agj h
structure CB(e:TypeId)(w0:World)(ro:QP)(xs:Wf)(cv:Value)(w:World)(p:Nat->Prop):Prop where
 below:Below w0.heap.size w0 w
 XL:∀b,p b->b<w0.heap.size->ro b≠none
 pk:Pk e w0 w p
 top:FS w p xs cv
structure P5(w0 w:World)(p:Nat->Prop)(T:TypeId)(wk:Value)(ws:List (Value×Wf)):Prop where
 own:w.ownsRow w0.heap.size T 1 wk ws.length (ws.map (·.1))
 each:∀q∈ws,FS w p q.2 q.1/\newS w0 q.1
section
variable{e T:TypeId}{w0 w:World}{ro:QP}{xs l li:Wf}{cv s wk v':Value}{N i:Nat}
def CI(e T:TypeId)(w0:World)(ro:QP)(xs:Wf)(cv:Value)(N:Nat)(wk:Value)(w:World):Prop:=
 ∃p a,CB e w0 ro xs cv w p/\P5 w0 w p T wk a/\sumW a<=N
def II(e T:TypeId)(w0:World)(ro:QP)(xs:Wf)(cv:Value)(N:Nat)(l:Wf)(s:Value)(i:Nat)(wk:Value)(w:World):Prop:=
 ∃p a,CB e w0 ro xs cv w p/\P5 w0 w p T wk a/\FS w p l s/\newS w0 s/\sumW a+pY (l.drop i)+1<=N
def MI(e T:TypeId)(w0:World)(ro:QP)(xs:Wf)(cv:Value)(N:Nat)(l:Wf)(s:Value)(i:Nat)(wk:Value)(w:World)(v':Value)(li:Wf):Prop:=
 ∃p a,CB e w0 ro xs cv w p/\P5 w0 w p T wk a/\FS w p l s/\newS w0 s/\FS w p li v'/\newS w0 v'/\sumW a+(1+pY li)+pY (l.drop i)+1<=N
def XB{base size n:Nat}{xs:Qt}(h:w.ownsRow base T size wk n xs){b:Nat}(a:wk.ownBlock=some b):base<=b/\∃cs,w.heap[b]? =some (.cells cs T (0,0)):=by
 rcases h.2 with⟨rfl,_⟩|⟨g,d,f,rfl,c,j,_⟩
 ·simp[Value.ownBlock]at a
 ·simp only[Value.ownBlock,bf]at a;subst a;exact⟨c,_,j⟩
def aj9{base size n:Nat}{xs:Qt}{w':World}(h:w.ownsRow base T size wk n xs)(f:∀b,wk.ownBlock=some b->w'.heap[b]? =w.heap[b]?):w'.ownsRow base T size wk n xs:=by
 refine⟨h.1,?_⟩;rcases h.2 with j|⟨g,a,c,rfl,d,k,m⟩
 ·exact .inl j
 ·exact .inr ⟨g,a,c,rfl,d,by rw[f g rfl];exact k,m⟩
def P5.ajX{p:Nat->Prop}{c:List (Value×Wf)}(h:P5 w0 w p T wk c)(d:Pk e w0 w p)(f:e≠T){b:Nat}(g:wk.ownBlock=some b):¬p b:=by intro j;obtain⟨k,o,m⟩:=XB h.own g;obtain⟨n,a⟩:=d.el b j k;rw[m]at a;simp only[bf,Obj.cells.injEq]at a;exact f a.2.1.symm
def Pk.same{w':World}{p:Nat->Prop}(d:Pk e w0 w p)(c:w.heap.size<=w'.heap.size)(h:∀b,p b->w'.heap[b]? =w.heap[b]?):Pk e w0 w' p:=
 ⟨λb a=>yX (d.lt b a) c,λb a f=>by rw[h b a];exact d.el b a f⟩
def wZ.of{w':World}{p:Nat->Prop}(h:∀b,p b->w'.heap[b]? =w.heap[b]?):wZ w w' p p:=
 ⟨λ_ h=>h,λb o x a c=>by rw[ae6 (w:=w) (h b a)];exact c⟩
def CI.start{w1:World}{f:Value}(h:∃p,CB e w0 ro xs f w1 p)(k:newS w0 f):CI e T w0 ro xs f (1+pY xs) (.slice (some ⟨w1.heap.size,0,none⟩) 1 1) (w1.alloc (.cells #[f] T)):=by obtain⟨p,c⟩:=h;have d:∀b,p b->(w1.alloc (.cells #[f] T)).heap[b]? =w1.heap[b]?:=λb m=>Below.heap_alloc w1 _ b (c.pk.lt b m);have a:=wZ.of d;have g:=World.ownsRow_lit (base:=w0.heap.size) (e:=T) (size:=1) w1 #[f] 1 c.below.size (by unfold maxLen;omega) rfl;refine⟨p,[(f,xs)],⟨c.below.alloc c.below.size _,c.XL,c.pk.same aA d,c.top.sub a⟩,⟨by simpa using g,λq j=>?_⟩,by simp[sumW]⟩;simp only[jI]at j;subst j;exact⟨c.top.sub a,k⟩
def II.len(h:II e T w0 ro xs cv N l s i wk w):∃a c,s=.slice a l.length c:=by obtain⟨p,d,f,g,b,_⟩:=h;exact b.len
def II.bound(h:II e T w0 ro xs cv N l s 0 wk w):l.length<=N:=by obtain⟨p,c,d,f,a,_,b⟩:=h;have:=Vq l;simp only[dY]at b;omega
def CI.pop(h:CI e T w0 ro xs cv N wk w):(∃a c,wk=.slice a 0 c/\∃p,CB e w0 ro xs cv w p)\/
 ∃bl cap m s l,wk=.slice (some ⟨bl,0,none⟩) (m+1) cap/\m+1<=cap/\m+1<=N/\w.cell? ⟨bl,m,none⟩=some s/\II e T w0 ro xs cv N l s 0 (.slice (some ⟨bl,0,none⟩) m cap) w:=by
 obtain⟨p,D,x,v,A⟩:=h;rcases am9 D with rfl|⟨b,q,rfl⟩
 ·left;rcases v.own.2 with⟨rfl,_⟩|⟨g,cap,f,rfl,_⟩
  ·exact⟨_,_,rfl,p,x⟩
  ·exact⟨_,_,rfl,p,x⟩
 ·right;rcases v.own.2 with⟨_,E⟩|⟨g,cap,f,n,y,B,j,o,z,d⟩
  ·simp at E
  ·have t:(b.concat q).length=b.length+1:=aA;rw[t]at n j d;have u:q∈b.concat q:=aA;obtain⟨F,G⟩:=v.each q u;refine⟨g,cap,b.length,q.1,q.2,n,j,by have:=adG (b.concat q);omega,?_,p,b,x,⟨⟨aA,.inr ⟨g,cap,f,rfl,y,B,ah,o,z,?_⟩⟩,λr H=>v.each r (by simp[H])⟩,F,G,?_⟩
   ·have I:f.toList[b.length]? =some q.1:=by
     have k:(f.toList.take ((b.length+1)*1))[b.length]? =some q.1:=by rw[d];simp
     rw[mW]at k;rw[au ah]at k;exact k
    simp only[World.cell?,B];rw[aj aA];simpa using I
   ·have k:(f.toList.take ((b.length+1)*1)).take (b.length*1)=b.map (·.1):=by rw[d];simp
    rw[aeQ,Mc ah]at k;exact k
   ·rw[am8,adF]at A;simp only[sumW]at A;simp only[dY];omega
def II.done(h:II e T w0 ro xs cv N l s l.length wk w):CI e T w0 ro xs cv (N-1) wk w/\1<=N:=by obtain⟨p,a,b,c,_,_,d⟩:=h;exact⟨⟨p,a,b,c,ah⟩,ah⟩
def MI.skip(h:MI e T w0 ro xs cv N l s i wk w v' li):II e T w0 ro xs cv N l s i wk w:=by obtain⟨p,a,b,c,d,f,_,_,g⟩:=h;exact⟨p,a,b,c,d,f,ah⟩
def MI.push(D:e≠T)(h:MI e T w0 ro xs cv N l s i wk w v' li):∃n A,w.ownsRow w0.heap.size T 1 wk n A/\n+1<=N/\w0.heap.size<=w.heap.size/\
 ∀o v g,g.ownsRow w0.heap.size T 1 v (n+1) (A++[v'])->(w.alloc o).grownBy g wk.ownBlock->II e T w0 ro xs cv N l s i v g:=by
 obtain⟨p,t,c,j,E,F,G,H,L⟩:=h;have B:=adG t;refine⟨t.length,t.map (·.1),j.own,ah,c.below.size,λo v g m x=>?_⟩;have r:∀b,p b->some b≠wk.ownBlock:=λb u I=>j.ajX c.pk D I.symm u;have d:∀b,p b->g.heap[b]? =w.heap[b]?:=λb u=>by have y:=c.pk.lt b u;rw[x.block b (by simp;omega) (r b u)];exact Below.heap_alloc w o b y
 have z:w.heap.size<=g.heap.size:=by have:=x.size;simp at this;omega
 have a:=wZ.of d;refine⟨p,t++[(v',li)],⟨?_,c.XL,c.pk.same z d,c.top.sub a⟩,⟨by simpa using m,λq f=>?_⟩,E.sub a,F,?_⟩
 ·refine(c.below.alloc c.below.size o).grown x (by simp;have:=c.below.size;omega) λk J=>(XB j.own J).1
 ·rcases iP.1 f with f|f
  ·exact⟨(j.each q f).1.sub a,(j.each q f).2⟩
  ·simp only[jI]at f;subst f;exact⟨G.sub a,H⟩
 ·rw[adF];simp only[sumW];omega
def II.step(hT:e≠T)(h:II e T w0 ro xs cv N l s i wk w)(hi:i<l.length):∃bl off c li D,∃d:Qt,s=.slice (some ⟨bl,off,none⟩) l.length c/\l.length<=c/\w.cell? ⟨bl,off+i*5+4,none⟩=some D/\
 ((D=.slice none 0 0/\li=[]/\d=[])\/∃X ci,D=.slice (some X) li.length ci/\∀j u,d[j]? =some u->w.cell? (X.add j)=some u)/\d.length=li.length*5/\(∀u∈d,u.oneCell'=true)/\li.length<=N/\
 ∀v' w1,w1.ownsRow w.heap.size e 5 v' li.length d->w.grownBy w1 none->
  w1.cell? ⟨bl,off+i*5+4,none⟩=some D/\w1.frozen? ⟨bl,off+i*5+4,none⟩=false/\(∃a c,v'=.slice a li.length c)/\
  MI e T w0 ro xs cv N l s (i+1) wk (w1.setCell ⟨bl,off+i*5+4,none⟩ v') v' li:=by
 obtain⟨p,ws,t,I,v,J,ai⟩:=h;obtain⟨f,hf⟩:∃f,l[i]? =some f:=⟨_,bV hi⟩
 obtain⟨cs,li⟩:=f;have Z:=v;cases L:l with
 |nil=>rw[L]at hi;simp at hi
 |cons x0 l0=>
 rw[L]at v;simp only[FS]at v;obtain⟨bl,off,c,rfl,hc,Y,M,aa⟩:=v;have O:w0.heap.size<=bl:=J _ _ _ _ rfl;have P:FC w p bl (off+i*5) (.mk cs li):=gV.at (fs:=x0::l0) (by simp only[gV];exact⟨M,aa⟩) (by rw[<-L];exact hf);simp only[FC]at P;obtain⟨_,_,D,F,Q⟩:=P;have ak:=agj hf;have al:=Vq li;rw[<-L]
 have E:∀d:Qt,(∀w' R pX,wZ w w' p R->(∀j u,d[j]? =some u->w'.cell? ⟨pX,j,none⟩=some u)->gV w' R pX 0 li)->
  ∀v' w1,w1.ownsRow w.heap.size e 5 v' li.length d->w.grownBy w1 none->
  w1.cell? ⟨bl,off+i*5+4,none⟩=some D/\w1.frozen? ⟨bl,off+i*5+4,none⟩=false/\(∃a c,v'=.slice a li.length c)/\
  MI e T w0 ro xs cv N l (.slice (some ⟨bl,off,none⟩) (l0.length+1) c) (i+1) wk (w1.setCell ⟨bl,off+i*5+4,none⟩ v') v' li:=by
  intro d hn v' w1 S hg;obtain⟨R,H,s2,s3,s4,s5⟩:=FS.copied t.pk t.below.size d hn S hg;have am:=t.pk.lt bl Y;obtain⟨y,z⟩:=s3.el bl (H.sub _ Y) O;have m:w1.cell? ⟨bl,off+i*5+4,none⟩=some D:=H.cell _ _ _ Y F;refine⟨m,by simp only[World.frozen?,z];simp,s4.len,?_⟩;have an:li.length=li.length:=rfl;have g:∀b,b≠bl->(w1.setCell ⟨bl,off+i*5+4,none⟩ v').heap[b]? =w1.heap[b]?:=λb G=>heap_setCell_other w1 ⟨bl,off+i*5+4,none⟩ b v' G;have n:(w1.setCell ⟨bl,off+i*5+4,none⟩ v').heap[bl]? =some (.cells (y.setIfInBounds (off+i*5+4) v') e (0,0)):=heap_setCell_same w1 bl (off+i*5+4) y e v' z;have ab:off+i*5+4<y.size:=by simp only[World.cell?,z]at m;rw[aj aA]at m;exact(rX.1 m).1
  have k:PV w1 (w1.setCell ⟨bl,off+i*5+4,none⟩ v') R bl (off+i*5+4) li:=by
   refine⟨⟨D,m,Q.sub H⟩,⟨v',?_,s4⟩,λb o x G M=>?_⟩
   ·simp only[World.cell?,n];rw[aj aA];simp[ab]
   ·by_cases A:b=bl
    ·have ac:o≠off+i*5+4:=λe2=>G ⟨A,e2⟩;rw[A,cell_of_row w1 bl o y e (0,0) z]at M;rw[A,cell_of_row _ bl o _ e (0,0) n,D9,aj (λe2=>ac e2.symm)];exact M
    ·rw[ae6 (w:=w1) (g b A)];exact M
  have U:(w1.setCell ⟨bl,off+i*5+4,none⟩ v').heap.size=w1.heap.size:=aA;have ae:∀b,wk.ownBlock=some b->b≠bl:=λb B A=>by subst A;exact I.ajX t.pk hT B Y
  have af:Below w0.heap.size w0 w1:=t.below.grown hg t.below.size aA;refine⟨R,ws,⟨af.setCell O v',λb r ag=>?_,⟨λb r=>by rw[U];exact s3.lt b r,λb r h1=>?_⟩,(t.top.sub H).put k⟩,⟨?_,λq hq=>⟨((I.each q hq).1.sub H).put k,(I.each q hq).2⟩⟩,(Z.sub H).put k,J,s4.put k,s5,?_⟩
  ·rcases s2 b r with h1|h1
   ·exact t.XL b h1 ag
   ·have:=t.below.size;omega
  ·by_cases A:b=bl
   ·subst A;exact⟨_,n⟩
   ·rw[g b A];exact s3.el b r h1
  ·refine aj9 I.own λb B=>?_;rw[g b (ae b B)];obtain⟨_,ao,h2⟩:=XB I.own B;exact hg.block b (rX.1 h2).1 aA
  ·omega
 have W:l0.length+1=l.length:=by rw[L];rfl
 rcases Q.src with⟨rfl,rfl⟩|⟨X,ci,d,rfl,n1,n2,n3,n4⟩
 ·exact⟨bl,off,c,[],_,[],by rw[W],ah,F,.inl ⟨rfl,rfl,rfl⟩,rfl,aA,aA,E [] λ_ _ _ _ _=>by simp only[gV]⟩
 ·exact⟨bl,off,c,li,_,d,by rw[W],ah,F,.inr ⟨X,ci,rfl,n2⟩,n1,n3,ah,E d n4⟩
end
def amY{P:Program}(w:World){n:W7}{rest:List Oper}{o:Oper}{a:Act}{Q:Exit->Act->World->Prop}(p:o.guard=none)(s x:Operand)(t:TypeId)
 (F:o.op=.call {callee:=.builtin .append,args:=#[s,x],argTypes:=#[t,t]})
 (e:TypeId) (i:TypeInfo) (z:Value) (b bytes:Nat) (G:P.underlying t=some (.slice e)) (hi:P.info? e=some i) (J:i.zero=some z)
 (k:i.size=b) (A:i.bytes=bytes) (B:z.cells.size=b) (D:0<b)
 (H:a.eval s=.slice none 0 0) (m:Nat) (d:Qt) (E:Value) (q:a.eval x=E)
 (r:(E=.slice none 0 0/\m=0/\d=[])\/∃y c,E=.slice (some y) m c/\∀j u,d[j]? =some u->w.cell? (y.add j)=some u)
 (L:d.length=m*b) (M:∀u∈d,u.oneCell'=true) (O:m<=maxLen) (g:m*bytes<=140737488355328)
 (h:∀v' v,v.ownsRow w.heap.size e b v' m d->w.grownBy v none->wpList P n Q rest (a.put o.dst v') v):wpList P n Q (o::rest) a w:=by
 have f:w.ownsRow w.heap.size e b (.slice none 0 0) 0 []:=⟨aA,.inl ⟨rfl,rfl⟩⟩
 rcases r with⟨r,rfl,rfl⟩|⟨y,c,r,R⟩
 ·refine wpList_plain p λK S=>?_;have U:=run_append_owned_none (P:=P) w w.heap.size t o.type e i b G hi (.slice none 0 0) 0 [] f;unfold Oper.wp execOp;simp only[F,resolve,invoke,builtin,aY,bP,aX,List.map_toArray,iU,jU,H,q,r,U];exact S _ _ (h _ w f ⟨rfl,rfl,rfl,dK _,λ_ _ _=>rfl⟩)
 ·refine wpList_append_own w p s x t F w.heap.size e i z b bytes G hi J k A B D (.slice none 0 0) 0 [] H f y m c d (q.trans r) L R M ah (by rw[l9];exact g) (dK _) λv' v I W _=>?_;rw[l9,aW]at I;exact h v' v I W
def Vt{ro:QP}{a:GV}{x v:Value}(h:GK a=some x)(b:GR ro a v):v=x/\Xw x=true:=by cases a<;>simp only[GK,bf,reduceCtorEq]at h<;>(simp only[GR]at b;subst h;subst b;exact⟨rfl,rfl⟩)
def Vu{ro:QP}{a:GV}{x:Value}(h:GK a=some x):GR ro a x:=by cases a<;>simp only[GK,bf,reduceCtorEq]at h<;>(subst h;simp only[GR])
def abq:∀(fs:Wf)(xs:Q3),rM fs xs->xs.length=fs.length
 |[],xs,h=>by simp only[rM]at h;subst h;rfl
 |f::fs,xs,h=>by simp only[rM]at h;obtain⟨x,r,rfl,_,a⟩:=h;simp[abq fs r a]
def aiG{ro:QP}(f:Ft)(x:GV){y:Value}(h:EM f x)(g:GR ro x y):y.cells.size=5:=by obtain⟨j,l⟩:=f;simp only[EM]at h;obtain⟨a,b,c,d,k,rfl,_,_⟩:=h;simp only[GR,aT]at g;obtain⟨m,rfl,n,o,rfl,_,p,q,rfl,_,r,t,rfl,_,u,v,rfl,_,z,A,rfl,_,rfl⟩:=g;rfl
mutual
def aer{ro:QP}{w:World}(d:∀b o,ro b=some o->w.heap[b]? =some o):∀(fs:Wf)(xs:Q3){v:Value},rM fs xs->GR ro (.l xs) v->FS w (λb=>ro b≠none) fs v
 |[],xs,v,k,h=>by
  simp only[rM]at k;subst k;simp only[GR]at h;simp only[FS];rcases h with⟨_,p,rfl⟩|⟨bl,off,c,H,sz,rfl,_⟩
  ·exact⟨_,_,rfl,.inr rfl⟩
  ·exact⟨_,_,rfl,.inl ⟨_,_,rfl⟩⟩
 |f::fs,xs,v,k,h=>by
  simp only[rM]at k;obtain⟨x,r,rfl,B,D⟩:=k;simp only[GR]at h;rcases h with⟨h,_⟩|⟨bl,off,c,H,sz,rfl,I,m,J,L⟩
  ·cases h
  obtain⟨M,n,O,E,Q,P⟩:=L aA;have q:r.length=fs.length:=abq fs r D;simp only[aT]at m;obtain⟨y,t,rfl,F,z⟩:=m;have a:∀j u,(dR (y::t))[j]? =some u->w.cell? ⟨bl,off+j,none⟩=some u:=λj u g=>by rw[cell_of_row w bl (off+j) M n O (d _ _ E)];exact P j u g
  simp only[FS];have G:=aiG f x B F;refine⟨bl,off,c,by simp[q],by simp at I;omega,by simp[E],aem d f x B F λj u g=>a j u ?_,aeo d fs r D z λj u g=>?_⟩
  ·have A:j<y.cells.toList.length:=(fV.1 g).1;simp only[dR,kP];rw[oG A];exact g
  ·have:=a (5+j) u (by simp only[dR,kP];rw[xW (by simp[G]),show 5+j-y.cells.toList.length=j by simp[G]];exact g)
   rw[(ah:off+5+j=off+(5+j))];exact this
def aem{ro:QP}{w:World}(p:∀b o,ro b=some o->w.heap[b]? =some o):∀(f:Ft)(x:GV){y:Value}{bl off:Nat},EM f x->GR ro x y->(∀j u,y.cells.toList[j]? =some u->w.cell? ⟨bl,off+j,none⟩=some u)->FC w (λb=>ro b≠none) bl off f
 |.mk cs l,x,y,bl,off,q,h,n=>by
  simp only[EM]at q;obtain⟨a,b,c,d,t,rfl,m,v⟩:=q;simp only[GR,aT]at h;obtain⟨R,rfl,S,U,rfl,A,W,X,rfl,B,Y,Z,rfl,D,v4,l4,rfl,E,r,l5,rfl,F,rfl⟩:=h;have G:cs.length=4:=by have:=uD List.length m;simpa using this.symm
  match cs,G with
  |[c1,c2,c3,c4],_=>
  simp only[iU,jU,xU,and_true]at m;obtain⟨H,I,J,L⟩:=m;obtain⟨rfl,M⟩:=Vt H A;obtain⟨rfl,O⟩:=Vt I B;obtain⟨rfl,P⟩:=Vt J D;obtain⟨rfl,Q⟩:=Vt L E;simp only[FC];refine⟨rfl,λj z g=>?_,r,n 4 r rfl,aer p l t v (by simp only[GR];exact F)⟩;match j,g with
  |0,g=>simp only[kQ,bf]at g;subst g;exact⟨M,n 0 _ rfl⟩
  |1,g=>simp only[vT,kQ,bf]at g;subst g;exact⟨O,n 1 _ rfl⟩
  |2,g=>simp only[vT,kQ,bf]at g;subst g;exact⟨P,n 2 _ rfl⟩
  |3,g=>simp only[vT,kQ,bf]at g;subst g;exact⟨Q,n 3 _ rfl⟩
  |k+4,g=>simp at g
def aeo{ro:QP}{w:World}(a:∀b o,ro b=some o->w.heap[b]? =some o):∀(fs:Wf)(xs:Q3){c:Qt}{bl off:Nat},rM fs xs->aT ro xs c->(∀j u,(dR c)[j]? =some u->w.cell? ⟨bl,off+j,none⟩=some u)->gV w (λb=>ro b≠none) bl off fs
 |[],xs,c,bl,off,g,h,k=>by simp only[gV]
 |f::fs,xs,c,bl,off,g,h,k=>by
  simp only[rM]at g;obtain⟨x,r,rfl,p,v⟩:=g;simp only[aT]at h;obtain⟨y,z,rfl,q,m⟩:=h;simp only[gV];have t:=aiG f x p q;refine⟨aem a f x p q λj u d=>k j u ?_,aeo a fs r v m λj u d=>?_⟩
  ·have n:j<y.cells.toList.length:=(fV.1 d).1;simp only[dR,kP];rw[oG n];exact d
  ·have:=k (5+j) u (by simp only[dR,kP];rw[xW (by simp[t]),show 5+j-y.cells.toList.length=j by simp[t]];exact d)
   rw[(ah:off+5+j=off+(5+j))];exact this
end
mutual
def aes{ro:QP}{w:World}{p:Nat->Prop}(G:∀b,p b->∀o,w.heap[b]? =some o->ro b=some o):∀(fs:Wf)(xs:Q3){v:Value},rM fs xs->FS w p fs v->GR ro (.l xs) v
 |[],xs,v,B,h=>by
  simp only[rM]at B;subst B;simp only[FS]at h;simp only[GR];obtain⟨a,c,rfl,⟨bl,off,rfl⟩|rfl⟩:=h
  ·exact .inr ⟨bl,off,c,[],0,rfl,sG _,by simp[aT],aA,λP=>absurd rfl P⟩
  ·exact .inl ⟨trivial,_,rfl⟩
 |f::fs,xs,v,B,h=>by
  simp only[rM]at B;obtain⟨x,r,rfl,Q,L⟩:=B;simp only[FS]at h;obtain⟨bl,off,c,rfl,hc,H,R,S⟩:=h;have m:r.length=fs.length:=abq fs r L;obtain⟨y,U,D,W⟩:=aen G f x Q R;obtain⟨t,X,M,Y⟩:=aep G fs r L S;simp only[GR];refine .inr ⟨bl,off,c,y::t,5,by simp[m],by simp[m];omega,by simp only[aT];exact⟨y,t,rfl,U,X⟩,λq z=>?_,λ_=>?_⟩
  ·rcases bJ.1 z with rfl|z
   ·exact D
   ·exact M q z
  ·have n:∀j u,(dR (y::t))[j]? =some u->w.cell? ⟨bl,off+j,none⟩=some u:=by
    intro j u A;simp only[dR,kP]at A;rcases xY j 5 with I|J
    ·rw[oG (by simp[D];exact I)]at A;exact W j u A
    ·rw[xW (by simp[D];exact J)]at A;have:=Y (j-5) u (by simpa[D,dR]using A);rw[(ah:off+5+(j-5)=off+j)]at this;exact this
   have h5:(dR (y::t)).length=(t.length+1)*5:=by
    letI:aJ:=Tg [] [] 0
    rw[Gy (sz:=5)]
    ·rfl
    ·intro q z;rcases bJ.1 z with rfl|z
     ·exact D
     ·exact M q z
   obtain⟨u,Z⟩:∃u,(dR (y::t))[(t.length+1)*5-1]? =some u:=⟨_,bV ah⟩
   have g:=n _ u Z;have k:∃E d F,w.heap[bl]? =some (.cells E d F):=by
    simp only[World.cell?]at g;cases O:w.heap[bl]? with
    |none=>simp[O]at g
    |some o=>cases o<;>simp[O]at g<;>exact⟨_,_,_,rfl⟩
   obtain⟨E,d,F,k⟩:=k;refine⟨E,d,F,G bl H _ k,?_,λj u A=>?_⟩
   ·rw[cell_of_row w bl _ E d F k]at g;have:=(rX.1 g).1;omega
   ·have:=n j u A;rw[cell_of_row w bl _ E d F k]at this;exact this
def aen{ro:QP}{w:World}{p:Nat->Prop}(D:∀b,p b->∀o,w.heap[b]? =some o->ro b=some o):∀(f:Ft)(x:GV){bl off:Nat},EM f x->FC w p bl off f->∃y,GR ro x y/\y.cells.size=5/\∀j u,y.cells.toList[j]? =some u->w.cell? ⟨bl,off+j,none⟩=some u
 |.mk cs l,x,bl,off,q,h=>by
  simp only[EM]at q;obtain⟨a,b,c,d,E,rfl,m,F⟩:=q;simp only[FC]at h;obtain⟨G,n,v,H,I⟩:=h;match cs,G with
  |[r,t,z,A],_=>
  simp only[iU,jU,xU,and_true]at m;obtain⟨J,L,M,O⟩:=m;refine⟨.agg #[r,t,z,A,v],?_,rfl,λj u g=>?_⟩
  ·have B:=aes D l E F I;simp only[GR,aT]at B⊢;exact⟨[r,t,z,A,v],rfl,_,_,rfl,Vu J,_,_,rfl,Vu L,_,_,rfl,Vu M,_,_,rfl,Vu O,_,_,rfl,B,rfl⟩
  ·match j,g with
   |0,g=>simp[Value.cells]at g;subst g;exact(n 0 _ rfl).2
   |1,g=>simp[Value.cells]at g;subst g;exact(n 1 _ rfl).2
   |2,g=>simp[Value.cells]at g;subst g;exact(n 2 _ rfl).2
   |3,g=>simp[Value.cells]at g;subst g;exact(n 3 _ rfl).2
   |4,g=>simp[Value.cells]at g;subst g;exact H
   |k+5,g=>simp[Value.cells]at g
def aep{ro:QP}{w:World}{p:Nat->Prop}(t:∀b,p b->∀o,w.heap[b]? =some o->ro b=some o):∀(fs:Wf)(xs:Q3){bl off:Nat},rM fs xs->gV w p bl off fs->∃a,aT ro xs a/\(∀y∈a,y.cells.size=5)/\∀j u,(dR a)[j]? =some u->w.cell? ⟨bl,off+j,none⟩=some u
 |[],xs,bl,off,c,h=>by simp only[rM]at c;subst c;exact⟨[],by simp[aT],aA,by simp[dR]⟩
 |f::fs,xs,bl,off,c,h=>by
  simp only[rM]at c;obtain⟨x,r,rfl,v,z⟩:=c;simp only[gV]at h;obtain⟨y,A,g,B⟩:=aen t f x v h.1;obtain⟨a,D,E,F⟩:=aep t fs r z h.2;refine⟨y::a,by simp only[aT];exact⟨y,a,rfl,A,D⟩,λq k=>?_,λj u d=>?_⟩
  ·rcases bJ.1 k with rfl|k
   ·exact g
   ·exact E q k
  ·simp only[dR,kP]at d;rcases xY j 5 with m|n
   ·rw[oG (by simp[g];exact m)]at d;exact B j u d
   ·rw[xW (by simp[g];exact n)]at d;have:=F (j-5) u (by simpa[g,dR]using d);rw[(ah:off+5+(j-5)=off+j)]at this;exact this
end
open Classical in
def Nz:Q3->Option Q3
 |[.l xs]=>if ∃fs,rM fs xs/\pY fs<=1099511627776 then some [.l xs]else none
 |_=>none
def atJ{P:Program}{tabs:QQ}{f:FuncId}{e:TypeId}
 (j:∀(v:Value)(fs:Wf)(w:World)(ro:QP),FS w (λb=>ro b≠none) fs v->(∀b,ro b≠none->b<w.heap.size)->pY fs<=1099511627776->
  Calls P f #[v] w λu w'=>∃v',u=.returned v'/\∃p,CB e w ro fs v' w' p)
 (c:∀args w,(callFunc f args).run P w=.ok (.enter f args) w) {gs k:Q3} (h:Nz gs=some k):pO P tabs f [] [.sc] gs k:=by
 unfold Nz at h;split at h;rotate_left
 ·cases h
 next xs=>
 split at h;rotate_left
 ·cases h
 next z=>
 cases h;obtain⟨fs,m,n⟩:=z;letI:aJ:=Tg [] [] 0
 refine⟨λro w E d q=>?_,rfl⟩;simp only[aT]at q;obtain⟨v,l,rfl,A,rfl⟩:=q;refine .inr ⟨c _ w,Calls.mono' (j v fs w ro (aer d.at' fs xs m A) (λb g=>?_) n) ?_⟩
 ·cases a:ro b with
  |none=>exact absurd a g
  |some o=>exact(rX.1 (d.at' b o a)).1
 ·rintro u w' ⟨v',rfl,p,g⟩
  refine⟨v',rfl,XZ ro w w',X4 d g.below,[v'],rfl,?_⟩;simp only[aT];refine⟨_,_,rfl,aes (p:=p) (λb t o x=>?_) fs xs m g.top,rfl⟩;show(if b<w.heap.size then ro b else w'.heap[b]?)=some o
  split
  ·next r=>
   have B:=g.XL b t r;cases a:ro b with
   |none=>exact absurd a B
   |some D=>have y:=d.at' b D a;rw[<-g.below.block b r,x]at y;exact y.symm
  ·exact x
