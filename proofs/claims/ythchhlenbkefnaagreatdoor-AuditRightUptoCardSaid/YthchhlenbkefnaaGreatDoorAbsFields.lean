/- Fields that hold fields: what slices of them tell, cell by cell; a write of what tells the same changes nothing. (For field.Clone.) -/
import Derived.Test.YthchhlenbkefnaaGreatDoorAbsTold
import Derived.Laws.OwnMore
set_option linter.all false
namespace Go.aN
open Go.RowKit
noncomputable section
inductive Ft where
 |mk (cs:Q6) (l:List Ft)
abbrev Wd:=List Ft
mutual
def cntF:Ft->Nat
 |.mk _ l=>1+pK l
def pK:Wd->Nat
 |[]=>0
 |f::fs=>cntF f+pK fs
end
def WQ:Value->Bool
 |.slice ..=>false
 |v=>v.oneCell'
def Gp:GV->Option Value
 |.b x=>some (.bool x)
 |.i k n=>some (.int k n)
 |.s x=>some (.string ⟨⟨x⟩⟩)
 |_=>none
mutual
def Ez:Ft->GV->Prop
 |.mk cs l,x=>∃a b c d f,x=.g [a,b,c,d,.l f]/\[Gp a,Gp b,Gp c,Gp d]=cs.map some/\ru l f
def ru:Wd->List GV->Prop
 |[],xs=>xs=[]
 |f::fs,xs=>∃x r,xs=x::r/\Ez f x/\ru fs r
end
mutual
def FS(w:World)(p:Nat->Prop):Wd->Value->Prop
 |[],v=>∃a c,v=.slice a 0 c/\((∃bl off,a=some ⟨bl,off,none⟩)\/c=0)
 |f::fs,v=>∃bl off c,v=.slice (some ⟨bl,off,none⟩) (fs.length+1) c/\fs.length+1<=c/\p bl/\FC w p bl off f/\gB w p bl (off+5) fs
def FC(w:World)(p:Nat->Prop)(bl off:Nat):Ft->Prop
 |.mk cs l=>cs.length=4/\(∀j x,cs[j]? =some x->WQ x=true/\w.cell? ⟨bl,off+j,none⟩=some x)/\∃v,w.cell? ⟨bl,off+4,none⟩=some v/\FS w p l v
def gB(w:World)(p:Nat->Prop)(bl off:Nat):Wd->Prop
 |[]=>True
 |f::fs=>FC w p bl off f/\gB w p bl (off+5) fs
end
mutual
def FS.fn{w:World}{p p':Nat->Prop}:∀(a b:Wd){v:Value},FS w p a v->FS w p' b v->a=b
 |[],[],_,_,_=>rfl
 |[],f::fs,v,h,d=>by
  simp only[FS]at h d;obtain⟨a,c,rfl,_⟩:=h;obtain⟨o,j,q,e,-⟩:=d;injection e with k r t
  omega
 |f::fs,[],v,h,d=>by
  simp only[FS]at h d;obtain⟨o,j,q,rfl,-⟩:=h;obtain⟨a,c,e,_⟩:=d;injection e with k r t
  omega
 |f::fs,g::x,v,h,d=>by
  simp only[FS]at h d;obtain⟨o,j,c,rfl,-,-,y,z⟩:=h;obtain⟨D,u,q,e,-,-,m,n⟩:=d;injection e with k r t
  injection k with k
  injection k with A B
  subst A B;rw[FC.fn f g y m,gB.fn fs x (by omega) z n]
def FC.fn{w:World}{p p':Nat->Prop}{bl off:Nat}:∀(a b:Ft),FC w p bl off a->FC w p' bl off b->a=b
 |.mk cs l,.mk c k,h,f=>by
  simp only[FC]at h f;obtain⟨y,m,v,n,o⟩:=h;obtain⟨z,q,v',d,r⟩:=f;rw[n]at d;injection d with d
  subst d;have t:cs=c:=by
   apply Ip;intro j;rcases yN j 4 with u|u
   ·have x:=(m j cs[j] (bT (by omega))).2;have g:=(q j c[j] (bT (by omega))).2;rw[bT (by omega),bT (by omega)];rw[x]at g;exact g
   ·rw[wG (by omega),wG (by omega)]
  rw[t,FS.fn l k o r]
def gB.fn{w:World}{p p':Nat->Prop}{bl:Nat}:∀{off:Nat}(a b:Wd),a.length=b.length->gB w p bl off a->gB w p' bl off b->a=b
 |_,[],[],_,_,_=>rfl
 |_,[],_::_,e,_,_=>by simp at e
 |_,_::_,[],e,_,_=>by simp at e
 |_,f::fs,g::gs,e,h,c=>by simp only[gB]at h c;rw[FC.fn f g h.1 c.1,gB.fn fs gs (by simpa using e) h.2 c.2]
end
structure wI(w w':World)(p p':Nat->Prop):Prop where
 sub:∀b,p b->p' b
 cell:∀b o x,p b->w.cell? ⟨b,o,none⟩=some x->w'.cell? ⟨b,o,none⟩=some x
mutual
def FS.sub{w w':World}{p p':Nat->Prop}(h:wI w w' p p'):∀(a:Wd){v:Value},FS w p a v->FS w' p' a v
 |[],v,b=>by simpa only[FS]using b
 |f::fs,v,b=>by simp only[FS]at b⊢;obtain⟨bl,off,c,e,g,d,h1,j⟩:=b;exact⟨bl,off,c,e,g,h.sub _ d,FC.sub h d f h1,gB.sub h d fs j⟩
def FC.sub{w w':World}{p p':Nat->Prop}(h:wI w w' p p'){bl off:Nat}(b:p bl):∀(a:Ft),FC w p bl off a->FC w' p' bl off a
 |.mk cs l,c=>by simp only[FC]at c⊢;obtain⟨f,d,v,g,k⟩:=c;exact⟨f,λj x e=>⟨(d j x e).1,h.cell _ _ _ b (d j x e).2⟩,v,h.cell _ _ _ b g,FS.sub h l k⟩
def gB.sub{w w':World}{p p':Nat->Prop}(h:wI w w' p p'){bl:Nat}(c:p bl):∀{off:Nat}(a:Wd),gB w p bl off a->gB w' p' bl off a
 |_,[],_=>by simp only[gB]
 |_,f::fs,b=>by simp only[gB]at b⊢;exact⟨FC.sub h c f b.1,gB.sub h c fs b.2⟩
end
structure O8(w w':World)(p:Nat->Prop)(B O:Nat)(g:Wd):Prop where
 old:∃v,w.cell? ⟨B,O,none⟩=some v/\FS w p g v
 new:∃v,w'.cell? ⟨B,O,none⟩=some v/\FS w p g v
 rest:∀b o x,¬(b=B/\o=O)->w.cell? ⟨b,o,none⟩=some x->w'.cell? ⟨b,o,none⟩=some x
def FS.aaT{w:World}{p:Nat->Prop}{a:Wd}{v:Value}(h:FS w p a v):∃x n c,v=.slice x n c:=by
 cases a with
 |nil=>simp only[FS]at h;obtain⟨_,_,rfl,_⟩:=h;exact⟨_,_,_,rfl⟩
 |cons f b=>simp only[FS]at h;obtain⟨_,_,_,rfl,-⟩:=h;exact⟨_,_,_,rfl⟩
def FS.az0{w w':World}{p:Nat->Prop}{B O:Nat}{g l:Wd}(h:O8 w w' p B O g){b o:Nat}{v:Value}(a:w.cell? ⟨b,o,none⟩=some v)(c:FS w p l v)
 : ∃z,w'.cell? ⟨b,o,none⟩=some z/\FS w p l z:=by
 by_cases q:b=B/\o=O
 ·obtain⟨u,f,j⟩:=h.old;obtain⟨z,k,d⟩:=h.new;rw[q.1,q.2,f]at a;injection a with a
  subst a;have e:g=l:=FS.fn g l j c;rw[e]at d;exact⟨z,by rw[q.1,q.2];exact k,d⟩
 ·exact⟨v,h.rest _ _ _ q a,c⟩
mutual
def FS.put{w w':World}{p:Nat->Prop}{B O:Nat}{g:Wd}(h:O8 w w' p B O g):∀(a:Wd){v:Value},FS w p a v->FS w' p a v
 |[],v,b=>by simpa only[FS]using b
 |f::fs,v,b=>by simp only[FS]at b⊢;obtain⟨bl,off,c,e,d,j,h1,k⟩:=b;exact⟨bl,off,c,e,d,j,FC.put h f h1,gB.put h fs k⟩
def FC.put{w w':World}{p:Nat->Prop}{B O:Nat}{g:Wd}(h:O8 w w' p B O g){bl off:Nat}:∀(a:Ft),FC w p bl off a->FC w' p bl off a
 |.mk cs l,d=>by
  simp only[FC]at d⊢;obtain⟨f,b,v,k,m⟩:=d;obtain⟨z,n,o⟩:=FS.az0 h k m;refine⟨f,λj x e=>⟨(b j x e).1,h.rest _ _ _ (λq=>?_) (b j x e).2⟩,z,n,FS.put h l o⟩;obtain⟨u,r,t⟩:=h.old;have c:=(b j x e).2;rw[q.1,q.2,r]at c;injection c with c
  have y:=(b j x e).1;obtain⟨_,_,_,rfl⟩:=t.aaT;subst c;simp[WQ]at y
def gB.put{w w':World}{p:Nat->Prop}{B O:Nat}{g:Wd}(h:O8 w w' p B O g){bl:Nat}:∀{off:Nat}(a:Wd),gB w p bl off a->gB w' p bl off a
 |_,[],_=>by simp only[gB]
 |_,f::fs,b=>by simp only[gB]at b⊢;exact⟨FC.put h f b.1,gB.put h fs b.2⟩
end
def gB.at{w:World}{p:Nat->Prop}{bl:Nat}:∀{off:Nat}{fs:Wd}{i:Nat}{f:Ft},gB w p bl off fs->fs[i]? =some f->FC w p bl (off+i*5) f
 |off,[],i,f,h,hi=>by simp at hi
 |off,g::fs,0,f,h,hi=>by simp only[gB]at h;simp only[kX,aY]at hi;subst hi;simpa using h.1
 |off,g::fs,i+1,f,h,hi=>by simp only[gB]at h;simp only[wE]at hi;have:=gB.at h.2 hi;rw[show off+(i+1)*5=off+5+i*5 by omega];exact this
def gB.src{w:World}{p:Nat->Prop}{bl:Nat}:∀{off:Nat}(fs:Wd),gB w p bl off fs->∃b:Q6,b.length=fs.length*5/\(∀j u,b[j]? =some u->w.cell? ⟨bl,off+j,none⟩=some u)/\(∀u∈b,u.oneCell'=true)/\
 (∀w' p' g a,wI w w' p p'->(∀j u,b[j]? =some u->w'.cell? ⟨g,a+j,none⟩=some u)->gB w' p' g a fs)
 |_,[],_=>⟨[],rfl,by simp,by simp,λ_ _ _ _ _ _=>by simp only[gB]⟩
 |off,.mk cs l::fs,h=>by
  simp only[gB,FC]at h;obtain⟨⟨d,m,v,z,t⟩,A⟩:=h;obtain⟨r,r1,r2,r3,B⟩:=gB.src fs A;refine⟨cs++v::r,by simp[d,r1];omega,λj u c=>?_,λu hu=>?_,λw' p' g a y n=>?_⟩
  ·rcases yN j 4 with f|o
   ·rw[og (by omega)]at c;exact(m j u c).2
   ·rw[xI (by omega),d]at c;rcases Nat.eq_or_lt_of_le o with e|D
    ·subst e;simp only[BP,kX,aY]at c;subst c;exact z
    ·obtain⟨k,rfl⟩:∃k,j=k+5:=⟨j-5,by omega⟩
     rw[show k+5-4=k+1 by omega,wE]at c;have:=r2 k u c;rw[show off+(k+5)=off+5+k by omega];exact this
  ·rcases jJ.1 hu with hu|hu
   ·obtain⟨j,c⟩:=Lr hu;have:=(m j u c).1;unfold WQ at this;split at this
    ·cases this
    ·exact this
   ·rcases bH.1 hu with rfl|hu
    ·obtain⟨_,_,_,rfl⟩:=t.aaT;rfl
    ·exact r3 u hu
  ·simp only[gB,FC];refine⟨⟨d,λj x q=>⟨(m j x q).1,?_⟩,v,?_,FS.sub y l t⟩,?_⟩
   ·have f:j<cs.length:=(fM.1 q).1;exact n j x (by rw[og f];exact q)
   ·exact n 4 v (by rw[xI (by omega),d];rfl)
   ·refine B w' p' g (a+5) y λj u c=>?_;have:=n (j+5) u (by rw[xI (by omega),d,show j+5-4=j+1 by omega,wE];exact c);rw[show a+5+j=a+(j+5) by omega];exact this
def FS.len{w:World}{p:Nat->Prop}{l:Wd}{v:Value}(h:FS w p l v):∃a c,v=.slice a l.length c:=by
 cases l with
 |nil=>simp only[FS]at h;obtain⟨a,c,rfl,_⟩:=h;exact⟨a,c,rfl⟩
 |cons f d=>simp only[FS]at h;obtain⟨g,b,c,rfl,-⟩:=h;exact⟨_,c,rfl⟩
def FS.src{w:World}{p:Nat->Prop}{l:Wd}{v:Value}(h:FS w p l v):(v=.slice none 0 0/\l=[])\/∃k c,∃b:Q6,v=.slice (some k) l.length c/\b.length=l.length*5/\(∀j u,b[j]? =some u->w.cell? (k.add j)=some u)/\(∀u∈b,u.oneCell'=true)/\
 (∀w' p' m,wI w w' p p'->(∀j u,b[j]? =some u->w'.cell? ⟨m,j,none⟩=some u)->gB w' p' m 0 l):=by
 cases l with
 |nil=>
  simp only[FS]at h;obtain⟨a,c,rfl,h⟩:=h;cases a with
  |none=>
   rcases h with⟨_,_,e⟩|rfl
   ·cases e
   ·exact .inl ⟨rfl,rfl⟩
  |some k=>exact .inr ⟨k,c,[],rfl,rfl,by simp,by simp,λ_ _ _ _ _=>by simp only[gB]⟩
 |cons f q=>
  simp only[FS]at h;obtain⟨n,d,c,rfl,E,F,r,t⟩:=h;obtain⟨b,x,y,z,A⟩:=gB.src (f::q) (by simp only[gB];exact⟨r,t⟩);refine .inr ⟨⟨n,d,none⟩,c,b,rfl,x,λj u o=>?_,z,λw' p' m B o=>A w' p' m 0 B λj u D=>by rw[lQ];exact o j u D⟩;have g:(Addr.mk n d none).add j=⟨n,d+j,none⟩:=by unfold Addr.add;split<;>simp_all
  rw[g];exact y j u o
structure Pk(e:TypeId)(w0 w:World)(p:Nat->Prop):Prop where
 lt:∀b,p b->b<w.heap.size
 el:∀b,p b->w0.heap.size<=b->∃cs,w.heap[b]? =some (.cells cs e (0,0))
def newS(w0:World)(v:Value):Prop:=∀b a n c,v=.slice (some ⟨b,a,none⟩) n c->w0.heap.size<=b
def FS.copied{e:TypeId}{w0 w w':World}{p:Nat->Prop}(r:Pk e w0 w p)(h0:w0.heap.size<=w.heap.size){l:Wd}{v':Value}(d:Q6)
 (v:∀w' p' L,wI w w' p p'->(∀j u,d[j]? =some u->w'.cell? ⟨L,j,none⟩=some u)->gB w' p' L 0 l)
 (k:w'.ownsRow w.heap.size e 5 v' l.length d) (y:w.grownBy w' none):
 ∃p',wI w w' p p'/\(∀b,p' b->p b\/w.heap.size<=b)/\Pk e w0 w' p'/\FS w' p' l v'/\newS w0 v':=by
 have m:∀b o,b<w.heap.size->w'.cell? ⟨b,o,none⟩=w.cell? ⟨b,o,none⟩:=λb o a=>aeE (w:=w) (y.block b a (by simp));obtain⟨_,k⟩:=k;rcases k with⟨rfl,O⟩|⟨g,D,P,rfl,E,a,z,_,Q,t⟩
 ·have R:l=[]:=jH O;subst R
  exact⟨p,⟨λ_ h=>h,λb o x a F=>by rw[m b o (r.lt b a)];exact F⟩,λ_ h=>.inl h,⟨λb a=>yM (r.lt b a) y.size,λb a G=>by rw[y.block b (r.lt b a) (by simp)];exact r.el b a G⟩,
   by simp only[FS];exact⟨_,_,rfl,.inr rfl⟩,by intro S H n c e;simp at e⟩
 ·have I:g<w'.heap.size:=(rG.1 a).1;have M:wI w w' p (λb=>p b\/b=g):=⟨λ_ h=>.inl h,λb o x a F=>by rw[m b o (r.lt b a)];exact F⟩
  have J:∀j u,d[j]? =some u->w'.cell? ⟨g,j,none⟩=some u:=by
   intro j u B;rw[<-t,mg]at B;split at B
   ·simp only[World.cell?,a];rw[ah (by simp)];simpa using B
   ·cases B
  have q:=v w' _ g M J;refine⟨λb=>p b\/b=g,M,λb a=>a.imp id (λe=>by subst e;exact E),⟨λb a=>?_,λb a G=>?_⟩,?_,?_⟩
  ·rcases a with a|rfl
   ·exact yM (r.lt b a) y.size
   ·exact I
  ·rcases a with A|rfl
   ·rw[y.block b (r.lt b A) (by simp)];exact r.el b A G
   ·exact⟨_,a⟩
  ·cases l with
   |nil=>simp only[FS];exact⟨_,_,rfl,.inl ⟨_,_,rfl⟩⟩
   |cons f V=>simp only[gB]at q;simp only[FS];exact⟨g,0,D,rfl,z,.inr rfl,q.1,q.2⟩
  ·intro S H n c e;simp only[Value.slice.injEq,aY,Addr.mk.injEq]at e;obtain⟨⟨rfl,-⟩,-⟩:=e;omega
def sumW:List (Value×Wd)->Nat
 |[]=>0
 |q::l=>1+pK q.2+sumW l
def ac6:∀(a b:List (Value×Wd)),sumW (a++b)=sumW a+sumW b
 |[],b=>by simp[sumW]
 |q::a,b=>by simp[sumW,ac6 a b];omega
def ac7:∀(a:List (Value×Wd)),a.length<=sumW a
 |[]=>by simp[sumW]
 |q::a=>by have:=ac7 a;simp[sumW];omega
def UU:∀(a:Wd),a.length<=pK a
 |[]=>by simp[pK]
 |.mk cs l::a=>by have:=UU a;simp[pK,cntF];omega
def afM:∀{a:Wd}{i:Nat}{cs:Q6}{l:Wd},a[i]? =some (.mk cs l)->pK (a.drop i)=1+pK l+pK (a.drop (i+1))
 |[],i,cs,l,h=>by simp at h
 |x::a,0,cs,l,h=>by simp at h;subst h;simp[pK,cntF]
 |x::a,i+1,cs,l,h=>by simp at h;simpa using afM h
structure CB(e:TypeId)(w0:World)(ro:Qf)(xs:Wd)(cv:Value)(w:World)(p:Nat->Prop):Prop where
 below:Below w0.heap.size w0 w
 Xd:∀b,p b->b<w0.heap.size->ro b≠none
 pk:Pk e w0 w p
 top:FS w p xs cv
structure Pj(w0 w:World)(p:Nat->Prop)(T:TypeId)(wk:Value)(ws:List (Value×Wd)):Prop where
 own:w.ownsRow w0.heap.size T 1 wk ws.length (ws.map (·.1))
 each:∀q∈ws,FS w p q.2 q.1/\newS w0 q.1
section
variable{e T:TypeId}{w0 w:World}{ro:Qf}{xs l li:Wd}{cv s wk v':Value}{N i:Nat}
def CI(e T:TypeId)(w0:World)(ro:Qf)(xs:Wd)(cv:Value)(N:Nat)(wk:Value)(w:World):Prop:=
 ∃p a,CB e w0 ro xs cv w p/\Pj w0 w p T wk a/\sumW a<=N
def II(e T:TypeId)(w0:World)(ro:Qf)(xs:Wd)(cv:Value)(N:Nat)(l:Wd)(s:Value)(i:Nat)(wk:Value)(w:World):Prop:=
 ∃p a,CB e w0 ro xs cv w p/\Pj w0 w p T wk a/\FS w p l s/\newS w0 s/\sumW a+pK (l.drop i)+1<=N
def MI(e T:TypeId)(w0:World)(ro:Qf)(xs:Wd)(cv:Value)(N:Nat)(l:Wd)(s:Value)(i:Nat)(wk:Value)(w:World)(v':Value)(li:Wd):Prop:=
 ∃p a,CB e w0 ro xs cv w p/\Pj w0 w p T wk a/\FS w p l s/\newS w0 s/\FS w p li v'/\newS w0 v'/\sumW a+(1+pK li)+pK (l.drop i)+1<=N
def WV{base size n:Nat}{xs:Q6}(h:w.ownsRow base T size wk n xs){b:Nat}(a:wk.ownBlock=some b):base<=b/\∃cs,w.heap[b]? =some (.cells cs T (0,0)):=by
 rcases h.2 with⟨rfl,_⟩|⟨g,d,f,rfl,c,j,_⟩
 ·simp[Value.ownBlock]at a
 ·simp only[Value.ownBlock,aY]at a;subst a;exact⟨c,_,j⟩
def ajB{base size n:Nat}{xs:Q6}{w':World}(h:w.ownsRow base T size wk n xs)(f:∀b,wk.ownBlock=some b->w'.heap[b]? =w.heap[b]?):w'.ownsRow base T size wk n xs:=by
 refine⟨h.1,?_⟩;rcases h.2 with j|⟨g,a,c,rfl,d,k,m⟩
 ·exact .inl j
 ·exact .inr ⟨g,a,c,rfl,d,by rw[f g rfl];exact k,m⟩
def Pj.ajs{p:Nat->Prop}{c:List (Value×Wd)}(h:Pj w0 w p T wk c)(d:Pk e w0 w p)(f:e≠T){b:Nat}(g:wk.ownBlock=some b):¬p b:=by intro j;obtain⟨k,o,m⟩:=WV h.own g;obtain⟨n,a⟩:=d.el b j k;rw[m]at a;simp only[aY,Obj.cells.injEq]at a;exact f a.2.1.symm
def Pk.same{w':World}{p:Nat->Prop}(d:Pk e w0 w p)(c:w.heap.size<=w'.heap.size)(h:∀b,p b->w'.heap[b]? =w.heap[b]?):Pk e w0 w' p:=
 ⟨λb a=>yM (d.lt b a) c,λb a f=>by rw[h b a];exact d.el b a f⟩
def wI.of{w':World}{p:Nat->Prop}(h:∀b,p b->w'.heap[b]? =w.heap[b]?):wI w w' p p:=
 ⟨λ_ h=>h,λb o x a c=>by rw[aeE (w:=w) (h b a)];exact c⟩
def CI.start{w1:World}{f:Value}(h:∃p,CB e w0 ro xs f w1 p)(k:newS w0 f):CI e T w0 ro xs f (1+pK xs) (.slice (some ⟨w1.heap.size,0,none⟩) 1 1) (w1.alloc (.cells #[f] T)):=by obtain⟨p,c⟩:=h;have d:∀b,p b->(w1.alloc (.cells #[f] T)).heap[b]? =w1.heap[b]?:=λb m=>Below.heap_alloc w1 _ b (c.pk.lt b m);have a:=wI.of d;have g:=World.ownsRow_lit (base:=w0.heap.size) (e:=T) (size:=1) w1 #[f] 1 c.below.size (by unfold maxLen;omega) rfl;refine⟨p,[(f,xs)],⟨c.below.alloc c.below.size _,c.Xd,c.pk.same (by simp) d,c.top.sub a⟩,⟨by simpa using g,λq j=>?_⟩,by simp[sumW]⟩;simp only[jK]at j;subst j;exact⟨c.top.sub a,k⟩
def II.len(h:II e T w0 ro xs cv N l s i wk w):∃a c,s=.slice a l.length c:=by obtain⟨p,d,f,g,b,_⟩:=h;exact b.len
def II.bound(h:II e T w0 ro xs cv N l s 0 wk w):l.length<=N:=by obtain⟨p,c,d,f,a,_,b⟩:=h;have:=UU l;simp only[dN]at b;omega
def CI.pop(h:CI e T w0 ro xs cv N wk w):(∃a c,wk=.slice a 0 c/\∃p,CB e w0 ro xs cv w p)\/
 ∃bl cap m s l,wk=.slice (some ⟨bl,0,none⟩) (m+1) cap/\m+1<=cap/\m+1<=N/\w.cell? ⟨bl,m,none⟩=some s/\II e T w0 ro xs cv N l s 0 (.slice (some ⟨bl,0,none⟩) m cap) w:=by
 obtain⟨p,D,x,v,A⟩:=h;rcases amB D with rfl|⟨b,q,rfl⟩
 ·left;rcases v.own.2 with⟨rfl,_⟩|⟨g,cap,f,rfl,_⟩
  ·exact⟨_,_,rfl,p,x⟩
  ·exact⟨_,_,rfl,p,x⟩
 ·right;rcases v.own.2 with⟨_,E⟩|⟨g,cap,f,n,y,B,j,o,z,d⟩
  ·simp at E
  ·have t:(b.concat q).length=b.length+1:=by simp
   rw[t]at n j d;have u:q∈b.concat q:=by simp
   obtain⟨F,G⟩:=v.each q u;refine⟨g,cap,b.length,q.1,q.2,n,j,by have:=ac7 (b.concat q);omega,?_,p,b,x,⟨⟨by simp,.inr ⟨g,cap,f,rfl,y,B,by omega,o,z,?_⟩⟩,λr H=>v.each r (by simp[H])⟩,F,G,?_⟩
   ·have I:f.toList[b.length]? =some q.1:=by
     have k:(f.toList.take ((b.length+1)*1))[b.length]? =some q.1:=by rw[d];simp
     rw[mg]at k;rw[aj (by omega)]at k;exact k
    simp only[World.cell?,B];rw[ah (by simp)];simpa using I
   ·have k:(f.toList.take ((b.length+1)*1)).take (b.length*1)=b.map (·.1):=by rw[d];simp
    rw[aem,LJ (by omega)]at k;exact k
   ·rw[amA,ac6]at A;simp only[sumW]at A;simp only[dN];omega
def II.done(h:II e T w0 ro xs cv N l s l.length wk w):CI e T w0 ro xs cv (N-1) wk w/\1<=N:=by obtain⟨p,a,b,c,_,_,d⟩:=h;exact⟨⟨p,a,b,c,by omega⟩,by omega⟩
def MI.skip(h:MI e T w0 ro xs cv N l s i wk w v' li):II e T w0 ro xs cv N l s i wk w:=by obtain⟨p,a,b,c,d,f,_,_,g⟩:=h;exact⟨p,a,b,c,d,f,by omega⟩
def MI.push(D:e≠T)(h:MI e T w0 ro xs cv N l s i wk w v' li):∃n A,w.ownsRow w0.heap.size T 1 wk n A/\n+1<=N/\w0.heap.size<=w.heap.size/\
 ∀o v g,g.ownsRow w0.heap.size T 1 v (n+1) (A++[v'])->(w.alloc o).grownBy g wk.ownBlock->II e T w0 ro xs cv N l s i v g:=by
 obtain⟨p,t,c,j,E,F,G,H,L⟩:=h;have B:=ac7 t;refine⟨t.length,t.map (·.1),j.own,by omega,c.below.size,λo v g m x=>?_⟩;have r:∀b,p b->some b≠wk.ownBlock:=λb u I=>j.ajs c.pk D I.symm u;have d:∀b,p b->g.heap[b]? =w.heap[b]?:=λb u=>by have y:=c.pk.lt b u;rw[x.block b (by simp;omega) (r b u)];exact Below.heap_alloc w o b y
 have z:w.heap.size<=g.heap.size:=by have:=x.size;simp at this;omega
 have a:=wI.of d;refine⟨p,t++[(v',li)],⟨?_,c.Xd,c.pk.same z d,c.top.sub a⟩,⟨by simpa using m,λq f=>?_⟩,E.sub a,F,?_⟩
 ·refine(c.below.alloc c.below.size o).grown x (by simp;have:=c.below.size;omega) λk J=>(WV j.own J).1
 ·rcases jJ.1 f with f|f
  ·exact⟨(j.each q f).1.sub a,(j.each q f).2⟩
  ·simp only[jK]at f;subst f;exact⟨G.sub a,H⟩
 ·rw[ac6];simp only[sumW];omega
def II.step(hT:e≠T)(h:II e T w0 ro xs cv N l s i wk w)(hi:i<l.length):∃bl off c li D,∃d:Q6,s=.slice (some ⟨bl,off,none⟩) l.length c/\l.length<=c/\w.cell? ⟨bl,off+i*5+4,none⟩=some D/\
 ((D=.slice none 0 0/\li=[]/\d=[])\/∃X ci,D=.slice (some X) li.length ci/\∀j u,d[j]? =some u->w.cell? (X.add j)=some u)/\d.length=li.length*5/\(∀u∈d,u.oneCell'=true)/\li.length<=N/\
 ∀v' w1,w1.ownsRow w.heap.size e 5 v' li.length d->w.grownBy w1 none->
  w1.cell? ⟨bl,off+i*5+4,none⟩=some D/\w1.frozen? ⟨bl,off+i*5+4,none⟩=false/\(∃a c,v'=.slice a li.length c)/\
  MI e T w0 ro xs cv N l s (i+1) wk (w1.setCell ⟨bl,off+i*5+4,none⟩ v') v' li:=by
 obtain⟨p,ws,t,I,v,J,ai⟩:=h;obtain⟨f,hf⟩:∃f,l[i]? =some f:=⟨_,bT hi⟩
 obtain⟨cs,li⟩:=f;have Z:=v;cases L:l with
 |nil=>rw[L]at hi;simp at hi
 |cons x0 l0=>
 rw[L]at v;simp only[FS]at v;obtain⟨bl,off,c,rfl,hc,Y,M,aa⟩:=v;have O:w0.heap.size<=bl:=J _ _ _ _ rfl;have P:FC w p bl (off+i*5) (.mk cs li):=gB.at (fs:=x0::l0) (by simp only[gB];exact⟨M,aa⟩) (by rw[<-L];exact hf);simp only[FC]at P;obtain⟨_,_,D,F,Q⟩:=P;have ak:=afM hf;have al:=UU li;rw[<-L]
 have E:∀d:Q6,(∀w' R pJ,wI w w' p R->(∀j u,d[j]? =some u->w'.cell? ⟨pJ,j,none⟩=some u)->gB w' R pJ 0 li)->
  ∀v' w1,w1.ownsRow w.heap.size e 5 v' li.length d->w.grownBy w1 none->
  w1.cell? ⟨bl,off+i*5+4,none⟩=some D/\w1.frozen? ⟨bl,off+i*5+4,none⟩=false/\(∃a c,v'=.slice a li.length c)/\
  MI e T w0 ro xs cv N l (.slice (some ⟨bl,off,none⟩) (l0.length+1) c) (i+1) wk (w1.setCell ⟨bl,off+i*5+4,none⟩ v') v' li:=by
  intro d hn v' w1 S hg;obtain⟨R,H,s2,s3,s4,s5⟩:=FS.copied t.pk t.below.size d hn S hg;have am:=t.pk.lt bl Y;obtain⟨y,z⟩:=s3.el bl (H.sub _ Y) O;have m:w1.cell? ⟨bl,off+i*5+4,none⟩=some D:=H.cell _ _ _ Y F;refine⟨m,by simp only[World.frozen?,z];simp,s4.len,?_⟩;have an:li.length=li.length:=rfl;have g:∀b,b≠bl->(w1.setCell ⟨bl,off+i*5+4,none⟩ v').heap[b]? =w1.heap[b]?:=λb G=>heap_setCell_other w1 ⟨bl,off+i*5+4,none⟩ b v' G;have n:(w1.setCell ⟨bl,off+i*5+4,none⟩ v').heap[bl]? =some (.cells (y.setIfInBounds (off+i*5+4) v') e (0,0)):=heap_setCell_same w1 bl (off+i*5+4) y e v' z;have ab:off+i*5+4<y.size:=by simp only[World.cell?,z]at m;rw[ah (by simp)]at m;exact(rG.1 m).1
  have k:O8 w1 (w1.setCell ⟨bl,off+i*5+4,none⟩ v') R bl (off+i*5+4) li:=by
   refine⟨⟨D,m,Q.sub H⟩,⟨v',?_,s4⟩,λb o x G M=>?_⟩
   ·simp only[World.cell?,n];rw[ah (by simp)];simp[ab]
   ·by_cases A:b=bl
    ·have ac:o≠off+i*5+4:=λe2=>G ⟨A,e2⟩;rw[A,cell_of_row w1 bl o y e (0,0) z]at M;rw[A,cell_of_row _ bl o _ e (0,0) n,DR,ah (λe2=>ac e2.symm)];exact M
    ·rw[aeE (w:=w1) (g b A)];exact M
  have V:(w1.setCell ⟨bl,off+i*5+4,none⟩ v').heap.size=w1.heap.size:=by simp
  have ae:∀b,wk.ownBlock=some b->b≠bl:=λb B A=>by subst A;exact I.ajs t.pk hT B Y
  have af:Below w0.heap.size w0 w1:=t.below.grown hg t.below.size (by simp);refine⟨R,ws,⟨af.setCell O v',λb r ag=>?_,⟨λb r=>by rw[V];exact s3.lt b r,λb r h1=>?_⟩,(t.top.sub H).put k⟩,⟨?_,λq hq=>⟨((I.each q hq).1.sub H).put k,(I.each q hq).2⟩⟩,(Z.sub H).put k,J,s4.put k,s5,?_⟩
  ·rcases s2 b r with h1|h1
   ·exact t.Xd b h1 ag
   ·have:=t.below.size;omega
  ·by_cases A:b=bl
   ·subst A;exact⟨_,n⟩
   ·rw[g b A];exact s3.el b r h1
  ·refine ajB I.own λb B=>?_;rw[g b (ae b B)];obtain⟨_,ao,h2⟩:=WV I.own B;exact hg.block b (rG.1 h2).1 (by simp)
  ·omega
 have W:l0.length+1=l.length:=by rw[L];rfl
 rcases Q.src with⟨rfl,rfl⟩|⟨X,ci,d,rfl,n1,n2,n3,n4⟩
 ·exact⟨bl,off,c,[],_,[],by rw[W],by omega,F,.inl ⟨rfl,rfl,rfl⟩,rfl,by simp,by simp,E [] λ_ _ _ _ _=>by simp only[gB]⟩
 ·exact⟨bl,off,c,li,_,d,by rw[W],by omega,F,.inr ⟨X,ci,rfl,n2⟩,n1,n3,by omega,E d n4⟩
end
def amr{P:Program}(w:World){n:W5}{rest:List Oper}{o:Oper}{a:Act}{Q:Exit->Act->World->Prop}(p:o.guard=none)(s x:Operand)(t:TypeId)
 (F:o.op=.call {callee:=.builtin .append,args:=#[s,x],argTypes:=#[t,t]})
 (e:TypeId) (i:TypeInfo) (z:Value) (b bytes:Nat) (G:P.underlying t=some (.slice e)) (hi:P.info? e=some i) (J:i.zero=some z)
 (k:i.size=b) (A:i.bytes=bytes) (B:z.cells.size=b) (D:0<b)
 (H:a.eval s=.slice none 0 0) (m:Nat) (d:Q6) (E:Value) (q:a.eval x=E)
 (r:(E=.slice none 0 0/\m=0/\d=[])\/∃y c,E=.slice (some y) m c/\∀j u,d[j]? =some u->w.cell? (y.add j)=some u)
 (L:d.length=m*b) (M:∀u∈d,u.oneCell'=true) (O:m<=maxLen) (g:m*bytes<=140737488355328)
 (h:∀v' v,v.ownsRow w.heap.size e b v' m d->w.grownBy v none->wpList P n Q rest (a.put o.dst v') v):wpList P n Q (o::rest) a w:=by
 have f:w.ownsRow w.heap.size e b (.slice none 0 0) 0 []:=⟨by simp,.inl ⟨rfl,rfl⟩⟩
 rcases r with⟨r,rfl,rfl⟩|⟨y,c,r,R⟩
 ·refine wpList_plain p λK S=>?_;have V:=run_append_owned_none (P:=P) w w.heap.size t o.type e i b G hi (.slice none 0 0) 0 [] f;unfold Oper.wp execOp;simp only[F,resolve,invoke,builtin,aV,bJ,aU,List.map_toArray,iP,jI,H,q,r,V];exact S _ _ (h _ w f ⟨rfl,rfl,rfl,dD _,λ_ _ _=>rfl⟩)
 ·refine wpList_append_own w p s x t F w.heap.size e i z b bytes G hi J k A B D (.slice none 0 0) 0 [] H f y m c d (q.trans r) L R M (by omega) (by rw[lQ];exact g) (dD _) λv' v I W _=>?_;rw[lQ,aX]at I;exact h v' v I W
def UZ{ro:Qf}{a:GV}{x v:Value}(h:Gp a=some x)(b:GR ro a v):v=x/\WQ x=true:=by cases a<;>simp only[Gp,aY,reduceCtorEq]at h<;>(simp only[GR]at b;subst h;subst b;exact⟨rfl,rfl⟩)
def U0{ro:Qf}{a:GV}{x:Value}(h:Gp a=some x):GR ro a x:=by cases a<;>simp only[Gp,aY,reduceCtorEq]at h<;>(subst h;simp only[GR])
def aaS:∀(fs:Wd)(xs:Q1),ru fs xs->xs.length=fs.length
 |[],xs,h=>by simp only[ru]at h;subst h;rfl
 |f::fs,xs,h=>by simp only[ru]at h;obtain⟨x,r,rfl,_,a⟩:=h;simp[aaS fs r a]
def ah6{ro:Qf}(f:Ft)(x:GV){y:Value}(h:Ez f x)(g:GR ro x y):y.cells.size=5:=by obtain⟨j,l⟩:=f;simp only[Ez]at h;obtain⟨a,b,c,d,k,rfl,_,_⟩:=h;simp only[GR,aS]at g;obtain⟨m,rfl,n,o,rfl,_,p,q,rfl,_,r,t,rfl,_,u,v,rfl,_,z,A,rfl,_,rfl⟩:=g;rfl
mutual
def adW{ro:Qf}{w:World}(d:∀b o,ro b=some o->w.heap[b]? =some o):∀(fs:Wd)(xs:Q1){v:Value},ru fs xs->GR ro (.l xs) v->FS w (λb=>ro b≠none) fs v
 |[],xs,v,k,h=>by
  simp only[ru]at k;subst k;simp only[GR]at h;simp only[FS];rcases h with⟨_,p,rfl⟩|⟨bl,off,c,H,sz,rfl,_⟩
  ·exact⟨_,_,rfl,.inr rfl⟩
  ·exact⟨_,_,rfl,.inl ⟨_,_,rfl⟩⟩
 |f::fs,xs,v,k,h=>by
  simp only[ru]at k;obtain⟨x,r,rfl,B,D⟩:=k;simp only[GR]at h;rcases h with⟨h,_⟩|⟨bl,off,c,H,sz,rfl,I,m,J,L⟩
  ·cases h
  obtain⟨M,n,O,E,Q,P⟩:=L (by simp);have q:r.length=fs.length:=aaS fs r D;simp only[aS]at m;obtain⟨y,t,rfl,F,z⟩:=m;have a:∀j u,(dJ (y::t))[j]? =some u->w.cell? ⟨bl,off+j,none⟩=some u:=λj u g=>by rw[cell_of_row w bl (off+j) M n O (d _ _ E)];exact P j u g
  simp only[FS];have G:=ah6 f x B F;refine⟨bl,off,c,by simp[q],by simp at I;omega,by simp[E],adS d f x B F λj u g=>a j u ?_,adU d fs r D z λj u g=>?_⟩
  ·have A:j<y.cells.toList.length:=(fM.1 g).1;simp only[dJ,kE];rw[og A];exact g
  ·have:=a (5+j) u (by simp only[dJ,kE];rw[xI (by simp[G]),show 5+j-y.cells.toList.length=j by simp[G]];exact g)
   rw[show off+5+j=off+(5+j) by omega];exact this
def adS{ro:Qf}{w:World}(p:∀b o,ro b=some o->w.heap[b]? =some o):∀(f:Ft)(x:GV){y:Value}{bl off:Nat},Ez f x->GR ro x y->(∀j u,y.cells.toList[j]? =some u->w.cell? ⟨bl,off+j,none⟩=some u)->FC w (λb=>ro b≠none) bl off f
 |.mk cs l,x,y,bl,off,q,h,n=>by
  simp only[Ez]at q;obtain⟨a,b,c,d,t,rfl,m,v⟩:=q;simp only[GR,aS]at h;obtain⟨R,rfl,S,V,rfl,A,W,X,rfl,B,Y,Z,rfl,D,v4,l4,rfl,E,r,l5,rfl,F,rfl⟩:=h;have G:cs.length=4:=by have:=uf List.length m;simpa using this.symm
  match cs,G with
  |[c1,c2,c3,c4],_=>
  simp only[iP,jI,xH,and_true]at m;obtain⟨H,I,J,L⟩:=m;obtain⟨rfl,M⟩:=UZ H A;obtain⟨rfl,O⟩:=UZ I B;obtain⟨rfl,P⟩:=UZ J D;obtain⟨rfl,Q⟩:=UZ L E;simp only[FC];refine⟨rfl,λj z g=>?_,r,n 4 r rfl,adW p l t v (by simp only[GR];exact F)⟩;match j,g with
  |0,g=>simp only[kX,aY]at g;subst g;exact⟨M,n 0 _ rfl⟩
  |1,g=>simp only[wE,kX,aY]at g;subst g;exact⟨O,n 1 _ rfl⟩
  |2,g=>simp only[wE,kX,aY]at g;subst g;exact⟨P,n 2 _ rfl⟩
  |3,g=>simp only[wE,kX,aY]at g;subst g;exact⟨Q,n 3 _ rfl⟩
  |k+4,g=>simp at g
def adU{ro:Qf}{w:World}(a:∀b o,ro b=some o->w.heap[b]? =some o):∀(fs:Wd)(xs:Q1){c:Q6}{bl off:Nat},ru fs xs->aS ro xs c->(∀j u,(dJ c)[j]? =some u->w.cell? ⟨bl,off+j,none⟩=some u)->gB w (λb=>ro b≠none) bl off fs
 |[],xs,c,bl,off,g,h,k=>by simp only[gB]
 |f::fs,xs,c,bl,off,g,h,k=>by
  simp only[ru]at g;obtain⟨x,r,rfl,p,v⟩:=g;simp only[aS]at h;obtain⟨y,z,rfl,q,m⟩:=h;simp only[gB];have t:=ah6 f x p q;refine⟨adS a f x p q λj u d=>k j u ?_,adU a fs r v m λj u d=>?_⟩
  ·have n:j<y.cells.toList.length:=(fM.1 d).1;simp only[dJ,kE];rw[og n];exact d
  ·have:=k (5+j) u (by simp only[dJ,kE];rw[xI (by simp[t]),show 5+j-y.cells.toList.length=j by simp[t]];exact d)
   rw[show off+5+j=off+(5+j) by omega];exact this
end
mutual
def adX{ro:Qf}{w:World}{p:Nat->Prop}(G:∀b,p b->∀o,w.heap[b]? =some o->ro b=some o):∀(fs:Wd)(xs:Q1){v:Value},ru fs xs->FS w p fs v->GR ro (.l xs) v
 |[],xs,v,B,h=>by
  simp only[ru]at B;subst B;simp only[FS]at h;simp only[GR];obtain⟨a,c,rfl,⟨bl,off,rfl⟩|rfl⟩:=h
  ·exact .inr ⟨bl,off,c,[],0,rfl,tJ _,by simp[aS],by simp,λP=>absurd rfl P⟩
  ·exact .inl ⟨trivial,_,rfl⟩
 |f::fs,xs,v,B,h=>by
  simp only[ru]at B;obtain⟨x,r,rfl,Q,L⟩:=B;simp only[FS]at h;obtain⟨bl,off,c,rfl,hc,H,R,S⟩:=h;have m:r.length=fs.length:=aaS fs r L;obtain⟨y,V,D,W⟩:=adT G f x Q R;obtain⟨t,X,M,Y⟩:=adV G fs r L S;simp only[GR];refine .inr ⟨bl,off,c,y::t,5,by simp[m],by simp[m];omega,by simp only[aS];exact⟨y,t,rfl,V,X⟩,λq z=>?_,λ_=>?_⟩
  ·rcases bH.1 z with rfl|z
   ·exact D
   ·exact M q z
  ·have n:∀j u,(dJ (y::t))[j]? =some u->w.cell? ⟨bl,off+j,none⟩=some u:=by
    intro j u A;simp only[dJ,kE]at A;rcases yN j 5 with I|J
    ·rw[og (by simp[D];exact I)]at A;exact W j u A
    ·rw[xI (by simp[D];exact J)]at A;have:=Y (j-5) u (by simpa[D,dJ]using A);rw[show off+5+(j-5)=off+j by omega]at this;exact this
   have h5:(dJ (y::t)).length=(t.length+1)*5:=by
    letI:aH:=Tg [] [] 0
    rw[Gj (sz:=5)]
    ·rfl
    ·intro q z;rcases bH.1 z with rfl|z
     ·exact D
     ·exact M q z
   obtain⟨u,Z⟩:∃u,(dJ (y::t))[(t.length+1)*5-1]? =some u:=⟨_,bT (by omega)⟩
   have g:=n _ u Z;have k:∃E d F,w.heap[bl]? =some (.cells E d F):=by
    simp only[World.cell?]at g;cases O:w.heap[bl]? with
    |none=>simp[O]at g
    |some o=>cases o<;>simp[O]at g<;>exact⟨_,_,_,rfl⟩
   obtain⟨E,d,F,k⟩:=k;refine⟨E,d,F,G bl H _ k,?_,λj u A=>?_⟩
   ·rw[cell_of_row w bl _ E d F k]at g;have:=(rG.1 g).1;omega
   ·have:=n j u A;rw[cell_of_row w bl _ E d F k]at this;exact this
def adT{ro:Qf}{w:World}{p:Nat->Prop}(D:∀b,p b->∀o,w.heap[b]? =some o->ro b=some o):∀(f:Ft)(x:GV){bl off:Nat},Ez f x->FC w p bl off f->∃y,GR ro x y/\y.cells.size=5/\∀j u,y.cells.toList[j]? =some u->w.cell? ⟨bl,off+j,none⟩=some u
 |.mk cs l,x,bl,off,q,h=>by
  simp only[Ez]at q;obtain⟨a,b,c,d,E,rfl,m,F⟩:=q;simp only[FC]at h;obtain⟨G,n,v,H,I⟩:=h;match cs,G with
  |[r,t,z,A],_=>
  simp only[iP,jI,xH,and_true]at m;obtain⟨J,L,M,O⟩:=m;refine⟨.agg #[r,t,z,A,v],?_,rfl,λj u g=>?_⟩
  ·have B:=adX D l E F I;simp only[GR,aS]at B⊢;exact⟨[r,t,z,A,v],rfl,_,_,rfl,U0 J,_,_,rfl,U0 L,_,_,rfl,U0 M,_,_,rfl,U0 O,_,_,rfl,B,rfl⟩
  ·match j,g with
   |0,g=>simp[Value.cells]at g;subst g;exact(n 0 _ rfl).2
   |1,g=>simp[Value.cells]at g;subst g;exact(n 1 _ rfl).2
   |2,g=>simp[Value.cells]at g;subst g;exact(n 2 _ rfl).2
   |3,g=>simp[Value.cells]at g;subst g;exact(n 3 _ rfl).2
   |4,g=>simp[Value.cells]at g;subst g;exact H
   |k+5,g=>simp[Value.cells]at g
def adV{ro:Qf}{w:World}{p:Nat->Prop}(t:∀b,p b->∀o,w.heap[b]? =some o->ro b=some o):∀(fs:Wd)(xs:Q1){bl off:Nat},ru fs xs->gB w p bl off fs->∃a,aS ro xs a/\(∀y∈a,y.cells.size=5)/\∀j u,(dJ a)[j]? =some u->w.cell? ⟨bl,off+j,none⟩=some u
 |[],xs,bl,off,c,h=>by simp only[ru]at c;subst c;exact⟨[],by simp[aS],by simp,by simp[dJ]⟩
 |f::fs,xs,bl,off,c,h=>by
  simp only[ru]at c;obtain⟨x,r,rfl,v,z⟩:=c;simp only[gB]at h;obtain⟨y,A,g,B⟩:=adT t f x v h.1;obtain⟨a,D,E,F⟩:=adV t fs r z h.2;refine⟨y::a,by simp only[aS];exact⟨y,a,rfl,A,D⟩,λq k=>?_,λj u d=>?_⟩
  ·rcases bH.1 k with rfl|k
   ·exact g
   ·exact E q k
  ·simp only[dJ,kE]at d;rcases yN j 5 with m|n
   ·rw[og (by simp[g];exact m)]at d;exact B j u d
   ·rw[xI (by simp[g];exact n)]at d;have:=F (j-5) u (by simpa[g,dJ]using d);rw[show off+5+(j-5)=off+j by omega]at this;exact this
end
open Classical in
def MR:Q1->Option Q1
 |[.l xs]=>if ∃fs,ru fs xs/\pK fs<=1099511627776 then some [.l xs]else none
 |_=>none
def atv{P:Program}{tabs:Qt}{f:FuncId}{e:TypeId}
 (j:∀(v:Value)(fs:Wd)(w:World)(ro:Qf),FS w (λb=>ro b≠none) fs v->(∀b,ro b≠none->b<w.heap.size)->pK fs<=1099511627776->
  Calls P f #[v] w λu w'=>∃v',u=.returned v'/\∃p,CB e w ro fs v' w' p)
 (c:∀args w,(callFunc f args).run P w=.ok (.enter f args) w) {gs k:Q1} (h:MR gs=some k):oZ P tabs f [] [.sc] gs k:=by
 unfold MR at h;split at h;rotate_left
 ·cases h
 next xs=>
 split at h;rotate_left
 ·cases h
 next z=>
 cases h;obtain⟨fs,m,n⟩:=z;letI:aH:=Tg [] [] 0
 refine⟨λro w E d q=>?_,rfl⟩;simp only[aS]at q;obtain⟨v,l,rfl,A,rfl⟩:=q;refine .inr ⟨c _ w,Calls.mono' (j v fs w ro (adW d.at' fs xs m A) (λb g=>?_) n) ?_⟩
 ·cases a:ro b with
  |none=>exact absurd a g
  |some o=>exact(rG.1 (d.at' b o a)).1
 ·rintro u w' ⟨v',rfl,p,g⟩
  refine⟨v',rfl,Xm ro w w',Xo d g.below,[v'],rfl,?_⟩;simp only[aS];refine⟨_,_,rfl,adX (p:=p) (λb t o x=>?_) fs xs m g.top,rfl⟩;show(if b<w.heap.size then ro b else w'.heap[b]?)=some o
  split
  ·next r=>
   have B:=g.Xd b t r;cases a:ro b with
   |none=>exact absurd a B
   |some D=>have y:=d.at' b D a;rw[<-g.below.block b r,x]at y;exact y.symm
  ·exact x
