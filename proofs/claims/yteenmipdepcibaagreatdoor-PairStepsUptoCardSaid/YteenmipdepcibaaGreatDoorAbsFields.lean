/- Fields that hold fields: what slices of them tell, cell by cell; a write of what tells the same changes nothing. (For field.Clone.) -/
import Derived.Test.YteenmipdepcibaaGreatDoorAbsTold
import Derived.Laws.OwnMore
set_option linter.unusedSimpArgs false
set_option linter.unusedSectionVars false
set_option linter.unusedVariables false
namespace Go.aN
open Go.RowKit
noncomputable section
inductive Ft where
 |mk (cs:Q6) (l:List Ft)
abbrev Wa:=List Ft
mutual
def cntF:Ft->Nat
 |.mk _ l=>1+nU l
def nU:Wa->Nat
 |[]=>0
 |f::fs=>cntF f+nU fs
end
def UM:Value->Bool
 |.slice ..=>false
 |v=>v.oneCell'
def EI:GV->Option Value
 |.b x=>some (.bool x)
 |.i k n=>some (.int k n)
 |.s x=>some (.string ⟨⟨x⟩⟩)
 |_=>none
mutual
def Df:Ft->GV->Prop
 |.mk cs l,x=>∃a b c d ys,x=.g [a,b,c,d,.l ys]/\[EI a,EI b,EI c,EI d]=cs.map some/\pO l ys
def pO:Wa->List GV->Prop
 |[],xs=>xs=[]
 |f::fs,xs=>∃x r,xs=x::r/\Df f x/\pO fs r
end
mutual
def FS(w:World)(p:Nat->Prop):Wa->Value->Prop
 |[],v=>∃a c,v=.slice a 0 c/\((∃bl off,a=some ⟨bl,off,none⟩)\/c=0)
 |f::fs,v=>∃bl off c,v=.slice (some ⟨bl,off,none⟩) (fs.length+1) c/\fs.length+1<=c/\p bl/\FC w p bl off f/\fP w p bl (off+5) fs
def FC(w:World)(p:Nat->Prop)(bl off:Nat):Ft->Prop
 |.mk cs l=>cs.length=4/\(∀j x,cs[j]? =some x->UM x=true/\w.cell? ⟨bl,off+j,none⟩=some x)/\∃v,w.cell? ⟨bl,off+4,none⟩=some v/\FS w p l v
def fP(w:World)(p:Nat->Prop)(bl off:Nat):Wa->Prop
 |[]=>True
 |f::fs=>FC w p bl off f/\fP w p bl (off+5) fs
end
mutual
theorem FS.fn{w:World}{p p':Nat->Prop}:∀(a b:Wa){v:Value},FS w p a v->FS w p' b v->a=b
 |[],[],_,_,_=>rfl
 |[],f::fs,v,h,h'=>by
  simp only[FS]at h h';obtain⟨a,c,rfl,_⟩:=h;obtain⟨bl,off,c',e,-⟩:=h';injection e with e1 e2 e3
  omega
 |f::fs,[],v,h,h'=>by
  simp only[FS]at h h';obtain⟨bl,off,c',rfl,-⟩:=h;obtain⟨a,c,e,_⟩:=h';injection e with e1 e2 e3
  omega
 |f::fs,g::gs,v,h,h'=>by
  simp only[FS]at h h';obtain⟨bl,off,c,rfl,-,-,h1,h2⟩:=h;obtain⟨nT,off',c',e,-,-,h1',h2'⟩:=h';injection e with e1 e2 e3
  injection e1 with e1
  injection e1 with e4 e5
  subst e4 e5;rw[FC.fn f g h1 h1',fP.fn fs gs (by omega) h2 h2']
theorem FC.fn{w:World}{p p':Nat->Prop}{bl off:Nat}:∀(a b:Ft),FC w p bl off a->FC w p' bl off b->a=b
 |.mk cs l,.mk cs' l',h,h'=>by
  simp only[FC]at h h';obtain⟨n1,c1,v,v1,s1⟩:=h;obtain⟨n2,c2,v',v2,s2⟩:=h';rw[v1]at v2;injection v2 with v2
  subst v2;have hc:cs=cs':=by
   apply JG;intro j;rcases xU j 4 with hj|hj
   ·have q1:=(c1 j cs[j] (bK (by omega))).2;have q2:=(c2 j cs'[j] (bK (by omega))).2;rw[bK (by omega),bK (by omega)];rw[q1]at q2;exact q2
   ·rw[vG (by omega),vG (by omega)]
  rw[hc,FS.fn l l' s1 s2]
theorem fP.fn{w:World}{p p':Nat->Prop}{bl:Nat}:∀{off:Nat}(a b:Wa),a.length=b.length->fP w p bl off a->fP w p' bl off b->a=b
 |_,[],[],_,_,_=>rfl
 |_,[],_::_,e,_,_=>by simp at e
 |_,_::_,[],e,_,_=>by simp at e
 |_,f::fs,g::gs,e,h,h'=>by simp only[fP]at h h';rw[FC.fn f g h.1 h'.1,fP.fn fs gs (by simpa using e) h.2 h'.2]
end
structure uF(w w':World)(p p':Nat->Prop):Prop where
 sub:∀b,p b->p' b
 cell:∀b o x,p b->w.cell? ⟨b,o,none⟩=some x->w'.cell? ⟨b,o,none⟩=some x
mutual
theorem FS.sub{w w':World}{p p':Nat->Prop}(h:uF w w' p p'):∀(a:Wa){v:Value},FS w p a v->FS w' p' a v
 |[],v,hv=>by simpa only[FS]using hv
 |f::fs,v,hv=>by simp only[FS]at hv⊢;obtain⟨bl,off,c,e,hc,hp,h1,h2⟩:=hv;exact⟨bl,off,c,e,hc,h.sub _ hp,FC.sub h hp f h1,fP.sub h hp fs h2⟩
theorem FC.sub{w w':World}{p p':Nat->Prop}(h:uF w w' p p'){bl off:Nat}(hp:p bl):∀(a:Ft),FC w p bl off a->FC w' p' bl off a
 |.mk cs l,hv=>by simp only[FC]at hv⊢;obtain⟨n1,c1,v,v1,s1⟩:=hv;exact⟨n1,λj x e=>⟨(c1 j x e).1,h.cell _ _ _ hp (c1 j x e).2⟩,v,h.cell _ _ _ hp v1,FS.sub h l s1⟩
theorem fP.sub{w w':World}{p p':Nat->Prop}(h:uF w w' p p'){bl:Nat}(hp:p bl):∀{off:Nat}(a:Wa),fP w p bl off a->fP w' p' bl off a
 |_,[],_=>by simp only[fP]
 |_,f::fs,hv=>by simp only[fP]at hv⊢;exact⟨FC.sub h hp f hv.1,fP.sub h hp fs hv.2⟩
end
structure Nz(w w':World)(p:Nat->Prop)(B O:Nat)(g:Wa):Prop where
 old:∃v,w.cell? ⟨B,O,none⟩=some v/\FS w p g v
 new:∃v,w'.cell? ⟨B,O,none⟩=some v/\FS w p g v
 rest:∀b o x,¬(b=B/\o=O)->w.cell? ⟨b,o,none⟩=some x->w'.cell? ⟨b,o,none⟩=some x
theorem FS.Za{w:World}{p:Nat->Prop}{a:Wa}{v:Value}(h:FS w p a v):∃x n c,v=.slice x n c:=by
 cases a with
 |nil=>simp only[FS]at h;obtain⟨_,_,rfl,_⟩:=h;exact⟨_,_,_,rfl⟩
 |cons f fs=>simp only[FS]at h;obtain⟨_,_,_,rfl,-⟩:=h;exact⟨_,_,_,rfl⟩
theorem FS.avZ{w w':World}{p:Nat->Prop}{B O:Nat}{g l:Wa}(h:Nz w w' p B O g){b o:Nat}{v:Value}(v1:w.cell? ⟨b,o,none⟩=some v)(s1:FS w p l v)
 : ∃z,w'.cell? ⟨b,o,none⟩=some z/\FS w p l z:=by
 by_cases q:b=B/\o=O
 ·obtain⟨u,u1,u2⟩:=h.old;obtain⟨z,z1,z2⟩:=h.new;rw[q.1,q.2,u1]at v1;injection v1 with v1
  subst v1;have e:g=l:=FS.fn g l u2 s1;rw[e]at z2;exact⟨z,by rw[q.1,q.2];exact z1,z2⟩
 ·exact⟨v,h.rest _ _ _ q v1,s1⟩
mutual
theorem FS.put{w w':World}{p:Nat->Prop}{B O:Nat}{g:Wa}(h:Nz w w' p B O g):∀(a:Wa){v:Value},FS w p a v->FS w' p a v
 |[],v,hv=>by simpa only[FS]using hv
 |f::fs,v,hv=>by simp only[FS]at hv⊢;obtain⟨bl,off,c,e,hc,hp,h1,h2⟩:=hv;exact⟨bl,off,c,e,hc,hp,FC.put h f h1,fP.put h fs h2⟩
theorem FC.put{w w':World}{p:Nat->Prop}{B O:Nat}{g:Wa}(h:Nz w w' p B O g){bl off:Nat}:∀(a:Ft),FC w p bl off a->FC w' p bl off a
 |.mk cs l,hv=>by
  simp only[FC]at hv⊢;obtain⟨n1,c1,v,v1,s1⟩:=hv;obtain⟨z,z1,z2⟩:=FS.avZ h v1 s1;refine⟨n1,λj x e=>⟨(c1 j x e).1,h.rest _ _ _ (λq=>?_) (c1 j x e).2⟩,z,z1,FS.put h l z2⟩;obtain⟨u,u1,u2⟩:=h.old;have q2:=(c1 j x e).2;rw[q.1,q.2,u1]at q2;injection q2 with q2
  have q3:=(c1 j x e).1;obtain⟨_,_,_,rfl⟩:=u2.Za;subst q2;simp[UM]at q3
theorem fP.put{w w':World}{p:Nat->Prop}{B O:Nat}{g:Wa}(h:Nz w w' p B O g){bl:Nat}:∀{off:Nat}(a:Wa),fP w p bl off a->fP w' p bl off a
 |_,[],_=>by simp only[fP]
 |_,f::fs,hv=>by simp only[fP]at hv⊢;exact⟨FC.put h f hv.1,fP.put h fs hv.2⟩
end
theorem fP.at{w:World}{p:Nat->Prop}{bl:Nat}:∀{off:Nat}{fs:Wa}{i:Nat}{f:Ft},fP w p bl off fs->fs[i]? =some f->FC w p bl (off+i*5) f
 |off,[],i,f,h,hi=>by simp at hi
 |off,g::fs,0,f,h,hi=>by simp only[fP]at h;simp only[jS,aW]at hi;subst hi;simpa using h.1
 |off,g::fs,i+1,f,h,hi=>by simp only[fP]at h;simp only[uw]at hi;have:=fP.at h.2 hi;rw[show off+(i+1)*5=off+5+i*5 by omega];exact this
theorem fP.src{w:World}{p:Nat->Prop}{bl:Nat}:∀{off:Nat}(fs:Wa),fP w p bl off fs->∃news:Q6,news.length=fs.length*5/\(∀j u,news[j]? =some u->w.cell? ⟨bl,off+j,none⟩=some u)/\(∀u∈news,u.oneCell'=true)/\
 (∀w' p' nT off',uF w w' p p'->(∀j u,news[j]? =some u->w'.cell? ⟨nT,off'+j,none⟩=some u)->fP w' p' nT off' fs)
 |_,[],_=>⟨[],rfl,by simp,by simp,λ_ _ _ _ _ _=>by simp only[fP]⟩
 |off,.mk cs l::fs,h=>by
  simp only[fP,FC]at h;obtain⟨⟨n1,c1,v,v1,s1⟩,h2⟩:=h;obtain⟨r,r1,r2,r3,r4⟩:=fP.src fs h2;refine⟨cs++v::r,by simp[n1,r1];omega,λj u hj=>?_,λu hu=>?_,λw' p' nT off' hs hc=>?_⟩
  ·rcases xU j 4 with hlt|hge
   ·rw[mP (by omega)]at hj;exact(c1 j u hj).2
   ·rw[vF (by omega),n1]at hj;rcases Nat.eq_or_lt_of_le hge with e|hgt
    ·subst e;simp only[zQ,jS,aW]at hj;subst hj;exact v1
    ·obtain⟨k,rfl⟩:∃k,j=k+5:=⟨j-5,by omega⟩
     rw[show k+5-4=k+1 by omega,uw]at hj;have:=r2 k u hj;rw[show off+(k+5)=off+5+k by omega];exact this
  ·rcases kG.1 hu with hu|hu
   ·obtain⟨j,hj⟩:=JH hu;have:=(c1 j u hj).1;unfold UM at this;split at this
    ·cases this
    ·exact this
   ·rcases bG.1 hu with rfl|hu
    ·obtain⟨_,_,_,rfl⟩:=s1.Za;rfl
    ·exact r3 u hu
  ·simp only[fP,FC];refine⟨⟨n1,λj x hx=>⟨(c1 j x hx).1,?_⟩,v,?_,FS.sub hs l s1⟩,?_⟩
   ·have hlt:j<cs.length:=(eU.1 hx).1;exact hc j x (by rw[mP hlt];exact hx)
   ·exact hc 4 v (by rw[vF (by omega),n1];rfl)
   ·refine r4 w' p' nT (off'+5) hs λj u hj=>?_;have:=hc (j+5) u (by rw[vF (by omega),n1,show j+5-4=j+1 by omega,uw];exact hj);rw[show off'+5+j=off'+(j+5) by omega];exact this
theorem FS.len{w:World}{p:Nat->Prop}{l:Wa}{v:Value}(h:FS w p l v):∃a c,v=.slice a l.length c:=by
 cases l with
 |nil=>simp only[FS]at h;obtain⟨a,c,rfl,_⟩:=h;exact⟨a,c,rfl⟩
 |cons f fs=>simp only[FS]at h;obtain⟨bl,off,c,rfl,-⟩:=h;exact⟨_,c,rfl⟩
theorem FS.src{w:World}{p:Nat->Prop}{l:Wa}{v:Value}(h:FS w p l v):(v=.slice none 0 0/\l=[])\/∃ad c,∃news:Q6,v=.slice (some ad) l.length c/\news.length=l.length*5/\(∀j u,news[j]? =some u->w.cell? (ad.add j)=some u)/\(∀u∈news,u.oneCell'=true)/\
 (∀w' p' nT,uF w w' p p'->(∀j u,news[j]? =some u->w'.cell? ⟨nT,j,none⟩=some u)->fP w' p' nT 0 l):=by
 cases l with
 |nil=>
  simp only[FS]at h;obtain⟨a,c,rfl,h⟩:=h;cases a with
  |none=>
   rcases h with⟨_,_,e⟩|rfl
   ·cases e
   ·exact .inl ⟨rfl,rfl⟩
  |some ad=>exact .inr ⟨ad,c,[],rfl,rfl,by simp,by simp,λ_ _ _ _ _=>by simp only[fP]⟩
 |cons f fs=>
  simp only[FS]at h;obtain⟨bl,off,c,rfl,hc,hp,h1,h2⟩:=h;obtain⟨news,a1,a2,a3,a4⟩:=fP.src (f::fs) (by simp only[fP];exact⟨h1,h2⟩);refine .inr ⟨⟨bl,off,none⟩,c,news,rfl,a1,λj u hj=>?_,a3,λw' p' nT hs hj=>a4 w' p' nT 0 hs λj u hu=>by rw[kH];exact hj j u hu⟩;have hadd:(Addr.mk bl off none).add j=⟨bl,off+j,none⟩:=by unfold Addr.add;split<;>simp_all
  rw[hadd];exact a2 j u hj
structure Pk(e:TypeId)(w0 w:World)(p:Nat->Prop):Prop where
 lt:∀b,p b->b<w.heap.size
 el:∀b,p b->w0.heap.size<=b->∃cs,w.heap[b]? =some (.cells cs e (0,0))
def newS(w0:World)(v:Value):Prop:=∀bl off n c,v=.slice (some ⟨bl,off,none⟩) n c->w0.heap.size<=bl
theorem FS.copied{e:TypeId}{w0 w w':World}{p:Nat->Prop}(hk:Pk e w0 w p)(h0:w0.heap.size<=w.heap.size){l:Wa}{v':Value}(news:Q6)
 (hnew:∀w' p' nT,uF w w' p p'->(∀j u,news[j]? =some u->w'.cell? ⟨nT,j,none⟩=some u)->fP w' p' nT 0 l)
 (hown:w'.ownsRow w.heap.size e 5 v' l.length news) (hg:w.grownBy w' none):
 ∃p',uF w w' p p'/\(∀b,p' b->p b\/w.heap.size<=b)/\Pk e w0 w' p'/\FS w' p' l v'/\newS w0 v':=by
 have hcell:∀b o,b<w.heap.size->w'.cell? ⟨b,o,none⟩=w.cell? ⟨b,o,none⟩:=λb o hb=>acK (w:=w) (hg.block b hb (by simp));obtain⟨_,hown⟩:=hown;rcases hown with⟨rfl,hn⟩|⟨g,cap,cur,rfl,hge,hb,hcap,_,hcs,htake⟩
 ·have hl:l=[]:=jw hn;subst hl
  exact⟨p,⟨λ_ h=>h,λb o x hb hx=>by rw[hcell b o (hk.lt b hb)];exact hx⟩,λ_ h=>.inl h,⟨λb hb=>wZ (hk.lt b hb) hg.size,λb hb h1=>by rw[hg.block b (hk.lt b hb) (by simp)];exact hk.el b hb h1⟩,
   by simp only[FS];exact⟨_,_,rfl,.inr rfl⟩,by intro bl off n c e;simp at e⟩
 ·have hgl:g<w'.heap.size:=(qh.1 hb).1;have hs:uF w w' p (λb=>p b\/b=g):=⟨λ_ h=>.inl h,λb o x hb hx=>by rw[hcell b o (hk.lt b hb)];exact hx⟩
  have hcc:∀j u,news[j]? =some u->w'.cell? ⟨g,j,none⟩=some u:=by
   intro j u hj;rw[<-htake,kS]at hj;split at hj
   ·simp only[World.cell?,hb];rw[ah (by simp)];simpa using hj
   ·cases hj
  have hcs':=hnew w' _ g hs hcc;refine⟨λb=>p b\/b=g,hs,λb hb=>hb.imp id (λe=>by subst e;exact hge),⟨λb hb=>?_,λb hb h1=>?_⟩,?_,?_⟩
  ·rcases hb with hb|rfl
   ·exact wZ (hk.lt b hb) hg.size
   ·exact hgl
  ·rcases hb with hb'|rfl
   ·rw[hg.block b (hk.lt b hb') (by simp)];exact hk.el b hb' h1
   ·exact⟨_,hb⟩
  ·cases l with
   |nil=>simp only[FS];exact⟨_,_,rfl,.inl ⟨_,_,rfl⟩⟩
   |cons f fs=>simp only[fP]at hcs';simp only[FS];exact⟨g,0,cap,rfl,hcap,.inr rfl,hcs'.1,hcs'.2⟩
  ·intro bl off n c e;simp only[Value.slice.injEq,aW,Addr.mk.injEq]at e;obtain⟨⟨rfl,-⟩,-⟩:=e;omega
def sumW:List (Value×Wa)->Nat
 |[]=>0
 |q::l=>1+nU q.2+sumW l
theorem abf:∀(a b:List (Value×Wa)),sumW (a++b)=sumW a+sumW b
 |[],b=>by simp[sumW]
 |q::a,b=>by simp[sumW,abf a b];omega
theorem abg:∀(a:List (Value×Wa)),a.length<=sumW a
 |[]=>by simp[sumW]
 |q::a=>by have:=abg a;simp[sumW];omega
theorem Sl:∀(a:Wa),a.length<=nU a
 |[]=>by simp[nU]
 |.mk cs l::a=>by have:=Sl a;simp[nU,cntF];omega
theorem adQ:∀{a:Wa}{i:Nat}{cs:Q6}{l:Wa},a[i]? =some (.mk cs l)->nU (a.drop i)=1+nU l+nU (a.drop (i+1))
 |[],i,cs,l,h=>by simp at h
 |x::a,0,cs,l,h=>by simp at h;subst h;simp[nU,cntF]
 |x::a,i+1,cs,l,h=>by simp at h;simpa using adQ h
structure CB(e:TypeId)(w0:World)(ro:Qf)(xs:Wa)(cv:Value)(w:World)(p:Nat->Prop):Prop where
 below:Below w0.heap.size w0 w
 U6:∀b,p b->b<w0.heap.size->ro b≠none
 pk:Pk e w0 w p
 top:FS w p xs cv
structure NI(w0 w:World)(p:Nat->Prop)(T:TypeId)(wk:Value)(ws:List (Value×Wa)):Prop where
 own:w.ownsRow w0.heap.size T 1 wk ws.length (ws.map (·.1))
 each:∀q∈ws,FS w p q.2 q.1/\newS w0 q.1
section
variable{e T:TypeId}{w0 w:World}{ro:Qf}{xs l li:Wa}{cv s wk v':Value}{N i:Nat}
def CI(e T:TypeId)(w0:World)(ro:Qf)(xs:Wa)(cv:Value)(N:Nat)(wk:Value)(w:World):Prop:=
 ∃p ws,CB e w0 ro xs cv w p/\NI w0 w p T wk ws/\sumW ws<=N
def II(e T:TypeId)(w0:World)(ro:Qf)(xs:Wa)(cv:Value)(N:Nat)(l:Wa)(s:Value)(i:Nat)(wk:Value)(w:World):Prop:=
 ∃p ws,CB e w0 ro xs cv w p/\NI w0 w p T wk ws/\FS w p l s/\newS w0 s/\sumW ws+nU (l.drop i)+1<=N
def MI(e T:TypeId)(w0:World)(ro:Qf)(xs:Wa)(cv:Value)(N:Nat)(l:Wa)(s:Value)(i:Nat)(wk:Value)(w:World)(v':Value)(li:Wa):Prop:=
 ∃p ws,CB e w0 ro xs cv w p/\NI w0 w p T wk ws/\FS w p l s/\newS w0 s/\FS w p li v'/\newS w0 v'/\sumW ws+(1+nU li)+nU (l.drop i)+1<=N
theorem UY{base size n:Nat}{xs:Q6}(h:w.ownsRow base T size wk n xs){b:Nat}(hb:wk.ownBlock=some b):base<=b/\∃cs,w.heap[b]? =some (.cells cs T (0,0)):=by
 rcases h.2 with⟨rfl,_⟩|⟨g,cap,cur,rfl,hge,hg,_⟩
 ·simp[Value.ownBlock]at hb
 ·simp only[Value.ownBlock,aW]at hb;subst hb;exact⟨hge,_,hg⟩
theorem ahg{base size n:Nat}{xs:Q6}{w':World}(h:w.ownsRow base T size wk n xs)(hk:∀b,wk.ownBlock=some b->w'.heap[b]? =w.heap[b]?):w'.ownsRow base T size wk n xs:=by
 refine⟨h.1,?_⟩;rcases h.2 with h1|⟨g,cap,cur,rfl,hge,hg,h2⟩
 ·exact .inl h1
 ·exact .inr ⟨g,cap,cur,rfl,hge,by rw[hk g rfl];exact hg,h2⟩
theorem NI.ag7{p:Nat->Prop}{ws:List (Value×Wa)}(h:NI w0 w p T wk ws)(hk:Pk e w0 w p)(hT:e≠T){b:Nat}(hb:wk.ownBlock=some b):¬p b:=by intro hp;obtain⟨h1,cs,h2⟩:=UY h.own hb;obtain⟨cs',h3⟩:=hk.el b hp h1;rw[h2]at h3;simp only[aW,Obj.cells.injEq]at h3;exact hT h3.2.1.symm
theorem Pk.same{w':World}{p:Nat->Prop}(hk:Pk e w0 w p)(hsz:w.heap.size<=w'.heap.size)(h:∀b,p b->w'.heap[b]? =w.heap[b]?):Pk e w0 w' p:=
 ⟨λb hb=>wZ (hk.lt b hb) hsz,λb hb h1=>by rw[h b hb];exact hk.el b hb h1⟩
theorem uF.of{w':World}{p:Nat->Prop}(h:∀b,p b->w'.heap[b]? =w.heap[b]?):uF w w' p p:=
 ⟨λ_ h=>h,λb o x hb hx=>by rw[acK (w:=w) (h b hb)];exact hx⟩
theorem CI.start{w1:World}{c1:Value}(h:∃p,CB e w0 ro xs c1 w1 p)(hn:newS w0 c1):CI e T w0 ro xs c1 (1+nU xs) (.slice (some ⟨w1.heap.size,0,none⟩) 1 1) (w1.alloc (.cells #[c1] T)):=by obtain⟨p,hb⟩:=h;have hblk:∀b,p b->(w1.alloc (.cells #[c1] T)).heap[b]? =w1.heap[b]?:=λb hp=>Below.heap_alloc w1 _ b (hb.pk.lt b hp);have hsame:=uF.of hblk;have hrow:=World.ownsRow_lit (base:=w0.heap.size) (e:=T) (size:=1) w1 #[c1] 1 hb.below.size (by unfold maxLen;omega) rfl;refine⟨p,[(c1,xs)],⟨hb.below.alloc hb.below.size _,hb.U6,hb.pk.same (by simp) hblk,hb.top.sub hsame⟩,⟨by simpa using hrow,λq hq=>?_⟩,by simp[sumW]⟩;simp only[uy]at hq;subst hq;exact⟨hb.top.sub hsame,hn⟩
theorem II.len(h:II e T w0 ro xs cv N l s i wk w):∃a c,s=.slice a l.length c:=by obtain⟨p,ws,hb,hw,hfs,_⟩:=h;exact hfs.len
theorem II.bound(h:II e T w0 ro xs cv N l s 0 wk w):l.length<=N:=by obtain⟨p,ws,hb,hw,hfs,_,hs⟩:=h;have:=Sl l;simp only[dD]at hs;omega
theorem CI.pop(h:CI e T w0 ro xs cv N wk w):(∃a c,wk=.slice a 0 c/\∃p,CB e w0 ro xs cv w p)\/
 ∃bl cap m s l,wk=.slice (some ⟨bl,0,none⟩) (m+1) cap/\m+1<=cap/\m+1<=N/\w.cell? ⟨bl,m,none⟩=some s/\II e T w0 ro xs cv N l s 0 (.slice (some ⟨bl,0,none⟩) m cap) w:=by
 obtain⟨p,ws,hb,hw,hs⟩:=h;rcases ajS ws with rfl|⟨ws',q,rfl⟩
 ·left;rcases hw.own.2 with⟨rfl,_⟩|⟨g,cap,cur,rfl,_⟩
  ·exact⟨_,_,rfl,p,hb⟩
  ·exact⟨_,_,rfl,p,hb⟩
 ·right;rcases hw.own.2 with⟨_,hn⟩|⟨g,cap,cur,hwk,hge,hg,hcap,hmax,hcs,htake⟩
  ·simp at hn
  ·have hlen:(ws'.concat q).length=ws'.length+1:=by simp
   rw[hlen]at hwk hcap htake;have hmem:q∈ws'.concat q:=by simp
   obtain⟨q1,q2⟩:=hw.each q hmem;refine⟨g,cap,ws'.length,q.1,q.2,hwk,hcap,by have:=abg (ws'.concat q);omega,?_,p,ws',hb,⟨⟨by simp,.inr ⟨g,cap,cur,rfl,hge,hg,by omega,hmax,hcs,?_⟩⟩,λr hr=>hw.each r (by simp[hr])⟩,q1,q2,?_⟩
   ·have h1:cur.toList[ws'.length]? =some q.1:=by
     have h2:(cur.toList.take ((ws'.length+1)*1))[ws'.length]? =some q.1:=by rw[htake];simp
     rw[kS]at h2;rw[aj (by omega)]at h2;exact h2
    simp only[World.cell?,hg];rw[ah (by simp)];simpa using h1
   ·have h2:(cur.toList.take ((ws'.length+1)*1)).take (ws'.length*1)=ws'.map (·.1):=by rw[htake];simp
    rw[acs,JQ (by omega)]at h2;exact h2
   ·rw[ajR,abf]at hs;simp only[sumW]at hs;simp only[dD];omega
theorem II.done(h:II e T w0 ro xs cv N l s l.length wk w):CI e T w0 ro xs cv (N-1) wk w/\1<=N:=by obtain⟨p,ws,hb,hw,_,_,hs⟩:=h;exact⟨⟨p,ws,hb,hw,by omega⟩,by omega⟩
theorem MI.skip(h:MI e T w0 ro xs cv N l s i wk w v' li):II e T w0 ro xs cv N l s i wk w:=by obtain⟨p,ws,hb,hw,h1,h2,_,_,hs⟩:=h;exact⟨p,ws,hb,hw,h1,h2,by omega⟩
theorem MI.push(hT:e≠T)(h:MI e T w0 ro xs cv N l s i wk w v' li):∃n ys,w.ownsRow w0.heap.size T 1 wk n ys/\n+1<=N/\w0.heap.size<=w.heap.size/\
 ∀o Nc w3,w3.ownsRow w0.heap.size T 1 Nc (n+1) (ys++[v'])->(w.alloc o).grownBy w3 wk.ownBlock->II e T w0 ro xs cv N l s i Nc w3:=by
 obtain⟨p,ws,hb,hw,h1,h2,h3,h4,hs⟩:=h;have hlen:=abg ws;refine⟨ws.length,ws.map (·.1),hw.own,by omega,hb.below.size,λo Nc w3 hown hg=>?_⟩;have hnot:∀b,p b->some b≠wk.ownBlock:=λb hp e1=>hw.ag7 hb.pk hT e1.symm hp;have hblk:∀b,p b->w3.heap[b]? =w.heap[b]?:=λb hp=>by have hlt:=hb.pk.lt b hp;rw[hg.block b (by simp;omega) (hnot b hp)];exact Below.heap_alloc w o b hlt
 have hsz:w.heap.size<=w3.heap.size:=by have:=hg.size;simp at this;omega
 have hsame:=uF.of hblk;refine⟨p,ws++[(v',li)],⟨?_,hb.U6,hb.pk.same hsz hblk,hb.top.sub hsame⟩,⟨by simpa using hown,λq hq=>?_⟩,h1.sub hsame,h2,?_⟩
 ·refine(hb.below.alloc hb.below.size o).grown hg (by simp;have:=hb.below.size;omega) λk hk=>(UY hw.own hk).1
 ·rcases kG.1 hq with hq|hq
  ·exact⟨(hw.each q hq).1.sub hsame,(hw.each q hq).2⟩
  ·simp only[uy]at hq;subst hq;exact⟨h3.sub hsame,h4⟩
 ·rw[abf];simp only[sumW];omega
theorem II.step(hT:e≠T)(h:II e T w0 ro xs cv N l s i wk w)(hi:i<l.length):∃bl off c li vi,∃news:Q6,s=.slice (some ⟨bl,off,none⟩) l.length c/\l.length<=c/\w.cell? ⟨bl,off+i*5+4,none⟩=some vi/\
 ((vi=.slice none 0 0/\li=[]/\news=[])\/∃ad ci,vi=.slice (some ad) li.length ci/\∀j u,news[j]? =some u->w.cell? (ad.add j)=some u)/\news.length=li.length*5/\(∀u∈news,u.oneCell'=true)/\li.length<=N/\
 ∀v' w1,w1.ownsRow w.heap.size e 5 v' li.length news->w.grownBy w1 none->
  w1.cell? ⟨bl,off+i*5+4,none⟩=some vi/\w1.frozen? ⟨bl,off+i*5+4,none⟩=false/\(∃a c,v'=.slice a li.length c)/\
  MI e T w0 ro xs cv N l s (i+1) wk (w1.setCell ⟨bl,off+i*5+4,none⟩ v') v' li:=by
 obtain⟨p,ws,hb,hw,hfs,hns,hsum⟩:=h;obtain⟨f,hf⟩:∃f,l[i]? =some f:=⟨_,bK hi⟩
 obtain⟨cs,li⟩:=f;have arG:=hfs;cases hl:l with
 |nil=>rw[hl]at hi;simp at hi
 |cons x0 l0=>
 rw[hl]at hfs;simp only[FS]at hfs;obtain⟨bl,off,c,rfl,hc,hp,hx,hxs⟩:=hfs;have hbl:w0.heap.size<=bl:=hns _ _ _ _ rfl;have hfc:FC w p bl (off+i*5) (.mk cs li):=fP.at (fs:=x0::l0) (by simp only[fP];exact⟨hx,hxs⟩) (by rw[<-hl];exact hf);simp only[FC]at hfc;obtain⟨_,_,vi,Y3,hli⟩:=hfc;have hcnt:=adQ hf;have hlen:=Sl li;rw[<-hl]
 have main:∀news:Q6,(∀w' p' nT,uF w w' p p'->(∀j u,news[j]? =some u->w'.cell? ⟨nT,j,none⟩=some u)->fP w' p' nT 0 li)->
  ∀v' w1,w1.ownsRow w.heap.size e 5 v' li.length news->w.grownBy w1 none->
  w1.cell? ⟨bl,off+i*5+4,none⟩=some vi/\w1.frozen? ⟨bl,off+i*5+4,none⟩=false/\(∃a c,v'=.slice a li.length c)/\
  MI e T w0 ro xs cv N l (.slice (some ⟨bl,off,none⟩) (l0.length+1) c) (i+1) wk (w1.setCell ⟨bl,off+i*5+4,none⟩ v') v' li:=by
  intro news hn v' w1 hown hg;obtain⟨p',s1,s2,s3,s4,s5⟩:=FS.copied hb.pk hb.below.size news hn hown hg;have hblt:=hb.pk.lt bl hp;obtain⟨cs1,hel⟩:=s3.el bl (s1.sub _ hp) hbl;have hc1:w1.cell? ⟨bl,off+i*5+4,none⟩=some vi:=s1.cell _ _ _ hp Y3;refine⟨hc1,by simp only[World.frozen?,hel];simp,s4.len,?_⟩;have hlin:li.length=li.length:=rfl;have hother:∀b,b≠bl->(w1.setCell ⟨bl,off+i*5+4,none⟩ v').heap[b]? =w1.heap[b]?:=λb hne=>heap_setCell_other w1 ⟨bl,off+i*5+4,none⟩ b v' hne;have hnew:(w1.setCell ⟨bl,off+i*5+4,none⟩ v').heap[bl]? =some (.cells (cs1.setIfInBounds (off+i*5+4) v') e (0,0)):=heap_setCell_same w1 bl (off+i*5+4) cs1 e v' hel;have hin:off+i*5+4<cs1.size:=by simp only[World.cell?,hel]at hc1;rw[ah (by simp)]at hc1;exact(qh.1 hc1).1
  have hput:Nz w1 (w1.setCell ⟨bl,off+i*5+4,none⟩ v') p' bl (off+i*5+4) li:=by
   refine⟨⟨vi,hc1,hli.sub s1⟩,⟨v',?_,s4⟩,λb o x hne hx=>?_⟩
   ·simp only[World.cell?,hnew];rw[ah (by simp)];simp[hin]
   ·by_cases e1:b=bl
    ·have hoo:o≠off+i*5+4:=λe2=>hne ⟨e1,e2⟩;rw[e1,cell_of_row w1 bl o cs1 e (0,0) hel]at hx;rw[e1,cell_of_row _ bl o _ e (0,0) hnew,BI,ah (λe2=>hoo e2.symm)];exact hx
    ·rw[acK (w:=w1) (hother b e1)];exact hx
  have hsz2:(w1.setCell ⟨bl,off+i*5+4,none⟩ v').heap.size=w1.heap.size:=by simp
  have asg:∀b,wk.ownBlock=some b->b≠bl:=λb hbk e1=>by subst e1;exact hw.ag7 hb.pk hT hbk hp
  have arw:Below w0.heap.size w0 w1:=hb.below.grown hg hb.below.size (by simp);refine⟨p',ws,⟨arw.setCell hbl v',λb hb1 hlt=>?_,⟨λb hb1=>by rw[hsz2];exact s3.lt b hb1,λb hb1 h1=>?_⟩,(hb.top.sub s1).put hput⟩,⟨?_,λq hq=>⟨((hw.each q hq).1.sub s1).put hput,(hw.each q hq).2⟩⟩,(arG.sub s1).put hput,hns,s4.put hput,s5,?_⟩
  ·rcases s2 b hb1 with h1|h1
   ·exact hb.U6 b h1 hlt
   ·have:=hb.below.size;omega
  ·by_cases e1:b=bl
   ·subst e1;exact⟨_,hnew⟩
   ·rw[hother b e1];exact s3.el b hb1 h1
  ·refine ahg hw.own λb hbk=>?_;rw[hother b (asg b hbk)];obtain⟨_,cs2,h2⟩:=UY hw.own hbk;exact hg.block b (qh.1 h2).1 (by simp)
  ·omega
 have hln:l0.length+1=l.length:=by rw[hl];rfl
 rcases hli.src with⟨rfl,rfl⟩|⟨ad,ci,news,rfl,n1,n2,n3,n4⟩
 ·exact⟨bl,off,c,[],_,[],by rw[hln],by omega,Y3,.inl ⟨rfl,rfl,rfl⟩,rfl,by simp,by simp,main [] λ_ _ _ _ _=>by simp only[fP]⟩
 ·exact⟨bl,off,c,li,_,news,by rw[hln],by omega,Y3,.inr ⟨ad,ci,rfl,n2⟩,n1,n3,by omega,main news n4⟩
end
theorem ajI{P:Program}(w:World){ops:W3}{rest:List Oper}{o:Oper}{a:Act}{Q:Exit->Act->World->Prop}(hgd:o.guard=none)(s x:Operand)(t:TypeId)
 (ho:o.op=.call {callee:=.builtin .append,args:=#[s,x],argTypes:=#[t,t]})
 (e:TypeId) (i:TypeInfo) (z:Value) (size bytes:Nat) (ht:P.underlying t=some (.slice e)) (hi:P.info? e=some i) (hz:i.zero=some z)
 (hsize:i.size=size) (hby:i.bytes=bytes) (hzs:z.cells.size=size) (hsz:0<size)
 (hs:a.eval s=.slice none 0 0) (m:Nat) (news:Q6) (xv:Value) (hxv:a.eval x=xv)
 (hx:(xv=.slice none 0 0/\m=0/\news=[])\/∃ad c,xv=.slice (some ad) m c/\∀j u,news[j]? =some u->w.cell? (ad.add j)=some u)
 (hl:news.length=m*size) (h1:∀u∈news,u.oneCell'=true) (h63:m<=maxLen) (hbytes:m*bytes<=140737488355328)
 (h:∀v' w',w'.ownsRow w.heap.size e size v' m news->w.grownBy w' none->wpList P ops Q rest (a.put o.dst v') w'):wpList P ops Q (o::rest) a w:=by
 have hnil:w.ownsRow w.heap.size e size (.slice none 0 0) 0 []:=⟨by simp,.inl ⟨rfl,rfl⟩⟩
 rcases hx with⟨hx,rfl,rfl⟩|⟨ad,c,hx,hc⟩
 ·refine wpList_plain hgd λK hK=>?_;have hr:=run_append_owned_none (P:=P) w w.heap.size t o.type e i size ht hi (.slice none 0 0) 0 [] hnil;unfold Oper.wp execOp;simp only[ho,resolve,invoke,builtin,aS,bF,aQ,List.map_toArray,iD,jl,hs,hxv,hx,hr];exact hK _ _ (h _ w hnil ⟨rfl,rfl,rfl,bV _,λ_ _ _=>rfl⟩)
 ·refine wpList_append_own w hgd s x t ho w.heap.size e i z size bytes ht hi hz hsize hby hzs hsz (.slice none 0 0) 0 [] hs hnil ad m c news (hxv.trans hx) hl hc h1 (by omega) (by rw[kH];exact hbytes) (bV _) λv' w' k1 k2 _=>?_;rw[kH,aV]at k1;exact h v' w' k1 k2
theorem Sm{ro:Qf}{a:GV}{x v:Value}(h:EI a=some x)(hv:GR ro a v):v=x/\UM x=true:=by cases a<;>simp only[EI,aW,reduceCtorEq]at h<;>(simp only[GR]at hv;subst h;subst hv;exact⟨rfl,rfl⟩)
theorem Sr{ro:Qf}{a:GV}{x:Value}(h:EI a=some x):GR ro a x:=by cases a<;>simp only[EI,aW,reduceCtorEq]at h<;>(subst h;simp only[GR])
theorem Y9:∀(fs:Wa)(xs:Q1),pO fs xs->xs.length=fs.length
 |[],xs,h=>by simp only[pO]at h;subst h;rfl
 |f::fs,xs,h=>by simp only[pO]at h;obtain⟨x,r,rfl,_,hr⟩:=h;simp[Y9 fs r hr]
theorem afV{ro:Qf}(f:Ft)(x:GV){y:Value}(h:Df f x)(hy:GR ro x y):y.cells.size=5:=by obtain⟨cs,l⟩:=f;simp only[Df]at h;obtain⟨a,b,c,d,ys,rfl,_,_⟩:=h;simp only[GR,aO]at hy;obtain⟨vs,rfl,v1,l1,rfl,_,v2,l2,rfl,_,v3,l3,rfl,_,v4,l4,rfl,_,v5,l5,rfl,_,rfl⟩:=hy;rfl
mutual
theorem ab2{ro:Qf}{w:World}(hro:∀b o,ro b=some o->w.heap[b]? =some o):∀(fs:Wa)(xs:Q1){v:Value},pO fs xs->GR ro (.l xs) v->FS w (λb=>ro b≠none) fs v
 |[],xs,v,hf,h=>by
  simp only[pO]at hf;subst hf;simp only[GR]at h;simp only[FS];rcases h with⟨_,p,rfl⟩|⟨bl,off,c,ys,sz,rfl,_⟩
  ·exact⟨_,_,rfl,.inr rfl⟩
  ·exact⟨_,_,rfl,.inl ⟨_,_,rfl⟩⟩
 |f::fs,xs,v,hf,h=>by
  simp only[pO]at hf;obtain⟨x,r,rfl,hx,hr⟩:=hf;simp only[GR]at h;rcases h with⟨h,_⟩|⟨bl,off,c,ys,sz,rfl,hc,hys,hsz,hm⟩
  ·cases h
  obtain⟨cs,elem,fr,h1,h2,h3⟩:=hm (by simp);have hlen:r.length=fs.length:=Y9 fs r hr;simp only[aO]at hys;obtain⟨y,ys',rfl,hy,Y4⟩:=hys;have hcell:∀j u,(bY (y::ys'))[j]? =some u->w.cell? ⟨bl,off+j,none⟩=some u:=λj u hj=>by rw[cell_of_row w bl (off+j) cs elem fr (hro _ _ h1)];exact h3 j u hj
  simp only[FS];have OW:=afV f x hx hy;refine⟨bl,off,c,by simp[hlen],by simp at hc;omega,by simp[h1],abX hro f x hx hy λj u hj=>hcell j u ?_,abZ hro fs r hr Y4 λj u hj=>?_⟩
  ·have hlt:j<y.cells.toList.length:=(eU.1 hj).1;simp only[bY,jC];rw[mP hlt];exact hj
  ·have:=hcell (5+j) u (by simp only[bY,jC];rw[vF (by simp[OW]),show 5+j-y.cells.toList.length=j by simp[OW]];exact hj)
   rw[show off+5+j=off+(5+j) by omega];exact this
theorem abX{ro:Qf}{w:World}(hro:∀b o,ro b=some o->w.heap[b]? =some o):∀(f:Ft)(x:GV){y:Value}{bl off:Nat},Df f x->GR ro x y->(∀j u,y.cells.toList[j]? =some u->w.cell? ⟨bl,off+j,none⟩=some u)->FC w (λb=>ro b≠none) bl off f
 |.mk cs l,x,y,bl,off,hf,h,hc=>by
  simp only[Df]at hf;obtain⟨a,b,c,d,ys,rfl,hcs,hl⟩:=hf;simp only[GR,aO]at h;obtain⟨vs,rfl,v1,l1,rfl,g1,v2,l2,rfl,g2,v3,l3,rfl,g3,v4,l4,rfl,g4,v5,l5,rfl,g5,rfl⟩:=h;have hn:cs.length=4:=by have:=uK List.length hcs;simpa using this.symm
  match cs,hn with
  |[c1,c2,c3,c4],_=>
  simp only[iD,jl,yL,and_true]at hcs;obtain⟨e1,e2,e3,e4⟩:=hcs;obtain⟨rfl,n1⟩:=Sm e1 g1;obtain⟨rfl,n2⟩:=Sm e2 g2;obtain⟨rfl,n3⟩:=Sm e3 g3;obtain⟨rfl,n4⟩:=Sm e4 g4;simp only[FC];refine⟨rfl,λj z hj=>?_,v5,hc 4 v5 rfl,ab2 hro l ys hl (by simp only[GR];exact g5)⟩;match j,hj with
  |0,hj=>simp only[jS,aW]at hj;subst hj;exact⟨n1,hc 0 _ rfl⟩
  |1,hj=>simp only[uw,jS,aW]at hj;subst hj;exact⟨n2,hc 1 _ rfl⟩
  |2,hj=>simp only[uw,jS,aW]at hj;subst hj;exact⟨n3,hc 2 _ rfl⟩
  |3,hj=>simp only[uw,jS,aW]at hj;subst hj;exact⟨n4,hc 3 _ rfl⟩
  |k+4,hj=>simp at hj
theorem abZ{ro:Qf}{w:World}(hro:∀b o,ro b=some o->w.heap[b]? =some o):∀(fs:Wa)(xs:Q1){ys:Q6}{bl off:Nat},pO fs xs->aO ro xs ys->(∀j u,(bY ys)[j]? =some u->w.cell? ⟨bl,off+j,none⟩=some u)->fP w (λb=>ro b≠none) bl off fs
 |[],xs,ys,bl,off,hf,h,hc=>by simp only[fP]
 |f::fs,xs,ys,bl,off,hf,h,hc=>by
  simp only[pO]at hf;obtain⟨x,r,rfl,hx,hr⟩:=hf;simp only[aO]at h;obtain⟨y,ys',rfl,hy,Y4⟩:=h;simp only[fP];have OW:=afV f x hx hy;refine⟨abX hro f x hx hy λj u hj=>hc j u ?_,abZ hro fs r hr Y4 λj u hj=>?_⟩
  ·have hlt:j<y.cells.toList.length:=(eU.1 hj).1;simp only[bY,jC];rw[mP hlt];exact hj
  ·have:=hc (5+j) u (by simp only[bY,jC];rw[vF (by simp[OW]),show 5+j-y.cells.toList.length=j by simp[OW]];exact hj)
   rw[show off+5+j=off+(5+j) by omega];exact this
end
mutual
theorem ab3{ro:Qf}{w:World}{p:Nat->Prop}(hp:∀b,p b->∀o,w.heap[b]? =some o->ro b=some o):∀(fs:Wa)(xs:Q1){v:Value},pO fs xs->FS w p fs v->GR ro (.l xs) v
 |[],xs,v,hf,h=>by
  simp only[pO]at hf;subst hf;simp only[FS]at h;simp only[GR];obtain⟨a,c,rfl,⟨bl,off,rfl⟩|rfl⟩:=h
  ·exact .inr ⟨bl,off,c,[],0,rfl,ql _,by simp[aO],by simp,λhn=>absurd rfl hn⟩
  ·exact .inl ⟨trivial,_,rfl⟩
 |f::fs,xs,v,hf,h=>by
  simp only[pO]at hf;obtain⟨x,r,rfl,hx,hr⟩:=hf;simp only[FS]at h;obtain⟨bl,off,c,rfl,hc,hpb,h1,h2⟩:=h;have hlen:r.length=fs.length:=Y9 fs r hr;obtain⟨y,y1,y2,y3⟩:=abY hp f x hx h1;obtain⟨ys,z1,z2,z3⟩:=ab1 hp fs r hr h2;simp only[GR];refine .inr ⟨bl,off,c,y::ys,5,by simp[hlen],by simp[hlen];omega,by simp only[aO];exact⟨y,ys,rfl,y1,z1⟩,λq hq=>?_,λ_=>?_⟩
  ·rcases bG.1 hq with rfl|hq
   ·exact y2
   ·exact z2 q hq
  ·have hall:∀j u,(bY (y::ys))[j]? =some u->w.cell? ⟨bl,off+j,none⟩=some u:=by
    intro j u hj;simp only[bY,jC]at hj;rcases xU j 5 with hlt|hge
    ·rw[mP (by simp[y2];exact hlt)]at hj;exact y3 j u hj
    ·rw[vF (by simp[y2];exact hge)]at hj;have:=z3 (j-5) u (by simpa[y2,bY]using hj);rw[show off+5+(j-5)=off+j by omega]at this;exact this
   have h5:(bY (y::ys)).length=(ys.length+1)*5:=by
    letI:aH:=Tg [] [] 0
    rw[ED (sz:=5)]
    ·rfl
    ·intro q hq;rcases bG.1 hq with rfl|hq
     ·exact y2
     ·exact z2 q hq
   obtain⟨u,hu⟩:∃u,(bY (y::ys))[(ys.length+1)*5-1]? =some u:=⟨_,bK (by omega)⟩
   have hcl:=hall _ u hu;have hob:∃cs elem fr,w.heap[bl]? =some (.cells cs elem fr):=by
    simp only[World.cell?]at hcl;cases ho:w.heap[bl]? with
    |none=>simp[ho]at hcl
    |some o=>cases o<;>simp[ho]at hcl<;>exact⟨_,_,_,rfl⟩
   obtain⟨cs,elem,fr,hob⟩:=hob;refine⟨cs,elem,fr,hp bl hpb _ hob,?_,λj u hj=>?_⟩
   ·rw[cell_of_row w bl _ cs elem fr hob]at hcl;have:=(qh.1 hcl).1;omega
   ·have:=hall j u hj;rw[cell_of_row w bl _ cs elem fr hob]at this;exact this
theorem abY{ro:Qf}{w:World}{p:Nat->Prop}(hp:∀b,p b->∀o,w.heap[b]? =some o->ro b=some o):∀(f:Ft)(x:GV){bl off:Nat},Df f x->FC w p bl off f->∃y,GR ro x y/\y.cells.size=5/\∀j u,y.cells.toList[j]? =some u->w.cell? ⟨bl,off+j,none⟩=some u
 |.mk cs l,x,bl,off,hf,h=>by
  simp only[Df]at hf;obtain⟨a,b,c,d,ys,rfl,hcs,hl⟩:=hf;simp only[FC]at h;obtain⟨hn,hc,v,hv,hs⟩:=h;match cs,hn with
  |[c1,c2,c3,c4],_=>
  simp only[iD,jl,yL,and_true]at hcs;obtain⟨e1,e2,e3,e4⟩:=hcs;refine⟨.agg #[c1,c2,c3,c4,v],?_,rfl,λj u hj=>?_⟩
  ·have h5:=ab3 hp l ys hl hs;simp only[GR,aO]at h5⊢;exact⟨[c1,c2,c3,c4,v],rfl,_,_,rfl,Sr e1,_,_,rfl,Sr e2,_,_,rfl,Sr e3,_,_,rfl,Sr e4,_,_,rfl,h5,rfl⟩
  ·match j,hj with
   |0,hj=>simp[Value.cells]at hj;subst hj;exact(hc 0 _ rfl).2
   |1,hj=>simp[Value.cells]at hj;subst hj;exact(hc 1 _ rfl).2
   |2,hj=>simp[Value.cells]at hj;subst hj;exact(hc 2 _ rfl).2
   |3,hj=>simp[Value.cells]at hj;subst hj;exact(hc 3 _ rfl).2
   |4,hj=>simp[Value.cells]at hj;subst hj;exact hv
   |k+5,hj=>simp[Value.cells]at hj
theorem ab1{ro:Qf}{w:World}{p:Nat->Prop}(hp:∀b,p b->∀o,w.heap[b]? =some o->ro b=some o):∀(fs:Wa)(xs:Q1){bl off:Nat},pO fs xs->fP w p bl off fs->∃ys,aO ro xs ys/\(∀y∈ys,y.cells.size=5)/\∀j u,(bY ys)[j]? =some u->w.cell? ⟨bl,off+j,none⟩=some u
 |[],xs,bl,off,hf,h=>by simp only[pO]at hf;subst hf;exact⟨[],by simp[aO],by simp,by simp[bY]⟩
 |f::fs,xs,bl,off,hf,h=>by
  simp only[pO]at hf;obtain⟨x,r,rfl,hx,hr⟩:=hf;simp only[fP]at h;obtain⟨y,y1,y2,y3⟩:=abY hp f x hx h.1;obtain⟨ys,z1,z2,z3⟩:=ab1 hp fs r hr h.2;refine⟨y::ys,by simp only[aO];exact⟨y,ys,rfl,y1,z1⟩,λq hq=>?_,λj u hj=>?_⟩
  ·rcases bG.1 hq with rfl|hq
   ·exact y2
   ·exact z2 q hq
  ·simp only[bY,jC]at hj;rcases xU j 5 with hlt|hge
   ·rw[mP (by simp[y2];exact hlt)]at hj;exact y3 j u hj
   ·rw[vF (by simp[y2];exact hge)]at hj;have:=z3 (j-5) u (by simpa[y2,bY]using hj);rw[show off+5+(j-5)=off+j by omega]at this;exact this
end
open Classical in
def KD:Q1->Option Q1
 |[.l xs]=>if ∃fs,pO fs xs/\nU fs<=1099511627776 then some [.l xs]else none
 |_=>none
theorem ap3{P:Program}{tabs:Qt}{f:FuncId}{e:TypeId}
 (walk:∀(v:Value)(fs:Wa)(w:World)(ro:Qf),FS w (λb=>ro b≠none) fs v->(∀b,ro b≠none->b<w.heap.size)->nU fs<=1099511627776->
  Calls P f #[v] w λer w'=>∃v',er=.returned v'/\∃p,CB e w ro fs v' w' p)
 (enters:∀args w,(callFunc f args).run P w=.ok (.enter f args) w) {gs out:Q1} (h:KD gs=some out):nP P tabs f [] [.sc] gs out:=by
 unfold KD at h;split at h;rotate_left
 ·cases h
 next xs=>
 split at h;rotate_left
 ·cases h
 next hc=>
 cases h;obtain⟨fs,hfs,hcnt⟩:=hc;letI:aH:=Tg [] [] 0
 refine⟨λro w vs hro hvs=>?_,rfl⟩;simp only[aO]at hvs;obtain⟨v,l,rfl,hv,rfl⟩:=hvs;refine .inr ⟨enters _ w,Calls.mono' (walk v fs w ro (ab2 hro.at' fs xs hfs hv) (λb hb=>?_) hcnt) ?_⟩
 ·cases hb1:ro b with
  |none=>exact absurd hb1 hb
  |some o=>exact(qh.1 (hro.at' b o hb1)).1
 ·rintro er w' ⟨v',rfl,p,hb⟩
  refine⟨v',rfl,Vd ro w w',Vf hro hb.below,[v'],rfl,?_⟩;simp only[aO];refine⟨_,_,rfl,ab3 (p:=p) (λb hpb o ho=>?_) fs xs hfs hb.top,rfl⟩;show(if b<w.heap.size then ro b else w'.heap[b]?)=some o
  split
  ·next hlt=>
   have h1:=hb.U6 b hpb hlt;cases hb1:ro b with
   |none=>exact absurd hb1 h1
   |some o2=>have h2:=hro.at' b o2 hb1;rw[<-hb.below.block b hlt,ho]at h2;exact h2.symm
  ·exact ho
