/- Library functions that are told: slices.Clone, utf8.ValidString. -/
import Derived.Test.YtkoclengoeonnaaGreatDoorAbsJ
import Derived.Laws.AppendOwn
import Derived.Lib.ValidU
set_option linter.all false
namespace Go.aP
open Go.RowKit
noncomputable section
variable{P:Program}
def DL(bytes size:Nat):Q1->Option Q1
 |[.l xs]=>if xs.length*bytes<=140737488355328/\xs.all (GV.fQ size)=true then some [.l xs]else none
 |_=>none
def NM:Q1->Option Q1
 |[.s x]=>if x.length<=9223372036854775807 then some [.b (Lib.validD x)]else none
 |_=>none
def Kept.of_below{w w':World}(h:Below w.heap.size w w'):Kept w w':=⟨h.os,h.tape,h.output,h.size,λa b=>h.block a b⟩
def VU(ro:Qf)(w w':World):Nat->Option Obj:=λb=>if b<w.heap.size then ro b else w'.heap[b]?
def VX{tabs:Qt}{ro:Qf}{w w':World}(d:xW tabs ro w)(h:Below w.heap.size w w'):Hw ro (VU ro w w') w w':=by
 letI:aJ:=Tg [] [] 0
 refine⟨Kept.of_below h,λb o c=>?_,λb c=>?_,λb o c=>?_⟩
 ·show(if _ then _ else _)=_
  rw[au (vN (d.at' b o c))];exact c
 ·have a:(if b<w.heap.size then ro b else w'.heap[b]?)≠none:=c;split at a
  ·exact .inl a
  ·next e=>exact .inr ah
 ·have a:(if b<w.heap.size then ro b else w'.heap[b]?)=some o:=c;split at a
  ·next e=>rw[h.block b e];exact d.at' b o a
  ·exact a
def aS.ones'{ro:Qf}:∀{l:Q1}{vs:Q6},aS ro l vs->l.all GV.scalar=true->∀v∈vs,v.oneCell'=true
 |[],vs,h,_,v,b=>by simp only[aS]at h;subst h;simp at b
 |a::l,vs,h,c,v,b=>by
  simp only[aS]at h;obtain⟨x,xs,rfl,h1,d⟩:=h;simp only[qJ,aO]at c;rcases bJ.1 b with rfl|b
  ·letI:aJ:=Tg [] [] 0
   rw[Vz];exact GR.qE h1 c.1
  ·exact aS.ones' d c.2 v b
def afn{ro:Qf}{x:GV}{y:Value}{size:Nat}(b:x.fQ size=true)(h:GR ro x y):y.cells.size=size/\∀v∈y.cells.toList,v.oneCell'=true:=by
 letI:aJ:=Tg [] [] 0
 unfold GV.fQ at b;rw[aO]at b;have c:=bM b.1;refine⟨by rw[<-c];exact(GR.aex (F:=⟨λ_=>none,ro,λ_=>false⟩) h).symm,?_⟩;cases x with
 |g e=>simp only[GR]at h;obtain⟨f,rfl,h⟩:=h;exact aS.ones' h b.2
 |l d=>have i:=GR.qE h (g:=.l d) rfl;intro v a;simp only[GR]at h;rcases h with⟨_,p,rfl⟩|⟨_,_,_,_,_,rfl,_⟩<;>(simp[Value.cells]at a;subst a;rfl)
 |_=>simp only[GR]at h;subst h;intro v a;simp[Value.cells]at a;subst a;rfl
def aeD{tabs:Qt}{f size bytes:Nat}{e:TypeId}(h0:0<size)
 (O:∀(a:Addr)(n c:Nat)(i:Q6)(w:World),i.length=n*size->(∀j u,i[j]? =some u->w.cell? (a.add j)=some u)->(∀u∈i,u.oneCell'=true)->n*bytes<=140737488355328->n<=maxLen->
  Calls P f #[.slice (some a) n c] w λR w'=>∃H,R=.returned H/\w'.ownsRow w.heap.size e size H n i/\Below w.heap.size w w')
 (nil:∀w,Calls P f #[.slice none 0 0] w λR w'=>R=.returned (.slice none 0 0)/\w'=w)
 (m:∀args w,(callFunc f args).run P w=.ok (.enter f args) w) (ad:0<bytes) {gs S:Q1} (h:DL bytes size gs=some S):ou P tabs f [] [.sc] gs S:=by
 unfold DL at h;split at h;rotate_left
 ·cases h
 next q=>
 split at h;rotate_left
 ·cases h
 next hc=>
 cases h;obtain⟨T,E⟩:=hc;letI:aJ:=Tg [] [] 0
 refine⟨λU w vs B V=>?_,rfl⟩;simp only[aS]at V;obtain⟨v,l,rfl,hv,rfl⟩:=V;have W:=hv;simp only[GR]at hv
 have fin:∀(a:Addr)(c:Nat)(z:Q6),aS U q z->(∀j u,(dN z)[j]? =some u->w.cell? (a.add j)=some u)->q.length<=maxLen->v=.slice (some a) q.length c->
  lC P f ⟨xB [] [v]⟩ w λH w'=>∃X,Hw U X w w'/\∃us,H=CW us/\aS X [.l q] us:=by
  rintro a c z d I D rfl
  letI:aJ:=Tg [] [] 0
  have J:∀y∈z,y.cells.size=size:=by
   intro y hy;obtain⟨k,A⟩:=NY hy;have r:k<q.length:=by rw[d.length];exact(fH.1 A).1
   obtain⟨y',s,L⟩:=d.at (bT r);rw[A]at s;cases s;exact(afn (List.all_eq_true.1 E _ (iq r)) L).1
  have Y:∀u∈dN z,u.oneCell'=true:=by
   intro u hu;obtain⟨y,hy,hu⟩:=adh.1 hu;obtain⟨k,A⟩:=NY hy;have r:k<q.length:=by rw[d.length];exact(fH.1 A).1
   obtain⟨y',s,L⟩:=d.at (bT r);rw[A]at s;cases s;exact(afn (List.all_eq_true.1 E _ (iq r)) L).2 u hu
  have Z:(dN z).length=q.length*size:=by rw[Ir J,d.length]
  refine .inr ⟨m _ w,Calls.mono' (O a q.length c (dN z) w Z I Y T D) ?_⟩;rintro R w' ⟨H,rfl,t,F⟩
  refine⟨H,rfl,VU U w w',VX B F,[H],rfl,?_⟩;simp only[aS];refine⟨_,_,rfl,?_,rfl⟩;obtain⟨_,t⟩:=t;simp only[GR];rcases t with⟨rfl,hn⟩|⟨g,ae,af,rfl,hg,hb,G,_,ag,M⟩
  ·exact .inl ⟨List.eq_nil_of_length_eq_zero hn,_,rfl⟩
  ·right;refine⟨g,0,ae,z,size,rfl,G,aS.mono (λb o hb=>(VX B F).le b o hb) _ _ d,J,λaa=>⟨af,e,(0,0),?_,?_,?_⟩⟩
   ·show(if g<w.heap.size then U g else w'.heap[g]?)=_
    rw[aj ah];exact hb
   ·rw[Z,ag,kX];exact uj _ G
   ·intro k x A;rw[<-M,lT]at A;split at A
    ·simpa using A
    ·cases A
 have D:q.length<=maxLen:=by
  have:q.length<=q.length*bytes:=akS _ ad
  unfold maxLen;omega
 rcases hv with⟨rfl,p,rfl⟩|⟨bl,N,c,z,sz,rfl,hc,d,J,ab⟩
 ·cases p with
  |none=>
   refine .inr ⟨m _ w,Calls.mono' (nil w) ?_⟩;rintro R w' ⟨rfl,hw⟩
   rw[hw];exact⟨_,rfl,U,⟨Kept.refl w,λ_ _ h=>h,λ_ h=>.inl h,B.at'⟩,[_],rfl,by simp only[aS];exact⟨_,_,rfl,W,rfl⟩⟩
  |some a=>exact fin a 0 [] (by simp[aS]) (by intro j u hj;simp[dN]at hj) D rfl
 ·refine fin ⟨bl,N,none⟩ c z d (λj u hj=>?_) D rfl;have aa:q≠[]:=by
   rintro rfl
   simp only[aS]at d;subst d;simp[dN]at hj
  obtain⟨cs,ai,fr,h1,h2,h3⟩:=ab aa;have hb:=B.at' _ _ h1;have ac:(Addr.mk bl N none).add j=⟨bl,N+j,none⟩:=by unfold Addr.add;split<;>simp_all
  rw[ac];simp only[World.cell?,hb];rw[aj aA];exact h3 j u hj
def aBU{tabs:Qt}{f:FuncId}(b:∀(s:ByteArray)(w:World)(ro:Qf),xW tabs ro w->s.size<=9223372036854775807->Calls P f #[.string s] w λe w'=>e=.returned (.bool (Lib.validD s.data.toList))/\Below w.heap.size w w')
 (a:∀args w,(callFunc f args).run P w=.ok (.enter f args) w) {gs c:Q1} (h:NM gs=some c):ou P tabs f [] [.sc] gs c:=by
 unfold NM at h;split at h;rotate_left
 ·cases h
 next x=>
 split at h;rotate_left
 ·cases h
 next i=>
 cases h;letI:aJ:=Tg [] [] 0
 refine⟨λro w k d g=>?_,rfl⟩;simp only[aS,GR]at g;obtain⟨v,l,rfl,rfl,rfl⟩:=g;refine .inr ⟨a _ w,Calls.mono' (b ⟨⟨x⟩⟩ w ro d i) ?_⟩;rintro e w' ⟨rfl,j⟩
 exact⟨_,rfl,VU ro w w',VX d j,[_],rfl,by simp[aS,GR]⟩
def Tv:Q1->Option Q1
 |[.s a,.s b]=>some [.i .i64 (Yr a b)]
 |_=>none
def Ol:Q1->Option Q1
 |[.i .u64 x,.i .u64 y,.i .u64 c]=>if 0<=x/\0<=y/\0<=c/\c<=1 then some [.i .u64 ((x+y+c)%18446744073709551616),.i .u64 ((x+y+c)/18446744073709551616)]else none
 |_=>none
def ai6{tabs:Qt}{ro:Qf}{w:World}(a:xW tabs ro w):Hw ro ro w w:=by
 letI:aJ:=Tg [] [] 0
 exact⟨Kept.refl w,λ_ _ h=>h,λ_ h=>.inl h,a.at'⟩
def amz{tabs:Qt}{f:FuncId}(h:Ext P f Extern.BytealgCompare.compare){gs c:Q1}(e:Tv gs=some c):ou P tabs f [] [.sc] gs c:=by
 unfold Tv at e;split at e;rotate_left
 ·cases e
 next a b=>
 cases e;letI:aJ:=Tg [] [] 0
 refine⟨λi w j g d=>?_,rfl⟩;simp only[aS,GR]at d;obtain⟨_,_,rfl,rfl,_,_,rfl,rfl,rfl⟩:=d;exact h.xZ ⟨_,w,rfl,i,ai6 g,[_],rfl,by simp only[aS,GR];exact⟨_,_,rfl,rfl,rfl⟩⟩
def ak9{tabs:Qt}{f:FuncId}(h:Ext P f add64Entry){gs b:Q1}(a:Ol gs=some b):ou P tabs f [] [.sc,.sc] gs b:=by
 unfold Ol at a;split at a;rotate_left
 ·cases a
 next x y c=>
 split at a;rotate_left
 ·cases a
 next i=>
 cases a;obtain⟨j,k,l,m⟩:=i;letI:aJ:=Tg [] [] 0
 refine⟨λn w o g d=>?_,rfl⟩;simp only[aS,GR]at d;obtain⟨_,_,rfl,rfl,_,_,rfl,rfl,_,_,rfl,rfl,rfl⟩:=d;have e:=run_add64 (P:=P) x y c j k l m w;refine h.xZ ⟨_,w,e,n,ai6 g,[_,_],rfl,?_⟩;simp only[aS,GR];exact⟨_,_,rfl,by congr 1,_,_,rfl,by congr 1,rfl⟩
end
noncomputable section
variable{P:Program}
def iM:We:=[[97,108,108,111,119,101,100],
 [98,97,115,101],
 [99,104,111,115,101,110],
 [99,111,100,101],
 [99,111,115,116],
 [100,101,97,100,108,105,110,101],
 [100,101,115,99,114],
 [100,105,103,101,115,116],
 [101,112,111,99,104],
 [102,108,97,103,115],
 [105,100],
 [108,97,103],
 [109,97,120],
 [109,105,110],
 [110,97,109,101],
 [110,111,116,101],
 [112,114,105,111,114,105,116,121],
 [114,101,103,105,111,110],
 [114,101,109,97,105,110,105,110,103],
 [114,101,116,114,121],
 [116,97,98,108,101],
 [119,97,110,116]]
def Vp:Q1->Option Q1
 |[]=>some [.l (iM.map .s)]
 |_=>none
def amP{l:aJ}{call:Caller}{f:FuncId}{J0 J':aC}{r:AV}{g:GV}(e:@qV l P call)(h0:@zO l J0 P.globals.size)(u:J0.lock=0)(i:call f [] J0=some (r,J'))(n:Nat)(x:sJ P J' n r=some (kT g))(y:g.scalar=true):
 ou P l.tabs f [] [.sc] [] [g]:=by
 letI:=l
 refine⟨λt w M a j=>?_,by cases g<;>first|rfl|simp[GV.scalar]at y⟩;simp only[aS]at j;subst j;have z:SR P (vM P.globals.size J0 t) J0 w:=KJ h0.1 (λid o A=>by obtain⟨c,rfl,B,q⟩:=h0.2 id o A;obtain⟨D,k,E,s,m,F⟩:=a.tab _ B;exact⟨q,c,rfl,⟨D,k,E,a.at' _ _ s,m,F⟩⟩) a.at' (λp G=>a.tab p G)
 refine lC.mono (Fn.aat e h0 u rfl i n x (vM P.globals.size J0 t) J0 w [] z rfl) ?_;rintro v N ⟨H,O,rfl,d,I⟩
 refine⟨H.ro,⟨d.kept h0.own,d.ext.ro,λb J=>?_,d.rel.jc⟩,[v],rfl,?_⟩
 ·rcases d.qH b J with h|h|⟨L,o0,R,s,m,_⟩
  ·exact .inl h
  ·exact .inr h
  ·rw[h0.own L o0 s]at m;cases m
 ·have:=(lD g v).2 I;simp only[aS];exact⟨v,[],rfl,this,rfl⟩
def ajQ:List Int:=[0,498536548,997073096,651767980,1994146192,1802195444,1303535960,1342533948,3988292384,4027552580,3604390888,3412177804,2607071920,2262029012,2685067896,3183342108]
def Wx:Q1->Option Q1
 |[]=>some [.g (ajQ.map λn=>.i .u32 n)]
 |_=>none
def amQ{l:aJ}{call:Caller}{f:FuncId}{J0 J':aC}{r:AV}{g:GV}{t:WF}(e:@qV l P call)(h0:@zO l J0 P.globals.size)(x:J0.lock=0)(i:call f [] J0=some (r,J'))(n:Nat)(y:sJ P J' n r=some (kT g))(z:nZ t [g]=true):
 ou P l.tabs f [] t [] [g]:=by
 letI:=l
 refine⟨λu w N a j=>?_,z⟩;simp only[aS]at j;subst j;have A:SR P (vM P.globals.size J0 u) J0 w:=KJ h0.1 (λid o B=>by obtain⟨c,rfl,D,q⟩:=h0.2 id o B;obtain⟨E,k,F,s,m,G⟩:=a.tab _ D;exact⟨q,c,rfl,⟨E,k,F,a.at' _ _ s,m,G⟩⟩) a.at' (λp H=>a.tab p H)
 refine lC.mono (Fn.aat e h0 x rfl i n y (vM P.globals.size J0 u) J0 w [] A rfl) ?_;rintro v O ⟨I,R,rfl,d,J⟩
 refine⟨I.ro,⟨d.kept h0.own,d.ext.ro,λb L=>?_,d.rel.jc⟩,[v],rfl,?_⟩
 ·rcases d.qH b L with h|h|⟨M,o0,S,s,m,_⟩
  ·exact .inl h
  ·exact .inr h
  ·rw[h0.own M o0 s]at m;cases m
 ·have:=(lD g v).2 J;simp only[aS];exact⟨v,[],rfl,this,rfl⟩
