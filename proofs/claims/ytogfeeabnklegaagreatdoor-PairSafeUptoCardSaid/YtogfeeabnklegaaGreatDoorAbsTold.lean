/- Library functions that are told: slices.Clone, utf8.ValidString. -/
import Derived.Test.YtogfeeabnklegaaGreatDoorAbsJ
import Derived.Laws.AppendOwn
import Derived.Lib.ValidU
set_option linter.all false
namespace Go.aP
open Go.RowKit
noncomputable section
variable{P:Program}
def EP(bytes size:Nat):Q1->Option Q1
 |[.l xs]=>if xs.length*bytes<=140737488355328/\xs.all (GV.gQ size)=true then some [.l xs]else none
 |_=>none
def PW:Q1->Option Q1
 |[.s x]=>if x.length<=9223372036854775807 then some [.b (Lib.validD x)]else none
 |_=>none
def Kept.of_below{w w':World}(h:Below w.heap.size w w'):Kept w w':=⟨h.os,h.tape,h.output,h.size,λa b=>h.block a b⟩
def X3(ro:Qf)(w w':World):Nat->Option Obj:=λb=>if b<w.heap.size then ro b else w'.heap[b]?
def X5{tabs:QP}{ro:Qf}{w w':World}(d:zK tabs ro w)(h:Below w.heap.size w w'):Jq ro (X3 ro w w') w w':=by
 letI:aJ:=Tg [] [] 0
 refine⟨Kept.of_below h,λb o c=>?_,λb c=>?_,λb o c=>?_⟩
 ·show(if _ then _ else _)=_
  rw[au (xP (d.at' b o c))];exact c
 ·have a:(if b<w.heap.size then ro b else w'.heap[b]?)≠none:=c;split at a
  ·exact .inl a
  ·next e=>exact .inr ah
 ·have a:(if b<w.heap.size then ro b else w'.heap[b]?)=some o:=c;split at a
  ·next e=>rw[h.block b e];exact d.at' b o a
  ·exact a
def aU.ones'{ro:Qf}:∀{l:Q1}{vs:Q6},aU ro l vs->l.all GV.scalar=true->∀v∈vs,v.oneCell'=true
 |[],vs,h,_,v,b=>by simp only[aU]at h;subst h;simp at b
 |a::l,vs,h,c,v,b=>by
  simp only[aU]at h;obtain⟨x,xs,rfl,h1,d⟩:=h;simp only[uG,aO]at c;rcases bI.1 b with rfl|b
  ·letI:aJ:=Tg [] [] 0
   rw[XE];exact GR.sW h1 c.1
  ·exact aU.ones' d c.2 v b
def ag4{ro:Qf}{x:GV}{y:Value}{size:Nat}(b:x.gQ size=true)(h:GR ro x y):y.cells.size=size/\∀v∈y.cells.toList,v.oneCell'=true:=by
 letI:aJ:=Tg [] [] 0
 unfold GV.gQ at b;rw[aO]at b;have c:=bV b.1;refine⟨by rw[<-c];exact(GR.af8 (F:=⟨λ_=>none,ro,λ_=>false⟩) h).symm,?_⟩;cases x with
 |g e=>simp only[GR]at h;obtain⟨f,rfl,h⟩:=h;exact aU.ones' h b.2
 |l d=>have i:=GR.sW h (g:=.l d) rfl;intro v a;simp only[GR]at h;rcases h with⟨_,p,rfl⟩|⟨_,_,_,_,_,rfl,_⟩<;>(simp[Value.cells]at a;subst a;rfl)
 |_=>simp only[GR]at h;subst h;intro v a;simp[Value.cells]at a;subst a;rfl
def agh{tabs:QP}{f size bytes:Nat}{e:TypeId}(h0:0<size)
 (Q:∀(a:Addr)(n c:Nat)(i:Q6)(w:World),i.length=n*size->(∀j u,i[j]? =some u->w.cell? (a.add j)=some u)->(∀u∈i,u.oneCell'=true)->n*bytes<=140737488355328->n<=maxLen->
  Calls P f #[.slice (some a) n c] w λR w'=>∃I,R=.returned I/\w'.ownsRow w.heap.size e size I n i/\Below w.heap.size w w')
 (nil:∀w,Calls P f #[.slice none 0 0] w λR w'=>R=.returned (.slice none 0 0)/\w'=w)
 (m:∀args w,(callFunc f args).run P w=.ok (.enter f args) w) (ad:0<bytes) {gs S:Q1} (h:EP bytes size gs=some S):qG P tabs f [] [.sc] gs S:=by
 unfold EP at h;split at h;rotate_left
 ·cases h
 next q=>
 split at h;rotate_left
 ·cases h
 next hc=>
 cases h;obtain⟨T,F⟩:=hc;letI:aJ:=Tg [] [] 0
 refine⟨λU w vs D V=>?_,rfl⟩;simp only[aU]at V;obtain⟨v,l,rfl,hv,rfl⟩:=V;have W:=hv;simp only[GR]at hv
 have fin:∀(a:Addr)(c:Nat)(z:Q6),aU U q z->(∀j u,(eP z)[j]? =some u->w.cell? (a.add j)=some u)->q.length<=maxLen->v=.slice (some a) q.length c->
  nG P f ⟨yV [] [v]⟩ w λI w'=>∃X,Jq U X w w'/\∃us,I=Ei us/\aU X [.l q] us:=by
  rintro a c z d J E rfl
  letI:aJ:=Tg [] [] 0
  have L:∀y∈z,y.cells.size=size:=by
   intro y hy;obtain⟨k,A⟩:=P9 hy;have r:k<q.length:=by rw[d.length];exact(gu.1 A).1
   obtain⟨y',s,M⟩:=d.at (bZ r);rw[A]at s;cases s;exact(ag4 (List.all_eq_true.1 F _ (iT r)) M).1
  have Y:∀u∈eP z,u.oneCell'=true:=by
   intro u hu;obtain⟨y,hy,hu⟩:=aeV.1 hu;obtain⟨k,A⟩:=P9 hy;have r:k<q.length:=by rw[d.length];exact(gu.1 A).1
   obtain⟨y',s,M⟩:=d.at (bZ r);rw[A]at s;cases s;exact(ag4 (List.all_eq_true.1 F _ (iT r)) M).2 u hu
  have Z:(eP z).length=q.length*size:=by rw[JL L,d.length]
  refine .inr ⟨m _ w,Calls.mono' (Q a q.length c (eP z) w Z J Y T E) ?_⟩;rintro R w' ⟨I,rfl,t,G⟩
  refine⟨I,rfl,X3 U w w',X5 D G,[I],rfl,?_⟩;simp only[aU];refine⟨_,_,rfl,?_,rfl⟩;obtain⟨_,t⟩:=t;simp only[GR];rcases t with⟨rfl,hn⟩|⟨g,ae,af,rfl,hg,hb,H,_,ag,N⟩
  ·exact .inl ⟨List.eq_nil_of_length_eq_zero hn,_,rfl⟩
  ·right;refine⟨g,0,ae,z,size,rfl,H,aU.mono (λb o hb=>(X5 D G).le b o hb) _ _ d,L,λaa=>⟨af,e,(0,0),?_,?_,?_⟩⟩
   ·show(if g<w.heap.size then U g else w'.heap[g]?)=_
    rw[aj ah];exact hb
   ·rw[Z,ag,mQ];exact wC _ H
   ·intro k x A;rw[<-N,oh]at A;split at A
    ·simpa using A
    ·cases A
 have E:q.length<=maxLen:=by
  have:q.length<=q.length*bytes:=anw _ ad
  unfold maxLen;omega
 rcases hv with⟨rfl,p,rfl⟩|⟨bl,O,c,z,sz,rfl,hc,d,L,ab⟩
 ·cases p with
  |none=>
   refine .inr ⟨m _ w,Calls.mono' (nil w) ?_⟩;rintro R w' ⟨rfl,hw⟩
   rw[hw];exact⟨_,rfl,U,⟨Kept.refl w,λ_ _ h=>h,λ_ h=>.inl h,D.at'⟩,[_],rfl,by simp only[aU];exact⟨_,_,rfl,W,rfl⟩⟩
  |some a=>exact fin a 0 [] (by simp[aU]) (by intro j u hj;simp[eP]at hj) E rfl
 ·refine fin ⟨bl,O,none⟩ c z d (λj u hj=>?_) E rfl;have aa:q≠[]:=by
   rintro rfl
   simp only[aU]at d;subst d;simp[eP]at hj
  obtain⟨cs,ai,fr,h1,h2,h3⟩:=ab aa;have hb:=D.at' _ _ h1;have ac:(Addr.mk bl O none).add j=⟨bl,O+j,none⟩:=by unfold Addr.add;split<;>simp_all
  rw[ac];simp only[World.cell?,hb];rw[aj aA];exact h3 j u hj
def aFy{tabs:QP}{f:FuncId}(b:∀(s:ByteArray)(w:World)(ro:Qf),zK tabs ro w->s.size<=9223372036854775807->Calls P f #[.string s] w λe w'=>e=.returned (.bool (Lib.validD s.data.toList))/\Below w.heap.size w w')
 (a:∀args w,(callFunc f args).run P w=.ok (.enter f args) w) {gs c:Q1} (h:PW gs=some c):qG P tabs f [] [.sc] gs c:=by
 unfold PW at h;split at h;rotate_left
 ·cases h
 next x=>
 split at h;rotate_left
 ·cases h
 next i=>
 cases h;letI:aJ:=Tg [] [] 0
 refine⟨λro w k d g=>?_,rfl⟩;simp only[aU,GR]at g;obtain⟨v,l,rfl,rfl,rfl⟩:=g;refine .inr ⟨a _ w,Calls.mono' (b ⟨⟨x⟩⟩ w ro d i) ?_⟩;rintro e w' ⟨rfl,j⟩
 exact⟨_,rfl,X3 ro w w',X5 d j,[_],rfl,by simp[aU,GR]⟩
def Vx:Q1->Option Q1
 |[.s a,.s b]=>some [.i .i64 (aai a b)]
 |_=>none
def Qm:Q1->Option Q1
 |[.i .u64 x,.i .u64 y,.i .u64 c]=>if 0<=x/\0<=y/\0<=c/\c<=1 then some [.i .u64 ((x+y+c)%18446744073709551616),.i .u64 ((x+y+c)/18446744073709551616)]else none
 |_=>none
def aly{tabs:QP}{ro:Qf}{w:World}(a:zK tabs ro w):Jq ro ro w w:=by
 letI:aJ:=Tg [] [] 0
 exact⟨Kept.refl w,λ_ _ h=>h,λ_ h=>.inl h,a.at'⟩
def apc{tabs:QP}{f:FuncId}(h:Ext P f Extern.BytealgCompare.compare){gs c:Q1}(e:Vx gs=some c):qG P tabs f [] [.sc] gs c:=by
 unfold Vx at e;split at e;rotate_left
 ·cases e
 next a b=>
 cases e;letI:aJ:=Tg [] [] 0
 refine⟨λi w j g d=>?_,rfl⟩;simp only[aU,GR]at d;obtain⟨_,_,rfl,rfl,_,_,rfl,rfl,rfl⟩:=d;exact h.EM ⟨_,w,rfl,i,aly g,[_],rfl,by simp only[aU,GR];exact⟨_,_,rfl,rfl,rfl⟩⟩
def anP{tabs:QP}{f:FuncId}(h:Ext P f add64Entry){gs b:Q1}(a:Qm gs=some b):qG P tabs f [] [.sc,.sc] gs b:=by
 unfold Qm at a;split at a;rotate_left
 ·cases a
 next x y c=>
 split at a;rotate_left
 ·cases a
 next i=>
 cases a;obtain⟨j,k,l,m⟩:=i;letI:aJ:=Tg [] [] 0
 refine⟨λn w o g d=>?_,rfl⟩;simp only[aU,GR]at d;obtain⟨_,_,rfl,rfl,_,_,rfl,rfl,_,_,rfl,rfl,rfl⟩:=d;have e:=run_add64 (P:=P) x y c j k l m w;refine h.EM ⟨_,w,e,n,aly g,[_,_],rfl,?_⟩;simp only[aU,GR];exact⟨_,_,rfl,by congr 1,_,_,rfl,by congr 1,rfl⟩
end
noncomputable section
variable{P:Program}
def iF:Wa:=[[97,108,108,111,119,101,100],
 [98,97,115,101],
 [99,104,111,115,101,110],
 [99,111,100,101],
 [99,111,115,116],
 [100,101,97,100,108,105,110,101],
 [100,101,115,99,114],
 [100,105,103,101,115,116],
 [101,112,111,99,104],
 [102,108,97,103,115],
 [105,100],
 [108,97,103],
 [109,97,120],
 [109,105,110],
 [110,97,109,101],
 [110,111,116,101],
 [112,114,105,111,114,105,116,121],
 [114,101,103,105,111,110],
 [114,101,109,97,105,110,105,110,103],
 [114,101,116,114,121],
 [116,97,98,108,101],
 [119,97,110,116]]
def Xy:Q1->Option Q1
 |[]=>some [.l (iF.map .s)]
 |_=>none
def apu{l:aJ}{call:Caller}{f:FuncId}{J0 J':aC}{r:AV}{g:GV}(e:@uz l P call)(h0:@BI l J0 P.globals.size)(u:J0.lock=0)(i:call f [] J0=some (r,J'))(n:Nat)(x:vK P J' n r=some (mD g))(y:g.scalar=true):
 qG P l.tabs f [] [.sc] [] [g]:=by
 letI:=l
 refine⟨λt w N a j=>?_,by cases g<;>first|rfl|simp[GV.scalar]at y⟩;simp only[aU]at j;subst j;have z:SR P (xM P.globals.size J0 t) J0 w:=Nc h0.1 (λid o A=>by obtain⟨c,rfl,D,q⟩:=h0.2 id o A;obtain⟨E,k,F,s,m,G⟩:=a.tab _ D;exact⟨q,c,rfl,⟨E,k,F,a.at' _ _ s,m,G⟩⟩) a.at' (λp H=>a.tab p H)
 refine nG.mono (Fn.acd e h0 u rfl i n x (xM P.globals.size J0 t) J0 w [] z rfl) ?_;rintro v O ⟨I,Q,rfl,d,J⟩
 refine⟨I.ro,⟨d.kept h0.own,d.ext.ro,λb L=>?_,d.rel.jF⟩,[v],rfl,?_⟩
 ·rcases d.tC b L with h|h|⟨M,o0,R,s,m,_⟩
  ·exact .inl h
  ·exact .inr h
  ·rw[h0.own M o0 s]at m;cases m
 ·have:=(nH g v).2 J;simp only[aU];exact⟨v,[],rfl,this,rfl⟩
def amq:List Int:=[0,498536548,997073096,651767980,1994146192,1802195444,1303535960,1342533948,3988292384,4027552580,3604390888,3412177804,2607071920,2262029012,2685067896,3183342108]
def YA:Q1->Option Q1
 |[]=>some [.g (amq.map λn=>.i .u32 n)]
 |_=>none
def apv{l:aJ}{call:Caller}{f:FuncId}{J0 J':aC}{r:AV}{g:GV}{t:WN}(e:@uz l P call)(h0:@BI l J0 P.globals.size)(x:J0.lock=0)(i:call f [] J0=some (r,J'))(n:Nat)(y:vK P J' n r=some (mD g))(z:qE t [g]=true):
 qG P l.tabs f [] t [] [g]:=by
 letI:=l
 refine⟨λu w O a j=>?_,z⟩;simp only[aU]at j;subst j;have A:SR P (xM P.globals.size J0 u) J0 w:=Nc h0.1 (λid o D=>by obtain⟨c,rfl,E,q⟩:=h0.2 id o D;obtain⟨F,k,G,s,m,H⟩:=a.tab _ E;exact⟨q,c,rfl,⟨F,k,G,a.at' _ _ s,m,H⟩⟩) a.at' (λp I=>a.tab p I)
 refine nG.mono (Fn.acd e h0 x rfl i n y (xM P.globals.size J0 u) J0 w [] A rfl) ?_;rintro v Q ⟨J,R,rfl,d,L⟩
 refine⟨J.ro,⟨d.kept h0.own,d.ext.ro,λb M=>?_,d.rel.jF⟩,[v],rfl,?_⟩
 ·rcases d.tC b M with h|h|⟨N,o0,S,s,m,_⟩
  ·exact .inl h
  ·exact .inr h
  ·rw[h0.own N o0 s]at m;cases m
 ·have:=(nH g v).2 L;simp only[aU];exact⟨v,[],rfl,this,rfl⟩
