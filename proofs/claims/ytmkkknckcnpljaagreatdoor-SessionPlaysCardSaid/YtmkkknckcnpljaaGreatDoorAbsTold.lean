/- Library functions that are told: slices.Clone, utf8.ValidString. -/
import Derived.Test.YtmkkknckcnpljaaGreatDoorAbsJ
import Derived.Laws.AppendOwn
import Derived.Lib.ValidU
set_option linter.all false
namespace Go.aO
open Go.RowKit
noncomputable section
variable{P:Program}
def KN(bytes size:Nat):Q1->Option Q1
 |[.l xs]=>if xs.length*bytes<=140737488355328/\xs.all (GV.dZ size)=true then some [.l xs]else none
 |_=>none
def Nh:Q1->Option Q1
 |[.s x]=>if x.length<=9223372036854775807 then some [.b (Lib.validD x)]else none
 |_=>none
def Kept.of_below{w w':World}(h:Below w.heap.size w w'):Kept w w':=⟨h.os,h.tape,h.output,h.size,λa b=>h.block a b⟩
def Vu(ro:Qf)(w w':World):Nat->Option Obj:=λb=>if b<w.heap.size then ro b else w'.heap[b]?
def Vx{tabs:Qt}{ro:Qf}{w w':World}(d:xK tabs ro w)(h:Below w.heap.size w w'):Ht ro (Vu ro w w') w w':=by
 letI:aI:=Tg [] [] 0
 refine⟨Kept.of_below h,λb o c=>?_,λb c=>?_,λb o c=>?_⟩
 ·show(if _ then _ else _)=_
  rw[aj (wM (d.at' b o c))];exact c
 ·have a:(if b<w.heap.size then ro b else w'.heap[b]?)≠none:=c;split at a
  ·exact .inl a
  ·next e=>exact .inr (by omega)
 ·have a:(if b<w.heap.size then ro b else w'.heap[b]?)=some o:=c;split at a
  ·next e=>rw[h.block b e];exact d.at' b o a
  ·exact a
def aP.ones'{ro:Qf}:∀{l:Q1}{vs:Q6},aP ro l vs->l.all GV.scalar=true->∀v∈vs,v.oneCell'=true
 |[],vs,h,_,v,b=>by simp only[aP]at h;subst h;simp at b
 |a::l,vs,h,c,v,b=>by
  simp only[aP]at h;obtain⟨x,xs,rfl,h1,d⟩:=h;simp only[sW,aK]at c;rcases bD.1 b with rfl|b
  ·letI:aI:=Tg [] [] 0
   rw[U4];exact GR.pX h1 c.1
  ·exact aP.ones' d c.2 v b
def aeI{ro:Qf}{x:GV}{y:Value}{size:Nat}(b:x.dZ size=true)(h:GR ro x y):y.cells.size=size/\∀v∈y.cells.toList,v.oneCell'=true:=by
 letI:aI:=Tg [] [] 0
 unfold GV.dZ at b;rw[aK]at b;have c:=bH b.1;refine⟨by rw[<-c];exact(GR.ad2 (H:=⟨λ_=>none,ro,λ_=>false⟩) h).symm,?_⟩;cases x with
 |g e=>simp only[GR]at h;obtain⟨f,rfl,h⟩:=h;exact aP.ones' h b.2
 |l d=>have i:=GR.pX h (g:=.l d) rfl;intro v a;simp only[GR]at h;rcases h with⟨_,p,rfl⟩|⟨_,_,_,_,_,rfl,_⟩<;>(simp[Value.cells]at a;subst a;rfl)
 |_=>simp only[GR]at h;subst h;intro v a;simp[Value.cells]at a;subst a;rfl
def alW{tabs:Qt}{f size bytes:Nat}{e:TypeId}(h0:0<size)
 (O:∀(a:Addr)(n c:Nat)(i:Q6)(w:World),i.length=n*size->(∀j u,i[j]? =some u->w.cell? (a.add j)=some u)->(∀u∈i,u.oneCell'=true)->n*bytes<=140737488355328->n<=maxLen->
  Calls P f #[.slice (some a) n c] w λQ w'=>∃H,Q=.returned H/\w'.ownsRow w.heap.size e size H n i/\Below w.heap.size w w')
 (nil:∀w,Calls P f #[.slice none 0 0] w λQ w'=>Q=.returned (.slice none 0 0)/\w'=w)
 (m:∀args w,(callFunc f args).run P w=.ok (.enter f args) w) (ae:0<bytes) {gs S:Q1} (h:KN bytes size gs=some S):ql P tabs f [] [.sc] gs S:=by
 unfold KN at h;split at h;rotate_left
 ·cases h
 next q=>
 split at h;rotate_left
 ·cases h
 next hc=>
 cases h;obtain⟨T,E⟩:=hc;letI:aI:=Tg [] [] 0
 refine⟨λU w vs B V=>?_,rfl⟩;simp only[aP]at V;obtain⟨v,l,rfl,hv,rfl⟩:=V;have W:=hv;simp only[GR]at hv
 have X:∀(a:Addr)(c:Nat)(z:Q6),aP U q z->(∀j u,(dS z)[j]? =some u->w.cell? (a.add j)=some u)->q.length<=maxLen->v=.slice (some a) q.length c->
  lT P f ⟨xg [] [v]⟩ w λH w'=>∃Y,Ht U Y w w'/\∃us,H=Ce us/\aP Y [.l q] us:=by
  rintro a c z d I D rfl
  letI:aI:=Tg [] [] 0
  have J:∀y∈z,y.cells.size=size:=by
   intro y hy;obtain⟨k,A⟩:=Nw hy;have r:k<q.length:=by rw[d.length];exact(fB.1 A).1
   obtain⟨y',s,L⟩:=d.at (bP r);rw[A]at s;cases s;exact(aeI (List.all_eq_true.1 E _ (dW r)) L).1
  have Z:∀u∈dS z,u.oneCell'=true:=by
   intro u hu;obtain⟨y,hy,hu⟩:=acK.1 hu;obtain⟨k,A⟩:=Nw hy;have r:k<q.length:=by rw[d.length];exact(fB.1 A).1
   obtain⟨y',s,L⟩:=d.at (bP r);rw[A]at s;cases s;exact(aeI (List.all_eq_true.1 E _ (dW r)) L).2 u hu
  have aa:(dS z).length=q.length*size:=by rw[Iq J,d.length]
  refine .inr ⟨m _ w,Calls.mono' (O a q.length c (dS z) w aa I Z T D) ?_⟩;rintro Q w' ⟨H,rfl,t,F⟩
  refine⟨H,rfl,Vu U w w',Vx B F,[H],rfl,?_⟩;simp only[aP];refine⟨_,_,rfl,?_,rfl⟩;obtain⟨_,t⟩:=t;simp only[GR];rcases t with⟨rfl,hn⟩|⟨g,af,ag,rfl,hg,hb,G,_,ai,M⟩
  ·exact .inl ⟨List.eq_nil_of_length_eq_zero hn,_,rfl⟩
  ·right;refine⟨g,0,af,z,size,rfl,G,aP.mono (λb o hb=>(Vx B F).le b o hb) _ _ d,J,λab=>⟨ag,e,(0,0),?_,?_,?_⟩⟩
   ·show(if g<w.heap.size then U g else w'.heap[g]?)=_
    rw[ah (by omega)];exact hb
   ·rw[aa,ai,jQ];exact vS _ G
   ·intro k x A;rw[<-M,mG]at A;split at A
    ·simpa using A
    ·cases A
 have D:q.length<=maxLen:=by
  have:q.length<=q.length*bytes:=akz _ ae
  unfold maxLen;omega
 rcases hv with⟨rfl,p,rfl⟩|⟨bl,N,c,z,sz,rfl,hc,d,J,ac⟩
 ·cases p with
  |none=>
   refine .inr ⟨m _ w,Calls.mono' (nil w) ?_⟩;rintro Q w' ⟨rfl,hw⟩
   rw[hw];exact⟨_,rfl,U,⟨Kept.refl w,λ_ _ h=>h,λ_ h=>.inl h,B.at'⟩,[_],rfl,by simp only[aP];exact⟨_,_,rfl,W,rfl⟩⟩
  |some a=>exact X a 0 [] (by simp[aP]) (by intro j u hj;simp[dS]at hj) D rfl
 ·refine X ⟨bl,N,none⟩ c z d (λj u hj=>?_) D rfl;have ab:q≠[]:=by
   rintro rfl
   simp only[aP]at d;subst d;simp[dS]at hj
  obtain⟨cs,ak,fr,h1,h2,h3⟩:=ac ab;have hb:=B.at' _ _ h1;have ad:(Addr.mk bl N none).add j=⟨bl,N+j,none⟩:=by unfold Addr.add;split<;>simp_all
  rw[ad];simp only[World.cell?,hb];rw[ah (by simp)];exact h3 j u hj
def aCI{tabs:Qt}{f:FuncId}(b:∀(s:ByteArray)(w:World)(ro:Qf),xK tabs ro w->s.size<=9223372036854775807->Calls P f #[.string s] w λe w'=>e=.returned (.bool (Lib.validD s.data.toList))/\Below w.heap.size w w')
 (a:∀args w,(callFunc f args).run P w=.ok (.enter f args) w) {gs c:Q1} (h:Nh gs=some c):ql P tabs f [] [.sc] gs c:=by
 unfold Nh at h;split at h;rotate_left
 ·cases h
 next x=>
 split at h;rotate_left
 ·cases h
 next i=>
 cases h;letI:aI:=Tg [] [] 0
 refine⟨λro w k d g=>?_,rfl⟩;simp only[aP,GR]at g;obtain⟨v,l,rfl,rfl,rfl⟩:=g;refine .inr ⟨a _ w,Calls.mono' (b ⟨⟨x⟩⟩ w ro d i) ?_⟩;rintro e w' ⟨rfl,j⟩
 exact⟨_,rfl,Vu ro w w',Vx d j,[_],rfl,by simp[aP,GR]⟩
def SL:Q1->Option Q1
 |[.s a,.s b]=>some [.i .i64 (X8 a b)]
 |_=>none
def NV:Q1->Option Q1
 |[.i .u64 x,.i .u64 y,.i .u64 c]=>if 0<=x/\0<=y/\0<=c/\c<=1 then some [.i .u64 ((x+y+c)%18446744073709551616),.i .u64 ((x+y+c)/18446744073709551616)]else none
 |_=>none
def aiQ{tabs:Qt}{ro:Qf}{w:World}(a:xK tabs ro w):Ht ro ro w w:=by
 letI:aI:=Tg [] [] 0
 exact⟨Kept.refl w,λ_ _ h=>h,λ_ h=>.inl h,a.at'⟩
def al6{tabs:Qt}{f:FuncId}(h:Ext P f Extern.BytealgCompare.compare){gs c:Q1}(e:SL gs=some c):ql P tabs f [] [.sc] gs c:=by
 unfold SL at e;split at e;rotate_left
 ·cases e
 next a b=>
 cases e;letI:aI:=Tg [] [] 0
 refine⟨λi w j g d=>?_,rfl⟩;simp only[aP,GR]at d;obtain⟨_,_,rfl,rfl,_,_,rfl,rfl,rfl⟩:=d;exact h.Dh ⟨_,w,rfl,i,aiQ g,[_],rfl,by simp only[aP,GR];exact⟨_,_,rfl,rfl,rfl⟩⟩
def akR{tabs:Qt}{f:FuncId}(h:Ext P f add64Entry){gs b:Q1}(a:NV gs=some b):ql P tabs f [] [.sc,.sc] gs b:=by
 unfold NV at a;split at a;rotate_left
 ·cases a
 next x y c=>
 split at a;rotate_left
 ·cases a
 next i=>
 cases a;obtain⟨j,k,l,m⟩:=i;letI:aI:=Tg [] [] 0
 refine⟨λn w o g d=>?_,rfl⟩;simp only[aP,GR]at d;obtain⟨_,_,rfl,rfl,_,_,rfl,rfl,_,_,rfl,rfl,rfl⟩:=d;have e:=run_add64 (P:=P) x y c j k l m w;refine h.Dh ⟨_,w,e,n,aiQ g,[_,_],rfl,?_⟩;simp only[aP,GR];exact⟨_,_,rfl,by congr 1,_,_,rfl,by congr 1,rfl⟩
end
noncomputable section
variable{P:Program}
def fZ:Wg:=[[97,108,108,111,119,101,100],
 [98,97,115,101],
 [99,104,111,115,101,110],
 [99,111,100,101],
 [99,111,115,116],
 [100,101,97,100,108,105,110,101],
 [100,101,115,99,114],
 [100,105,103,101,115,116],
 [101,112,111,99,104],
 [102,108,97,103,115],
 [105,100],
 [108,97,103],
 [109,97,120],
 [109,105,110],
 [110,97,109,101],
 [110,111,116,101],
 [112,114,105,111,114,105,116,121],
 [114,101,103,105,111,110],
 [114,101,109,97,105,110,105,110,103],
 [114,101,116,114,121],
 [116,97,98,108,101],
 [119,97,110,116]]
def UY:Q1->Option Q1
 |[]=>some [.l (fZ.map .s)]
 |_=>none
def amg{l:aI}{call:Caller}{f:FuncId}{J0 J':aA}{r:AV}{g:GV}(e:@rD l P call)(h0:@AP l J0 P.globals.size)(u:J0.lock=0)(i:call f [] J0=some (r,J'))(n:Nat)(x:uT P J' n r=some (lJ g))(y:g.scalar=true):
 ql P l.tabs f [] [.sc] [] [g]:=by
 letI:=l
 refine⟨λt w M a j=>?_,by cases g<;>first|rfl|simp[GV.scalar]at y⟩;simp only[aP]at j;subst j;have z:SR P (xW P.globals.size J0 t) J0 w:=NS h0.1 (λid o A=>by obtain⟨c,rfl,B,q⟩:=h0.2 id o A;obtain⟨D,k,E,s,m,F⟩:=a.tab _ B;exact⟨q,c,rfl,⟨D,k,E,a.at' _ _ s,m,F⟩⟩) a.at' (λp G=>a.tab p G)
 refine lT.mono (Fn.ahi e h0 u rfl i n x (xW P.globals.size J0 t) J0 w [] z rfl) ?_;rintro v N ⟨H,O,rfl,d,I⟩
 refine⟨H.ro,⟨d.kept h0.own,d.ext.ro,λb J=>?_,d.rel.ji⟩,[v],rfl,?_⟩
 ·rcases d.qK b J with h|h|⟨L,o0,Q,s,m,_⟩
  ·exact .inl h
  ·exact .inr h
  ·rw[h0.own L o0 s]at m;cases m
 ·have:=(lV g v).2 I;simp only[aP];exact⟨v,[],rfl,this,rfl⟩
