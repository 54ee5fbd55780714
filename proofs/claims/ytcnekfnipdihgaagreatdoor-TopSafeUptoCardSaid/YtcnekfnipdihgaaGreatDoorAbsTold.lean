/- Library functions that are told: slices.Clone, utf8.ValidString. -/
import Derived.Test.YtcnekfnipdihgaaGreatDoorAbsJ
import Derived.Laws.AppendOwn
import Derived.Lib.ValidU
set_option linter.all false
namespace Go.aP
open Go.RowKit
noncomputable section
variable{P:Program}
def xw(bytes size:Nat):Q3->Option Q3
 |[.l xs]=>if xs.length*bytes<=140737488355328/\xs.all (GV.gu size)=true then some [.l xs]else none
 |_=>none
def Pe:Q3->Option Q3
 |[.s x]=>if x.length<=9223372036854775807 then some [.b (Lib.validD x)]else none
 |_=>none
def Kept.of_below{w w':World}(h:Below w.heap.size w w'):Kept w w':=⟨h.os,h.tape,h.output,h.size,λa b=>h.block a b⟩
def XZ(ro:QP)(w w':World):Nat->Option Obj:=λb=>if b<w.heap.size then ro b else w'.heap[b]?
def X4{tabs:QQ}{ro:QP}{w w':World}(d:yZ tabs ro w)(h:Below w.heap.size w w'):F9 ro (XZ ro w w') w w':=by
 letI:aJ:=Tg [] [] 0
 refine⟨Kept.of_below h,λb o c=>?_,λb c=>?_,λb o c=>?_⟩
 ·show(if _ then _ else _)=_
  rw[au (xF (d.at' b o c))];exact c
 ·have a:(if b<w.heap.size then ro b else w'.heap[b]?)≠none:=c;split at a
  ·exact .inl a
  ·next e=>exact .inr ah
 ·have a:(if b<w.heap.size then ro b else w'.heap[b]?)=some o:=c;split at a
  ·next e=>rw[h.block b e];exact d.at' b o a
  ·exact a
def aT.ones'{ro:QP}:∀{l:Q3}{vs:Qt},aT ro l vs->l.all GV.scalar=true->∀v∈vs,v.oneCell'=true
 |[],vs,h,_,v,b=>by simp only[aT]at h;subst h;simp at b
 |a::l,vs,h,c,v,b=>by
  simp only[aT]at h;obtain⟨x,xs,rfl,h1,d⟩:=h;simp only[qZ,aO]at c;rcases bJ.1 b with rfl|b
  ·letI:aJ:=Tg [] [] 0
   rw[Sr];exact GR.qw h1 c.1
  ·exact aT.ones' d c.2 v b
def ag1{ro:QP}{x:GV}{y:Value}{size:Nat}(b:x.gu size=true)(h:GR ro x y):y.cells.size=size/\∀v∈y.cells.toList,v.oneCell'=true:=by
 letI:aJ:=Tg [] [] 0
 unfold GV.gu at b;rw[aO]at b;have c:=bQ b.1;refine⟨by rw[<-c];exact(GR.ZY (F:=⟨λ_=>none,ro,λ_=>false⟩) h).symm,?_⟩;cases x with
 |g e=>simp only[GR]at h;obtain⟨f,rfl,h⟩:=h;exact aT.ones' h b.2
 |l d=>have i:=GR.qw h (g:=.l d) rfl;intro v a;simp only[GR]at h;rcases h with⟨_,p,rfl⟩|⟨_,_,_,_,_,rfl,_⟩<;>(simp[Value.cells]at a;subst a;rfl)
 |_=>simp only[GR]at h;subst h;intro v a;simp[Value.cells]at a;subst a;rfl
def agb{tabs:QQ}{f size bytes:Nat}{e:TypeId}(h0:0<size)
 (O:∀(a:Addr)(n c:Nat)(i:Qt)(w:World),i.length=n*size->(∀j u,i[j]? =some u->w.cell? (a.add j)=some u)->(∀u∈i,u.oneCell'=true)->n*bytes<=140737488355328->n<=maxLen->
  Calls P f #[.slice (some a) n c] w λQ w'=>∃H,Q=.returned H/\w'.ownsRow w.heap.size e size H n i/\Below w.heap.size w w')
 (nil:∀w,Calls P f #[.slice none 0 0] w λQ w'=>Q=.returned (.slice none 0 0)/\w'=w)
 (m:∀args w,(callFunc f args).run P w=.ok (.enter f args) w) (ad:0<bytes) {gs R:Q3} (h:xw bytes size gs=some R):pO P tabs f [] [.sc] gs R:=by
 unfold xw at h;split at h;rotate_left
 ·cases h
 next q=>
 split at h;rotate_left
 ·cases h
 next hc=>
 cases h;obtain⟨S,E⟩:=hc;letI:aJ:=Tg [] [] 0
 refine⟨λT w vs B U=>?_,rfl⟩;simp only[aT]at U;obtain⟨v,l,rfl,hv,rfl⟩:=U;have W:=hv;simp only[GR]at hv
 have fin:∀(a:Addr)(c:Nat)(z:Qt),aT T q z->(∀j u,(dR z)[j]? =some u->w.cell? (a.add j)=some u)->q.length<=maxLen->v=.slice (some a) q.length c->
  lY P f ⟨yJ [] [v]⟩ w λH w'=>∃X,F9 T X w w'/\∃us,H=DY us/\aT X [.l q] us:=by
  rintro a c z d I D rfl
  letI:aJ:=Tg [] [] 0
  have J:∀y∈z,y.cells.size=size:=by
   intro y hy;obtain⟨k,A⟩:=LX hy;have r:k<q.length:=by rw[d.length];exact(fV.1 A).1
   obtain⟨y',s,L⟩:=d.at (bV r);rw[A]at s;cases s;exact(ag1 (List.all_eq_true.1 E _ (gY r)) L).1
  have Y:∀u∈dR z,u.oneCell'=true:=by
   intro u hu;obtain⟨y,hy,hu⟩:=Zd.1 hu;obtain⟨k,A⟩:=LX hy;have r:k<q.length:=by rw[d.length];exact(fV.1 A).1
   obtain⟨y',s,L⟩:=d.at (bV r);rw[A]at s;cases s;exact(ag1 (List.all_eq_true.1 E _ (gY r)) L).2 u hu
  have Z:(dR z).length=q.length*size:=by rw[Gy J,d.length]
  refine .inr ⟨m _ w,Calls.mono' (O a q.length c (dR z) w Z I Y S D) ?_⟩;rintro Q w' ⟨H,rfl,t,F⟩
  refine⟨H,rfl,XZ T w w',X4 B F,[H],rfl,?_⟩;simp only[aT];refine⟨_,_,rfl,?_,rfl⟩;obtain⟨_,t⟩:=t;simp only[GR];rcases t with⟨rfl,hn⟩|⟨g,ae,af,rfl,hg,hb,G,_,ag,M⟩
  ·exact .inl ⟨List.eq_nil_of_length_eq_zero hn,_,rfl⟩
  ·right;refine⟨g,0,ae,z,size,rfl,G,aT.mono (λb o hb=>(X4 B F).le b o hb) _ _ d,J,λaa=>⟨af,e,(0,0),?_,?_,?_⟩⟩
   ·show(if g<w.heap.size then T g else w'.heap[g]?)=_
    rw[aj ah];exact hb
   ·rw[Z,ag,l9];exact uQ _ G
   ·intro k x A;rw[<-M,mW]at A;split at A
    ·simpa using A
    ·cases A
 have D:q.length<=maxLen:=by
  have:q.length<=q.length*bytes:=aeT _ ad
  unfold maxLen;omega
 rcases hv with⟨rfl,p,rfl⟩|⟨bl,N,c,z,sz,rfl,hc,d,J,ab⟩
 ·cases p with
  |none=>
   refine .inr ⟨m _ w,Calls.mono' (nil w) ?_⟩;rintro Q w' ⟨rfl,hw⟩
   rw[hw];exact⟨_,rfl,T,⟨Kept.refl w,λ_ _ h=>h,λ_ h=>.inl h,B.at'⟩,[_],rfl,by simp only[aT];exact⟨_,_,rfl,W,rfl⟩⟩
  |some a=>exact fin a 0 [] (by simp[aT]) (by intro j u hj;simp[dR]at hj) D rfl
 ·refine fin ⟨bl,N,none⟩ c z d (λj u hj=>?_) D rfl;have aa:q≠[]:=by
   rintro rfl
   simp only[aT]at d;subst d;simp[dR]at hj
  obtain⟨cs,ai,fr,h1,h2,h3⟩:=ab aa;have hb:=B.at' _ _ h1;have ac:(Addr.mk bl N none).add j=⟨bl,N+j,none⟩:=by unfold Addr.add;split<;>simp_all
  rw[ac];simp only[World.cell?,hb];rw[aj aA];exact h3 j u hj
def aFm{tabs:QQ}{f:FuncId}(b:∀(s:ByteArray)(w:World)(ro:QP),yZ tabs ro w->s.size<=9223372036854775807->Calls P f #[.string s] w λe w'=>e=.returned (.bool (Lib.validD s.data.toList))/\Below w.heap.size w w')
 (a:∀args w,(callFunc f args).run P w=.ok (.enter f args) w) {gs c:Q3} (h:Pe gs=some c):pO P tabs f [] [.sc] gs c:=by
 unfold Pe at h;split at h;rotate_left
 ·cases h
 next x=>
 split at h;rotate_left
 ·cases h
 next i=>
 cases h;letI:aJ:=Tg [] [] 0
 refine⟨λro w k d g=>?_,rfl⟩;simp only[aT,GR]at g;obtain⟨v,l,rfl,rfl,rfl⟩:=g;refine .inr ⟨a _ w,Calls.mono' (b ⟨⟨x⟩⟩ w ro d i) ?_⟩;rintro e w' ⟨rfl,j⟩
 exact⟨_,rfl,XZ ro w w',X4 d j,[_],rfl,by simp[aT,GR]⟩
def Vo:Q3->Option Q3
 |[.s a,.s b]=>some [.i .i64 (aad a b)]
 |_=>none
def P9:Q3->Option Q3
 |[.i .u64 x,.i .u64 y,.i .u64 c]=>if 0<=x/\0<=y/\0<=c/\c<=1 then some [.i .u64 ((x+y+c)%18446744073709551616),.i .u64 ((x+y+c)/18446744073709551616)]else none
 |_=>none
def alh{tabs:QQ}{ro:QP}{w:World}(a:yZ tabs ro w):F9 ro ro w w:=by
 letI:aJ:=Tg [] [] 0
 exact⟨Kept.refl w,λ_ _ h=>h,λ_ h=>.inl h,a.at'⟩
def ao6{tabs:QQ}{f:FuncId}(h:Ext P f Extern.BytealgCompare.compare){gs c:Q3}(e:Vo gs=some c):pO P tabs f [] [.sc] gs c:=by
 unfold Vo at e;split at e;rotate_left
 ·cases e
 next a b=>
 cases e;letI:aJ:=Tg [] [] 0
 refine⟨λi w j g d=>?_,rfl⟩;simp only[aT,GR]at d;obtain⟨_,_,rfl,rfl,_,_,rfl,rfl,rfl⟩:=d;exact h.zf ⟨_,w,rfl,i,alh g,[_],rfl,by simp only[aT,GR];exact⟨_,_,rfl,rfl,rfl⟩⟩
def anC{tabs:QQ}{f:FuncId}(h:Ext P f add64Entry){gs b:Q3}(a:P9 gs=some b):pO P tabs f [] [.sc,.sc] gs b:=by
 unfold P9 at a;split at a;rotate_left
 ·cases a
 next x y c=>
 split at a;rotate_left
 ·cases a
 next i=>
 cases a;obtain⟨j,k,l,m⟩:=i;letI:aJ:=Tg [] [] 0
 refine⟨λn w o g d=>?_,rfl⟩;simp only[aT,GR]at d;obtain⟨_,_,rfl,rfl,_,_,rfl,rfl,_,_,rfl,rfl,rfl⟩:=d;have e:=run_add64 (P:=P) x y c j k l m w;refine h.zf ⟨_,w,e,n,alh g,[_,_],rfl,?_⟩;simp only[aT,GR];exact⟨_,_,rfl,by congr 1,_,_,rfl,by congr 1,rfl⟩
end
noncomputable section
variable{P:Program}
def iR:We:=[[97,108,108,111,119,101,100],
 [98,97,115,101],
 [99,104,111,115,101,110],
 [99,111,100,101],
 [99,111,115,116],
 [100,101,97,100,108,105,110,101],
 [100,101,115,99,114],
 [100,105,103,101,115,116],
 [101,112,111,99,104],
 [102,108,97,103,115],
 [105,100],
 [108,97,103],
 [109,97,120],
 [109,105,110],
 [110,97,109,101],
 [110,111,116,101],
 [112,114,105,111,114,105,116,121],
 [114,101,103,105,111,110],
 [114,101,109,97,105,110,105,110,103],
 [114,101,116,114,121],
 [116,97,98,108,101],
 [119,97,110,116]]
def Xt:Q3->Option Q3
 |[]=>some [.l (iR.map .s)]
 |_=>none
def apm{l:aJ}{call:Caller}{f:FuncId}{J0 J':aC}{r:AV}{g:GV}(e:@tN l P call)(h0:@AY l J0 P.globals.size)(u:J0.lock=0)(i:call f [] J0=some (r,J'))(n:Nat)(x:uY P J' n r=some (lT g))(y:g.scalar=true):
 pO P l.tabs f [] [.sc] [] [g]:=by
 letI:=l
 refine⟨λt w M a j=>?_,by cases g<;>first|rfl|simp[GV.scalar]at y⟩;simp only[aT]at j;subst j;have z:SR P (xC P.globals.size J0 t) J0 w:=MC h0.1 (λid o A=>by obtain⟨c,rfl,B,q⟩:=h0.2 id o A;obtain⟨D,k,E,s,m,F⟩:=a.tab _ B;exact⟨q,c,rfl,⟨D,k,E,a.at' _ _ s,m,F⟩⟩) a.at' (λp G=>a.tab p G)
 refine lY.mono (Fn.ab2 e h0 u rfl i n x (xC P.globals.size J0 t) J0 w [] z rfl) ?_;rintro v N ⟨H,O,rfl,d,I⟩
 refine⟨H.ro,⟨d.kept h0.own,d.ext.ro,λb J=>?_,d.rel.jl⟩,[v],rfl,?_⟩
 ·rcases d.rW b J with h|h|⟨L,o0,Q,s,m,_⟩
  ·exact .inl h
  ·exact .inr h
  ·rw[h0.own L o0 s]at m;cases m
 ·have:=(mQ g v).2 I;simp only[aT];exact⟨v,[],rfl,this,rfl⟩
def al9:List Int:=[0,498536548,997073096,651767980,1994146192,1802195444,1303535960,1342533948,3988292384,4027552580,3604390888,3412177804,2607071920,2262029012,2685067896,3183342108]
def Yp:Q3->Option Q3
 |[]=>some [.g (al9.map λn=>.i .u32 n)]
 |_=>none
def apn{l:aJ}{call:Caller}{f:FuncId}{J0 J':aC}{r:AV}{g:GV}{t:WP}(e:@tN l P call)(h0:@AY l J0 P.globals.size)(x:J0.lock=0)(i:call f [] J0=some (r,J'))(n:Nat)(y:uY P J' n r=some (lT g))(z:pK t [g]=true):
 pO P l.tabs f [] t [] [g]:=by
 letI:=l
 refine⟨λu w N a j=>?_,z⟩;simp only[aT]at j;subst j;have A:SR P (xC P.globals.size J0 u) J0 w:=MC h0.1 (λid o B=>by obtain⟨c,rfl,D,q⟩:=h0.2 id o B;obtain⟨E,k,F,s,m,G⟩:=a.tab _ D;exact⟨q,c,rfl,⟨E,k,F,a.at' _ _ s,m,G⟩⟩) a.at' (λp H=>a.tab p H)
 refine lY.mono (Fn.ab2 e h0 x rfl i n y (xC P.globals.size J0 u) J0 w [] A rfl) ?_;rintro v O ⟨I,Q,rfl,d,J⟩
 refine⟨I.ro,⟨d.kept h0.own,d.ext.ro,λb L=>?_,d.rel.jl⟩,[v],rfl,?_⟩
 ·rcases d.rW b L with h|h|⟨M,o0,R,s,m,_⟩
  ·exact .inl h
  ·exact .inr h
  ·rw[h0.own M o0 s]at m;cases m
 ·have:=(mQ g v).2 J;simp only[aT];exact⟨v,[],rfl,this,rfl⟩
