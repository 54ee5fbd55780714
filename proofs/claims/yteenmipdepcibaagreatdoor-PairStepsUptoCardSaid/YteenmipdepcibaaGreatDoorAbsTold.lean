/- Library functions that are told: slices.Clone, utf8.ValidString. -/
import Derived.Test.YteenmipdepcibaaGreatDoorAbsJ
import Derived.Laws.AppendOwn
import Derived.Lib.ValidU
set_option linter.unusedSimpArgs false
set_option linter.unusedSectionVars false
set_option linter.unusedVariables false
namespace Go.aN
open Go.RowKit
noncomputable section
variable{P:Program}
def qy(bytes size:Nat):Q1->Option Q1
 |[.l xs]=>if xs.length*bytes<=140737488355328/\xs.all (GV.fC size)=true then some [.l xs]else none
 |_=>none
def Na:Q1->Option Q1
 |[.s x]=>if x.length<=9223372036854775807 then some [.b (Lib.validD x)]else none
 |_=>none
theorem Kept.of_below{w w':World}(h:Below w.heap.size w w'):Kept w w':=⟨h.os,h.tape,h.output,h.size,λbl hb=>h.block bl hb⟩
def Vd(ro:Qf)(w w':World):Nat->Option Obj:=λb=>if b<w.heap.size then ro b else w'.heap[b]?
theorem Vf{tabs:Qt}{ro:Qf}{w w':World}(hro:xk tabs ro w)(h:Below w.heap.size w w'):Gl ro (Vd ro w w') w w':=by
 letI:aH:=Tg [] [] 0
 refine⟨Kept.of_below h,λb o hb=>?_,λb hb=>?_,λb o hb=>?_⟩
 ·show(if _ then _ else _)=_
  rw[aj (uP (hro.at' b o hb))];exact hb
 ·have hb':(if b<w.heap.size then ro b else w'.heap[b]?)≠none:=hb;split at hb'
  ·exact .inl hb'
  ·next hn=>exact .inr (by omega)
 ·have hb':(if b<w.heap.size then ro b else w'.heap[b]?)=some o:=hb;split at hb'
  ·next hn=>rw[h.block b hn];exact hro.at' b o hb'
  ·exact hb'
theorem aO.ones'{ro:Qf}:∀{l:Q1}{vs:Q6},aO ro l vs->l.all GV.scalar=true->∀v∈vs,v.oneCell'=true
 |[],vs,h,_,v,hv=>by simp only[aO]at h;subst h;simp at hv
 |a::l,vs,h,hs,v,hv=>by
  simp only[aO]at h;obtain⟨x,xs,rfl,h1,h2⟩:=h;simp only[qK,aK]at hs;rcases bG.1 hv with rfl|hv
  ·letI:aH:=Tg [] [] 0
   rw[Pn];exact GR.nZ h1 hs.1
  ·exact aO.ones' h2 hs.2 v hv
theorem aer{ro:Qf}{x:GV}{y:Value}{size:Nat}(hx:x.fC size=true)(h:GR ro x y):y.cells.size=size/\∀v∈y.cells.toList,v.oneCell'=true:=by
 letI:aH:=Tg [] [] 0
 unfold GV.fC at hx;rw[aK]at hx;have h1:=bD hx.1;refine⟨by rw[<-h1];exact(GR.XI (F:=⟨λ_=>none,ro,λ_=>false⟩) h).symm,?_⟩;cases x with
 |g cs=>simp only[GR]at h;obtain⟨vs,rfl,h⟩:=h;exact aO.ones' h hx.2
 |l xs=>have ho:=GR.nZ h (g:=.l xs) rfl;intro v hv;simp only[GR]at h;rcases h with⟨_,p,rfl⟩|⟨_,_,_,_,_,rfl,_⟩<;>(simp[Value.cells]at hv;subst hv;rfl)
 |_=>simp only[GR]at h;subst h;intro v hv;simp[Value.cells]at hv;subst hv;rfl
theorem adJ{tabs:Qt}{f size bytes:Nat}{e:TypeId}(h0:0<size)
 (walk:∀(a:Addr)(n c:Nat)(news:Q6)(w:World),news.length=n*size->(∀j u,news[j]? =some u->w.cell? (a.add j)=some u)->(∀u∈news,u.oneCell'=true)->n*bytes<=140737488355328->n<=maxLen->
  Calls P f #[.slice (some a) n c] w λer w'=>∃v',er=.returned v'/\w'.ownsRow w.heap.size e size v' n news/\Below w.heap.size w w')
 (nil:∀w,Calls P f #[.slice none 0 0] w λer w'=>er=.returned (.slice none 0 0)/\w'=w)
 (enters:∀args w,(callFunc f args).run P w=.ok (.enter f args) w) (hby:0<bytes) {gs out:Q1} (h:qy bytes size gs=some out):nP P tabs f [] [.sc] gs out:=by
 unfold qy at h;split at h;rotate_left
 ·cases h
 next xs=>
 split at h;rotate_left
 ·cases h
 next hc=>
 cases h;obtain⟨hlen,hall⟩:=hc;letI:aH:=Tg [] [] 0
 refine⟨λro w vs hro hvs=>?_,rfl⟩;simp only[aO]at hvs;obtain⟨v,l,rfl,hv,rfl⟩:=hvs;have hval:=hv;simp only[GR]at hv
 have fin:∀(a:Addr)(c:Nat)(ys:Q6),aO ro xs ys->(∀j u,(bY ys)[j]? =some u->w.cell? (a.add j)=some u)->xs.length<=maxLen->v=.slice (some a) xs.length c->
  kQ P f ⟨wG [] [v]⟩ w λv' w'=>∃ro',Gl ro ro' w w'/\∃us,v'=Bv us/\aO ro' [.l xs] us:=by
  rintro a c ys hys hcell hmx rfl
  letI:aH:=Tg [] [] 0
  have hsz:∀y∈ys,y.cells.size=size:=by
   intro y hy;obtain⟨k,hk⟩:=JH hy;have hkl:k<xs.length:=by rw[hys.length];exact(eU.1 hk).1
   obtain⟨y',hy1,hy2⟩:=hys.at (bK hkl);rw[hk]at hy1;cases hy1;exact(aer (List.all_eq_true.1 hall _ (gK hkl)) hy2).1
  have hone:∀u∈bY ys,u.oneCell'=true:=by
   intro u hu;obtain⟨y,hy,hu⟩:=WQ.1 hu;obtain⟨k,hk⟩:=JH hy;have hkl:k<xs.length:=by rw[hys.length];exact(eU.1 hk).1
   obtain⟨y',hy1,hy2⟩:=hys.at (bK hkl);rw[hk]at hy1;cases hy1;exact(aer (List.all_eq_true.1 hall _ (gK hkl)) hy2).2 u hu
  have hnl:(bY ys).length=xs.length*size:=by rw[ED hsz,hys.length]
  refine .inr ⟨enters _ w,Calls.mono' (walk a xs.length c (bY ys) w hnl hcell hone hlen hmx) ?_⟩;rintro er w' ⟨v',rfl,hown,hbel⟩
  refine⟨v',rfl,Vd ro w w',Vf hro hbel,[v'],rfl,?_⟩;simp only[aO];refine⟨_,_,rfl,?_,rfl⟩;obtain⟨_,hown⟩:=hown;simp only[GR];rcases hown with⟨rfl,hn⟩|⟨g,cap,cur,rfl,hg,hb,hcap,_,hcs,htake⟩
  ·exact .inl ⟨List.eq_nil_of_length_eq_zero hn,_,rfl⟩
  ·right;refine⟨g,0,cap,ys,size,rfl,hcap,aO.mono (λb o hb=>(Vf hro hbel).le b o hb) _ _ hys,hsz,λhne=>⟨cur,e,(0,0),?_,?_,?_⟩⟩
   ·show(if g<w.heap.size then ro g else w'.heap[g]?)=_
    rw[ah (by omega)];exact hb
   ·rw[hnl,hcs,kH];exact rF _ hcap
   ·intro k x hk;rw[<-htake,kS]at hk;split at hk
    ·simpa using hk
    ·cases hk
 have hmx:xs.length<=maxLen:=by
  have:xs.length<=xs.length*bytes:=acw _ hby
  unfold maxLen;omega
 rcases hv with⟨rfl,p,rfl⟩|⟨bl,off,c,ys,sz,rfl,hc,hys,hsz,hmem⟩
 ·cases p with
  |none=>
   refine .inr ⟨enters _ w,Calls.mono' (nil w) ?_⟩;rintro er w' ⟨rfl,hw⟩
   rw[hw];exact⟨_,rfl,ro,⟨Kept.refl w,λ_ _ h=>h,λ_ h=>.inl h,hro.at'⟩,[_],rfl,by simp only[aO];exact⟨_,_,rfl,hval,rfl⟩⟩
  |some a=>exact fin a 0 [] (by simp[aO]) (by intro j u hj;simp[bY]at hj) hmx rfl
 ·refine fin ⟨bl,off,none⟩ c ys hys (λj u hj=>?_) hmx rfl;have hne:xs≠[]:=by
   rintro rfl
   simp only[aO]at hys;subst hys;simp[bY]at hj
  obtain⟨cs,elem,fr,h1,h2,h3⟩:=hmem hne;have hb:=hro.at' _ _ h1;have hadd:(Addr.mk bl off none).add j=⟨bl,off+j,none⟩:=by unfold Addr.add;split<;>simp_all
  rw[hadd];simp only[World.cell?,hb];rw[ah (by simp)];exact h3 j u hj
theorem aAS{tabs:Qt}{f:FuncId}(walk:∀(s:ByteArray)(w:World)(ro:Qf),xk tabs ro w->s.size<=9223372036854775807->Calls P f #[.string s] w λe w'=>e=.returned (.bool (Lib.validD s.data.toList))/\Below w.heap.size w w')
 (enters:∀args w,(callFunc f args).run P w=.ok (.enter f args) w) {gs out:Q1} (h:Na gs=some out):nP P tabs f [] [.sc] gs out:=by
 unfold Na at h;split at h;rotate_left
 ·cases h
 next x=>
 split at h;rotate_left
 ·cases h
 next hx=>
 cases h;letI:aH:=Tg [] [] 0
 refine⟨λro w vs hro hvs=>?_,rfl⟩;simp only[aO,GR]at hvs;obtain⟨v,l,rfl,rfl,rfl⟩:=hvs;refine .inr ⟨enters _ w,Calls.mono' (walk ⟨⟨x⟩⟩ w ro hro hx) ?_⟩;rintro e w' ⟨rfl,hb⟩
 exact⟨_,rfl,Vd ro w w',Vf hro hb,[_],rfl,by simp[aO,GR]⟩
def Si:Q1->Option Q1
 |[.s a,.s b]=>some [.i .i64 (XR a b)]
 |_=>none
def NJ:Q1->Option Q1
 |[.i .u64 x,.i .u64 y,.i .u64 c]=>if 0<=x/\0<=y/\0<=c/\c<=1 then some [.i .u64 ((x+y+c)%18446744073709551616),.i .u64 ((x+y+c)/18446744073709551616)]else none
 |_=>none
theorem aie{tabs:Qt}{ro:Qf}{w:World}(hro:xk tabs ro w):Gl ro ro w w:=by
 letI:aH:=Tg [] [] 0
 exact⟨Kept.refl w,λ_ _ h=>h,λ_ h=>.inl h,hro.at'⟩
theorem alI{tabs:Qt}{f:FuncId}(h:Ext P f Extern.BytealgCompare.compare){gs out:Q1}(hg:Si gs=some out):nP P tabs f [] [.sc] gs out:=by
 unfold Si at hg;split at hg;rotate_left
 ·cases hg
 next a b=>
 cases hg;letI:aH:=Tg [] [] 0
 refine⟨λro w vs hro hvs=>?_,rfl⟩;simp only[aO,GR]at hvs;obtain⟨_,_,rfl,rfl,_,_,rfl,rfl,rfl⟩:=hvs;exact h.Ci ⟨_,w,rfl,ro,aie hro,[_],rfl,by simp only[aO,GR];exact⟨_,_,rfl,rfl,rfl⟩⟩
theorem akh{tabs:Qt}{f:FuncId}(h:Ext P f add64Entry){gs out:Q1}(hg:NJ gs=some out):nP P tabs f [] [.sc,.sc] gs out:=by
 unfold NJ at hg;split at hg;rotate_left
 ·cases hg
 next x y c=>
 split at hg;rotate_left
 ·cases hg
 next hc=>
 cases hg;obtain⟨h1,h2,h3,h4⟩:=hc;letI:aH:=Tg [] [] 0
 refine⟨λro w vs hro hvs=>?_,rfl⟩;simp only[aO,GR]at hvs;obtain⟨_,_,rfl,rfl,_,_,rfl,rfl,_,_,rfl,rfl,rfl⟩:=hvs;have hrun:=run_add64 (P:=P) x y c h1 h2 h3 h4 w;refine h.Ci ⟨_,w,hrun,ro,aie hro,[_,_],rfl,?_⟩;simp only[aO,GR];exact⟨_,_,rfl,by congr 1,_,_,rfl,by congr 1,rfl⟩
end
noncomputable section
variable{P:Program}
def iG:Wg:=[[97,108,108,111,119,101,100],
 [98,97,115,101],
 [99,104,111,115,101,110],
 [99,111,100,101],
 [99,111,115,116],
 [100,101,97,100,108,105,110,101],
 [100,101,115,99,114],
 [100,105,103,101,115,116],
 [101,112,111,99,104],
 [102,108,97,103,115],
 [105,100],
 [108,97,103],
 [109,97,120],
 [109,105,110],
 [110,97,109,101],
 [110,111,116,101],
 [112,114,105,111,114,105,116,121],
 [114,101,103,105,111,110],
 [114,101,109,97,105,110,105,110,103],
 [114,101,116,114,121],
 [116,97,98,108,101],
 [119,97,110,116]]
def UK:Q1->Option Q1
 |[]=>some [.l (iG.map .s)]
 |_=>none
theorem alU{T0:aH}{call:Caller}{f:FuncId}{J0 J':aA}{r:AV}{g:GV}(hcall:@qH T0 P call)(h0:@yR T0 J0 P.globals.size)(hl:J0.lock=0)(hrun:call f [] J0=some (r,J'))(n:Nat)(hf:rJ P J' n r=some (kC g))(hg:g.scalar=true):
 nP P T0.tabs f [] [.sc] [] [g]:=by
 letI:=T0
 refine⟨λro w vs hro hvs=>?_,by cases g<;>first|rfl|simp[GV.scalar]at hg⟩;simp only[aO]at hvs;subst hvs;have hS:SR P (uO P.globals.size J0 ro) J0 w:=JW h0.1 (λid o ho=>by obtain⟨c,rfl,hm,hle⟩:=h0.2 id o ho;obtain⟨cs,elem,fr,h1,h2,h3⟩:=hro.tab _ hm;exact⟨hle,c,rfl,⟨cs,elem,fr,hro.at' _ _ h1,h2,h3⟩⟩) hro.at' (λp hp=>hro.tab p hp)
 refine kQ.mono (Fn.ZL hcall h0 hl rfl hrun n hf (uO P.globals.size J0 ro) J0 w [] hS rfl) ?_;rintro v w' ⟨F',r',rfl,hst,hv⟩
 refine⟨F'.ro,⟨hst.kept h0.own,hst.ext.ro,λb hb=>?_,hst.rel.iT⟩,[v],rfl,?_⟩
 ·rcases hst.qg b hb with h|h|⟨dJ,o0,q0,h1,h2,_⟩
  ·exact .inl h
  ·exact .inr h
  ·rw[h0.own dJ o0 h1]at h2;cases h2
 ·have:=(kR g v).2 hv;simp only[aO];exact⟨v,[],rfl,this,rfl⟩
def ai1:List Int:=[0,498536548,997073096,651767980,1994146192,1802195444,1303535960,1342533948,3988292384,4027552580,3604390888,3412177804,2607071920,2262029012,2685067896,3183342108]
def VF:Q1->Option Q1
 |[]=>some [.g (ai1.map λn=>.i .u32 n)]
 |_=>none
theorem alV{T0:aH}{call:Caller}{f:FuncId}{J0 J':aA}{r:AV}{g:GV}{sh:WK}(hcall:@qH T0 P call)(h0:@yR T0 J0 P.globals.size)(hl:J0.lock=0)(hrun:call f [] J0=some (r,J'))(n:Nat)(hf:rJ P J' n r=some (kC g))(hg:oW sh [g]=true):
 nP P T0.tabs f [] sh [] [g]:=by
 letI:=T0
 refine⟨λro w vs hro hvs=>?_,hg⟩;simp only[aO]at hvs;subst hvs;have hS:SR P (uO P.globals.size J0 ro) J0 w:=JW h0.1 (λid o ho=>by obtain⟨c,rfl,hm,hle⟩:=h0.2 id o ho;obtain⟨cs,elem,fr,h1,h2,h3⟩:=hro.tab _ hm;exact⟨hle,c,rfl,⟨cs,elem,fr,hro.at' _ _ h1,h2,h3⟩⟩) hro.at' (λp hp=>hro.tab p hp)
 refine kQ.mono (Fn.ZL hcall h0 hl rfl hrun n hf (uO P.globals.size J0 ro) J0 w [] hS rfl) ?_;rintro v w' ⟨F',r',rfl,hst,hv⟩
 refine⟨F'.ro,⟨hst.kept h0.own,hst.ext.ro,λb hb=>?_,hst.rel.iT⟩,[v],rfl,?_⟩
 ·rcases hst.qg b hb with h|h|⟨dJ,o0,q0,h1,h2,_⟩
  ·exact .inl h
  ·exact .inr h
  ·rw[h0.own dJ o0 h1]at h2;cases h2
 ·have:=(kR g v).2 hv;simp only[aO];exact⟨v,[],rfl,this,rfl⟩
