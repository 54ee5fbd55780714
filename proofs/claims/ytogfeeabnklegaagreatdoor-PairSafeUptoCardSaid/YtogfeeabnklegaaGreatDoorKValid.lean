/- utf8.ValidString: the kit's contract, laid here. -/
import Derived.Test.YtogfeeabnklegaaGreatDoorProg
import Derived.Test.YtogfeeabnklegaaGreatDoorKRBase
import Derived.Test.YtogfeeabnklegaaGreatDoorAbsTold
import Derived.Shelf.Lay
import Derived.Ground.NamesProg
import Derived.Shelf.Unicode.ValidAny
namespace Go.Proofs
open Go.Shelf
shelf_lay Lays.n196 Nm 196 at Tryz as Tryz.laysValid
end Go.Proofs
namespace Go.Proofs.YtogfeeabnklegaaGreatDoor
open Go.Shelf Go.RowKit Go.Lib Go.aP
set_option maxRecDepth 100000
theorem auj:((List.range 256).all λc=>match N9[c]? with|some (.i .u8 z)=>decide (z=(firstT c:Nat))|_=>false)=true:=by kernel_rfl
theorem anG:((List.range 16).all λc=>(match Js[2*c]? with|some (.i .u8 z)=>decide (z=(accLo c:Nat))|_=>false)&&(match Js[2*c+1]? with|some (.i .u8 z)=>decide (z=(accHi c:Nat))|_=>false))=true:=by kernel_rfl
theorem Z9{ro:Qf}{w:World}(h:zK dH ro w){g:Nat}{l:Q3}(hm:(g,l)∈dH){c:Nat}{z:Int}(hc:l[c]? =some (.i .u8 z)):w.cell? ⟨g,c,none⟩=some (.int .u8 z):=by
 obtain⟨cs,elem,fr,h1,h2,h3⟩:=h.tab _ hm;obtain⟨x,hx,hv⟩:=h3.1 c _ hc;replace hv:=hv.resolve_right (λh=>by obtain⟨_,_,_,_,h,_⟩:=h;cases h)
 have hb:=h.at' _ _ h1;simp only[AV.toVal,bF]at hv;simp only[World.cell?,hb];rw[aj aA,hx,<-hv]
theorem aFq{ro:Qf}{w:World}(h:zK dH ro w):Lib.Utf8Tabs 0 1 w:=by
 refine⟨λc hc=>?_,λc hc=>?_⟩
 ·have:=List.all_eq_true.1 auj c (Bv.2 hc);split at this
  ·next z hz=>rw[Z9 h (by simp[dH]) hz];simp only[decide_eq_true_iff]at this;rw[this]
  ·cases this
 ·have:=List.all_eq_true.1 anG c (Bv.2 hc);rw[aO]at this;obtain⟨h1,h2⟩:=this;refine⟨?_,?_⟩
  ·split at h1
   ·next z hz=>rw[Z9 h (by simp[dH]) hz];simp only[decide_eq_true_iff]at h1;rw[h1]
   ·cases h1
  ·split at h2
   ·next z hz=>rw[Z9 h (by simp[dH]) hz];simp only[decide_eq_true_iff]at h2;rw[h2]
   ·cases h2
theorem aFA(s:ByteArray)(w:World)(ro:Qf)(h:zK dH ro w)(hs:s.size<=9223372036854775807):Calls Tryz.prog 111 #[.string s] w λe w'=>e=.returned (.bool (Lib.validD s.data.toList))/\Below w.heap.size w w':=
 Any.utf8_ValidString Tryz.laysValid s w hs (aFq h)
theorem aFz{gs out:Q1}(h:PW gs=some out):qG Tryz.prog dH 111 [] [.sc] gs out:=aFy aFA (enters_of Tryz.func111 (by kernel_rfl) rfl) h
