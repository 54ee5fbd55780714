/- utf8.ValidString: the kit's contract, laid here. -/
import Derived.Test.YtkoclengoeonnaaGreatDoorProg
import Derived.Test.YtkoclengoeonnaaGreatDoorKRBase
import Derived.Test.YtkoclengoeonnaaGreatDoorAbsTold
import Derived.Shelf.Lay
import Derived.Ground.NamesProg
import Derived.Shelf.Unicode.ValidAny
namespace Go.Proofs
open Go.Shelf
shelf_lay Lays.n196 Nm 196 at Tryz as Tryz.laysValid
end Go.Proofs
namespace Go.Proofs.YtkoclengoeonnaaGreatDoor
open Go.Shelf Go.RowKit Go.Lib Go.aP
set_option maxRecDepth 100000
theorem aqP:((List.range 256).all λc=>match LH[c]? with|some (.i .u8 z)=>decide (z=(firstT c:Nat))|_=>false)=true:=by kernel_rfl
theorem ak1:((List.range 16).all λc=>(match HY[2*c]? with|some (.i .u8 z)=>decide (z=(accLo c:Nat))|_=>false)&&(match HY[2*c+1]? with|some (.i .u8 z)=>decide (z=(accHi c:Nat))|_=>false))=true:=by kernel_rfl
theorem Yi{ro:Qf}{w:World}(h:xW bY ro w){g:Nat}{l:Q3}(hm:(g,l)∈bY){c:Nat}{z:Int}(hc:l[c]? =some (.i .u8 z)):w.cell? ⟨g,c,none⟩=some (.int .u8 z):=by
 obtain⟨cs,elem,fr,h1,h2,h3⟩:=h.tab _ hm;obtain⟨x,hx,hv⟩:=h3.1 c _ hc;replace hv:=hv.resolve_right (λh=>by obtain⟨_,_,_,_,h,_⟩:=h;cases h)
 have hb:=h.at' _ _ h1;simp only[AV.toVal,aY]at hv;simp only[World.cell?,hb];rw[aj aA,hx,<-hv]
theorem aBM{ro:Qf}{w:World}(h:xW bY ro w):Lib.Utf8Tabs 0 1 w:=by
 refine⟨λc hc=>?_,λc hc=>?_⟩
 ·have:=List.all_eq_true.1 aqP c (zK.2 hc);split at this
  ·next z hz=>rw[Yi h (by simp[bY]) hz];simp only[decide_eq_true_iff]at this;rw[this]
  ·cases this
 ·have:=List.all_eq_true.1 ak1 c (zK.2 hc);rw[aO]at this;obtain⟨h1,h2⟩:=this;refine⟨?_,?_⟩
  ·split at h1
   ·next z hz=>rw[Yi h (by simp[bY]) hz];simp only[decide_eq_true_iff]at h1;rw[h1]
   ·cases h1
  ·split at h2
   ·next z hz=>rw[Yi h (by simp[bY]) hz];simp only[decide_eq_true_iff]at h2;rw[h2]
   ·cases h2
theorem aBW(s:ByteArray)(w:World)(ro:Qf)(h:xW bY ro w)(hs:s.size<=9223372036854775807):Calls Tryz.prog 101 #[.string s] w λe w'=>e=.returned (.bool (Lib.validD s.data.toList))/\Below w.heap.size w w':=
 Any.utf8_ValidString Tryz.laysValid s w hs (aBM h)
theorem aBV{gs out:Q1}(h:NM gs=some out):ou Tryz.prog bY 101 [] [.sc] gs out:=aBU aBW (enters_of Tryz.func101 (by kernel_rfl) rfl) h
