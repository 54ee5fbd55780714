/- utf8.ValidString: the kit's contract, laid here. -/
import Derived.Test.YtboioicpmmipfaaGreatDoorProg
import Derived.Test.YtboioicpmmipfaaGreatDoorKRBase
import Derived.Test.YtboioicpmmipfaaGreatDoorAbsTold
import Derived.Shelf.Lay
import Derived.Ground.NamesProg
import Derived.Shelf.Unicode.ValidAny
namespace Go.Proofs
open Go.Shelf
shelf_lay Lays.n196 Nm 196 at Tryz as Tryz.laysValid
end Go.Proofs
namespace Go.Proofs.YtboioicpmmipfaaGreatDoor
open Go.Shelf Go.RowKit Go.Lib Go.aP
set_option maxRecDepth 100000
theorem auS:((List.range 256).all λc=>match NV[c]? with|some (.i .u8 z)=>decide (z=(firstT c:Nat))|_=>false)=true:=by kernel_rfl
theorem anZ:((List.range 16).all λc=>(match Ju[2*c]? with|some (.i .u8 z)=>decide (z=(accLo c:Nat))|_=>false)&&(match Ju[2*c+1]? with|some (.i .u8 z)=>decide (z=(accHi c:Nat))|_=>false))=true:=by kernel_rfl
theorem Z8{ro:Qf}{w:World}(h:zL dG ro w){g:Nat}{l:Q3}(hm:(g,l)∈dG){c:Nat}{z:Int}(hc:l[c]? =some (.i .u8 z)):w.cell? ⟨g,c,none⟩=some (.int .u8 z):=by
 obtain⟨cs,elem,fr,h1,h2,h3⟩:=h.tab _ hm;obtain⟨x,hx,hv⟩:=h3.1 c _ hc;replace hv:=hv.resolve_right (λh=>by obtain⟨_,_,_,_,h,_⟩:=h;cases h)
 have hb:=h.at' _ _ h1;simp only[AV.toVal,bD]at hv;simp only[World.cell?,hb];rw[aj aA,hx,<-hv]
theorem aGp{ro:Qf}{w:World}(h:zL dG ro w):Lib.Utf8Tabs 0 1 w:=by
 refine⟨λc hc=>?_,λc hc=>?_⟩
 ·have:=List.all_eq_true.1 auS c (Bq.2 hc);split at this
  ·next z hz=>rw[Z8 h (by simp[dG]) hz];simp only[decide_eq_true_iff]at this;rw[this]
  ·cases this
 ·have:=List.all_eq_true.1 anZ c (Bq.2 hc);rw[aO]at this;obtain⟨h1,h2⟩:=this;refine⟨?_,?_⟩
  ·split at h1
   ·next z hz=>rw[Z8 h (by simp[dG]) hz];simp only[decide_eq_true_iff]at h1;rw[h1]
   ·cases h1
  ·split at h2
   ·next z hz=>rw[Z8 h (by simp[dG]) hz];simp only[decide_eq_true_iff]at h2;rw[h2]
   ·cases h2
theorem aGz(s:ByteArray)(w:World)(ro:Qf)(h:zL dG ro w)(hs:s.size<=9223372036854775807):Calls Tryz.prog 100 #[.string s] w λe w'=>e=.returned (.bool (Lib.validD s.data.toList))/\Below w.heap.size w w':=
 Any.utf8_ValidString Tryz.laysValid s w hs (aGp h)
theorem aGy{gs out:Q1}(h:PD gs=some out):qG Tryz.prog dG 100 [] [.sc] gs out:=aGx aGz (enters_of Tryz.func100 (by kernel_rfl) rfl) h
