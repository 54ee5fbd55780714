/- utf8.ValidString: the kit's contract, laid here. -/
import Derived.Test.YtcnekfnipdihgaaGreatDoorProg
import Derived.Test.YtcnekfnipdihgaaGreatDoorKRBase
import Derived.Test.YtcnekfnipdihgaaGreatDoorAbsTold
import Derived.Shelf.Lay
import Derived.Ground.NamesProg
import Derived.Shelf.Unicode.ValidAny
namespace Go.Proofs
open Go.Shelf
shelf_lay Lays.n196 Nm 196 at Tryz as Tryz.laysValid
end Go.Proofs
namespace Go.Proofs.YtcnekfnipdihgaaGreatDoor
open Go.Shelf Go.RowKit Go.Lib Go.aP
set_option maxRecDepth 100000
theorem atY:((List.range 256).all λc=>match NH[c]? with|some (.i .u8 z)=>decide (z=(firstT c:Nat))|_=>false)=true:=by kernel_rfl
theorem anr:((List.range 16).all λc=>(match I5[2*c]? with|some (.i .u8 z)=>decide (z=(accLo c:Nat))|_=>false)&&(match I5[2*c+1]? with|some (.i .u8 z)=>decide (z=(accHi c:Nat))|_=>false))=true:=by kernel_rfl
theorem ZX{ro:QP}{w:World}(h:yZ dD ro w){g:Nat}{l:Q6}(hm:(g,l)∈dD){c:Nat}{z:Int}(hc:l[c]? =some (.i .u8 z)):w.cell? ⟨g,c,none⟩=some (.int .u8 z):=by
 obtain⟨cs,elem,fr,h1,h2,h3⟩:=h.tab _ hm;obtain⟨x,hx,hv⟩:=h3.1 c _ hc;replace hv:=hv.resolve_right (λh=>by obtain⟨_,_,_,_,h,_⟩:=h;cases h)
 have hb:=h.at' _ _ h1;simp only[AV.toVal,bf]at hv;simp only[World.cell?,hb];rw[aj aA,hx,<-hv]
theorem aFe{ro:QP}{w:World}(h:yZ dD ro w):Lib.Utf8Tabs 0 1 w:=by
 refine⟨λc hc=>?_,λc hc=>?_⟩
 ·have:=List.all_eq_true.1 atY c (AO.2 hc);split at this
  ·next z hz=>rw[ZX h (by simp[dD]) hz];simp only[decide_eq_true_iff]at this;rw[this]
  ·cases this
 ·have:=List.all_eq_true.1 anr c (AO.2 hc);rw[aO]at this;obtain⟨h1,h2⟩:=this;refine⟨?_,?_⟩
  ·split at h1
   ·next z hz=>rw[ZX h (by simp[dD]) hz];simp only[decide_eq_true_iff]at h1;rw[h1]
   ·cases h1
  ·split at h2
   ·next z hz=>rw[ZX h (by simp[dD]) hz];simp only[decide_eq_true_iff]at h2;rw[h2]
   ·cases h2
theorem aFp(s:ByteArray)(w:World)(ro:QP)(h:yZ dD ro w)(hs:s.size<=9223372036854775807):Calls Tryz.prog 106 #[.string s] w λe w'=>e=.returned (.bool (Lib.validD s.data.toList))/\Below w.heap.size w w':=
 Any.utf8_ValidString Tryz.laysValid s w hs (aFe h)
theorem aFo{gs out:Q3}(h:Pe gs=some out):pO Tryz.prog dD 106 [] [.sc] gs out:=aFm aFp (enters_of Tryz.func106 (by kernel_rfl) rfl) h
