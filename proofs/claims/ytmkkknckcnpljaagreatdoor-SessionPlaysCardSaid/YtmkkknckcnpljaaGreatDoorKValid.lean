/- utf8.ValidString: the kit's contract, laid here. -/
import Derived.Test.YtmkkknckcnpljaaGreatDoorProg
import Derived.Test.YtmkkknckcnpljaaGreatDoorKRBase
import Derived.Test.YtmkkknckcnpljaaGreatDoorAbsTold
import Derived.Shelf.Lay
import Derived.Ground.NamesProg
import Derived.Shelf.Unicode.ValidAny
namespace Go.Proofs
open Go.Shelf
shelf_lay Lays.n196 Nm 196 at Tryz as Tryz.laysValid
end Go.Proofs
namespace Go.Proofs.YtmkkknckcnpljaaGreatDoor
open Go.Shelf Go.RowKit Go.Lib Go.aO
set_option maxRecDepth 100000
theorem arH:((List.range 256).all λc=>match Ld[c]? with|some (.i .u8 z)=>decide (z=(firstT c:Nat))|_=>false)=true:=by kernel_rfl
theorem akI:((List.range 16).all λc=>(match Hy[2*c]? with|some (.i .u8 z)=>decide (z=(accLo c:Nat))|_=>false)&&(match Hy[2*c+1]? with|some (.i .u8 z)=>decide (z=(accHi c:Nat))|_=>false))=true:=by kernel_rfl
theorem X4{ro:Qf}{w:World}(h:xK bG ro w){g:Nat}{l:Q3}(hm:(g,l)∈bG){c:Nat}{z:Int}(hc:l[c]? =some (.i .u8 z)):w.cell? ⟨g,c,none⟩=some (.int .u8 z):=by
 obtain⟨cs,elem,fr,h1,h2,h3⟩:=h.tab _ hm;obtain⟨x,hx,hv⟩:=h3.1 c _ hc;replace hv:=hv.resolve_right (λh=>by obtain⟨_,_,_,_,h,_⟩:=h;cases h)
 have hb:=h.at' _ _ h1;simp only[AV.toVal,aZ]at hv;simp only[World.cell?,hb];rw[ah (by simp),hx,<-hv]
theorem aCB{ro:Qf}{w:World}(h:xK bG ro w):Lib.Utf8Tabs 0 1 w:=by
 refine⟨λc hc=>?_,λc hc=>?_⟩
 ·have:=List.all_eq_true.1 arH c (zl.2 hc);split at this
  ·next z hz=>rw[X4 h (by simp[bG]) hz];simp only[decide_eq_true_iff]at this;rw[this]
  ·cases this
 ·have:=List.all_eq_true.1 akI c (zl.2 hc);rw[aK]at this;obtain⟨h1,h2⟩:=this;refine⟨?_,?_⟩
  ·split at h1
   ·next z hz=>rw[X4 h (by simp[bG]) hz];simp only[decide_eq_true_iff]at h1;rw[h1]
   ·cases h1
  ·split at h2
   ·next z hz=>rw[X4 h (by simp[bG]) hz];simp only[decide_eq_true_iff]at h2;rw[h2]
   ·cases h2
theorem aCK(s:ByteArray)(w:World)(ro:Qf)(h:xK bG ro w)(hs:s.size<=9223372036854775807):Calls Tryz.prog 103 #[.string s] w λe w'=>e=.returned (.bool (Lib.validD s.data.toList))/\Below w.heap.size w w':=
 Any.utf8_ValidString Tryz.laysValid s w hs (aCB h)
theorem aCJ{gs out:Q1}(h:Nh gs=some out):ql Tryz.prog bG 103 [] [.sc] gs out:=aCI aCK (enters_of Tryz.func103 (by kernel_rfl) rfl) h
