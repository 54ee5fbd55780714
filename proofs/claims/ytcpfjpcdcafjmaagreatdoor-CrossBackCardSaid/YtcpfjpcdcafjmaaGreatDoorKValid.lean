/- utf8.ValidString: the kit's contract, laid here. -/
import Derived.Test.YtcpfjpcdcafjmaaGreatDoorProg
import Derived.Test.YtcpfjpcdcafjmaaGreatDoorKRBase
import Derived.Test.YtcpfjpcdcafjmaaGreatDoorAbsTold
import Derived.Shelf.Lay
import Derived.Ground.NamesProg
import Derived.Shelf.Unicode.ValidAny
namespace Go.Proofs
open Go.Shelf
shelf_lay Lays.n196 Nm 196 at Tryz as Tryz.laysValid
end Go.Proofs
namespace Go.Proofs.YtcpfjpcdcafjmaaGreatDoor
open Go.Shelf Go.RowKit Go.Lib Go.aO
set_option maxRecDepth 100000
theorem aiM:((List.range 256).all λc=>match Ib[c]? with | some (.i .u8 z)=>decide (z=(firstT c:Nat)) | _=>false)=true:=by kernel_rfl
theorem afO:((List.range 16).all λc=>(match Ez[2 * c]? with | some (.i .u8 z)=>decide (z=(accLo c:Nat)) | _=>false)&&(match Ez[2 * c+1]? with | some (.i .u8 z)=>decide (z=(accHi c:Nat)) | _=>false))=true:=by kernel_rfl
theorem TK {ro:Nat->Option Obj} {w:World} (h:wZ fF ro w) {g:Nat} {l:List AV} (hm:(g,l)∈fF) {c:Nat} {z:Int} (hc:l[c]? = some (.i .u8 z)):w.cell? ⟨g,c,none⟩=some (.int .u8 z):=by
 obtain ⟨cs,elem,fr,h1,h2,h3⟩:=h.tab _ hm;obtain ⟨x,hx,hv⟩:=h3 c _ hc;have hb:=h.at' _ _ h1;simp only [AV.toVal,aU] at hv;simp only [World.cell?,hb];rw [ah (by simp),hx,<- hv]
theorem asb {ro:Nat->Option Obj} {w:World} (h:wZ fF ro w):Lib.Utf8Tabs 0 1 w:=by
 refine ⟨λc hc=>?_,λc hc=>?_⟩
 ·have:=List.all_eq_true.1 aiM c (xP.2 hc)
  split at this
  ·next z hz=>rw [TK h (by simp [fF]) hz];simp only [decide_eq_true_iff] at this;rw [this]
  ·cases this
 ·have:=List.all_eq_true.1 afO c (xP.2 hc)
  rw [aJ] at this;obtain ⟨h1,h2⟩:=this;refine ⟨?_, ?_⟩
  ·split at h1
   ·next z hz=>rw [TK h (by simp [fF]) hz];simp only [decide_eq_true_iff] at h1;rw [h1]
   ·cases h1
  ·split at h2
   ·next z hz=>rw [TK h (by simp [fF]) hz];simp only [decide_eq_true_iff] at h2;rw [h2]
   ·cases h2
theorem asI (s:ByteArray) (w:World) (ro:Nat->Option Obj) (h:wZ fF ro w) (hs:s.size<=9223372036854775807):Calls Tryz.prog 173 #[.string s] w λe w'=>e=.returned (.bool (Lib.validD s.data.toList))/\Below w.heap.size w w':=
 Any.utf8_ValidString Tryz.laysValid s w hs (asb h)
theorem asH {gs out:List GV} (h:Jq gs=some out):sO Tryz.prog fF 173 [] [.sc] gs out:=asG asI (enters_of Tryz.func173 (by kernel_rfl) rfl) h
end Go.Proofs.YtcpfjpcdcafjmaaGreatDoor
