/- utf8.ValidString: the kit's contract, laid here. -/
import Derived.Test.YtpioimdhbbgniaaGreatDoorProg
import Derived.Test.YtpioimdhbbgniaaGreatDoorKRBase
import Derived.Test.YtpioimdhbbgniaaGreatDoorAbsTold
import Derived.Shelf.Lay
import Derived.Ground.NamesProg
import Derived.Shelf.Unicode.ValidAny
namespace Go.Proofs
open Go.Shelf
shelf_lay Lays.n196 Nm 196 at Tryz as Tryz.laysValid
end Go.Proofs
namespace Go.Proofs.YtpioimdhbbgniaaGreatDoor
open Go.Shelf Go.RowKit Go.Lib Go.aJ
set_option maxRecDepth 100000
theorem afZ:((List.range 256).all λc=>match FM[c]? with | some (.i .u8 z)=>decide (z=(firstT c:Nat)) | _=>false)=true:=by kernel_rfl
theorem adK:((List.range 16).all λc=>(match CG[2 * c]? with | some (.i .u8 z)=>decide (z=(accLo c:Nat)) | _=>false)&&(match CG[2 * c+1]? with | some (.i .u8 z)=>decide (z=(accHi c:Nat)) | _=>false))=true:=by kernel_rfl
theorem Q8 {ro:Nat->Option Obj} {w:World} (h:vK fU ro w) {g:Nat} {l:List AV} (hm:(g,l)∈fU) {c:Nat} {z:Int} (hc:l[c]? = some (.i .u8 z)):w.cell? ⟨g,c,none⟩=some (.int .u8 z):=by
 obtain ⟨cs,elem,fr,h1,h2,h3⟩:=h.tab _ hm;obtain ⟨x,hx,hv⟩:=h3 c _ hc;have hb:=h.at' _ _ h1;simp only [AV.toVal,aT] at hv;simp only [World.cell?,hb];rw [ah (by simp),hx,<- hv]
theorem aoq {ro:Nat->Option Obj} {w:World} (h:vK fU ro w):Lib.Utf8Tabs 1 2 w:=by
 refine ⟨λc hc=>?_,λc hc=>?_⟩
 ·have:=List.all_eq_true.1 afZ c (wH.2 hc)
  split at this
  ·next z hz=>rw [Q8 h (by simp [fU]) hz];simp only [decide_eq_true_iff] at this;rw [this]
  ·cases this
 ·have:=List.all_eq_true.1 adK c (wH.2 hc)
  rw [aG] at this;obtain ⟨h1,h2⟩:=this;refine ⟨?_, ?_⟩
  ·split at h1
   ·next z hz=>rw [Q8 h (by simp [fU]) hz];simp only [decide_eq_true_iff] at h1;rw [h1]
   ·cases h1
  ·split at h2
   ·next z hz=>rw [Q8 h (by simp [fU]) hz];simp only [decide_eq_true_iff] at h2;rw [h2]
   ·cases h2
theorem aoR (s:ByteArray) (w:World) (ro:Nat->Option Obj) (h:vK fU ro w) (hs:s.size<=9223372036854775807):Calls Tryz.prog 121 #[.string s] w λe w'=>e=.returned (.bool (Lib.validD s.data.toList))/\Below w.heap.size w w':=
 Any.utf8_ValidString Tryz.laysValid s w hs (aoq h)
theorem aoQ {gs out:List GV} (h:Ik gs=some out):oP Tryz.prog fU 121 [] [.sc] gs out:=aoP aoR (enters_of Tryz.func121 (by kernel_rfl) rfl) h
end Go.Proofs.YtpioimdhbbgniaaGreatDoor
