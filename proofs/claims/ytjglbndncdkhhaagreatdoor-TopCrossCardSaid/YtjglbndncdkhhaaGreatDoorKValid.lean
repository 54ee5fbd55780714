/- utf8.ValidString: the kit's contract, laid here. -/
import Derived.Test.YtjglbndncdkhhaaGreatDoorProg
import Derived.Test.YtjglbndncdkhhaaGreatDoorKRBase
import Derived.Test.YtjglbndncdkhhaaGreatDoorAbsTold
import Derived.Shelf.Lay
import Derived.Ground.NamesProg
import Derived.Shelf.Unicode.ValidAny
namespace Go.Proofs
open Go.Shelf
shelf_lay Lays.n196 Nm 196 at Tryz as Tryz.laysValid
end Go.Proofs
namespace Go.Proofs.YtjglbndncdkhhaaGreatDoor
open Go.Shelf Go.RowKit Go.Lib Go.aN
set_option maxRecDepth 100000
theorem ail:((List.range 256).all λc=>match Gi[c]? with | some (.i .u8 z)=>decide (z=(firstT c:Nat)) | _=>false)=true:=by kernel_rfl
theorem afn:((List.range 16).all λc=>(match Df[2 * c]? with | some (.i .u8 z)=>decide (z=(accLo c:Nat)) | _=>false)&&(match Df[2 * c+1]? with | some (.i .u8 z)=>decide (z=(accHi c:Nat)) | _=>false))=true:=by kernel_rfl
theorem SY {ro:Nat->Option Obj} {w:World} (h:vI fQ ro w) {g:Nat} {l:List AV} (hm:(g,l)∈fQ) {c:Nat} {z:Int} (hc:l[c]? = some (.i .u8 z)):w.cell? ⟨g,c,none⟩=some (.int .u8 z):=by
 obtain ⟨cs,elem,fr,h1,h2,h3⟩:=h.tab _ hm;obtain ⟨x,hx,hv⟩:=h3.1 c _ hc;have hb:=h.at' _ _ h1;simp only [AV.toVal,aT] at hv;simp only [World.cell?,hb];rw [ah (by simp),hx,<- hv]
theorem apC {ro:Nat->Option Obj} {w:World} (h:vI fQ ro w):Lib.Utf8Tabs 0 1 w:=by
 refine ⟨λc hc=>?_,λc hc=>?_⟩
 ·have:=List.all_eq_true.1 ail c (wJ.2 hc)
  split at this
  ·next z hz=>rw [SY h (by simp [fQ]) hz];simp only [decide_eq_true_iff] at this;rw [this]
  ·cases this
 ·have:=List.all_eq_true.1 afn c (wJ.2 hc)
  rw [aI] at this;obtain ⟨h1,h2⟩:=this;refine ⟨?_, ?_⟩
  ·split at h1
   ·next z hz=>rw [SY h (by simp [fQ]) hz];simp only [decide_eq_true_iff] at h1;rw [h1]
   ·cases h1
  ·split at h2
   ·next z hz=>rw [SY h (by simp [fQ]) hz];simp only [decide_eq_true_iff] at h2;rw [h2]
   ·cases h2
theorem apJ (s:ByteArray) (w:World) (ro:Nat->Option Obj) (h:vI fQ ro w) (hs:s.size<=9223372036854775807):Calls Tryz.prog 139 #[.string s] w λe w'=>e=.returned (.bool (Lib.validD s.data.toList))/\Below w.heap.size w w':=
 Any.utf8_ValidString Tryz.laysValid s w hs (apC h)
theorem apI {gs out:List GV} (h:Ih gs=some out):qN Tryz.prog fQ 139 [] [.sc] gs out:=apH apJ (enters_of Tryz.func139 (by kernel_rfl) rfl) h
end Go.Proofs.YtjglbndncdkhhaaGreatDoor
