/- utf8.ValidString: the kit's contract, laid here. -/
import Derived.Test.YtnlegpmfkopalaaGreatDoorProg
import Derived.Test.YtnlegpmfkopalaaGreatDoorKRBase
import Derived.Test.YtnlegpmfkopalaaGreatDoorAbsTold
import Derived.Shelf.Lay
import Derived.Ground.NamesProg
import Derived.Shelf.Unicode.ValidAny
namespace Go.Proofs
open Go.Shelf
shelf_lay Lays.n196 Nm 196 at Tryz as Tryz.laysValid
end Go.Proofs
namespace Go.Proofs.YtnlegpmfkopalaaGreatDoor
open Go.Shelf Go.RowKit Go.Lib Go.aN
set_option maxRecDepth 100000
theorem aiL:((List.range 256).all λc=>match He[c]? with | some (.i .u8 z)=>decide (z=(firstT c:Nat)) | _=>false)=true:=by kernel_rfl
theorem afo:((List.range 16).all λc=>(match Du[2 * c]? with | some (.i .u8 z)=>decide (z=(accLo c:Nat)) | _=>false)&&(match Du[2 * c+1]? with | some (.i .u8 z)=>decide (z=(accHi c:Nat)) | _=>false))=true:=by kernel_rfl
theorem SN {ro:Nat->Option Obj} {w:World} (h:vT fF ro w) {g:Nat} {l:List AV} (hm:(g,l)∈fF) {c:Nat} {z:Int} (hc:l[c]? = some (.i .u8 z)):w.cell? ⟨g,c,none⟩=some (.int .u8 z):=by
 obtain ⟨cs,elem,fr,h1,h2,h3⟩:=h.tab _ hm;obtain ⟨x,hx,hv⟩:=h3 c _ hc;have hb:=h.at' _ _ h1;simp only [AV.toVal,aT] at hv;simp only [World.cell?,hb];rw [ah (by simp),hx,<- hv]
theorem aqD {ro:Nat->Option Obj} {w:World} (h:vT fF ro w):Lib.Utf8Tabs 0 1 w:=by
 refine ⟨λc hc=>?_,λc hc=>?_⟩
 ·have:=List.all_eq_true.1 aiL c (wO.2 hc)
  split at this
  ·next z hz=>rw [SN h (by simp [fF]) hz];simp only [decide_eq_true_iff] at this;rw [this]
  ·cases this
 ·have:=List.all_eq_true.1 afo c (wO.2 hc)
  rw [aI] at this;obtain ⟨h1,h2⟩:=this;refine ⟨?_, ?_⟩
  ·split at h1
   ·next z hz=>rw [SN h (by simp [fF]) hz];simp only [decide_eq_true_iff] at h1;rw [h1]
   ·cases h1
  ·split at h2
   ·next z hz=>rw [SN h (by simp [fF]) hz];simp only [decide_eq_true_iff] at h2;rw [h2]
   ·cases h2
theorem aqL (s:ByteArray) (w:World) (ro:Nat->Option Obj) (h:vT fF ro w) (hs:s.size<=9223372036854775807):Calls Tryz.prog 137 #[.string s] w λe w'=>e=.returned (.bool (Lib.validD s.data.toList))/\Below w.heap.size w w':=
 Any.utf8_ValidString Tryz.laysValid s w hs (aqD h)
theorem aqK {gs out:List GV} (h:Jc gs=some out):pO Tryz.prog fF 137 [] [.sc] gs out:=aqJ aqL (enters_of Tryz.func137 (by kernel_rfl) rfl) h
end Go.Proofs.YtnlegpmfkopalaaGreatDoor
