/- utf8.ValidString: the kit's contract, laid here. -/
import Derived.Test.YtilkjidelblkfaaGreatDoorProg
import Derived.Test.YtilkjidelblkfaaGreatDoorKRBase
import Derived.Test.YtilkjidelblkfaaGreatDoorAbsTold
import Derived.Shelf.Lay
import Derived.Ground.NamesProg
import Derived.Shelf.Unicode.ValidAny
namespace Go.Proofs
open Go.Shelf
shelf_lay Lays.n196 Nm 196 at Tryz as Tryz.laysValid
end Go.Proofs
namespace Go.Proofs.YtilkjidelblkfaaGreatDoor
open Go.Shelf Go.RowKit Go.Lib Go.aJ
set_option maxRecDepth 100000
theorem akC:((List.range 256).all λc=>match Io[c]? with | some (.i .u8 z)=>decide (z=(firstT c:Nat)) | _=>false)=true:=by kernel_rfl
theorem agI:((List.range 16).all λc=>(match Ec[2 * c]? with | some (.i .u8 z)=>decide (z=(accLo c:Nat)) | _=>false)&&(match Ec[2 * c+1]? with | some (.i .u8 z)=>decide (z=(accHi c:Nat)) | _=>false))=true:=by kernel_rfl
theorem Ux {ro:Nat->Option Obj} {w:World} (h:wR fB ro w) {g:Nat} {l:List AV} (hm:(g,l)∈fB) {c:Nat} {z:Int} (hc:l[c]? = some (.i .u8 z)):w.cell? ⟨g,c,none⟩=some (.int .u8 z):=by
 obtain ⟨cs,elem,fr,h1,h2,h3⟩:=h.tab _ hm;obtain ⟨x,hx,hv⟩:=h3.1 c _ hc;replace hv:=hv.resolve_right (λh=>by obtain ⟨_,_,_,_,h,_⟩:=h;cases h)
 have hb:=h.at' _ _ h1;simp only [AV.toVal,aT] at hv;simp only [World.cell?,hb];rw [ah (by simp),hx,<- hv]
theorem asV {ro:Nat->Option Obj} {w:World} (h:wR fB ro w):Lib.Utf8Tabs 0 1 w:=by
 refine ⟨λc hc=>?_,λc hc=>?_⟩
 ·have:=List.all_eq_true.1 akC c (xG.2 hc)
  split at this
  ·next z hz=>rw [Ux h (by simp [fB]) hz];simp only [decide_eq_true_iff] at this;rw [this]
  ·cases this
 ·have:=List.all_eq_true.1 agI c (xG.2 hc)
  rw [aI] at this;obtain ⟨h1,h2⟩:=this;refine ⟨?_, ?_⟩
  ·split at h1
   ·next z hz=>rw [Ux h (by simp [fB]) hz];simp only [decide_eq_true_iff] at h1;rw [h1]
   ·cases h1
  ·split at h2
   ·next z hz=>rw [Ux h (by simp [fB]) hz];simp only [decide_eq_true_iff] at h2;rw [h2]
   ·cases h2
theorem as6 (s:ByteArray) (w:World) (ro:Nat->Option Obj) (h:wR fB ro w) (hs:s.size<=9223372036854775807):Calls Tryz.prog 91 #[.string s] w λe w'=>e=.returned (.bool (Lib.validD s.data.toList))/\Below w.heap.size w w':=
 Any.utf8_ValidString Tryz.laysValid s w hs (asV h)
theorem as5 {gs out:List GV} (h:JA gs=some out):sD Tryz.prog fB 91 [] [.sc] gs out:=as4 as6 (enters_of Tryz.func91 (by kernel_rfl) rfl) h
end Go.Proofs.YtilkjidelblkfaaGreatDoor
