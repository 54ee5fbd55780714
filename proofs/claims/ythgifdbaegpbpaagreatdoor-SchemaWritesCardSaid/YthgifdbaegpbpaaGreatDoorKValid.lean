/- utf8.ValidString: the kit's contract, laid here. -/
import Derived.Test.YthgifdbaegpbpaaGreatDoorProg
import Derived.Test.YthgifdbaegpbpaaGreatDoorKRBase
import Derived.Test.YthgifdbaegpbpaaGreatDoorAbsTold
import Derived.Shelf.Lay
import Derived.Ground.NamesProg
import Derived.Shelf.Unicode.ValidAny
namespace Go.Proofs
open Go.Shelf
shelf_lay Lays.n196 Nm 196 at Tryz as Tryz.laysValid
end Go.Proofs
namespace Go.Proofs.YthgifdbaegpbpaaGreatDoor
open Go.Shelf Go.RowKit Go.Lib Go.aP
set_option maxRecDepth 100000
theorem ahT:((List.range 256).all fun c=>match CP[c]? with | some (.i .u8 z)=>decide (z=(firstT c:Nat)) | _=>false)=true:=by kernel_rfl
theorem ae7:((List.range 16).all fun c=>(match zA[2 * c]? with | some (.i .u8 z)=>decide (z=(accLo c:Nat)) | _=>false)&&(match zA[2 * c+1]? with | some (.i .u8 z)=>decide (z=(accHi c:Nat)) | _=>false))=true:=by kernel_rfl
theorem Og {ro:Nat→Option Obj} {w:World} (h:qY aH ro w) {g:Nat} {l:List AV} (hm:(g,l)∈aH) {c:Nat} {z:Int} (hc:l[c]? = some (.i .u8 z)):w.cell? ⟨g,c,none⟩=some (.int .u8 z):=by
 obtain ⟨cs,elem,fr,h1,h2,h3⟩:=h.tab _ hm
 obtain ⟨x,hx,hv⟩:=h3 c _ hc
 have hb:=h.at' _ _ h1
 simp only [AV.toVal,Option.some.injEq] at hv
 simp only [World.cell?,hb]
 rw [if_neg (by simp),hx,← hv]
theorem aq2 {ro:Nat→Option Obj} {w:World} (h:qY aH ro w):Lib.Utf8Tabs 0 1 w:=by
 refine ⟨fun c hc=>?_,fun c hc=>?_⟩
 ·have:=List.all_eq_true.1 ahT c (List.mem_range.2 hc)
  split at this
  ·next z hz=>rw [Og h (by simp [aH]) hz];simp only [decide_eq_true_iff] at this;rw [this]
  ·cases this
 ·have:=List.all_eq_true.1 ae7 c (List.mem_range.2 hc)
  rw [Bool.and_eq_true] at this
  obtain ⟨h1,h2⟩:=this
  refine ⟨?_, ?_⟩
  ·split at h1
   ·next z hz=>rw [Og h (by simp [aH]) hz];simp only [decide_eq_true_iff] at h1;rw [h1]
   ·cases h1
  ·split at h2
   ·next z hz=>rw [Og h (by simp [aH]) hz];simp only [decide_eq_true_iff] at h2;rw [h2]
   ·cases h2
theorem arB (s:ByteArray) (w:World) (ro:Nat→Option Obj) (h:qY aH ro w) (hs:s.size≤9223372036854775807):Calls Tryz.prog 229 #[.string s] w fun e w'=>e=.returned (.bool (Lib.validD s.data.toList))∧Below w.heap.size w w':=
 Any.utf8_ValidString Tryz.laysValid s w hs (aq2 h)
theorem arA {gs out:List GV} (h:DW gs=some out):aI Tryz.prog aH 229 [] [.sc] gs out:=arz arB (enters_of Tryz.func229 (by kernel_rfl) rfl) h
end Go.Proofs.YthgifdbaegpbpaaGreatDoor
