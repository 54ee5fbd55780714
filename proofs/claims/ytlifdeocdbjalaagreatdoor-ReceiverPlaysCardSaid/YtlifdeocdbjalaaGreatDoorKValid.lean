/- utf8.ValidString: the kit's contract, laid here. -/
import Derived.Test.YtlifdeocdbjalaaGreatDoorProg
import Derived.Test.YtlifdeocdbjalaaGreatDoorKRBase
import Derived.Test.YtlifdeocdbjalaaGreatDoorAbsTold
import Derived.Shelf.Lay
import Derived.Ground.NamesProg
import Derived.Shelf.Unicode.ValidAny
namespace Go.Proofs
open Go.Shelf
shelf_lay Lays.n196 Nm 196 at Tryz as Tryz.laysValid
end Go.Proofs
namespace Go.Proofs.YtlifdeocdbjalaaGreatDoor
open Go.Shelf Go.RowKit Go.Lib Go.aN
set_option maxRecDepth 100000
theorem ahP:((List.range 256).all fun c=>match Bc[c]? with | some (.i .u8 z)=>decide (z=(firstT c:Nat)) | _=>false)=true:=by kernel_rfl
theorem aeR:((List.range 16).all fun c=>(match yC[2 * c]? with | some (.i .u8 z)=>decide (z=(accLo c:Nat)) | _=>false)&&(match yC[2 * c+1]? with | some (.i .u8 z)=>decide (z=(accHi c:Nat)) | _=>false))=true:=by kernel_rfl
theorem Nw {ro:Nat→Option Obj} {w:World} (h:qm aF ro w) {g:Nat} {l:List AV} (hm:(g,l)∈aF) {c:Nat} {z:Int} (hc:l[c]? = some (.i .u8 z)):w.cell? ⟨g,c,none⟩=some (.int .u8 z):=by
 obtain ⟨cs,elem,fr,h1,h2,h3⟩:=h.tab _ hm
 obtain ⟨x,hx,hv⟩:=h3 c _ hc
 have hb:=h.at' _ _ h1
 simp only [AV.toVal,Option.some.injEq] at hv
 simp only [World.cell?,hb]
 rw [if_neg (by simp),hx,← hv]
theorem aqB {ro:Nat→Option Obj} {w:World} (h:qm aF ro w):Lib.Utf8Tabs 1 2 w:=by
 refine ⟨fun c hc=>?_,fun c hc=>?_⟩
 ·have:=List.all_eq_true.1 ahP c (List.mem_range.2 hc)
  split at this
  ·next z hz=>rw [Nw h (by simp [aF]) hz];simp only [decide_eq_true_iff] at this;rw [this]
  ·cases this
 ·have:=List.all_eq_true.1 aeR c (List.mem_range.2 hc)
  rw [Bool.and_eq_true] at this
  obtain ⟨h1,h2⟩:=this
  refine ⟨?_, ?_⟩
  ·split at h1
   ·next z hz=>rw [Nw h (by simp [aF]) hz];simp only [decide_eq_true_iff] at h1;rw [h1]
   ·cases h1
  ·split at h2
   ·next z hz=>rw [Nw h (by simp [aF]) hz];simp only [decide_eq_true_iff] at h2;rw [h2]
   ·cases h2
theorem aqH (s:ByteArray) (w:World) (ro:Nat→Option Obj) (h:qm aF ro w) (hs:s.size≤9223372036854775807):Calls Tryz.prog 155 #[.string s] w fun e w'=>e=.returned (.bool (Lib.validD s.data.toList))∧Below w.heap.size w w':=
 Any.utf8_ValidString Tryz.laysValid s w hs (aqB h)
theorem aqG {gs out:List GV} (h:Dy gs=some out):aG Tryz.prog aF 155 [] [.sc] gs out:=aqF aqH (enters_of Tryz.func155 (by kernel_rfl) rfl) h
end Go.Proofs.YtlifdeocdbjalaaGreatDoor
