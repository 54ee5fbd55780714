/- utf8.ValidString: the kit's contract, laid here. -/
import Derived.Test.YtaggjpipnjmleaaGreatDoorProg
import Derived.Test.YtaggjpipnjmleaaGreatDoorKRBase
import Derived.Test.YtaggjpipnjmleaaGreatDoorAbsTold
import Derived.Shelf.Lay
import Derived.Ground.NamesProg
import Derived.Shelf.Unicode.ValidAny
namespace Go.Proofs
open Go.Shelf
shelf_lay Lays.n196 Nm 196 at Tryz as Tryz.laysValid
end Go.Proofs
namespace Go.Proofs.YtaggjpipnjmleaaGreatDoor
open Go.Shelf Go.RowKit Go.Lib Go.aJ
set_option maxRecDepth 100000
theorem ajG:((List.range 256).all λc=>match Gt[c]? with | some (.i .u8 z)=>decide (z=(firstT c:Nat)) | _=>false)=true:=by kernel_rfl
theorem afv:((List.range 16).all λc=>(match Dq[2 * c]? with | some (.i .u8 z)=>decide (z=(accLo c:Nat)) | _=>false)&&(match Dq[2 * c+1]? with | some (.i .u8 z)=>decide (z=(accHi c:Nat)) | _=>false))=true:=by kernel_rfl
theorem SS {ro:Nat->Option Obj} {w:World} (h:vN dQ ro w) {g:Nat} {l:List AV} (hm:(g,l)∈dQ) {c:Nat} {z:Int} (hc:l[c]? = some (.i .u8 z)):w.cell? ⟨g,c,none⟩=some (.int .u8 z):=by
 obtain ⟨cs,elem,fr,h1,h2,h3⟩:=h.tab _ hm;obtain ⟨x,hx,hv⟩:=h3 c _ hc;have hb:=h.at' _ _ h1;simp only [AV.toVal,aV] at hv;simp only [World.cell?,hb];rw [ah (by simp),hx,<- hv]
theorem ase {ro:Nat->Option Obj} {w:World} (h:vN dQ ro w):Lib.Utf8Tabs 0 1 w:=by
 refine ⟨λc hc=>?_,λc hc=>?_⟩
 ·have:=List.all_eq_true.1 ajG c (wR.2 hc)
  split at this
  ·next z hz=>rw [SS h (by simp [dQ]) hz];simp only [decide_eq_true_iff] at this;rw [this]
  ·cases this
 ·have:=List.all_eq_true.1 afv c (wR.2 hc)
  rw [aI] at this;obtain ⟨h1,h2⟩:=this;refine ⟨?_, ?_⟩
  ·split at h1
   ·next z hz=>rw [SS h (by simp [dQ]) hz];simp only [decide_eq_true_iff] at h1;rw [h1]
   ·cases h1
  ·split at h2
   ·next z hz=>rw [SS h (by simp [dQ]) hz];simp only [decide_eq_true_iff] at h2;rw [h2]
   ·cases h2
theorem asn (s:ByteArray) (w:World) (ro:Nat->Option Obj) (h:vN dQ ro w) (hs:s.size<=9223372036854775807):Calls Tryz.prog 171 #[.string s] w λe w'=>e=.returned (.bool (Lib.validD s.data.toList))/\Below w.heap.size w w':=
 Any.utf8_ValidString Tryz.laysValid s w hs (ase h)
theorem asl {gs out:List GV} (h:IJ gs=some out):qN Tryz.prog dQ 171 [] [.sc] gs out:=asj asn (enters_of Tryz.func171 (by kernel_rfl) rfl) h
end Go.Proofs.YtaggjpipnjmleaaGreatDoor
