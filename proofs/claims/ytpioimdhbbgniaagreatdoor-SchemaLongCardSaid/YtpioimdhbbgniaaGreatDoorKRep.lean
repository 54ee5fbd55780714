/- strings.Repeat: the kit's contract, laid here. -/
import Derived.Test.YtpioimdhbbgniaaGreatDoorProg
import Derived.Test.YtpioimdhbbgniaaGreatDoorKRBase
import Derived.Test.YtpioimdhbbgniaaGreatDoorAbsRep
import Derived.Shelf.Lay
import Derived.Ground.NamesProg
import Derived.Shelf.Strings.Repeat
namespace Go.Proofs
open Go.Shelf
shelf_lay Lays.n105 Nm 105 at Tryz as Tryz.laysRepeat
end Go.Proofs
namespace Go.Proofs.YtpioimdhbbgniaaGreatDoor
open Go.Shelf Go.RowKit Go.Lib Go.aJ
set_option maxRecDepth 100000
theorem akV:Builder.Extra Tryz.prog Tryz.laysRepeat_ren where
 sizeBuilder:=by kernel_rfl
 liesBuilder:=by kernel_rfl
 t5:=Tryz.laysRepeat.t5
 a5:=Tryz.laysRepeat.a5
 z5:=Tryz.laysRepeat.z5
 v5:=Tryz.laysRepeat.v5
 infoByte:=by kernel_rfl
 cellsByte:=by kernel_rfl
 sizeByte:=by kernel_rfl
 neB5:=by decide
theorem akX (s:ByteArray) (c:Nat) (w:World) (hc:c<=9223372036854775807) (hl:s.size * c<=140737488355328):Calls Tryz.prog 5 #[.string s,.int .i64 c] w λe w'=>e=.returned (.string ⟨(Lib.repeatL s.data.toList c).toArray⟩)/\Below w.heap.size w w':=
 Any.strings_Repeat Tryz.laysRepeat akV s c w hc hl
theorem akZ {gs out:List GV} (h:J8 gs=some out):oP Tryz.prog fU 5 [] [.sc] gs out:=akY akX (enters_of Tryz.func5 (by kernel_rfl) rfl) h
end Go.Proofs.YtpioimdhbbgniaaGreatDoor
