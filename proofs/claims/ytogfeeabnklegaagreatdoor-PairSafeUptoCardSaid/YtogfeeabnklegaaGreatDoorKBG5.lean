/- Pieces of a row. -/
import Derived.Test.YtogfeeabnklegaaGreatDoorKBDb
set_option linter.all false
namespace Go.Proofs.YtogfeeabnklegaaGreatDoor
open Go Go.aP
set_option maxRecDepth 100000
namespace B
def w78_TFFFFF:w78 [yy1, yy0, yy0, yy0, yy0, yy0]=true:=by kernel_rfl
def w78_FT:w78 [yy0, yy1]=true:=by kernel_rfl
def w78_FFTT:w78 [yy0, yy0, yy1, yy1]=true:=by kernel_rfl
def w78_FFTFT:w78 [yy0, yy0, yy1, yy0, yy1]=true:=by kernel_rfl
def w78_FFTFFTT:w78 [yy0, yy0, yy1, yy0, yy0, yy1, yy1]=true:=by kernel_rfl
def w78_FFTFFTF:w78 [yy0, yy0, yy1, yy0, yy0, yy1, yy0]=true:=by kernel_rfl
def w78_FFTFFF:w78 [yy0, yy0, yy1, yy0, yy0, yy0]=true:=by kernel_rfl
def w78_FFFTT:w78 [yy0, yy0, yy0, yy1, yy1]=true:=by kernel_rfl
def w78_FFFTFT:w78 [yy0, yy0, yy0, yy1, yy0, yy1]=true:=by kernel_rfl
def w78_FFFTFF:w78 [yy0, yy0, yy0, yy1, yy0, yy0]=true:=by kernel_rfl
def w78_FFFFT:w78 [yy0, yy0, yy0, yy0, yy1]=true:=by kernel_rfl
def w78_FFFFF:w78 [yy0, yy0, yy0, yy0, yy0]=true:=by kernel_rfl
