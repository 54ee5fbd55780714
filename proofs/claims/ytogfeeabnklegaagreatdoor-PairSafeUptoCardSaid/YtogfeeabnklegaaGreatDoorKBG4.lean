/- Pieces of a row. -/
import Derived.Test.YtogfeeabnklegaaGreatDoorKBDb
set_option linter.all false
namespace Go.Proofs.YtogfeeabnklegaaGreatDoor
open Go Go.aP
set_option maxRecDepth 100000
namespace B
def w78_TT:w78 [yy1, yy1]=true:=by kernel_rfl
def w78_TFT:w78 [yy1, yy0, yy1]=true:=by kernel_rfl
def w78_TFFTT:w78 [yy1, yy0, yy0, yy1, yy1]=true:=by kernel_rfl
def w78_TFFTFT:w78 [yy1, yy0, yy0, yy1, yy0, yy1]=true:=by kernel_rfl
def w78_TFFTFFTT:w78 [yy1, yy0, yy0, yy1, yy0, yy0, yy1, yy1]=true:=by kernel_rfl
def w78_TFFTFFTF:w78 [yy1, yy0, yy0, yy1, yy0, yy0, yy1, yy0]=true:=by kernel_rfl
def w78_TFFTFFF:w78 [yy1, yy0, yy0, yy1, yy0, yy0, yy0]=true:=by kernel_rfl
def w78_TFFFTT:w78 [yy1, yy0, yy0, yy0, yy1, yy1]=true:=by kernel_rfl
def w78_TFFFTFT:w78 [yy1, yy0, yy0, yy0, yy1, yy0, yy1]=true:=by kernel_rfl
def w78_TFFFTFF:w78 [yy1, yy0, yy0, yy0, yy1, yy0, yy0]=true:=by kernel_rfl
def w78_TFFFFT:w78 [yy1, yy0, yy0, yy0, yy0, yy1]=true:=by kernel_rfl
