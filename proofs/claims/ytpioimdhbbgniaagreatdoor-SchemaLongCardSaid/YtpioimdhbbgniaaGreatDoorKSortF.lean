/- slices.SortFunc by Tag: the kit's contracts, laid here; the closure's walk. -/
import Derived.Test.YtpioimdhbbgniaaGreatDoorProg
import Derived.Test.YtpioimdhbbgniaaGreatDoorAbsSortF
import Derived.Shelf.SlSortCmp.NoneTotal
import Derived.Shelf.Lay
import Derived.Ground.SlsfProg
import Derived.WalkKit
namespace Go.Proofs
open Go.Shelf
shelf_lay_g SlLaysF0.n6 Slsf 6 at Tryz 58 as Tryz.sortFL
end Go.Proofs
namespace Go.Proofs.YtpioimdhbbgniaaGreatDoor
open Go.Shelf Go.RowKit Go.Lib Go.Sort Go.aJ
set_option maxRecDepth 100000
theorem ahH (x:Int) (W:World):Calls Tryz.prog 92 #[.int .u64 x] W λe w'=>e=.returned (.bool false)/\w'=W:=by
 go_enter Tryz.func92,Tryz.ntmps92
 go_wp2
 go_ret
 exact ⟨rfl,rfl⟩
set_option maxHeartbeats 1000000 in
theorem aeG (x y:Int) (W:World):Calls Tryz.prog 60 #[.int .u64 x,.int .u64 y] W λe w'=>e=.returned (.int .i64 (Dk x y))/\w'=W:=by
 have hcon:=ahH;unfold Dk;by_cases h1:x < y
 ·go_enter Tryz.func60,Tryz.ntmps60
  go_wp2_with (go_at_call 92;refine (hcon _ _).mono ?_;rintro e w' ⟨rfl,rfl⟩)
  go_ret
  exact ⟨rfl,rfl⟩
 by_cases h2:y < x
 ·go_enter Tryz.func60,Tryz.ntmps60
  go_wp2_with (go_at_call 92;refine (hcon _ _).mono ?_;rintro e w' ⟨rfl,rfl⟩)
  go_ret
  exact ⟨rfl,rfl⟩
 ·go_enter Tryz.func60,Tryz.ntmps60
  go_wp2_with (go_at_call 92;refine (hcon _ _).mono ?_;rintro e w' ⟨rfl,rfl⟩)
  go_ret
  exact ⟨rfl,rfl⟩
set_option maxHeartbeats 1000000 in
theorem aeC (a b:Int) (a1 a2 a3 a4 b1 b2 b3 b4:Value) (W:World) (h:∀v∈[a1,a2,a3,a4,b1,b2,b3,b4],v.oneCell'=true) :
 Calls Tryz.prog 59 #[.agg #[.int .u64 a,a1,a2,a3,a4],.agg #[.int .u64 b,b1,b2,b3,b4]] W λe w'=>e=.returned (.int .i64 (Dk a b))/\∃q os',w'=grow (W.drewN q) os':=by
 have hcon:=λW'=>aeG a b W';generalize Dk a b=r at hcon ⊢;have q1:=h a1 (by simp);have q2:=h a2 (by simp);have q3:=h a3 (by simp);have q4:=h a4 (by simp);have q5:=h b1 (by simp);have q6:=h b2 (by simp);have q7:=h b3 (by simp);have q8:=h b4 (by simp);clear h;go_enter Tryz.func59,Tryz.ntmps59
 go_wp2_with (go_at_call 60;refine (hcon _).mono ?_;rintro e w' ⟨rfl,rfl⟩)
 go_ret
 exact ⟨rfl,0,_,by rw [alloc_eq_grow,alloc_eq_grow,grow_grow];rfl⟩
theorem amI:XA Tryz.prog 58 59 where
 big enc cf blk off c d w hk h1 hO hcmp hH hblk hsz:=AnyQ.slices_SortFunc_eq Tryz.sortFL 5 Tryz.isAgg42 Tryz.sizeOf42 enc hk h1 cf hO 59 #[] blk off c d w (enters_of Tryz.func59 (by kernel_rfl) rfl) hcmp hH hblk hsz
 none p c w:=AnyF.slices_SortFunc_none { Tryz.sortFL with } p c _ w
 cmp:=aeC
 enters:=enters_of Tryz.func58 (by kernel_rfl) rfl
end Go.Proofs.YtpioimdhbbgniaaGreatDoor
