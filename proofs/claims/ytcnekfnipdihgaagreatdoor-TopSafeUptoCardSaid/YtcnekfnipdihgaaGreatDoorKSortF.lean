/- slices.SortFunc by Tag: the kit's contracts, laid here; the closure's walk. -/
import Derived.Test.YtcnekfnipdihgaaGreatDoorProg
import Derived.Test.YtcnekfnipdihgaaGreatDoorAbsSortF
import Derived.Shelf.SlSortCmp.NoneTotal
import Derived.Shelf.Lay
import Derived.Ground.SlsfProg
namespace Go.Proofs
open Go.Shelf
shelf_lay_g SlLaysF0.n6 Slsf 6 at Tryz 205 as Tryz.sortFL
end Go.Proofs
namespace Go.Proofs.YtcnekfnipdihgaaGreatDoor
open Go.Shelf Go.RowKit Go.Lib Go.Sort Go.aP
set_option maxRecDepth 100000
theorem awk(x:Int)(W:World):Calls Tryz.prog 251 #[.int .u64 x] W λe w'=>e=.returned (.bool false)/\w'=W:=by
 go_enter Tryz.func251,Tryz.ntmps251
 go_wp2
 go_ret
 exact⟨rfl,rfl⟩
set_option maxHeartbeats 1000000 in
theorem apj(x y:Int)(W:World):Calls Tryz.prog 207 #[.int .u64 x,.int .u64 y] W λe w'=>e=.returned (.int .i64 (Js x y))/\w'=W:=by
 have hcon:=awk;unfold Js;by_cases h1:x<y
 ·go_enter Tryz.func207,Tryz.ntmps207
  go_wp2_with (go_at_call 251;refine(hcon _ _).mono ?_;rintro e w' ⟨rfl,rfl⟩)
  go_ret
  exact⟨rfl,rfl⟩
 by_cases h2:y<x
 ·go_enter Tryz.func207,Tryz.ntmps207
  go_wp2_with (go_at_call 251;refine(hcon _ _).mono ?_;rintro e w' ⟨rfl,rfl⟩)
  go_ret
  exact⟨rfl,rfl⟩
 ·go_enter Tryz.func207,Tryz.ntmps207
  go_wp2_with (go_at_call 251;refine(hcon _ _).mono ?_;rintro e w' ⟨rfl,rfl⟩)
  go_ret
  exact⟨rfl,rfl⟩
set_option maxHeartbeats 1000000 in
theorem ao8(a b:Int)(a1 a2 a3 a4 b1 b2 b3 b4:Value)(W:World)(h:∀v∈[a1,a2,a3,a4,b1,b2,b3,b4],v.oneCell'=true):
 Calls Tryz.prog 206 #[.agg #[.int .u64 a,a1,a2,a3,a4],.agg #[.int .u64 b,b1,b2,b3,b4]] W λe w'=>e=.returned (.int .i64 (Js a b))/\∃q os',w'=grow (W.drewN q) os':=by
 have hcon:=λW'=>apj a b W';generalize Js a b=r at hcon⊢;have q1:=h a1 aA;have q2:=h a2 aA;have q3:=h a3 aA;have q4:=h a4 aA;have q5:=h b1 aA;have q6:=h b2 aA;have q7:=h b3 aA;have q8:=h b4 aA;clear h;go_enter Tryz.func206,Tryz.ntmps206
 go_wp2_with (go_at_call 207;refine(hcon _).mono ?_;rintro e w' ⟨rfl,rfl⟩)
 go_ret
 exact⟨rfl,0,_,by rw[alloc_eq_grow,alloc_eq_grow,grow_grow];rfl⟩
theorem aDG:ae1 Tryz.prog 205 206 where
 big enc cf blk off c d w hk h1 hO hcmp hH hblk hsz:=AnyQ.slices_SortFunc_eq Tryz.sortFL 5 Tryz.isAgg178 Tryz.sizeOf178 enc hk h1 cf hO 206 #[] blk off c d w (enters_of Tryz.func206 (by kernel_rfl) rfl) hcmp hH hblk hsz
 none p c w:=AnyF.slices_SortFunc_none {Tryz.sortFL with} p c _ w
 cmp:=ao8
 enters:=enters_of Tryz.func205 (by kernel_rfl) rfl
