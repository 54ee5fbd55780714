/- slices.SortFunc by Tag: the kit's contracts, laid here; the closure's walk. -/
import Derived.Test.YthchhlenbkefnaaGreatDoorProg
import Derived.Test.YthchhlenbkefnaaGreatDoorAbsSortF
import Derived.Shelf.SlSortCmp.NoneTotal
import Derived.Shelf.Lay
import Derived.Ground.SlsfProg
namespace Go.Proofs
open Go.Shelf
shelf_lay_g SlLaysF0.n6 Slsf 6 at Tryz 217 as Tryz.sortFL
end Go.Proofs
namespace Go.Proofs.YthchhlenbkefnaaGreatDoor
open Go.Shelf Go.RowKit Go.Lib Go.Sort Go.aN
set_option maxRecDepth 100000
theorem awj(x:Int)(W:World):Calls Tryz.prog 268 #[.int .u64 x] W λe w'=>e=.returned (.bool false)/\w'=W:=by
 go_enter Tryz.func268,Tryz.ntmps268
 go_wp2
 go_ret
 exact⟨rfl,rfl⟩
set_option maxHeartbeats 1000000 in
theorem aoQ(x y:Int)(W:World):Calls Tryz.prog 219 #[.int .u64 x,.int .u64 y] W λe w'=>e=.returned (.int .i64 (Jg x y))/\w'=W:=by
 have hcon:=awj;unfold Jg;by_cases h1:x<y
 ·go_enter Tryz.func219,Tryz.ntmps219
  go_wp2_with (go_at_call 268;refine(hcon _ _).mono ?_;rintro e w' ⟨rfl,rfl⟩)
  go_ret
  exact⟨rfl,rfl⟩
 by_cases h2:y<x
 ·go_enter Tryz.func219,Tryz.ntmps219
  go_wp2_with (go_at_call 268;refine(hcon _ _).mono ?_;rintro e w' ⟨rfl,rfl⟩)
  go_ret
  exact⟨rfl,rfl⟩
 ·go_enter Tryz.func219,Tryz.ntmps219
  go_wp2_with (go_at_call 268;refine(hcon _ _).mono ?_;rintro e w' ⟨rfl,rfl⟩)
  go_ret
  exact⟨rfl,rfl⟩
set_option maxHeartbeats 1000000 in
theorem aoG(a b:Int)(a1 a2 a3 a4 b1 b2 b3 b4:Value)(W:World)(h:∀v∈[a1,a2,a3,a4,b1,b2,b3,b4],v.oneCell'=true):
 Calls Tryz.prog 218 #[.agg #[.int .u64 a,a1,a2,a3,a4],.agg #[.int .u64 b,b1,b2,b3,b4]] W λe w'=>e=.returned (.int .i64 (Jg a b))/\∃q os',w'=grow (W.drewN q) os':=by
 have hcon:=λW'=>aoQ a b W';generalize Jg a b=r at hcon⊢;have q1:=h a1 (by simp);have q2:=h a2 (by simp);have q3:=h a3 (by simp);have q4:=h a4 (by simp);have q5:=h b1 (by simp);have q6:=h b2 (by simp);have q7:=h b3 (by simp);have q8:=h b4 (by simp);clear h;go_enter Tryz.func218,Tryz.ntmps218
 go_wp2_with (go_at_call 219;refine(hcon _).mono ?_;rintro e w' ⟨rfl,rfl⟩)
 go_ret
 exact⟨rfl,0,_,by rw[alloc_eq_grow,alloc_eq_grow,grow_grow];rfl⟩
theorem aDX:aez Tryz.prog 217 218 where
 big enc cf blk off c d w hk h1 hO hcmp hH hblk hsz:=AnyQ.slices_SortFunc_eq Tryz.sortFL 5 Tryz.isAgg269 Tryz.sizeOf269 enc hk h1 cf hO 218 #[] blk off c d w (enters_of Tryz.func218 (by kernel_rfl) rfl) hcmp hH hblk hsz
 none p c w:=AnyF.slices_SortFunc_none {Tryz.sortFL with} p c _ w
 cmp:=aoG
 enters:=enters_of Tryz.func217 (by kernel_rfl) rfl
