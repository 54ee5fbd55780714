/- slices.SortFunc by Tag: the kit's contracts, laid here; the closure's walk. -/
import Derived.Test.YtmkkknckcnpljaaGreatDoorProg
import Derived.Test.YtmkkknckcnpljaaGreatDoorAbsSortF
import Derived.Shelf.SlSortCmp.NoneTotal
import Derived.Shelf.Lay
import Derived.Ground.SlsfProg
namespace Go.Proofs
open Go.Shelf
shelf_lay_g SlLaysF0.n6 Slsf 6 at Tryz 212 as Tryz.sortFL
end Go.Proofs
namespace Go.Proofs.YtmkkknckcnpljaaGreatDoor
open Go.Shelf Go.RowKit Go.Lib Go.Sort Go.aO
set_option maxRecDepth 100000
theorem aul(x:Int)(W:World):Calls Tryz.prog 243 #[.int .u64 x] W λe w'=>e=.returned (.bool false)/\w'=W:=by
 go_enter Tryz.func243,Tryz.ntmps243
 go_wp2
 go_ret
 exact⟨rfl,rfl⟩
set_option maxHeartbeats 1000000 in
theorem amd(x y:Int)(W:World):Calls Tryz.prog 214 #[.int .u64 x,.int .u64 y] W λe w'=>e=.returned (.int .i64 (Iy x y))/\w'=W:=by
 have hcon:=aul;unfold Iy;by_cases h1:x<y
 ·go_enter Tryz.func214,Tryz.ntmps214
  go_wp2_with (go_at_call 243;refine(hcon _ _).mono ?_;rintro e w' ⟨rfl,rfl⟩)
  go_ret
  exact⟨rfl,rfl⟩
 by_cases h2:y<x
 ·go_enter Tryz.func214,Tryz.ntmps214
  go_wp2_with (go_at_call 243;refine(hcon _ _).mono ?_;rintro e w' ⟨rfl,rfl⟩)
  go_ret
  exact⟨rfl,rfl⟩
 ·go_enter Tryz.func214,Tryz.ntmps214
  go_wp2_with (go_at_call 243;refine(hcon _ _).mono ?_;rintro e w' ⟨rfl,rfl⟩)
  go_ret
  exact⟨rfl,rfl⟩
set_option maxHeartbeats 1000000 in
theorem al8(a b:Int)(a1 a2 a3 a4 b1 b2 b3 b4:Value)(W:World)(h:∀v∈[a1,a2,a3,a4,b1,b2,b3,b4],v.oneCell'=true):
 Calls Tryz.prog 213 #[.agg #[.int .u64 a,a1,a2,a3,a4],.agg #[.int .u64 b,b1,b2,b3,b4]] W λe w'=>e=.returned (.int .i64 (Iy a b))/\∃q os',w'=grow (W.drewN q) os':=by
 have hcon:=λW'=>amd a b W';generalize Iy a b=r at hcon⊢;have q1:=h a1 (by simp);have q2:=h a2 (by simp);have q3:=h a3 (by simp);have q4:=h a4 (by simp);have q5:=h b1 (by simp);have q6:=h b2 (by simp);have q7:=h b3 (by simp);have q8:=h b4 (by simp);clear h;go_enter Tryz.func213,Tryz.ntmps213
 go_wp2_with (go_at_call 214;refine(hcon _).mono ?_;rintro e w' ⟨rfl,rfl⟩)
 go_ret
 exact⟨rfl,0,_,by rw[alloc_eq_grow,alloc_eq_grow,grow_grow];rfl⟩
theorem aBv:acX Tryz.prog 212 213 where
 big enc cf blk off c d w hk h1 hO hcmp hH hblk hsz:=AnyQ.slices_SortFunc_eq Tryz.sortFL 5 Tryz.isAgg168 Tryz.sizeOf168 enc hk h1 cf hO 213 #[] blk off c d w (enters_of Tryz.func213 (by kernel_rfl) rfl) hcmp hH hblk hsz
 none p c w:=AnyF.slices_SortFunc_none {Tryz.sortFL with} p c _ w
 cmp:=al8
 enters:=enters_of Tryz.func212 (by kernel_rfl) rfl
