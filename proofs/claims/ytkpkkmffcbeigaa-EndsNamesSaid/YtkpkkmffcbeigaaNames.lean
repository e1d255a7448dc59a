/- EndsNames. -/
import Derived.Test.YtkpkkmffcbeigaaHalves
namespace Go.Proofs.Ytkpkkmffcbeigaa
open Go.RowKit Go.Proofs.YtkpkkmffcbeigaaW.PrintWords
attribute [local go_sem] strB_list
set_option maxHeartbeats 4000000 in
theorem endsNames_any (w : World) : Calls Try.prog 6 #[] w fun e w' => e = .returned (.bool true) ∧ Below w.heap.size w w' := by
  go_enter Try.func6, Try.ntmps6
  go_wp2_with fail
  refine (put_n none 0 0 [] 3 _ 1 1 [1] _ [] 11 rfl rfl (by decide) (by decide) (Sl.none _) (Ru.lit _ [1] _ rfl (by decide)) (by decide)).mono ?_
  rintro e w1 ⟨A1, c1, rfl, _, _, hb⟩
  have HB1 := Lib.hid (below_step (alloc_below _ _) hb)
  clear hb
  go_wp2_with fail
  refine (put_n none 0 0 [] 1 _ 1 1 [256] _ [] 11 rfl rfl (by decide) (by decide) (Sl.none _) (Ru.lit _ [256] _ rfl (by decide)) (by decide)).mono ?_
  rintro e w2 ⟨A2, c2, rfl, _, _, hb⟩
  have HB2 := Lib.hid (below_step (below_step HB1.out (alloc_below _ _)) hb)
  clear hb
  go_wp2_with fail
  refine (new_n _ _ _ [1] _ rfl (Sl.lit _ [1] _ (0, 0) rfl (by decide) 1 rfl) (by decide)).mono ?_
  rintro e w3 ⟨R, rfl, hR, hb⟩
  have HR := Lib.hid hR
  have HB3 := Lib.hid (below_step (below_step HB2.out (alloc_below _ _)) hb)
  have HW := Lib.hid (show w.heap.size ≤ (w2.alloc (.cells #[.int .u8 1] 5)).heap.size ∧ (w2.alloc (.cells #[.int .u8 1] 5)).heap.size ≤ w3.heap.size from ⟨(HB2.out.trans ((alloc_below w2 (.cells #[.int .u8 1] 5)).mono HB2.out.size)).size, hb.size⟩)
  clear hR hb
  go_wp2_with fail
  refine (endsAlive_any _).mono ?_
  rintro e w4 ⟨rfl, hb⟩
  have HR4 := Lib.hid (HR.out.below hb)
  have HB4 := Lib.hid (below_step HB3.out hb)
  have HW4 := Lib.hid (Nat.le_trans HW.out.2 hb.size)
  clear hb HR HB3
  go_wp2_with fail
  refine (num_n _ R [1] false 2 _ 0 [1] true HR4.out (by decide) (by decide) (by decide) (by decide)).mono ?_
  rintro e w5 ⟨rfl, hR, hg⟩
  have HR5 := Lib.hid hR
  have HB5 := Lib.hid (HB4.out.trans ((RdrX.keeps hR.le HW4.out hg).mono HW.out.1))
  clear hR hg HR4
  go_wp2_with fail
  refine (failed_n _ R [1] true _ HR5.out).mono ?_
  rintro e w6 ⟨rfl, rfl⟩
  go_wp2_with fail
  refine (left_n _ R [1] true _ HR5.out).mono ?_
  rintro e w6 ⟨rfl, rfl⟩
  go_wp2_with fail
  refine (ended_n _ R [1] true _ false HR5.out rfl).mono ?_
  rintro e w6 ⟨rfl, rfl⟩
  go_wp2
  go_ret
  exact ⟨rfl, HB5.out⟩
end Go.Proofs.Ytkpkkmffcbeigaa
