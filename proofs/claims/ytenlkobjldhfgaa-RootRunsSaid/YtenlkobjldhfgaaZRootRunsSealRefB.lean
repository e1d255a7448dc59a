/- The document's Seal. -/
import Derived.Test.YtenlkobjldhfgaaZRootRunsRefPlainB
namespace Go.Proofs.Ytenlkobjldhfgaa
open Go.RowKit Go.Proofs.YtenlkobjldhfgaaW.PrintWords
open Crc
set_option maxHeartbeats 4000000 in
theorem rseal_r (A : Option Addr) (c : Nat) (xs : List UInt8) (w : World) (hr : Rd w A xs) (hl : xs.length ≤ 1000000) :
  Calls Try.prog 38 #[.slice A xs.length c] w fun e w' => ∃ v, e = .returned v ∧ Own w' w.heap.size v (sealB xs) ∧ Below w.heap.size w w' := by
 have HR := Lib.hid hr
 have u0 := u_lo (sumB init xs)
 have u1 := u_hi (sumB init xs)
 clear hr
 go_enter Try.func38, Try.ntmps38
 go_wp2_with (first
  | (go_at_call 51; refine (rof_r A c xs _ HR.out hl).mono ?_; rintro e w1 ⟨rfl, hb⟩; have HB1 := Lib.hid hb; have HR1 := Lib.hid (HR.out.below hb); clear hb)
  | (at_builtin; refine own_append w1.heap.size rfl (.tmp 7) (.tmp 8) rfl _ _ xs _ _ _ (Own.empty w1) (HR1.out.below (alloc_below _ _)) rfl rfl rfl (by simp) (by simp; omega) ?_; intro v w2 HO HG _; have HO2 := Lib.hid HO; have hbb := slots (alloc_below w1 (.cells #[] 5)) _ HG (Own.base (Own.empty w1)); have HB2 := Lib.hid (below_step HB1.out hbb); have HZ2 := Lib.hid hbb.size; clear HO HG hbb)
  | (at_builtin; refine own_append w1.heap.size rfl (.tmp 10) (.tmp 25) rfl _ _ (tailB (sumB init xs)) _ _ 4 (HO2.out.below (alloc_below _ _)) (Sl.lit w2 (tailB (sumB init xs)) _ (0, 0) (by simp only [tailB, List.map_cons, List.map_nil, cut24, cut16, cut8, cut0]) (by rw [tailB_length]; decide) 4 rfl).rd rfl rfl rfl (by have := HZ2.out; simp <;> omega) (by rw [tailB_length]; simp <;> omega) ?_; intro v3 w3 HO HG _; have HO3 := Lib.hid HO; have HB3 := Lib.hid ((HB2.out.alloc HB2.out.size _).grown HG (by have := HB2.out.size; simp <;> omega) (fun k e => by have := HO2.out.base k e; have := HB1.out.size; omega)); have HG3 := Lib.hid HG; clear HO HG))
 go_ret
 exact ⟨_, rfl, by have := HO3.out.lower HB1.out.size; rwa [List.nil_append] at this, HB3.out⟩
end Go.Proofs.Ytenlkobjldhfgaa
