/- Which widths there are; how many bits a number has. -/
import Derived.Test.YtenlkobjldhfgaaZRootRunsBase
import Derived.Test.YtenlkobjldhfgaaZRootRunsLen
namespace Go.Proofs.Ytenlkobjldhfgaa
open Go.RowKit Go.Proofs.YtenlkobjldhfgaaW.PrintWords
def wideB (n : Int) : Bool := n == 1 || n == 2 || n == 4 || n == 8
set_option maxHeartbeats 1000000 in
theorem ones_any (a : Int) (h0 : 0 ≤ a) (h1 : a ≤ 8) (w : World) : Calls Try.prog 65 #[.int .u64 a] w fun e w' => ∃ r : Int, e = .returned (.int .i64 r) ∧ (r == 1) = wideB a ∧ w = w' := by
 go_enter Try.func65, Try.ntmps65
 go_wp2
 go_ret
 refine ⟨_, rfl, ?_, rfl⟩
 have hc : a = 0 ∨ a = 1 ∨ a = 2 ∨ a = 3 ∨ a = 4 ∨ a = 5 ∨ a = 6 ∨ a = 7 ∨ a = 8 := by omega
 rcases hc with rfl | rfl | rfl | rfl | rfl | rfl | rfl | rfl | rfl <;> decide +kernel
theorem wideB_out {n : Int} (h : ¬ (0 < n ∧ n ≤ 8)) : wideB n = false := by
 unfold wideB
 simp only [Bool.or_eq_false_iff, beq_eq_false_iff_ne]
 omega
set_option maxHeartbeats 1000000 in
theorem right_any (n : Int) (w : World) : Calls Try.prog 56 #[.int .i64 n] w fun e w' => e = .returned (.bool (wideB n)) ∧ w = w' := by
 by_cases h0 : 0 < n
 ·by_cases h1 : n ≤ 8
  ·go_enter Try.func56, Try.ntmps56
   go_wp2_with (go_at_call 65; refine (ones_any _ (by omega) h1 _).mono ?_; rintro e w' ⟨r, rfl, hr, rfl⟩)
   go_ret
   exact ⟨by first | rfl | (rw [← hr]), rfl⟩
  ·have hz := Lib.hid (wideB_out (n := n) (by omega))
   have g1 : decide (n ≤ 8) = false := by simp; omega
   go_enter Try.func56, Try.ntmps56
   go_wp2
   go_ret
   exact ⟨by rw [hz.out]; rfl, rfl⟩
 ·have hz := Lib.hid (wideB_out (n := n) (by omega))
  have g1 : decide (0 < n) = false := by simp; omega
  go_enter Try.func56, Try.ntmps56
  go_wp2
  go_ret
  exact ⟨by rw [hz.out]; rfl, rfl⟩
theorem len64_any (a : Int) (h0 : 0 ≤ a) (h1 : a ≤ 18446744073709551615) (w : World) : Calls Try.prog 58 #[.int .u64 a] w fun e w' => e = .returned (.int .i64 (Lib.bitLen a.toNat)) ∧ w = w' :=
 (Ytenlkobjldhfgaa.bits_Len64 a w h0 h1).mono fun _ _ h => ⟨h.1, h.2.symm⟩
end Go.Proofs.Ytenlkobjldhfgaa
