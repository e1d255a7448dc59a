/- LabelNames: the plain law. -/
import Derived.Test.YthohdcnhnopafaaDoorArgLabelNames
namespace Go.Proofs.YthohdcnhnopafaaDoor.PLabelNames
open Go.RowKit Go.Proofs.YthohdcnhnopafaaDoorW.PrintWords Go.Proofs.YthohdcnhnopafaaDoorW.PrintLast Go.Proofs.YthohdcnhnopafaaDoorW.PrintMore
theorem text_26 : label_Text.f 2 6 = some ⟨#[50, 46, 54]⟩ := by decide +kernel
theorem text_30 : label_Text.f 3 0 = some ⟨#[51, 46, 48]⟩ := by decide +kernel
theorem chars_26 : ((⟨#[50, 46, 54]⟩ : ByteArray).toList = ([50, 46, 54] : List UInt8)) = True := eq_true (by decide +kernel)
theorem chars_30 : ((⟨#[51, 46, 48]⟩ : ByteArray).toList = ([51, 46, 48] : List UInt8)) = True := eq_true (by decide +kernel)
theorem next_25 : label_Next.f 2 5 = some (2, 6, 0) := by decide +kernel
theorem rise_25 : label_Rise.f 2 5 = some (3, 0, 0) := by decide +kernel
theorem alive (k : Nat) : understudylaw03_labelAlive.f (k + 3) = some true := by
  unfold understudylaw03_labelAlive.f
  simp only [next_25, rise_25, Option.bind_some, if_true, text_26, text_30, chars_26, chars_30, label_cmp]
  decide +kernel
/-- Can it be? -/
def rightL (a0 a1 : Int) : Bool := decide (a0 ≤ 1048576) && decide (a1 ≤ 1048576)
theorem label_right (a0 a1 : Int) : label_Right.f a0 a1 = some (rightL a0 a1) := by
  unfold label_Right.f rightL
  by_cases h : a0 ≤ 1048576 <;> simp [h]
def nextL (a0 a1 : Int) : Int × Int × Int := if rightL a0 a1 then (if a1 = 1048576 then (0, 0, 32) else (a0, a1 + 1, 0)) else (0, 0, 31)
theorem label_next (a0 a1 : Int) (h : 0 ≤ a1) : label_Next.f a0 a1 = some (nextL a0 a1) := by
  unfold label_Next.f nextL
  rw [label_right, Option.bind_some]
  by_cases hr : rightL a0 a1 = true
  · rw [if_pos hr, if_pos hr]
    by_cases h1 : a1 = 1048576
    · rw [if_pos h1, if_pos h1]
    · rw [if_neg h1, if_neg h1]
      have : a1 ≤ 1048576 := by unfold rightL at hr; simp at hr; omega
      rw [show (a1 + 1) % 4294967296 = a1 + 1 by omega]
  · rw [if_neg hr, if_neg hr]
def riseL (a0 a1 : Int) : Int × Int × Int := if rightL a0 a1 then (if a0 = 1048576 then (0, 0, 33) else (a0 + 1, 0, 0)) else (0, 0, 31)
theorem label_rise (a0 a1 : Int) (h : 0 ≤ a0) : label_Rise.f a0 a1 = some (riseL a0 a1) := by
  unfold label_Rise.f riseL
  rw [label_right, Option.bind_some]
  by_cases hr : rightL a0 a1 = true
  · rw [if_pos hr, if_pos hr]
    by_cases h1 : a0 = 1048576
    · rw [if_pos h1, if_pos h1]
    · rw [if_neg h1, if_neg h1]
      have : a0 ≤ 1048576 := by unfold rightL at hr; simp at hr; omega
      rw [show (a0 + 1) % 4294967296 = a0 + 1 by omega]
  · rw [if_neg hr, if_neg hr]
theorem names_1 : label_Next.f 1048576 1048576 = some (0, 0, 32) := by decide +kernel
theorem names_2 : label_Rise.f 1048576 1048576 = some (0, 0, 33) := by decide +kernel
theorem names_3 : label_Next.f 0 1048577 = some (0, 0, 31) := by decide +kernel
theorem names_4 : label_Last.f ([] : List (S24)) = some (0, 0) := rfl
theorem pure_law : ∃ k, understudylaw03_LabelNames.f k = some true := by
  refine ⟨3, ?_⟩
  unfold understudylaw03_LabelNames.f
  simp only [names_1, names_2, names_3, names_4, Option.bind_some, if_true, show understudylaw03_labelAlive.f 3 = some true from alive 0]
  rfl
end Go.Proofs.YthohdcnhnopafaaDoor.PLabelNames
