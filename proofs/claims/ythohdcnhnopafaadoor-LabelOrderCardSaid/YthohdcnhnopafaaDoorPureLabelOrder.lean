/- LabelOrder: the plain law. -/
import Derived.Test.YthohdcnhnopafaaDoorArgLabelOrder
namespace Go.Proofs.YthohdcnhnopafaaDoor.PLabelOrder
open Go.RowKit Go.Proofs.YthohdcnhnopafaaDoorW.PrintWords Go.Proofs.YthohdcnhnopafaaDoorW.PrintLast Go.Proofs.YthohdcnhnopafaaDoorW.PrintMore
/-- Which of two numbers is lower. -/
def cmpI (a b : Int) : Int := if a < b then -1 else if b < a then 1 else 0
theorem compare_u32 (a b : Int) : cmp_Compare_uint32.f a b = some (cmpI a b) := by
  unfold cmp_Compare_uint32.f cmp_isNaN_uint32.f cmpI
  simp only [Option.bind_some, bne_self_eq_false, Bool.false_eq_true, if_false]
  by_cases h1 : a < b
  · simp [h1]
  · by_cases h2 : b < a
    · simp [h1, h2]
    · simp [h1, h2]
/-- The first of two that isn't nought. -/
def orI (x y : Int) : Int := if x = 0 then y else x
theorem or_two (k : Nat) (x y : Int) : cmp_Or_int.f (k + 3) [x, y] = some (orI x y) := by
  unfold cmp_Or_int.f orI
  by_cases hx : x = 0
  · subst hx
    by_cases hy : y = 0
    · subst hy; simp [cmp_Or_int.l0, rd, wrap64]
    · simp [cmp_Or_int.l0, rd, wrap64, hy]
  · simp [cmp_Or_int.l0, rd, wrap64, hx]
/-- Which of two labels is lower. -/
def cmpL (a0 a1 b0 b1 : Int) : Int := orI (cmpI a0 b0) (cmpI a1 b1)
theorem label_cmp (k : Nat) (a0 a1 b0 b1 : Int) : label_Compare.f (k + 3) a0 a1 b0 b1 = some (cmpL a0 a1 b0 b1) := by
  unfold label_Compare.f
  simp only [compare_u32, Option.bind_some, or_two]
  rfl
theorem cmpL_eq (a0 a1 b0 b1 : Int) : cmpL a0 a1 b0 b1 = if a0 < b0 then -1 else if b0 < a0 then 1 else if a1 < b1 then -1 else if b1 < a1 then 1 else 0 := by
  unfold cmpL orI cmpI
  split <;> split <;> (try split) <;> (try split) <;> omega
theorem text_26 : label_Text.f 2 6 = some ⟨#[50, 46, 54]⟩ := by decide +kernel
theorem text_30 : label_Text.f 3 0 = some ⟨#[51, 46, 48]⟩ := by decide +kernel
theorem chars_26 : ((⟨#[50, 46, 54]⟩ : ByteArray).toList = ([50, 46, 54] : List UInt8)) = True := eq_true (by decide +kernel)
theorem chars_30 : ((⟨#[51, 46, 48]⟩ : ByteArray).toList = ([51, 46, 48] : List UInt8)) = True := eq_true (by decide +kernel)
theorem next_25 : label_Next.f 2 5 = some (2, 6, 0) := by decide +kernel
theorem rise_25 : label_Rise.f 2 5 = some (3, 0, 0) := by decide +kernel
theorem alive (k : Nat) : understudylaw03_labelAlive.f (k + 3) = some true := by
  unfold understudylaw03_labelAlive.f
  simp only [next_25, rise_25, Option.bind_some, if_true, text_26, text_30, chars_26, chars_30, label_cmp]
  decide +kernel
/-- Can it be? -/
def rightL (a0 a1 : Int) : Bool := decide (a0 ≤ 1048576) && decide (a1 ≤ 1048576)
theorem label_right (a0 a1 : Int) : label_Right.f a0 a1 = some (rightL a0 a1) := by
  unfold label_Right.f rightL
  by_cases h : a0 ≤ 1048576 <;> simp [h]
def nextL (a0 a1 : Int) : Int × Int × Int := if rightL a0 a1 then (if a1 = 1048576 then (0, 0, 32) else (a0, a1 + 1, 0)) else (0, 0, 31)
theorem label_next (a0 a1 : Int) (h : 0 ≤ a1) : label_Next.f a0 a1 = some (nextL a0 a1) := by
  unfold label_Next.f nextL
  rw [label_right, Option.bind_some]
  by_cases hr : rightL a0 a1 = true
  · rw [if_pos hr, if_pos hr]
    by_cases h1 : a1 = 1048576
    · rw [if_pos h1, if_pos h1]
    · rw [if_neg h1, if_neg h1]
      have : a1 ≤ 1048576 := by unfold rightL at hr; simp at hr; omega
      rw [show (a1 + 1) % 4294967296 = a1 + 1 by omega]
  · rw [if_neg hr, if_neg hr]
def riseL (a0 a1 : Int) : Int × Int × Int := if rightL a0 a1 then (if a0 = 1048576 then (0, 0, 33) else (a0 + 1, 0, 0)) else (0, 0, 31)
theorem label_rise (a0 a1 : Int) (h : 0 ≤ a0) : label_Rise.f a0 a1 = some (riseL a0 a1) := by
  unfold label_Rise.f riseL
  rw [label_right, Option.bind_some]
  by_cases hr : rightL a0 a1 = true
  · rw [if_pos hr, if_pos hr]
    by_cases h1 : a0 = 1048576
    · rw [if_pos h1, if_pos h1]
    · rw [if_neg h1, if_neg h1]
      have : a0 ≤ 1048576 := by unfold rightL at hr; simp at hr; omega
      rw [show (a0 + 1) % 4294967296 = a0 + 1 by omega]
  · rw [if_neg hr, if_neg hr]
theorem order_j1 (k : Nat) (x y u v : Int) (h0 : 0 ≤ x) : understudylaw03_LabelOrder.j1 (k + 4) false x y u v = some true := by
  simp only [understudylaw03_LabelOrder.j1, Bool.false_eq_true, if_false]
  rw [label_rise x y h0]
  simp only [Option.bind_some, label_cmp, cmpL_eq]
  unfold riseL
  by_cases hr : rightL x y = true
  · rw [if_pos hr]
    by_cases h1 : x = 1048576
    · simp [h1]
    · simp only [h1, if_false, if_true]
      have e1 : x < x + 1 := by omega
      simp only [e1, if_true]
      by_cases h2 : u = x
      · subst h2; simp [e1]
      · simp [h2]
  · rw [if_neg hr]; simp
theorem order_j0 (k : Nat) (x y u v : Int) (h0 : 0 ≤ x) (h1 : 0 ≤ y) : understudylaw03_LabelOrder.j0 (k + 5) false x y u v = some true := by
  simp only [understudylaw03_LabelOrder.j0, Bool.false_eq_true, if_false]
  rw [label_next x y h1]
  simp only [Option.bind_some, show k + 4 = (k + 1) + 3 from rfl, label_cmp, cmpL_eq]
  have hj := order_j1 k x y u v h0
  unfold nextL
  by_cases hr : rightL x y = true
  · rw [if_pos hr]
    by_cases h1 : y = 1048576
    · simp only [h1, if_true]; simpa [h1] using hj
    · simp only [h1, if_false, if_true]
      have e0 : ¬ x < x := by omega
      have e1 : y < y + 1 := by omega
      simp only [e0, e1, if_true, if_false]
      by_cases a1 : x < u
      · have a2 : ¬ u < x := by omega
        simp only [a1, a2, if_true, if_false]
        simpa using hj
      · by_cases a2 : u < x
        · simp only [a1, a2, if_true, if_false]; simpa using hj
        · by_cases a3 : y < v
          · have a4 : ¬ v < y + 1 := by omega
            simp only [a1, a2, a3, a4, if_true, if_false]
            by_cases a5 : y + 1 < v
            · simp only [a5, if_true]; simpa using hj
            · simp only [a5, if_false]; simpa using hj
          · by_cases a4 : v < y
            · simp only [a1, a2, a3, a4, if_true, if_false]; simpa using hj
            · simp only [a1, a2, a3, a4, if_false]; simpa using hj
  · rw [if_neg hr]; simpa using hj
theorem LabelOrder (a0 a1 b0 b1 c0 c1 : Int) (h0 : 0 ≤ a0) (h1 : 0 ≤ a1) : understudylaw03_LabelOrder.f 10 a0 a1 b0 b1 c0 c1 = some true := by
  unfold understudylaw03_LabelOrder.f
  have hj := order_j0 5 a0 a1 b0 b1 h0 h1
  simp only [show (10 : Nat) = 7 + 3 from rfl, alive, label_cmp, Option.bind_some, if_true] at hj ⊢
  have e1 : cmpL a0 a1 b0 b1 = wrap64 (-cmpL b0 b1 a0 a1) := by
    rw [cmpL_eq, cmpL_eq]; unfold wrap64; split <;> split <;> (try split) <;> (try split) <;> (try split) <;> (try split) <;> omega
  have e2 : ((cmpL a0 a1 b0 b1 == 0) != (a0 == b0 && a1 == b1)) = false := by
    rw [cmpL_eq]
    rcases Int.lt_trichotomy a0 b0 with h | h | h
    · have : ¬ a0 = b0 := by omega
      simp [h, this]
    · subst h
      rcases Int.lt_trichotomy a1 b1 with h | h | h
      · have : ¬ a1 = b1 := by omega
        simp [h, this]
      · subst h; simp
      · have h2 : ¬ a1 = b1 := by omega
        have h3 : ¬ a1 < b1 := by omega
        simp [h, h2, h3]
    · have h2 : ¬ a0 = b0 := by omega
      have h3 : ¬ a0 < b0 := by omega
      simp [h, h2, h3]
  rw [if_pos e1, e2]
  simp only [Bool.false_eq_true, if_false]
  by_cases e3 : cmpL a0 a1 b0 b1 ≤ 0
  · rw [if_pos e3]
    by_cases e4 : cmpL b0 b1 c0 c1 ≤ 0
    · rw [if_pos e4]
      have e5 : decide (cmpL a0 a1 c0 c1 > 0) = false := by
        rw [decide_eq_false_iff_not]
        rw [cmpL_eq] at e3 e4 ⊢
        clear e1 e2 hj
        by_cases p1 : a0 < b0 <;> by_cases p2 : b0 < a0 <;> by_cases p3 : b0 < c0 <;> by_cases p4 : c0 < b0 <;> by_cases p5 : a0 < c0 <;> by_cases p6 : c0 < a0 <;> simp only [p1, p2, p3, p4, p5, p6, if_true, if_false] at e3 e4 ⊢ <;> (first | omega | skip)
        all_goals
          by_cases q1 : a1 < b1 <;> by_cases q2 : b1 < a1 <;> by_cases q3 : b1 < c1 <;> by_cases q4 : c1 < b1 <;> by_cases q5 : a1 < c1 <;> by_cases q6 : c1 < a1 <;> simp only [q1, q2, q3, q4, q5, q6, if_true, if_false] at e3 e4 ⊢ <;> omega
      rw [e5]; exact hj
    · rw [if_neg e4]; exact hj
  · rw [if_neg e3]; exact hj
theorem pure_law (y0 : S24) (g0 : G24 y0) (y1 : S24) (_g1 : G24 y1) (y2 : S24) (_g2 : G24 y2) : ∃ k, understudylaw03_LabelOrder.f k y0.f0 y0.f1 y1.f0 y1.f1 y2.f0 y2.f1 = some true :=
  ⟨10, LabelOrder _ _ _ _ _ _ g0.1.1 g0.2.1⟩
end Go.Proofs.YthohdcnhnopafaaDoor.PLabelOrder
