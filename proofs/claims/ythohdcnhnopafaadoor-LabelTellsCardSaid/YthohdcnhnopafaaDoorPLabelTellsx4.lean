-- Printed by a program of this session (wip/printx.py), which runs the kit's print with texts of its own put in.
import Derived.Test.YthohdcnhnopafaaDoorPLabelTellsx0
import Derived.Test.YthohdcnhnopafaaDoorPLabelTellsx1
import Derived.Test.YthohdcnhnopafaaDoorPLabelTellsx2
import Derived.Test.YthohdcnhnopafaaDoorPLabelTellsx3
import Derived.Test.YthohdcnhnopafaaDoorFree
namespace Go.Proofs.YthohdcnhnopafaaDoor.PLabelTells
open Go.RowKit Go.Proofs.YthohdcnhnopafaaDoorW.PrintWords Go.Proofs.YthohdcnhnopafaaDoorW.PrintLast Go.Proofs.YthohdcnhnopafaaDoorW.PrintMore
attribute [local go_sem] max2_int min2_int max_two min_two max_three min_three max_four min_four   -- for this text's walks alone
set_option linter.unusedVariables false
set_option linter.unusedSimpArgs false

attribute [local go_sem high] eqA24
/-! ### understudylaw03_LabelTells: function 5 -/
-- IMPORT Derived.Test.YthohdcnhnopafaaDoorFree
theorem text_26 : label_Text.f 2 6 = some ⟨#[50, 46, 54]⟩ := by decide +kernel
theorem text_30 : label_Text.f 3 0 = some ⟨#[51, 46, 48]⟩ := by decide +kernel
theorem chars_26 : ((⟨#[50, 46, 54]⟩ : ByteArray).toList = ([50, 46, 54] : List UInt8)) = True := eq_true (by decide +kernel)
theorem chars_30 : ((⟨#[51, 46, 48]⟩ : ByteArray).toList = ([51, 46, 48] : List UInt8)) = True := eq_true (by decide +kernel)
theorem next_25 : label_Next.f 2 5 = some (2, 6, 0) := by decide +kernel
theorem rise_25 : label_Rise.f 2 5 = some (3, 0, 0) := by decide +kernel
theorem alive (k : Nat) : understudylaw03_labelAlive.f (k + 3) = some true := by
  unfold understudylaw03_labelAlive.f
  simp only [next_25, rise_25, Option.bind_some, if_true, text_26, text_30, chars_26, chars_30, label_cmp]
  decide +kernel
/-- Can it be? -/
def rightL (a0 a1 : Int) : Bool := decide (a0 ≤ 1048576) && decide (a1 ≤ 1048576)
theorem label_right (a0 a1 : Int) : label_Right.f a0 a1 = some (rightL a0 a1) := by
  unfold label_Right.f rightL
  by_cases h : a0 ≤ 1048576 <;> simp [h]
def nextL (a0 a1 : Int) : Int × Int × Int := if rightL a0 a1 then (if a1 = 1048576 then (0, 0, 32) else (a0, a1 + 1, 0)) else (0, 0, 31)
theorem label_next (a0 a1 : Int) (h : 0 ≤ a1) : label_Next.f a0 a1 = some (nextL a0 a1) := by
  unfold label_Next.f nextL
  rw [label_right, Option.bind_some]
  by_cases hr : rightL a0 a1 = true
  · rw [if_pos hr, if_pos hr]
    by_cases h1 : a1 = 1048576
    · rw [if_pos h1, if_pos h1]
    · rw [if_neg h1, if_neg h1]
      have : a1 ≤ 1048576 := by unfold rightL at hr; simp at hr; omega
      rw [show (a1 + 1) % 4294967296 = a1 + 1 by omega]
  · rw [if_neg hr, if_neg hr]
def riseL (a0 a1 : Int) : Int × Int × Int := if rightL a0 a1 then (if a0 = 1048576 then (0, 0, 33) else (a0 + 1, 0, 0)) else (0, 0, 31)
theorem label_rise (a0 a1 : Int) (h : 0 ≤ a0) : label_Rise.f a0 a1 = some (riseL a0 a1) := by
  unfold label_Rise.f riseL
  rw [label_right, Option.bind_some]
  by_cases hr : rightL a0 a1 = true
  · rw [if_pos hr, if_pos hr]
    by_cases h1 : a0 = 1048576
    · rw [if_pos h1, if_pos h1]
    · rw [if_neg h1, if_neg h1]
      have : a0 ≤ 1048576 := by unfold rightL at hr; simp at hr; omega
      rw [show (a0 + 1) % 4294967296 = a0 + 1 by omega]
  · rw [if_neg hr, if_neg hr]
theorem ref_cmp (a0 a1 b0 b1 : Int) : understudyref03_Compare.f a0 a1 b0 b1 = some (cmpL a0 a1 b0 b1) := by
  unfold understudyref03_Compare.f understudyref03_Less.f
  rw [cmpL_eq]
  by_cases h1 : a0 < b0
  · simp [h1]
  · by_cases h2 : b0 < a0
    · have h3 : ¬ a0 = b0 := by omega
      simp [h1, h2, h3]
    · have h3 : a0 = b0 := by omega
      subst h3
      by_cases h4 : a1 < b1
      · simp [h4]
      · by_cases h5 : b1 < a1
        · simp [h4, h5]
        · simp [h4, h5]
theorem next_some (a b : Int) : ∃ n0 n1 ne, label_Next.f a b = some (n0, n1, ne) := by
  unfold label_Next.f
  rw [label_right, Option.bind_some]
  split
  · split <;> exact ⟨_, _, _, rfl⟩
  · exact ⟨_, _, _, rfl⟩
theorem rise_some (a b : Int) : ∃ n0 n1 ne, label_Rise.f a b = some (n0, n1, ne) := by
  unfold label_Rise.f
  rw [label_right, Option.bind_some]
  split
  · split <;> exact ⟨_, _, _, rfl⟩
  · exact ⟨_, _, _, rfl⟩
def understudylaw03_LabelTells.f (k : Nat) (_a0_0 : Int) (_a0_1 : Int) (_a1_0 : Int) (_a1_1 : Int) (l2 : List (S24)) : Option Bool :=
  (understudylaw03_labelAlive.f k).bind fun t => if t = true then (if (l2.length : Int) > 100 then some true else (understudyref03_Last.f k l2).bind fun r => if r = ((lastL l2).f0, (lastL l2).f1) then some true else none) else none
set_option maxHeartbeats 16000000 in
set_option maxRecDepth 100000 in
theorem understudylaw03_LabelTells.calls (k : Nat) (a0_0 : Int) (a0_1 : Int) (a1_0 : Int) (a1_1 : Int) (A2 : Option Addr) (c2 : Nat) (l2 : List (S24)) (r : Bool) (w : World) (hr2 : Kd.C k24 w A2 l2.length l2) (hc2 : l2.length ≤ c2) (h : understudylaw03_LabelTells.f k a0_0 a0_1 a1_0 a1_1 l2 = some r) :
    Calls Tryd.prog 5 #[.agg #[.int .u32 a0_0, .int .u32 a0_1], .agg #[.int .u32 a1_0, .int .u32 a1_1], .slice A2 l2.length c2] w fun e w' => e = .returned (.bool r) ∧ Below w.heap.size w w' := by
  unfold understudylaw03_LabelTells.f at h
  cases hal : understudylaw03_labelAlive.f k with
  | none => rw [hal] at h; cases h
  | some t =>
    rw [hal, Option.bind_some] at h
    cases t with
    | false => simp at h
    | true =>
      simp only [if_true] at h
      have HA := Aside0.mk hal
      have HR := Aside0.mk hr2
      have HC := Aside0.mk hc2
      clear hal hr2 hc2
      by_cases hl : (l2.length : Int) > 100
      · rw [if_pos hl] at h
        obtain rfl := Option.some.inj h
        clear h
        have g1 : (100 : Int) < (l2.length : Int) := hl
        clear hl
        go_enter Tryd.func5, Tryd.ntmps5
        go_wp2_with (go_at_call 10; refine (understudylaw03_labelAlive.calls k _ _ HA.out).mono ?_; rintro e w1 ⟨rfl, hb⟩; have HB := Aside0.mk hb; clear hb)
        go_ret
        exact ⟨rfl, below_step (below_alloc (below_alloc (Below.refl _ w) _) _) HB.out⟩
      · rw [if_neg hl] at h
        have g1 : ¬ ((100 : Int) < (l2.length : Int)) := hl
        clear hl
        cases hlr : understudyref03_Last.f k l2 with
        | none => rw [hlr] at h; cases h
        | some r2 =>
          rw [hlr, Option.bind_some] at h
          by_cases hr : ¬ r2 = ((lastL l2).f0, (lastL l2).f1)
          · rw [if_neg hr] at h; cases h
          replace hr := Classical.not_not.1 hr
          rw [if_pos hr] at h
          obtain rfl := Option.some.inj h
          subst hr
          clear h
          have hla : label_Last.f l2 = some ((lastL l2).f0, (lastL l2).f1) := rfl
          generalize (lastL l2).f0 = m0 at *
          generalize (lastL l2).f1 = m1 at *
          have HLA := Aside0.mk hla
          have HLR := Aside0.mk hlr
          clear hla hlr
          obtain ⟨n0, n1, ne, hn⟩ := next_some a0_0 a0_1
          obtain ⟨r0, r1, re, hri⟩ := rise_some a0_0 a0_1
          have HN := Aside0.mk hn
          have HI := Aside0.mk hri
          have HN2 := Aside0.mk (show understudyref03_Next.f a0_0 a0_1 = some (n0, n1, ne) from hn)
          have HI2 := Aside0.mk (show understudyref03_Rise.f a0_0 a0_1 = some (r0, r1, re) from hri)
          clear hn hri
          have h4 : ((w.alloc (.cells #[.int .u32 a0_0, .int .u32 a0_1] 24)).alloc (.cells #[.int .u32 a1_0, .int .u32 a1_1] 24)).heap[w.heap.size + 1]? = some (.cells #[.int .u32 a1_0, .int .u32 a1_1] 24) := by
            have := heap_alloc_new (w.alloc (.cells #[.int .u32 a0_0, .int .u32 a0_1] 24)) (.cells #[.int .u32 a1_0, .int .u32 a1_1] 24)
            rwa [World.size_alloc] at this
          have h3 : ((w.alloc (.cells #[.int .u32 a0_0, .int .u32 a0_1] 24)).alloc (.cells #[.int .u32 a1_0, .int .u32 a1_1] 24)).heap[w.heap.size]? = some (.cells #[.int .u32 a0_0, .int .u32 a0_1] 24) := blk_alloc (heap_alloc_new w _) _
          have H3 := Aside0.mk h3
          have H4 := Aside0.mk h4
          clear h3 h4
          obtain ⟨B3, hB3⟩ : ∃ B3, B3 = w.heap.size := ⟨_, rfl⟩
          go_enter Tryd.func5, Tryd.ntmps5
          go_wp2_with (go_at_call 10; refine (understudylaw03_labelAlive.calls k _ _ HA.out).mono ?_; rintro e w1 ⟨rfl, hb⟩; have HB1 := Aside0.mk (below_step (below_alloc (below_alloc (Below.refl _ w) _) _) hb); have H31 := Aside0.mk (blk_below H3.out hb); have H41 := Aside0.mk (blk_below H4.out hb); clear hb; obtain ⟨d0, d1⟩ := box_cells H31.out)
          refine (label_Next.calls a0_0 a0_1 n0 n1 ne _ HN.out).mono ?_
          rintro e w2 ⟨rfl, hb⟩
          have HB2 := Aside0.mk (below_alloc (below_step HB1.out hb) (.cells #[.int .u32 n0, .int .u32 n1] 24))
          have H3_2 := Aside0.mk (blk_alloc (blk_below H31.out hb) (.cells #[.int .u32 n0, .int .u32 n1] 24))
          have H4_2 := Aside0.mk (blk_alloc (blk_below H41.out hb) (.cells #[.int .u32 n0, .int .u32 n1] 24))
          have H7_2 := Aside0.mk (heap_alloc_new w2 (.cells #[.int .u32 n0, .int .u32 n1] 24))
          have hlt := blk_lt (blk_below H31.out hb)
          have hne : ¬ (w.heap.size = w2.heap.size) := by omega
          obtain ⟨d0, d1⟩ := box_cells (blk_below H31.out hb)
          clear hb HB1 H31 H41 H3 H4
          go_wp2_with fail
          refine (understudyref03_Next.calls a0_0 a0_1 n0 n1 ne _ HN2.out).mono ?_
          rintro e w3 ⟨rfl, hb⟩
          have HB3 := Aside0.mk (below_alloc (below_step HB2.out hb) (.cells #[.int .u32 n0, .int .u32 n1] 24))
          have H3_3 := Aside0.mk (blk_alloc (blk_below H3_2.out hb) (.cells #[.int .u32 n0, .int .u32 n1] 24))
          have H4_3 := Aside0.mk (blk_alloc (blk_below H4_2.out hb) (.cells #[.int .u32 n0, .int .u32 n1] 24))
          have H7_3 := Aside0.mk (blk_alloc (blk_below H7_2.out hb) (.cells #[.int .u32 n0, .int .u32 n1] 24))
          have H9_3 := Aside0.mk (heap_alloc_new w3 (.cells #[.int .u32 n0, .int .u32 n1] 24))
          have hlt3 := blk_lt (blk_below H3_2.out hb)
          have hne3 : ¬ (w.heap.size = w3.heap.size) := by omega
          obtain ⟨d0, d1⟩ := box_cells (blk_below H3_2.out hb)
          clear hb HB2 H3_2 H4_2 H7_2
          go_wp2_with fail
          refine (label_Rise.calls a0_0 a0_1 r0 r1 re _ HI.out).mono ?_
          rintro e w4 ⟨rfl, hb⟩
          have HB4 := Aside0.mk (below_alloc (below_step HB3.out hb) (.cells #[.int .u32 r0, .int .u32 r1] 24))
          have H3_4 := Aside0.mk (blk_alloc (blk_below H3_3.out hb) (.cells #[.int .u32 r0, .int .u32 r1] 24))
          have H4_4 := Aside0.mk (blk_alloc (blk_below H4_3.out hb) (.cells #[.int .u32 r0, .int .u32 r1] 24))
          have H7_4 := Aside0.mk (blk_alloc (blk_below H7_3.out hb) (.cells #[.int .u32 r0, .int .u32 r1] 24))
          have H9_4 := Aside0.mk (blk_alloc (blk_below H9_3.out hb) (.cells #[.int .u32 r0, .int .u32 r1] 24))
          have H11_4 := Aside0.mk (heap_alloc_new w4 (.cells #[.int .u32 r0, .int .u32 r1] 24))
          have hlt4 := blk_lt (blk_below H3_3.out hb)
          have hne4 : ¬ (w.heap.size = w4.heap.size) := by omega
          obtain ⟨d0, d1⟩ := box_cells (blk_below H3_3.out hb)
          clear hb HB3 H3_3 H4_3 H7_3 H9_3
          go_wp2_with fail
          refine (understudyref03_Rise.calls a0_0 a0_1 r0 r1 re _ HI2.out).mono ?_
          rintro e w5 ⟨rfl, hb⟩
          have HB5 := Aside0.mk (below_alloc (below_step HB4.out hb) (.cells #[.int .u32 r0, .int .u32 r1] 24))
          have H3_5 := Aside0.mk (blk_alloc (blk_below H3_4.out hb) (.cells #[.int .u32 r0, .int .u32 r1] 24))
          have H4_5 := Aside0.mk (blk_alloc (blk_below H4_4.out hb) (.cells #[.int .u32 r0, .int .u32 r1] 24))
          have H7_5 := Aside0.mk (blk_alloc (blk_below H7_4.out hb) (.cells #[.int .u32 r0, .int .u32 r1] 24))
          have H9_5 := Aside0.mk (blk_alloc (blk_below H9_4.out hb) (.cells #[.int .u32 r0, .int .u32 r1] 24))
          have H11_5 := Aside0.mk (blk_alloc (blk_below H11_4.out hb) (.cells #[.int .u32 r0, .int .u32 r1] 24))
          have H13_5 := Aside0.mk (heap_alloc_new w5 (.cells #[.int .u32 r0, .int .u32 r1] 24))
          clear hb HB4 H3_4 H4_4 H7_4 H9_4 H11_4
          go_wp2_with fail
          have HRR := Aside0.mk (Kd.C_below HR.out HB5.out)
          have H3 := H3_5
          have H4 := H4_5
          have H7 := H7_5
          have H9 := H9_5
          have H11 := H11_5
          have H13 := H13_5
          clear H3_5 H4_5 H7_5 H9_5 H11_5 H13_5
          obtain ⟨B4, hB4⟩ : ∃ B4, B4 = w.heap.size + 1 := ⟨_, rfl⟩
          obtain ⟨B7, hB7⟩ : ∃ B7, B7 = w2.heap.size := ⟨_, rfl⟩
          obtain ⟨B9, hB9⟩ : ∃ B9, B9 = w3.heap.size := ⟨_, rfl⟩
          obtain ⟨B11, hB11⟩ : ∃ B11, B11 = w4.heap.size := ⟨_, rfl⟩
          obtain ⟨B13, hB13⟩ : ∃ B13, B13 = w5.heap.size := ⟨_, rfl⟩
          rw [← hB3] at H3
          rw [← hB4] at H4
          rw [← hB7] at H7
          rw [← hB9] at H9
          rw [← hB11] at H11
          rw [← hB13] at H13
          rw [← hB4, ← hB3, ← hB7, ← hB9, ← hB11, ← hB13]
          clear hB3 hB4 hB7 hB9 hB11 hB13 hlt hne hlt3 hne3 hlt4 hne4 d0 d1
          generalize (w5.alloc (.cells #[.int .u32 r0, .int .u32 r1] 24)) = wz at *
          refine free_region (n := 42) (T := _) [0, 1, 0, 7, 15, 31, 63, 63, 255, 63, 63, 2047, 4095, 8191, 16383, 32767, 32767, 131071, 262143, 524287, 1048575, 1048575, 4194303, 8388607, 16777215, 33554431, 33554431, 134217727, 268435455, 536870911, 1073741823, 1073741823, 4294967295, 8589934591, 17179869183, 34359738367, 68719476735, 34359738367, 274877906943, 549755813887, 1099511627775, 2199023255551] [(0, 40), (1, 41), (2, 42), (3, 43), (4, 44), (5, 45), (6, 46), (7, 47), (8, 48), (9, 49), (10, 50), (11, 51), (12, 52), (13, 53), (14, 54), (15, 55), (16, 56), (17, 57), (18, 58), (19, 59), (20, 60), (21, 61), (22, 62), (23, 63), (24, 64), (25, 65), (26, 66), (27, 67), (28, 68), (29, 69), (30, 70), (31, 71), (32, 72), (33, 73), (34, 74), (35, 75), (36, 76), (37, 77), (38, 78), (39, 79), (40, 80), (41, 6)] (fun i v w => match i with | 0 => v = .agg #[.int .u32 a0_0, .int .u32 a0_1] | 1 => v = .bool (rightL a0_0 a0_1) | 2 => v = .agg #[.int .u32 a0_0, .int .u32 a0_1] | 3 => v = .bool (rightL a0_0 a0_1) | 4 => v = .bool true | 5 => v = .bool true | 6 => v = .agg #[.int .u32 a0_0, .int .u32 a0_1] | 7 => v = .agg #[.int .u32 a1_0, .int .u32 a1_1] | 8 => v = .int .i64 (cmpL a0_0 a0_1 a1_0 a1_1) | 9 => v = .agg #[.int .u32 a0_0, .int .u32 a0_1] | 10 => v = .agg #[.int .u32 a1_0, .int .u32 a1_1] | 11 => v = .int .i64 (cmpL a0_0 a0_1 a1_0 a1_1) | 12 => v = .bool true | 13 => v = .bool true | 14 => v = .bool true | 15 => v = .agg #[.int .u32 n0, .int .u32 n1] | 16 => v = .agg #[.int .u32 n0, .int .u32 n1] | 17 => v = .bool true | 18 => v = .bool true | 19 => v = .bool true | 20 => v = .int .i64 ne | 21 => v = .int .i64 ne | 22 => v = .bool true | 23 => v = .bool true | 24 => v = .bool true | 25 => v = .agg #[.int .u32 r0, .int .u32 r1] | 26 => v = .agg #[.int .u32 r0, .int .u32 r1] | 27 => v = .bool true | 28 => v = .bool true | 29 => v = .bool true | 30 => v = .int .i64 re | 31 => v = .int .i64 re | 32 => v = .bool true | 33 => v = .bool true | 34 => v = .bool true | 35 => v = .slice A2 l2.length c2 | 36 => v = .agg #[.int .u32 m0, .int .u32 m1] | 37 => v = .slice A2 l2.length c2 | 38 => v = .agg #[.int .u32 m0, .int .u32 m1] | 39 => v = .bool true | 40 => v = .bool true | 41 => v = .bool true | _ => True) (by kernel_rfl) rfl rfl (by kernel_rfl) (by kernel_rfl) (by kernel_rfl) rfl (by kernel_rfl) ?_ ?_
          · intro e he a w hB hel hdep
            simp only [List.mem_cons, List.not_mem_nil, or_false] at he
            rcases he with rfl | rfl | rfl | rfl | rfl | rfl | rfl | rfl | rfl | rfl | rfl | rfl | rfl | rfl | rfl | rfl | rfl | rfl | rfl | rfl | rfl | rfl | rfl | rfl | rfl | rfl | rfl | rfl | rfl | rfl | rfl | rfl | rfl | rfl | rfl | rfl | rfl | rfl | rfl | rfl | rfl | rfl
            · have h3 : a.tmps[3]? = some (.pointer (some ⟨B3, 0, none⟩)) := (hel 3 (by decide)).trans rfl
              have e3 : a.eval (.tmp 3) = .pointer (some ⟨B3, 0, none⟩) := eval_of h3
              obtain ⟨d0, d1⟩ := box_cells (blk_below H3.out hB)
              exact ⟨_, rfl, rfl, Ok.pure (.agg #[.int .u32 a0_0, .int .u32 a0_1]) (wanted_none rfl) (by simp only [execOp]; go_simp) (fun _ _ => rfl)⟩
            · obtain ⟨v40, h40, q40⟩ := hdep (0, 40) (by decide) (by decide)
              obtain rfl : v40 = .agg #[.int .u32 a0_0, .int .u32 a0_1] := q40.now
              replace h40 : a.tmps[40]? = some (.agg #[.int .u32 a0_0, .int .u32 a0_1]) := h40
              have e40 : a.eval (.tmp 40) = .agg #[.int .u32 a0_0, .int .u32 a0_1] := eval_of h40
              exact ⟨_, rfl, rfl, Ok.call Tryd.func17 (by kernel_rfl) rfl #[.agg #[.int .u32 a0_0, .int .u32 a0_1]] (wanted_none rfl) rfl (by simp [e40]) ((label_Right.calls a0_0 a0_1 (rightL a0_0 a0_1) _ (label_right _ _)).mono (by rintro e w' ⟨rfl, hb⟩; exact ⟨_, rfl, fun _ _ => rfl, hb⟩))⟩
            · have h3 : a.tmps[3]? = some (.pointer (some ⟨B3, 0, none⟩)) := (hel 3 (by decide)).trans rfl
              have e3 : a.eval (.tmp 3) = .pointer (some ⟨B3, 0, none⟩) := eval_of h3
              obtain ⟨d0, d1⟩ := box_cells (blk_below H3.out hB)
              exact ⟨_, rfl, rfl, Ok.pure (.agg #[.int .u32 a0_0, .int .u32 a0_1]) (wanted_none rfl) (by simp only [execOp]; go_simp) (fun _ _ => rfl)⟩
            · obtain ⟨v42, h42, q42⟩ := hdep (2, 42) (by decide) (by decide)
              obtain rfl : v42 = .agg #[.int .u32 a0_0, .int .u32 a0_1] := q42.now
              replace h42 : a.tmps[42]? = some (.agg #[.int .u32 a0_0, .int .u32 a0_1]) := h42
              have e42 : a.eval (.tmp 42) = .agg #[.int .u32 a0_0, .int .u32 a0_1] := eval_of h42
              exact ⟨_, rfl, rfl, Ok.call Tryd.func18 (by kernel_rfl) rfl #[.agg #[.int .u32 a0_0, .int .u32 a0_1]] (wanted_none rfl) rfl (by simp [e42]) ((understudyref03_Right.calls a0_0 a0_1 (rightL a0_0 a0_1) _ (label_right _ _)).mono (by rintro e w' ⟨rfl, hb⟩; exact ⟨_, rfl, fun _ _ => rfl, hb⟩))⟩
            · obtain ⟨v41, h41, q41⟩ := hdep (1, 41) (by decide) (by decide)
              obtain rfl : v41 = .bool (rightL a0_0 a0_1) := q41.now
              replace h41 : a.tmps[41]? = some (.bool (rightL a0_0 a0_1)) := h41
              have e41 : a.eval (.tmp 41) = .bool (rightL a0_0 a0_1) := eval_of h41
              obtain ⟨v43, h43, q43⟩ := hdep (3, 43) (by decide) (by decide)
              obtain rfl : v43 = .bool (rightL a0_0 a0_1) := q43.now
              replace h43 : a.tmps[43]? = some (.bool (rightL a0_0 a0_1)) := h43
              have e43 : a.eval (.tmp 43) = .bool (rightL a0_0 a0_1) := eval_of h43
              exact ⟨_, rfl, rfl, Ok.pure (.bool true) (wanted_none rfl) (by simp only [execOp]; go_simp <;> simp) (fun _ _ => rfl)⟩
            · obtain ⟨v44, h44, q44⟩ := hdep (4, 44) (by decide) (by decide)
              obtain rfl : v44 = .bool true := q44.now
              replace h44 : a.tmps[44]? = some (.bool true) := h44
              have e44 : a.eval (.tmp 44) = .bool true := eval_of h44
              exact ⟨_, rfl, rfl, Ok.move (wanted_none rfl) (.inl rfl) (eval_of h44) q44⟩
            · obtain ⟨v45, h45, q45⟩ := hdep (5, 45) (by decide) (by decide)
              obtain rfl : v45 = .bool true := q45.now
              replace h45 : a.tmps[45]? = some (.bool true) := h45
              have e45 : a.eval (.tmp 45) = .bool true := eval_of h45
              have h3 : a.tmps[3]? = some (.pointer (some ⟨B3, 0, none⟩)) := (hel 3 (by decide)).trans rfl
              have e3 : a.eval (.tmp 3) = .pointer (some ⟨B3, 0, none⟩) := eval_of h3
              obtain ⟨d0, d1⟩ := box_cells (blk_below H3.out hB)
              exact ⟨_, rfl, rfl, Ok.pure (.agg #[.int .u32 a0_0, .int .u32 a0_1]) (wanted_on (t := 45) rfl rfl rfl h45) (by simp only [execOp]; go_simp) (fun _ _ => rfl)⟩
            · obtain ⟨v45, h45, q45⟩ := hdep (5, 45) (by decide) (by decide)
              obtain rfl : v45 = .bool true := q45.now
              replace h45 : a.tmps[45]? = some (.bool true) := h45
              have e45 : a.eval (.tmp 45) = .bool true := eval_of h45
              have h4 : a.tmps[4]? = some (.pointer (some ⟨B4, 0, none⟩)) := (hel 4 (by decide)).trans rfl
              have e4 : a.eval (.tmp 4) = .pointer (some ⟨B4, 0, none⟩) := eval_of h4
              obtain ⟨d0, d1⟩ := box_cells (blk_below H4.out hB)
              exact ⟨_, rfl, rfl, Ok.pure (.agg #[.int .u32 a1_0, .int .u32 a1_1]) (wanted_on (t := 45) rfl rfl rfl h45) (by simp only [execOp]; go_simp) (fun _ _ => rfl)⟩
            · obtain ⟨v45, h45, q45⟩ := hdep (5, 45) (by decide) (by decide)
              obtain rfl : v45 = .bool true := q45.now
              replace h45 : a.tmps[45]? = some (.bool true) := h45
              have e45 : a.eval (.tmp 45) = .bool true := eval_of h45
              obtain ⟨v46, h46, q46⟩ := hdep (6, 46) (by decide) (by decide)
              obtain rfl : v46 = .agg #[.int .u32 a0_0, .int .u32 a0_1] := q46.now
              replace h46 : a.tmps[46]? = some (.agg #[.int .u32 a0_0, .int .u32 a0_1]) := h46
              have e46 : a.eval (.tmp 46) = .agg #[.int .u32 a0_0, .int .u32 a0_1] := eval_of h46
              obtain ⟨v47, h47, q47⟩ := hdep (7, 47) (by decide) (by decide)
              obtain rfl : v47 = .agg #[.int .u32 a1_0, .int .u32 a1_1] := q47.now
              replace h47 : a.tmps[47]? = some (.agg #[.int .u32 a1_0, .int .u32 a1_1]) := h47
              have e47 : a.eval (.tmp 47) = .agg #[.int .u32 a1_0, .int .u32 a1_1] := eval_of h47
              exact ⟨_, rfl, rfl, Ok.call Tryd.func11 (by kernel_rfl) rfl #[.agg #[.int .u32 a0_0, .int .u32 a0_1], .agg #[.int .u32 a1_0, .int .u32 a1_1]] (wanted_on (t := 45) rfl rfl rfl h45) rfl (by simp [e46, e47]) ((label_Compare.calls 3 _ _ _ _ _ _ (label_cmp 0 _ _ _ _)).mono (by rintro e w' ⟨rfl, hb⟩; exact ⟨_, rfl, fun _ _ => rfl, hb⟩))⟩
            · obtain ⟨v45, h45, q45⟩ := hdep (5, 45) (by decide) (by decide)
              obtain rfl : v45 = .bool true := q45.now
              replace h45 : a.tmps[45]? = some (.bool true) := h45
              have e45 : a.eval (.tmp 45) = .bool true := eval_of h45
              have h3 : a.tmps[3]? = some (.pointer (some ⟨B3, 0, none⟩)) := (hel 3 (by decide)).trans rfl
              have e3 : a.eval (.tmp 3) = .pointer (some ⟨B3, 0, none⟩) := eval_of h3
              obtain ⟨d0, d1⟩ := box_cells (blk_below H3.out hB)
              exact ⟨_, rfl, rfl, Ok.pure (.agg #[.int .u32 a0_0, .int .u32 a0_1]) (wanted_on (t := 45) rfl rfl rfl h45) (by simp only [execOp]; go_simp) (fun _ _ => rfl)⟩
            · obtain ⟨v45, h45, q45⟩ := hdep (5, 45) (by decide) (by decide)
              obtain rfl : v45 = .bool true := q45.now
              replace h45 : a.tmps[45]? = some (.bool true) := h45
              have e45 : a.eval (.tmp 45) = .bool true := eval_of h45
              have h4 : a.tmps[4]? = some (.pointer (some ⟨B4, 0, none⟩)) := (hel 4 (by decide)).trans rfl
              have e4 : a.eval (.tmp 4) = .pointer (some ⟨B4, 0, none⟩) := eval_of h4
              obtain ⟨d0, d1⟩ := box_cells (blk_below H4.out hB)
              exact ⟨_, rfl, rfl, Ok.pure (.agg #[.int .u32 a1_0, .int .u32 a1_1]) (wanted_on (t := 45) rfl rfl rfl h45) (by simp only [execOp]; go_simp) (fun _ _ => rfl)⟩
            · obtain ⟨v45, h45, q45⟩ := hdep (5, 45) (by decide) (by decide)
              obtain rfl : v45 = .bool true := q45.now
              replace h45 : a.tmps[45]? = some (.bool true) := h45
              have e45 : a.eval (.tmp 45) = .bool true := eval_of h45
              obtain ⟨v49, h49, q49⟩ := hdep (9, 49) (by decide) (by decide)
              obtain rfl : v49 = .agg #[.int .u32 a0_0, .int .u32 a0_1] := q49.now
              replace h49 : a.tmps[49]? = some (.agg #[.int .u32 a0_0, .int .u32 a0_1]) := h49
              have e49 : a.eval (.tmp 49) = .agg #[.int .u32 a0_0, .int .u32 a0_1] := eval_of h49
              obtain ⟨v50, h50, q50⟩ := hdep (10, 50) (by decide) (by decide)
              obtain rfl : v50 = .agg #[.int .u32 a1_0, .int .u32 a1_1] := q50.now
              replace h50 : a.tmps[50]? = some (.agg #[.int .u32 a1_0, .int .u32 a1_1]) := h50
              have e50 : a.eval (.tmp 50) = .agg #[.int .u32 a1_0, .int .u32 a1_1] := eval_of h50
              exact ⟨_, rfl, rfl, Ok.call Tryd.func19 (by kernel_rfl) rfl #[.agg #[.int .u32 a0_0, .int .u32 a0_1], .agg #[.int .u32 a1_0, .int .u32 a1_1]] (wanted_on (t := 45) rfl rfl rfl h45) rfl (by simp [e49, e50]) ((understudyref03_Compare.calls _ _ _ _ _ _ (ref_cmp _ _ _ _)).mono (by rintro e w' ⟨rfl, hb⟩; exact ⟨_, rfl, fun _ _ => rfl, hb⟩))⟩
            · obtain ⟨v45, h45, q45⟩ := hdep (5, 45) (by decide) (by decide)
              obtain rfl : v45 = .bool true := q45.now
              replace h45 : a.tmps[45]? = some (.bool true) := h45
              have e45 : a.eval (.tmp 45) = .bool true := eval_of h45
              obtain ⟨v48, h48, q48⟩ := hdep (8, 48) (by decide) (by decide)
              obtain rfl : v48 = .int .i64 (cmpL a0_0 a0_1 a1_0 a1_1) := q48.now
              replace h48 : a.tmps[48]? = some (.int .i64 (cmpL a0_0 a0_1 a1_0 a1_1)) := h48
              have e48 : a.eval (.tmp 48) = .int .i64 (cmpL a0_0 a0_1 a1_0 a1_1) := eval_of h48
              obtain ⟨v51, h51, q51⟩ := hdep (11, 51) (by decide) (by decide)
              obtain rfl : v51 = .int .i64 (cmpL a0_0 a0_1 a1_0 a1_1) := q51.now
              replace h51 : a.tmps[51]? = some (.int .i64 (cmpL a0_0 a0_1 a1_0 a1_1)) := h51
              have e51 : a.eval (.tmp 51) = .int .i64 (cmpL a0_0 a0_1 a1_0 a1_1) := eval_of h51
              exact ⟨_, rfl, rfl, Ok.pure (.bool true) (wanted_on (t := 45) rfl rfl rfl h45) (by simp only [execOp]; go_simp <;> simp) (fun _ _ => rfl)⟩
            · obtain ⟨v45, h45, q45⟩ := hdep (5, 45) (by decide) (by decide)
              obtain rfl : v45 = .bool true := q45.now
              replace h45 : a.tmps[45]? = some (.bool true) := h45
              have e45 : a.eval (.tmp 45) = .bool true := eval_of h45
              obtain ⟨v52, h52, q52⟩ := hdep (12, 52) (by decide) (by decide)
              obtain rfl : v52 = .bool true := q52.now
              replace h52 : a.tmps[52]? = some (.bool true) := h52
              have e52 : a.eval (.tmp 52) = .bool true := eval_of h52
              exact ⟨_, rfl, rfl, Ok.pure (.bool true) (wanted_none rfl) (by simp only [execOp]; go_simp) (fun _ _ => rfl)⟩
            · obtain ⟨v53, h53, q53⟩ := hdep (13, 53) (by decide) (by decide)
              obtain rfl : v53 = .bool true := q53.now
              replace h53 : a.tmps[53]? = some (.bool true) := h53
              have e53 : a.eval (.tmp 53) = .bool true := eval_of h53
              exact ⟨_, rfl, rfl, Ok.move (wanted_none rfl) (.inl rfl) (eval_of h53) q53⟩
            · obtain ⟨v54, h54, q54⟩ := hdep (14, 54) (by decide) (by decide)
              obtain rfl : v54 = .bool true := q54.now
              replace h54 : a.tmps[54]? = some (.bool true) := h54
              have e54 : a.eval (.tmp 54) = .bool true := eval_of h54
              have h7 : a.tmps[7]? = some (.pointer (some ⟨B7, 0, none⟩)) := (hel 7 (by decide)).trans rfl
              have e7 : a.eval (.tmp 7) = .pointer (some ⟨B7, 0, none⟩) := eval_of h7
              obtain ⟨d0, d1⟩ := box_cells (blk_below H7.out hB)
              exact ⟨_, rfl, rfl, Ok.pure (.agg #[.int .u32 n0, .int .u32 n1]) (wanted_on (t := 54) rfl rfl rfl h54) (by simp only [execOp]; go_simp) (fun _ _ => rfl)⟩
            · obtain ⟨v54, h54, q54⟩ := hdep (14, 54) (by decide) (by decide)
              obtain rfl : v54 = .bool true := q54.now
              replace h54 : a.tmps[54]? = some (.bool true) := h54
              have e54 : a.eval (.tmp 54) = .bool true := eval_of h54
              have h9 : a.tmps[9]? = some (.pointer (some ⟨B9, 0, none⟩)) := (hel 9 (by decide)).trans rfl
              have e9 : a.eval (.tmp 9) = .pointer (some ⟨B9, 0, none⟩) := eval_of h9
              obtain ⟨d0, d1⟩ := box_cells (blk_below H9.out hB)
              exact ⟨_, rfl, rfl, Ok.pure (.agg #[.int .u32 n0, .int .u32 n1]) (wanted_on (t := 54) rfl rfl rfl h54) (by simp only [execOp]; go_simp) (fun _ _ => rfl)⟩
            · obtain ⟨v54, h54, q54⟩ := hdep (14, 54) (by decide) (by decide)
              obtain rfl : v54 = .bool true := q54.now
              replace h54 : a.tmps[54]? = some (.bool true) := h54
              have e54 : a.eval (.tmp 54) = .bool true := eval_of h54
              obtain ⟨v55, h55, q55⟩ := hdep (15, 55) (by decide) (by decide)
              obtain rfl : v55 = .agg #[.int .u32 n0, .int .u32 n1] := q55.now
              replace h55 : a.tmps[55]? = some (.agg #[.int .u32 n0, .int .u32 n1]) := h55
              have e55 : a.eval (.tmp 55) = .agg #[.int .u32 n0, .int .u32 n1] := eval_of h55
              obtain ⟨v56, h56, q56⟩ := hdep (16, 56) (by decide) (by decide)
              obtain rfl : v56 = .agg #[.int .u32 n0, .int .u32 n1] := q56.now
              replace h56 : a.tmps[56]? = some (.agg #[.int .u32 n0, .int .u32 n1]) := h56
              have e56 : a.eval (.tmp 56) = .agg #[.int .u32 n0, .int .u32 n1] := eval_of h56
              exact ⟨_, rfl, rfl, Ok.pure (.bool true) (wanted_on (t := 54) rfl rfl rfl h54) (by simp only [execOp]; go_simp <;> simp [binOp, Op.equal, eqA24, go_sem]) (fun _ _ => rfl)⟩
            · obtain ⟨v54, h54, q54⟩ := hdep (14, 54) (by decide) (by decide)
              obtain rfl : v54 = .bool true := q54.now
              replace h54 : a.tmps[54]? = some (.bool true) := h54
              have e54 : a.eval (.tmp 54) = .bool true := eval_of h54
              obtain ⟨v57, h57, q57⟩ := hdep (17, 57) (by decide) (by decide)
              obtain rfl : v57 = .bool true := q57.now
              replace h57 : a.tmps[57]? = some (.bool true) := h57
              have e57 : a.eval (.tmp 57) = .bool true := eval_of h57
              exact ⟨_, rfl, rfl, Ok.pure (.bool true) (wanted_none rfl) (by simp only [execOp]; go_simp) (fun _ _ => rfl)⟩
            · obtain ⟨v58, h58, q58⟩ := hdep (18, 58) (by decide) (by decide)
              obtain rfl : v58 = .bool true := q58.now
              replace h58 : a.tmps[58]? = some (.bool true) := h58
              have e58 : a.eval (.tmp 58) = .bool true := eval_of h58
              exact ⟨_, rfl, rfl, Ok.move (wanted_none rfl) (.inl rfl) (eval_of h58) q58⟩
            · obtain ⟨v59, h59, q59⟩ := hdep (19, 59) (by decide) (by decide)
              obtain rfl : v59 = .bool true := q59.now
              replace h59 : a.tmps[59]? = some (.bool true) := h59
              have e59 : a.eval (.tmp 59) = .bool true := eval_of h59
              have h8 : a.tmps[8]? = some (.int .i64 ne) := (hel 8 (by decide)).trans rfl
              have e8 : a.eval (.tmp 8) = .int .i64 ne := eval_of h8
              exact ⟨_, rfl, rfl, Ok.move (wanted_on (t := 59) rfl rfl rfl h59) (.inl rfl) e8 (fun _ _ => rfl)⟩
            · obtain ⟨v59, h59, q59⟩ := hdep (19, 59) (by decide) (by decide)
              obtain rfl : v59 = .bool true := q59.now
              replace h59 : a.tmps[59]? = some (.bool true) := h59
              have e59 : a.eval (.tmp 59) = .bool true := eval_of h59
              have h10 : a.tmps[10]? = some (.int .i64 ne) := (hel 10 (by decide)).trans rfl
              have e10 : a.eval (.tmp 10) = .int .i64 ne := eval_of h10
              exact ⟨_, rfl, rfl, Ok.move (wanted_on (t := 59) rfl rfl rfl h59) (.inl rfl) e10 (fun _ _ => rfl)⟩
            · obtain ⟨v59, h59, q59⟩ := hdep (19, 59) (by decide) (by decide)
              obtain rfl : v59 = .bool true := q59.now
              replace h59 : a.tmps[59]? = some (.bool true) := h59
              have e59 : a.eval (.tmp 59) = .bool true := eval_of h59
              obtain ⟨v60, h60, q60⟩ := hdep (20, 60) (by decide) (by decide)
              obtain rfl : v60 = .int .i64 ne := q60.now
              replace h60 : a.tmps[60]? = some (.int .i64 ne) := h60
              have e60 : a.eval (.tmp 60) = .int .i64 ne := eval_of h60
              obtain ⟨v61, h61, q61⟩ := hdep (21, 61) (by decide) (by decide)
              obtain rfl : v61 = .int .i64 ne := q61.now
              replace h61 : a.tmps[61]? = some (.int .i64 ne) := h61
              have e61 : a.eval (.tmp 61) = .int .i64 ne := eval_of h61
              exact ⟨_, rfl, rfl, Ok.pure (.bool true) (wanted_on (t := 59) rfl rfl rfl h59) (by simp only [execOp]; go_simp <;> simp) (fun _ _ => rfl)⟩
            · obtain ⟨v59, h59, q59⟩ := hdep (19, 59) (by decide) (by decide)
              obtain rfl : v59 = .bool true := q59.now
              replace h59 : a.tmps[59]? = some (.bool true) := h59
              have e59 : a.eval (.tmp 59) = .bool true := eval_of h59
              obtain ⟨v62, h62, q62⟩ := hdep (22, 62) (by decide) (by decide)
              obtain rfl : v62 = .bool true := q62.now
              replace h62 : a.tmps[62]? = some (.bool true) := h62
              have e62 : a.eval (.tmp 62) = .bool true := eval_of h62
              exact ⟨_, rfl, rfl, Ok.pure (.bool true) (wanted_none rfl) (by simp only [execOp]; go_simp) (fun _ _ => rfl)⟩
            · obtain ⟨v63, h63, q63⟩ := hdep (23, 63) (by decide) (by decide)
              obtain rfl : v63 = .bool true := q63.now
              replace h63 : a.tmps[63]? = some (.bool true) := h63
              have e63 : a.eval (.tmp 63) = .bool true := eval_of h63
              exact ⟨_, rfl, rfl, Ok.move (wanted_none rfl) (.inl rfl) (eval_of h63) q63⟩
            · obtain ⟨v64, h64, q64⟩ := hdep (24, 64) (by decide) (by decide)
              obtain rfl : v64 = .bool true := q64.now
              replace h64 : a.tmps[64]? = some (.bool true) := h64
              have e64 : a.eval (.tmp 64) = .bool true := eval_of h64
              have h11 : a.tmps[11]? = some (.pointer (some ⟨B11, 0, none⟩)) := (hel 11 (by decide)).trans rfl
              have e11 : a.eval (.tmp 11) = .pointer (some ⟨B11, 0, none⟩) := eval_of h11
              obtain ⟨d0, d1⟩ := box_cells (blk_below H11.out hB)
              exact ⟨_, rfl, rfl, Ok.pure (.agg #[.int .u32 r0, .int .u32 r1]) (wanted_on (t := 64) rfl rfl rfl h64) (by simp only [execOp]; go_simp) (fun _ _ => rfl)⟩
            · obtain ⟨v64, h64, q64⟩ := hdep (24, 64) (by decide) (by decide)
              obtain rfl : v64 = .bool true := q64.now
              replace h64 : a.tmps[64]? = some (.bool true) := h64
              have e64 : a.eval (.tmp 64) = .bool true := eval_of h64
              have h13 : a.tmps[13]? = some (.pointer (some ⟨B13, 0, none⟩)) := (hel 13 (by decide)).trans rfl
              have e13 : a.eval (.tmp 13) = .pointer (some ⟨B13, 0, none⟩) := eval_of h13
              obtain ⟨d0, d1⟩ := box_cells (blk_below H13.out hB)
              exact ⟨_, rfl, rfl, Ok.pure (.agg #[.int .u32 r0, .int .u32 r1]) (wanted_on (t := 64) rfl rfl rfl h64) (by simp only [execOp]; go_simp) (fun _ _ => rfl)⟩
            · obtain ⟨v64, h64, q64⟩ := hdep (24, 64) (by decide) (by decide)
              obtain rfl : v64 = .bool true := q64.now
              replace h64 : a.tmps[64]? = some (.bool true) := h64
              have e64 : a.eval (.tmp 64) = .bool true := eval_of h64
              obtain ⟨v65, h65, q65⟩ := hdep (25, 65) (by decide) (by decide)
              obtain rfl : v65 = .agg #[.int .u32 r0, .int .u32 r1] := q65.now
              replace h65 : a.tmps[65]? = some (.agg #[.int .u32 r0, .int .u32 r1]) := h65
              have e65 : a.eval (.tmp 65) = .agg #[.int .u32 r0, .int .u32 r1] := eval_of h65
              obtain ⟨v66, h66, q66⟩ := hdep (26, 66) (by decide) (by decide)
              obtain rfl : v66 = .agg #[.int .u32 r0, .int .u32 r1] := q66.now
              replace h66 : a.tmps[66]? = some (.agg #[.int .u32 r0, .int .u32 r1]) := h66
              have e66 : a.eval (.tmp 66) = .agg #[.int .u32 r0, .int .u32 r1] := eval_of h66
              exact ⟨_, rfl, rfl, Ok.pure (.bool true) (wanted_on (t := 64) rfl rfl rfl h64) (by simp only [execOp]; go_simp <;> simp [binOp, Op.equal, eqA24, go_sem]) (fun _ _ => rfl)⟩
            · obtain ⟨v64, h64, q64⟩ := hdep (24, 64) (by decide) (by decide)
              obtain rfl : v64 = .bool true := q64.now
              replace h64 : a.tmps[64]? = some (.bool true) := h64
              have e64 : a.eval (.tmp 64) = .bool true := eval_of h64
              obtain ⟨v67, h67, q67⟩ := hdep (27, 67) (by decide) (by decide)
              obtain rfl : v67 = .bool true := q67.now
              replace h67 : a.tmps[67]? = some (.bool true) := h67
              have e67 : a.eval (.tmp 67) = .bool true := eval_of h67
              exact ⟨_, rfl, rfl, Ok.pure (.bool true) (wanted_none rfl) (by simp only [execOp]; go_simp) (fun _ _ => rfl)⟩
            · obtain ⟨v68, h68, q68⟩ := hdep (28, 68) (by decide) (by decide)
              obtain rfl : v68 = .bool true := q68.now
              replace h68 : a.tmps[68]? = some (.bool true) := h68
              have e68 : a.eval (.tmp 68) = .bool true := eval_of h68
              exact ⟨_, rfl, rfl, Ok.move (wanted_none rfl) (.inl rfl) (eval_of h68) q68⟩
            · obtain ⟨v69, h69, q69⟩ := hdep (29, 69) (by decide) (by decide)
              obtain rfl : v69 = .bool true := q69.now
              replace h69 : a.tmps[69]? = some (.bool true) := h69
              have e69 : a.eval (.tmp 69) = .bool true := eval_of h69
              have h12 : a.tmps[12]? = some (.int .i64 re) := (hel 12 (by decide)).trans rfl
              have e12 : a.eval (.tmp 12) = .int .i64 re := eval_of h12
              exact ⟨_, rfl, rfl, Ok.move (wanted_on (t := 69) rfl rfl rfl h69) (.inl rfl) e12 (fun _ _ => rfl)⟩
            · obtain ⟨v69, h69, q69⟩ := hdep (29, 69) (by decide) (by decide)
              obtain rfl : v69 = .bool true := q69.now
              replace h69 : a.tmps[69]? = some (.bool true) := h69
              have e69 : a.eval (.tmp 69) = .bool true := eval_of h69
              have h14 : a.tmps[14]? = some (.int .i64 re) := (hel 14 (by decide)).trans rfl
              have e14 : a.eval (.tmp 14) = .int .i64 re := eval_of h14
              exact ⟨_, rfl, rfl, Ok.move (wanted_on (t := 69) rfl rfl rfl h69) (.inl rfl) e14 (fun _ _ => rfl)⟩
            · obtain ⟨v69, h69, q69⟩ := hdep (29, 69) (by decide) (by decide)
              obtain rfl : v69 = .bool true := q69.now
              replace h69 : a.tmps[69]? = some (.bool true) := h69
              have e69 : a.eval (.tmp 69) = .bool true := eval_of h69
              obtain ⟨v70, h70, q70⟩ := hdep (30, 70) (by decide) (by decide)
              obtain rfl : v70 = .int .i64 re := q70.now
              replace h70 : a.tmps[70]? = some (.int .i64 re) := h70
              have e70 : a.eval (.tmp 70) = .int .i64 re := eval_of h70
              obtain ⟨v71, h71, q71⟩ := hdep (31, 71) (by decide) (by decide)
              obtain rfl : v71 = .int .i64 re := q71.now
              replace h71 : a.tmps[71]? = some (.int .i64 re) := h71
              have e71 : a.eval (.tmp 71) = .int .i64 re := eval_of h71
              exact ⟨_, rfl, rfl, Ok.pure (.bool true) (wanted_on (t := 69) rfl rfl rfl h69) (by simp only [execOp]; go_simp <;> simp) (fun _ _ => rfl)⟩
            · obtain ⟨v69, h69, q69⟩ := hdep (29, 69) (by decide) (by decide)
              obtain rfl : v69 = .bool true := q69.now
              replace h69 : a.tmps[69]? = some (.bool true) := h69
              have e69 : a.eval (.tmp 69) = .bool true := eval_of h69
              obtain ⟨v72, h72, q72⟩ := hdep (32, 72) (by decide) (by decide)
              obtain rfl : v72 = .bool true := q72.now
              replace h72 : a.tmps[72]? = some (.bool true) := h72
              have e72 : a.eval (.tmp 72) = .bool true := eval_of h72
              exact ⟨_, rfl, rfl, Ok.pure (.bool true) (wanted_none rfl) (by simp only [execOp]; go_simp) (fun _ _ => rfl)⟩
            · obtain ⟨v73, h73, q73⟩ := hdep (33, 73) (by decide) (by decide)
              obtain rfl : v73 = .bool true := q73.now
              replace h73 : a.tmps[73]? = some (.bool true) := h73
              have e73 : a.eval (.tmp 73) = .bool true := eval_of h73
              exact ⟨_, rfl, rfl, Ok.move (wanted_none rfl) (.inl rfl) (eval_of h73) q73⟩
            · obtain ⟨v74, h74, q74⟩ := hdep (34, 74) (by decide) (by decide)
              obtain rfl : v74 = .bool true := q74.now
              replace h74 : a.tmps[74]? = some (.bool true) := h74
              have e74 : a.eval (.tmp 74) = .bool true := eval_of h74
              have h2 : a.tmps[2]? = some (.slice A2 l2.length c2) := (hel 2 (by decide)).trans rfl
              have e2 : a.eval (.tmp 2) = .slice A2 l2.length c2 := eval_of h2
              exact ⟨_, rfl, rfl, Ok.move (wanted_on (t := 74) rfl rfl rfl h74) (.inl rfl) e2 (fun _ _ => rfl)⟩
            · obtain ⟨v74, h74, q74⟩ := hdep (34, 74) (by decide) (by decide)
              obtain rfl : v74 = .bool true := q74.now
              replace h74 : a.tmps[74]? = some (.bool true) := h74
              have e74 : a.eval (.tmp 74) = .bool true := eval_of h74
              obtain ⟨v75, h75, q75⟩ := hdep (35, 75) (by decide) (by decide)
              obtain rfl : v75 = .slice A2 l2.length c2 := q75.now
              replace h75 : a.tmps[75]? = some (.slice A2 l2.length c2) := h75
              have e75 : a.eval (.tmp 75) = .slice A2 l2.length c2 := eval_of h75
              exact ⟨_, rfl, rfl, Ok.call Tryd.func14 (by kernel_rfl) rfl #[.slice A2 l2.length c2] (wanted_on (t := 74) rfl rfl rfl h74) rfl (by simp [e75]) ((label_Last.calls A2 c2 l2 m0 m1 _ (Kd.C_below HRR.out hB) HC.out HLA.out).mono (by rintro e w' ⟨rfl, hb⟩; exact ⟨_, rfl, fun _ _ => rfl, hb⟩))⟩
            · obtain ⟨v74, h74, q74⟩ := hdep (34, 74) (by decide) (by decide)
              obtain rfl : v74 = .bool true := q74.now
              replace h74 : a.tmps[74]? = some (.bool true) := h74
              have e74 : a.eval (.tmp 74) = .bool true := eval_of h74
              have h2 : a.tmps[2]? = some (.slice A2 l2.length c2) := (hel 2 (by decide)).trans rfl
              have e2 : a.eval (.tmp 2) = .slice A2 l2.length c2 := eval_of h2
              exact ⟨_, rfl, rfl, Ok.move (wanted_on (t := 74) rfl rfl rfl h74) (.inl rfl) e2 (fun _ _ => rfl)⟩
            · obtain ⟨v74, h74, q74⟩ := hdep (34, 74) (by decide) (by decide)
              obtain rfl : v74 = .bool true := q74.now
              replace h74 : a.tmps[74]? = some (.bool true) := h74
              have e74 : a.eval (.tmp 74) = .bool true := eval_of h74
              obtain ⟨v77, h77, q77⟩ := hdep (37, 77) (by decide) (by decide)
              obtain rfl : v77 = .slice A2 l2.length c2 := q77.now
              replace h77 : a.tmps[77]? = some (.slice A2 l2.length c2) := h77
              have e77 : a.eval (.tmp 77) = .slice A2 l2.length c2 := eval_of h77
              exact ⟨_, rfl, rfl, Ok.call Tryd.func20 (by kernel_rfl) rfl #[.slice A2 l2.length c2] (wanted_on (t := 74) rfl rfl rfl h74) rfl (by simp [e77]) ((understudyref03_Last.calls k A2 c2 l2 m0 m1 _ (Kd.C_below HRR.out hB) HC.out HLR.out).mono (by rintro e w' ⟨rfl, hb⟩; exact ⟨_, rfl, fun _ _ => rfl, hb⟩))⟩
            · obtain ⟨v74, h74, q74⟩ := hdep (34, 74) (by decide) (by decide)
              obtain rfl : v74 = .bool true := q74.now
              replace h74 : a.tmps[74]? = some (.bool true) := h74
              have e74 : a.eval (.tmp 74) = .bool true := eval_of h74
              obtain ⟨v76, h76, q76⟩ := hdep (36, 76) (by decide) (by decide)
              obtain rfl : v76 = .agg #[.int .u32 m0, .int .u32 m1] := q76.now
              replace h76 : a.tmps[76]? = some (.agg #[.int .u32 m0, .int .u32 m1]) := h76
              have e76 : a.eval (.tmp 76) = .agg #[.int .u32 m0, .int .u32 m1] := eval_of h76
              obtain ⟨v78, h78, q78⟩ := hdep (38, 78) (by decide) (by decide)
              obtain rfl : v78 = .agg #[.int .u32 m0, .int .u32 m1] := q78.now
              replace h78 : a.tmps[78]? = some (.agg #[.int .u32 m0, .int .u32 m1]) := h78
              have e78 : a.eval (.tmp 78) = .agg #[.int .u32 m0, .int .u32 m1] := eval_of h78
              exact ⟨_, rfl, rfl, Ok.pure (.bool true) (wanted_on (t := 74) rfl rfl rfl h74) (by simp only [execOp]; go_simp <;> simp [binOp, Op.equal, eqA24, go_sem]) (fun _ _ => rfl)⟩
            · obtain ⟨v74, h74, q74⟩ := hdep (34, 74) (by decide) (by decide)
              obtain rfl : v74 = .bool true := q74.now
              replace h74 : a.tmps[74]? = some (.bool true) := h74
              have e74 : a.eval (.tmp 74) = .bool true := eval_of h74
              obtain ⟨v79, h79, q79⟩ := hdep (39, 79) (by decide) (by decide)
              obtain rfl : v79 = .bool true := q79.now
              replace h79 : a.tmps[79]? = some (.bool true) := h79
              have e79 : a.eval (.tmp 79) = .bool true := eval_of h79
              exact ⟨_, rfl, rfl, Ok.pure (.bool true) (wanted_none rfl) (by simp only [execOp]; go_simp) (fun _ _ => rfl)⟩
            · obtain ⟨v80, h80, q80⟩ := hdep (40, 80) (by decide) (by decide)
              obtain rfl : v80 = .bool true := q80.now
              replace h80 : a.tmps[80]? = some (.bool true) := h80
              have e80 : a.eval (.tmp 80) = .bool true := eval_of h80
              exact ⟨_, rfl, rfl, Ok.move (wanted_none rfl) (.inr rfl) (eval_of h80) q80⟩
          intro vs wE hBE hS
          have f40 := hS (0, 40) (by decide)
          have f41 := hS (1, 41) (by decide)
          have f42 := hS (2, 42) (by decide)
          have f43 := hS (3, 43) (by decide)
          have f44 := hS (4, 44) (by decide)
          have f45 := hS (5, 45) (by decide)
          have f46 := hS (6, 46) (by decide)
          have f47 := hS (7, 47) (by decide)
          have f48 := hS (8, 48) (by decide)
          have f49 := hS (9, 49) (by decide)
          have f50 := hS (10, 50) (by decide)
          have f51 := hS (11, 51) (by decide)
          have f52 := hS (12, 52) (by decide)
          have f53 := hS (13, 53) (by decide)
          have f54 := hS (14, 54) (by decide)
          have f55 := hS (15, 55) (by decide)
          have f56 := hS (16, 56) (by decide)
          have f57 := hS (17, 57) (by decide)
          have f58 := hS (18, 58) (by decide)
          have f59 := hS (19, 59) (by decide)
          have f60 := hS (20, 60) (by decide)
          have f61 := hS (21, 61) (by decide)
          have f62 := hS (22, 62) (by decide)
          have f63 := hS (23, 63) (by decide)
          have f64 := hS (24, 64) (by decide)
          have f65 := hS (25, 65) (by decide)
          have f66 := hS (26, 66) (by decide)
          have f67 := hS (27, 67) (by decide)
          have f68 := hS (28, 68) (by decide)
          have f69 := hS (29, 69) (by decide)
          have f70 := hS (30, 70) (by decide)
          have f71 := hS (31, 71) (by decide)
          have f72 := hS (32, 72) (by decide)
          have f73 := hS (33, 73) (by decide)
          have f74 := hS (34, 74) (by decide)
          have f75 := hS (35, 75) (by decide)
          have f76 := hS (36, 76) (by decide)
          have f77 := hS (37, 77) (by decide)
          have f78 := hS (38, 78) (by decide)
          have f79 := hS (39, 79) (by decide)
          have f80 := hS (40, 80) (by decide)
          have f6 := hS (41, 6) (by decide)
          clear hS
          simp only [tells, List.map_cons, List.map_nil, putSel, if_true]
          generalize vs 0 = z40 at *
          generalize vs 1 = z41 at *
          generalize vs 2 = z42 at *
          generalize vs 3 = z43 at *
          generalize vs 4 = z44 at *
          generalize vs 5 = z45 at *
          generalize vs 6 = z46 at *
          generalize vs 7 = z47 at *
          generalize vs 8 = z48 at *
          generalize vs 9 = z49 at *
          generalize vs 10 = z50 at *
          generalize vs 11 = z51 at *
          generalize vs 12 = z52 at *
          generalize vs 13 = z53 at *
          generalize vs 14 = z54 at *
          generalize vs 15 = z55 at *
          generalize vs 16 = z56 at *
          generalize vs 17 = z57 at *
          generalize vs 18 = z58 at *
          generalize vs 19 = z59 at *
          generalize vs 20 = z60 at *
          generalize vs 21 = z61 at *
          generalize vs 22 = z62 at *
          generalize vs 23 = z63 at *
          generalize vs 24 = z64 at *
          generalize vs 25 = z65 at *
          generalize vs 26 = z66 at *
          generalize vs 27 = z67 at *
          generalize vs 28 = z68 at *
          generalize vs 29 = z69 at *
          generalize vs 30 = z70 at *
          generalize vs 31 = z71 at *
          generalize vs 32 = z72 at *
          generalize vs 33 = z73 at *
          generalize vs 34 = z74 at *
          generalize vs 35 = z75 at *
          generalize vs 36 = z76 at *
          generalize vs 37 = z77 at *
          generalize vs 38 = z78 at *
          generalize vs 39 = z79 at *
          generalize vs 40 = z80 at *
          generalize vs 41 = z6 at *
          have f40' : z40 = .agg #[.int .u32 a0_0, .int .u32 a0_1] := f40
          clear f40
          subst f40'
          have f41' : z41 = .bool (rightL a0_0 a0_1) := f41
          clear f41
          subst f41'
          have f42' : z42 = .agg #[.int .u32 a0_0, .int .u32 a0_1] := f42
          clear f42
          subst f42'
          have f43' : z43 = .bool (rightL a0_0 a0_1) := f43
          clear f43
          subst f43'
          have f44' : z44 = .bool true := f44
          clear f44
          subst f44'
          have f45' : z45 = .bool true := f45
          clear f45
          subst f45'
          have f46' : z46 = .agg #[.int .u32 a0_0, .int .u32 a0_1] := f46
          clear f46
          subst f46'
          have f47' : z47 = .agg #[.int .u32 a1_0, .int .u32 a1_1] := f47
          clear f47
          subst f47'
          have f48' : z48 = .int .i64 (cmpL a0_0 a0_1 a1_0 a1_1) := f48
          clear f48
          subst f48'
          have f49' : z49 = .agg #[.int .u32 a0_0, .int .u32 a0_1] := f49
          clear f49
          subst f49'
          have f50' : z50 = .agg #[.int .u32 a1_0, .int .u32 a1_1] := f50
          clear f50
          subst f50'
          have f51' : z51 = .int .i64 (cmpL a0_0 a0_1 a1_0 a1_1) := f51
          clear f51
          subst f51'
          have f52' : z52 = .bool true := f52
          clear f52
          subst f52'
          have f53' : z53 = .bool true := f53
          clear f53
          subst f53'
          have f54' : z54 = .bool true := f54
          clear f54
          subst f54'
          have f55' : z55 = .agg #[.int .u32 n0, .int .u32 n1] := f55
          clear f55
          subst f55'
          have f56' : z56 = .agg #[.int .u32 n0, .int .u32 n1] := f56
          clear f56
          subst f56'
          have f57' : z57 = .bool true := f57
          clear f57
          subst f57'
          have f58' : z58 = .bool true := f58
          clear f58
          subst f58'
          have f59' : z59 = .bool true := f59
          clear f59
          subst f59'
          have f60' : z60 = .int .i64 ne := f60
          clear f60
          subst f60'
          have f61' : z61 = .int .i64 ne := f61
          clear f61
          subst f61'
          have f62' : z62 = .bool true := f62
          clear f62
          subst f62'
          have f63' : z63 = .bool true := f63
          clear f63
          subst f63'
          have f64' : z64 = .bool true := f64
          clear f64
          subst f64'
          have f65' : z65 = .agg #[.int .u32 r0, .int .u32 r1] := f65
          clear f65
          subst f65'
          have f66' : z66 = .agg #[.int .u32 r0, .int .u32 r1] := f66
          clear f66
          subst f66'
          have f67' : z67 = .bool true := f67
          clear f67
          subst f67'
          have f68' : z68 = .bool true := f68
          clear f68
          subst f68'
          have f69' : z69 = .bool true := f69
          clear f69
          subst f69'
          have f70' : z70 = .int .i64 re := f70
          clear f70
          subst f70'
          have f71' : z71 = .int .i64 re := f71
          clear f71
          subst f71'
          have f72' : z72 = .bool true := f72
          clear f72
          subst f72'
          have f73' : z73 = .bool true := f73
          clear f73
          subst f73'
          have f74' : z74 = .bool true := f74
          clear f74
          subst f74'
          have f75' : z75 = .slice A2 l2.length c2 := f75
          clear f75
          subst f75'
          have f76' : z76 = .agg #[.int .u32 m0, .int .u32 m1] := f76
          clear f76
          subst f76'
          have f77' : z77 = .slice A2 l2.length c2 := f77
          clear f77
          subst f77'
          have f78' : z78 = .agg #[.int .u32 m0, .int .u32 m1] := f78
          clear f78
          subst f78'
          have f79' : z79 = .bool true := f79
          clear f79
          subst f79'
          have f80' : z80 = .bool true := f80
          clear f80
          subst f80'
          have f6' : z6 = .bool true := f6
          clear f6
          subst f6'
          simp only [Act.put, List.setIfInBounds_toArray, List.set_cons_zero, List.set_cons_succ]
          go_wp2
          go_ret
          exact ⟨rfl, below_step HB5.out hBE⟩

end Go.Proofs.YthohdcnhnopafaaDoor.PLabelTells
