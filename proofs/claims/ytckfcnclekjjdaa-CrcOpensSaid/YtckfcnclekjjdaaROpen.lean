/- The document's Open. -/
import Derived.Test.YtckfcnclekjjdaaSealRef
import Derived.Test.YtckfcnclekjjdaaFree
import Derived.Test.YtckfcnclekjjdaaTwice
namespace Go.Proofs.Ytckfcnclekjjdaa
open Go.RowKit Go.Proofs.YtckfcnclekjjdaaW.PrintWords Go.Proofs.YtckfcnclekjjdaaW.PrintLast
open Crc
/-- Is it a seal, as the document has it? -/
def rokB (xs : List UInt8) : Bool := decide (4 ≤ xs.length) && decide (sealB (xs.take (xs.length - 4)) = xs)
theorem Rd.take {w : World} {A : Option Addr} {xs : List UInt8} (h : Rd w A xs) (n : Nat) (hn : n ≤ xs.length) : Rd w A (xs.take n) := by
  have hl : (xs.take n).length = n := by rw [List.length_take]; omega
  refine ⟨rfl, by have := h.2.1; omega, fun h0 => ?_⟩
  obtain ⟨ad, e, hc⟩ := h.2.2 (by omega)
  refine ⟨ad, e, fun j p hj => hc j p ?_⟩
  rw [List.getElem?_take] at hj
  split at hj
  · exact hj
  · cases hj
theorem rok_ok (xs : List UInt8) : rokB xs = okB xs := by
  rw [Bool.eq_iff_iff]
  unfold rokB okB
  simp only [Bool.and_eq_true, decide_eq_true_eq]
  constructor
  · rintro ⟨h4, h⟩
    exact ⟨h4, by rw [← h]; exact seal_sum _⟩
  · rintro ⟨h4, h⟩
    refine ⟨h4, ?_⟩
    have e : xs = xs.take (xs.length - 4) ++ xs.drop (xs.length - 4) := (List.take_append_drop ..).symm
    have hl : (xs.drop (xs.length - 4)).length = 4 := by rw [List.length_drop]; omega
    generalize hy : xs.take (xs.length - 4) = y at e ⊢
    generalize xs.drop (xs.length - 4) = z at e hl
    obtain ⟨a, b, c, d, rfl⟩ : ∃ a b c d, z = [a, b, c, d] := by
      match z, hl with
      | [a, b, c, d], _ => exact ⟨a, b, c, d, rfl⟩
    rw [e, sumB_append, sumB_eq _ [a, b, c, d]] at h
    have ht := (tail_iff _ _ _ _ _).1 h
    rw [← tailB_eq] at ht
    have ht2 : [a, b, c, d] = tailB (sumB init y) := by
      have := congrArg (List.map UInt8.ofBitVec) ht
      rw [List.map_map] at this
      have hid : (UInt8.ofBitVec ∘ UInt8.toBitVec) = id := rfl
      rw [hid, List.map_id] at this
      exact this.symm ▸ rfl
    unfold sealB
    rw [e, ← ht2]
attribute [local go_sem] strB_list
set_option maxHeartbeats 4000000 in
theorem ropen_r (A : Option Addr) (c : Nat) (xs : List UInt8) (w : World) (hr : Rd w A xs) (hc : xs.length ≤ c) (hl : xs.length ≤ 1000000) (ok : Bool) (ys : List UInt8) (hok : rokB xs = ok) (hys : (if rokB xs then xs.take (xs.length - 4) else []) = ys) :
    Calls Try.prog 19 #[.slice A xs.length c] w fun e w' => ∃ v, e = .returned (.tuple #[v, .bool ok]) ∧ Own w' w.heap.size v ys ∧ Below w.heap.size w w' := by
  have HR := Lib.hid hr
  clear hr
  by_cases h4 : 4 ≤ xs.length
  · have g4 : decide ((xs.length : Int) < 4) = false := by simp; omega
    have g6 : (4 : Int) ≤ (xs.length : Int) := by omega
    have g7 : (xs.length : Int) - 4 ≤ (c : Int) := by omega
    have HT := Lib.hid (HR.out.take (xs.length - 4) (by omega))
    obtain ⟨bb, hbb⟩ : ∃ bb : Bool, bb = !((sealB (xs.take (xs.length - 4))) == xs) := ⟨_, rfl⟩
    have hB1 : rokB xs = !bb := by
      rw [hbb, Bool.not_not]; unfold rokB; rw [show decide (4 ≤ xs.length) = true from decide_eq_true h4, Bool.true_and, Bool.eq_iff_iff]; simp
    have HSB := Lib.hid (show (sealB (xs.take (xs.length - 4)) == xs) = !bb by rw [hbb, Bool.not_not])
    clear hbb
    go_enter Try.func19, Try.ntmps19
    go_wp2_with done
    refine free_region (n := 15) (T := _) [0, 1, 3, 7, 15, 15, 47, 111, 255, 511, 1023, 15, 2063, 8191, 16383] [(0, 4), (1, 5), (2, 6), (3, 7), (4, 8), (5, 9), (6, 10), (7, 11), (8, 12), (9, 13), (10, 14), (11, 15), (12, 16), (13, 17), (14, 18)] (fun i v w => match i with | 0 => v = .slice A xs.length c | 1 => v = .int .i64 (xs.length : Int) | 2 => v = .bool false | 3 => v = .bool false | 4 => v = .slice A xs.length c | 5 => v = .slice A xs.length c | 6 => v = .int .i64 (xs.length : Int) | 7 => v = .int .i64 ((xs.length : Int) - 4) | 8 => v = .slice A (xs.take (xs.length - 4)).length c | 9 => ∃ A' c', v = .slice A' (sealB (xs.take (xs.length - 4))).length c' ∧ Sl w A' c' (sealB (xs.take (xs.length - 4))) | 10 => v = .string (strB (sealB (xs.take (xs.length - 4)))) | 11 => v = .slice A xs.length c | 12 => v = .string (strB xs) | 13 => v = .bool bb | 14 => v = .bool bb | _ => True) (by kernel_rfl) rfl rfl (by kernel_rfl) (by kernel_rfl) (by kernel_rfl) rfl (by kernel_rfl) ?_ ?_
    · intro e he a w hB hel hdep
      simp only [List.mem_cons, List.not_mem_nil, or_false] at he
      rcases he with rfl | rfl | rfl | rfl | rfl | rfl | rfl | rfl | rfl | rfl | rfl | rfl | rfl | rfl | rfl
      · have h0 : a.tmps[0]? = some (.slice A xs.length c) := (hel 0 (by decide)).trans rfl
        have e0 : a.eval (.tmp 0) = .slice A xs.length c := eval_of h0
        exact ⟨_, rfl, rfl, Ok.move (wanted_none rfl) (.inl rfl) e0 (fun _ _ => rfl)⟩
      · obtain ⟨v4, h4, q4⟩ := hdep (0, 4) (by decide) (by decide)
        obtain rfl : v4 = .slice A xs.length c := q4.now
        replace h4 : a.tmps[4]? = some (.slice A xs.length c) := h4
        have e4 : a.eval (.tmp 4) = .slice A xs.length c := eval_of h4
        exact ⟨_, rfl, rfl, Ok.pure (.int .i64 (xs.length : Int)) (wanted_none rfl) (by simp only [execOp]; go_simp) (fun _ _ => rfl)⟩
      · obtain ⟨v5, h5, q5⟩ := hdep (1, 5) (by decide) (by decide)
        obtain rfl : v5 = .int .i64 (xs.length : Int) := q5.now
        replace h5 : a.tmps[5]? = some (.int .i64 (xs.length : Int)) := h5
        have e5 : a.eval (.tmp 5) = .int .i64 (xs.length : Int) := eval_of h5
        exact ⟨_, rfl, rfl, Ok.pure (.bool false) (wanted_none rfl) (by simp only [execOp]; go_simp) (fun _ _ => rfl)⟩
      · obtain ⟨v6, h6, q6⟩ := hdep (2, 6) (by decide) (by decide)
        obtain rfl : v6 = .bool false := q6.now
        replace h6 : a.tmps[6]? = some (.bool false) := h6
        have e6 : a.eval (.tmp 6) = .bool false := eval_of h6
        exact ⟨_, rfl, rfl, Ok.move (wanted_none rfl) (.inl rfl) (eval_of h6) q6⟩
      · obtain ⟨v7, h7, q7⟩ := hdep (3, 7) (by decide) (by decide)
        obtain rfl : v7 = .bool false := q7.now
        replace h7 : a.tmps[7]? = some (.bool false) := h7
        have e7 : a.eval (.tmp 7) = .bool false := eval_of h7
        have h0 : a.tmps[0]? = some (.slice A xs.length c) := (hel 0 (by decide)).trans rfl
        have e0 : a.eval (.tmp 0) = .slice A xs.length c := eval_of h0
        exact ⟨_, rfl, rfl, Ok.move (wanted_on (t := 7) rfl rfl rfl h7) (.inl rfl) e0 (fun _ _ => rfl)⟩
      · obtain ⟨v7, h7, q7⟩ := hdep (3, 7) (by decide) (by decide)
        obtain rfl : v7 = .bool false := q7.now
        replace h7 : a.tmps[7]? = some (.bool false) := h7
        have e7 : a.eval (.tmp 7) = .bool false := eval_of h7
        have h0 : a.tmps[0]? = some (.slice A xs.length c) := (hel 0 (by decide)).trans rfl
        have e0 : a.eval (.tmp 0) = .slice A xs.length c := eval_of h0
        exact ⟨_, rfl, rfl, Ok.move (wanted_on (t := 7) rfl rfl rfl h7) (.inl rfl) e0 (fun _ _ => rfl)⟩
      · obtain ⟨v7, h7, q7⟩ := hdep (3, 7) (by decide) (by decide)
        obtain rfl : v7 = .bool false := q7.now
        replace h7 : a.tmps[7]? = some (.bool false) := h7
        have e7 : a.eval (.tmp 7) = .bool false := eval_of h7
        obtain ⟨v9, h9, q9⟩ := hdep (5, 9) (by decide) (by decide)
        obtain rfl : v9 = .slice A xs.length c := q9.now
        replace h9 : a.tmps[9]? = some (.slice A xs.length c) := h9
        have e9 : a.eval (.tmp 9) = .slice A xs.length c := eval_of h9
        exact ⟨_, rfl, rfl, Ok.pure (.int .i64 (xs.length : Int)) (wanted_on (t := 7) rfl rfl rfl h7) (by simp only [execOp]; go_simp) (fun _ _ => rfl)⟩
      · obtain ⟨v7, h7, q7⟩ := hdep (3, 7) (by decide) (by decide)
        obtain rfl : v7 = .bool false := q7.now
        replace h7 : a.tmps[7]? = some (.bool false) := h7
        have e7 : a.eval (.tmp 7) = .bool false := eval_of h7
        obtain ⟨v10, h10, q10⟩ := hdep (6, 10) (by decide) (by decide)
        obtain rfl : v10 = .int .i64 (xs.length : Int) := q10.now
        replace h10 : a.tmps[10]? = some (.int .i64 (xs.length : Int)) := h10
        have e10 : a.eval (.tmp 10) = .int .i64 (xs.length : Int) := eval_of h10
        exact ⟨_, rfl, rfl, Ok.pure (.int .i64 ((xs.length : Int) - 4)) (wanted_on (t := 7) rfl rfl rfl h7) (by simp only [execOp]; go_simp; rw [IntKind.wrap_i64] <;> omega) (fun _ _ => rfl)⟩
      · obtain ⟨v7, h7, q7⟩ := hdep (3, 7) (by decide) (by decide)
        obtain rfl : v7 = .bool false := q7.now
        replace h7 : a.tmps[7]? = some (.bool false) := h7
        have e7 : a.eval (.tmp 7) = .bool false := eval_of h7
        obtain ⟨v8, h8, q8⟩ := hdep (4, 8) (by decide) (by decide)
        obtain rfl : v8 = .slice A xs.length c := q8.now
        replace h8 : a.tmps[8]? = some (.slice A xs.length c) := h8
        have e8 : a.eval (.tmp 8) = .slice A xs.length c := eval_of h8
        obtain ⟨v11, h11, q11⟩ := hdep (7, 11) (by decide) (by decide)
        obtain rfl : v11 = .int .i64 ((xs.length : Int) - 4) := q11.now
        replace h11 : a.tmps[11]? = some (.int .i64 ((xs.length : Int) - 4)) := h11
        have e11 : a.eval (.tmp 11) = .int .i64 ((xs.length : Int) - 4) := eval_of h11
        exact ⟨_, rfl, rfl, Ok.pure (.slice A (xs.take (xs.length - 4)).length c) (wanted_on (t := 7) rfl rfl rfl h7) (by simp only [execOp]; go_simp; omega) (fun _ _ => rfl)⟩
      · obtain ⟨v7, h7, q7⟩ := hdep (3, 7) (by decide) (by decide)
        obtain rfl : v7 = .bool false := q7.now
        replace h7 : a.tmps[7]? = some (.bool false) := h7
        have e7 : a.eval (.tmp 7) = .bool false := eval_of h7
        obtain ⟨v12, h12, q12⟩ := hdep (8, 12) (by decide) (by decide)
        obtain rfl : v12 = .slice A (xs.take (xs.length - 4)).length c := q12.now
        replace h12 : a.tmps[12]? = some (.slice A (xs.take (xs.length - 4)).length c) := h12
        have e12 : a.eval (.tmp 12) = .slice A (xs.take (xs.length - 4)).length c := eval_of h12
        exact ⟨_, rfl, rfl, Ok.call Try.func17 (by kernel_rfl) rfl #[.slice A (xs.take (xs.length - 4)).length c] (wanted_on (t := 7) rfl rfl rfl h7) rfl (by simp [e12]) ((rseal_r A c (xs.take (xs.length - 4)) w (HT.out.below hB) (by simp <;> omega)).mono (by rintro e w' ⟨A', c', rfl, hs, hb⟩; exact ⟨_, rfl, fun _ hb2 => ⟨_, _, rfl, hs.below hb2⟩, hb⟩))⟩
      · obtain ⟨v7, h7, q7⟩ := hdep (3, 7) (by decide) (by decide)
        obtain rfl : v7 = .bool false := q7.now
        replace h7 : a.tmps[7]? = some (.bool false) := h7
        have e7 : a.eval (.tmp 7) = .bool false := eval_of h7
        obtain ⟨v13, h13, q13⟩ := hdep (9, 13) (by decide) (by decide)
        have s13 := q13.now
        obtain ⟨A', c', rfl, hs⟩ := s13
        have e13 := eval_of h13
        have k := hs.rd.conv _ c' rfl
        exact ⟨_, rfl, rfl, Ok.pure (.string (strB (sealB (xs.take (xs.length - 4))))) (wanted_on (t := 7) rfl rfl rfl h7) (by simp only [execOp]; go_simp) (fun _ _ => rfl)⟩
      · obtain ⟨v7, h7, q7⟩ := hdep (3, 7) (by decide) (by decide)
        obtain rfl : v7 = .bool false := q7.now
        replace h7 : a.tmps[7]? = some (.bool false) := h7
        have e7 : a.eval (.tmp 7) = .bool false := eval_of h7
        have h0 : a.tmps[0]? = some (.slice A xs.length c) := (hel 0 (by decide)).trans rfl
        have e0 : a.eval (.tmp 0) = .slice A xs.length c := eval_of h0
        exact ⟨_, rfl, rfl, Ok.move (wanted_on (t := 7) rfl rfl rfl h7) (.inl rfl) e0 (fun _ _ => rfl)⟩
      · obtain ⟨v7, h7, q7⟩ := hdep (3, 7) (by decide) (by decide)
        obtain rfl : v7 = .bool false := q7.now
        replace h7 : a.tmps[7]? = some (.bool false) := h7
        have e7 : a.eval (.tmp 7) = .bool false := eval_of h7
        obtain ⟨v15, h15, q15⟩ := hdep (11, 15) (by decide) (by decide)
        obtain rfl : v15 = .slice A xs.length c := q15.now
        replace h15 : a.tmps[15]? = some (.slice A xs.length c) := h15
        have e15 : a.eval (.tmp 15) = .slice A xs.length c := eval_of h15
        have k := (HR.out.below hB).conv _ c rfl
        exact ⟨_, rfl, rfl, Ok.pure (.string (strB xs)) (wanted_on (t := 7) rfl rfl rfl h7) (by simp only [execOp]; go_simp) (fun _ _ => rfl)⟩
      · obtain ⟨v7, h7, q7⟩ := hdep (3, 7) (by decide) (by decide)
        obtain rfl : v7 = .bool false := q7.now
        replace h7 : a.tmps[7]? = some (.bool false) := h7
        have e7 : a.eval (.tmp 7) = .bool false := eval_of h7
        obtain ⟨v14, h14, q14⟩ := hdep (10, 14) (by decide) (by decide)
        obtain rfl : v14 = .string (strB (sealB (xs.take (xs.length - 4)))) := q14.now
        replace h14 : a.tmps[14]? = some (.string (strB (sealB (xs.take (xs.length - 4))))) := h14
        have e14 : a.eval (.tmp 14) = .string (strB (sealB (xs.take (xs.length - 4)))) := eval_of h14
        obtain ⟨v16, h16, q16⟩ := hdep (12, 16) (by decide) (by decide)
        obtain rfl : v16 = .string (strB xs) := q16.now
        replace h16 : a.tmps[16]? = some (.string (strB xs)) := h16
        have e16 : a.eval (.tmp 16) = .string (strB xs) := eval_of h16
        exact ⟨_, rfl, rfl, Ok.pure (.bool bb) (wanted_on (t := 7) rfl rfl rfl h7) (by simp only [execOp]; go_simp; exact HSB.out) (fun _ _ => rfl)⟩
      · obtain ⟨v7, h7, q7⟩ := hdep (3, 7) (by decide) (by decide)
        obtain rfl : v7 = .bool false := q7.now
        replace h7 : a.tmps[7]? = some (.bool false) := h7
        have e7 : a.eval (.tmp 7) = .bool false := eval_of h7
        obtain ⟨v17, h17, q17⟩ := hdep (13, 17) (by decide) (by decide)
        obtain rfl : v17 = .bool bb := q17.now
        replace h17 : a.tmps[17]? = some (.bool bb) := h17
        have e17 : a.eval (.tmp 17) = .bool bb := eval_of h17
        exact ⟨_, rfl, rfl, Ok.pure (.bool bb) (wanted_none rfl) (by simp only [execOp]; go_simp) (fun _ _ => rfl)⟩
    intro vs wE hBE hS
    have f4 := hS (0, 4) (by decide)
    have f5 := hS (1, 5) (by decide)
    have f6 := hS (2, 6) (by decide)
    have f7 := hS (3, 7) (by decide)
    have f8 := hS (4, 8) (by decide)
    have f9 := hS (5, 9) (by decide)
    have f10 := hS (6, 10) (by decide)
    have f11 := hS (7, 11) (by decide)
    have f12 := hS (8, 12) (by decide)
    have f13 := hS (9, 13) (by decide)
    have f14 := hS (10, 14) (by decide)
    have f15 := hS (11, 15) (by decide)
    have f16 := hS (12, 16) (by decide)
    have f17 := hS (13, 17) (by decide)
    have f18 := hS (14, 18) (by decide)
    clear hS
    simp only [tells, List.map_cons, List.map_nil, putSel, if_true]
    generalize vs 0 = z4 at *
    generalize vs 1 = z5 at *
    generalize vs 2 = z6 at *
    generalize vs 3 = z7 at *
    generalize vs 4 = z8 at *
    generalize vs 5 = z9 at *
    generalize vs 6 = z10 at *
    generalize vs 7 = z11 at *
    generalize vs 8 = z12 at *
    generalize vs 9 = z13 at *
    generalize vs 10 = z14 at *
    generalize vs 11 = z15 at *
    generalize vs 12 = z16 at *
    generalize vs 13 = z17 at *
    generalize vs 14 = z18 at *
    have f4' : z4 = .slice A xs.length c := f4
    clear f4
    subst f4'
    have f5' : z5 = .int .i64 (xs.length : Int) := f5
    clear f5
    subst f5'
    have f6' : z6 = .bool false := f6
    clear f6
    subst f6'
    have f7' : z7 = .bool false := f7
    clear f7
    subst f7'
    have f8' : z8 = .slice A xs.length c := f8
    clear f8
    subst f8'
    have f9' : z9 = .slice A xs.length c := f9
    clear f9
    subst f9'
    have f10' : z10 = .int .i64 (xs.length : Int) := f10
    clear f10
    subst f10'
    have f11' : z11 = .int .i64 ((xs.length : Int) - 4) := f11
    clear f11
    subst f11'
    have f12' : z12 = .slice A (xs.take (xs.length - 4)).length c := f12
    clear f12
    subst f12'
    have f14' : z14 = .string (strB (sealB (xs.take (xs.length - 4)))) := f14
    clear f14
    subst f14'
    have f15' : z15 = .slice A xs.length c := f15
    clear f15
    subst f15'
    have f16' : z16 = .string (strB xs) := f16
    clear f16
    subst f16'
    have f17' : z17 = .bool bb := f17
    clear f17
    subst f17'
    have f18' : z18 = .bool bb := f18
    clear f18
    subst f18'
    simp only [Act.put, List.setIfInBounds_toArray, List.set_cons_zero, List.set_cons_succ]
    cases bb with
    | true =>
      obtain rfl : ok = false := by rw [← hok, hB1]; rfl
      obtain rfl : ys = [] := by rw [← hys, hB1]; rfl
      clear hok hys hB1
      go_wp2
      go_ret2
      exact ⟨_, rfl, Own.nil _ _, hBE⟩
    | false =>
      obtain rfl : ok = true := by rw [← hok, hB1]; rfl
      obtain rfl : ys = xs.take (xs.length - 4) := by rw [← hys, hB1]; rfl
      clear hok hys hB1
      go_wp2_with (at_builtin; refine own_append wE.heap.size rfl (.tmp 19) (.tmp 24) rfl _ _ (xs.take (xs.length - 4)) _ _ _ (Own.empty wE) ((HT.out.below hBE).below (alloc_below _ _)) rfl rfl (by simp <;> omega) (by simp) (by simp <;> omega) ?_; intro v w2 HO HG _)
      go_ret2
      exact ⟨_, rfl, by rw [List.nil_append] at HO; exact HO.lower hBE.size, below_step hBE (slots (alloc_below wE (.cells #[] 5)) _ HG (Own.base (Own.empty wE)))⟩
  · have g4 : decide ((xs.length : Int) < 4) = true := by simp; omega
    have hB1 : rokB xs = false := by unfold rokB; simp [h4]
    obtain rfl : ok = false := by rw [← hok, hB1]
    obtain rfl : ys = [] := by rw [← hys, hB1]; rfl
    clear hok hys hB1
    go_enter Try.func19, Try.ntmps19
    go_wp2_with done
    refine free_region (n := 15) (T := _) [0, 1, 3, 7, 15, 15, 47, 111, 255, 511, 1023, 15, 2063, 8191, 16383] [(0, 4), (1, 5), (2, 6), (3, 7), (4, 8), (5, 9), (6, 10), (7, 11), (8, 12), (9, 13), (10, 14), (11, 15), (12, 16), (13, 17), (14, 18)] (fun i v w => match i with | 0 => v = .slice A xs.length c | 1 => v = .int .i64 (xs.length : Int) | 2 => v = .bool true | 3 => v = .bool true | 4 => True | 5 => True | 6 => True | 7 => True | 8 => True | 9 => True | 10 => True | 11 => True | 12 => True | 13 => True | 14 => v = .bool true | _ => True) (by kernel_rfl) rfl rfl (by kernel_rfl) (by kernel_rfl) (by kernel_rfl) rfl (by kernel_rfl) ?_ ?_
    · intro e he a w hB hel hdep
      simp only [List.mem_cons, List.not_mem_nil, or_false] at he
      rcases he with rfl | rfl | rfl | rfl | rfl | rfl | rfl | rfl | rfl | rfl | rfl | rfl | rfl | rfl | rfl
      · have h0 : a.tmps[0]? = some (.slice A xs.length c) := (hel 0 (by decide)).trans rfl
        have e0 : a.eval (.tmp 0) = .slice A xs.length c := eval_of h0
        exact ⟨_, rfl, rfl, Ok.move (wanted_none rfl) (.inl rfl) e0 (fun _ _ => rfl)⟩
      · obtain ⟨v4, h4, q4⟩ := hdep (0, 4) (by decide) (by decide)
        obtain rfl : v4 = .slice A xs.length c := q4.now
        replace h4 : a.tmps[4]? = some (.slice A xs.length c) := h4
        have e4 : a.eval (.tmp 4) = .slice A xs.length c := eval_of h4
        exact ⟨_, rfl, rfl, Ok.pure (.int .i64 (xs.length : Int)) (wanted_none rfl) (by simp only [execOp]; go_simp) (fun _ _ => rfl)⟩
      · obtain ⟨v5, h5, q5⟩ := hdep (1, 5) (by decide) (by decide)
        obtain rfl : v5 = .int .i64 (xs.length : Int) := q5.now
        replace h5 : a.tmps[5]? = some (.int .i64 (xs.length : Int)) := h5
        have e5 : a.eval (.tmp 5) = .int .i64 (xs.length : Int) := eval_of h5
        exact ⟨_, rfl, rfl, Ok.pure (.bool true) (wanted_none rfl) (by simp only [execOp]; go_simp) (fun _ _ => rfl)⟩
      · obtain ⟨v6, h6, q6⟩ := hdep (2, 6) (by decide) (by decide)
        obtain rfl : v6 = .bool true := q6.now
        replace h6 : a.tmps[6]? = some (.bool true) := h6
        have e6 : a.eval (.tmp 6) = .bool true := eval_of h6
        exact ⟨_, rfl, rfl, Ok.move (wanted_none rfl) (.inl rfl) (eval_of h6) q6⟩
      · obtain ⟨v7, h7, q7⟩ := hdep (3, 7) (by decide) (by decide)
        obtain rfl : v7 = .bool true := q7.now
        replace h7 : a.tmps[7]? = some (.bool true) := h7
        have e7 : a.eval (.tmp 7) = .bool true := eval_of h7
        exact ⟨_, rfl, rfl, Ok.off (wanted_off (t := 7) rfl rfl rfl h7) (fun _ _ => trivial)⟩
      · obtain ⟨v7, h7, q7⟩ := hdep (3, 7) (by decide) (by decide)
        obtain rfl : v7 = .bool true := q7.now
        replace h7 : a.tmps[7]? = some (.bool true) := h7
        have e7 : a.eval (.tmp 7) = .bool true := eval_of h7
        exact ⟨_, rfl, rfl, Ok.off (wanted_off (t := 7) rfl rfl rfl h7) (fun _ _ => trivial)⟩
      · obtain ⟨v7, h7, q7⟩ := hdep (3, 7) (by decide) (by decide)
        obtain rfl : v7 = .bool true := q7.now
        replace h7 : a.tmps[7]? = some (.bool true) := h7
        have e7 : a.eval (.tmp 7) = .bool true := eval_of h7
        exact ⟨_, rfl, rfl, Ok.off (wanted_off (t := 7) rfl rfl rfl h7) (fun _ _ => trivial)⟩
      · obtain ⟨v7, h7, q7⟩ := hdep (3, 7) (by decide) (by decide)
        obtain rfl : v7 = .bool true := q7.now
        replace h7 : a.tmps[7]? = some (.bool true) := h7
        have e7 : a.eval (.tmp 7) = .bool true := eval_of h7
        exact ⟨_, rfl, rfl, Ok.off (wanted_off (t := 7) rfl rfl rfl h7) (fun _ _ => trivial)⟩
      · obtain ⟨v7, h7, q7⟩ := hdep (3, 7) (by decide) (by decide)
        obtain rfl : v7 = .bool true := q7.now
        replace h7 : a.tmps[7]? = some (.bool true) := h7
        have e7 : a.eval (.tmp 7) = .bool true := eval_of h7
        exact ⟨_, rfl, rfl, Ok.off (wanted_off (t := 7) rfl rfl rfl h7) (fun _ _ => trivial)⟩
      · obtain ⟨v7, h7, q7⟩ := hdep (3, 7) (by decide) (by decide)
        obtain rfl : v7 = .bool true := q7.now
        replace h7 : a.tmps[7]? = some (.bool true) := h7
        have e7 : a.eval (.tmp 7) = .bool true := eval_of h7
        exact ⟨_, rfl, rfl, Ok.off (wanted_off (t := 7) rfl rfl rfl h7) (fun _ _ => trivial)⟩
      · obtain ⟨v7, h7, q7⟩ := hdep (3, 7) (by decide) (by decide)
        obtain rfl : v7 = .bool true := q7.now
        replace h7 : a.tmps[7]? = some (.bool true) := h7
        have e7 : a.eval (.tmp 7) = .bool true := eval_of h7
        exact ⟨_, rfl, rfl, Ok.off (wanted_off (t := 7) rfl rfl rfl h7) (fun _ _ => trivial)⟩
      · obtain ⟨v7, h7, q7⟩ := hdep (3, 7) (by decide) (by decide)
        obtain rfl : v7 = .bool true := q7.now
        replace h7 : a.tmps[7]? = some (.bool true) := h7
        have e7 : a.eval (.tmp 7) = .bool true := eval_of h7
        exact ⟨_, rfl, rfl, Ok.off (wanted_off (t := 7) rfl rfl rfl h7) (fun _ _ => trivial)⟩
      · obtain ⟨v7, h7, q7⟩ := hdep (3, 7) (by decide) (by decide)
        obtain rfl : v7 = .bool true := q7.now
        replace h7 : a.tmps[7]? = some (.bool true) := h7
        have e7 : a.eval (.tmp 7) = .bool true := eval_of h7
        exact ⟨_, rfl, rfl, Ok.off (wanted_off (t := 7) rfl rfl rfl h7) (fun _ _ => trivial)⟩
      · obtain ⟨v7, h7, q7⟩ := hdep (3, 7) (by decide) (by decide)
        obtain rfl : v7 = .bool true := q7.now
        replace h7 : a.tmps[7]? = some (.bool true) := h7
        have e7 : a.eval (.tmp 7) = .bool true := eval_of h7
        exact ⟨_, rfl, rfl, Ok.off (wanted_off (t := 7) rfl rfl rfl h7) (fun _ _ => trivial)⟩
      · obtain ⟨v7, h7, q7⟩ := hdep (3, 7) (by decide) (by decide)
        obtain rfl : v7 = .bool true := q7.now
        replace h7 : a.tmps[7]? = some (.bool true) := h7
        have e7 : a.eval (.tmp 7) = .bool true := eval_of h7
        obtain ⟨v17, h17, q17⟩ := hdep (13, 17) (by decide) (by decide)
        have s17 := q17.now
        exact ⟨_, rfl, rfl, Ok.pure (.bool true) (wanted_none rfl) (by simp only [execOp]; go_simp) (fun _ _ => rfl)⟩
    intro vs wE hBE hS
    have f4 := hS (0, 4) (by decide)
    have f5 := hS (1, 5) (by decide)
    have f6 := hS (2, 6) (by decide)
    have f7 := hS (3, 7) (by decide)
    have f8 := hS (4, 8) (by decide)
    have f9 := hS (5, 9) (by decide)
    have f10 := hS (6, 10) (by decide)
    have f11 := hS (7, 11) (by decide)
    have f12 := hS (8, 12) (by decide)
    have f13 := hS (9, 13) (by decide)
    have f14 := hS (10, 14) (by decide)
    have f15 := hS (11, 15) (by decide)
    have f16 := hS (12, 16) (by decide)
    have f17 := hS (13, 17) (by decide)
    have f18 := hS (14, 18) (by decide)
    clear hS
    simp only [tells, List.map_cons, List.map_nil, putSel, if_true]
    generalize vs 0 = z4 at *
    generalize vs 1 = z5 at *
    generalize vs 2 = z6 at *
    generalize vs 3 = z7 at *
    generalize vs 4 = z8 at *
    generalize vs 5 = z9 at *
    generalize vs 6 = z10 at *
    generalize vs 7 = z11 at *
    generalize vs 8 = z12 at *
    generalize vs 9 = z13 at *
    generalize vs 10 = z14 at *
    generalize vs 11 = z15 at *
    generalize vs 12 = z16 at *
    generalize vs 13 = z17 at *
    generalize vs 14 = z18 at *
    have f4' : z4 = .slice A xs.length c := f4
    clear f4
    subst f4'
    have f5' : z5 = .int .i64 (xs.length : Int) := f5
    clear f5
    subst f5'
    have f6' : z6 = .bool true := f6
    clear f6
    subst f6'
    have f7' : z7 = .bool true := f7
    clear f7
    subst f7'
    have f18' : z18 = .bool true := f18
    clear f18
    subst f18'
    simp only [Act.put, List.setIfInBounds_toArray, List.set_cons_zero, List.set_cons_succ]
    go_wp2
    go_ret2
    exact ⟨_, rfl, Own.nil _ _, hBE⟩
end Go.Proofs.Ytckfcnclekjjdaa
