/- CrcTurns: the law's walk. -/
import Derived.Test.YtckfcnclekjjdaaAlive2
import Derived.Test.YtckfcnclekjjdaaFree
import Derived.Deep.RegionWith
import Derived.BigRegion
namespace Go.Proofs.Ytckfcnclekjjdaa
open Go.RowKit Go.Proofs.YtckfcnclekjjdaaW.PrintWords Go.Proofs.YtckfcnclekjjdaaW.PrintLast
open Crc

namespace Crc
theorem turn_turn (l : List UInt8) (p : Int) (m : UInt8) : turnB (turnB l p m) p m = l := by
  unfold turnB
  split
  · apply List.ext_getElem?
    intro i
    rw [List.getElem?_modify, List.getElem?_modify]
    by_cases h : p.toNat = i
    · cases l[i]? with
      | none => simp [h]
      | some x => simp [h, UInt8.xor_assoc]
    · simp [h]
  · rfl
theorem turn_at (l : List UInt8) (p : Int) (m : UInt8) (i : Nat) (h : i < l.length) (h' : i < (turnB l p m).length) : (turnB l p m)[i] = if (i : Int) = p then l[i] ^^^ m else l[i] := by
  have e : (turnB l p m)[i]? = some (if (i : Int) = p then l[i] ^^^ m else l[i]) := by
    unfold turnB
    by_cases h0 : 0 ≤ p
    · rw [if_pos h0, List.getElem?_modify, List.getElem?_eq_getElem h]
      by_cases h1 : p.toNat = i
      · rw [if_pos (show (i : Int) = p by omega)]; simp [h1]
      · rw [if_neg (show ¬ (i : Int) = p by omega)]; simp [h1]
    · rw [if_neg h0, if_neg (show ¬ (i : Int) = p by omega), List.getElem?_eq_getElem h]
  rw [List.getElem?_eq_getElem h'] at e
  exact Option.some.inj e
end Crc
/-- Turn, the length said of what came in. -/
theorem turn_n (A : Option Addr) (n c : Nat) (xs : List UInt8) (p : Int) (m : UInt8) (w : World) (hn : n = xs.length) (hr : Sl w A c xs) (hl : xs.length ≤ 140737488355000) :
    Calls Try.prog 20 #[.slice A n c, .int .i64 p, .int .u8 (bv m)] w fun e w' => ∃ A' c', e = .returned (.slice A' n c') ∧ Sl w' A' c' (turnB xs p m) ∧ Below w.heap.size w w' := by
  subst hn
  refine (turn_any A _ c xs p m w rfl hr hl).mono ?_
  rintro e w' ⟨v, rfl, HO, HB⟩
  obtain ⟨A', c', rfl, hs⟩ := HO.sl
  rw [turnB_length]
  exact ⟨A', c', rfl, hs, HB⟩

attribute [local go_sem] strB_list
set_option maxHeartbeats 4000000 in
theorem crcTurns_any (A : Option Addr) (c : Nat) (xs : List UInt8) (p : Int) (m : UInt8) (w : World) (hr : Sl w A c xs) :
    Calls Try.prog 6 #[.slice A xs.length c, .int .i64 p, .int .u8 (bv m)] w fun e w' => e = .returned (.bool true) ∧ Below w.heap.size w w' := by
  have HR := Lib.hid hr
  have hn := hr.small
  clear hr
  by_cases hl : xs.length ≤ 500
  · have g1 : ¬ ((500 : Int) < xs.length) := by omega
    go_enter Try.func6, Try.ntmps6
    go_wp2_with (first
      | (go_at_call 13; refine (crcAlive_any _).mono ?_; rintro e w1 ⟨rfl, HB⟩; have HB1 := Lib.hid HB; have HR1 := Lib.hid (HR.out.below HB1.out); clear HB)
      | (at_builtin; refine own_append w1.heap.size rfl (.tmp 16) (.tmp 17) rfl _ _ _ _ _ _ (Own.empty w1) (HR1.out.rd.below (alloc_below _ _)) rfl rfl rfl (by simp) (by simp; omega) ?_; intro v w2 HO HG _; obtain ⟨A2, c2, rfl, hs⟩ := HO.sl; have HB2 := Lib.hid (below_step HB1.out ((alloc_below _ _).grown HG (by simp) (Own.base (Own.empty w1)))); have HS2 := Lib.hid (show Sl w2 A2 c2 xs from hs); have HR2 := Lib.hid (HR1.out.below ((alloc_below _ _).grown HG (by simp) (Own.base (Own.empty w1)))); clear HO HG hs)
      | (go_at_call 20; refine (turn_n _ _ _ xs _ _ _ (by simp) HS2.out (by omega)).mono ?_; rintro e w3 ⟨A3, c3, rfl, hs, hb⟩; have HS3 := Lib.hid hs; have HB3 := Lib.hid (below_step HB2.out hb); have HS2b := Lib.hid (HS2.out.below hb); have HR3 := Lib.hid (HR2.out.below hb); clear hs hb))
    have k1 := HS2b.out.rd.conv _ c2 rfl
    have k2 := HR3.out.rd.conv _ c rfl
    refine free_region (n := 22) (T := _) [0, 1, 0, 4, 15, 31, 63, 127, 63, 319, 1023, 2047, 4095, 8191, 8191, 8191, 65535, 131071, 8191, 270335, 1048575, 2097151] [(0, 23), (1, 24), (2, 25), (3, 26), (4, 27), (5, 28), (6, 29), (7, 30), (8, 31), (9, 32), (10, 33), (11, 34), (12, 35), (13, 36), (14, 37), (15, 38), (16, 39), (17, 40), (18, 41), (19, 42), (20, 43), (21, 44)] (fun i v w => match i with | 0 => v = .slice A3 xs.length c3 | 1 => v = .int .i64 (xs.length : Int) | 2 => v = .slice A xs.length c | 3 => v = .int .i64 (xs.length : Int) | 4 => v = .bool false | 5 => v = .bool false | 6 => v = .slice A2 xs.length c2 | 7 => v = .string (strB xs) | 8 => v = .slice A xs.length c | 9 => v = .string (strB xs) | 10 => v = .bool false | 11 => v = .bool false | 12 => v = .bool false | 13 => v = .slice A3 xs.length c3 | 14 => v = .int .i64 p | 15 => v = .int .u8 (bv m) | 16 => ∃ A' c', v = .slice A' xs.length c' ∧ Sl w A' c' xs | 17 => v = .string (strB xs) | 18 => v = .slice A xs.length c | 19 => v = .string (strB xs) | 20 => v = .bool false | 21 => v = .bool false | _ => True) (by kernel_rfl) rfl rfl (by kernel_rfl) (by kernel_rfl) (by kernel_rfl) rfl (by kernel_rfl) ?_ ?_
    · intro e he a w hB hel hdep
      simp only [List.mem_cons, List.not_mem_nil, or_false] at he
      rcases he with rfl | rfl | rfl | rfl | rfl | rfl | rfl | rfl | rfl | rfl | rfl | rfl | rfl | rfl | rfl | rfl | rfl | rfl | rfl | rfl | rfl | rfl
      · have h8 : a.tmps[8]? = some (.slice A3 xs.length c3) := (hel 8 (by decide)).trans rfl
        have e8 : a.eval (.tmp 8) = .slice A3 xs.length c3 := eval_of h8
        exact ⟨_, rfl, rfl, Ok.move (wanted_none rfl) (.inl rfl) e8 (fun _ _ => rfl)⟩
      · obtain ⟨v23, h23, q23⟩ := hdep (0, 23) (by decide) (by decide)
        obtain rfl : v23 = .slice A3 xs.length c3 := q23.now
        replace h23 : a.tmps[23]? = some (.slice A3 xs.length c3) := h23
        have e23 : a.eval (.tmp 23) = .slice A3 xs.length c3 := eval_of h23
        exact ⟨_, rfl, rfl, Ok.pure (.int .i64 (xs.length : Int)) (wanted_none rfl) (by simp only [execOp]; go_simp) (fun _ _ => rfl)⟩
      · have h0 : a.tmps[0]? = some (.slice A xs.length c) := (hel 0 (by decide)).trans rfl
        have e0 : a.eval (.tmp 0) = .slice A xs.length c := eval_of h0
        exact ⟨_, rfl, rfl, Ok.move (wanted_none rfl) (.inl rfl) e0 (fun _ _ => rfl)⟩
      · obtain ⟨v25, h25, q25⟩ := hdep (2, 25) (by decide) (by decide)
        obtain rfl : v25 = .slice A xs.length c := q25.now
        replace h25 : a.tmps[25]? = some (.slice A xs.length c) := h25
        have e25 : a.eval (.tmp 25) = .slice A xs.length c := eval_of h25
        exact ⟨_, rfl, rfl, Ok.pure (.int .i64 (xs.length : Int)) (wanted_none rfl) (by simp only [execOp]; go_simp) (fun _ _ => rfl)⟩
      · obtain ⟨v24, h24, q24⟩ := hdep (1, 24) (by decide) (by decide)
        obtain rfl : v24 = .int .i64 (xs.length : Int) := q24.now
        replace h24 : a.tmps[24]? = some (.int .i64 (xs.length : Int)) := h24
        have e24 : a.eval (.tmp 24) = .int .i64 (xs.length : Int) := eval_of h24
        obtain ⟨v26, h26, q26⟩ := hdep (3, 26) (by decide) (by decide)
        obtain rfl : v26 = .int .i64 (xs.length : Int) := q26.now
        replace h26 : a.tmps[26]? = some (.int .i64 (xs.length : Int)) := h26
        have e26 : a.eval (.tmp 26) = .int .i64 (xs.length : Int) := eval_of h26
        exact ⟨_, rfl, rfl, Ok.pure (.bool false) (wanted_none rfl) (by simp only [execOp]; go_simp) (fun _ _ => rfl)⟩
      · obtain ⟨v27, h27, q27⟩ := hdep (4, 27) (by decide) (by decide)
        obtain rfl : v27 = .bool false := q27.now
        replace h27 : a.tmps[27]? = some (.bool false) := h27
        have e27 : a.eval (.tmp 27) = .bool false := eval_of h27
        exact ⟨_, rfl, rfl, Ok.move (wanted_none rfl) (.inl rfl) (eval_of h27) q27⟩
      · obtain ⟨v28, h28, q28⟩ := hdep (5, 28) (by decide) (by decide)
        obtain rfl : v28 = .bool false := q28.now
        replace h28 : a.tmps[28]? = some (.bool false) := h28
        have e28 : a.eval (.tmp 28) = .bool false := eval_of h28
        have h7 : a.tmps[7]? = some (.slice A2 xs.length c2) := (hel 7 (by decide)).trans rfl
        have e7 : a.eval (.tmp 7) = .slice A2 xs.length c2 := eval_of h7
        exact ⟨_, rfl, rfl, Ok.move (wanted_on (t := 28) rfl rfl rfl h28) (.inl rfl) e7 (fun _ _ => rfl)⟩
      · obtain ⟨v28, h28, q28⟩ := hdep (5, 28) (by decide) (by decide)
        obtain rfl : v28 = .bool false := q28.now
        replace h28 : a.tmps[28]? = some (.bool false) := h28
        have e28 : a.eval (.tmp 28) = .bool false := eval_of h28
        obtain ⟨v29, h29, q29⟩ := hdep (6, 29) (by decide) (by decide)
        obtain rfl : v29 = .slice A2 xs.length c2 := q29.now
        replace h29 : a.tmps[29]? = some (.slice A2 xs.length c2) := h29
        have e29 : a.eval (.tmp 29) = .slice A2 xs.length c2 := eval_of h29
        have k := (HS2b.out.below hB).rd.conv _ c2 rfl
        exact ⟨_, rfl, rfl, Ok.pure (.string (strB xs)) (wanted_on (t := 28) rfl rfl rfl h28) (by simp only [execOp]; go_simp) (fun _ _ => rfl)⟩
      · obtain ⟨v28, h28, q28⟩ := hdep (5, 28) (by decide) (by decide)
        obtain rfl : v28 = .bool false := q28.now
        replace h28 : a.tmps[28]? = some (.bool false) := h28
        have e28 : a.eval (.tmp 28) = .bool false := eval_of h28
        have h0 : a.tmps[0]? = some (.slice A xs.length c) := (hel 0 (by decide)).trans rfl
        have e0 : a.eval (.tmp 0) = .slice A xs.length c := eval_of h0
        exact ⟨_, rfl, rfl, Ok.move (wanted_on (t := 28) rfl rfl rfl h28) (.inl rfl) e0 (fun _ _ => rfl)⟩
      · obtain ⟨v28, h28, q28⟩ := hdep (5, 28) (by decide) (by decide)
        obtain rfl : v28 = .bool false := q28.now
        replace h28 : a.tmps[28]? = some (.bool false) := h28
        have e28 : a.eval (.tmp 28) = .bool false := eval_of h28
        obtain ⟨v31, h31, q31⟩ := hdep (8, 31) (by decide) (by decide)
        obtain rfl : v31 = .slice A xs.length c := q31.now
        replace h31 : a.tmps[31]? = some (.slice A xs.length c) := h31
        have e31 : a.eval (.tmp 31) = .slice A xs.length c := eval_of h31
        have k := (HR3.out.below hB).rd.conv _ c rfl
        exact ⟨_, rfl, rfl, Ok.pure (.string (strB xs)) (wanted_on (t := 28) rfl rfl rfl h28) (by simp only [execOp]; go_simp) (fun _ _ => rfl)⟩
      · obtain ⟨v28, h28, q28⟩ := hdep (5, 28) (by decide) (by decide)
        obtain rfl : v28 = .bool false := q28.now
        replace h28 : a.tmps[28]? = some (.bool false) := h28
        have e28 : a.eval (.tmp 28) = .bool false := eval_of h28
        obtain ⟨v30, h30, q30⟩ := hdep (7, 30) (by decide) (by decide)
        obtain rfl : v30 = .string (strB xs) := q30.now
        replace h30 : a.tmps[30]? = some (.string (strB xs)) := h30
        have e30 : a.eval (.tmp 30) = .string (strB xs) := eval_of h30
        obtain ⟨v32, h32, q32⟩ := hdep (9, 32) (by decide) (by decide)
        obtain rfl : v32 = .string (strB xs) := q32.now
        replace h32 : a.tmps[32]? = some (.string (strB xs)) := h32
        have e32 : a.eval (.tmp 32) = .string (strB xs) := eval_of h32
        exact ⟨_, rfl, rfl, Ok.pure (.bool false) (wanted_on (t := 28) rfl rfl rfl h28) (by simp only [execOp]; go_simp) (fun _ _ => rfl)⟩
      · obtain ⟨v28, h28, q28⟩ := hdep (5, 28) (by decide) (by decide)
        obtain rfl : v28 = .bool false := q28.now
        replace h28 : a.tmps[28]? = some (.bool false) := h28
        have e28 : a.eval (.tmp 28) = .bool false := eval_of h28
        obtain ⟨v33, h33, q33⟩ := hdep (10, 33) (by decide) (by decide)
        obtain rfl : v33 = .bool false := q33.now
        replace h33 : a.tmps[33]? = some (.bool false) := h33
        have e33 : a.eval (.tmp 33) = .bool false := eval_of h33
        exact ⟨_, rfl, rfl, Ok.pure (.bool false) (wanted_none rfl) (by simp only [execOp]; go_simp) (fun _ _ => rfl)⟩
      · obtain ⟨v34, h34, q34⟩ := hdep (11, 34) (by decide) (by decide)
        obtain rfl : v34 = .bool false := q34.now
        replace h34 : a.tmps[34]? = some (.bool false) := h34
        have e34 : a.eval (.tmp 34) = .bool false := eval_of h34
        exact ⟨_, rfl, rfl, Ok.move (wanted_none rfl) (.inl rfl) (eval_of h34) q34⟩
      · obtain ⟨v35, h35, q35⟩ := hdep (12, 35) (by decide) (by decide)
        obtain rfl : v35 = .bool false := q35.now
        replace h35 : a.tmps[35]? = some (.bool false) := h35
        have e35 : a.eval (.tmp 35) = .bool false := eval_of h35
        have h8 : a.tmps[8]? = some (.slice A3 xs.length c3) := (hel 8 (by decide)).trans rfl
        have e8 : a.eval (.tmp 8) = .slice A3 xs.length c3 := eval_of h8
        exact ⟨_, rfl, rfl, Ok.move (wanted_on (t := 35) rfl rfl rfl h35) (.inl rfl) e8 (fun _ _ => rfl)⟩
      · obtain ⟨v35, h35, q35⟩ := hdep (12, 35) (by decide) (by decide)
        obtain rfl : v35 = .bool false := q35.now
        replace h35 : a.tmps[35]? = some (.bool false) := h35
        have e35 : a.eval (.tmp 35) = .bool false := eval_of h35
        have h1 : a.tmps[1]? = some (.int .i64 p) := (hel 1 (by decide)).trans rfl
        have e1 : a.eval (.tmp 1) = .int .i64 p := eval_of h1
        exact ⟨_, rfl, rfl, Ok.move (wanted_on (t := 35) rfl rfl rfl h35) (.inl rfl) e1 (fun _ _ => rfl)⟩
      · obtain ⟨v35, h35, q35⟩ := hdep (12, 35) (by decide) (by decide)
        obtain rfl : v35 = .bool false := q35.now
        replace h35 : a.tmps[35]? = some (.bool false) := h35
        have e35 : a.eval (.tmp 35) = .bool false := eval_of h35
        have h2 : a.tmps[2]? = some (.int .u8 (bv m)) := (hel 2 (by decide)).trans rfl
        have e2 : a.eval (.tmp 2) = .int .u8 (bv m) := eval_of h2
        exact ⟨_, rfl, rfl, Ok.move (wanted_on (t := 35) rfl rfl rfl h35) (.inl rfl) e2 (fun _ _ => rfl)⟩
      · obtain ⟨v35, h35, q35⟩ := hdep (12, 35) (by decide) (by decide)
        obtain rfl : v35 = .bool false := q35.now
        replace h35 : a.tmps[35]? = some (.bool false) := h35
        have e35 : a.eval (.tmp 35) = .bool false := eval_of h35
        obtain ⟨v36, h36, q36⟩ := hdep (13, 36) (by decide) (by decide)
        obtain rfl : v36 = .slice A3 xs.length c3 := q36.now
        replace h36 : a.tmps[36]? = some (.slice A3 xs.length c3) := h36
        have e36 : a.eval (.tmp 36) = .slice A3 xs.length c3 := eval_of h36
        obtain ⟨v37, h37, q37⟩ := hdep (14, 37) (by decide) (by decide)
        obtain rfl : v37 = .int .i64 p := q37.now
        replace h37 : a.tmps[37]? = some (.int .i64 p) := h37
        have e37 : a.eval (.tmp 37) = .int .i64 p := eval_of h37
        obtain ⟨v38, h38, q38⟩ := hdep (15, 38) (by decide) (by decide)
        obtain rfl : v38 = .int .u8 (bv m) := q38.now
        replace h38 : a.tmps[38]? = some (.int .u8 (bv m)) := h38
        have e38 : a.eval (.tmp 38) = .int .u8 (bv m) := eval_of h38
        exact ⟨_, rfl, rfl, Ok.call Try.func20 (by kernel_rfl) rfl #[.slice A3 xs.length c3, .int .i64 p, .int .u8 (bv m)] (wanted_on (t := 35) rfl rfl rfl h35) rfl (by simp [e36, e37, e38]) ((turn_n A3 xs.length c3 (turnB xs p m) p m w (by rw [turnB_length]) (HS3.out.below hB) (by rw [turnB_length]; omega)).mono (by rintro e w' ⟨A', c', rfl, hs, hb⟩; rw [turn_turn] at hs; exact ⟨_, rfl, fun _ hb2 => ⟨_, _, rfl, hs.below hb2⟩, hb⟩))⟩
      · obtain ⟨v35, h35, q35⟩ := hdep (12, 35) (by decide) (by decide)
        obtain rfl : v35 = .bool false := q35.now
        replace h35 : a.tmps[35]? = some (.bool false) := h35
        have e35 : a.eval (.tmp 35) = .bool false := eval_of h35
        obtain ⟨v39, h39, q39⟩ := hdep (16, 39) (by decide) (by decide)
        have s39 := q39.now
        obtain ⟨A', c', rfl, hs⟩ := s39
        have k := hs.rd.conv _ c' rfl
        exact ⟨_, rfl, rfl, Ok.pure (.string (strB xs)) (wanted_on (t := 35) rfl rfl rfl h35) (by simp only [execOp]; go_simp) (fun _ _ => rfl)⟩
      · obtain ⟨v35, h35, q35⟩ := hdep (12, 35) (by decide) (by decide)
        obtain rfl : v35 = .bool false := q35.now
        replace h35 : a.tmps[35]? = some (.bool false) := h35
        have e35 : a.eval (.tmp 35) = .bool false := eval_of h35
        have h0 : a.tmps[0]? = some (.slice A xs.length c) := (hel 0 (by decide)).trans rfl
        have e0 : a.eval (.tmp 0) = .slice A xs.length c := eval_of h0
        exact ⟨_, rfl, rfl, Ok.move (wanted_on (t := 35) rfl rfl rfl h35) (.inl rfl) e0 (fun _ _ => rfl)⟩
      · obtain ⟨v35, h35, q35⟩ := hdep (12, 35) (by decide) (by decide)
        obtain rfl : v35 = .bool false := q35.now
        replace h35 : a.tmps[35]? = some (.bool false) := h35
        have e35 : a.eval (.tmp 35) = .bool false := eval_of h35
        obtain ⟨v41, h41, q41⟩ := hdep (18, 41) (by decide) (by decide)
        obtain rfl : v41 = .slice A xs.length c := q41.now
        replace h41 : a.tmps[41]? = some (.slice A xs.length c) := h41
        have e41 : a.eval (.tmp 41) = .slice A xs.length c := eval_of h41
        have k := (HR3.out.below hB).rd.conv _ c rfl
        exact ⟨_, rfl, rfl, Ok.pure (.string (strB xs)) (wanted_on (t := 35) rfl rfl rfl h35) (by simp only [execOp]; go_simp) (fun _ _ => rfl)⟩
      · obtain ⟨v35, h35, q35⟩ := hdep (12, 35) (by decide) (by decide)
        obtain rfl : v35 = .bool false := q35.now
        replace h35 : a.tmps[35]? = some (.bool false) := h35
        have e35 : a.eval (.tmp 35) = .bool false := eval_of h35
        obtain ⟨v40, h40, q40⟩ := hdep (17, 40) (by decide) (by decide)
        obtain rfl : v40 = .string (strB xs) := q40.now
        replace h40 : a.tmps[40]? = some (.string (strB xs)) := h40
        have e40 : a.eval (.tmp 40) = .string (strB xs) := eval_of h40
        obtain ⟨v42, h42, q42⟩ := hdep (19, 42) (by decide) (by decide)
        obtain rfl : v42 = .string (strB xs) := q42.now
        replace h42 : a.tmps[42]? = some (.string (strB xs)) := h42
        have e42 : a.eval (.tmp 42) = .string (strB xs) := eval_of h42
        exact ⟨_, rfl, rfl, Ok.pure (.bool false) (wanted_on (t := 35) rfl rfl rfl h35) (by simp only [execOp]; go_simp) (fun _ _ => rfl)⟩
      · obtain ⟨v35, h35, q35⟩ := hdep (12, 35) (by decide) (by decide)
        obtain rfl : v35 = .bool false := q35.now
        replace h35 : a.tmps[35]? = some (.bool false) := h35
        have e35 : a.eval (.tmp 35) = .bool false := eval_of h35
        obtain ⟨v43, h43, q43⟩ := hdep (20, 43) (by decide) (by decide)
        obtain rfl : v43 = .bool false := q43.now
        replace h43 : a.tmps[43]? = some (.bool false) := h43
        have e43 : a.eval (.tmp 43) = .bool false := eval_of h43
        exact ⟨_, rfl, rfl, Ok.pure (.bool false) (wanted_none rfl) (by simp only [execOp]; go_simp) (fun _ _ => rfl)⟩
    intro vs wE hBE hS
    have f23 := hS (0, 23) (by decide)
    have f24 := hS (1, 24) (by decide)
    have f25 := hS (2, 25) (by decide)
    have f26 := hS (3, 26) (by decide)
    have f27 := hS (4, 27) (by decide)
    have f28 := hS (5, 28) (by decide)
    have f29 := hS (6, 29) (by decide)
    have f30 := hS (7, 30) (by decide)
    have f31 := hS (8, 31) (by decide)
    have f32 := hS (9, 32) (by decide)
    have f33 := hS (10, 33) (by decide)
    have f34 := hS (11, 34) (by decide)
    have f35 := hS (12, 35) (by decide)
    have f36 := hS (13, 36) (by decide)
    have f37 := hS (14, 37) (by decide)
    have f38 := hS (15, 38) (by decide)
    have f39 := hS (16, 39) (by decide)
    have f40 := hS (17, 40) (by decide)
    have f41 := hS (18, 41) (by decide)
    have f42 := hS (19, 42) (by decide)
    have f43 := hS (20, 43) (by decide)
    have f44 := hS (21, 44) (by decide)
    clear hS
    simp only [tells, List.map_cons, List.map_nil, putSel, if_true]
    generalize vs 0 = z23 at *
    generalize vs 1 = z24 at *
    generalize vs 2 = z25 at *
    generalize vs 3 = z26 at *
    generalize vs 4 = z27 at *
    generalize vs 5 = z28 at *
    generalize vs 6 = z29 at *
    generalize vs 7 = z30 at *
    generalize vs 8 = z31 at *
    generalize vs 9 = z32 at *
    generalize vs 10 = z33 at *
    generalize vs 11 = z34 at *
    generalize vs 12 = z35 at *
    generalize vs 13 = z36 at *
    generalize vs 14 = z37 at *
    generalize vs 15 = z38 at *
    generalize vs 16 = z39 at *
    generalize vs 17 = z40 at *
    generalize vs 18 = z41 at *
    generalize vs 19 = z42 at *
    generalize vs 20 = z43 at *
    generalize vs 21 = z44 at *
    have f23' : z23 = .slice A3 xs.length c3 := f23
    clear f23
    subst f23'
    have f24' : z24 = .int .i64 (xs.length : Int) := f24
    clear f24
    subst f24'
    have f25' : z25 = .slice A xs.length c := f25
    clear f25
    subst f25'
    have f26' : z26 = .int .i64 (xs.length : Int) := f26
    clear f26
    subst f26'
    have f27' : z27 = .bool false := f27
    clear f27
    subst f27'
    have f28' : z28 = .bool false := f28
    clear f28
    subst f28'
    have f29' : z29 = .slice A2 xs.length c2 := f29
    clear f29
    subst f29'
    have f30' : z30 = .string (strB xs) := f30
    clear f30
    subst f30'
    have f31' : z31 = .slice A xs.length c := f31
    clear f31
    subst f31'
    have f32' : z32 = .string (strB xs) := f32
    clear f32
    subst f32'
    have f33' : z33 = .bool false := f33
    clear f33
    subst f33'
    have f34' : z34 = .bool false := f34
    clear f34
    subst f34'
    have f35' : z35 = .bool false := f35
    clear f35
    subst f35'
    have f36' : z36 = .slice A3 xs.length c3 := f36
    clear f36
    subst f36'
    have f37' : z37 = .int .i64 p := f37
    clear f37
    subst f37'
    have f38' : z38 = .int .u8 (bv m) := f38
    clear f38
    subst f38'
    have f40' : z40 = .string (strB xs) := f40
    clear f40
    subst f40'
    have f41' : z41 = .slice A xs.length c := f41
    clear f41
    subst f41'
    have f42' : z42 = .string (strB xs) := f42
    clear f42
    subst f42'
    have f43' : z43 = .bool false := f43
    clear f43
    subst f43'
    have f44' : z44 = .bool false := f44
    clear f44
    subst f44'
    simp only [Act.put, List.setIfInBounds_toArray, List.set_cons_zero, List.set_cons_succ]
    have HBe := Lib.hid (below_step HB3.out hBE)
    have HRe := Lib.hid (HR3.out.below hBE)
    have HSe := Lib.hid (HS3.out.below hBE)
    clear k1 k2 hBE HR3 HS3 HS2b HB3 HR2 HS2 HB2 HR1 HB1
    go_wp2
    go_loop [47] (fun i => ∃ k : Nat, k ≤ xs.length ∧ i = .int .i64 k) (fun i => xs.length - (intOf i).toNat)
    case atStart => exact ⟨0, by omega, rfl⟩
    case round =>
      obtain ⟨k, hk, rfl⟩ := hrel
      by_cases hlt : k < xs.length
      · obtain ⟨a1, e1, q1⟩ := HRe.out.rd.at k hlt
        have h2 : k < (turnB xs p m).length := by rw [turnB_length]; exact hlt
        obtain ⟨a2, e2, q2⟩ := HSe.out.rd.at k h2
        rw [turn_at xs p m k hlt h2] at q2
        cases e1
        cases e2
        have x1 := xor_bv xs[k] m
        by_cases hp : (k : Int) = p
        · have hp2 : ((k : Int) == p) = true := by rw [beq_iff_eq]; exact hp
          rw [if_pos hp] at q2
          have HP := Lib.hid hp
          clear hp h2
          go_wp2
          go_round
          case rel => exact ⟨k + 1, by omega, by go_num⟩
          case measure => simp [intOf]; omega
        · have hp2 : ((k : Int) == p) = false := by rw [beq_eq_false_iff_ne]; exact hp
          rw [if_neg hp] at q2
          have HP := Lib.hid hp
          clear hp h2 x1
          go_wp2
          go_round
          case rel => exact ⟨k + 1, by omega, by go_num⟩
          case measure => simp [intOf]; omega
      · obtain rfl : k = xs.length := by omega
        go_wp2
        go_ret
        exact ⟨rfl, HBe.out⟩
  · have g1 : (500 : Int) < xs.length := by omega
    go_enter Try.func6, Try.ntmps6
    go_wp2_with (go_at_call 13; refine (crcAlive_any _).mono ?_; rintro e w1 ⟨rfl, HB⟩; have HB1 := Lib.hid HB; clear HB)
    go_ret
    exact ⟨rfl, HB1.out⟩
end Go.Proofs.Ytckfcnclekjjdaa
