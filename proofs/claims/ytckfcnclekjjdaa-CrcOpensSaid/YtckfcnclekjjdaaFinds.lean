/- CrcFinds: what is turned is found. -/
import Derived.Test.YtckfcnclekjjdaaTwice
import Derived.Test.YtckfcnclekjjdaaTurns
import Derived.Test.YtckfcnclekjjdaaArr
namespace Go.Proofs.Ytckfcnclekjjdaa
open Go.RowKit Go.Proofs.YtckfcnclekjjdaaW.PrintWords Go.Proofs.YtckfcnclekjjdaaW.PrintLast
open Crc

namespace Crc
theorem sumB_inj (l : List UInt8) {a b : W} (h : sumB a l = sumB b l) : a = b := by
  rw [sumB_eq, sumB_eq] at h; exact Crc.sum_inj _ h
theorem two_zero (a b : UInt8) : sumB 0#32 [a, b] = 0#32 ↔ (a = 0 ∧ b = 0) := by
  constructor
  · intro h
    rw [sumB_eq] at h
    obtain ⟨h1, h2⟩ := sum2_zero _ _ h
    exact ⟨UInt8.toBitVec_inj.1 h1, UInt8.toBitVec_inj.1 h2⟩
  · rintro ⟨rfl, rfl⟩; decide
theorem two_xor (S : W) (a b m n : UInt8) : sumB S [a ^^^ m, b ^^^ n] = sumB S [a, b] ^^^ sumB 0#32 [m, n] := by
  have e : sumB S [a ^^^ m, b ^^^ n] = sumB (S ^^^ 0#32) [a ^^^ m, b ^^^ n] := by rw [BitVec.xor_zero]
  rw [e, sumB_eq, sumB_eq, sumB_eq]
  exact sum_xor [a.toBitVec, b.toBitVec] [m.toBitVec, n.toBitVec] S 0#32 rfl
theorem mod_app {α : Type} (x : α) (s : List α) (f : α → α) : ∀ p : List α, (p ++ x :: s).modify p.length f = p ++ f x :: s
  | [] => rfl
  | c :: p => by
    show (c :: (p ++ x :: s)).modify (p.length + 1) f = c :: (p ++ f x :: s)
    rw [List.modify_succ_cons, mod_app x s f p]
/-- Two neighbours turned, as lists. -/
theorem turn_two (p s : List UInt8) (a b m n : UInt8) : turnB (turnB (p ++ a :: b :: s) (p.length : Int) m) ((p.length : Int) + 1) n = p ++ (a ^^^ m) :: (b ^^^ n) :: s := by
  unfold turnB
  rw [if_pos (by omega), if_pos (by omega), Int.toNat_natCast, show ((p.length : Int) + 1).toNat = p.length + 1 by omega]
  rw [mod_app]
  have := mod_app b s (fun x => x ^^^ n) (p ++ [a ^^^ m])
  simpa using this
theorem finds (l : List UInt8) (q : Nat) (m n : UInt8) (hq : q + 1 < l.length) (hl : 4 ≤ l.length) (h0 : sumB init l = 0#32) : okB (turnB (turnB l (q : Int) m) ((q : Int) + 1) n) = decide (m = 0 ∧ n = 0) := by
  have hp : l = l.take q ++ l[q] :: l[q + 1] :: l.drop (q + 2) := by
    conv => lhs; rw [← List.take_append_drop q l]
    congr 1
    rw [List.drop_eq_getElem_cons (by omega), List.drop_eq_getElem_cons (by omega)]
  generalize l[q] = a at hp
  generalize l[q + 1] = b at hp
  have hpl : (l.take q).length = q := by rw [List.length_take]; omega
  generalize l.take q = p at hp hpl
  generalize l.drop (q + 2) = s at hp
  subst hpl
  subst hp
  rw [turn_two]
  unfold okB
  have hl2 : 4 ≤ (p ++ (a ^^^ m) :: (b ^^^ n) :: s).length := by simpa using hl
  rw [decide_eq_true hl2, Bool.true_and]
  have e : ∀ x y : UInt8, sumB init (p ++ x :: y :: s) = sumB (sumB (sumB init p) [x, y]) s := by
    intro x y
    rw [sumB_append, show x :: y :: s = [x, y] ++ s from rfl, sumB_append]
  rw [e] at h0 ⊢
  rw [two_xor]
  rw [decide_eq_decide]
  rw [← two_zero m n]
  constructor
  · intro h
    have := sumB_inj s (h.trans h0.symm)
    generalize sumB (sumB init p) [a, b] = T at this
    have k := congrArg (T ^^^ ·) this
    simpa [← BitVec.xor_assoc] using k
  · intro h
    rw [h, BitVec.xor_zero]; exact h0
end Crc
attribute [local go_sem] strB_list
set_option maxHeartbeats 4000000 in
theorem crcFinds_any (A : Option Addr) (c : Nat) (xs : List UInt8) (p : Int) (m n : UInt8) (w : World) (hr : Sl w A c xs) (hp : -9223372036854775808 ≤ p ∧ p ≤ 9223372036854775807) :
    Calls Try.prog 8 #[.slice A xs.length c, .int .i64 p, .agg #[.int .u8 (bv m), .int .u8 (bv n)]] w fun e w' => e = .returned (.bool true) ∧ Below w.heap.size w w' := by
  obtain ⟨W0, hW0⟩ : ∃ W0, W0 = w.alloc (.cells #[.int .u8 (bv m), .int .u8 (bv n)] 37) := ⟨_, rfl⟩
  have hb0 : Below w.heap.size w W0 := by rw [hW0]; exact alloc_below _ _
  have hc0 : W0.cell? ⟨w.heap.size, 0, none⟩ = some (.int .u8 (bv m)) := by rw [hW0]; simp
  have hc1 : W0.cell? ⟨w.heap.size, 1, none⟩ = some (.int .u8 (bv n)) := by rw [hW0]; simp
  have hz : w.heap.size < W0.heap.size := by rw [hW0]; simp
  replace hW0 := hW0.symm
  have HB0 := Lib.hid hb0
  have HC0 := Lib.hid hc0
  have HC1 := Lib.hid hc1
  have HZ := Lib.hid hz
  have HR := Lib.hid (hr.below hb0)
  have hn := hr.small
  clear hr hb0 hc0 hc1 hz
  obtain ⟨BX, hBX⟩ : ∃ BX, BX = w.heap.size := ⟨_, rfl⟩
  rw [← hBX] at HC0 HC1 HZ
  replace hBX := hBX.symm
  by_cases hl : xs.length ≤ 500 ∧ 0 ≤ p ∧ p < (xs.length : Int) + 3
  · obtain ⟨l1, l2, l3⟩ := hl
    obtain ⟨q, rfl⟩ := Int.eq_ofNat_of_zero_le l2
    have b1 : decide ((500 : Int) < (xs.length : Int)) = false := by simp; omega
    have b2 : decide ((q : Int) < 0) = false := by simp
    have b3 : decide ((xs.length : Int) + 3 ≤ (q : Int)) = false := by simp; omega
    go_enter Try.func8, Try.ntmps8
    go_wp2_with (first
      | (go_at_call 13; refine (crcAlive_any _).mono ?_; rintro e w1 ⟨rfl, hb⟩; have HB1 := Lib.hid (below_step HB0.out hb); have HR1 := Lib.hid (HR.out.below hb); have d0 := (hb.cell (p := ⟨BX, 0, none⟩) HZ.out).trans HC0.out; have d1 := (hb.cell (p := ⟨BX, 1, none⟩) HZ.out).trans HC1.out; have D0 := Lib.hid d0; have D1 := Lib.hid d1; have HZ1 := Lib.hid (Nat.lt_of_lt_of_le HZ.out hb.size); clear d0 d1 hb)
      | (go_at_call 16; refine (seal_n _ _ _ [xs] xs _ rfl (by simp) (Rds.one HR1.out) (by omega)).mono ?_; rintro e w2 ⟨A2, c2, rfl, hs, _, hb⟩))
    have hbx := below_step (alloc_below w1 (.cells #[.slice A xs.length c] 24)) hb
    have HB2 := Lib.hid (below_step HB1.out hbx)
    have HR2 := Lib.hid (HR1.out.below hbx)
    have HX2 := Lib.hid hs
    have E0 := Lib.hid ((hbx.cell (p := ⟨BX, 0, none⟩) HZ1.out).trans D0.out)
    have E1 := Lib.hid ((hbx.cell (p := ⟨BX, 1, none⟩) HZ1.out).trans D1.out)
    have HZ2 := Lib.hid (Nat.lt_of_lt_of_le HZ1.out hbx.size)
    have HL := Lib.hid (sealB_length xs)
    clear hb hbx hs hW0 D0 D1 HB1 HR1 HZ1
    refine free_region (n := 11) (T := _) [0, 0, 0, 4, 15, 0, 32, 0, 128, 511, 1023] [(0, 32), (1, 33), (2, 34), (3, 35), (4, 36), (5, 37), (6, 38), (7, 39), (8, 40), (9, 41), (10, 8)] (fun i v w => match i with | 0 => v = .slice A2 (sealB xs).length c2 | 1 => v = .int .i64 (q : Int) | 2 => v = .pointer (some ⟨BX, 0, none⟩) | 3 => v = .int .u8 (bv m) | 4 => ∃ A' c', v = .slice A' (sealB xs).length c' ∧ Sl w A' c' (turnB (sealB xs) (q : Int) m) | 5 => v = .int .i64 (q : Int) | 6 => v = .int .i64 ((q : Int) + 1) | 7 => v = .pointer (some ⟨BX, 1, none⟩) | 8 => v = .int .u8 (bv n) | 9 => ∃ A' c', v = .slice A' (sealB xs).length c' ∧ Sl w A' c' (turnB (turnB (sealB xs) (q : Int) m) ((q : Int) + 1) n) | 10 => ∃ A' c', v = .slice A' (sealB xs).length c' ∧ Sl w A' c' (turnB (turnB (sealB xs) (q : Int) m) ((q : Int) + 1) n) | _ => True) (by kernel_rfl) rfl rfl (by kernel_rfl) (by kernel_rfl) (by kernel_rfl) rfl (by kernel_rfl) ?_ ?_
    · intro e he a w hB hel hdep
      simp only [List.mem_cons, List.not_mem_nil, or_false] at he
      rcases he with rfl | rfl | rfl | rfl | rfl | rfl | rfl | rfl | rfl | rfl | rfl
      · have h7 : a.tmps[7]? = some (.slice A2 (sealB xs).length c2) := (hel 7 (by decide)).trans rfl
        have e7 : a.eval (.tmp 7) = .slice A2 (sealB xs).length c2 := eval_of h7
        exact ⟨_, rfl, rfl, Ok.move (wanted_none rfl) (.inl rfl) e7 (fun _ _ => rfl)⟩
      · have h1 : a.tmps[1]? = some (.int .i64 (q : Int)) := (hel 1 (by decide)).trans rfl
        have e1 : a.eval (.tmp 1) = .int .i64 (q : Int) := eval_of h1
        exact ⟨_, rfl, rfl, Ok.move (wanted_none rfl) (.inl rfl) e1 (fun _ _ => rfl)⟩
      · have h5 : a.tmps[5]? = some (.pointer (some ⟨BX, 0, none⟩)) := (hel 5 (by decide)).trans rfl
        have e5 : a.eval (.tmp 5) = .pointer (some ⟨BX, 0, none⟩) := eval_of h5
        exact ⟨_, rfl, rfl, Ok.pure (.pointer (some ⟨BX, 0, none⟩)) (wanted_none rfl) (by simp only [execOp]; go_simp) (fun _ _ => rfl)⟩
      · obtain ⟨v34, h34, q34⟩ := hdep (2, 34) (by decide) (by decide)
        obtain rfl : v34 = .pointer (some ⟨BX, 0, none⟩) := q34.now
        replace h34 : a.tmps[34]? = some (.pointer (some ⟨BX, 0, none⟩)) := h34
        have e34 : a.eval (.tmp 34) = .pointer (some ⟨BX, 0, none⟩) := eval_of h34
        have k := (hB.cell (p := ⟨BX, 0, none⟩) HZ2.out).trans E0.out
        exact ⟨_, rfl, rfl, Ok.pure (.int .u8 (bv m)) (wanted_none rfl) (by simp only [execOp]; go_simp) (fun _ _ => rfl)⟩
      · obtain ⟨v32, h32, q32⟩ := hdep (0, 32) (by decide) (by decide)
        obtain rfl : v32 = .slice A2 (sealB xs).length c2 := q32.now
        replace h32 : a.tmps[32]? = some (.slice A2 (sealB xs).length c2) := h32
        have e32 : a.eval (.tmp 32) = .slice A2 (sealB xs).length c2 := eval_of h32
        obtain ⟨v33, h33, q33⟩ := hdep (1, 33) (by decide) (by decide)
        obtain rfl : v33 = .int .i64 (q : Int) := q33.now
        replace h33 : a.tmps[33]? = some (.int .i64 (q : Int)) := h33
        have e33 : a.eval (.tmp 33) = .int .i64 (q : Int) := eval_of h33
        obtain ⟨v35, h35, q35⟩ := hdep (3, 35) (by decide) (by decide)
        obtain rfl : v35 = .int .u8 (bv m) := q35.now
        replace h35 : a.tmps[35]? = some (.int .u8 (bv m)) := h35
        have e35 : a.eval (.tmp 35) = .int .u8 (bv m) := eval_of h35
        exact ⟨_, rfl, rfl, Ok.call Try.func20 (by kernel_rfl) rfl #[.slice A2 (sealB xs).length c2, .int .i64 (q : Int), .int .u8 (bv m)] (wanted_none rfl) rfl (by simp [e32, e33, e35]) ((turn_n A2 _ c2 (sealB xs) (q : Int) m w rfl (HX2.out.below hB) (by have := HL.out; omega)).mono (by rintro e w' ⟨A', c', rfl, hs, hb⟩; exact ⟨_, rfl, fun _ hb2 => ⟨_, _, rfl, hs.below hb2⟩, hb⟩))⟩
      · have h1 : a.tmps[1]? = some (.int .i64 (q : Int)) := (hel 1 (by decide)).trans rfl
        have e1 : a.eval (.tmp 1) = .int .i64 (q : Int) := eval_of h1
        exact ⟨_, rfl, rfl, Ok.move (wanted_none rfl) (.inl rfl) e1 (fun _ _ => rfl)⟩
      · obtain ⟨v37, h37, q37⟩ := hdep (5, 37) (by decide) (by decide)
        obtain rfl : v37 = .int .i64 (q : Int) := q37.now
        replace h37 : a.tmps[37]? = some (.int .i64 (q : Int)) := h37
        have e37 : a.eval (.tmp 37) = .int .i64 (q : Int) := eval_of h37
        exact ⟨_, rfl, rfl, Ok.pure (.int .i64 ((q : Int) + 1)) (wanted_none rfl) (by simp only [execOp]; go_simp; rw [IntKind.wrap_i64]; omega) (fun _ _ => rfl)⟩
      · have h5 : a.tmps[5]? = some (.pointer (some ⟨BX, 0, none⟩)) := (hel 5 (by decide)).trans rfl
        have e5 : a.eval (.tmp 5) = .pointer (some ⟨BX, 0, none⟩) := eval_of h5
        exact ⟨_, rfl, rfl, Ok.pure (.pointer (some ⟨BX, 1, none⟩)) (wanted_none rfl) (by simp only [execOp]; go_simp) (fun _ _ => rfl)⟩
      · obtain ⟨v39, h39, q39⟩ := hdep (7, 39) (by decide) (by decide)
        obtain rfl : v39 = .pointer (some ⟨BX, 1, none⟩) := q39.now
        replace h39 : a.tmps[39]? = some (.pointer (some ⟨BX, 1, none⟩)) := h39
        have e39 : a.eval (.tmp 39) = .pointer (some ⟨BX, 1, none⟩) := eval_of h39
        have k := (hB.cell (p := ⟨BX, 1, none⟩) HZ2.out).trans E1.out
        exact ⟨_, rfl, rfl, Ok.pure (.int .u8 (bv n)) (wanted_none rfl) (by simp only [execOp]; go_simp) (fun _ _ => rfl)⟩
      · obtain ⟨v36, h36, q36⟩ := hdep (4, 36) (by decide) (by decide)
        have s36 := q36.now
        obtain ⟨v38, h38, q38⟩ := hdep (6, 38) (by decide) (by decide)
        obtain rfl : v38 = .int .i64 ((q : Int) + 1) := q38.now
        replace h38 : a.tmps[38]? = some (.int .i64 ((q : Int) + 1)) := h38
        have e38 : a.eval (.tmp 38) = .int .i64 ((q : Int) + 1) := eval_of h38
        obtain ⟨v40, h40, q40⟩ := hdep (8, 40) (by decide) (by decide)
        obtain rfl : v40 = .int .u8 (bv n) := q40.now
        replace h40 : a.tmps[40]? = some (.int .u8 (bv n)) := h40
        have e40 : a.eval (.tmp 40) = .int .u8 (bv n) := eval_of h40
        obtain ⟨A', c', rfl, hs⟩ := s36
        have e36 := eval_of h36
        exact ⟨_, rfl, rfl, Ok.call Try.func20 (by kernel_rfl) rfl #[.slice A' (sealB xs).length c', .int .i64 ((q : Int) + 1), .int .u8 (bv n)] (wanted_none rfl) rfl (by simp [e36, e38, e40]) ((turn_n A' _ c' (turnB (sealB xs) (q : Int) m) ((q : Int) + 1) n w (by rw [turnB_length]) hs (by rw [turnB_length]; have := HL.out; omega)).mono (by rintro e w' ⟨A', c', rfl, hs, hb⟩; exact ⟨_, rfl, fun _ hb2 => ⟨_, _, rfl, hs.below hb2⟩, hb⟩))⟩
      · obtain ⟨v41, h41, q41⟩ := hdep (9, 41) (by decide) (by decide)
        have s41 := q41.now
        exact ⟨_, rfl, rfl, Ok.move (wanted_none rfl) (.inr rfl) (eval_of h41) q41⟩
    intro vs wE hBE hS
    have f32 := hS (0, 32) (by decide)
    have f33 := hS (1, 33) (by decide)
    have f34 := hS (2, 34) (by decide)
    have f35 := hS (3, 35) (by decide)
    have f36 := hS (4, 36) (by decide)
    have f37 := hS (5, 37) (by decide)
    have f38 := hS (6, 38) (by decide)
    have f39 := hS (7, 39) (by decide)
    have f40 := hS (8, 40) (by decide)
    have f41 := hS (9, 41) (by decide)
    have f8 := hS (10, 8) (by decide)
    clear hS
    simp only [tells, List.map_cons, List.map_nil, putSel, if_true]
    generalize vs 0 = z32 at *
    generalize vs 1 = z33 at *
    generalize vs 2 = z34 at *
    generalize vs 3 = z35 at *
    generalize vs 4 = z36 at *
    generalize vs 5 = z37 at *
    generalize vs 6 = z38 at *
    generalize vs 7 = z39 at *
    generalize vs 8 = z40 at *
    generalize vs 9 = z41 at *
    generalize vs 10 = z8 at *
    have f32' : z32 = .slice A2 (sealB xs).length c2 := f32
    clear f32
    subst f32'
    have f33' : z33 = .int .i64 (q : Int) := f33
    clear f33
    subst f33'
    have f34' : z34 = .pointer (some ⟨BX, 0, none⟩) := f34
    clear f34
    subst f34'
    have f35' : z35 = .int .u8 (bv m) := f35
    clear f35
    subst f35'
    have f37' : z37 = .int .i64 (q : Int) := f37
    clear f37
    subst f37'
    have f38' : z38 = .int .i64 ((q : Int) + 1) := f38
    clear f38
    subst f38'
    have f39' : z39 = .pointer (some ⟨BX, 1, none⟩) := f39
    clear f39
    subst f39'
    have f40' : z40 = .int .u8 (bv n) := f40
    clear f40
    subst f40'
    simp only [Act.put, List.setIfInBounds_toArray, List.set_cons_zero, List.set_cons_succ]
    obtain ⟨A8, c8, rfl, hs8⟩ := f8
    have HB3 := Lib.hid (below_step HB2.out hBE)
    have HR3 := Lib.hid (HR2.out.below hBE)
    have HX3 := Lib.hid (HX2.out.below hBE)
    have HY3 := Lib.hid hs8
    have F0 := Lib.hid ((hBE.cell (p := ⟨BX, 0, none⟩) HZ2.out).trans E0.out)
    have F1 := Lib.hid ((hBE.cell (p := ⟨BX, 1, none⟩) HZ2.out).trans E1.out)
    have HZ3 := Lib.hid (Nat.lt_of_lt_of_le HZ2.out hBE.size)
    have HF := Lib.hid (finds (sealB xs) q m n (by have := HL.out; omega) (by have := HL.out; omega) (seal_sum xs))
    clear hBE hs8 HB2 HR2 HX2 E0 E1 HZ2 f36 f41
    go_wp2_with fail
    refine (open_n _ _ _ (sealB xs) _ rfl HX3.out (by have := HL.out; omega)).mono ?_
    rw [okB_seal, bodyB_seal]
    rintro e w4 ⟨A4, c4, rfl, hs, _, hb⟩
    have HR4 := Lib.hid (HR3.out.below hb)
    have HY4 := Lib.hid (HY3.out.below hb)
    have HB4 := Lib.hid (below_step HB3.out hb)
    have HX4 := Lib.hid hs
    have G0 := Lib.hid ((hb.cell (p := ⟨BX, 0, none⟩) HZ3.out).trans F0.out)
    have G1 := Lib.hid ((hb.cell (p := ⟨BX, 1, none⟩) HZ3.out).trans F1.out)
    have HZ4 := Lib.hid (Nat.lt_of_lt_of_le HZ3.out hb.size)
    clear hs hb HR3 HB3 HX3 HY3 F0 F1 HZ3
    go_wp2_with fail
    refine (open_n _ _ _ (turnB (turnB (sealB xs) (q : Int) m) ((q : Int) + 1) n) _ (by rw [turnB_length, turnB_length]) HY4.out (by rw [turnB_length, turnB_length]; have := HL.out; omega)).mono ?_
    rw [HF.out]
    rintro e w5 ⟨A5, c5, rfl, _, _, hb⟩
    have HR5 := HR4.out.below hb
    have HX5 := HX4.out.below hb
    have HB5 := Lib.hid (below_step HB4.out hb)
    have u0 := (hb.cell (p := ⟨BX, 0, none⟩) HZ4.out).trans G0.out
    have u1 := (hb.cell (p := ⟨BX, 1, none⟩) HZ4.out).trans G1.out
    have k1 := HX5.rd.conv _ c4 rfl
    have k2 := HR5.rd.conv _ c rfl
    clear hb HR4 HX4 HY4 G0 G1 HZ4 HB4
    have k3 : (Op.equalIn 10000 37 (.agg #[.int .u8 (bv m), .int .u8 (bv n)]) (.agg #[.int .u8 0, .int .u8 0])).run Try.prog w5 = .ok (decide (m = 0) && decide (n = 0)) w5 := by
      have h := equalIn_bytes Try.underlying37 [m, n] [0, 0] rfl rfl w5
      have e : decide ([m, n] = [0, 0]) = (decide (m = 0) && decide (n = 0)) := by
        by_cases h1 : m = 0 <;> by_cases h2 : n = 0 <;> simp [h1, h2]
      rw [e] at h
      exact h
    go_wp2
    go_ret
    exact ⟨by simp, HB5.out⟩
  · have out : (decide ((500 : Int) < (xs.length : Int)) = true) ∨ (decide ((500 : Int) < (xs.length : Int)) = false ∧ decide (p < 0) = true) ∨
        (decide ((500 : Int) < (xs.length : Int)) = false ∧ decide (p < 0) = false ∧ decide ((xs.length : Int) + 3 ≤ p) = true ∧ (xs.length : Int) ≤ 500) := by
      simp only [decide_eq_true_eq, decide_eq_false_iff_not]; omega
    clear hl
    rcases out with b1 | ⟨b1, b2⟩ | ⟨b1, b2, b3, b4⟩
    all_goals
      go_enter Try.func8, Try.ntmps8
      go_wp2_with (go_at_call 13; refine (crcAlive_any _).mono ?_; rintro e w1 ⟨rfl, hb⟩; have HB1 := Lib.hid (below_step HB0.out hb); clear hb)
      go_ret
      exact ⟨rfl, HB1.out⟩
end Go.Proofs.Ytckfcnclekjjdaa
