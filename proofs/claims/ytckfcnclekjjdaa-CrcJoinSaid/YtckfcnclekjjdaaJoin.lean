/- CrcJoin: the law's walk. -/
import Derived.Test.YtckfcnclekjjdaaAlive2
import Derived.Test.YtckfcnclekjjdaaFree
import Derived.RegionTactic
import Derived.BigRegion
import Derived.ChangeAlike
namespace Go.Proofs.Ytckfcnclekjjdaa
open Go.RowKit Go.Proofs.YtckfcnclekjjdaaW.PrintWords Go.Proofs.YtckfcnclekjjdaaW.PrintLast
open Crc

namespace Crc
def mix3 (a b c : List UInt8) : List UInt8 := List.zipWith (· ^^^ ·) (List.zipWith (· ^^^ ·) a b) c
theorem zip_bv (a b : List UInt8) : (List.zipWith (· ^^^ ·) a b).map UInt8.toBitVec = List.zipWith (· ^^^ ·) (a.map UInt8.toBitVec) (b.map UInt8.toBitVec) := by
  rw [List.map_zipWith, List.zipWith_map]; rfl
theorem mix3_sum (a b c : List UInt8) (h1 : a.length = b.length) (h2 : b.length = c.length) : sumB init (mix3 a b c) = sumB init a ^^^ sumB init b ^^^ sumB init c := by
  have e : init = init ^^^ init ^^^ init := by decide
  rw [sumB_eq, sumB_eq, sumB_eq, sumB_eq]
  unfold mix3
  rw [zip_bv, zip_bv]
  conv => lhs; rw [e]
  rw [sum_xor _ _ _ _ (by simp; omega), sum_xor _ _ _ _ (by simp; omega)]
theorem mix3_length (a b c : List UInt8) (n : Nat) (h1 : a.length = n) (h2 : b.length = n) (h3 : c.length = n) : (mix3 a b c).length = n := by
  unfold mix3; simp; omega
theorem mix3_at (a b c : List UInt8) (k : Nat) (h : k < (mix3 a b c).length) (h1 : k < a.length) (h2 : k < b.length) (h3 : k < c.length) : (mix3 a b c)[k] = a[k] ^^^ b[k] ^^^ c[k] := by
  simp only [mix3, List.getElem_zipWith]
/-- A list that is filled from the front. -/
def filled (X : List UInt8) (k : Nat) : List UInt8 := X.take k ++ List.replicate (X.length - k) 0
theorem filled_zero (X : List UInt8) : filled X 0 = List.replicate X.length 0 := by unfold filled; simp
theorem filled_all (X : List UInt8) : filled X X.length = X := by unfold filled; simp
theorem filled_length (X : List UInt8) (k : Nat) (h : k ≤ X.length) : (filled X k).length = X.length := by unfold filled; simp; omega
theorem filled_set (X : List UInt8) (k : Nat) (h : k < X.length) : (filled X k).set k X[k] = filled X (k + 1) := by
  unfold filled
  have h1 : X.length - k = (X.length - (k + 1)) + 1 := by omega
  rw [h1, List.replicate_succ, List.set_append_right _ _ (by simp; omega), List.length_take, Nat.min_eq_left (by omega), Nat.sub_self, List.set_cons_zero, List.take_succ_eq_append_getElem h, List.append_assoc]
  rfl
end Crc

/-- make([]byte, n) -/
theorem own_make {ops : Array Oper} {rest : List Oper} {o : Oper} {a : Act} {Q : Exit → Act → World → Prop} {W : World} (hgd : o.guard = none) {N : Tmp} (hd : o.dst = some N) (x y : Operand) (ho : o.op = .makeSlice 24 x y) (n : Nat)
    (hx : a.eval x = .int .i64 (n : Int)) (hy : a.eval y = .int .i64 (n : Int)) (hl : n ≤ 140737488355328)
    (h : ∀ v1 w1, Own w1 W.heap.size v1 (List.replicate n 0) → Below W.heap.size W w1 → wpList Try.prog ops Q rest (a.put o.dst v1) w1) : wpList Try.prog ops Q (o :: rest) a W :=
  Kd.R_make kByte (w0 := W) W.heap.size 5 hgd hd 24 x y ho (n : Int) hx hy Try.underlying24 _ 1 info5 rfl (by decide) (by decide) (0 : UInt8) (ok := fun _ => True) (okp := fun _ => True) (show _ = _ from rfl) (fun _ h => h) trivial (by omega)
    (by simp; omega) (Below.refl _ _) (Nat.le_refl _) (fun v1 w1 h1 hb _ _ => h v1 w1 (by simpa using h1) hb)

/-- The smaller of two. -/
def mnI (a b : Int) : Int := if b < a then b else a
theorem min2_mnI (k k' : IntKind) (x y : Int) : Builtin.min2 (.int k x) (.int k' y) = pure (.int k (mnI x y)) := by simp only [Builtin.min2, mnI]
theorem min_3 (ats : Array TypeId) (ty : TypeId) (a b c : Value) : Builtin.min_ ats ty #[a, b, c] = (Builtin.min2 a b >>= fun s => Builtin.min2 s c >>= fun s => pure s) := by simp only [Builtin.min_, List.foldlM_cons, List.foldlM_nil]
theorem Rds.one_n {w : World} {A : Option Addr} {c n : Nat} {xs : List UInt8} (hn : n = xs.length) (h : Sl w A c xs) : Rds (w.alloc (.cells #[.slice A n c] 24)) (some ⟨w.heap.size, 0, Option.none⟩) [xs] := by
  subst hn; exact Rds.one h
attribute [local go_sem] strB_list min2_mnI min_3
set_option maxHeartbeats 4000000 in
theorem crcJoin_any (A1 : Option Addr) (c1 : Nat) (x1 : List UInt8) (A2 : Option Addr) (c2 : Nat) (x2 : List UInt8) (A3 : Option Addr) (c3 : Nat) (x3 : List UInt8) (w : World) (h1 : Sl w A1 c1 x1) (h2 : Sl w A2 c2 x2) (h3 : Sl w A3 c3 x3) :
    Calls Try.prog 4 #[.slice A1 x1.length c1, .slice A2 x2.length c2, .slice A3 x3.length c3] w fun e w' => e = .returned (.bool true) ∧ Below w.heap.size w w' := by
  have n1 := h1.small
  have n2 := h2.small
  have n3 := h3.small
  have H1 := Lib.hid h1
  have H2 := Lib.hid h2
  have H3 := Lib.hid h3
  clear h1 h2 h3
  by_cases g : x1.length ≤ 300 ∧ x2.length ≤ 300 ∧ x3.length ≤ 300
  · obtain ⟨g1, g2, g3⟩ := g
    have b1 : decide ((300 : Int) < (x1.length : Int)) = false := by simp; omega
    have b2 : decide ((300 : Int) < (x2.length : Int)) = false := by simp; omega
    have b3 : decide ((300 : Int) < (x3.length : Int)) = false := by simp; omega
    obtain ⟨n, hn⟩ : ∃ n, n = min (min x1.length x2.length) x3.length := ⟨_, rfl⟩
    have hmn : mnI (mnI (x1.length : Int) (x2.length : Int)) (x3.length : Int) = (n : Int) := by
      unfold mnI; split <;> split <;> omega
    have m1 : n ≤ x1.length := by omega
    have m2 : n ≤ x2.length := by omega
    have m3 : n ≤ x3.length := by omega
    clear hn
    have hX : (mix3 (x1.take n) (x2.take n) (x3.take n)).length = n := mix3_length _ _ _ n (by simp; omega) (by simp; omega) (by simp; omega)
    have hXe : sumB init (mix3 (x1.take n) (x2.take n) (x3.take n)) = sumB init (x1.take n) ^^^ sumB init (x2.take n) ^^^ sumB init (x3.take n) := mix3_sum _ _ _ (by simp; omega) (by simp; omega)
    have hXk : ∀ k (h : k < (mix3 (x1.take n) (x2.take n) (x3.take n)).length) (k1 : k < x1.length) (k2 : k < x2.length) (k3 : k < x3.length), (mix3 (x1.take n) (x2.take n) (x3.take n))[k] = x1[k] ^^^ x2[k] ^^^ x3[k] := by
      intro k h k1 k2 k3
      rw [mix3_at _ _ _ k h (by simp; omega) (by simp; omega) (by simp; omega)]
      simp
    generalize mix3 (x1.take n) (x2.take n) (x3.take n) = X at hX hXe hXk
    have HX := Lib.hid hX
    have HXe := Lib.hid hXe
    have HXk := Lib.hid hXk
    clear hX hXe hXk
    go_enter Try.func4, Try.ntmps4
    go_wp2_with (first
      | (go_at_call 13; refine (crcAlive_any _).mono ?_; rintro e w1 ⟨rfl, HB⟩; have HB1 := Lib.hid HB; clear HB)
      | (at_make; refine own_make rfl rfl _ _ rfl n rfl rfl (by omega) ?_; intro v w2 HO HB; have HO2 := Lib.hid HO; have HB2 := Lib.hid HB; obtain ⟨A, c, rfl, _⟩ := HO.sl; clear HO HB))
    have HO3 : Hid (Own w2 w1.heap.size (.slice A n c) (filled X 0)) := by
      have := HO2.out
      rw [List.length_replicate] at this
      rw [filled_zero, HX.out]; exact this
    clear HO2
    go_loopw [36] (fun i wr => ∃ k : Nat, k ≤ n ∧ i = .int .i64 k ∧ Own wr w1.heap.size (.slice A n c) (filled X k) ∧ Below w1.heap.size w1 wr) (fun i _ => n - (intOf i).toNat)
    case atStart => exact ⟨0, by omega, rfl, HO3.out, HB2.out⟩
    case round =>
      obtain ⟨k, hk, rfl, HOr, HBr⟩ := hrel
      clear HO3 HB2
      have HOr2 := Lib.hid HOr
      have HBr2 := Lib.hid HBr
      clear HOr HBr
      by_cases hlt : k < n
      · have hXl : k < X.length := by rw [HX.out]; exact hlt
        obtain ⟨a1, e1, q1⟩ := ((H1.out.below HB1.out).below HBr2.out).rd.at k (by omega)
        obtain ⟨a2, e2, q2⟩ := ((H2.out.below HB1.out).below HBr2.out).rd.at k (by omega)
        obtain ⟨a3, e3, q3⟩ := ((H3.out.below HB1.out).below HBr2.out).rd.at k (by omega)
        obtain ⟨g, c', e4, _, hg0, hg1, hcell, hfz, hst⟩ := HOr2.out.form (by rw [filled_length X k (by omega)]; omega)
        cases e1
        cases e2
        cases e3
        have q4 := hcell k (by rw [filled_length X k (by omega)]; exact hXl)
        rw [filled_length X k (by omega)] at hst e4
        injection e4 with e4 e5 e6
        clear e5
        subst e4
        subst e6
        have q5 := hfz k
        have hs2 := hst k X[k]
        rw [filled_set X k hXl, HX.out] at hs2
        have HS := Lib.hid hs2
        have k1 := xor_bv x1[k] x2[k]
        have k2 := xor_bv (x1[k] ^^^ x2[k]) x3[k]
        have k3 := HXk.out k hXl (by omega) (by omega) (by omega)
        rw [← k3] at k2
        have HB4 := Lib.hid (HBr2.out.setCell (p := ⟨g, k, none⟩) hg0 (.int .u8 (bv X[k])))
        clear hcell hfz hst hs2 k3
        go_wp2
        go_region
        go_wp2
        go_roundw
        case rel => exact ⟨k + 1, by omega, by go_num, HS.out, HB4.out.drew⟩
        case measure => simp [intOf]; omega
      · obtain rfl : k = n := by omega
        go_wp2
        have hb1 := below_step HB1.out HBr2.out
        have HBr := Lib.hid hb1
        have HP1 := Lib.hid (((H1.out.below HB1.out).below HBr2.out).take k m1)
        have HP2 := Lib.hid (((H2.out.below HB1.out).below HBr2.out).take k m2)
        have HP3 := Lib.hid (((H3.out.below HB1.out).below HBr2.out).take k m3)
        have hxs : Sl wr A c X := by
          obtain ⟨A', c', e, hs⟩ := HOr2.out.sl
          injection e with e1 e2 e3
          subst e1
          subst e3
          have := HX.out
          rw [← this, filled_all] at hs
          exact hs
        have HXs := Lib.hid hxs
        have NX := Lib.hid (show k = X.length from HX.out.symm)
        have N1 := Lib.hid (show k = (x1.take k).length by rw [List.length_take]; omega)
        have N2 := Lib.hid (show k = (x2.take k).length by rw [List.length_take]; omega)
        have N3 := Lib.hid (show k = (x3.take k).length by rw [List.length_take]; omega)
        have p1 := H1.out.cap
        have p2 := H2.out.cap
        have p3 := H3.out.cap
        have r1 : (k : Int) ≤ (c1 : Int) := by omega
        have r2 : (k : Int) ≤ (c2 : Int) := by omega
        have r3 : (k : Int) ≤ (c3 : Int) := by omega
        clear hxs hb1 p1 p2 p3 hlt hk HOr2 HBr2 HB1
        refine free_region (n := 22) (T := _) [0, 1, 3, 0, 0, 24, 56, 127, 0, 0, 768, 1792, 4095, 8191, 0, 0, 49152, 114688, 253951, 524287, 1048575, 2097151] [(0, 57), (1, 58), (2, 59), (3, 60), (4, 61), (5, 62), (6, 63), (7, 64), (8, 65), (9, 66), (10, 67), (11, 68), (12, 69), (13, 70), (14, 71), (15, 72), (16, 73), (17, 74), (18, 75), (19, 76), (20, 77), (21, 6)] (fun i v w => match i with | 0 => v = .slice A k c | 1 => ∃ A', v = .slice (some A') 1 1 ∧ Rds w (some A') [X] | 2 => v = .int .u32 (u (sumB init (X))) | 3 => v = .slice A1 x1.length c1 | 4 => v = .int .i64 (k : Int) | 5 => v = .slice A1 k c1 | 6 => ∃ A', v = .slice (some A') 1 1 ∧ Rds w (some A') [(x1.take k)] | 7 => v = .int .u32 (u (sumB init ((x1.take k)))) | 8 => v = .slice A2 x2.length c2 | 9 => v = .int .i64 (k : Int) | 10 => v = .slice A2 k c2 | 11 => ∃ A', v = .slice (some A') 1 1 ∧ Rds w (some A') [(x2.take k)] | 12 => v = .int .u32 (u (sumB init ((x2.take k)))) | 13 => v = .int .u32 (u (sumB init (x1.take k) ^^^ sumB init (x2.take k))) | 14 => v = .slice A3 x3.length c3 | 15 => v = .int .i64 (k : Int) | 16 => v = .slice A3 k c3 | 17 => ∃ A', v = .slice (some A') 1 1 ∧ Rds w (some A') [(x3.take k)] | 18 => v = .int .u32 (u (sumB init ((x3.take k)))) | 19 => v = .int .u32 (u (sumB init X)) | 20 => v = .bool true | 21 => v = .bool true | _ => True) (by kernel_rfl) rfl rfl (by kernel_rfl) (by kernel_rfl) (by kernel_rfl) rfl (by kernel_rfl) ?_ ?_
        · intro e he a w hB hel hdep
          simp only [List.mem_cons, List.not_mem_nil, or_false] at he
          rcases he with rfl | rfl | rfl | rfl | rfl | rfl | rfl | rfl | rfl | rfl | rfl | rfl | rfl | rfl | rfl | rfl | rfl | rfl | rfl | rfl | rfl | rfl
          · have h8 : a.tmps[8]? = some (.slice A k c) := (hel 8 (by decide)).trans rfl
            have e8 : a.eval (.tmp 8) = .slice A k c := eval_of h8
            exact ⟨_, rfl, rfl, Ok.move (wanted_none rfl) (.inl rfl) e8 (fun _ _ => rfl)⟩
          · obtain ⟨v57, h57, q57⟩ := hdep (0, 57) (by decide) (by decide)
            obtain rfl : v57 = .slice A k c := q57.now
            have h57' : a.tmps[57]? = some (.slice A k c) := h57
            have e57 : a.eval (.tmp 57) = .slice A k c := eval_of h57
            exact ⟨_, rfl, rfl, Ok.make (.slice (some ⟨w.heap.size, 0, Option.none⟩) 1 1) (w.alloc (.cells #[.slice A k c] 24)) (wanted_none rfl) (by simp only [execOp]; go_simp) (alloc_below _ _) (fun _ hb => ⟨_, rfl, (Rds.one_n NX.out (HXs.out.below hB)).below hb⟩)⟩
          · obtain ⟨v58, h58, q58⟩ := hdep (1, 58) (by decide) (by decide)
            have s58 := q58.now
            obtain ⟨A', rfl, hr⟩ := s58
            exact ⟨_, rfl, rfl, Ok.call Try.func15 (by kernel_rfl) rfl #[.slice (some A') 1 1] (wanted_none rfl) rfl (by simp [eval_of h58]) ((of_n _ _ _ [X] (X) _ rfl (by simp) hr).mono (by rintro e w' ⟨rfl, rfl⟩; exact ⟨_, rfl, fun _ _ => rfl, Below.refl _ _⟩))⟩
          · have h0 : a.tmps[0]? = some (.slice A1 x1.length c1) := (hel 0 (by decide)).trans rfl
            have e0 : a.eval (.tmp 0) = .slice A1 x1.length c1 := eval_of h0
            exact ⟨_, rfl, rfl, Ok.move (wanted_none rfl) (.inl rfl) e0 (fun _ _ => rfl)⟩
          · have h7 : a.tmps[7]? = some (.int .i64 (k : Int)) := (hel 7 (by decide)).trans rfl
            have e7 : a.eval (.tmp 7) = .int .i64 (k : Int) := eval_of h7
            exact ⟨_, rfl, rfl, Ok.move (wanted_none rfl) (.inl rfl) e7 (fun _ _ => rfl)⟩
          · obtain ⟨v60, h60, q60⟩ := hdep (3, 60) (by decide) (by decide)
            obtain rfl : v60 = .slice A1 x1.length c1 := q60.now
            have h60' : a.tmps[60]? = some (.slice A1 x1.length c1) := h60
            have e60 : a.eval (.tmp 60) = .slice A1 x1.length c1 := eval_of h60
            obtain ⟨v61, h61, q61⟩ := hdep (4, 61) (by decide) (by decide)
            obtain rfl : v61 = .int .i64 (k : Int) := q61.now
            have h61' : a.tmps[61]? = some (.int .i64 (k : Int)) := h61
            have e61 : a.eval (.tmp 61) = .int .i64 (k : Int) := eval_of h61
            exact ⟨_, rfl, rfl, Ok.pure (.slice A1 k c1) (wanted_none rfl) (by simp only [execOp]; go_simp) (fun _ _ => rfl)⟩
          · obtain ⟨v62, h62, q62⟩ := hdep (5, 62) (by decide) (by decide)
            obtain rfl : v62 = .slice A1 k c1 := q62.now
            have h62' : a.tmps[62]? = some (.slice A1 k c1) := h62
            have e62 : a.eval (.tmp 62) = .slice A1 k c1 := eval_of h62
            exact ⟨_, rfl, rfl, Ok.make (.slice (some ⟨w.heap.size, 0, Option.none⟩) 1 1) (w.alloc (.cells #[.slice A1 k c1] 24)) (wanted_none rfl) (by simp only [execOp]; go_simp) (alloc_below _ _) (fun _ hb => ⟨_, rfl, (Rds.one_n N1.out (HP1.out.below hB)).below hb⟩)⟩
          · obtain ⟨v63, h63, q63⟩ := hdep (6, 63) (by decide) (by decide)
            have s63 := q63.now
            obtain ⟨A', rfl, hr⟩ := s63
            exact ⟨_, rfl, rfl, Ok.call Try.func15 (by kernel_rfl) rfl #[.slice (some A') 1 1] (wanted_none rfl) rfl (by simp [eval_of h63]) ((of_n _ _ _ [(x1.take k)] ((x1.take k)) _ rfl (by simp) hr).mono (by rintro e w' ⟨rfl, rfl⟩; exact ⟨_, rfl, fun _ _ => rfl, Below.refl _ _⟩))⟩
          · have h1 : a.tmps[1]? = some (.slice A2 x2.length c2) := (hel 1 (by decide)).trans rfl
            have e1 : a.eval (.tmp 1) = .slice A2 x2.length c2 := eval_of h1
            exact ⟨_, rfl, rfl, Ok.move (wanted_none rfl) (.inl rfl) e1 (fun _ _ => rfl)⟩
          · have h7 : a.tmps[7]? = some (.int .i64 (k : Int)) := (hel 7 (by decide)).trans rfl
            have e7 : a.eval (.tmp 7) = .int .i64 (k : Int) := eval_of h7
            exact ⟨_, rfl, rfl, Ok.move (wanted_none rfl) (.inl rfl) e7 (fun _ _ => rfl)⟩
          · obtain ⟨v65, h65, q65⟩ := hdep (8, 65) (by decide) (by decide)
            obtain rfl : v65 = .slice A2 x2.length c2 := q65.now
            have h65' : a.tmps[65]? = some (.slice A2 x2.length c2) := h65
            have e65 : a.eval (.tmp 65) = .slice A2 x2.length c2 := eval_of h65
            obtain ⟨v66, h66, q66⟩ := hdep (9, 66) (by decide) (by decide)
            obtain rfl : v66 = .int .i64 (k : Int) := q66.now
            have h66' : a.tmps[66]? = some (.int .i64 (k : Int)) := h66
            have e66 : a.eval (.tmp 66) = .int .i64 (k : Int) := eval_of h66
            exact ⟨_, rfl, rfl, Ok.pure (.slice A2 k c2) (wanted_none rfl) (by simp only [execOp]; go_simp) (fun _ _ => rfl)⟩
          · obtain ⟨v67, h67, q67⟩ := hdep (10, 67) (by decide) (by decide)
            obtain rfl : v67 = .slice A2 k c2 := q67.now
            have h67' : a.tmps[67]? = some (.slice A2 k c2) := h67
            have e67 : a.eval (.tmp 67) = .slice A2 k c2 := eval_of h67
            exact ⟨_, rfl, rfl, Ok.make (.slice (some ⟨w.heap.size, 0, Option.none⟩) 1 1) (w.alloc (.cells #[.slice A2 k c2] 24)) (wanted_none rfl) (by simp only [execOp]; go_simp) (alloc_below _ _) (fun _ hb => ⟨_, rfl, (Rds.one_n N2.out (HP2.out.below hB)).below hb⟩)⟩
          · obtain ⟨v68, h68, q68⟩ := hdep (11, 68) (by decide) (by decide)
            have s68 := q68.now
            obtain ⟨A', rfl, hr⟩ := s68
            exact ⟨_, rfl, rfl, Ok.call Try.func15 (by kernel_rfl) rfl #[.slice (some A') 1 1] (wanted_none rfl) rfl (by simp [eval_of h68]) ((of_n _ _ _ [(x2.take k)] ((x2.take k)) _ rfl (by simp) hr).mono (by rintro e w' ⟨rfl, rfl⟩; exact ⟨_, rfl, fun _ _ => rfl, Below.refl _ _⟩))⟩
          · obtain ⟨v64, h64, q64⟩ := hdep (7, 64) (by decide) (by decide)
            obtain rfl : v64 = .int .u32 (u (sumB init ((x1.take k)))) := q64.now
            have h64' : a.tmps[64]? = some (.int .u32 (u (sumB init ((x1.take k))))) := h64
            have e64 : a.eval (.tmp 64) = .int .u32 (u (sumB init ((x1.take k)))) := eval_of h64
            obtain ⟨v69, h69, q69⟩ := hdep (12, 69) (by decide) (by decide)
            obtain rfl : v69 = .int .u32 (u (sumB init ((x2.take k)))) := q69.now
            have h69' : a.tmps[69]? = some (.int .u32 (u (sumB init ((x2.take k))))) := h69
            have e69 : a.eval (.tmp 69) = .int .u32 (u (sumB init ((x2.take k)))) := eval_of h69
            exact ⟨_, rfl, rfl, Ok.pure (.int .u32 (u (sumB init (x1.take k) ^^^ sumB init (x2.take k)))) (wanted_none rfl) (by simp only [execOp]; go_simp; rw [xor_u]) (fun _ _ => rfl)⟩
          · have h2 : a.tmps[2]? = some (.slice A3 x3.length c3) := (hel 2 (by decide)).trans rfl
            have e2 : a.eval (.tmp 2) = .slice A3 x3.length c3 := eval_of h2
            exact ⟨_, rfl, rfl, Ok.move (wanted_none rfl) (.inl rfl) e2 (fun _ _ => rfl)⟩
          · have h7 : a.tmps[7]? = some (.int .i64 (k : Int)) := (hel 7 (by decide)).trans rfl
            have e7 : a.eval (.tmp 7) = .int .i64 (k : Int) := eval_of h7
            exact ⟨_, rfl, rfl, Ok.move (wanted_none rfl) (.inl rfl) e7 (fun _ _ => rfl)⟩
          · obtain ⟨v71, h71, q71⟩ := hdep (14, 71) (by decide) (by decide)
            obtain rfl : v71 = .slice A3 x3.length c3 := q71.now
            have h71' : a.tmps[71]? = some (.slice A3 x3.length c3) := h71
            have e71 : a.eval (.tmp 71) = .slice A3 x3.length c3 := eval_of h71
            obtain ⟨v72, h72, q72⟩ := hdep (15, 72) (by decide) (by decide)
            obtain rfl : v72 = .int .i64 (k : Int) := q72.now
            have h72' : a.tmps[72]? = some (.int .i64 (k : Int)) := h72
            have e72 : a.eval (.tmp 72) = .int .i64 (k : Int) := eval_of h72
            exact ⟨_, rfl, rfl, Ok.pure (.slice A3 k c3) (wanted_none rfl) (by simp only [execOp]; go_simp) (fun _ _ => rfl)⟩
          · obtain ⟨v73, h73, q73⟩ := hdep (16, 73) (by decide) (by decide)
            obtain rfl : v73 = .slice A3 k c3 := q73.now
            have h73' : a.tmps[73]? = some (.slice A3 k c3) := h73
            have e73 : a.eval (.tmp 73) = .slice A3 k c3 := eval_of h73
            exact ⟨_, rfl, rfl, Ok.make (.slice (some ⟨w.heap.size, 0, Option.none⟩) 1 1) (w.alloc (.cells #[.slice A3 k c3] 24)) (wanted_none rfl) (by simp only [execOp]; go_simp) (alloc_below _ _) (fun _ hb => ⟨_, rfl, (Rds.one_n N3.out (HP3.out.below hB)).below hb⟩)⟩
          · obtain ⟨v74, h74, q74⟩ := hdep (17, 74) (by decide) (by decide)
            have s74 := q74.now
            obtain ⟨A', rfl, hr⟩ := s74
            exact ⟨_, rfl, rfl, Ok.call Try.func15 (by kernel_rfl) rfl #[.slice (some A') 1 1] (wanted_none rfl) rfl (by simp [eval_of h74]) ((of_n _ _ _ [(x3.take k)] ((x3.take k)) _ rfl (by simp) hr).mono (by rintro e w' ⟨rfl, rfl⟩; exact ⟨_, rfl, fun _ _ => rfl, Below.refl _ _⟩))⟩
          · obtain ⟨v70, h70, q70⟩ := hdep (13, 70) (by decide) (by decide)
            obtain rfl : v70 = .int .u32 (u (sumB init (x1.take k) ^^^ sumB init (x2.take k))) := q70.now
            have h70' : a.tmps[70]? = some (.int .u32 (u (sumB init (x1.take k) ^^^ sumB init (x2.take k)))) := h70
            have e70 : a.eval (.tmp 70) = .int .u32 (u (sumB init (x1.take k) ^^^ sumB init (x2.take k))) := eval_of h70
            obtain ⟨v75, h75, q75⟩ := hdep (18, 75) (by decide) (by decide)
            obtain rfl : v75 = .int .u32 (u (sumB init ((x3.take k)))) := q75.now
            have h75' : a.tmps[75]? = some (.int .u32 (u (sumB init ((x3.take k))))) := h75
            have e75 : a.eval (.tmp 75) = .int .u32 (u (sumB init ((x3.take k)))) := eval_of h75
            exact ⟨_, rfl, rfl, Ok.pure (.int .u32 (u (sumB init X))) (wanted_none rfl) (by simp only [execOp]; go_simp; rw [xor_u, HXe.out]) (fun _ _ => rfl)⟩
          · obtain ⟨v59, h59, q59⟩ := hdep (2, 59) (by decide) (by decide)
            obtain rfl : v59 = .int .u32 (u (sumB init (X))) := q59.now
            have h59' : a.tmps[59]? = some (.int .u32 (u (sumB init (X)))) := h59
            have e59 : a.eval (.tmp 59) = .int .u32 (u (sumB init (X))) := eval_of h59
            obtain ⟨v76, h76, q76⟩ := hdep (19, 76) (by decide) (by decide)
            obtain rfl : v76 = .int .u32 (u (sumB init X)) := q76.now
            have h76' : a.tmps[76]? = some (.int .u32 (u (sumB init X))) := h76
            have e76 : a.eval (.tmp 76) = .int .u32 (u (sumB init X)) := eval_of h76
            exact ⟨_, rfl, rfl, Ok.pure (.bool true) (wanted_none rfl) (by simp only [execOp]; go_simp) (fun _ _ => rfl)⟩
          · obtain ⟨v77, h77, q77⟩ := hdep (20, 77) (by decide) (by decide)
            obtain rfl : v77 = .bool true := q77.now
            have h77' : a.tmps[77]? = some (.bool true) := h77
            have e77 : a.eval (.tmp 77) = .bool true := eval_of h77
            exact ⟨_, rfl, rfl, Ok.move (wanted_none rfl) (.inr rfl) (eval_of h77) q77⟩
        intro vs wE hBE hS
        have f57 := hS (0, 57) (by decide)
        have f58 := hS (1, 58) (by decide)
        have f59 := hS (2, 59) (by decide)
        have f60 := hS (3, 60) (by decide)
        have f61 := hS (4, 61) (by decide)
        have f62 := hS (5, 62) (by decide)
        have f63 := hS (6, 63) (by decide)
        have f64 := hS (7, 64) (by decide)
        have f65 := hS (8, 65) (by decide)
        have f66 := hS (9, 66) (by decide)
        have f67 := hS (10, 67) (by decide)
        have f68 := hS (11, 68) (by decide)
        have f69 := hS (12, 69) (by decide)
        have f70 := hS (13, 70) (by decide)
        have f71 := hS (14, 71) (by decide)
        have f72 := hS (15, 72) (by decide)
        have f73 := hS (16, 73) (by decide)
        have f74 := hS (17, 74) (by decide)
        have f75 := hS (18, 75) (by decide)
        have f76 := hS (19, 76) (by decide)
        have f77 := hS (20, 77) (by decide)
        have f6 := hS (21, 6) (by decide)
        clear hS
        simp only [tells, List.map_cons, List.map_nil, putSel, if_true]
        generalize vs 0 = z57 at *
        generalize vs 1 = z58 at *
        generalize vs 2 = z59 at *
        generalize vs 3 = z60 at *
        generalize vs 4 = z61 at *
        generalize vs 5 = z62 at *
        generalize vs 6 = z63 at *
        generalize vs 7 = z64 at *
        generalize vs 8 = z65 at *
        generalize vs 9 = z66 at *
        generalize vs 10 = z67 at *
        generalize vs 11 = z68 at *
        generalize vs 12 = z69 at *
        generalize vs 13 = z70 at *
        generalize vs 14 = z71 at *
        generalize vs 15 = z72 at *
        generalize vs 16 = z73 at *
        generalize vs 17 = z74 at *
        generalize vs 18 = z75 at *
        generalize vs 19 = z76 at *
        generalize vs 20 = z77 at *
        generalize vs 21 = z6 at *
        have f57' : z57 = .slice A k c := f57
        clear f57
        subst f57'
        have f59' : z59 = .int .u32 (u (sumB init (X))) := f59
        clear f59
        subst f59'
        have f60' : z60 = .slice A1 x1.length c1 := f60
        clear f60
        subst f60'
        have f61' : z61 = .int .i64 (k : Int) := f61
        clear f61
        subst f61'
        have f62' : z62 = .slice A1 k c1 := f62
        clear f62
        subst f62'
        have f64' : z64 = .int .u32 (u (sumB init ((x1.take k)))) := f64
        clear f64
        subst f64'
        have f65' : z65 = .slice A2 x2.length c2 := f65
        clear f65
        subst f65'
        have f66' : z66 = .int .i64 (k : Int) := f66
        clear f66
        subst f66'
        have f67' : z67 = .slice A2 k c2 := f67
        clear f67
        subst f67'
        have f69' : z69 = .int .u32 (u (sumB init ((x2.take k)))) := f69
        clear f69
        subst f69'
        have f70' : z70 = .int .u32 (u (sumB init (x1.take k) ^^^ sumB init (x2.take k))) := f70
        clear f70
        subst f70'
        have f71' : z71 = .slice A3 x3.length c3 := f71
        clear f71
        subst f71'
        have f72' : z72 = .int .i64 (k : Int) := f72
        clear f72
        subst f72'
        have f73' : z73 = .slice A3 k c3 := f73
        clear f73
        subst f73'
        have f75' : z75 = .int .u32 (u (sumB init ((x3.take k)))) := f75
        clear f75
        subst f75'
        have f76' : z76 = .int .u32 (u (sumB init X)) := f76
        clear f76
        subst f76'
        have f77' : z77 = .bool true := f77
        clear f77
        subst f77'
        have f6' : z6 = .bool true := f6
        clear f6
        subst f6'
        simp only [Act.put, List.setIfInBounds_toArray, List.set_cons_zero, List.set_cons_succ]
        go_wp2
        go_ret
        exact ⟨rfl, below_step HBr.out hBE⟩
  · have out : (decide ((300 : Int) < (x1.length : Int)) = true) ∨ (decide ((300 : Int) < (x1.length : Int)) = false ∧ decide ((300 : Int) < (x2.length : Int)) = true) ∨
        (decide ((300 : Int) < (x1.length : Int)) = false ∧ decide ((300 : Int) < (x2.length : Int)) = false ∧ decide ((300 : Int) < (x3.length : Int)) = true) := by
      simp only [decide_eq_true_eq, decide_eq_false_iff_not]; omega
    clear g
    rcases out with b1 | ⟨b1, b2⟩ | ⟨b1, b2, b3⟩
    all_goals
      go_enter Try.func4, Try.ntmps4
      go_wp2_with (go_at_call 13; refine (crcAlive_any _).mono ?_; rintro e w1 ⟨rfl, HB⟩; have HB1 := Lib.hid HB; clear HB)
      go_ret
      exact ⟨rfl, HB1.out⟩
end Go.Proofs.Ytckfcnclekjjdaa
