/- EndsHalves. -/
import Derived.Test.YtkpkkmffcbeigaaEndsAlive
namespace Go.Proofs.Ytkpkkmffcbeigaa
open Go.RowKit Go.Proofs.YtkpkkmffcbeigaaW.PrintWords

theorem leB_append : ∀ (a b n : Nat), leB (a + b) n = leB a n ++ leB b (n / 256 ^ a)
  | 0, b, n => by simp [leB]
  | a + 1, b, n => by
    rw [Nat.add_right_comm]
    show UInt8.ofNat (n % 256) :: leB (a + b) (n / 256) = UInt8.ofNat (n % 256) :: (leB a (n / 256) ++ leB b (n / 256 ^ (a + 1)))
    rw [leB_append a b (n / 256), Nat.div_div_eq_div_mul, Nat.pow_succ, Nat.mul_comm]
theorem leB_mod : ∀ (k n : Nat), leB k (n % 256 ^ k) = leB k n
  | 0, _ => rfl
  | k + 1, n => by
    have h1 : n % 256 ^ (k + 1) % 256 = n % 256 := Nat.mod_mod_of_dvd _ ⟨256 ^ k, by rw [Nat.pow_succ, Nat.mul_comm]⟩
    have h2 : n % 256 ^ (k + 1) / 256 = n / 256 % 256 ^ k := by
      rw [Nat.pow_succ, Nat.mul_comm]
      exact Nat.mod_mul_right_div_self ..
    show UInt8.ofNat (n % 256 ^ (k + 1) % 256) :: leB k (n % 256 ^ (k + 1) / 256) = _
    rw [h1, h2, leB_mod k]
    rfl
theorem below_step {a b c : World} (h : Below a.heap.size a b) (k : Below b.heap.size b c) : Below a.heap.size a c := h.trans (k.mono h.size)
theorem uv_mod (n m : UInt64) : uv n % uv m = uv (n % m) := by unfold uv; rw [UInt64.toNat_mod]; omega
theorem uv_div (n m : UInt64) : uv n / uv m = uv (n / m) := by unfold uv; rw [UInt64.toNat_div]; rfl
def loN (n : UInt64) : UInt64 := n % 4294967296
def hiN (n : UInt64) : UInt64 := n / 4294967296
def sixN (n : UInt64) : UInt64 := n % 65536
def b0N (n : UInt64) : UInt64 := n % 256
def b1N (n : UInt64) : UInt64 := n / 256 % 256
theorem lo_eq (n : UInt64) : uv n % 4294967296 = uv (loN n) := uv_mod n 4294967296
theorem hi_eq (n : UInt64) : uv n / 4294967296 = uv (hiN n) := uv_div n 4294967296
theorem six_eq (n : UInt64) : uv n % 65536 = uv (sixN n) := uv_mod n 65536
theorem b0_eq (n : UInt64) : uv n % 256 = uv (b0N n) := uv_mod n 256
theorem b1_eq (n : UInt64) : uv n / 256 % 256 = uv (b1N n) := by
  have := uv_mod (n / 256) 256
  rw [← uv_div] at this
  exact this
theorem lo_nat (n : UInt64) : (loN n).toNat = n.toNat % 256 ^ 4 := by unfold loN; rw [UInt64.toNat_mod]; rfl
theorem hi_nat (n : UInt64) : (hiN n).toNat = n.toNat / 256 ^ 4 := by unfold hiN; rw [UInt64.toNat_div]; rfl
theorem six_nat (n : UInt64) : (sixN n).toNat = n.toNat % 256 ^ 2 := by unfold sixN; rw [UInt64.toNat_mod]; rfl
theorem b0_nat (n : UInt64) : (b0N n).toNat = n.toNat % 256 ^ 1 := by unfold b0N; rw [UInt64.toNat_mod]; rfl
theorem b1_nat (n : UInt64) : (b1N n).toNat = n.toNat / 256 ^ 1 % 256 ^ 1 := by unfold b1N; rw [UInt64.toNat_mod, UInt64.toNat_div]; rfl
theorem halves8 (n : UInt64) : putOk 8 [n] = true ∧ putBytes [] 8 [n] = leB 8 n.toNat := by
  have h : putOk 8 [n] = true := by
    have : fits 8 n = true := by unfold fits; have := n.toNat_lt; simp; omega
    show (wideB 8 && [n].all (fits 8)) = true
    simp [this]; decide
  exact ⟨h, by unfold putBytes; rw [h]; show [] ++ packs 8 [n] = _; unfold packs; simp⟩
theorem halves4 (n : UInt64) : putOk 4 [loN n, hiN n] = true ∧ putBytes [] 4 [loN n, hiN n] = leB 8 n.toNat := by
  have h : putOk 4 [loN n, hiN n] = true := by
    have h1 : fits 4 (loN n) = true := by unfold fits; rw [lo_nat]; simp; omega
    have h2 : fits 4 (hiN n) = true := by unfold fits; rw [hi_nat]; have := n.toNat_lt; simp; omega
    show (wideB 4 && [loN n, hiN n].all (fits 4)) = true
    simp [h1, h2]; decide
  refine ⟨h, ?_⟩
  unfold putBytes; rw [h]
  show [] ++ packs 4 [loN n, hiN n] = _
  unfold packs
  simp only [List.map_cons, List.map_nil, List.flatten_cons, List.flatten_nil, List.nil_append, List.append_nil]
  rw [lo_nat, hi_nat, leB_mod]
  exact (leB_append 4 4 _).symm
theorem halves2 (n : UInt64) : putOk 2 [sixN n] = true ∧ putBytes [] 2 [sixN n] = leB 2 n.toNat := by
  have h : putOk 2 [sixN n] = true := by
    have h1 : fits 2 (sixN n) = true := by unfold fits; rw [six_nat]; simp; omega
    show (wideB 2 && [sixN n].all (fits 2)) = true
    simp [h1]; decide
  refine ⟨h, ?_⟩
  unfold putBytes; rw [h]
  show [] ++ packs 2 [sixN n] = _
  unfold packs
  simp only [List.map_cons, List.map_nil, List.flatten_cons, List.flatten_nil, List.nil_append, List.append_nil]
  rw [six_nat, leB_mod]
theorem halves1 (n : UInt64) : putOk 1 [b0N n, b1N n] = true ∧ putBytes [] 1 [b0N n, b1N n] = leB 2 n.toNat := by
  have h : putOk 1 [b0N n, b1N n] = true := by
    have h1 : fits 1 (b0N n) = true := by unfold fits; rw [b0_nat]; simp; omega
    have h2 : fits 1 (b1N n) = true := by unfold fits; rw [b1_nat]; simp; omega
    show (wideB 1 && [b0N n, b1N n].all (fits 1)) = true
    simp [h1, h2]; decide
  refine ⟨h, ?_⟩
  unfold putBytes; rw [h]
  show [] ++ packs 1 [b0N n, b1N n] = _
  unfold packs
  simp only [List.map_cons, List.map_nil, List.flatten_cons, List.flatten_nil, List.nil_append, List.append_nil]
  rw [b0_nat, b1_nat, leB_mod, leB_mod]
  exact (leB_append 1 1 _).symm
theorem putErr_ok {width : Int} {l : List UInt64} (h : putOk width l = true) : putErr width l = 0 := by unfold putErr; rw [h]; rfl

attribute [local go_sem] strB_list
set_option maxHeartbeats 4000000 in
theorem endsHalves_any (n : UInt64) (w : World) : Calls Try.prog 5 #[.int .u64 (uv n)] w fun e w' => e = .returned (.bool true) ∧ Below w.heap.size w w' := by
  have n0 := uv_lo n
  have n1 := uv_hi n
  go_enter Try.func5, Try.ntmps5
  go_wp2_with (go_at_call 9; refine (endsAlive_any _).mono ?_; rintro e w1 ⟨rfl, HB⟩; have HB1 := Lib.hid HB; clear HB)
  refine (put_n none 0 0 [] 8 _ 1 1 [n] _ _ 0 rfl rfl (halves8 n).2 (putErr_ok (halves8 n).1) (Sl.none _) (Ru.lit _ [n] #[.int .u64 (uv n)] rfl (by simp [maxLen])) (by simp)).mono ?_
  rintro e w2 ⟨A2, c2, rfl, hs, _, hb⟩
  have HS2 := Lib.hid hs
  have HB2 := Lib.hid (below_step (below_step HB1.out (alloc_below _ _)) hb)
  clear hs hb HB1
  go_wp2_with fail
  refine (put_n none 0 0 [] 4 _ 2 2 [loN n, hiN n] _ _ 0 rfl rfl (halves4 n).2 (putErr_ok (halves4 n).1) (Sl.none _) (Ru.lit _ [loN n, hiN n] #[.int .u64 (uv n % 4294967296), .int .u64 (uv n / 4294967296)] (by simp only [List.map_cons, List.map_nil, ← lo_eq, ← hi_eq]) (by simp [maxLen])) (by simp)).mono ?_
  rintro e w3 ⟨A3, c3, rfl, hs, _, hb⟩
  have HS3 := Lib.hid hs
  have HS2' := Lib.hid ((HS2.out.below (alloc_below _ _)).below hb)
  clear HS2
  have HS2 := HS2'
  clear HS2'
  have HB3 := Lib.hid (below_step (below_step HB2.out (alloc_below _ _)) hb)
  clear hs hb HB2
  go_wp2_with fail
  refine (put_n none 0 0 [] 2 _ 1 1 [sixN n] _ _ 0 rfl rfl (halves2 n).2 (putErr_ok (halves2 n).1) (Sl.none _) (Ru.lit _ [sixN n] #[.int .u64 (uv n % 65536)] (by simp only [List.map_cons, List.map_nil, ← six_eq]) (by simp [maxLen])) (by simp)).mono ?_
  rintro e w4 ⟨A4, c4, rfl, hs, _, hb⟩
  have HS4 := Lib.hid hs
  have HS2' := Lib.hid ((HS2.out.below (alloc_below _ _)).below hb)
  clear HS2
  have HS2 := HS2'
  clear HS2'
  have HS3' := Lib.hid ((HS3.out.below (alloc_below _ _)).below hb)
  clear HS3
  have HS3 := HS3'
  clear HS3'
  have HB4 := Lib.hid (below_step (below_step HB3.out (alloc_below _ _)) hb)
  clear hs hb HB3
  go_wp2_with fail
  refine (put_n none 0 0 [] 1 _ 2 2 [b0N n, b1N n] _ _ 0 rfl rfl (halves1 n).2 (putErr_ok (halves1 n).1) (Sl.none _) (Ru.lit _ [b0N n, b1N n] #[.int .u64 (uv n % 256), .int .u64 (uv n / 256 % 256)] (by simp only [List.map_cons, List.map_nil, ← b0_eq, ← b1_eq]) (by simp [maxLen])) (by simp)).mono ?_
  rintro e w5 ⟨A5, c5, rfl, hs, _, hb⟩
  have HS5 := Lib.hid hs
  have HS2' := Lib.hid ((HS2.out.below (alloc_below _ _)).below hb)
  clear HS2
  have HS2 := HS2'
  clear HS2'
  have HS3' := Lib.hid ((HS3.out.below (alloc_below _ _)).below hb)
  clear HS3
  have HS3 := HS3'
  clear HS3'
  have HS4' := Lib.hid ((HS4.out.below (alloc_below _ _)).below hb)
  clear HS4
  have HS4 := HS4'
  clear HS4'
  have HB5 := Lib.hid (below_step (below_step HB4.out (alloc_below _ _)) hb)
  clear hs hb HB4
  have k2 := HS2.out.rd.conv 8 c2 (leB_length 8 n.toNat).symm
  have k3 := HS3.out.rd.conv 8 c3 (leB_length 8 n.toNat).symm
  have k4 := HS4.out.rd.conv 2 c4 (leB_length 2 n.toNat).symm
  have k5 := HS5.out.rd.conv 2 c5 (leB_length 2 n.toNat).symm
  have hl8 := leB_length 8 n.toNat
  have hl2 := leB_length 2 n.toNat
  clear HS2 HS3 HS4 HS5
  go_wp2

  go_ret
  exact ⟨rfl, HB5.out⟩
end Go.Proofs.Ytkpkkmffcbeigaa
