/- CrcTwice: the law's walk. -/
import Derived.Test.YtckfcnclekjjdaaAlive2
namespace Go.Proofs.Ytckfcnclekjjdaa
open Go.RowKit Go.Proofs.YtckfcnclekjjdaaW.PrintWords
open Crc

namespace Crc
theorem ofBV_toBV (l : List (BitVec 8)) : (l.map UInt8.ofBitVec).map UInt8.toBitVec = l := by
  rw [List.map_map]
  have : (UInt8.toBitVec ∘ UInt8.ofBitVec) = id := rfl
  rw [this, List.map_id]
theorem seal_sum (l : List UInt8) : sumB init (sealB l) = 0#32 := by
  unfold sealB
  rw [sumB_append, sumB_eq _ (tailB _), tailB_eq]
  exact (tail_iff _ _ _ _ _).2 rfl
theorem okB_seal (l : List UInt8) : okB (sealB l) = true := by
  unfold okB
  rw [seal_sum, sealB_length]
  simp
theorem bodyB_seal (l : List UInt8) : bodyB (sealB l) = l := by
  unfold bodyB
  rw [okB_seal, if_pos rfl, sealB_length, Nat.add_sub_cancel]
  unfold sealB; simp
theorem bodyB_le (l : List UInt8) : (bodyB l).length ≤ l.length - 4 := by
  unfold bodyB; split
  · simp
  · simp
end Crc

attribute [local go_sem] strB_list
set_option maxHeartbeats 4000000 in
theorem crcTwice_any (A : Option Addr) (c : Nat) (xs : List UInt8) (w : World) (hr : Sl w A c xs) :
    Calls Try.prog 7 #[.slice A xs.length c] w fun e w' => e = .returned (.bool true) ∧ Below w.heap.size w w' := by
  have HR := Lib.hid hr
  have hn := hr.small
  clear hr
  by_cases hl : xs.length ≤ 400
  · have g1 : ¬ ((400 : Int) < xs.length) := by omega
    go_enter Try.func7, Try.ntmps7
    go_wp2_with (go_at_call 13; refine (crcAlive_any _).mono ?_; rintro e w1 ⟨rfl, HB⟩; have HB1 := Lib.hid HB; clear HB)
    have HR1 := Lib.hid (HR.out.below HB1.out)
    refine (seal_n _ _ _ [xs] xs _ rfl (by simp) (Rds.one HR1.out) (by omega)).mono ?_
    rintro e w2 ⟨A2, c2, rfl, hs, _, hb⟩
    have HR2 := Lib.hid ((HR1.out.below (alloc_below _ _)).below hb)
    have HB2 := Lib.hid (below_step (below_step HB1.out (alloc_below _ _)) hb)
    have HX := Lib.hid hs
    have hlen1 : (sealB xs).length = xs.length + 4 := sealB_length xs
    clear hs hb HR1 HB1
    have HL1 := Lib.hid hlen1
    clear hlen1
    go_wp2_with fail
    refine (seal_n _ _ _ [sealB xs] (sealB xs) _ rfl (by simp) (Rds.one HX.out) (by have := HL1.out; omega)).mono ?_
    rintro e w3 ⟨A3, c3, rfl, hs, _, hb⟩
    have HR3 := Lib.hid ((HR2.out.below (alloc_below _ _)).below hb)
    have HB3 := Lib.hid (below_step (below_step HB2.out (alloc_below _ _)) hb)
    have HX3 := Lib.hid hs
    clear hs hb HR2 HB2 HX
    go_wp2_with fail
    refine (open_n _ _ _ (sealB (sealB xs)) _ rfl HX3.out (by rw [sealB_length, sealB_length]; omega)).mono ?_
    rw [okB_seal, bodyB_seal]
    rintro e w4 ⟨A4, c4, rfl, hs, _, hb⟩
    have HR4 := Lib.hid (HR3.out.below hb)
    have HB4 := Lib.hid (below_step HB3.out hb)
    have HX4 := Lib.hid hs
    clear hs hb HR3 HB3 HX3
    go_wp2_with fail
    refine (open_n _ _ _ (sealB xs) _ rfl HX4.out (by rw [sealB_length]; omega)).mono ?_
    rw [okB_seal, bodyB_seal]
    rintro e w5 ⟨A5, c5, rfl, hs, _, hb⟩
    have HR5 := Lib.hid (HR4.out.below hb)
    have HB5 := Lib.hid (below_step HB4.out hb)
    have HX5 := Lib.hid hs
    clear hs hb HR4 HB4 HX4
    go_wp2_with fail
    refine (seal_n _ _ _ [xs] xs _ rfl (by simp) (Rds.one HR5.out) (by omega)).mono ?_
    rintro e w6 ⟨A6, c6, rfl, hs, _, hb⟩
    have HR6 := Lib.hid ((HR5.out.below (alloc_below _ _)).below hb)
    have HB6 := Lib.hid (below_step (below_step HB5.out (alloc_below _ _)) hb)
    have HX6 := Lib.hid ((HX5.out.below (alloc_below _ _)).below hb)
    have HY6 := Lib.hid hs
    have hc6 := hs.cap
    rw [sealB_length] at hc6
    have g3 : (xs.length : Int) + 3 ≤ (c6 : Int) := by omega
    clear hs hb HR5 HB5 HX5 hc6
    go_wp2_with fail
    have ht : xs.length + 3 = ((sealB xs).take (xs.length + 3)).length := by rw [List.length_take, sealB_length]; omega
    refine (open_n _ _ _ ((sealB xs).take (xs.length + 3)) _ ht (HY6.out.take _ (by rw [sealB_length]; omega)) (by rw [← ht]; omega)).mono ?_
    rintro e w7 ⟨A7, c7, rfl, _, _, hb⟩
    have HB7 := Lib.hid (below_step HB6.out hb)
    have HR7 := Lib.hid (HR6.out.below hb)
    have hx7 := (HX6.out.below hb)
    have k1 := hx7.rd.conv _ c5 rfl
    have k2 := HR7.out.rd.conv _ c rfl
    have k3 : ((((sealB (sealB xs)).length : Nat) : Int) == (xs.length : Int) + 8) = true := by rw [sealB_length, sealB_length, beq_iff_eq]; omega
    have k4 : decide ((((bodyB ((sealB xs).take (xs.length + 3))).length : Nat) : Int) < (xs.length : Int) + 1) = true := by
      have := bodyB_le ((sealB xs).take (xs.length + 3))
      rw [← ht] at this
      simp; omega
    clear ht hb hx7 HB6 HR6 HX6
    go_wp2
    go_ret
    exact ⟨rfl, HB7.out⟩
  · have g1 : (400 : Int) < xs.length := by omega
    go_enter Try.func7, Try.ntmps7
    go_wp2_with (go_at_call 13; refine (crcAlive_any _).mono ?_; rintro e w1 ⟨rfl, HB⟩; have HB1 := Lib.hid HB; clear HB)
    go_ret
    exact ⟨rfl, HB1.out⟩
end Go.Proofs.Ytckfcnclekjjdaa
