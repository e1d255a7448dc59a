import Derived.Test.YtmachdikonelbaaStep
import Derived.Test.YtmachdikonelbaaRds
namespace Go.Proofs.Ytmachdikonelbaa
open Go.RowKit Go.Proofs.YtmachdikonelbaaW.PrintWords
open Crc
namespace Crc
/-- The sum behind bytes. -/
def sumB (s : W) (l : List UInt8) : W := l.foldl (fun s c => Crc.step s c.toBitVec) s
theorem sumB_eq (s : W) (l : List UInt8) : sumB s l = Crc.sum s (l.map UInt8.toBitVec) := by
  unfold sumB Crc.sum; rw [List.foldl_map]
theorem byte_bv (c : UInt8) : byte (bv c) = c.toBitVec := by
  apply BitVec.eq_of_toNat_eq
  have h := byte_nat (bv c) (bv_lo c) (bv_hi c)
  unfold bv at h
  have : (byte (c.toNat : Int)).toNat = c.toNat := by omega
  exact this
theorem sumB_snoc (s : W) (l : List UInt8) (k : Nat) (h : k < l.length) : sumB s (l.take (k + 1)) = Crc.step (sumB s (l.take k)) (byte (bv l[k])) := by
  rw [List.take_succ_eq_append_getElem h, byte_bv]; unfold sumB; rw [List.foldl_append]; rfl
theorem sumB_append (s : W) (l m : List UInt8) : sumB s (l ++ m) = sumB (sumB s l) m := by unfold sumB; rw [List.foldl_append]
theorem sumB_parts (s : W) (l : List (List UInt8)) (k : Nat) (h : k < l.length) : sumB s (l.take (k + 1)).flatten = sumB (sumB s (l.take k).flatten) l[k] := by
  rw [List.take_succ_eq_append_getElem h, List.flatten_append, sumB_append]; simp
def init : W := 0xffffffff#32
theorem u_init : u init = 4294967295 := rfl
end Crc

set_option maxHeartbeats 1000000 in
theorem of_any (A : Option Addr) (c : Nat) (l : List (List UInt8)) (w : World) (hr : Rds w A l) :
    Calls Try.prog 48 #[.slice A l.length c] w fun e w' => e = .returned (.int .u32 (u (sumB init l.flatten))) ∧ w = w' := by
  have hl := hr.2.1
  have HR := Lib.hid hr
  clear hr
  go_enter Try.func48, Try.ntmps48
  go_wp2
  go_loop [3, 10] (fun s i => ∃ k : Nat, k ≤ l.length ∧ i = .int .i64 k ∧ s = .int .u32 (u (sumB init (l.take k).flatten))) (fun _ i => l.length - (intOf i).toNat)
  case atStart => exact ⟨0, by omega, rfl, rfl⟩
  case round =>
    obtain ⟨k, hk, rfl, rfl⟩ := hrel
    by_cases hlt : k < l.length
    · obtain ⟨ad, B, cp, e, hx, hcp, hR⟩ := HR.out.at k hlt
      cases e
      have hl2 := hR.2.1
      have HS := Lib.hid (sumB_parts init l k hlt)
      have HR2 := Lib.hid hR
      clear hR
      generalize l[k] = m at *
      generalize hS : sumB init (l.take k).flatten = S
      rw [hS] at HS
      clear hS
      go_wp2
      go_loop [3, 16] (fun s j => ∃ q : Nat, q ≤ m.length ∧ j = .int .i64 q ∧ s = .int .u32 (u (sumB S (m.take q)))) (fun _ j => m.length - (intOf j).toNat)
      case atStart => exact ⟨0, by omega, rfl, rfl⟩
      case round =>
        clear hx
        obtain ⟨q, hq, rfl, rfl⟩ := hrel
        by_cases hlt2 : q < m.length
        · obtain ⟨ad, e, hx⟩ := HR2.out.at q hlt2
          cases e
          have b0 := bv_lo m[q]
          have b1 := bv_hi m[q]
          have HS2 := Lib.hid (sumB_snoc S m q hlt2)
          generalize bv m[q] = x at *
          go_wp2_with (go_at_call 62; refine (step_any _ _ b0 b1 _).mono ?_; rintro e w' ⟨rfl, rfl⟩)
          go_round
          case rel => exact ⟨q + 1, by omega, by go_num, by rw [HS2.out]⟩
          case measure => simp [intOf]; omega
        · obtain rfl : q = m.length := by omega
          go_wp2
          go_round
          case rel => exact ⟨k + 1, by omega, by go_num, by rw [HS.out, List.take_length]⟩
          case measure => simp [intOf]; omega
    · obtain rfl : k = l.length := by omega
      go_wp2
      go_ret
      exact ⟨rfl, rfl⟩
end Go.Proofs.Ytmachdikonelbaa
