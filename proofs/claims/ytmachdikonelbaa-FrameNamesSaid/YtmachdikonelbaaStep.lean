import Derived.Test.YtmachdikonelbaaRows
import Derived.WalkKit
import Derived.WalkSpells
import Derived.Lib.Hide
import Derived.WalkLawsBesides
import Derived.Test.YtmachdikonelbaaCrcPlain
namespace Go.Proofs.Ytmachdikonelbaa
open Go.RowKit

namespace Crc
/-- k bit steps -/
def bitN : Nat → W → W
  | 0, s => s
  | k + 1, s => bit (bitN k s)
theorem bitN8 (s : W) : bitN 8 s = bits8 s := rfl
/-- A state as the number that Go has. -/
def u (s : W) : Int := s.toNat
/-- A number as a byte. -/
def byte (c : Int) : BitVec 8 := BitVec.ofInt 8 c
theorem u_lo (s : W) : 0 ≤ u s := by unfold u; omega
theorem u_hi (s : W) : u s ≤ 4294967295 := by have := s.isLt; unfold u; omega
theorem byte_nat (c : Int) (h0 : 0 ≤ c) (h1 : c ≤ 255) : ((byte c).toNat : Int) = c := by
  unfold byte; rw [BitVec.toNat_ofInt]; omega
theorem xor_u (a b : W) : bits .xor .u32 (u a) (u b) = u (a ^^^ b) := by
  unfold u; rw [u32_xor_nat _ _ a.isLt b.isLt, BitVec.toNat_xor]
theorem xor_P (a : W) : bits .xor .u32 (u a) 79764919 = u (a ^^^ P) := xor_u a P
theorem top_u (s : W) : u s / 2147483648 = if s.msb then 1 else 0 := by
  have := s.isLt
  unfold u
  rw [BitVec.msb_eq_decide]
  by_cases h : 2 ^ (32 - 1) ≤ s.toNat
  · simp only [h, decide_true, if_true]; omega
  · simp only [h, decide_false, Bool.false_eq_true, if_false]; omega
theorem shl_u (s : W) : u s * (2 : Int) % (4294967296 : Int) = u (s <<< 1) := by
  unfold u; rw [BitVec.toNat_shiftLeft, Nat.shiftLeft_eq]; omega
theorem up_u (c : Int) (h0 : 0 ≤ c) (h1 : c ≤ 255) : c * 16777216 = u (up (byte c)) := by
  have := byte_nat c h0 h1
  unfold u up
  rw [BitVec.toNat_shiftLeft, Nat.shiftLeft_eq, BitVec.toNat_setWidth]; omega
end Crc
open Crc

set_option maxHeartbeats 400000 in
theorem step_any (S : W) (c : Int) (c0 : 0 ≤ c) (c1 : c ≤ 255) (w : World) :
    Calls Try.prog 62 #[.int .u32 (u S), .int .u8 c] w fun e w' => e = .returned (.int .u32 (u (Crc.step S (byte c)))) ∧ w = w' := by
  have h2 : bits .xor .u32 (u S) (c * 16777216) = u (S ^^^ up (byte c)) := by rw [up_u c c0 c1, xor_u]
  go_enter Try.func62, Try.ntmps62
  go_wp2
  clear h2
  go_loop [0, 11] (fun s i => ∃ k : Nat, k ≤ 8 ∧ i = .int .i64 k ∧ s = .int .u32 (u (bitN k (S ^^^ up (byte c))))) (fun _ i => 8 - (intOf i).toNat)
  case atStart => exact ⟨0, by omega, rfl, rfl⟩
  case round =>
    obtain ⟨k, hk, rfl, rfl⟩ := hrel
    generalize hT : bitN k (S ^^^ up (byte c)) = T
    have ht := top_u T
    have hs := shl_u T
    have hx := xor_P (T <<< 1)
    have HT := Lib.hid hT
    have l0 := u_lo T
    have l1 := u_hi T
    clear hT
    by_cases hlt : k < 8
    · cases hm : T.msb
      · have ht2 : (u T / 2147483648 == 1) = false := by rw [ht, hm]; rfl
        have HM := Lib.hid hm
        clear ht hm hx
        go_wp2
        go_round
        case rel => exact ⟨k + 1, by omega, by go_num, by rw [bitN, HT.out]; unfold bit; rw [HM.out]; simp only [if_false, Bool.false_eq_true, BitVec.xor_zero, hs]⟩
        case measure => simp [intOf]; omega
      · have ht2 : (u T / 2147483648 == 1) = true := by rw [ht, hm]; rfl
        have HM := Lib.hid hm
        clear ht hm
        go_wp2
        go_round
        case rel => exact ⟨k + 1, by omega, by go_num, by rw [bitN, HT.out]; unfold bit; rw [HM.out]; simp only [if_true]⟩
        case measure => simp [intOf]; omega
    · obtain rfl : k = 8 := by omega
      clear ht hs hx
      go_wp2
      go_ret
      exact ⟨by rw [← HT.out]; rfl, rfl⟩
end Go.Proofs.Ytmachdikonelbaa
