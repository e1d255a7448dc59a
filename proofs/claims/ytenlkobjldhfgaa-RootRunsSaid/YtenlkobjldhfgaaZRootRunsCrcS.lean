/- Several texts in one: Step, OfB, SealB. -/
import Derived.Test.YtenlkobjldhfgaaRows
import Derived.WalkKit
import Derived.WalkSpells
import Derived.Lib.Hide
import Derived.WalkLawsBesides
import Derived.Test.YtenlkobjldhfgaaZRootRunsCrcPlain
import Derived.Test.YtenlkobjldhfgaaZRootRunsRds
namespace Go.Proofs.Ytenlkobjldhfgaa
open Go.RowKit
namespace Crc
def bitN : Nat → W → W
 | 0, s => s
 | k + 1, s => bit (bitN k s)
theorem bitN8 (s : W) : bitN 8 s = bits8 s := rfl
def u (s : W) : Int := s.toNat
def byte (c : Int) : BitVec 8 := BitVec.ofInt 8 c
theorem u_lo (s : W) : 0 ≤ u s := by unfold u; omega
theorem u_hi (s : W) : u s ≤ 4294967295 := by have := s.isLt; unfold u; omega
theorem byte_nat (c : Int) (h0 : 0 ≤ c) (h1 : c ≤ 255) : ((byte c).toNat : Int) = c := by
 unfold byte; rw [BitVec.toNat_ofInt]; omega
theorem xor_u (a b : W) : bits .xor .u32 (u a) (u b) = u (a ^^^ b) := by
 unfold u; rw [u32_xor_nat _ _ a.isLt b.isLt, BitVec.toNat_xor]
theorem xor_P (a : W) : bits .xor .u32 (u a) 79764919 = u (a ^^^ P) := xor_u a P
theorem top_u (s : W) : u s / 2147483648 = if s.msb then 1 else 0 := by
 have := s.isLt
 unfold u
 rw [BitVec.msb_eq_decide]
 by_cases h : 2 ^ (32 - 1) ≤ s.toNat
 ·simp only [h, decide_true, if_true]; omega
 ·simp only [h, decide_false, Bool.false_eq_true, if_false]; omega
theorem shl_u (s : W) : u s * (2 : Int) % (4294967296 : Int) = u (s <<< 1) := by
 unfold u; rw [BitVec.toNat_shiftLeft, Nat.shiftLeft_eq]; omega
theorem up_u (c : Int) (h0 : 0 ≤ c) (h1 : c ≤ 255) : c * 16777216 = u (up (byte c)) := by
 have := byte_nat c h0 h1
 unfold u up
 rw [BitVec.toNat_shiftLeft, Nat.shiftLeft_eq, BitVec.toNat_setWidth]; omega
end Crc
open Crc
set_option maxHeartbeats 400000 in
theorem step_any (S : W) (c : Int) (c0 : 0 ≤ c) (c1 : c ≤ 255) (w : World) :
  Calls Try.prog 67 #[.int .u32 (u S), .int .u8 c] w fun e w' => e = .returned (.int .u32 (u (Crc.step S (byte c)))) ∧ w = w' := by
 have h2 : bits .xor .u32 (u S) (c * 16777216) = u (S ^^^ up (byte c)) := by rw [up_u c c0 c1, xor_u]
 go_enter Try.func67, Try.ntmps67
 go_wp2
 clear h2
 go_loop [0, 11] (fun s i => ∃ k : Nat, k ≤ 8 ∧ i = .int .i64 k ∧ s = .int .u32 (u (bitN k (S ^^^ up (byte c))))) (fun _ i => 8 - (intOf i).toNat)
 case atStart => exact ⟨0, by omega, rfl, rfl⟩
 case round =>
  obtain ⟨k, hk, rfl, rfl⟩ := hrel
  generalize hT : bitN k (S ^^^ up (byte c)) = T
  have ht := top_u T
  have hs := shl_u T
  have hx := xor_P (T <<< 1)
  have HT := Lib.hid hT
  have l0 := u_lo T
  have l1 := u_hi T
  clear hT
  by_cases hlt : k < 8
  ·cases hm : T.msb
   ·have ht2 : (u T / 2147483648 == 1) = false := by rw [ht, hm]; rfl
    have HM := Lib.hid hm
    clear ht hm hx
    go_wp2
    go_round
    case rel => exact ⟨k + 1, by omega, by go_num, by rw [bitN, HT.out]; unfold bit; rw [HM.out]; simp only [if_false, Bool.false_eq_true, BitVec.xor_zero, hs]⟩
    case measure => simp [intOf]; omega
   ·have ht2 : (u T / 2147483648 == 1) = true := by rw [ht, hm]; rfl
    have HM := Lib.hid hm
    clear ht hm
    go_wp2
    go_round
    case rel => exact ⟨k + 1, by omega, by go_num, by rw [bitN, HT.out]; unfold bit; rw [HM.out]; simp only [if_true]⟩
    case measure => simp [intOf]; omega
  ·obtain rfl : k = 8 := by omega
   clear ht hs hx
   go_wp2
   go_ret
   exact ⟨by rw [← HT.out]; rfl, rfl⟩
end Go.Proofs.Ytenlkobjldhfgaa
namespace Go.Proofs.Ytenlkobjldhfgaa
open Go.RowKit Go.Proofs.YtenlkobjldhfgaaW.PrintWords
open Crc
namespace Crc
def sumB (s : W) (l : List UInt8) : W := l.foldl (fun s c => Crc.step s c.toBitVec) s
theorem byte_bv (c : UInt8) : byte (bv c) = c.toBitVec := by
 apply BitVec.eq_of_toNat_eq
 have h := byte_nat (bv c) (bv_lo c) (bv_hi c)
 unfold bv at h
 have : (byte (c.toNat : Int)).toNat = c.toNat := by omega
 exact this
theorem sumB_snoc (s : W) (l : List UInt8) (k : Nat) (h : k < l.length) : sumB s (l.take (k + 1)) = Crc.step (sumB s (l.take k)) (byte (bv l[k])) := by
 rw [List.take_succ_eq_append_getElem h, byte_bv]; unfold sumB; rw [List.foldl_append]; rfl
theorem sumB_append (s : W) (l m : List UInt8) : sumB s (l ++ m) = sumB (sumB s l) m := by unfold sumB; rw [List.foldl_append]
theorem sumB_parts (s : W) (l : List (List UInt8)) (k : Nat) (h : k < l.length) : sumB s (l.take (k + 1)).flatten = sumB (sumB s (l.take k).flatten) l[k] := by
 rw [List.take_succ_eq_append_getElem h, List.flatten_append, sumB_append]; simp
def init : W := 0xffffffff#32
end Crc
set_option maxHeartbeats 1000000 in
theorem of_any (A : Option Addr) (c : Nat) (l : List (List UInt8)) (w : World) (hr : Rds w A l) :
  Calls Try.prog 61 #[.slice A l.length c] w fun e w' => e = .returned (.int .u32 (u (sumB init l.flatten))) ∧ w = w' := by
 have hl := hr.2.1
 have HR := Lib.hid hr
 clear hr
 go_enter Try.func61, Try.ntmps61
 go_wp2
 go_loop [3, 10] (fun s i => ∃ k : Nat, k ≤ l.length ∧ i = .int .i64 k ∧ s = .int .u32 (u (sumB init (l.take k).flatten))) (fun _ i => l.length - (intOf i).toNat)
 case atStart => exact ⟨0, by omega, rfl, rfl⟩
 case round =>
  obtain ⟨k, hk, rfl, rfl⟩ := hrel
  by_cases hlt : k < l.length
  ·obtain ⟨ad, B, cp, e, hx, hcp, hR⟩ := HR.out.at k hlt
   cases e
   have hl2 := hR.2.1
   have HS := Lib.hid (sumB_parts init l k hlt)
   have HR2 := Lib.hid hR
   clear hR
   generalize l[k] = m at *
   generalize hS : sumB init (l.take k).flatten = S
   rw [hS] at HS
   clear hS
   go_wp2
   go_loop [3, 16] (fun s j => ∃ q : Nat, q ≤ m.length ∧ j = .int .i64 q ∧ s = .int .u32 (u (sumB S (m.take q)))) (fun _ j => m.length - (intOf j).toNat)
   case atStart => exact ⟨0, by omega, rfl, rfl⟩
   case round =>
    clear hx
    obtain ⟨q, hq, rfl, rfl⟩ := hrel
    by_cases hlt2 : q < m.length
    ·obtain ⟨ad, e, hx⟩ := HR2.out.at q hlt2
     cases e
     have b0 := bv_lo m[q]
     have b1 := bv_hi m[q]
     have HS2 := Lib.hid (sumB_snoc S m q hlt2)
     generalize bv m[q] = x at *
     go_wp2_with (go_at_call 67; refine (step_any _ _ b0 b1 _).mono ?_; rintro e w' ⟨rfl, rfl⟩)
     go_round
     case rel => exact ⟨q + 1, by omega, by go_num, by rw [HS2.out]⟩
     case measure => simp [intOf]; omega
    ·obtain rfl : q = m.length := by omega
     go_wp2
     go_round
     case rel => exact ⟨k + 1, by omega, by go_num, by rw [HS.out, List.take_length]⟩
     case measure => simp [intOf]; omega
  ·obtain rfl : k = l.length := by omega
   go_wp2
   go_ret
   exact ⟨rfl, rfl⟩
end Go.Proofs.Ytenlkobjldhfgaa
namespace Go.Proofs.Ytenlkobjldhfgaa
open Go.RowKit Go.Proofs.YtenlkobjldhfgaaW.PrintWords
open Crc
namespace Crc
def tailB (s : W) : List UInt8 := [⟨(s >>> 24).setWidth 8⟩, ⟨(s >>> 16).setWidth 8⟩, ⟨(s >>> 8).setWidth 8⟩, ⟨s.setWidth 8⟩]
theorem tailB_length (s : W) : (tailB s).length = 4 := rfl
def sealB (l : List UInt8) : List UInt8 := l ++ tailB (sumB init l)
theorem sealB_length (l : List UInt8) : (sealB l).length = l.length + 4 := by unfold sealB; rw [List.length_append]; rfl
theorem cut24 (s : W) : u s / (16777216 : Int) = bv ⟨(s >>> 24).setWidth 8⟩ := by
 have := s.isLt
 unfold u bv
 show _ = (((s >>> 24).setWidth 8).toNat : Int)
 rw [BitVec.toNat_setWidth, BitVec.toNat_ushiftRight, Nat.shiftRight_eq_div_pow]; omega
theorem cut16 (s : W) : u s / (65536 : Int) % (256 : Int) = bv ⟨(s >>> 16).setWidth 8⟩ := by
 unfold u bv
 show _ = (((s >>> 16).setWidth 8).toNat : Int)
 rw [BitVec.toNat_setWidth, BitVec.toNat_ushiftRight, Nat.shiftRight_eq_div_pow]; omega
theorem cut8 (s : W) : u s / (256 : Int) % (256 : Int) = bv ⟨(s >>> 8).setWidth 8⟩ := by
 unfold u bv
 show _ = (((s >>> 8).setWidth 8).toNat : Int)
 rw [BitVec.toNat_setWidth, BitVec.toNat_ushiftRight, Nat.shiftRight_eq_div_pow]; omega
theorem cut0 (s : W) : u s % (256 : Int) = bv ⟨s.setWidth 8⟩ := by
 unfold u bv
 show _ = ((s.setWidth 8).toNat : Int)
 rw [BitVec.toNat_setWidth]; omega
end Crc
set_option maxHeartbeats 1000000 in
theorem tail_any (S : W) (w : World) :
  Calls Try.prog 60 #[.int .u32 (u S)] w fun e w' => ∃ v, e = .returned v ∧ Own w' w.heap.size v (tailB S) ∧ Below w.heap.size w w' := by
 have l0 := u_lo S
 have l1 := u_hi S
 go_enter Try.func60, Try.ntmps60
 go_wp2
 go_ret
 refine ⟨_, rfl, Own.lit w w.heap.size (tailB S) _ ?_ (Nat.le_refl _) (by rw [tailB_length]; decide), (Below.refl _ _).alloc (Nat.le_refl _) _⟩
 simp only [tailB, List.map_cons, List.map_nil, cut24, cut16, cut8, cut0]
set_option maxHeartbeats 2000000 in
theorem seal_any (A : Option Addr) (c : Nat) (l : List (List UInt8)) (w : World) (hr : Rds w A l) (hl : l.flatten.length ≤ 140737488355000) :
  Calls Try.prog 49 #[.slice A l.length c] w fun e w' => ∃ v, e = .returned v ∧ Own w' w.heap.size v (sealB l.flatten) ∧ Below w.heap.size w w' := by
 have HL := Lib.hid hl
 have HR := Lib.hid hr
 clear hr hl
 go_enter Try.func49, Try.ntmps49
 go_wp2_with (first
  | (go_at_call 59; refine (concat_any _ _ _ _ HR.out (by have := HL.out; omega)).mono ?_; rintro e w1 ⟨v, rfl, HO, HB⟩; have HO1 := Lib.hid HO; have HB1 := Lib.hid HB; clear HO HB)
  | (go_at_call 61; refine (of_any _ _ _ _ (HR.out.below HB1.out)).mono ?_; rintro e w2 ⟨rfl, rfl⟩)
  | (go_at_call 60; refine (tail_any _ _).mono ?_; rintro e w3 ⟨v2, rfl, HO2, HB2⟩; obtain ⟨A2, c2, rfl, hs2⟩ := HO2.sl; have HS2 := Lib.hid hs2; have HB3 := Lib.hid HB2; clear HO2 HB2 hs2)
  | (at_builtin; refine own_append w.heap.size rfl (.tmp 4) (.tmp 7) rfl _ _ _ _ _ _ (HO1.out.below HB3.out) HS2.out.rd rfl rfl rfl (by have := HB1.out.size; have := HB3.out.size; omega) (by rw [tailB_length]; have := HL.out; omega) ?_; intro v4 w4 HO4 HG4 _))
 go_ret
 exact ⟨_, rfl, HO4, slots (below_step HB1.out HB3.out) _ HG4 HO1.out.base⟩
end Go.Proofs.Ytenlkobjldhfgaa
