/- A sum's tail, Seal, Open, Turn. -/
import Derived.Test.YtmachdikonelbaaOfB
namespace Go.Proofs.Ytmachdikonelbaa
open Go.RowKit Go.Proofs.YtmachdikonelbaaW.PrintWords
open Crc

namespace Crc
/-- A sum as bytes. -/
def tailB (s : W) : List UInt8 := [⟨(s >>> 24).setWidth 8⟩, ⟨(s >>> 16).setWidth 8⟩, ⟨(s >>> 8).setWidth 8⟩, ⟨s.setWidth 8⟩]
theorem tailB_length (s : W) : (tailB s).length = 4 := rfl
theorem tailB_eq (s : W) : (tailB s).map UInt8.toBitVec = Crc.tail s := rfl
/-- Bytes and their sum. -/
def sealB (l : List UInt8) : List UInt8 := l ++ tailB (sumB init l)
theorem sealB_length (l : List UInt8) : (sealB l).length = l.length + 4 := by unfold sealB; rw [List.length_append]; rfl
theorem cut24 (s : W) : u s / (16777216 : Int) = bv ⟨(s >>> 24).setWidth 8⟩ := by
  have := s.isLt
  unfold u bv
  show _ = (((s >>> 24).setWidth 8).toNat : Int)
  rw [BitVec.toNat_setWidth, BitVec.toNat_ushiftRight, Nat.shiftRight_eq_div_pow]; omega
theorem cut16 (s : W) : u s / (65536 : Int) % (256 : Int) = bv ⟨(s >>> 16).setWidth 8⟩ := by
  unfold u bv
  show _ = (((s >>> 16).setWidth 8).toNat : Int)
  rw [BitVec.toNat_setWidth, BitVec.toNat_ushiftRight, Nat.shiftRight_eq_div_pow]; omega
theorem cut8 (s : W) : u s / (256 : Int) % (256 : Int) = bv ⟨(s >>> 8).setWidth 8⟩ := by
  unfold u bv
  show _ = (((s >>> 8).setWidth 8).toNat : Int)
  rw [BitVec.toNat_setWidth, BitVec.toNat_ushiftRight, Nat.shiftRight_eq_div_pow]; omega
theorem cut0 (s : W) : u s % (256 : Int) = bv ⟨s.setWidth 8⟩ := by
  unfold u bv
  show _ = ((s.setWidth 8).toNat : Int)
  rw [BitVec.toNat_setWidth]; omega
end Crc

set_option maxHeartbeats 1000000 in
theorem tail_any (S : W) (w : World) :
    Calls Try.prog 47 #[.int .u32 (u S)] w fun e w' => ∃ v, e = .returned v ∧ Own w' w.heap.size v (tailB S) ∧ Below w.heap.size w w' := by
  have l0 := u_lo S
  have l1 := u_hi S
  go_enter Try.func47, Try.ntmps47
  go_wp2
  go_ret
  refine ⟨_, rfl, Own.lit w w.heap.size (tailB S) _ ?_ (Nat.le_refl _) (by rw [tailB_length]; decide), (Below.refl _ _).alloc (Nat.le_refl _) _⟩
  simp only [tailB, List.map_cons, List.map_nil, cut24, cut16, cut8, cut0]

set_option maxHeartbeats 2000000 in
theorem seal_any (A : Option Addr) (c : Nat) (l : List (List UInt8)) (w : World) (hr : Rds w A l) (hl : l.flatten.length ≤ 140737488355000) :
    Calls Try.prog 21 #[.slice A l.length c] w fun e w' => ∃ v, e = .returned v ∧ Own w' w.heap.size v (sealB l.flatten) ∧ Below w.heap.size w w' := by
  have HL := Lib.hid hl
  have HR := Lib.hid hr
  clear hr hl
  go_enter Try.func21, Try.ntmps21
  go_wp2_with (first
    | (go_at_call 46; refine (concat_any _ _ _ _ HR.out (by have := HL.out; omega)).mono ?_; rintro e w1 ⟨v, rfl, HO, HB⟩; have HO1 := Lib.hid HO; have HB1 := Lib.hid HB; clear HO HB)
    | (go_at_call 48; refine (of_any _ _ _ _ (HR.out.below HB1.out)).mono ?_; rintro e w2 ⟨rfl, rfl⟩)
    | (go_at_call 47; refine (tail_any _ _).mono ?_; rintro e w3 ⟨v2, rfl, HO2, HB2⟩; obtain ⟨A2, c2, rfl, hs2⟩ := HO2.sl; have HS2 := Lib.hid hs2; have HB3 := Lib.hid HB2; clear HO2 HB2 hs2)
    | (at_builtin; refine own_append w.heap.size rfl (.tmp 4) (.tmp 7) rfl _ _ _ _ _ _ (HO1.out.below HB3.out) HS2.out.rd rfl rfl rfl (by have := HB1.out.size; have := HB3.out.size; omega) (by rw [tailB_length]; have := HL.out; omega) ?_; intro v4 w4 HO4 HG4 _))
  go_ret
  exact ⟨_, rfl, HO4, slots (below_step HB1.out HB3.out) _ HG4 HO1.out.base⟩
end Go.Proofs.Ytmachdikonelbaa
