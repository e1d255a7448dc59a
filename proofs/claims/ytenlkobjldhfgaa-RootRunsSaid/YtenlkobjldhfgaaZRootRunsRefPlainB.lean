/- The document's sum is the chapter's: plain. -/
import Derived.Test.YtenlkobjldhfgaaZRootRunsOfRefB
namespace Go.Proofs.Ytenlkobjldhfgaa
open Go.RowKit Go.Proofs.YtenlkobjldhfgaaW.PrintWords
open Crc
def st (s : W) (b : Bool) : W := (s <<< 1) ^^^ (if s.msb ^^ b then P else 0#32)
def mB (s : W) : List Bool := (List.range 32).map fun i => s.getLsbD (31 - i)
theorem mB_length (s : W) : (mB s).length = 32 := by simp [mB]
theorem mB_getD (s : W) (i : Nat) (h : i < 32) : (mB s).getD i false = s.getLsbD (31 - i) := by
 rw [List.getD_eq_getElem?_getD, List.getElem?_eq_getElem (by rw [mB_length]; exact h)]
 simp [mB]
theorem poly_bit : ∀ i, i < 32 → P.getLsbD (31 - i) = polyB.getD i false := by decide
theorem mB_st (s : W) (b : Bool) : mB (st s b) = rstep (mB s) b := by
 apply List.ext_getElem
 ·rw [mB_length, rstep_length]
 ·intro i h1 h2
  have hi : i < 32 := by rw [mB_length] at h1; exact h1
  have e0 : (mB s).getD 0 false = s.msb := by rw [mB_getD _ _ (by omega), BitVec.msb_eq_getLsbD_last]
  have e1 : (mB s).getD (i + 1) false = (s <<< 1).getLsbD (31 - i) := by
   by_cases h31 : i + 1 < 32
   ·rw [mB_getD _ _ h31, BitVec.getLsbD_shiftLeft]
    have a1 : 31 - i < 32 := by omega
    have a2 : ¬ (31 - i < 1) := by omega
    have a3 : 31 - i - 1 = 31 - (i + 1) := by omega
    simp [a1, a2, a3]
   ·have : i = 31 := by omega
    subst this
    rw [List.getD_eq_getElem?_getD, List.getElem?_eq_none (by rw [mB_length]; omega), BitVec.getLsbD_shiftLeft]
    simp
  have l1 : (mB (st s b))[i] = (st s b).getLsbD (31 - i) := by simp [mB]
  have l2 : (rstep (mB s) b)[i] = (((mB s).getD (i + 1) false) != (((mB s).getD 0 false != b) && polyB.getD i false)) := by simp [rstep]
  refine l1.trans (Eq.trans ?_ l2.symm)
  rw [e0, e1, ← poly_bit i hi]
  unfold st
  rw [BitVec.getLsbD_xor]
  cases s.msb <;> cases b <;> simp
theorem bitsN_mB (s : W) : ∀ j, j ≤ 32 → bitsN ((mB s).take j) = s.toNat / 2 ^ (32 - j)
 | 0, _ => by
  have := s.isLt
  rw [List.take_zero, Nat.div_eq_of_lt (by simpa using this)]; rfl
 | j + 1, h => by
  have ih := bitsN_mB s j (by omega)
  rw [List.take_succ_eq_append_getElem (by rw [mB_length]; omega), bitsN_snoc, ih]
  have e : (mB s)[j]'(by rw [mB_length]; omega) = s.getLsbD (31 - j) := by simp [mB]
  have e2 : s.getLsbD (31 - j) = decide (s.toNat / 2 ^ (31 - j) % 2 = 1) := by
   show s.toNat.testBit (31 - j) = _
   rw [Nat.testBit_eq_decide_div_mod_eq]
  have e3 : s.toNat / 2 ^ (32 - j) = s.toNat / 2 ^ (31 - j) / 2 := by
   rw [Nat.div_div_eq_div_mul, ← Nat.pow_succ]; congr 2; omega
  have e4 : 32 - (j + 1) = 31 - j := by omega
  rw [e, e2, e3, e4]
  generalize s.toNat / 2 ^ (31 - j) = m
  by_cases hm : m % 2 = 1
  ·simp [hm]; omega
  ·simp [hm]; omega
theorem bitsN_all (s : W) : bitsN (mB s) = s.toNat := by
 have := bitsN_mB s 32 (Nat.le_refl _)
 rw [List.take_of_length_le (by rw [mB_length]; exact Nat.le_refl _)] at this
 simpa using this
theorem st_lin (s : W) (b : Bool) : st s b = bit s ^^^ st 0#32 b := by
 have h0 : st 0#32 b = if b then P else 0#32 := by cases b <;> decide
 rw [h0]
 unfold st bit
 rw [ite_xor, BitVec.xor_assoc]
theorem fold_st (bs : List Bool) : ∀ s : W, bs.foldl st s = bitN bs.length s ^^^ bs.foldl st 0#32 := by
 induction bs with
 | nil => intro s; simp [bitN]
 | cons b bs ih =>
  intro s
  rw [List.foldl_cons, List.foldl_cons, ih (st s b), ih (st 0#32 b), st_lin s b]
  have hb : ∀ (k : Nat) (x y : W), bitN k (x ^^^ y) = bitN k x ^^^ bitN k y := by
   intro k
   induction k with
   | zero => intro x y; rfl
   | succ k ihk => intro x y; show bit (bitN k (x ^^^ y)) = _; rw [ihk, bit_xor]; rfl
  have hs : ∀ (k : Nat) (x : W), bitN k (bit x) = bitN (k + 1) x := by
   intro k
   induction k with
   | zero => intro x; rfl
   | succ k ihk => intro x; show bit (bitN k (bit x)) = _; rw [ihk]; rfl
  rw [hb, hs, List.length_cons, BitVec.xor_assoc]
def byteB (c : UInt8) : List Bool := (List.range 8).map fun i => c.toNat / 2 ^ (7 - i) % 2 == 1
theorem byte_zero : ∀ c : BitVec 8, ((List.range 8).map fun i => c.toNat / 2 ^ (7 - i) % 2 == 1).foldl st 0#32 = bits8 (up c) := by decide +kernel
theorem fold_byte (s : W) (c : UInt8) : (byteB c).foldl st s = Crc.step s c.toBitVec := by
 rw [fold_st]
 have h1 := byte_zero c.toBitVec
 have h2 : (byteB c).length = 8 := by simp [byteB]
 rw [h2]
 show bitN 8 s ^^^ ((List.range 8).map fun i => c.toBitVec.toNat / 2 ^ (7 - i) % 2 == 1).foldl st 0#32 = _
 rw [h1, bitN8, ← bits8_xor]
 rfl
theorem restAt_byte (xs : List UInt8) (n : Nat) (s : W) (h : restAt xs (8 * n) = mB s) : restAt xs (8 * (n + 1)) = mB ((byteB (xs.getD n 0)).foldl st s) := by
 have hb : ∀ i, i < 8 → bitAt xs (8 * n + i) = ((xs.getD n 0).toNat / 2 ^ (7 - i) % 2 == 1) := by
  intro i hi
  unfold bitAt
  have a1 : (8 * n + i) / 8 = n := by omega
  have a2 : (8 * n + i) % 8 = i := by omega
  rw [a1, a2]
 have hs : ∀ i, i ≤ 8 → restAt xs (8 * n + i) = mB (((byteB (xs.getD n 0)).take i).foldl st s) := by
  intro i
  induction i with
  | zero => intro _; exact h
  | succ i ih =>
   intro hi
   have hbl : i < (byteB (xs.getD n 0)).length := by simp [byteB]; omega
   show rstep (restAt xs (8 * n + i)) (bitAt xs (8 * n + i)) = _
   rw [ih (by omega), hb i (by omega), ← mB_st, List.take_succ_eq_append_getElem hbl, List.foldl_append]
   have e : (byteB (xs.getD n 0))[i] = ((xs.getD n 0).toNat / 2 ^ (7 - i) % 2 == 1) := by simp [byteB]
   rw [e]; rfl
 have := hs 8 (Nat.le_refl _)
 rw [List.take_of_length_le (by simp [byteB])] at this
 exact this
theorem sumB_one (s : W) (c : UInt8) : sumB s [c] = Crc.step s c.toBitVec := by unfold sumB; rw [List.foldl_cons, List.foldl_nil]
theorem restAt_sum (xs : List UInt8) : ∀ n, n ≤ xs.length → restAt xs (8 * n) = mB (sumB init (xs.take n))
 | 0, _ => by
  show onesK 32 = _
  rw [List.take_zero]
  decide
 | n + 1, h => by
  have e : xs.getD n 0 = xs[n] := by rw [List.getD_eq_getElem?_getD, List.getElem?_eq_getElem (by omega)]; rfl
  rw [restAt_byte xs n _ (restAt_sum xs n (by omega)), fold_byte, List.take_succ_eq_append_getElem (by omega), sumB_append, sumB_one, e]
theorem rof_r (A : Option Addr) (c : Nat) (xs : List UInt8) (w : World) (hr : Rd w A xs) (hl : xs.length ≤ 1000000) : Calls Try.prog 51 #[.slice A xs.length c] w fun e w' => e = .returned (.int .u32 (u (sumB init xs))) ∧ Below w.heap.size w w' := by
 refine (rof_any A c xs w hr hl).mono ?_
 rintro e w' ⟨rfl, hb⟩
 refine ⟨?_, hb⟩
 rw [restAt_sum xs xs.length (Nat.le_refl _), List.take_of_length_le (Nat.le_refl _), bitsN_all]
 rfl
end Go.Proofs.Ytenlkobjldhfgaa
