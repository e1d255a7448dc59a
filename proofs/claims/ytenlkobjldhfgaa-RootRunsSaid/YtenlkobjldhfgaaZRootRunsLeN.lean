/- What Num gives, in plain form (free of Halves). -/
import Derived.Test.YtenlkobjldhfgaaZRootRunsNum
import Derived.Laws.BitsAllLaws
namespace Go.Proofs.Ytenlkobjldhfgaa
open Go.RowKit Go.Proofs.YtenlkobjldhfgaaW.PrintWords
def leN : List UInt8 → Nat
 | [] => 0
 | c :: r => c.toNat + 256 * leN r
theorem leN_lt : ∀ (l : List UInt8), leN l < 256 ^ l.length
 | [] => by simp [leN]
 | c :: r => by
  have h1 := leN_lt r
  have h2 := c.toNat_lt
  rw [List.length_cons, Nat.pow_succ]
  unfold leN
  omega
theorem or_nat (a b : Nat) (hb : b < 256) : a * 256 ||| b = a * 256 + b := by
 have := Nat.two_pow_add_eq_or_of_lt (i := 8) hb a
 rw [Nat.mul_comm a 256]
 exact this.symm
theorem bits_or (a b : Nat) (ha : a < 18446744073709551616) (hb : b < 18446744073709551616) : bits .or .u64 (a : Int) (b : Int) = ((a ||| b : Nat) : Int) := u64_or_nat a b ha hb
theorem step_nat (n : Nat) (x : Int × UInt8) (h : n < 72057594037927936) : numStep (n : Int) x = ((x.2.toNat + 256 * n : Nat) : Int) := by
 have h2 := x.2.toNat_lt
 unfold numStep
 have e1 : IntKind.u64.wrap ((n : Int) * 256) = ((n * 256 : Nat) : Int) := by
  rw [IntKind.wrap_u64]; omega
 have e2 : IntKind.u64.wrap (bv x.2) = ((x.2.toNat : Nat) : Int) := by
  unfold bv; rw [IntKind.wrap_u64]; omega
 rw [e1, e2, bits_or _ _ (by omega) (by omega), or_nat _ _ h2]
 omega
theorem numOf_snds (l : List (Int × UInt8)) (r : List UInt8) (h : l.map (·.2) = r.reverse) (hr : r.length ≤ 8) : numOf l = (leN r : Int) := by
 induction r generalizing l with
 | nil =>
  have : l = [] := by simpa using h
  subst this; rfl
 | cons c r ih =>
  rw [List.reverse_cons] at h
  obtain ⟨l1, l2, rfl, h1, h2⟩ := List.map_eq_append_iff.1 h
  match l2, h2 with
  | [x], h2 =>
   have hx : x.2 = c := by simpa using h2
   have hr2 : r.length ≤ 7 := by simp at hr; omega
   rw [numOf_snoc, ih l1 h1 (by omega), step_nat, hx]
   ·rfl
   ·have h3 := leN_lt r
    have h4 : 256 ^ r.length ≤ 256 ^ 7 := Nat.pow_le_pow_right (by decide) hr2
    omega
theorem back_snds (xs : List UInt8) : (upto (backAt xs) xs.length).map (·.2) = xs.reverse := by
 apply List.ext_getElem
 ·simp [upto]
 ·intro i h1 h2
  have h3 : i < xs.length := by simpa [upto] using h1
  simp [upto, backAt, List.getElem_reverse]
  rw [List.getElem?_eq_getElem (by omega)]
  rfl
theorem numB_eq (xs : List UInt8) (h : xs.length ≤ 8) : numB xs = (leN xs : Int) := numOf_snds _ _ (back_snds xs) h
end Go.Proofs.Ytenlkobjldhfgaa
