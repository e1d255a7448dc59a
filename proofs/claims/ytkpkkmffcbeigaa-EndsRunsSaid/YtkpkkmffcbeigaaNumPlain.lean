/- What Num gives, in plain form. -/
import Derived.Test.YtkpkkmffcbeigaaHalves
import Derived.Laws.BitsAllLaws
namespace Go.Proofs.Ytkpkkmffcbeigaa
open Go.RowKit Go.Proofs.YtkpkkmffcbeigaaW.PrintWords

/-- A number of bytes, the lowest first. -/
def leN : List UInt8 → Nat
  | [] => 0
  | c :: r => c.toNat + 256 * leN r
theorem leN_lt : ∀ (l : List UInt8), leN l < 256 ^ l.length
  | [] => by simp [leN]
  | c :: r => by
    have h1 := leN_lt r
    have h2 := c.toNat_lt
    rw [List.length_cons, Nat.pow_succ]
    unfold leN
    omega
theorem leN_leB : ∀ (k n : Nat), leN (leB k n) = n % 256 ^ k
  | 0, n => by simp [leN, leB, Nat.mod_one]
  | k + 1, n => by
    unfold leB leN
    rw [leN_leB k, UInt8.toNat_ofNat']
    have e : n % 256 ^ (k + 1) = n % 256 + 256 * (n / 256 % 256 ^ k) := by
      rw [show 256 ^ (k + 1) = 256 * 256 ^ k by rw [Nat.pow_succ, Nat.mul_comm], Nat.mod_mul]
    rw [e]
    omega
theorem or_nat (a b : Nat) (hb : b < 256) : a * 256 ||| b = a * 256 + b := by
  have := Nat.two_pow_add_eq_or_of_lt (i := 8) hb a
  rw [Nat.mul_comm a 256]
  exact this.symm
theorem bits_or (a b : Nat) (ha : a < 18446744073709551616) (hb : b < 18446744073709551616) : bits .or .u64 (a : Int) (b : Int) = ((a ||| b : Nat) : Int) := u64_or_nat a b ha hb
theorem step_nat (n : Nat) (x : Int × UInt8) (h : n < 72057594037927936) : numStep (n : Int) x = ((x.2.toNat + 256 * n : Nat) : Int) := by
  have h2 := x.2.toNat_lt
  unfold numStep
  have e1 : IntKind.u64.wrap ((n : Int) * 256) = ((n * 256 : Nat) : Int) := by
    rw [IntKind.wrap_u64]; omega
  have e2 : IntKind.u64.wrap (bv x.2) = ((x.2.toNat : Nat) : Int) := by
    unfold bv; rw [IntKind.wrap_u64]; omega
  rw [e1, e2, bits_or _ _ (by omega) (by omega), or_nat _ _ h2]
  omega
theorem numOf_snds (l : List (Int × UInt8)) (r : List UInt8) (h : l.map (·.2) = r.reverse) (hr : r.length ≤ 8) : numOf l = (leN r : Int) := by
  induction r generalizing l with
  | nil =>
    have : l = [] := by simpa using h
    subst this; rfl
  | cons c r ih =>
    rw [List.reverse_cons] at h
    obtain ⟨l1, l2, rfl, h1, h2⟩ := List.map_eq_append_iff.1 h
    match l2, h2 with
    | [x], h2 =>
      have hx : x.2 = c := by simpa using h2
      have hr2 : r.length ≤ 7 := by simp at hr; omega
      rw [numOf_snoc, ih l1 h1 (by omega), step_nat, hx]
      · rfl
      · have h3 := leN_lt r
        have h4 : 256 ^ r.length ≤ 256 ^ 7 := Nat.pow_le_pow_right (by decide) hr2
        omega
theorem back_snds (xs : List UInt8) : (upto (backAt xs) xs.length).map (·.2) = xs.reverse := by
  apply List.ext_getElem
  · simp [upto]
  · intro i h1 h2
    have h3 : i < xs.length := by simpa [upto] using h1
    simp [upto, backAt, List.getElem_reverse]
    rw [List.getElem?_eq_getElem (by omega)]
    rfl
theorem numB_eq (xs : List UInt8) (h : xs.length ≤ 8) : numB xs = (leN xs : Int) := numOf_snds _ _ (back_snds xs) h
theorem takeOut_wide (xs : List UInt8) (f : Bool) (width : Int) : (takeOut xs (f || !wideB width) width).length ≤ 8 := by
  unfold takeOut takeBad
  cases hw : wideB width
  · simp
  · split
    · simp
    · rw [List.length_take]
      unfold wideB at hw; simp only [Bool.or_eq_true, beq_iff_eq] at hw; omega
/-- The number of a reader of numbers. -/
theorem num_packs (W : Nat) (hw : wideB W = true) (l : List UInt64) (k : Nat) (hk : k < l.length) (ys : List UInt8) (hf : fits W l[k] = true) :
    numB (takeOut (leB W l[k].toNat ++ ys) (false || !wideB (W : Int)) W) = uv l[k] ∧ takeRest (leB W l[k].toNat ++ ys) (false || !wideB (W : Int)) W = ys ∧ takeBad (leB W l[k].toNat ++ ys) (false || !wideB (W : Int)) W = false := by
  have hb : takeBad (leB W l[k].toNat ++ ys) (false || !wideB (W : Int)) W = false := by
    unfold takeBad; rw [hw]; simp [leB_length]; omega
  refine ⟨?_, ?_, hb⟩
  · rw [numB_eq _ (takeOut_wide _ _ _)]
    unfold takeOut
    rw [hb]
    have e : (leB W l[k].toNat ++ ys).take ((W : Int).toNat) = leB W l[k].toNat := by
      rw [Int.toNat_natCast, List.take_append_of_le_length (by rw [leB_length]; exact Nat.le_refl _), List.take_of_length_le (by rw [leB_length]; exact Nat.le_refl _)]
    rw [if_neg (by decide), e, leN_leB]
    have : l[k].toNat < 256 ^ W := by unfold fits at hf; simpa using hf
    rw [Nat.mod_eq_of_lt this]
    rfl
  · unfold takeRest
    rw [hb, if_neg (by decide), Int.toNat_natCast, List.drop_append_of_le_length (by rw [leB_length]; exact Nat.le_refl _), List.drop_of_length_le (by rw [leB_length]; exact Nat.le_refl _), List.nil_append]
theorem packs_drop (W : Nat) (l : List UInt64) (k : Nat) (hk : k < l.length) : packs W (l.drop k) = leB W l[k].toNat ++ packs W (l.drop (k + 1)) := by
  rw [List.drop_eq_getElem_cons hk]
  unfold packs
  rfl
theorem fits_of (width : Int) (l : List UInt64) (h : putOk width l = true) (k : Nat) (hk : k < l.length) : fits width.toNat l[k] = true := by
  unfold putOk at h
  rw [Bool.and_eq_true, List.all_eq_true] at h
  exact h.2 _ (List.getElem_mem hk)
end Go.Proofs.Ytkpkkmffcbeigaa
