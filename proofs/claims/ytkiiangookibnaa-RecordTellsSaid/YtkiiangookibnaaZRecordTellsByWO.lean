/- Several texts in one: Zs, ByW. -/
import Derived.Test.YtkiiangookibnaaZRecordTellsFlat
import Derived.Test.YtkiiangookibnaaZRecordTellsStr
set_option linter.unusedVariables false
set_option linter.unusedSimpArgs false
namespace Go.Proofs.Ytkiiangookibnaa
open Go.RowKit Go.Proofs.YtkiiangookibnaaW.PrintWords Go.Proofs.YtkiiangookibnaaW.PrintLast
section
variable {w : World} {q t : Nat} {A B : Option Addr} {xs ys : List UInt8}
theorem rd_sub {cs : List Value} (h : (blk q cs t).holds w) (k : Nat) (hd : (cs.drop k).take xs.length = nums .u8 (xs.map bv)) (hm : xs.length ≤ 9223372036854775807) : Rd w (some ⟨q, k, none⟩) xs := by
  refine ⟨rfl, hm, fun _ => ⟨_, rfl, fun j p hj => ⟨[.int .u8 (bv p)], rfl, rfl, fun i u hu => ?_⟩⟩⟩
  have hi : i = 0 := by
    rcases i with _ | i
    · rfl
    · simp at hu
  subst hi
  have hu' : Value.int .u8 (bv p) = u := by simpa using hu
  subst hu'
  have := bkCells h k (nums .u8 (xs.map bv)) (by rw [nums_length, List.length_map]; exact hd) j (.int .u8 (bv p)) (by simp [nums, hj])
  simpa [kByte, Kd.scalar] using this
theorem rd_blk (h : (blk q (nums .u8 (xs.map bv)) t).holds w) (hm : xs.length ≤ 9223372036854775807) : Rd w (some ⟨q, 0, none⟩) xs :=
  rd_sub h 0 (by rw [List.drop_zero, List.take_of_length_le]; simp [nums_length]) hm
end
end Go.Proofs.Ytkiiangookibnaa
set_option linter.unusedVariables false
set_option linter.unusedSimpArgs false
namespace Go.Proofs.Ytkiiangookibnaa
open Go.RowKit Go.Proofs.YtkiiangookibnaaW.PrintWords Go.Proofs.YtkiiangookibnaaW.PrintLast
section
variable {w : World} {q t e n c : Nat} {A : Option Addr} {xs : List UInt8} {hE : kByte.E = []}
theorem row_rd (h : (row kByte hE e (.slice A n c) xs).holds w) : n = xs.length ∧ n ≤ c ∧ Rd w A xs := row_C h
theorem row_rdn (h : (row kByte hE e (.slice A n c) xs).holds w) : kByte.C w A n xs := by
  have h2 := row_C h
  rw [h2.1]
  exact h2.2.2
theorem rd_blkn (h : (blk q (nums .u8 (xs.map bv)) t).holds w) (hn : xs.length = n) (hm : n ≤ 9223372036854775807) : kByte.C w (some ⟨q, 0, none⟩) n xs := by
  subst hn
  exact rd_blk h hm
theorem rd_cell {a : Addr} (h : Rd w (some a) xs) (j : Nat) (hj : j < xs.length) : w.cell? (a.add (j * 1)) = some (.int .u8 (bv xs[j])) := by
  obtain ⟨ad, e, hc⟩ := h.at j hj
  injection e with e
  subst e
  rw [Nat.mul_one]
  exact hc
theorem rd_some (h : Rd w A xs) (hj : 0 < xs.length) : ∃ a, A = some a := by
  obtain ⟨ad, e, _⟩ := h.at 0 hj
  exact ⟨ad, e⟩
end
end Go.Proofs.Ytkiiangookibnaa
