/- Several texts in one: Zs, ByW. -/
import Derived.Test.YtenlkobjldhfgaaZRootRunsFlat
import Derived.Test.YtenlkobjldhfgaaZRootRunsStr
set_option linter.unusedVariables false
set_option linter.unusedSimpArgs false
namespace Go.Proofs.Ytenlkobjldhfgaa
open Go.RowKit Go.Proofs.YtenlkobjldhfgaaW.PrintWords Go.Proofs.YtenlkobjldhfgaaW.PrintLast
section
variable {w : World} {q t : Nat} {A B : Option Addr} {xs ys : List UInt8}
theorem nums_bv (xs : List UInt8) : nums .u8 (xs.map bv) = xs.map fun c => Value.int .u8 (bv c) := by simp [nums]
theorem rd_sub {cs : List Value} (h : (blk q cs t).holds w) (k : Nat) (hd : (cs.drop k).take xs.length = nums .u8 (xs.map bv)) (hm : xs.length ≤ 9223372036854775807) : Rd w (some ⟨q, k, none⟩) xs := by
 refine ⟨rfl, hm, fun _ => ⟨_, rfl, fun j p hj => ⟨[.int .u8 (bv p)], rfl, rfl, fun i u hu => ?_⟩⟩⟩
 have hi : i = 0 := by
  rcases i with _ | i
  ·rfl
  ·simp at hu
 subst hi
 have hu' : Value.int .u8 (bv p) = u := by simpa using hu
 subst hu'
 have := bkCells h k (nums .u8 (xs.map bv)) (by rw [nums_length, List.length_map]; exact hd) j (.int .u8 (bv p)) (by simp [nums, hj])
 simpa [kByte, Kd.scalar] using this
theorem rd_blk (h : (blk q (nums .u8 (xs.map bv)) t).holds w) (hm : xs.length ≤ 9223372036854775807) : Rd w (some ⟨q, 0, none⟩) xs :=
 rd_sub h 0 (by rw [List.drop_zero, List.take_of_length_le]; simp [nums_length]) hm
theorem rd_cells (h : Rd w A xs) : (nums .u8 (xs.map bv)).length ≠ 0 → ∃ ad, A = some ad ∧ ∀ j v, (nums .u8 (xs.map bv))[j]? = some v → w.cell? (ad.add j) = some v := by
 intro h0
 rw [nums_length, List.length_map] at h0
 obtain ⟨ad, e, _⟩ := h.2.2 (by omega)
 refine ⟨ad, e, fun j v hv => ?_⟩
 have hj : j < xs.length := by
  have := (List.getElem?_eq_some_iff.1 hv).1
  simpa [nums_length] using this
 obtain ⟨ad', e', hc⟩ := h.at j hj
 rw [e] at e'
 injection e' with e'
 subst e'
 rw [hc]
 rw [nums_bv, List.getElem?_map, List.getElem?_eq_getElem hj] at hv
 exact hv
end
end Go.Proofs.Ytenlkobjldhfgaa
set_option linter.unusedVariables false
set_option linter.unusedSimpArgs false
namespace Go.Proofs.Ytenlkobjldhfgaa
open Go.RowKit Go.Proofs.YtenlkobjldhfgaaW.PrintWords Go.Proofs.YtenlkobjldhfgaaW.PrintLast
section
variable {w : World} {q t e n c : Nat} {A : Option Addr} {xs : List UInt8} {hE : kByte.E = []}
theorem row_rd (h : (row kByte hE e (.slice A n c) xs).holds w) : n = xs.length ∧ n ≤ c ∧ Rd w A xs := row_C h
theorem row_rdn (h : (row kByte hE e (.slice A n c) xs).holds w) : kByte.C w A n xs := by
 have h2 := row_C h
 rw [h2.1]
 exact h2.2.2
theorem rd_blkn (h : (blk q (nums .u8 (xs.map bv)) t).holds w) (hn : xs.length = n) (hm : n ≤ 9223372036854775807) : kByte.C w (some ⟨q, 0, none⟩) n xs := by
 subst hn
 exact rd_blk h hm
theorem rd_cell {a : Addr} (h : Rd w (some a) xs) (j : Nat) (hj : j < xs.length) : w.cell? (a.add (j * 1)) = some (.int .u8 (bv xs[j])) := by
 obtain ⟨ad, e, hc⟩ := h.at j hj
 injection e with e
 subst e
 rw [Nat.mul_one]
 exact hc
theorem rd_some (h : Rd w A xs) (hj : 0 < xs.length) : ∃ a, A = some a := by
 obtain ⟨ad, e, _⟩ := h.at 0 hj
 exact ⟨ad, e⟩
end
def padN (N : Nat) (xs : List UInt8) (j : Nat) : List Int := (xs.take j).map bv ++ List.replicate (N - j) 0
theorem padN_len {N j : Nat} {xs : List UInt8} (h : j ≤ xs.length) (hN : j ≤ N) : (padN N xs j).length = N := by unfold padN; simp; omega
theorem padN_set {N j : Nat} {xs : List UInt8} (h : j < xs.length) (hN : j < N) : (padN N xs j).set j (bv xs[j]) = padN N xs (j + 1) := by
 unfold padN
 have hl : ((xs.take j).map bv).length = j := by simp; omega
 rw [List.set_append_right _ _ (by omega), hl, Nat.sub_self, show N - j = (N - (j + 1)) + 1 by omega, List.replicate_succ, List.set_cons_zero, List.take_succ_eq_append_getElem h, List.map_append, List.append_assoc]
 rfl
theorem padN_zero (N : Nat) (xs : List UInt8) : padN N xs 0 = List.replicate N 0 := by unfold padN; simp
theorem padN_all (N : Nat) (xs : List UInt8) : padN N xs xs.length = (xs ++ List.replicate (N - xs.length) 0).map bv := by
 unfold padN
 rw [List.take_length, List.map_append, List.map_replicate]
 rfl
end Go.Proofs.Ytenlkobjldhfgaa
