/- Bytes as the print has them (whole numbers), and as they are here. -/
import Derived.Test.YtmachdikonelbaaZFrameFindsStr
namespace Go.Proofs.Ytmachdikonelbaa
open Go.RowKit Go.Proofs.YtmachdikonelbaaW.PrintWords
def isB (l : List Int) : Bool := l.all fun x => decide (0 ≤ x) && decide (x ≤ 255)
def toB (l : List Int) : List UInt8 := l.map fun x => UInt8.ofNat x.toNat
theorem toB_length (l : List Int) : (toB l).length = l.length := by unfold toB; simp
theorem isB_iff (l : List Int) : isB l = true ↔ ∀ x ∈ l, 0 ≤ x ∧ x ≤ 255 := by
  unfold isB; rw [List.all_eq_true]; simp
theorem toB_one {x : Int} (h0 : 0 ≤ x) (h1 : x ≤ 255) : bv (UInt8.ofNat x.toNat) = x := by
  unfold bv; rw [UInt8.toNat_ofNat']; omega
theorem toB_bv (l : List Int) (h : isB l = true) : (toB l).map bv = l := by
  rw [isB_iff] at h
  unfold toB
  rw [List.map_map]
  conv => rhs; rw [← List.map_id l]
  apply List.map_congr_left
  intro x hx
  exact toB_one (h x hx).1 (h x hx).2
end Go.Proofs.Ytmachdikonelbaa
