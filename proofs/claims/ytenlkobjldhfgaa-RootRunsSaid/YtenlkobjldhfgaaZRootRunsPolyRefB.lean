/- The document's polynomial. -/
import Derived.Test.YtenlkobjldhfgaaZRootRunsBoolsB
namespace Go.Proofs.Ytenlkobjldhfgaa
open Go.RowKit Go.Proofs.YtenlkobjldhfgaaW.PrintWords
attribute [-simp] Try.isAgg113 Try.typeInfo113 Try.zeroValue113
attribute [local go_sem] zero113 storeCells113 bools_size noes_length
def polyB : List Bool := (List.range 32).map fun i => 79764919 / 2 ^ (31 - i) % 2 == 1
def polyK (k : Nat) : List Bool := (List.range 32).map fun i => decide (32 ≤ i + k) && (79764919 / 2 ^ (31 - i) % 2 == 1)
theorem polyB_length : polyB.length = 32 := by simp [polyB]
theorem polyK_length (k : Nat) : (polyK k).length = 32 := by simp [polyK]
theorem polyK_zero : polyK 0 = noes := by decide
theorem polyK_all : polyK 32 = polyB := by decide
theorem polyK_step : ∀ k, k < 32 → (polyK k).set (31 - k) ((79764919 / 2 ^ k % 2 : Nat) == 1) = polyK (k + 1) := by decide
theorem heap_bools_set {w : World} {g : Nat} {l : List Bool} (h : w.heap[g]? = some (.cells (bools l) 113)) (k : Nat) (b : Bool) : (w.setCell ⟨g, k, none⟩ (.bool b)).heap[g]? = some (.cells (bools (l.set k b)) 113) := by
 rw [← bools_set]; exact heap_setCell_same w g k _ _ _ h
set_option maxHeartbeats 4000000 in
theorem rpoly_any (w : World) : Calls Try.prog 62 #[] w fun e w' => e = .returned (.agg (bools polyB)) ∧ Below w.heap.size w w' := by
 go_enter Try.func62, Try.ntmps62
 go_wp2
 go_loopw [2, 3] (fun n i wr => ∃ k : Nat, k ≤ 32 ∧ i = .int .i64 (31 - (k : Int)) ∧ n = .int .u32 ((79764919 / 2 ^ k : Nat) : Int) ∧ wr.heap[w.heap.size]? = some (.cells (bools noes) 113) ∧ wr.heap[w.heap.size + 1]? = some (.cells (bools (polyK k)) 113) ∧ Below w.heap.size w wr) (fun _ i _ => (intOf i + 1).toNat)
 case atStart =>
  refine ⟨0, by omega, rfl, rfl, ?_, ?_, ?_⟩
  ·rw [Below.heap_alloc _ _ _ (by simp)]; exact heap_alloc_new w _
  ·have := heap_alloc_new (w.alloc (.cells (bools noes) 113)) (.cells (bools noes) 113)
   rw [World.size_alloc] at this
   rw [polyK_zero]; exact this
  ·exact ((Below.refl _ w).alloc (Nat.le_refl _) _).alloc (by simp) _
 case round =>
  obtain ⟨k, hk, rfl, rfl, h0, h1, hb⟩ := hrel
  have H0 := Lib.hid h0
  have H1 := Lib.hid h1
  have HB := Lib.hid hb
  clear h0 h1 hb
  by_cases hlt : k < 32
  ·obtain ⟨old, c1, c2⟩ : ∃ b, wr.cell? ⟨w.heap.size + 1, 31 - k, none⟩ = some (.bool b) ∧ wr.frozen? ⟨w.heap.size + 1, 31 - k, none⟩ = false := ⟨_, cell_bools H1.out (31 - k) (by rw [polyK_length]; omega)⟩
   have HS0 := Lib.hid (fun b => heap_bools_set H1.out (31 - k) b)
   have HS := Lib.hid (polyK_step k hlt)
   have he : (31 : Int) - (k : Int) = ((31 - k : Nat) : Int) := by omega
   have hj : 31 - k < 32 := by omega
   have HD := Lib.hid (show 79764919 / 2 ^ k / 2 = 79764919 / 2 ^ (k + 1) by rw [Nat.div_div_eq_div_mul, Nat.pow_succ])
   have hn : 79764919 / 2 ^ k ≤ 79764919 := Nat.div_le_self _ _
   rw [he]
   generalize hjj : 31 - k = j at *
   generalize hnn : 79764919 / 2 ^ k = n at *
   go_wp2
   go_roundw
   case rel =>
    have hbit : (((n : Int) % 2 == 1)) = ((n % 2 : Nat) == 1) := by rw [Bool.eq_iff_iff, beq_iff_eq, beq_iff_eq]; omega
    refine ⟨k + 1, by omega, by congr 1; omega, by rw [← HD.out]; rfl, ?_, ?_, HB.out.setCell (p := ⟨w.heap.size + 1, j, none⟩) (by show w.heap.size ≤ w.heap.size + 1; omega) _⟩
    ·rw [Below.heap_setCell _ _ _ _ (by show w.heap.size ≠ w.heap.size + 1; omega)]; exact H0.out
    ·rw [hbit, ← HS.out]; exact HS0.out _
   case measure => simp [intOf]; try omega
  ·obtain rfl : k = 32 := by omega
   have hb1 : wr.heap[w.heap.size + 1]? = some (.cells (bools polyB) 113) := by rw [← polyK_all]; exact H1.out
   have HB1 := Lib.hid hb1
   clear hb1
   go_wp2_with (first
    | (refine wpList_load_row rfl 113 (.tmp 1) rfl (w.heap.size + 1) rfl 113 _ (0, 0) _ HB1.out Try.underlying113 rfl (by rw [info113, bools_size, polyB_length]) ?_)
    | (refine wpList_store_row rfl 113 (.tmp 0) (.tmp 16) rfl w.heap.size (bools polyB) rfl rfl 113 _ H0.out (by rw [info113, bools_size, polyB_length]) (by rw [bools_size, bools_size, polyB_length, noes_length]) (bools_one _) ?_))
   refine bodyPost_ret (v := .agg (bools polyB)) ?_ rfl ⟨rfl, below_setRow HB.out (Nat.le_refl _) _⟩
   exact results_cell_row rfl _ _ w.heap.size 113 _ (0, 0) _ rfl (setRow_heap _ _ _ _ _ _ H0.out) Try.underlying113 rfl (by rw [info113, bools_size, polyB_length])
end Go.Proofs.Ytenlkobjldhfgaa
