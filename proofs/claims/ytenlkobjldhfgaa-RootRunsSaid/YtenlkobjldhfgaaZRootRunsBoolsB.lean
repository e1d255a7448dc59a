/- Arrays of 32 bools by value, in boxes. -/
import Derived.Test.YtenlkobjldhfgaaZRootRunsCrcS
import Derived.Laws.IdiomCopy
import Derived.Laws.Rows
import Derived.Laws.Tables
import Derived.Laws.CopyOwn
import Derived.Laws.NewBlocks
import Derived.Deep.MidRow
import Derived.Deep.WholeRow
namespace Go.Proofs.Ytenlkobjldhfgaa
open Go.RowKit Go.Proofs.YtenlkobjldhfgaaW.PrintWords
@[irreducible] def bools (l : List Bool) : Array Value := (l.map Value.bool).toArray
theorem bools_eq (l : List Bool) : bools l = (l.map Value.bool).toArray := by unfold bools; rfl
theorem bools_size (l : List Bool) : (bools l).size = l.length := by rw [bools_eq]; simp
theorem bools_one (l : List Bool) : (bools l).all (·.oneCell') = true := by
 rw [bools_eq, Array.all_eq_true_iff_forall_mem]
 intro x hx
 simp only [List.mem_toArray, List.mem_map] at hx
 obtain ⟨b, _, rfl⟩ := hx
 rfl
theorem bools_get (l : List Bool) (k : Nat) (h : k < l.length) : (bools l)[k]? = some (.bool l[k]) := by rw [bools_eq]; simp [h]
theorem bools_set (l : List Bool) (k : Nat) (b : Bool) : (bools l).setIfInBounds k (.bool b) = bools (l.set k b) := by
 rw [bools_eq, bools_eq, List.map_set]; simp
def noes : List Bool := List.replicate 32 false
theorem noes_length : noes.length = 32 := by unfold noes; simp
theorem info113 : (Try.prog.info? 113).map (·.size) = some 32 := by kernel_rfl
theorem zero113 (w : World) : Sem.run Try.prog (zeroValue 113) w = .ok (.agg (bools noes)) w := by
 rw [bools_eq]; exact Try.zeroValue113 w
theorem cell_bools {w : World} {g : Nat} {l : List Bool} (hg : w.heap[g]? = some (.cells (bools l) 113)) (k : Nat) (h : k < l.length) : w.cell? ⟨g, k, none⟩ = some (.bool l[k]) ∧ w.frozen? ⟨g, k, none⟩ = false := by
 constructor
 ·rw [cell_of_row w g k _ _ _ hg]; exact bools_get l k h
 ·exact frozen_of_row w g k _ _ hg
theorem index113 (w : World) (l : List Bool) (j : Nat) (hl : l.length = 32) (hj : j < l.length) : (Instr.index 113 (.agg (bools l)) (.int .i64 (j : Int))).run Try.prog w = .ok (.bool l[j]) w := by
 have h1 : (0 : Int) ≤ (j : Int) ∧ (j : Int) < ((32 : Nat) : Int) := by omega
 have h2 := bools_get l j hj
 have h3 : j < 32 := by omega
 have h4 : j < (bools l).size := by rw [bools_size]; exact hj
 simp [Instr.index, asIntOf, run_underlying Try.underlying113, part, go_sem, h1, h2, h3]
theorem storeCells113 (w : World) (g : Nat) (l m : List Bool) (hg : w.heap.size = g) (hl : l.length = 32) (hm : m.length = 32) : (storeCells ⟨g, 0, none⟩ (bools m).toList).run Try.prog (w.alloc (.cells (bools l) 113)) = .ok () (w.alloc (.cells (bools m) 113)) := by
 subst hg
 exact run_storeCells_new w 113 _ _ (by rw [info113, bools_size, hm]) (by rw [bools_size, bools_size, hl, hm]) (bools_one m)
end Go.Proofs.Ytenlkobjldhfgaa
