/- Several texts in one: BoolsB, PolyRefB, OfRefB, RefPlainB, SealRefB, RsR. -/
import Derived.Test.YtiokdpnhaemciaaSealB
import Derived.Laws.IdiomCopy
import Derived.Laws.Rows
import Derived.Laws.Tables
import Derived.Laws.CopyOwn
import Derived.Laws.NewBlocks
import Derived.Deep.MidRow
import Derived.Deep.WholeRow
import Derived.RegionTactic
import Derived.BigRegion
import Derived.Deep.RegionLaw
import Derived.Test.YtiokdpnhaemciaaByW
/- Arrays of 32 bools by value, in boxes. -/
namespace Go.Proofs.Ytiokdpnhaemciaa
open Go.RowKit Go.Proofs.YtiokdpnhaemciaaW.PrintWords

/-- Bools as cells. -/
@[irreducible] def bools (l : List Bool) : Array Value := (l.map Value.bool).toArray
theorem bools_eq (l : List Bool) : bools l = (l.map Value.bool).toArray := by unfold bools; rfl
theorem bools_size (l : List Bool) : (bools l).size = l.length := by rw [bools_eq]; simp
theorem bools_one (l : List Bool) : (bools l).all (·.oneCell') = true := by
  rw [bools_eq, Array.all_eq_true_iff_forall_mem]
  intro x hx
  simp only [List.mem_toArray, List.mem_map] at hx
  obtain ⟨b, _, rfl⟩ := hx
  rfl
theorem bools_get (l : List Bool) (k : Nat) (h : k < l.length) : (bools l)[k]? = some (.bool l[k]) := by rw [bools_eq]; simp [h]
theorem bools_set (l : List Bool) (k : Nat) (b : Bool) : (bools l).setIfInBounds k (.bool b) = bools (l.set k b) := by
  rw [bools_eq, bools_eq, List.map_set]; simp
/-- 32 times no. -/
def noes : List Bool := List.replicate 32 false
theorem noes_length : noes.length = 32 := by unfold noes; simp
theorem info111 : (Try.prog.info? 111).map (·.size) = some 32 := by kernel_rfl
theorem zero111 (w : World) : Sem.run Try.prog (zeroValue 111) w = .ok (.agg (bools noes)) w := by
  rw [bools_eq]; exact Try.zeroValue111 w
/-- Whole arrays out of and into a box. -/
theorem load111 (w : World) (g : Nat) (l : List Bool) (hl : l.length = 32) (hg : w.heap[g]? = some (.cells (bools l) 111)) : (Instr.loadAt 111 (.pointer (some ⟨g, 0, none⟩))).run Try.prog w = .ok (.agg (bools l)) w := by
  simp only [Instr.loadAt, Instr.sureAddr, Sem.run_bind, Sem.run_pure, Result.andThen]
  exact run_loadVar_row w g _ _ _ (0, 0) _ hg Try.underlying111 rfl (by rw [info111, bools_size, hl])
theorem store111 (w : World) (g : Nat) (l m : List Bool) (hl : l.length = 32) (hm : m.length = 32) (hg : w.heap[g]? = some (.cells (bools l) 111)) : (Instr.storeAt 111 (.pointer (some ⟨g, 0, none⟩)) (.agg (bools m))).run Try.prog w = .ok () (w.setRow g (bools m)) := by
  simp only [Instr.storeAt, Instr.sureAddr, Sem.run_bind, Sem.run_pure, Result.andThen]
  exact run_storeVar_row w g _ _ _ _ hg (by rw [info111, bools_size, hm]) (by rw [bools_size, bools_size, hl, hm]) (bools_one m)
theorem store_new111 (w : World) (l m : List Bool) (hl : l.length = 32) (hm : m.length = 32) : (Instr.storeAt 111 (.pointer (some ⟨w.heap.size, 0, none⟩)) (.agg (bools m))).run Try.prog (w.alloc (.cells (bools l) 111)) = .ok () (w.alloc (.cells (bools m) 111)) :=
  run_storeAt_new w _ _ _ (by rw [info111, bools_size, hm]) (by rw [bools_size, bools_size, hl, hm]) (bools_one m)
theorem cell_bools {w : World} {g : Nat} {l : List Bool} (hg : w.heap[g]? = some (.cells (bools l) 111)) (k : Nat) (h : k < l.length) : w.cell? ⟨g, k, none⟩ = some (.bool l[k]) ∧ w.frozen? ⟨g, k, none⟩ = false := by
  constructor
  · rw [cell_of_row w g k _ _ _ hg]; exact bools_get l k h
  · exact frozen_of_row w g k _ _ hg
theorem index111 (w : World) (l : List Bool) (j : Nat) (hl : l.length = 32) (hj : j < l.length) : (Instr.index 111 (.agg (bools l)) (.int .i64 (j : Int))).run Try.prog w = .ok (.bool l[j]) w := by
  have h1 : (0 : Int) ≤ (j : Int) ∧ (j : Int) < ((32 : Nat) : Int) := by omega
  have h2 := bools_get l j hj
  have h3 : j < 32 := by omega
  have h4 : j < (bools l).size := by rw [bools_size]; exact hj
  simp [Instr.index, asIntOf, run_underlying Try.underlying111, part, go_sem, h1, h2, h3]
theorem storeCells111 (w : World) (g : Nat) (l m : List Bool) (hg : w.heap.size = g) (hl : l.length = 32) (hm : m.length = 32) : (storeCells ⟨g, 0, none⟩ (bools m).toList).run Try.prog (w.alloc (.cells (bools l) 111)) = .ok () (w.alloc (.cells (bools m) 111)) := by
  subst hg
  exact run_storeCells_new w 111 _ _ (by rw [info111, bools_size, hm]) (by rw [bools_size, bools_size, hl, hm]) (bools_one m)
end Go.Proofs.Ytiokdpnhaemciaa
/- The document's polynomial. -/
namespace Go.Proofs.Ytiokdpnhaemciaa
open Go.RowKit Go.Proofs.YtiokdpnhaemciaaW.PrintWords
attribute [-simp] Try.isAgg111 Try.typeInfo111 Try.zeroValue111
attribute [local go_sem] zero111 storeCells111 bools_size noes_length

/-- The polynomial's bits, the highest first; the last k of them. -/
def polyB : List Bool := (List.range 32).map fun i => 79764919 / 2 ^ (31 - i) % 2 == 1
def polyK (k : Nat) : List Bool := (List.range 32).map fun i => decide (32 ≤ i + k) && (79764919 / 2 ^ (31 - i) % 2 == 1)
theorem polyB_length : polyB.length = 32 := by simp [polyB]
theorem polyK_length (k : Nat) : (polyK k).length = 32 := by simp [polyK]
theorem polyK_zero : polyK 0 = noes := by decide
theorem polyK_all : polyK 32 = polyB := by decide
theorem polyK_step : ∀ k, k < 32 → (polyK k).set (31 - k) ((79764919 / 2 ^ k % 2 : Nat) == 1) = polyK (k + 1) := by decide
theorem heap_bools_set {w : World} {g : Nat} {l : List Bool} (h : w.heap[g]? = some (.cells (bools l) 111)) (k : Nat) (b : Bool) : (w.setCell ⟨g, k, none⟩ (.bool b)).heap[g]? = some (.cells (bools (l.set k b)) 111) := by
  rw [← bools_set]; exact heap_setCell_same w g k _ _ _ h

set_option maxHeartbeats 4000000 in
theorem rpoly_any (w : World) : Calls Try.prog 64 #[] w fun e w' => e = .returned (.agg (bools polyB)) ∧ Below w.heap.size w w' := by
  go_enter Try.func64, Try.ntmps64
  go_wp2
  go_loopw [2, 3] (fun n i wr => ∃ k : Nat, k ≤ 32 ∧ i = .int .i64 (31 - (k : Int)) ∧ n = .int .u32 ((79764919 / 2 ^ k : Nat) : Int) ∧ wr.heap[w.heap.size]? = some (.cells (bools noes) 111) ∧ wr.heap[w.heap.size + 1]? = some (.cells (bools (polyK k)) 111) ∧ Below w.heap.size w wr) (fun _ i _ => (intOf i + 1).toNat)
  case atStart =>
    refine ⟨0, by omega, rfl, rfl, ?_, ?_, ?_⟩
    · rw [Below.heap_alloc _ _ _ (by simp)]; exact heap_alloc_new w _
    · have := heap_alloc_new (w.alloc (.cells (bools noes) 111)) (.cells (bools noes) 111)
      rw [World.size_alloc] at this
      rw [polyK_zero]; exact this
    · exact ((Below.refl _ w).alloc (Nat.le_refl _) _).alloc (by simp) _
  case round =>
    obtain ⟨k, hk, rfl, rfl, h0, h1, hb⟩ := hrel
    have H0 := Lib.hid h0
    have H1 := Lib.hid h1
    have HB := Lib.hid hb
    clear h0 h1 hb
    by_cases hlt : k < 32
    · obtain ⟨old, c1, c2⟩ : ∃ b, wr.cell? ⟨w.heap.size + 1, 31 - k, none⟩ = some (.bool b) ∧ wr.frozen? ⟨w.heap.size + 1, 31 - k, none⟩ = false := ⟨_, cell_bools H1.out (31 - k) (by rw [polyK_length]; omega)⟩
      have HS0 := Lib.hid (fun b => heap_bools_set H1.out (31 - k) b)
      have HS := Lib.hid (polyK_step k hlt)
      have he : (31 : Int) - (k : Int) = ((31 - k : Nat) : Int) := by omega
      have hj : 31 - k < 32 := by omega
      have HD := Lib.hid (show 79764919 / 2 ^ k / 2 = 79764919 / 2 ^ (k + 1) by rw [Nat.div_div_eq_div_mul, Nat.pow_succ])
      have hn : 79764919 / 2 ^ k ≤ 79764919 := Nat.div_le_self _ _
      rw [he]
      generalize hjj : 31 - k = j at *
      generalize hnn : 79764919 / 2 ^ k = n at *
      go_wp2
      go_roundw
      case rel =>
        have hbit : (((n : Int) % 2 == 1)) = ((n % 2 : Nat) == 1) := by rw [Bool.eq_iff_iff, beq_iff_eq, beq_iff_eq]; omega
        refine ⟨k + 1, by omega, by congr 1; omega, by rw [← HD.out]; rfl, ?_, ?_, HB.out.setCell (p := ⟨w.heap.size + 1, j, none⟩) (by show w.heap.size ≤ w.heap.size + 1; omega) _⟩
        · rw [Below.heap_setCell _ _ _ _ (by show w.heap.size ≠ w.heap.size + 1; omega)]; exact H0.out
        · rw [hbit, ← HS.out]; exact HS0.out _
      case measure => simp [intOf]; try omega
    · obtain rfl : k = 32 := by omega
      have hb1 : wr.heap[w.heap.size + 1]? = some (.cells (bools polyB) 111) := by rw [← polyK_all]; exact H1.out
      have HB1 := Lib.hid hb1
      clear hb1
      go_wp2_with (first
        | (refine wpList_load_row rfl 111 (.tmp 1) rfl (w.heap.size + 1) rfl 111 _ (0, 0) _ HB1.out Try.underlying111 rfl (by rw [info111, bools_size, polyB_length]) ?_)
        | (refine wpList_store_row rfl 111 (.tmp 0) (.tmp 16) rfl w.heap.size (bools polyB) rfl rfl 111 _ H0.out (by rw [info111, bools_size, polyB_length]) (by rw [bools_size, bools_size, polyB_length, noes_length]) (bools_one _) ?_))
      refine bodyPost_ret (v := .agg (bools polyB)) ?_ rfl ⟨rfl, below_setRow HB.out (Nat.le_refl _) _⟩
      exact results_cell_row rfl _ _ w.heap.size 111 _ (0, 0) _ rfl (setRow_heap _ _ _ _ _ _ H0.out) Try.underlying111 rfl (by rw [info111, bools_size, polyB_length])
end Go.Proofs.Ytiokdpnhaemciaa
/- The document's sum. -/
namespace Go.Proofs.Ytiokdpnhaemciaa
open Go.RowKit Go.Proofs.YtiokdpnhaemciaaW.PrintWords
attribute [-simp] Try.isAgg111 Try.typeInfo111 Try.zeroValue111
attribute [local go_sem] zero111 storeCells111 bools_size noes_length polyB_length

/-- Bits as a number, the highest first. -/
def bitsN (l : List Bool) : Nat := l.foldl (fun n b => 2 * n + (if b then 1 else 0)) 0
theorem bitsN_snoc (l : List Bool) (b : Bool) : bitsN (l ++ [b]) = 2 * bitsN l + (if b then 1 else 0) := by simp [bitsN]
theorem bitsN_take (l : List Bool) : ∀ k, bitsN (l.take k) < 2 ^ k
  | 0 => by simp [bitsN]
  | k + 1 => by
    have ih := bitsN_take l k
    by_cases h : k < l.length
    · rw [List.take_succ_eq_append_getElem h, bitsN_snoc, Nat.pow_succ]
      split <;> omega
    · rw [List.take_of_length_le (by omega)] at ih ⊢
      rw [Nat.pow_succ]; omega

/-- Ones, as many as k, ahead of noughts. -/
def onesK (k : Nat) : List Bool := (List.range 32).map fun i => decide (i < k)
theorem onesK_length (k : Nat) : (onesK k).length = 32 := by simp [onesK]
theorem onesK_zero : onesK 0 = noes := by decide
theorem onesK_step : ∀ k, k < 32 → (onesK k).set k true = onesK (k + 1) := by decide

/-- The rest behind a bit. -/
def rstep (r : List Bool) (bit : Bool) : List Bool := (List.range 32).map fun i => ((r.getD (i + 1) false) != ((r.getD 0 false != bit) && polyB.getD i false))
theorem rstep_length (r : List Bool) (bit : Bool) : (rstep r bit).length = 32 := by simp [rstep]
/-- A byte's bit, the highest first. -/
def bitAt (xs : List UInt8) (n : Nat) : Bool := (xs.getD (n / 8) 0).toNat / 2 ^ (7 - n % 8) % 2 == 1
def restAt (xs : List UInt8) : Nat → List Bool
  | 0 => onesK 32
  | n + 1 => rstep (restAt xs n) (bitAt xs n)
theorem restAt_length (xs : List UInt8) (n : Nat) : (restAt xs n).length = 32 := by
  cases n with
  | zero => exact onesK_length 32
  | succ n => exact rstep_length _ _

/-- The rest with its first bit gone, a nought behind. -/
def shiftB (r : List Bool) : List Bool := r.drop 1 ++ [false]
theorem splice_shift (r : List Bool) (h : r.length = 32) : splice (noes.map Value.bool) 0 ((r.drop 1).map Value.bool) = (shiftB r).map Value.bool := by
  have e : (noes.map Value.bool).drop (0 + ((r.drop 1).map Value.bool).length) = [Value.bool false] := by
    simp only [List.length_map, List.length_drop, h]; rfl
  unfold splice shiftB
  rw [e]; simp

/-- The first j of them mixed. -/
def mixK (s : List Bool) (top : Bool) (j : Nat) : List Bool := (List.range 32).map fun i => if i < j then (s.getD i false != (top && polyB.getD i false)) else s.getD i false
theorem mixK_length (s : List Bool) (top : Bool) (j : Nat) : (mixK s top j).length = 32 := by simp [mixK]
theorem mixK_at (s : List Bool) (top : Bool) (j i : Nat) (h : i < (mixK s top j).length) : (mixK s top j)[i] = if i < j then (s.getD i false != (top && polyB.getD i false)) else s.getD i false := by simp [mixK]
theorem mixK_zero (s : List Bool) (top : Bool) (h : s.length = 32) : mixK s top 0 = s := by
  apply List.ext_getElem
  · rw [mixK_length, h]
  · intro i h1 h2
    rw [mixK_at, if_neg (by omega), List.getD_eq_getElem?_getD, List.getElem?_eq_getElem h2]; rfl
theorem mixK_step (s : List Bool) (top : Bool) (j : Nat) : (mixK s top j).set j (s.getD j false != (top && polyB.getD j false)) = mixK s top (j + 1) := by
  apply List.ext_getElem
  · rw [List.length_set, mixK_length, mixK_length]
  · intro i h1 h2
    rw [List.getElem_set]
    by_cases hi : j = i
    · subst hi; rw [if_pos rfl, mixK_at, if_pos (by omega)]
    · rw [if_neg hi, mixK_at, mixK_at]
      by_cases hij : i < j
      · rw [if_pos hij, if_pos (by omega)]
      · rw [if_neg hij, if_neg (by omega)]
theorem mixK_same (s : List Bool) (top : Bool) (j : Nat) (h : (top && polyB.getD j false) = false) : mixK s top (j + 1) = mixK s top j := by
  apply List.ext_getElem
  · rw [mixK_length, mixK_length]
  · intro i h1 h2
    rw [mixK_at, mixK_at]
    by_cases hi : j = i
    · subst hi; rw [if_pos (by omega), if_neg (by omega), h]; cases s.getD j false <;> rfl
    · by_cases hij : i < j
      · rw [if_pos hij, if_pos (by omega)]
      · rw [if_neg hij, if_neg (by omega)]
theorem mixK_all (r : List Bool) (bit : Bool) (h : r.length = 32) : mixK (shiftB r) (r.getD 0 false != bit) 32 = rstep r bit := by
  apply List.ext_getElem
  · rw [mixK_length, rstep_length]
  · intro i h1 h2
    have hi : i < 32 := by rw [mixK_length] at h1; exact h1
    rw [mixK_at, if_pos hi]
    have e : (shiftB r).getD i false = r.getD (i + 1) false := by
      unfold shiftB
      rw [List.getD_eq_getElem?_getD, List.getD_eq_getElem?_getD]
      by_cases h31 : i < 31
      · rw [List.getElem?_append_left (by rw [List.length_drop]; omega), List.getElem?_drop, Nat.add_comm]
      · have : i = 31 := by omega
        subst this
        rw [List.getElem?_append_right (by rw [List.length_drop]; omega), List.getElem?_eq_none (by omega : r.length ≤ 31 + 1)]
        rw [List.length_drop, h]; rfl
    rw [e]
    simp [rstep]
theorem shiftB_length (r : List Bool) (h : r.length = 32) : (shiftB r).length = 32 := by unfold shiftB; rw [List.length_append, List.length_drop, h]; rfl

set_option maxRecDepth 100000 in
set_option maxHeartbeats 8000000 in
theorem rof_any (A : Option Addr) (c : Nat) (xs : List UInt8) (w : World) (hr : Rd w A xs) (hl : xs.length ≤ 1000000) : Calls Try.prog 52 #[.slice A xs.length c] w fun e w' => e = .returned (.int .u32 (bitsN (restAt xs (8 * xs.length)) : Int)) ∧ Below w.heap.size w w' := by
  have HR := Lib.hid hr
  have hn := hr.2.1
  clear hr
  go_enter Try.func52, Try.ntmps52
  go_wp2
  go_loopw [15] (fun i wr => ∃ k : Nat, k ≤ 32 ∧ i = .int .i64 (k : Int) ∧ wr.heap[w.heap.size]? = some (.cells (bools (onesK k)) 111) ∧ Below w.heap.size w wr) (fun i _ => 32 - (intOf i).toNat)
  case atStart => exact ⟨0, by omega, rfl, by rw [onesK_zero]; exact heap_alloc_new w _, alloc_below _ _⟩
  case round =>
    obtain ⟨k, hk, rfl, h0, hb⟩ := hrel
    have H0 := Lib.hid h0
    have HB := Lib.hid hb
    clear h0 hb
    by_cases hlt : k < 32
    · obtain ⟨old, c1, c2⟩ : ∃ b, wr.cell? ⟨w.heap.size, k, none⟩ = some (.bool b) ∧ wr.frozen? ⟨w.heap.size, k, none⟩ = false := ⟨_, cell_bools H0.out k (by rw [onesK_length]; omega)⟩
      have HS0 := Lib.hid (heap_bools_set H0.out k true)
      have HS := Lib.hid (onesK_step k hlt)
      go_wp2
      go_roundw
      case rel => exact ⟨k + 1, by omega, by go_num, by rw [← HS.out]; exact HS0.out, HB.out.setCell (p := ⟨w.heap.size, k, none⟩) (Nat.le_refl _) _⟩
      case measure => simp [intOf]; omega
    · obtain rfl : k = 32 := by omega
      have h0z : w.heap.size < wr.heap.size := by have := (Array.getElem?_eq_some_iff.1 H0.out).1; exact this
      go_wp2_with (go_at_call 64; refine (rpoly_any _).mono ?_; rintro e w2 ⟨rfl, hb⟩; have H2 := Lib.hid ((hb.block _ h0z).trans H0.out); have HB2 := Lib.hid (HB.out.trans (hb.mono HB.out.size)); have hz2 : w.heap.size < w2.heap.size := (Nat.lt_of_lt_of_le h0z hb.size); clear hb)
      have H5 := Lib.hid (heap_alloc_new w2 (.cells (bools polyB) 111))
      have H3 := Lib.hid ((Below.heap_alloc w2 (.cells (bools polyB) 111) _ hz2).trans H2.out)
      have HB3 := Lib.hid (HB2.out.trans ((alloc_below w2 (.cells (bools polyB) 111)).mono HB2.out.size))
      have hz3 : w2.heap.size < (w2.alloc (.cells (bools polyB) 111)).heap.size := by simp
      clear H2 HB2 H0 HB
      generalize hb5 : w2.heap.size = B5 at *
      generalize hw3 : w2.alloc (.cells (bools polyB) 111) = w3 at *
      clear hw3 hb5
      go_loopw [6] (fun i wr => ∃ k : Nat, k ≤ 8 * xs.length ∧ i = .int .i64 (k : Int) ∧ wr.heap[w.heap.size]? = some (.cells (bools (restAt xs k)) 111) ∧ wr.heap[B5]? = some (.cells (bools polyB) 111) ∧ Below w.heap.size w wr) (fun i _ => 8 * xs.length - (intOf i).toNat)
      case atStart => exact ⟨0, by omega, rfl, H3.out, H5.out, HB3.out⟩
      case round =>
        obtain ⟨k, hk, rfl, h0, h5, hb⟩ := hrel
        have G0 := Lib.hid h0
        have G5 := Lib.hid h5
        have GB := Lib.hid hb
        clear h0 h5 hb H3 H5 HB3
        by_cases hlt : k < 8 * xs.length
        · have hrl := restAt_length xs k
          have HRL := Lib.hid hrl
          clear hrl
          obtain ⟨ad, e, hx⟩ := (HR.out.below GB.out).at (k / 8) (by omega)
          cases e
          obtain ⟨b0, c1, c2⟩ : ∃ b, b = (restAt xs k).getD 0 false ∧ wr.cell? ⟨w.heap.size, 0, none⟩ = some (.bool b) := ⟨_, rfl, by have := (cell_bools G0.out 0 (by rw [HRL.out]; omega)).1; rw [this]; congr 2; rw [List.getD_eq_getElem?_getD, List.getElem?_eq_getElem (by rw [HRL.out]; omega)]; rfl⟩
          have HC1 := Lib.hid c1
          clear c1
          generalize hxx : xs[k / 8] = x at hx
          have hq : k / 8 < xs.length := by omega
          have hm0 : (k : Int) % 8 < 8 := by omega
          have hm1 : 0 ≤ (k : Int) % 8 := by omega
          go_wp2
          have hbit : ((bv x / 2 ^ (7 - k % 8)).tmod 2 == 1) = bitAt xs k := by
            unfold bitAt
            rw [List.getD_eq_getElem?_getD, List.getElem?_eq_getElem hq, hxx]
            unfold bv
            have e1 : ((x.toNat : Int) / (2 : Int) ^ (7 - k % 8)) = ((x.toNat / 2 ^ (7 - k % 8) : Nat) : Int) := by rw [Int.natCast_ediv, Int.natCast_pow]; rfl
            have e2 : ∀ n : Nat, ((n : Nat) : Int).tmod 2 = ((n % 2 : Nat) : Int) := fun _ => rfl
            rw [Option.getD_some, e1, e2, Bool.eq_iff_iff, beq_iff_eq, beq_iff_eq]
            omega
          rw [hbit]
          have HT := Lib.hid (show (!(b0 == bitAt xs k)) = ((restAt xs k).getD 0 false != bitAt xs k) by rw [← HC1.out]; cases b0 <;> cases bitAt xs k <;> rfl)
          generalize (!(b0 == bitAt xs k)) = top at *
          have hg9 : (wr.alloc (.cells (bools noes) 111)).drew.heap[wr.heap.size]? = some (.cells (noes.map Value.bool).toArray 111 (0, 0)) := by rw [← bools_eq]; exact heap_alloc_new wr _
          have hb9 : Below wr.heap.size wr (wr.alloc (.cells (bools noes) 111)).drew := (alloc_below wr _).drew
          have hsz : w.heap.size < wr.heap.size := (Array.getElem?_eq_some_iff.1 G0.out).1
          have hsrc : ∀ j v, (((restAt xs k).drop 1).map Value.bool)[j]? = some v → (wr.alloc (.cells (bools noes) 111)).drew.cell? ((⟨w.heap.size, 1, none⟩ : Addr).add j) = some v := by
            intro j v hv
            have hj : j + 1 < (restAt xs k).length := by
              have := (List.getElem?_eq_some_iff.1 hv).1
              simp at this; omega
            have h1 := (cell_bools G0.out (1 + j) (by omega)).1
            have h2 := (Below.cell hb9 (p := ⟨w.heap.size, 1 + j, none⟩) hsz).trans h1
            rw [Addr.add_mid, h2]
            rw [List.getElem?_map, List.getElem?_drop, List.getElem?_eq_getElem (by omega)] at hv
            simpa using hv
          have HG9 := Lib.hid hg9
          have HB9 := Lib.hid hb9
          have HS9 := Lib.hid hsrc
          clear hg9 hb9 hsrc hbit
          go_region_law (refine step_copy_splice rfl (.tmp 45) (.tmp 46) 113 113 rfl 4 Try.underlying113 (by kernel_rfl) (some ⟨wr.heap.size, 0, none⟩) (some ⟨w.heap.size, 1, none⟩) 32 32 31 31 (by simp [Act.eval, Act.put]) (by simp [Act.eval, Act.put]) wr.heap.size 0 (noes.map Value.bool) 111 HG9.out (((restAt xs k).drop 1).map Value.bool) (by have := HRL.out; simp [this]) (fun _ => ⟨rfl, _, rfl, HS9.out⟩) (by have := HRL.out; simp [this, noes_length]) (by intro v hv; obtain ⟨b, _, rfl⟩ := List.mem_map.1 hv; rfl) wr.heap.size wr HB9.out (Nat.le_refl _) ?_; intro w4 hg4 hb4)
          have hsp : splice (noes.map Value.bool) 0 (((restAt xs k).drop 1).map Value.bool) = (shiftB (restAt xs k)).map Value.bool := splice_shift _ HRL.out
          rw [hsp, ← bools_eq] at hg4
          have K9 := hg4
          have K0 := Lib.hid ((hb4.block _ hsz).trans G0.out)
          have hB5 : B5 < wr.heap.size := (Array.getElem?_eq_some_iff.1 G5.out).1
          have K5 := Lib.hid ((hb4.block _ hB5).trans G5.out)
          have KB := Lib.hid (GB.out.trans (hb4.mono GB.out.size))
          clear hg4 hb4 HG9 HB9 HS9 hsp
          go_wp2
          have HSL := Lib.hid (shiftB_length _ HRL.out)
          have K9' : Hid (w4.heap[wr.heap.size]? = some (.cells (bools (mixK (shiftB (restAt xs k)) top 0)) 111)) := by rw [mixK_zero _ _ HSL.out]; exact Lib.hid K9.out
          have HALL := Lib.hid (mixK_all (restAt xs k) (bitAt xs k) HRL.out)
          rw [← HT.out] at HALL
          clear K9 G0 G5 GB
          have hsw : w.heap.size ≤ wr.heap.size := Nat.le_of_lt hsz
          generalize hgg : wr.heap.size = g at *
          go_loopw [48] (fun i wq => ∃ j : Nat, j ≤ 32 ∧ i = .int .i64 (j : Int) ∧ wq.heap[g]? = some (.cells (bools (mixK (shiftB (restAt xs k)) top j)) 111) ∧ wq.heap[w.heap.size]? = some (.cells (bools (restAt xs k)) 111) ∧ wq.heap[B5]? = some (.cells (bools polyB) 111) ∧ Below w.heap.size w wq) (fun i _ => 32 - (intOf i).toNat)
          case atStart => exact ⟨0, by omega, rfl, K9'.out, K0.out, K5.out, KB.out⟩
          case round =>
            obtain ⟨j, hj, rfl, m9, m0, m5, mb⟩ := hrel
            have M9 := Lib.hid m9
            have M0 := Lib.hid m0
            have M5 := Lib.hid m5
            have MB := Lib.hid mb
            clear m9 m0 m5 mb K9' K0 K5 KB
            by_cases hj2 : j < 32
            · obtain ⟨pj, hpj, c5⟩ : ∃ b, polyB.getD j false = b ∧ wr.cell? ⟨B5, j, none⟩ = some (.bool b) := ⟨_, rfl, by have := (cell_bools M5.out j (by rw [polyB_length]; omega)).1; rw [this]; congr 2; rw [List.getD_eq_getElem?_getD, List.getElem?_eq_getElem (by rw [polyB_length]; omega)]; rfl⟩
              obtain ⟨sj, hsj, c9, z9⟩ : ∃ b, (shiftB (restAt xs k)).getD j false = b ∧ wr.cell? ⟨g, j, none⟩ = some (.bool b) ∧ wr.frozen? ⟨g, j, none⟩ = false := ⟨_, rfl, by have := (cell_bools M9.out j (by rw [mixK_length]; omega)).1; rw [this, mixK_at, if_neg (by omega)], (cell_bools M9.out j (by rw [mixK_length]; omega)).2⟩
              have HSET := Lib.hid (fun b => heap_bools_set M9.out j b)
              have HST := Lib.hid (mixK_step (shiftB (restAt xs k)) top j)
              have HSM := Lib.hid (mixK_same (shiftB (restAt xs k)) top j)
              rw [hpj, hsj] at HST
              rw [hpj] at HSM
              clear hpj hsj
              cases top
              · go_wp2
                go_roundw
                case rel => exact ⟨j + 1, by omega, by go_num, by rw [HSM.out rfl]; exact M9.out, M0.out, M5.out, MB.out⟩
                case measure => simp [intOf]; omega
              · cases pj
                · go_wp2
                  go_roundw
                  case rel => exact ⟨j + 1, by omega, by go_num, by rw [HSM.out rfl]; exact M9.out, M0.out, M5.out, MB.out⟩
                  case measure => simp [intOf]; omega
                · go_wp2
                  go_roundw
                  case rel =>
                    refine ⟨j + 1, by omega, by go_num, ?_, ?_, ?_, MB.out.setCell (p := ⟨g, j, none⟩) hsw _⟩
                    · rw [← HST.out]
                      have e : (sj != (true && true)) = !sj := by cases sj <;> rfl
                      rw [e]; exact HSET.out _
                    · rw [Below.heap_setCell _ _ _ _ (by show w.heap.size ≠ g; omega)]; exact M0.out
                    · rw [Below.heap_setCell _ _ _ _ (by show B5 ≠ g; omega)]; exact M5.out
                  case measure => simp [intOf]; omega
            · obtain rfl : j = 32 := by omega
              have M9b := M9.out
              rw [HALL.out] at M9b
              have HM9 := Lib.hid M9b
              clear M9b M9
              go_wp2_with (first
                | (refine wpList_load_row rfl 111 (.tmp 9) rfl g rfl 111 _ (0, 0) _ HM9.out Try.underlying111 rfl (by rw [info111, bools_size, rstep_length]) ?_)
                | (refine wpList_store_row rfl 111 (.tmp 3) (.tmp 64) rfl w.heap.size (bools (rstep (restAt xs k) (bitAt xs k))) rfl rfl 111 _ M0.out (by rw [info111, bools_size, rstep_length]) (by rw [bools_size, bools_size, rstep_length, HRL.out]) (bools_one _) ?_))
              go_roundw
              case rel =>
                refine ⟨k + 1, by omega, by go_num, setRow_heap _ _ _ _ _ _ M0.out, ?_, below_setRow MB.out (Nat.le_refl _) _⟩
                rw [setRow_other _ _ _ _ (by omega)]; exact M5.out
              case measure => simp [intOf]; omega
        · obtain rfl : k = 8 * xs.length := by omega
          have hrl := restAt_length xs (8 * xs.length)
          have HRL := Lib.hid hrl
          clear hrl
          generalize hLL : restAt xs (8 * xs.length) = L at *
          have HLL := Lib.hid hLL
          clear hLL
          go_wp2_with (refine wpList_load_row rfl 111 (.tmp 3) rfl w.heap.size rfl 111 _ (0, 0) _ G0.out Try.underlying111 rfl (by rw [info111, bools_size, HRL.out]) ?_)
          go_loop [11, 66] (fun n i => ∃ j : Nat, j ≤ 32 ∧ i = .int .i64 (j : Int) ∧ n = .int .u32 (bitsN (L.take j) : Int)) (fun _ i => 32 - (intOf i).toNat)
          case atStart => exact ⟨0, by omega, rfl, rfl⟩
          case round =>
            obtain ⟨j, hj, rfl, rfl⟩ := hrel
            by_cases hj2 : j < 32
            · have hb := fun w => index111 w L j HRL.out (by rw [HRL.out]; omega)
              have HN := Lib.hid (show bitsN (L.take (j + 1)) = 2 * bitsN (L.take j) + (if L[j]'(by rw [HRL.out]; omega) then 1 else 0) by rw [List.take_succ_eq_append_getElem (by rw [HRL.out]; omega), bitsN_snoc])
              have hlt32 : bitsN (L.take (j + 1)) < 4294967296 := by
                have h1 := bitsN_take L (j + 1)
                have h2 : 2 ^ (j + 1) ≤ 2 ^ 32 := Nat.pow_le_pow_right (by decide) (by omega)
                omega
              generalize L[j]'(by rw [HRL.out]; omega) = lb at hb HN
              generalize hn0 : bitsN (L.take j) = n0 at *
              generalize hn1 : bitsN (L.take (j + 1)) = n1 at *
              have HL1 := Lib.hid hlt32
              clear hlt32
              cases lb
              · have e1 : n1 = 2 * n0 := by have := HN.out; simpa using this
                have hn2 : n0 < 2147483648 := by have := HL1.out; omega
                have E1 := Lib.hid e1
                clear e1
                go_wp2
                go_round
                case rel => exact ⟨j + 1, by omega, by go_num, by rw [hn1, E1.out]; congr 1; omega⟩
                case measure => simp [intOf]; omega
              · have e1 : n1 = 2 * n0 + 1 := by have := HN.out; simpa using this
                have hn2 : n0 < 2147483648 := by have := HL1.out; omega
                have E1 := Lib.hid e1
                clear e1
                go_wp2
                go_round
                case rel => exact ⟨j + 1, by omega, by go_num, by rw [hn1, E1.out]; congr 1; omega⟩
                case measure => simp [intOf]; omega
            · obtain rfl : j = 32 := by omega
              have hall : L.take 32 = L := List.take_of_length_le (by rw [HRL.out]; exact Nat.le_refl _)
              rw [hall]
              clear hall
              go_wp2
              go_ret
              exact ⟨by rw [HLL.out]; rfl, GB.out⟩
end Go.Proofs.Ytiokdpnhaemciaa
/- The document's sum is the chapter's: plain. -/
namespace Go.Proofs.Ytiokdpnhaemciaa
open Go.RowKit Go.Proofs.YtiokdpnhaemciaaW.PrintWords
open Crc

/-- One bit into a state. -/
def st (s : W) (b : Bool) : W := (s <<< 1) ^^^ (if s.msb ^^ b then P else 0#32)
/-- A state's bits, the highest first. -/
def mB (s : W) : List Bool := (List.range 32).map fun i => s.getLsbD (31 - i)
theorem mB_length (s : W) : (mB s).length = 32 := by simp [mB]
theorem mB_getD (s : W) (i : Nat) (h : i < 32) : (mB s).getD i false = s.getLsbD (31 - i) := by
  rw [List.getD_eq_getElem?_getD, List.getElem?_eq_getElem (by rw [mB_length]; exact h)]
  simp [mB]
theorem poly_bit : ∀ i, i < 32 → P.getLsbD (31 - i) = polyB.getD i false := by decide
theorem mB_st (s : W) (b : Bool) : mB (st s b) = rstep (mB s) b := by
  apply List.ext_getElem
  · rw [mB_length, rstep_length]
  · intro i h1 h2
    have hi : i < 32 := by rw [mB_length] at h1; exact h1
    have e0 : (mB s).getD 0 false = s.msb := by rw [mB_getD _ _ (by omega), BitVec.msb_eq_getLsbD_last]
    have e1 : (mB s).getD (i + 1) false = (s <<< 1).getLsbD (31 - i) := by
      by_cases h31 : i + 1 < 32
      · rw [mB_getD _ _ h31, BitVec.getLsbD_shiftLeft]
        have a1 : 31 - i < 32 := by omega
        have a2 : ¬ (31 - i < 1) := by omega
        have a3 : 31 - i - 1 = 31 - (i + 1) := by omega
        simp [a1, a2, a3]
      · have : i = 31 := by omega
        subst this
        rw [List.getD_eq_getElem?_getD, List.getElem?_eq_none (by rw [mB_length]; omega), BitVec.getLsbD_shiftLeft]
        simp
    have l1 : (mB (st s b))[i] = (st s b).getLsbD (31 - i) := by simp [mB]
    have l2 : (rstep (mB s) b)[i] = (((mB s).getD (i + 1) false) != (((mB s).getD 0 false != b) && polyB.getD i false)) := by simp [rstep]
    refine l1.trans (Eq.trans ?_ l2.symm)
    rw [e0, e1, ← poly_bit i hi]
    unfold st
    rw [BitVec.getLsbD_xor]
    cases s.msb <;> cases b <;> simp
theorem bitsN_mB (s : W) : ∀ j, j ≤ 32 → bitsN ((mB s).take j) = s.toNat / 2 ^ (32 - j)
  | 0, _ => by
    have := s.isLt
    rw [List.take_zero, Nat.div_eq_of_lt (by simpa using this)]; rfl
  | j + 1, h => by
    have ih := bitsN_mB s j (by omega)
    rw [List.take_succ_eq_append_getElem (by rw [mB_length]; omega), bitsN_snoc, ih]
    have e : (mB s)[j]'(by rw [mB_length]; omega) = s.getLsbD (31 - j) := by simp [mB]
    have e2 : s.getLsbD (31 - j) = decide (s.toNat / 2 ^ (31 - j) % 2 = 1) := by
      show s.toNat.testBit (31 - j) = _
      rw [Nat.testBit_eq_decide_div_mod_eq]
    have e3 : s.toNat / 2 ^ (32 - j) = s.toNat / 2 ^ (31 - j) / 2 := by
      rw [Nat.div_div_eq_div_mul, ← Nat.pow_succ]; congr 2; omega
    have e4 : 32 - (j + 1) = 31 - j := by omega
    rw [e, e2, e3, e4]
    generalize s.toNat / 2 ^ (31 - j) = m
    by_cases hm : m % 2 = 1
    · simp [hm]; omega
    · simp [hm]; omega
theorem bitsN_all (s : W) : bitsN (mB s) = s.toNat := by
  have := bitsN_mB s 32 (Nat.le_refl _)
  rw [List.take_of_length_le (by rw [mB_length]; exact Nat.le_refl _)] at this
  simpa using this
theorem st_lin (s : W) (b : Bool) : st s b = bit s ^^^ st 0#32 b := by
  have h0 : st 0#32 b = if b then P else 0#32 := by cases b <;> decide
  rw [h0]
  unfold st bit
  rw [ite_xor, BitVec.xor_assoc]
theorem fold_st (bs : List Bool) : ∀ s : W, bs.foldl st s = bitN bs.length s ^^^ bs.foldl st 0#32 := by
  induction bs with
  | nil => intro s; simp [bitN]
  | cons b bs ih =>
    intro s
    rw [List.foldl_cons, List.foldl_cons, ih (st s b), ih (st 0#32 b), st_lin s b]
    have hb : ∀ (k : Nat) (x y : W), bitN k (x ^^^ y) = bitN k x ^^^ bitN k y := by
      intro k
      induction k with
      | zero => intro x y; rfl
      | succ k ihk => intro x y; show bit (bitN k (x ^^^ y)) = _; rw [ihk, bit_xor]; rfl
    have hs : ∀ (k : Nat) (x : W), bitN k (bit x) = bitN (k + 1) x := by
      intro k
      induction k with
      | zero => intro x; rfl
      | succ k ihk => intro x; show bit (bitN k (bit x)) = _; rw [ihk]; rfl
    rw [hb, hs, List.length_cons, BitVec.xor_assoc]
/-- A byte's bits, the highest first. -/
def byteB (c : UInt8) : List Bool := (List.range 8).map fun i => c.toNat / 2 ^ (7 - i) % 2 == 1
theorem byte_zero : ∀ c : BitVec 8, ((List.range 8).map fun i => c.toNat / 2 ^ (7 - i) % 2 == 1).foldl st 0#32 = bits8 (up c) := by decide +kernel
theorem fold_byte (s : W) (c : UInt8) : (byteB c).foldl st s = Crc.step s c.toBitVec := by
  rw [fold_st]
  have h1 := byte_zero c.toBitVec
  have h2 : (byteB c).length = 8 := by simp [byteB]
  rw [h2]
  show bitN 8 s ^^^ ((List.range 8).map fun i => c.toBitVec.toNat / 2 ^ (7 - i) % 2 == 1).foldl st 0#32 = _
  rw [h1, bitN8, ← bits8_xor]
  rfl
theorem restAt_byte (xs : List UInt8) (n : Nat) (s : W) (h : restAt xs (8 * n) = mB s) : restAt xs (8 * (n + 1)) = mB ((byteB (xs.getD n 0)).foldl st s) := by
  have hb : ∀ i, i < 8 → bitAt xs (8 * n + i) = ((xs.getD n 0).toNat / 2 ^ (7 - i) % 2 == 1) := by
    intro i hi
    unfold bitAt
    have a1 : (8 * n + i) / 8 = n := by omega
    have a2 : (8 * n + i) % 8 = i := by omega
    rw [a1, a2]
  have hs : ∀ i, i ≤ 8 → restAt xs (8 * n + i) = mB (((byteB (xs.getD n 0)).take i).foldl st s) := by
    intro i
    induction i with
    | zero => intro _; exact h
    | succ i ih =>
      intro hi
      have hbl : i < (byteB (xs.getD n 0)).length := by simp [byteB]; omega
      show rstep (restAt xs (8 * n + i)) (bitAt xs (8 * n + i)) = _
      rw [ih (by omega), hb i (by omega), ← mB_st, List.take_succ_eq_append_getElem hbl, List.foldl_append]
      have e : (byteB (xs.getD n 0))[i] = ((xs.getD n 0).toNat / 2 ^ (7 - i) % 2 == 1) := by simp [byteB]
      rw [e]; rfl
  have := hs 8 (Nat.le_refl _)
  rw [List.take_of_length_le (by simp [byteB])] at this
  exact this
theorem sumB_one (s : W) (c : UInt8) : sumB s [c] = Crc.step s c.toBitVec := by unfold sumB; rw [List.foldl_cons, List.foldl_nil]
theorem restAt_sum (xs : List UInt8) : ∀ n, n ≤ xs.length → restAt xs (8 * n) = mB (sumB init (xs.take n))
  | 0, _ => by
    show onesK 32 = _
    rw [List.take_zero]
    decide
  | n + 1, h => by
    have e : xs.getD n 0 = xs[n] := by rw [List.getD_eq_getElem?_getD, List.getElem?_eq_getElem (by omega)]; rfl
    rw [restAt_byte xs n _ (restAt_sum xs n (by omega)), fold_byte, List.take_succ_eq_append_getElem (by omega), sumB_append, sumB_one, e]
theorem rof_r (A : Option Addr) (c : Nat) (xs : List UInt8) (w : World) (hr : Rd w A xs) (hl : xs.length ≤ 1000000) : Calls Try.prog 52 #[.slice A xs.length c] w fun e w' => e = .returned (.int .u32 (u (sumB init xs))) ∧ Below w.heap.size w w' := by
  refine (rof_any A c xs w hr hl).mono ?_
  rintro e w' ⟨rfl, hb⟩
  refine ⟨?_, hb⟩
  rw [restAt_sum xs xs.length (Nat.le_refl _), List.take_of_length_le (Nat.le_refl _), bitsN_all]
  rfl
theorem rof_n (A : Option Addr) (n c : Nat) (xs : List UInt8) (w : World) (hn : n = xs.length) (hr : Sl w A c xs) (hl : xs.length ≤ 1000000) : Calls Try.prog 52 #[.slice A n c] w fun e w' => e = .returned (.int .u32 (u (sumB init xs))) ∧ Below w.heap.size w w' := by
  subst hn
  refine (rof_any A c xs w hr.rd hl).mono ?_
  rintro e w' ⟨rfl, hb⟩
  refine ⟨?_, hb⟩
  rw [restAt_sum xs xs.length (Nat.le_refl _), List.take_of_length_le (Nat.le_refl _), bitsN_all]
  rfl
end Go.Proofs.Ytiokdpnhaemciaa
/- The document's Seal. -/
namespace Go.Proofs.Ytiokdpnhaemciaa
open Go.RowKit Go.Proofs.YtiokdpnhaemciaaW.PrintWords
open Crc

set_option maxHeartbeats 4000000 in
theorem rseal_r (A : Option Addr) (c : Nat) (xs : List UInt8) (w : World) (hr : Rd w A xs) (hl : xs.length ≤ 1000000) :
    Calls Try.prog 33 #[.slice A xs.length c] w fun e w' => ∃ v, e = .returned v ∧ Own w' w.heap.size v (sealB xs) ∧ Below w.heap.size w w' := by
  have HR := Lib.hid hr
  have u0 := u_lo (sumB init xs)
  have u1 := u_hi (sumB init xs)
  clear hr
  go_enter Try.func33, Try.ntmps33
  go_wp2_with (first
    | (go_at_call 52; refine (rof_r A c xs _ HR.out hl).mono ?_; rintro e w1 ⟨rfl, hb⟩; have HB1 := Lib.hid hb; have HR1 := Lib.hid (HR.out.below hb); clear hb)
    | (at_builtin; refine own_append w1.heap.size rfl (.tmp 7) (.tmp 8) rfl _ _ xs _ _ _ (Own.empty w1) (HR1.out.below (alloc_below _ _)) rfl rfl rfl (by simp) (by simp; omega) ?_; intro v w2 HO HG _; have HO2 := Lib.hid HO; have hbb := slots (alloc_below w1 (.cells #[] 5)) _ HG (Own.base (Own.empty w1)); have HB2 := Lib.hid (below_step HB1.out hbb); have HZ2 := Lib.hid hbb.size; clear HO HG hbb)
    | (at_builtin; refine own_append w1.heap.size rfl (.tmp 10) (.tmp 25) rfl _ _ (tailB (sumB init xs)) _ _ 4 (HO2.out.below (alloc_below _ _)) (Sl.lit w2 (tailB (sumB init xs)) _ (0, 0) (by simp only [tailB, List.map_cons, List.map_nil, cut24, cut16, cut8, cut0]) (by rw [tailB_length]; decide) 4 rfl).rd rfl rfl rfl (by have := HZ2.out; simp <;> omega) (by rw [tailB_length]; simp <;> omega) ?_; intro v3 w3 HO HG _; have HO3 := Lib.hid HO; have HB3 := Lib.hid ((HB2.out.alloc HB2.out.size _).grown HG (by have := HB2.out.size; simp <;> omega) (fun k e => by have := HO2.out.base k e; have := HB1.out.size; omega)); have HG3 := Lib.hid HG; clear HO HG))
  go_ret
  exact ⟨_, rfl, by have := HO3.out.lower HB1.out.size; rwa [List.nil_append] at this, HB3.out⟩
end Go.Proofs.Ytiokdpnhaemciaa
/- The document's Seal over a row. -/
set_option linter.unusedVariables false
namespace Go.Proofs.Ytiokdpnhaemciaa
open Go.RowKit Go.Proofs.YtiokdpnhaemciaaW.PrintWords Go.Proofs.YtiokdpnhaemciaaW.PrintLast Crc
section
variable {w0 W : World} {F : Nat → Prop} {L : List Res}
theorem rsealR_any {hE : kByte.E = []} {e : Nat} {v : Value} {xs : List UInt8} (HS : St w0 F W (row kByte hE e v xs :: L)) (m : Nat) (hm : (sealB xs).length = m) (hl : m ≤ 1000000) :
    Calls Try.prog 33 #[v] W fun e' w' => ∃ A c, e' = .returned (.slice A m c) ∧ St w0 F w' (row kByte rfl 5 (.slice A m c) (sealB xs) :: row kByte hE e v xs :: L) := by
  obtain ⟨A, c, rfl, hc, hr⟩ := row_reads (HS.get (.head _))
  have h1 := sealB_length xs
  refine (rseal_r A c xs W hr (by omega)).mono ?_
  rintro e w' ⟨v, rfl, ho, hb⟩
  obtain ⟨A', c', rfl, _⟩ := ho.reads
  rw [hm] at ho ⊢
  exact ⟨A', c', rfl, HS.made hb ho⟩
end
end Go.Proofs.Ytiokdpnhaemciaa
