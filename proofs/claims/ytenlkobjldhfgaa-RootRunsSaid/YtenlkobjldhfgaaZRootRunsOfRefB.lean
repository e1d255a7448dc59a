/- The document's sum. -/
import Derived.Test.YtenlkobjldhfgaaZRootRunsPolyRefB
import Derived.RegionTactic
import Derived.BigRegion
import Derived.Deep.RegionLaw
namespace Go.Proofs.Ytenlkobjldhfgaa
open Go.RowKit Go.Proofs.YtenlkobjldhfgaaW.PrintWords
attribute [-simp] Try.isAgg113 Try.typeInfo113 Try.zeroValue113
attribute [local go_sem] zero113 storeCells113 bools_size noes_length polyB_length
def bitsN (l : List Bool) : Nat := l.foldl (fun n b => 2 * n + (if b then 1 else 0)) 0
theorem bitsN_snoc (l : List Bool) (b : Bool) : bitsN (l ++ [b]) = 2 * bitsN l + (if b then 1 else 0) := by simp [bitsN]
theorem bitsN_take (l : List Bool) : ∀ k, bitsN (l.take k) < 2 ^ k
 | 0 => by simp [bitsN]
 | k + 1 => by
  have ih := bitsN_take l k
  by_cases h : k < l.length
  ·rw [List.take_succ_eq_append_getElem h, bitsN_snoc, Nat.pow_succ]
   split <;> omega
  ·rw [List.take_of_length_le (by omega)] at ih ⊢
   rw [Nat.pow_succ]; omega
def onesK (k : Nat) : List Bool := (List.range 32).map fun i => decide (i < k)
theorem onesK_length (k : Nat) : (onesK k).length = 32 := by simp [onesK]
theorem onesK_zero : onesK 0 = noes := by decide
theorem onesK_step : ∀ k, k < 32 → (onesK k).set k true = onesK (k + 1) := by decide
def rstep (r : List Bool) (bit : Bool) : List Bool := (List.range 32).map fun i => ((r.getD (i + 1) false) != ((r.getD 0 false != bit) && polyB.getD i false))
theorem rstep_length (r : List Bool) (bit : Bool) : (rstep r bit).length = 32 := by simp [rstep]
def bitAt (xs : List UInt8) (n : Nat) : Bool := (xs.getD (n / 8) 0).toNat / 2 ^ (7 - n % 8) % 2 == 1
def restAt (xs : List UInt8) : Nat → List Bool
 | 0 => onesK 32
 | n + 1 => rstep (restAt xs n) (bitAt xs n)
theorem restAt_length (xs : List UInt8) (n : Nat) : (restAt xs n).length = 32 := by
 cases n with
 | zero => exact onesK_length 32
 | succ n => exact rstep_length _ _
def shiftB (r : List Bool) : List Bool := r.drop 1 ++ [false]
theorem splice_shift (r : List Bool) (h : r.length = 32) : splice (noes.map Value.bool) 0 ((r.drop 1).map Value.bool) = (shiftB r).map Value.bool := by
 have e : (noes.map Value.bool).drop (0 + ((r.drop 1).map Value.bool).length) = [Value.bool false] := by
  simp only [List.length_map, List.length_drop, h]; rfl
 unfold splice shiftB
 rw [e]; simp
def mixK (s : List Bool) (top : Bool) (j : Nat) : List Bool := (List.range 32).map fun i => if i < j then (s.getD i false != (top && polyB.getD i false)) else s.getD i false
theorem mixK_length (s : List Bool) (top : Bool) (j : Nat) : (mixK s top j).length = 32 := by simp [mixK]
theorem mixK_at (s : List Bool) (top : Bool) (j i : Nat) (h : i < (mixK s top j).length) : (mixK s top j)[i] = if i < j then (s.getD i false != (top && polyB.getD i false)) else s.getD i false := by simp [mixK]
theorem mixK_zero (s : List Bool) (top : Bool) (h : s.length = 32) : mixK s top 0 = s := by
 apply List.ext_getElem
 ·rw [mixK_length, h]
 ·intro i h1 h2
  rw [mixK_at, if_neg (by omega), List.getD_eq_getElem?_getD, List.getElem?_eq_getElem h2]; rfl
theorem mixK_step (s : List Bool) (top : Bool) (j : Nat) : (mixK s top j).set j (s.getD j false != (top && polyB.getD j false)) = mixK s top (j + 1) := by
 apply List.ext_getElem
 ·rw [List.length_set, mixK_length, mixK_length]
 ·intro i h1 h2
  rw [List.getElem_set]
  by_cases hi : j = i
  ·subst hi; rw [if_pos rfl, mixK_at, if_pos (by omega)]
  ·rw [if_neg hi, mixK_at, mixK_at]
   by_cases hij : i < j
   ·rw [if_pos hij, if_pos (by omega)]
   ·rw [if_neg hij, if_neg (by omega)]
theorem mixK_same (s : List Bool) (top : Bool) (j : Nat) (h : (top && polyB.getD j false) = false) : mixK s top (j + 1) = mixK s top j := by
 apply List.ext_getElem
 ·rw [mixK_length, mixK_length]
 ·intro i h1 h2
  rw [mixK_at, mixK_at]
  by_cases hi : j = i
  ·subst hi; rw [if_pos (by omega), if_neg (by omega), h]; cases s.getD j false <;> rfl
  ·by_cases hij : i < j
   ·rw [if_pos hij, if_pos (by omega)]
   ·rw [if_neg hij, if_neg (by omega)]
theorem mixK_all (r : List Bool) (bit : Bool) (h : r.length = 32) : mixK (shiftB r) (r.getD 0 false != bit) 32 = rstep r bit := by
 apply List.ext_getElem
 ·rw [mixK_length, rstep_length]
 ·intro i h1 h2
  have hi : i < 32 := by rw [mixK_length] at h1; exact h1
  rw [mixK_at, if_pos hi]
  have e : (shiftB r).getD i false = r.getD (i + 1) false := by
   unfold shiftB
   rw [List.getD_eq_getElem?_getD, List.getD_eq_getElem?_getD]
   by_cases h31 : i < 31
   ·rw [List.getElem?_append_left (by rw [List.length_drop]; omega), List.getElem?_drop, Nat.add_comm]
   ·have : i = 31 := by omega
    subst this
    rw [List.getElem?_append_right (by rw [List.length_drop]; omega), List.getElem?_eq_none (by omega : r.length ≤ 31 + 1)]
    rw [List.length_drop, h]; rfl
  rw [e]
  simp [rstep]
theorem shiftB_length (r : List Bool) (h : r.length = 32) : (shiftB r).length = 32 := by unfold shiftB; rw [List.length_append, List.length_drop, h]; rfl
set_option maxRecDepth 100000 in
set_option maxHeartbeats 8000000 in
theorem rof_any (A : Option Addr) (c : Nat) (xs : List UInt8) (w : World) (hr : Rd w A xs) (hl : xs.length ≤ 1000000) : Calls Try.prog 51 #[.slice A xs.length c] w fun e w' => e = .returned (.int .u32 (bitsN (restAt xs (8 * xs.length)) : Int)) ∧ Below w.heap.size w w' := by
 have HR := Lib.hid hr
 have hn := hr.2.1
 clear hr
 go_enter Try.func51, Try.ntmps51
 go_wp2
 go_loopw [15] (fun i wr => ∃ k : Nat, k ≤ 32 ∧ i = .int .i64 (k : Int) ∧ wr.heap[w.heap.size]? = some (.cells (bools (onesK k)) 113) ∧ Below w.heap.size w wr) (fun i _ => 32 - (intOf i).toNat)
 case atStart => exact ⟨0, by omega, rfl, by rw [onesK_zero]; exact heap_alloc_new w _, alloc_below _ _⟩
 case round =>
  obtain ⟨k, hk, rfl, h0, hb⟩ := hrel
  have H0 := Lib.hid h0
  have HB := Lib.hid hb
  clear h0 hb
  by_cases hlt : k < 32
  ·obtain ⟨old, c1, c2⟩ : ∃ b, wr.cell? ⟨w.heap.size, k, none⟩ = some (.bool b) ∧ wr.frozen? ⟨w.heap.size, k, none⟩ = false := ⟨_, cell_bools H0.out k (by rw [onesK_length]; omega)⟩
   have HS0 := Lib.hid (heap_bools_set H0.out k true)
   have HS := Lib.hid (onesK_step k hlt)
   go_wp2
   go_roundw
   case rel => exact ⟨k + 1, by omega, by go_num, by rw [← HS.out]; exact HS0.out, HB.out.setCell (p := ⟨w.heap.size, k, none⟩) (Nat.le_refl _) _⟩
   case measure => simp [intOf]; omega
  ·obtain rfl : k = 32 := by omega
   have h0z : w.heap.size < wr.heap.size := by have := (Array.getElem?_eq_some_iff.1 H0.out).1; exact this
   go_wp2_with (go_at_call 62; refine (rpoly_any _).mono ?_; rintro e w2 ⟨rfl, hb⟩; have H2 := Lib.hid ((hb.block _ h0z).trans H0.out); have HB2 := Lib.hid (HB.out.trans (hb.mono HB.out.size)); have hz2 : w.heap.size < w2.heap.size := (Nat.lt_of_lt_of_le h0z hb.size); clear hb)
   have H5 := Lib.hid (heap_alloc_new w2 (.cells (bools polyB) 113))
   have H3 := Lib.hid ((Below.heap_alloc w2 (.cells (bools polyB) 113) _ hz2).trans H2.out)
   have HB3 := Lib.hid (HB2.out.trans ((alloc_below w2 (.cells (bools polyB) 113)).mono HB2.out.size))
   have hz3 : w2.heap.size < (w2.alloc (.cells (bools polyB) 113)).heap.size := by simp
   clear H2 HB2 H0 HB
   generalize hb5 : w2.heap.size = B5 at *
   generalize hw3 : w2.alloc (.cells (bools polyB) 113) = w3 at *
   clear hw3 hb5
   go_loopw [6] (fun i wr => ∃ k : Nat, k ≤ 8 * xs.length ∧ i = .int .i64 (k : Int) ∧ wr.heap[w.heap.size]? = some (.cells (bools (restAt xs k)) 113) ∧ wr.heap[B5]? = some (.cells (bools polyB) 113) ∧ Below w.heap.size w wr) (fun i _ => 8 * xs.length - (intOf i).toNat)
   case atStart => exact ⟨0, by omega, rfl, H3.out, H5.out, HB3.out⟩
   case round =>
    obtain ⟨k, hk, rfl, h0, h5, hb⟩ := hrel
    have G0 := Lib.hid h0
    have G5 := Lib.hid h5
    have GB := Lib.hid hb
    clear h0 h5 hb H3 H5 HB3
    by_cases hlt : k < 8 * xs.length
    ·have hrl := restAt_length xs k
     have HRL := Lib.hid hrl
     clear hrl
     obtain ⟨ad, e, hx⟩ := (HR.out.below GB.out).at (k / 8) (by omega)
     cases e
     obtain ⟨b0, c1, c2⟩ : ∃ b, b = (restAt xs k).getD 0 false ∧ wr.cell? ⟨w.heap.size, 0, none⟩ = some (.bool b) := ⟨_, rfl, by have := (cell_bools G0.out 0 (by rw [HRL.out]; omega)).1; rw [this]; congr 2; rw [List.getD_eq_getElem?_getD, List.getElem?_eq_getElem (by rw [HRL.out]; omega)]; rfl⟩
     have HC1 := Lib.hid c1
     clear c1
     generalize hxx : xs[k / 8] = x at hx
     have hq : k / 8 < xs.length := by omega
     have hm0 : (k : Int) % 8 < 8 := by omega
     have hm1 : 0 ≤ (k : Int) % 8 := by omega
     go_wp2
     have hbit : ((bv x / 2 ^ (7 - k % 8)).tmod 2 == 1) = bitAt xs k := by
      unfold bitAt
      rw [List.getD_eq_getElem?_getD, List.getElem?_eq_getElem hq, hxx]
      unfold bv
      have e1 : ((x.toNat : Int) / (2 : Int) ^ (7 - k % 8)) = ((x.toNat / 2 ^ (7 - k % 8) : Nat) : Int) := by rw [Int.natCast_ediv, Int.natCast_pow]; rfl
      have e2 : ∀ n : Nat, ((n : Nat) : Int).tmod 2 = ((n % 2 : Nat) : Int) := fun _ => rfl
      rw [Option.getD_some, e1, e2, Bool.eq_iff_iff, beq_iff_eq, beq_iff_eq]
      omega
     rw [hbit]
     have HT := Lib.hid (show (!(b0 == bitAt xs k)) = ((restAt xs k).getD 0 false != bitAt xs k) by rw [← HC1.out]; cases b0 <;> cases bitAt xs k <;> rfl)
     generalize (!(b0 == bitAt xs k)) = top at *
     have hg9 : (wr.alloc (.cells (bools noes) 113)).drew.heap[wr.heap.size]? = some (.cells (noes.map Value.bool).toArray 113 (0, 0)) := by rw [← bools_eq]; exact heap_alloc_new wr _
     have hb9 : Below wr.heap.size wr (wr.alloc (.cells (bools noes) 113)).drew := (alloc_below wr _).drew
     have hsz : w.heap.size < wr.heap.size := (Array.getElem?_eq_some_iff.1 G0.out).1
     have hsrc : ∀ j v, (((restAt xs k).drop 1).map Value.bool)[j]? = some v → (wr.alloc (.cells (bools noes) 113)).drew.cell? ((⟨w.heap.size, 1, none⟩ : Addr).add j) = some v := by
      intro j v hv
      have hj : j + 1 < (restAt xs k).length := by
       have := (List.getElem?_eq_some_iff.1 hv).1
       simp at this; omega
      have h1 := (cell_bools G0.out (1 + j) (by omega)).1
      have h2 := (Below.cell hb9 (p := ⟨w.heap.size, 1 + j, none⟩) hsz).trans h1
      rw [Addr.add_mid, h2]
      rw [List.getElem?_map, List.getElem?_drop, List.getElem?_eq_getElem (by omega)] at hv
      simpa using hv
     have HG9 := Lib.hid hg9
     have HB9 := Lib.hid hb9
     have HS9 := Lib.hid hsrc
     clear hg9 hb9 hsrc hbit
     go_region_law (refine step_copy_splice rfl (.tmp 45) (.tmp 46) 50 50 rfl 4 Try.underlying50 (by kernel_rfl) (some ⟨wr.heap.size, 0, none⟩) (some ⟨w.heap.size, 1, none⟩) 32 32 31 31 (by simp [Act.eval, Act.put]) (by simp [Act.eval, Act.put]) wr.heap.size 0 (noes.map Value.bool) 113 HG9.out (((restAt xs k).drop 1).map Value.bool) (by have := HRL.out; simp [this]) (fun _ => ⟨rfl, _, rfl, HS9.out⟩) (by have := HRL.out; simp [this, noes_length]) (by intro v hv; obtain ⟨b, _, rfl⟩ := List.mem_map.1 hv; rfl) wr.heap.size wr HB9.out (Nat.le_refl _) ?_; intro w4 hg4 hb4)
     have hsp : splice (noes.map Value.bool) 0 (((restAt xs k).drop 1).map Value.bool) = (shiftB (restAt xs k)).map Value.bool := splice_shift _ HRL.out
     rw [hsp, ← bools_eq] at hg4
     have K9 := hg4
     have K0 := Lib.hid ((hb4.block _ hsz).trans G0.out)
     have hB5 : B5 < wr.heap.size := (Array.getElem?_eq_some_iff.1 G5.out).1
     have K5 := Lib.hid ((hb4.block _ hB5).trans G5.out)
     have KB := Lib.hid (GB.out.trans (hb4.mono GB.out.size))
     clear hg4 hb4 HG9 HB9 HS9 hsp
     go_wp2
     have HSL := Lib.hid (shiftB_length _ HRL.out)
     have K9' : Hid (w4.heap[wr.heap.size]? = some (.cells (bools (mixK (shiftB (restAt xs k)) top 0)) 113)) := by rw [mixK_zero _ _ HSL.out]; exact Lib.hid K9.out
     have HALL := Lib.hid (mixK_all (restAt xs k) (bitAt xs k) HRL.out)
     rw [← HT.out] at HALL
     clear K9 G0 G5 GB
     have hsw : w.heap.size ≤ wr.heap.size := Nat.le_of_lt hsz
     generalize hgg : wr.heap.size = g at *
     go_loopw [48] (fun i wq => ∃ j : Nat, j ≤ 32 ∧ i = .int .i64 (j : Int) ∧ wq.heap[g]? = some (.cells (bools (mixK (shiftB (restAt xs k)) top j)) 113) ∧ wq.heap[w.heap.size]? = some (.cells (bools (restAt xs k)) 113) ∧ wq.heap[B5]? = some (.cells (bools polyB) 113) ∧ Below w.heap.size w wq) (fun i _ => 32 - (intOf i).toNat)
     case atStart => exact ⟨0, by omega, rfl, K9'.out, K0.out, K5.out, KB.out⟩
     case round =>
      obtain ⟨j, hj, rfl, m9, m0, m5, mb⟩ := hrel
      have M9 := Lib.hid m9
      have M0 := Lib.hid m0
      have M5 := Lib.hid m5
      have MB := Lib.hid mb
      clear m9 m0 m5 mb K9' K0 K5 KB
      by_cases hj2 : j < 32
      ·obtain ⟨pj, hpj, c5⟩ : ∃ b, polyB.getD j false = b ∧ wr.cell? ⟨B5, j, none⟩ = some (.bool b) := ⟨_, rfl, by have := (cell_bools M5.out j (by rw [polyB_length]; omega)).1; rw [this]; congr 2; rw [List.getD_eq_getElem?_getD, List.getElem?_eq_getElem (by rw [polyB_length]; omega)]; rfl⟩
       obtain ⟨sj, hsj, c9, z9⟩ : ∃ b, (shiftB (restAt xs k)).getD j false = b ∧ wr.cell? ⟨g, j, none⟩ = some (.bool b) ∧ wr.frozen? ⟨g, j, none⟩ = false := ⟨_, rfl, by have := (cell_bools M9.out j (by rw [mixK_length]; omega)).1; rw [this, mixK_at, if_neg (by omega)], (cell_bools M9.out j (by rw [mixK_length]; omega)).2⟩
       have HSET := Lib.hid (fun b => heap_bools_set M9.out j b)
       have HST := Lib.hid (mixK_step (shiftB (restAt xs k)) top j)
       have HSM := Lib.hid (mixK_same (shiftB (restAt xs k)) top j)
       rw [hpj, hsj] at HST
       rw [hpj] at HSM
       clear hpj hsj
       cases top
       ·go_wp2
        go_roundw
        case rel => exact ⟨j + 1, by omega, by go_num, by rw [HSM.out rfl]; exact M9.out, M0.out, M5.out, MB.out⟩
        case measure => simp [intOf]; omega
       ·cases pj
        ·go_wp2
         go_roundw
         case rel => exact ⟨j + 1, by omega, by go_num, by rw [HSM.out rfl]; exact M9.out, M0.out, M5.out, MB.out⟩
         case measure => simp [intOf]; omega
        ·go_wp2
         go_roundw
         case rel =>
          refine ⟨j + 1, by omega, by go_num, ?_, ?_, ?_, MB.out.setCell (p := ⟨g, j, none⟩) hsw _⟩
          ·rw [← HST.out]
           have e : (sj != (true && true)) = !sj := by cases sj <;> rfl
           rw [e]; exact HSET.out _
          ·rw [Below.heap_setCell _ _ _ _ (by show w.heap.size ≠ g; omega)]; exact M0.out
          ·rw [Below.heap_setCell _ _ _ _ (by show B5 ≠ g; omega)]; exact M5.out
         case measure => simp [intOf]; omega
      ·obtain rfl : j = 32 := by omega
       have M9b := M9.out
       rw [HALL.out] at M9b
       have HM9 := Lib.hid M9b
       clear M9b M9
       go_wp2_with (first
        | (refine wpList_load_row rfl 113 (.tmp 9) rfl g rfl 113 _ (0, 0) _ HM9.out Try.underlying113 rfl (by rw [info113, bools_size, rstep_length]) ?_)
        | (refine wpList_store_row rfl 113 (.tmp 3) (.tmp 64) rfl w.heap.size (bools (rstep (restAt xs k) (bitAt xs k))) rfl rfl 113 _ M0.out (by rw [info113, bools_size, rstep_length]) (by rw [bools_size, bools_size, rstep_length, HRL.out]) (bools_one _) ?_))
       go_roundw
       case rel =>
        refine ⟨k + 1, by omega, by go_num, setRow_heap _ _ _ _ _ _ M0.out, ?_, below_setRow MB.out (Nat.le_refl _) _⟩
        rw [setRow_other _ _ _ _ (by omega)]; exact M5.out
       case measure => simp [intOf]; omega
    ·obtain rfl : k = 8 * xs.length := by omega
     have hrl := restAt_length xs (8 * xs.length)
     have HRL := Lib.hid hrl
     clear hrl
     generalize hLL : restAt xs (8 * xs.length) = L at *
     have HLL := Lib.hid hLL
     clear hLL
     go_wp2_with (refine wpList_load_row rfl 113 (.tmp 3) rfl w.heap.size rfl 113 _ (0, 0) _ G0.out Try.underlying113 rfl (by rw [info113, bools_size, HRL.out]) ?_)
     go_loop [11, 66] (fun n i => ∃ j : Nat, j ≤ 32 ∧ i = .int .i64 (j : Int) ∧ n = .int .u32 (bitsN (L.take j) : Int)) (fun _ i => 32 - (intOf i).toNat)
     case atStart => exact ⟨0, by omega, rfl, rfl⟩
     case round =>
      obtain ⟨j, hj, rfl, rfl⟩ := hrel
      by_cases hj2 : j < 32
      ·have hb := fun w => index113 w L j HRL.out (by rw [HRL.out]; omega)
       have HN := Lib.hid (show bitsN (L.take (j + 1)) = 2 * bitsN (L.take j) + (if L[j]'(by rw [HRL.out]; omega) then 1 else 0) by rw [List.take_succ_eq_append_getElem (by rw [HRL.out]; omega), bitsN_snoc])
       have hlt32 : bitsN (L.take (j + 1)) < 4294967296 := by
        have h1 := bitsN_take L (j + 1)
        have h2 : 2 ^ (j + 1) ≤ 2 ^ 32 := Nat.pow_le_pow_right (by decide) (by omega)
        omega
       generalize L[j]'(by rw [HRL.out]; omega) = lb at hb HN
       generalize hn0 : bitsN (L.take j) = n0 at *
       generalize hn1 : bitsN (L.take (j + 1)) = n1 at *
       have HL1 := Lib.hid hlt32
       clear hlt32
       cases lb
       ·have e1 : n1 = 2 * n0 := by have := HN.out; simpa using this
        have hn2 : n0 < 2147483648 := by have := HL1.out; omega
        have E1 := Lib.hid e1
        clear e1
        go_wp2
        go_round
        case rel => exact ⟨j + 1, by omega, by go_num, by rw [hn1, E1.out]; congr 1; omega⟩
        case measure => simp [intOf]; omega
       ·have e1 : n1 = 2 * n0 + 1 := by have := HN.out; simpa using this
        have hn2 : n0 < 2147483648 := by have := HL1.out; omega
        have E1 := Lib.hid e1
        clear e1
        go_wp2
        go_round
        case rel => exact ⟨j + 1, by omega, by go_num, by rw [hn1, E1.out]; congr 1; omega⟩
        case measure => simp [intOf]; omega
      ·obtain rfl : j = 32 := by omega
       have hall : L.take 32 = L := List.take_of_length_le (by rw [HRL.out]; exact Nat.le_refl _)
       rw [hall]
       clear hall
       go_wp2
       go_ret
       exact ⟨by rw [HLL.out]; rfl, GB.out⟩
end Go.Proofs.Ytenlkobjldhfgaa
