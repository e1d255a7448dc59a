/- Num: the next number. -/
import Derived.Test.YtenlkobjldhfgaaZRootRunsBackward
namespace Go.Proofs.Ytenlkobjldhfgaa
open Go.RowKit Go.Shelf Go.Proofs.YtenlkobjldhfgaaW.PrintWords
attribute [local go_sem] Oper.semAt_some
def numStep (n : Int) (x : Int × UInt8) : Int := bits .or .u64 (IntKind.u64.wrap (n * 256)) (IntKind.u64.wrap (bv x.2))
def numOf (l : List (Int × UInt8)) : Int := l.foldl numStep 0
theorem numOf_snoc (l : List (Int × UInt8)) (x : Int × UInt8) : numOf (l ++ [x]) = numStep (numOf l) x := by simp [numOf]
def numB (xs : List UInt8) : Int := numOf (upto (backAt xs) xs.length)
theorem num_keep {w1 : World} {A : Option Addr} {d m : Nat} {xs : List UInt8} (hs : Sl w1 A d xs) (hf : 0 < xs.length → ∀ a, A = some a → m + 1 ≤ a.block) (hm : m + 1 ≤ w1.heap.size) :
  ∀ W, But (w1.heap.size + 1) m (w1.alloc (.cells #[.slice A xs.length d] 24)) W → W.cell? ⟨w1.heap.size, 0, none⟩ = some (.slice A xs.length d) ∧ Rd W A xs := by
 intro W hW
 have h2 : (W.heap[w1.heap.size]?) = some (.cells #[.slice A xs.length d] 24) := (hW.block _ (by omega) (by omega)).trans (heap_alloc_new w1 _)
 refine ⟨by simp [World.cell?, h2], ((hs.below (alloc_below w1 (.cells #[.slice A xs.length d] 24))).same fun h0 a e k => ?_).rd⟩
 have h3 := hf h0 a e
 obtain ⟨ad, e2, hc⟩ := hs.rd.at 0 h0
 rw [e] at e2
 injection e2 with e2
 subst e2
 have h4 := World.block_lt_of_cell? _ _ hc
 rw [addr_block] at h4
 exact World.cell?_of_block (hW.block _ (by rw [addr_block]; omega) (by rw [addr_block]; omega))
theorem num_fin {w w1 W : World} {base R D m : Nat} {xs : List UInt8} {f : Bool} {o o' : Obj} (hR : RdrX w1 base R xs f) (hRm : R < m) (hm : m + 1 ≤ w1.heap.size) (hw : w.heap.size = m) (hg : w.grownBy w1 (some R))
  (hB : But (w1.heap.size + 1) m (w1.alloc o) W) (hD : w1.heap.size + 1 ≤ D) : RdrX (W.putObj D o') base R xs f ∧ w.grownBy (W.putObj D o') (some R) := by
 have h1 : But (w1.heap.size + 1) m (w1.alloc o) (W.putObj D o') := hB.trans (But.putObj W D o' (by have := hB.size; simp at this; omega) hD)
 obtain ⟨A, c, h⟩ := hR
 refine ⟨⟨A, c, h.kept fun k _ hk => (h1.block k (by omega) (by omega)).trans (Below.heap_alloc _ _ _ (by omega))⟩, ?_⟩
 refine ⟨h1.os.trans hg.os, h1.tape.trans hg.tape, h1.output.trans hg.output, by have := h1.size; have := hg.size; simp at *; omega, fun k hk hne => ?_⟩
 exact (h1.block k (by omega) (by omega)).trans ((Below.heap_alloc _ _ _ (by omega)).trans (hg.block k hk hne))
set_option maxRecDepth 100000 in
set_option maxHeartbeats 4000000 in
theorem num_any (base R : Nat) (xs : List UInt8) (f : Bool) (A : Option Addr) (c : Nat) (width : Int) (w : World) (hr : Rdr w base R xs f A c) (hl : xs.length ≤ 140737488355000) :
  Calls Try.prog 55 #[.pointer (some ⟨R, 0, none⟩), .int .i64 width] w fun e w' => e = .returned (.int .u64 (numB (takeOut xs (f || !wideB width) width))) ∧ RdrX w' base R (takeRest xs (f || !wideB width) width) (takeBad xs (f || !wideB width) width) ∧ w.grownBy w' (some R) := by
 refine (callsIn_wide (n := 3)).1 ?_
 refine callsIn_of_wp_marks Try.func55 rfl trivial ?_ rfl
 simp only [Try.ntmps55, List.size_toArray, List.length_cons, List.length_nil, Nat.reduceAdd, Nat.reduceSub, Array.replicate_succ, Array.replicate_zero, List.push_toArray, List.append_toArray, List.nil_append, List.cons_append]
 have h1 := hr.c1
 have z1 := hr.f1
 have hlt := hr.lt
 have HR := Lib.hid hr
 clear hr
 by_cases hw : wideB width = true
 ·rw [hw, Bool.not_true, Bool.or_false]
  gi_wp2_with (first
   | (refine ⟨trivial, ?_⟩; gi_at_call 56; refine (callsIn_wide.2 (right_any _ _)).mono ?_; rintro e w' ⟨rfl, rfl⟩)
   | (refine ⟨trivial, ?_⟩; gi_at_call 64; refine (callsIn_wide.2 (take_any base R xs f A c width _ (HR.out.below (alloc_below _ _)) hl)).mono ?_; rintro e w1 ⟨B, d, rfl, hs, hfr, hR2, hg⟩; have HG := Lib.hid hg; have HS := Lib.hid hs; have HR2 := Lib.hid hR2; clear hg hs hR2)
   | (refine ⟨trivial, ?_⟩; gi_at_call 63; refine (backward_in _ _ _ _ _).mono ?_; rintro e w2 ⟨rfl, rfl⟩))
  have hsz : w.heap.size + 1 ≤ w1.heap.size := by have := HG.out.size; simpa using this
  have hG2 : w.grownBy w1 (some R) := (World.grownBy_alloc w _ _).trans HG.out
  have hbox : w1.cell? ⟨w.heap.size, 0, none⟩ = some (.int .u64 0) ∧ w1.frozen? ⟨w.heap.size, 0, none⟩ = false := by
   have bS := Boxed.new w 25 (.int .u64 0)
   exact ⟨(HG.out.cell_far _ (by simp) (by simp; omega)).trans bS.cell, (HG.out.frozen_far _ (by simp) (by simp; omega)).trans bS.frozen⟩
  have hbox2 : (w1.alloc (.cells #[.slice B (takeOut xs f width).length d] 24)).cell? ⟨w.heap.size, 0, none⟩ = some (.int .u64 0) ∧ (w1.alloc (.cells #[.slice B (takeOut xs f width).length d] 24)).frozen? ⟨w.heap.size, 0, none⟩ = false :=
   ⟨(Below.cell (alloc_below w1 _) (p := ⟨w.heap.size, 0, none⟩) (by show w.heap.size < _; omega)).trans hbox.1, ((World.grownBy_alloc w1 _ none).frozen_far ⟨w.heap.size, 0, none⟩ (by show w.heap.size < _; omega) (by simp)).trans hbox.2⟩
  refine wpIn_rangeFunc_ownG rfl (by decide) (gf := 68) (lb := #[.pointer (some ⟨w1.heap.size, 0, none⟩)]) rfl trivial (enters_of Try.func68 (by kernel_rfl) rfl)
   (backward_stops _ (by decide) w1.heap.size w.heap.size B d (takeOut xs f width) (w1.alloc (.cells #[.slice B (takeOut xs f width).length d] 24)) HS.out.small (by rw [World.size_alloc]; exact num_keep HS.out (by simpa using hfr) hsz)) (fun h k => h.trans k) (fun W l o o' hl hk _ _ => But.putObj W l o' (by have := (Array.getElem?_eq_some_iff.1 hk).1; omega) hl) (Below.refl _ _) (fun _ => rfl)
   (fun pre W => (W.cell? ⟨w.heap.size, 0, none⟩ = some (.int .u64 (numOf pre)) ∧ W.frozen? ⟨w.heap.size, 0, none⟩ = false) ∧ But (w1.alloc (.cells #[.slice B (takeOut xs f width).length d] 24)).heap.size w.heap.size (w1.alloc (.cells #[.slice B (takeOut xs f width).length d] 24)) W)
   (fun _ _ _ => False)
   (OwnFrom.and (Own.from (fun s A B row hs hg hr => ⟨cell_kept hs.1 hg hr, (frozen_kept hs.1 hg hr).trans hs.2⟩) _) (ownFrom_but (Nat.le_refl _)))
   (fun _ _ _ _ _ hs _ _ => hs)
   ⟨hbox2, But.refl _ _ _⟩
   (fun x => { tmps := #[.pointer (some ⟨R, 0, none⟩), .int .i64 width, undef, undef, .int .u64 0, .pointer (some ⟨w.heap.size, 0, none⟩), undef, .int .u8 (bv x.2), .int .i64 width, .bool true, .bool false, undef, undef, undef, .pointer (some ⟨R, 0, none⟩), .int .i64 width, .slice B (takeOut xs f width).length d, .func (.func 68) #[] #[.pointer (some ⟨w1.heap.size, 0, none⟩)], .int .i64 x.1, .int .u8 (bv x.2), undef, undef, undef, undef, undef, undef], defers := [] }) ?assign ?body ?done ?stop
  case assign =>
   intro l x W K hK
   unfold encBack
   gi_wp2
   exact hK
  case body =>
   rintro l pre x W ⟨⟨hc, hf⟩, hB⟩ _
   gi_wp2
   exact ⟨(KeepsOthers.setCell _ _ _).from _, But.setCell _ _ 0 _ _, ⟨by rw [numOf_snoc]; exact World.cell?_setCell_same' _ _ _ (by rw [hc]; rfl), by rw [World.frozen?_setCell]; exact hf⟩, hB.trans (But.setCell _ _ 0 _ _)⟩
  case done =>
   rintro D ys W hD rfl ⟨⟨hc, _⟩, hB⟩ hK
   gi_wp2
   refine ⟨by simp, .inl ⟨_, _, rfl, run_takeDeferred hK, ?_⟩⟩
   exact ⟨_, results_tmp rfl _ _ _, rfl, num_fin HR2.out hlt hsz rfl hG2 (by rw [World.size_alloc] at hB; exact hB) (by rw [World.size_alloc] at hD; exact hD)⟩
  case stop =>
   rintro D c pre W _ _ h _
   exact h.elim
 ·have hw2 : wideB width = false := by simpa using hw
  clear hw
  rw [hw2, Bool.not_false, Bool.or_true]
  gi_wp2_with (first
   | (refine ⟨trivial, ?_⟩; gi_at_call 56; refine (callsIn_wide.2 (right_any _ _)).mono ?_; rintro e w' ⟨rfl, rfl⟩)
   | (refine ⟨trivial, ?_⟩; gi_at_call 64; refine (callsIn_wide.2 (take_any base R xs true A c width _ ((HR.out.set1 true).below (alloc_below _ _)) hl)).mono ?_; rintro e w1 ⟨B, d, rfl, hs, hfr, hR2, hg⟩; have HG := Lib.hid hg; have HS := Lib.hid hs; have HR2 := Lib.hid hR2; clear hg hs hR2)
   | (refine ⟨trivial, ?_⟩; gi_at_call 63; refine (backward_in _ _ _ _ _).mono ?_; rintro e w2 ⟨rfl, rfl⟩))
  have hsz : w.heap.size + 1 ≤ w1.heap.size := by have := HG.out.size; simpa using this
  have hG2 : w.grownBy w1 (some R) := ((grown_setCell (grown_of_below (Below.refl _ w) _) 1 (.bool true)).trans (World.grownBy_alloc _ _ _)).trans HG.out
  have hbox : w1.cell? ⟨w.heap.size, 0, none⟩ = some (.int .u64 0) ∧ w1.frozen? ⟨w.heap.size, 0, none⟩ = false := by
   have bS := Boxed.new (w.setCell ⟨R, 1, none⟩ (.bool true)) 25 (.int .u64 0)
   rw [World.size_setCell] at bS
   exact ⟨(HG.out.cell_far _ (by simp) (by simp; omega)).trans bS.cell, (HG.out.frozen_far _ (by simp) (by simp; omega)).trans bS.frozen⟩
  have hbox2 : (w1.alloc (.cells #[.slice B (takeOut xs true width).length d] 24)).cell? ⟨w.heap.size, 0, none⟩ = some (.int .u64 0) ∧ (w1.alloc (.cells #[.slice B (takeOut xs true width).length d] 24)).frozen? ⟨w.heap.size, 0, none⟩ = false :=
   ⟨(Below.cell (alloc_below w1 _) (p := ⟨w.heap.size, 0, none⟩) (by show w.heap.size < _; omega)).trans hbox.1, ((World.grownBy_alloc w1 _ none).frozen_far ⟨w.heap.size, 0, none⟩ (by show w.heap.size < _; omega) (by simp)).trans hbox.2⟩
  refine wpIn_rangeFunc_ownG rfl (by decide) (gf := 68) (lb := #[.pointer (some ⟨w1.heap.size, 0, none⟩)]) rfl trivial (enters_of Try.func68 (by kernel_rfl) rfl)
   (backward_stops _ (by decide) w1.heap.size w.heap.size B d (takeOut xs true width) (w1.alloc (.cells #[.slice B (takeOut xs true width).length d] 24)) HS.out.small (by rw [World.size_alloc]; exact num_keep HS.out (by simpa using hfr) hsz)) (fun h k => h.trans k) (fun W l o o' hl hk _ _ => But.putObj W l o' (by have := (Array.getElem?_eq_some_iff.1 hk).1; omega) hl) (Below.refl _ _) (fun _ => rfl)
   (fun pre W => (W.cell? ⟨w.heap.size, 0, none⟩ = some (.int .u64 (numOf pre)) ∧ W.frozen? ⟨w.heap.size, 0, none⟩ = false) ∧ But (w1.alloc (.cells #[.slice B (takeOut xs true width).length d] 24)).heap.size w.heap.size (w1.alloc (.cells #[.slice B (takeOut xs true width).length d] 24)) W)
   (fun _ _ _ => False)
   (OwnFrom.and (Own.from (fun s A B row hs hg hr => ⟨cell_kept hs.1 hg hr, (frozen_kept hs.1 hg hr).trans hs.2⟩) _) (ownFrom_but (Nat.le_refl _)))
   (fun _ _ _ _ _ hs _ _ => hs)
   ⟨hbox2, But.refl _ _ _⟩
   (fun x => { tmps := #[.pointer (some ⟨R, 0, none⟩), .int .i64 width, undef, undef, .int .u64 0, .pointer (some ⟨w.heap.size, 0, none⟩), undef, .int .u8 (bv x.2), .int .i64 width, .bool false, .bool true, .pointer (some ⟨R, 0, none⟩), .pointer (some ⟨R, 0, none⟩), .pointer (some ⟨R, 1, none⟩), .pointer (some ⟨R, 0, none⟩), .int .i64 width, .slice B (takeOut xs true width).length d, .func (.func 68) #[] #[.pointer (some ⟨w1.heap.size, 0, none⟩)], .int .i64 x.1, .int .u8 (bv x.2), undef, undef, undef, undef, undef, undef], defers := [] }) ?assign ?body ?done ?stop
  case assign =>
   intro l x W K hK
   unfold encBack
   gi_wp2
   exact hK
  case body =>
   rintro l pre x W ⟨⟨hc, hf⟩, hB⟩ _
   gi_wp2
   exact ⟨(KeepsOthers.setCell _ _ _).from _, But.setCell _ _ 0 _ _, ⟨by rw [numOf_snoc]; exact World.cell?_setCell_same' _ _ _ (by rw [hc]; rfl), by rw [World.frozen?_setCell]; exact hf⟩, hB.trans (But.setCell _ _ 0 _ _)⟩
  case done =>
   rintro D ys W hD rfl ⟨⟨hc, _⟩, hB⟩ hK
   gi_wp2
   refine ⟨by simp, .inl ⟨_, _, rfl, run_takeDeferred hK, ?_⟩⟩
   exact ⟨_, results_tmp rfl _ _ _, rfl, num_fin HR2.out hlt hsz rfl hG2 (by rw [World.size_alloc] at hB; exact hB) (by rw [World.size_alloc] at hD; exact hD)⟩
  case stop =>
   rintro D c pre W _ _ h _
   exact h.elim
end Go.Proofs.Ytenlkobjldhfgaa
