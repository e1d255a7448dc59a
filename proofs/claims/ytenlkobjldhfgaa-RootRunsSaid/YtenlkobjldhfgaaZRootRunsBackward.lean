/- slices.Backward over bytes. -/
import Derived.RangeFuncBox
import Derived.RangeFuncCalls
import Derived.RangeFuncNested
import Derived.RangeFuncLeaves
import Derived.Shelf.Abstract
import Derived.Shelf.RegionOpen
import Derived.OwnWalkIn
import Derived.TacticsInMore
import Derived.LoopNIn
import Derived.LoopIn
import Derived.Test.YtenlkobjldhfgaaZRootRunsReader
namespace Go.Proofs.Ytenlkobjldhfgaa
open Go.RowKit Go.Shelf Go.Proofs.YtenlkobjldhfgaaW.PrintWords
attribute [local go_sem] Oper.semAt_some
def upto {α : Type} (f : Nat → α) (k : Nat) : List α := (List.range k).map f
theorem upto_succ {α : Type} (f : Nat → α) (k : Nat) : upto f (k + 1) = upto f k ++ [f k] := by simp [upto, List.range_succ]
theorem upto_length {α : Type} (f : Nat → α) (k : Nat) : (upto f k).length = k := by simp [upto]
def backAt (xs : List UInt8) (j : Nat) : Int × UInt8 := ((xs.length : Int) - 1 - j, xs[xs.length - 1 - j]?.getD 0)
def encBack (x : Int × UInt8) : Array Value := #[.int .i64 x.1, .int .u8 (bv x.2)]
structure But (n B : Nat) (W W' : World) : Prop where
 os : W'.os = W.os
 tape : W'.tape = W.tape
 output : W'.output = W.output
 size : W.heap.size ≤ W'.heap.size
 block : ∀ k, k < n → k ≠ B → W'.heap[k]? = W.heap[k]?
theorem But.trans {n B : Nat} {W W1 W2 : World} (h : But n B W W1) (h2 : But n B W1 W2) : But n B W W2 := ⟨h2.os.trans h.os, h2.tape.trans h.tape, h2.output.trans h.output, Nat.le_trans h.size h2.size, fun k hk hne => (h2.block k hk hne).trans (h.block k hk hne)⟩
theorem But.refl (n B : Nat) (W : World) : But n B W W := ⟨rfl, rfl, rfl, Nat.le_refl _, fun _ _ _ => rfl⟩
theorem But.setCell (n B i : Nat) (W : World) (v : Value) : But n B W (W.setCell ⟨B, i, none⟩ v) := ⟨rfl, rfl, rfl, by simp [World.setCell], fun k _ hne => Below.heap_setCell _ _ _ _ hne⟩
theorem But.grown {n B : Nat} {W W' : World} {row : Option Nat} (hg : W.grownBy W' row) (hn : n ≤ W.heap.size) (hr : ∀ r, row = some r → n ≤ r) : But n B W W' := ⟨hg.os, hg.tape, hg.output, hg.size, fun k hk _ => hg.block k (by omega) (fun e => by have := hr k e.symm; omega)⟩
theorem But.putObj {n B : Nat} (W : World) (l : Nat) (o : Obj) (hn : n ≤ W.heap.size) (hl : n ≤ l) : But n B W (W.putObj l o) := But.grown (grownBy_putObj' W l o) hn (fun r e => by cases e; exact hl)
theorem ownFrom_but {β : Type} {n B : Nat} {w₀ : World} (hn : n ≤ w₀.heap.size) : OwnFrom n (fun (_ : β) W => But n B w₀ W) :=
 fun _ _ _ _ hs hg hr => hs.trans (But.grown hg (Nat.le_trans hn hs.size) (fun k e => (hr k e).1))
set_option maxRecDepth 100000 in
set_option maxHeartbeats 2000000 in
theorem backward1_in (n : Nat) (hn : 1 ≤ n) (l Bs n₀ B : Nat) (A : Option Addr) (c : Nat) (xs : List UInt8) (w0 : World) (hl : xs.length ≤ 9223372036854775807)
  (hkeep : ∀ W, But n₀ B w0 W → W.cell? ⟨Bs, 0, none⟩ = some (.slice A xs.length c) ∧ Rd W A xs) (J Jx : List (Int × UInt8) → World → Prop)
  (hY : ∀ pre x W, J pre W → pre.length < xs.length → YieldAt Fence.wide (n - 1) Try.prog l (encBack x) W fun e W' =>
   (e = .returned (.bool true) ∧ J (pre ++ [x]) W' ∧ But n₀ B W W') ∨ (e = .returned (.bool false) ∧ Jx (pre ++ [x]) W'))
  (W : World) (hW : But n₀ B w0 W) (h0 : J [] W) :
  CallsIn Fence.wide n Try.prog 68 #[.func (.yield l) #[] #[], .pointer (some ⟨Bs, 0, none⟩)] W fun e W' => (∃ v, e = .returned v) ∧
   ((∃ ys, ys = upto (backAt xs) xs.length ∧ J ys W') ∨ (∃ pre, True ∧ Jx pre W')) := by
 have hBs := (hkeep W hW).1
 refine callsIn_of_wp Try.func68 rfl trivial ?_ rfl
 simp only [Try.ntmps68, List.size_toArray, List.length_cons, List.length_nil, Nat.reduceAdd, Nat.reduceSub, Array.replicate_succ, Array.replicate_zero, List.push_toArray, List.append_toArray, List.nil_append, List.cons_append]
 gi_wp2
 gi_loopw [3] (fun i wr => ∃ k : Nat, k ≤ xs.length ∧ i = .int .i64 ((xs.length : Int) - 1 - k) ∧ J (upto (backAt xs) k) wr ∧ But n₀ B w0 wr)
  (fun i _ => (intOf i + 1).toNat)
 case atStart => exact ⟨0, by omega, by simp, h0, hW⟩
 case round =>
  obtain ⟨k, hk, rfl, hJs, hnx⟩ := hrel
  have hBs2 := (hkeep wr hnx).1
  by_cases hlt : k < xs.length
  ·obtain ⟨ad, e, hcx⟩ := (hkeep wr hnx).2.at (xs.length - 1 - k) (by omega)
   cases e
   obtain ⟨fn, tmps, assign, body, hy, hR⟩ := hY _ (backAt xs k) wr hJs (by rw [upto_length]; exact hlt)
   have hb : backAt xs k = ((((xs.length - 1 - k : Nat)) : Int), xs[xs.length - 1 - k]) := by
    unfold backAt
    rw [List.getElem?_eq_getElem (by omega)]
    simp only [Option.getD_some]
    congr 1
    omega
   have HU := Lib.hid (upto_succ (backAt xs) k)
   rw [hb] at hR HU
   rw [hb] at hy
   generalize xs[xs.length - 1 - k] = z at hcx hR HU hy
   clear hb
   have he : ((xs.length : Int) - 1 - k) = ((xs.length - 1 - k : Nat) : Int) := by omega
   have hq : xs.length - 1 - k < xs.length := by omega
   rw [he]
   generalize hqe : xs.length - 1 - k = q at *
   unfold encBack at hy
   dsimp only at hy
   clear hBs
   gi_wp2
   refine hR.mono ?_
   rintro e W3 (⟨rfl, hJ3, hk3⟩ | ⟨rfl, hJx3⟩)
   ·gi_wp2
    go_roundw
    case rel => exact ⟨k + 1, by omega, by simp; try omega, by rw [HU.out]; exact hJ3, hnx.trans hk3⟩
    case measure => simp [intOf]; try omega
   ·gi_wp2
    refine bodyPost_ret (results_none rfl _ _ _) rfl ?_
    exact ⟨⟨_, rfl⟩, .inr ⟨_, trivial, hJx3⟩⟩
  ·obtain rfl : k = xs.length := by omega
   gi_wp2
   go_end0
   exact ⟨⟨_, rfl⟩, .inl ⟨_, rfl, hJs⟩⟩
set_option maxHeartbeats 1000000 in
theorem backward_in (n : Nat) (A : Option Addr) (len cap : Nat) (w : World) :
  CallsIn Fence.wide n Try.prog 63 #[.slice A len cap] w fun e w' => e = .returned (.func (.func 68) #[] #[.pointer (some ⟨w.heap.size, 0, none⟩)]) ∧ w' = w.alloc (.cells #[.slice A len cap] 24) := by
 refine callsIn_of_wp Try.func63 rfl trivial ?_ rfl
 simp only [Try.ntmps63, List.size_toArray, List.length_cons, List.length_nil, Nat.reduceAdd, Nat.reduceSub, Array.replicate_succ, Array.replicate_zero, List.push_toArray, List.append_toArray, List.nil_append, List.cons_append]
 gi_wp2
 go_ret
 exact ⟨rfl, rfl⟩
theorem backward_stops (n : Nat) (hn : 1 ≤ n) (Bs B : Nat) (A : Option Addr) (c : Nat) (xs : List UInt8) (w : World) (hl : xs.length ≤ 9223372036854775807)
  (hkeep : ∀ W, But w.heap.size B w W → W.cell? ⟨Bs, 0, none⟩ = some (.slice A xs.length c) ∧ Rd W A xs) :
  SeqStopsK Fence.wide n Try.prog 68 #[.pointer (some ⟨Bs, 0, none⟩)] encBack (But w.heap.size B) (fun ys => ys = upto (backAt xs) xs.length) (fun _ => True) xs.length w := fun l J Jx W hW _ _ hY h0 =>
 backward1_in n hn l Bs w.heap.size B A c xs w hl hkeep J Jx hY W ⟨hW.os, hW.tape, hW.output, hW.size, fun k hk _ => hW.block k hk⟩ h0
end Go.Proofs.Ytenlkobjldhfgaa
