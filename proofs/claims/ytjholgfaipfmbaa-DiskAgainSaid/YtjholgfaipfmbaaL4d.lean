/- DiskAgain. -/
import Derived.Test.YtjholgfaipfmbaaL4b
import Derived.Test.YtjholgfaipfmbaaArgsD
import Derived.Test.YtjholgfaipfmbaaWkP
set_option linter.unusedVariables false
set_option linter.unusedSimpArgs false
namespace Go.Proofs.Ytjholgfaipfmbaa
open Go.RowKit Go.Proofs.YtjholgfaipfmbaaW.PrintWords Go.Proofs.YtjholgfaipfmbaaW.PrintLast
section
variable {S : Dk} {n : Nat}
theorem settleL_cong {m1 m2 : Nat → Int} : ∀ (l : List (Int × List Int)) (k : Nat) (T : List (List Int)), (∀ j, j < l.length → m1 (k + j) = m2 (k + j)) → settleL m1 k l T = settleL m2 k l T
  | [], _, _, _ => rfl
  | x :: l, k, T, h => by
    unfold settleL
    have h0 := h 0 (by simp)
    rw [Nat.add_zero] at h0
    rw [h0]
    exact settleL_cong l (k + 1) _ (fun j hj => by have := h (j + 1) (by simp; omega); rw [show k + (j + 1) = k + 1 + j by omega] at this; exact this)
theorem fre_keep (h : S.free) (i : Int) (p : List Int) : (S.write i p).free := by
  unfold Dk.write
  split
  · rw [if_pos (fre_acts h), fre_act h]; exact ⟨h.lf, h.dn⟩
  · exact h
theorem fre_syn (h : S.free) : S.sync.free := by rw [fre_sync h]; exact ⟨h.lf, h.dn⟩
theorem ag_stable (hf : S.free) (l : List Int) : ((S.crash (List.replicate S.pending.length 255)).crash l).stable = S.sync.stable := by
  rw [fre_sync hf]
  show settleL (maskOf (List.replicate S.pending.length 255)) 0 S.pending S.stable = settleL (fun _ => 255) 0 S.pending S.stable
  refine settleL_cong _ _ _ (fun j hj => ?_)
  unfold maskOf
  rw [Nat.zero_add, List.getD_eq_getElem?_getD, List.getElem?_replicate, if_pos hj]
  rfl
theorem ag_pend (hf : S.free) : S.sync.pending = [] := by rw [fre_sync hf]; rfl
/-- What holds behind i acts. -/
def AgI (pages : Int) (i : Nat) (S : Dk) : Prop := S.good i ∧ S.free ∧ (S.stable.length : Int) = pages
theorem ag_start {pages : Int} (h0 : ¬ pages < 0) (h1 : ¬ pages > 60) : AgI pages 0 (Dk.new pages) := by
  refine ⟨good_new pages, fre_new pages, ?_⟩
  show ((List.replicate (nOf pages) zpg).length : Int) = pages
  rw [List.length_replicate]
  unfold nOf
  split <;> (try split) <;> omega
theorem ag_write {pages : Int} {i : Nat} (h : AgI pages i S) (a : Int) (c : Int) : AgI pages (i + 1) (S.write a (rep c)) := ⟨good_write h.1 a (rep_len c), fre_keep h.2.1 _ _, by rw [wr_stable]; exact h.2.2⟩
theorem ag_sync {pages : Int} {i : Nat} (h : AgI pages i S) : AgI pages (i + 1) S.sync := ⟨(good_sync h.1).mono (Nat.le_succ _), fre_syn h.2.1, by rw [sy_length h.1]; exact h.2.2⟩
theorem ag_mono {pages : Int} {i : Nat} (h : AgI pages i S) : AgI pages (i + 1) S := ⟨h.1.mono (Nat.le_succ _), h.2⟩
theorem pageE_yes {i : Int} (h : S.there i = true) : S.pageE i = 0 := if_pos h
theorem ag_there {k : Nat} (h : (k : Int) < (S.stable.length : Int)) : S.there k = true := by unfold Dk.there; exact decide_eq_true ⟨by omega, h⟩
theorem stabP_cong {T : Dk} (h : S.stable = T.stable) (i : Int) : S.stabP i = T.stabP i := by unfold Dk.stabP Dk.there Dk.at; rw [h]
end

set_option maxRecDepth 10000 in
set_option maxHeartbeats 4000000 in
theorem again_law (w : World) (pages : Int) (A1 : Option Addr) (c1 : Nat) (l1 : List dAT) (hr1 : kdA.C w A1 l1.length l1) (A2 : Option Addr) (c2 : Nat) (l2 : List Int) (hr2 : (Kd.int .u8).C w A2 l2.length l2) (hk2 : ∀ z ∈ l2, 0 ≤ z ∧ z < 256) : Calls Try.prog 4 #[.int .i64 pages, .slice A1 l1.length c1, .slice A2 l2.length c2] w fun e w' => e = .returned (.bool true) ∧ Below w.heap.size w w' := by
  have HS := St.empty w
  · skip
    by_cases h0 : pages < 0
    · skip
      have h0d := decide_eq_true h0
      refine c_enter Try.func4 rfl 127 rfl [.int .i64 pages, .slice A1 l1.length c1, .slice A2 l2.length c2, undef, undef, undef, undef, undef, undef, undef, undef, undef, undef, undef, undef, undef, undef, undef, undef, undef, undef, undef, undef, undef, undef, undef, undef, undef, undef, undef, undef, undef, undef, undef, undef, undef, undef, undef, undef, undef, undef, undef, undef, undef, undef, undef, undef, undef, undef, undef, undef, undef, undef, undef, undef, undef, undef, undef, undef, undef, undef, undef, undef, undef, undef, undef, undef, undef, undef, undef, undef, undef, undef, undef, undef, undef, undef, undef, undef, undef, undef, undef, undef, undef, undef, undef, undef, undef, undef, undef, undef, undef, undef, undef, undef, undef, undef, undef, undef, undef, undef, undef, undef, undef, undef, undef, undef, undef, undef, undef, undef, undef, undef, undef, undef, undef, undef, undef, undef, undef, undef, undef, undef, undef, undef, undef, undef] rfl ?_
      refine wp_seq_k (fun K1 hK2 => ?_)
      refine c_region (fun ops4 hops3 => ?_)
      clear hops3
      refine p_run (l' := _) _ (x_assign (.bool false) rfl rfl) rfl ?_
      refine wpList_nil ?_
      refine fr_at (l' := [.int .i64 pages, .slice A1 l1.length c1, .slice A2 l2.length c2, undef, undef, undef, .bool false, undef, undef, undef, undef, undef, undef, undef, undef, undef, undef, undef, undef, undef, undef, undef, undef, undef, undef, undef, undef, undef, undef, undef, undef, undef, undef, undef, undef, undef, undef, undef, undef, undef, undef, undef, undef, undef, undef, undef, undef, undef, undef, undef, undef, undef, undef, undef, undef, undef, undef, undef, undef, undef, undef, undef, undef, undef, undef, undef, undef, undef, undef, undef, undef, undef, undef, undef, undef, undef, undef, undef, undef, undef, undef, undef, undef, undef, undef, undef, undef, undef, undef, undef, undef, undef, undef, undef, undef, undef, undef, undef, undef, undef, undef, undef, undef, undef, undef, undef, undef, undef, undef, undef, undef, undef, undef, undef, undef, undef, undef, undef, undef, undef, undef, undef, undef, undef, undef, undef, undef]) rfl ?_
      refine hK2 _ _ ?_
      refine wp_seq_k (fun K5 hK6 => ?_)
      refine wp_seq_k (fun K7 hK8 => ?_)
      refine c_region (fun ops10 hops9 => ?_)
      clear hops9
      refine w_call [] Try.func9 (by kernel_rfl) (by rfl) rfl ?_
      refine (alive_any HS).mono ?_
      clear HS
      rintro e w11 ⟨rfl, HS⟩
      refine ⟨_, rfl, ?_⟩
      refine p_run (l' := _) _ (x_not true rfl rfl) rfl ?_
      refine wpList_nil ?_
      refine fr_at (l' := [.int .i64 pages, .slice A1 l1.length c1, .slice A2 l2.length c2, undef, undef, undef, .bool false, undef, undef, undef, undef, undef, undef, undef, undef, undef, undef, .bool true, .bool false, undef, undef, undef, undef, undef, undef, undef, undef, undef, undef, undef, undef, undef, undef, undef, undef, undef, undef, undef, undef, undef, undef, undef, undef, undef, undef, undef, undef, undef, undef, undef, undef, undef, undef, undef, undef, undef, undef, undef, undef, undef, undef, undef, undef, undef, undef, undef, undef, undef, undef, undef, undef, undef, undef, undef, undef, undef, undef, undef, undef, undef, undef, undef, undef, undef, undef, undef, undef, undef, undef, undef, undef, undef, undef, undef, undef, undef, undef, undef, undef, undef, undef, undef, undef, undef, undef, undef, undef, undef, undef, undef, undef, undef, undef, undef, undef, undef, undef, undef, undef, undef, undef, undef, undef, undef, undef, undef, undef]) rfl ?_
      refine hK8 _ _ ?_
      refine c_false rfl ?_
      refine wp_skip ?_
      refine hK6 _ _ ?_
      refine wp_seq_k (fun K12 hK13 => ?_)
      refine wp_seq_k (fun K14 hK15 => ?_)
      refine c_region (fun ops17 hops16 => ?_)
      refine p_run (l' := _) _ (x_move (.int .i64 pages) rfl rfl) rfl ?_
      refine p_run (l' := _) _ (x_cmp (k := .i64) (m := pages) (n := 0) .lss true rfl rfl rfl h0d rfl) rfl ?_
      refine p_run (l' := _) _ (x_move (.bool true) rfl rfl) rfl ?_
      refine p_off (l' := [.int .i64 pages, .slice A1 l1.length c1, .slice A2 l2.length c2, undef, undef, undef, .bool false, undef, undef, undef, undef, undef, undef, undef, undef, undef, undef, .bool true, .bool false, .int .i64 pages, .bool true, .bool true, undef, undef, undef, undef, undef, undef, undef, undef, undef, undef, undef, undef, undef, undef, undef, undef, undef, undef, undef, undef, undef, undef, undef, undef, undef, undef, undef, undef, undef, undef, undef, undef, undef, undef, undef, undef, undef, undef, undef, undef, undef, undef, undef, undef, undef, undef, undef, undef, undef, undef, undef, undef, undef, undef, undef, undef, undef, undef, undef, undef, undef, undef, undef, undef, undef, undef, undef, undef, undef, undef, undef, undef, undef, undef, undef, undef, undef, undef, undef, undef, undef, undef, undef, undef, undef, undef, undef, undef, undef, undef, undef, undef, undef, undef, undef, undef, undef, undef, undef, undef, undef, undef, undef, undef, undef]) (by rw [hops16]; rfl) rfl ?_
      refine p_off (l' := _) (by rw [hops16]; rfl) rfl ?_
      refine p_run (l' := _) _ (x_pick true (.bool true) (undef) (.bool true) rfl rfl rfl rfl rfl) rfl ?_
      refine p_run (l' := _) _ (x_move (.bool true) rfl rfl) rfl ?_
      refine p_off (l' := [.int .i64 pages, .slice A1 l1.length c1, .slice A2 l2.length c2, undef, undef, undef, .bool false, undef, undef, undef, undef, undef, undef, undef, undef, undef, undef, .bool true, .bool false, .int .i64 pages, .bool true, .bool true, undef, undef, .bool true, .bool true, undef, undef, undef, undef, undef, undef, undef, undef, undef, undef, undef, undef, undef, undef, undef, undef, undef, undef, undef, undef, undef, undef, undef, undef, undef, undef, undef, undef, undef, undef, undef, undef, undef, undef, undef, undef, undef, undef, undef, undef, undef, undef, undef, undef, undef, undef, undef, undef, undef, undef, undef, undef, undef, undef, undef, undef, undef, undef, undef, undef, undef, undef, undef, undef, undef, undef, undef, undef, undef, undef, undef, undef, undef, undef, undef, undef, undef, undef, undef, undef, undef, undef, undef, undef, undef, undef, undef, undef, undef, undef, undef, undef, undef, undef, undef, undef, undef, undef, undef, undef, undef]) (by rw [hops16]; rfl) rfl ?_
      refine p_off (l' := _) (by rw [hops16]; rfl) rfl ?_
      refine p_off (l' := _) (by rw [hops16]; rfl) rfl ?_
      refine p_run (l' := _) _ (x_pick true (.bool true) (undef) (.bool true) rfl rfl rfl rfl rfl) rfl ?_
      refine p_run (l' := [.int .i64 pages, .slice A1 l1.length c1, .slice A2 l2.length c2, undef, undef, undef, .bool false, undef, undef, undef, undef, undef, undef, undef, undef, undef, undef, .bool true, .bool false, .int .i64 pages, .bool true, .bool true, undef, undef, .bool true, .bool true, undef, undef, undef, .bool true, .bool true, undef, undef, undef, undef, undef, undef, undef, undef, undef, undef, undef, undef, undef, undef, undef, undef, undef, undef, undef, undef, undef, undef, undef, undef, undef, undef, undef, undef, undef, undef, undef, undef, undef, undef, undef, undef, undef, undef, undef, undef, undef, undef, undef, undef, undef, undef, undef, undef, undef, undef, undef, undef, undef, undef, undef, undef, undef, undef, undef, undef, undef, undef, undef, undef, undef, undef, undef, undef, undef, undef, undef, undef, undef, undef, undef, undef, undef, undef, undef, undef, undef, undef, undef, undef, undef, undef, undef, undef, undef, undef, undef, undef, undef, undef, undef, undef]) _ (x_move (.bool true) rfl rfl) rfl ?_
      refine p_off (l' := _) (by rw [hops16]; rfl) rfl ?_
      refine p_off (l' := _) (by rw [hops16]; rfl) rfl ?_
      refine p_off (l' := _) (by rw [hops16]; rfl) rfl ?_
      refine p_run (l' := [.int .i64 pages, .slice A1 l1.length c1, .slice A2 l2.length c2, undef, undef, undef, .bool false, undef, undef, undef, undef, undef, undef, undef, undef, undef, undef, .bool true, .bool false, .int .i64 pages, .bool true, .bool true, undef, undef, .bool true, .bool true, undef, undef, undef, .bool true, .bool true, undef, undef, undef, .bool true, undef, undef, undef, undef, undef, undef, undef, undef, undef, undef, undef, undef, undef, undef, undef, undef, undef, undef, undef, undef, undef, undef, undef, undef, undef, undef, undef, undef, undef, undef, undef, undef, undef, undef, undef, undef, undef, undef, undef, undef, undef, undef, undef, undef, undef, undef, undef, undef, undef, undef, undef, undef, undef, undef, undef, undef, undef, undef, undef, undef, undef, undef, undef, undef, undef, undef, undef, undef, undef, undef, undef, undef, undef, undef, undef, undef, undef, undef, undef, undef, undef, undef, undef, undef, undef, undef, undef, undef, undef, undef, undef, undef]) _ (x_pick true (.bool true) (undef) (.bool true) rfl rfl rfl rfl rfl) rfl ?_
      clear hops16
      refine wpList_nil ?_
      refine hK15 _ _ ?_
      refine c_true rfl ?_
      refine wp_seq_k (fun K18 hK19 => ?_)
      refine c_region (fun ops21 hops20 => ?_)
      clear hops20
      refine p_run (l' := _) _ (x_assign (.bool true) rfl rfl) rfl ?_
      refine wpList_nil ?_
      refine fr_at (l' := [.int .i64 pages, .slice A1 l1.length c1, .slice A2 l2.length c2, undef, undef, undef, .bool true, undef, undef, undef, undef, undef, undef, undef, undef, undef, undef, .bool true, .bool false, .int .i64 pages, .bool true, .bool true, undef, undef, .bool true, .bool true, undef, undef, undef, .bool true, .bool true, undef, undef, undef, .bool true, undef, undef, undef, undef, undef, undef, undef, undef, undef, undef, undef, undef, undef, undef, undef, undef, undef, undef, undef, undef, undef, undef, undef, undef, undef, undef, undef, undef, undef, undef, undef, undef, undef, undef, undef, undef, undef, undef, undef, undef, undef, undef, undef, undef, undef, undef, undef, undef, undef, undef, undef, undef, undef, undef, undef, undef, undef, undef, undef, undef, undef, undef, undef, undef, undef, undef, undef, undef, undef, undef, undef, undef, undef, undef, undef, undef, undef, undef, undef, undef, undef, undef, undef, undef, undef, undef, undef, undef, undef, undef, undef, undef]) rfl ?_
      refine hK19 _ _ ?_
      refine wp_ret ?_
      try simp only [Exit.inBlock, Exit.then]
      refine c_ret (.bool true) (r_tmp rfl rfl) ?_
      exact ⟨rfl, HS.belowOf⟩
    · skip
      have h0d := decide_eq_false h0
      by_cases h1 : pages > 60
      · skip
        have h1d := decide_eq_true h1
        refine c_enter Try.func4 rfl 127 rfl [.int .i64 pages, .slice A1 l1.length c1, .slice A2 l2.length c2, undef, undef, undef, undef, undef, undef, undef, undef, undef, undef, undef, undef, undef, undef, undef, undef, undef, undef, undef, undef, undef, undef, undef, undef, undef, undef, undef, undef, undef, undef, undef, undef, undef, undef, undef, undef, undef, undef, undef, undef, undef, undef, undef, undef, undef, undef, undef, undef, undef, undef, undef, undef, undef, undef, undef, undef, undef, undef, undef, undef, undef, undef, undef, undef, undef, undef, undef, undef, undef, undef, undef, undef, undef, undef, undef, undef, undef, undef, undef, undef, undef, undef, undef, undef, undef, undef, undef, undef, undef, undef, undef, undef, undef, undef, undef, undef, undef, undef, undef, undef, undef, undef, undef, undef, undef, undef, undef, undef, undef, undef, undef, undef, undef, undef, undef, undef, undef, undef, undef, undef, undef, undef, undef, undef] rfl ?_
        refine wp_seq_k (fun K1 hK2 => ?_)
        refine c_region (fun ops4 hops3 => ?_)
        clear hops3
        refine p_run (l' := _) _ (x_assign (.bool false) rfl rfl) rfl ?_
        refine wpList_nil ?_
        refine fr_at (l' := [.int .i64 pages, .slice A1 l1.length c1, .slice A2 l2.length c2, undef, undef, undef, .bool false, undef, undef, undef, undef, undef, undef, undef, undef, undef, undef, undef, undef, undef, undef, undef, undef, undef, undef, undef, undef, undef, undef, undef, undef, undef, undef, undef, undef, undef, undef, undef, undef, undef, undef, undef, undef, undef, undef, undef, undef, undef, undef, undef, undef, undef, undef, undef, undef, undef, undef, undef, undef, undef, undef, undef, undef, undef, undef, undef, undef, undef, undef, undef, undef, undef, undef, undef, undef, undef, undef, undef, undef, undef, undef, undef, undef, undef, undef, undef, undef, undef, undef, undef, undef, undef, undef, undef, undef, undef, undef, undef, undef, undef, undef, undef, undef, undef, undef, undef, undef, undef, undef, undef, undef, undef, undef, undef, undef, undef, undef, undef, undef, undef, undef, undef, undef, undef, undef, undef, undef]) rfl ?_
        refine hK2 _ _ ?_
        refine wp_seq_k (fun K5 hK6 => ?_)
        refine wp_seq_k (fun K7 hK8 => ?_)
        refine c_region (fun ops10 hops9 => ?_)
        clear hops9
        refine w_call [] Try.func9 (by kernel_rfl) (by rfl) rfl ?_
        refine (alive_any HS).mono ?_
        clear HS
        rintro e w11 ⟨rfl, HS⟩
        refine ⟨_, rfl, ?_⟩
        refine p_run (l' := _) _ (x_not true rfl rfl) rfl ?_
        refine wpList_nil ?_
        refine fr_at (l' := [.int .i64 pages, .slice A1 l1.length c1, .slice A2 l2.length c2, undef, undef, undef, .bool false, undef, undef, undef, undef, undef, undef, undef, undef, undef, undef, .bool true, .bool false, undef, undef, undef, undef, undef, undef, undef, undef, undef, undef, undef, undef, undef, undef, undef, undef, undef, undef, undef, undef, undef, undef, undef, undef, undef, undef, undef, undef, undef, undef, undef, undef, undef, undef, undef, undef, undef, undef, undef, undef, undef, undef, undef, undef, undef, undef, undef, undef, undef, undef, undef, undef, undef, undef, undef, undef, undef, undef, undef, undef, undef, undef, undef, undef, undef, undef, undef, undef, undef, undef, undef, undef, undef, undef, undef, undef, undef, undef, undef, undef, undef, undef, undef, undef, undef, undef, undef, undef, undef, undef, undef, undef, undef, undef, undef, undef, undef, undef, undef, undef, undef, undef, undef, undef, undef, undef, undef, undef]) rfl ?_
        refine hK8 _ _ ?_
        refine c_false rfl ?_
        refine wp_skip ?_
        refine hK6 _ _ ?_
        refine wp_seq_k (fun K12 hK13 => ?_)
        refine wp_seq_k (fun K14 hK15 => ?_)
        refine c_region (fun ops17 hops16 => ?_)
        refine p_run (l' := _) _ (x_move (.int .i64 pages) rfl rfl) rfl ?_
        refine p_run (l' := _) _ (x_cmp (k := .i64) (m := pages) (n := 0) .lss false rfl rfl rfl h0d rfl) rfl ?_
        refine p_run (l' := _) _ (x_move (.bool false) rfl rfl) rfl ?_
        refine p_on rfl (by rw [hops16]; rfl) ?_
        refine p_run (l' := [.int .i64 pages, .slice A1 l1.length c1, .slice A2 l2.length c2, undef, undef, undef, .bool false, undef, undef, undef, undef, undef, undef, undef, undef, undef, undef, .bool true, .bool false, .int .i64 pages, .bool false, .bool false, .int .i64 pages, undef, undef, undef, undef, undef, undef, undef, undef, undef, undef, undef, undef, undef, undef, undef, undef, undef, undef, undef, undef, undef, undef, undef, undef, undef, undef, undef, undef, undef, undef, undef, undef, undef, undef, undef, undef, undef, undef, undef, undef, undef, undef, undef, undef, undef, undef, undef, undef, undef, undef, undef, undef, undef, undef, undef, undef, undef, undef, undef, undef, undef, undef, undef, undef, undef, undef, undef, undef, undef, undef, undef, undef, undef, undef, undef, undef, undef, undef, undef, undef, undef, undef, undef, undef, undef, undef, undef, undef, undef, undef, undef, undef, undef, undef, undef, undef, undef, undef, undef, undef, undef, undef, undef, undef]) _ (x_move (.int .i64 pages) rfl rfl) rfl ?_
        refine p_on rfl (by rw [hops16]; rfl) ?_
        refine p_run (l' := _) _ (x_cmp (k := .i64) (m := pages) (n := 60) .gtr true rfl rfl rfl h1d rfl) rfl ?_
        refine p_run (l' := _) _ (x_pick false (.bool true) (.bool true) (.bool true) rfl rfl rfl rfl rfl) rfl ?_
        refine p_run (l' := _) _ (x_move (.bool true) rfl rfl) rfl ?_
        refine p_off (l' := [.int .i64 pages, .slice A1 l1.length c1, .slice A2 l2.length c2, undef, undef, undef, .bool false, undef, undef, undef, undef, undef, undef, undef, undef, undef, undef, .bool true, .bool false, .int .i64 pages, .bool false, .bool false, .int .i64 pages, .bool true, .bool true, .bool true, undef, undef, undef, undef, undef, undef, undef, undef, undef, undef, undef, undef, undef, undef, undef, undef, undef, undef, undef, undef, undef, undef, undef, undef, undef, undef, undef, undef, undef, undef, undef, undef, undef, undef, undef, undef, undef, undef, undef, undef, undef, undef, undef, undef, undef, undef, undef, undef, undef, undef, undef, undef, undef, undef, undef, undef, undef, undef, undef, undef, undef, undef, undef, undef, undef, undef, undef, undef, undef, undef, undef, undef, undef, undef, undef, undef, undef, undef, undef, undef, undef, undef, undef, undef, undef, undef, undef, undef, undef, undef, undef, undef, undef, undef, undef, undef, undef, undef, undef, undef, undef]) (by rw [hops16]; rfl) rfl ?_
        refine p_off (l' := _) (by rw [hops16]; rfl) rfl ?_
        refine p_off (l' := _) (by rw [hops16]; rfl) rfl ?_
        refine p_run (l' := _) _ (x_pick true (.bool true) (undef) (.bool true) rfl rfl rfl rfl rfl) rfl ?_
        refine p_run (l' := [.int .i64 pages, .slice A1 l1.length c1, .slice A2 l2.length c2, undef, undef, undef, .bool false, undef, undef, undef, undef, undef, undef, undef, undef, undef, undef, .bool true, .bool false, .int .i64 pages, .bool false, .bool false, .int .i64 pages, .bool true, .bool true, .bool true, undef, undef, undef, .bool true, .bool true, undef, undef, undef, undef, undef, undef, undef, undef, undef, undef, undef, undef, undef, undef, undef, undef, undef, undef, undef, undef, undef, undef, undef, undef, undef, undef, undef, undef, undef, undef, undef, undef, undef, undef, undef, undef, undef, undef, undef, undef, undef, undef, undef, undef, undef, undef, undef, undef, undef, undef, undef, undef, undef, undef, undef, undef, undef, undef, undef, undef, undef, undef, undef, undef, undef, undef, undef, undef, undef, undef, undef, undef, undef, undef, undef, undef, undef, undef, undef, undef, undef, undef, undef, undef, undef, undef, undef, undef, undef, undef, undef, undef, undef, undef, undef, undef]) _ (x_move (.bool true) rfl rfl) rfl ?_
        refine p_off (l' := _) (by rw [hops16]; rfl) rfl ?_
        refine p_off (l' := _) (by rw [hops16]; rfl) rfl ?_
        refine p_off (l' := _) (by rw [hops16]; rfl) rfl ?_
        refine p_run (l' := [.int .i64 pages, .slice A1 l1.length c1, .slice A2 l2.length c2, undef, undef, undef, .bool false, undef, undef, undef, undef, undef, undef, undef, undef, undef, undef, .bool true, .bool false, .int .i64 pages, .bool false, .bool false, .int .i64 pages, .bool true, .bool true, .bool true, undef, undef, undef, .bool true, .bool true, undef, undef, undef, .bool true, undef, undef, undef, undef, undef, undef, undef, undef, undef, undef, undef, undef, undef, undef, undef, undef, undef, undef, undef, undef, undef, undef, undef, undef, undef, undef, undef, undef, undef, undef, undef, undef, undef, undef, undef, undef, undef, undef, undef, undef, undef, undef, undef, undef, undef, undef, undef, undef, undef, undef, undef, undef, undef, undef, undef, undef, undef, undef, undef, undef, undef, undef, undef, undef, undef, undef, undef, undef, undef, undef, undef, undef, undef, undef, undef, undef, undef, undef, undef, undef, undef, undef, undef, undef, undef, undef, undef, undef, undef, undef, undef, undef]) _ (x_pick true (.bool true) (undef) (.bool true) rfl rfl rfl rfl rfl) rfl ?_
        clear hops16
        refine wpList_nil ?_
        refine hK15 _ _ ?_
        refine c_true rfl ?_
        refine wp_seq_k (fun K18 hK19 => ?_)
        refine c_region (fun ops21 hops20 => ?_)
        clear hops20
        refine p_run (l' := _) _ (x_assign (.bool true) rfl rfl) rfl ?_
        refine wpList_nil ?_
        refine fr_at (l' := [.int .i64 pages, .slice A1 l1.length c1, .slice A2 l2.length c2, undef, undef, undef, .bool true, undef, undef, undef, undef, undef, undef, undef, undef, undef, undef, .bool true, .bool false, .int .i64 pages, .bool false, .bool false, .int .i64 pages, .bool true, .bool true, .bool true, undef, undef, undef, .bool true, .bool true, undef, undef, undef, .bool true, undef, undef, undef, undef, undef, undef, undef, undef, undef, undef, undef, undef, undef, undef, undef, undef, undef, undef, undef, undef, undef, undef, undef, undef, undef, undef, undef, undef, undef, undef, undef, undef, undef, undef, undef, undef, undef, undef, undef, undef, undef, undef, undef, undef, undef, undef, undef, undef, undef, undef, undef, undef, undef, undef, undef, undef, undef, undef, undef, undef, undef, undef, undef, undef, undef, undef, undef, undef, undef, undef, undef, undef, undef, undef, undef, undef, undef, undef, undef, undef, undef, undef, undef, undef, undef, undef, undef, undef, undef, undef, undef, undef]) rfl ?_
        refine hK19 _ _ ?_
        refine wp_ret ?_
        try simp only [Exit.inBlock, Exit.then]
        refine c_ret (.bool true) (r_tmp rfl rfl) ?_
        exact ⟨rfl, HS.belowOf⟩
      · skip
        have h1d := decide_eq_false h1
        by_cases h2 : (l1.length : Int) > 80
        · skip
          have h2d := decide_eq_true h2
          refine c_enter Try.func4 rfl 127 rfl [.int .i64 pages, .slice A1 l1.length c1, .slice A2 l2.length c2, undef, undef, undef, undef, undef, undef, undef, undef, undef, undef, undef, undef, undef, undef, undef, undef, undef, undef, undef, undef, undef, undef, undef, undef, undef, undef, undef, undef, undef, undef, undef, undef, undef, undef, undef, undef, undef, undef, undef, undef, undef, undef, undef, undef, undef, undef, undef, undef, undef, undef, undef, undef, undef, undef, undef, undef, undef, undef, undef, undef, undef, undef, undef, undef, undef, undef, undef, undef, undef, undef, undef, undef, undef, undef, undef, undef, undef, undef, undef, undef, undef, undef, undef, undef, undef, undef, undef, undef, undef, undef, undef, undef, undef, undef, undef, undef, undef, undef, undef, undef, undef, undef, undef, undef, undef, undef, undef, undef, undef, undef, undef, undef, undef, undef, undef, undef, undef, undef, undef, undef, undef, undef, undef, undef] rfl ?_
          refine wp_seq_k (fun K1 hK2 => ?_)
          refine c_region (fun ops4 hops3 => ?_)
          clear hops3
          refine p_run (l' := _) _ (x_assign (.bool false) rfl rfl) rfl ?_
          refine wpList_nil ?_
          refine fr_at (l' := [.int .i64 pages, .slice A1 l1.length c1, .slice A2 l2.length c2, undef, undef, undef, .bool false, undef, undef, undef, undef, undef, undef, undef, undef, undef, undef, undef, undef, undef, undef, undef, undef, undef, undef, undef, undef, undef, undef, undef, undef, undef, undef, undef, undef, undef, undef, undef, undef, undef, undef, undef, undef, undef, undef, undef, undef, undef, undef, undef, undef, undef, undef, undef, undef, undef, undef, undef, undef, undef, undef, undef, undef, undef, undef, undef, undef, undef, undef, undef, undef, undef, undef, undef, undef, undef, undef, undef, undef, undef, undef, undef, undef, undef, undef, undef, undef, undef, undef, undef, undef, undef, undef, undef, undef, undef, undef, undef, undef, undef, undef, undef, undef, undef, undef, undef, undef, undef, undef, undef, undef, undef, undef, undef, undef, undef, undef, undef, undef, undef, undef, undef, undef, undef, undef, undef, undef]) rfl ?_
          refine hK2 _ _ ?_
          refine wp_seq_k (fun K5 hK6 => ?_)
          refine wp_seq_k (fun K7 hK8 => ?_)
          refine c_region (fun ops10 hops9 => ?_)
          clear hops9
          refine w_call [] Try.func9 (by kernel_rfl) (by rfl) rfl ?_
          refine (alive_any HS).mono ?_
          clear HS
          rintro e w11 ⟨rfl, HS⟩
          refine ⟨_, rfl, ?_⟩
          refine p_run (l' := _) _ (x_not true rfl rfl) rfl ?_
          refine wpList_nil ?_
          refine fr_at (l' := [.int .i64 pages, .slice A1 l1.length c1, .slice A2 l2.length c2, undef, undef, undef, .bool false, undef, undef, undef, undef, undef, undef, undef, undef, undef, undef, .bool true, .bool false, undef, undef, undef, undef, undef, undef, undef, undef, undef, undef, undef, undef, undef, undef, undef, undef, undef, undef, undef, undef, undef, undef, undef, undef, undef, undef, undef, undef, undef, undef, undef, undef, undef, undef, undef, undef, undef, undef, undef, undef, undef, undef, undef, undef, undef, undef, undef, undef, undef, undef, undef, undef, undef, undef, undef, undef, undef, undef, undef, undef, undef, undef, undef, undef, undef, undef, undef, undef, undef, undef, undef, undef, undef, undef, undef, undef, undef, undef, undef, undef, undef, undef, undef, undef, undef, undef, undef, undef, undef, undef, undef, undef, undef, undef, undef, undef, undef, undef, undef, undef, undef, undef, undef, undef, undef, undef, undef, undef]) rfl ?_
          refine hK8 _ _ ?_
          refine c_false rfl ?_
          refine wp_skip ?_
          refine hK6 _ _ ?_
          refine wp_seq_k (fun K12 hK13 => ?_)
          refine wp_seq_k (fun K14 hK15 => ?_)
          refine c_region (fun ops17 hops16 => ?_)
          refine p_run (l' := _) _ (x_move (.int .i64 pages) rfl rfl) rfl ?_
          refine p_run (l' := _) _ (x_cmp (k := .i64) (m := pages) (n := 0) .lss false rfl rfl rfl h0d rfl) rfl ?_
          refine p_run (l' := _) _ (x_move (.bool false) rfl rfl) rfl ?_
          refine p_on rfl (by rw [hops16]; rfl) ?_
          refine p_run (l' := [.int .i64 pages, .slice A1 l1.length c1, .slice A2 l2.length c2, undef, undef, undef, .bool false, undef, undef, undef, undef, undef, undef, undef, undef, undef, undef, .bool true, .bool false, .int .i64 pages, .bool false, .bool false, .int .i64 pages, undef, undef, undef, undef, undef, undef, undef, undef, undef, undef, undef, undef, undef, undef, undef, undef, undef, undef, undef, undef, undef, undef, undef, undef, undef, undef, undef, undef, undef, undef, undef, undef, undef, undef, undef, undef, undef, undef, undef, undef, undef, undef, undef, undef, undef, undef, undef, undef, undef, undef, undef, undef, undef, undef, undef, undef, undef, undef, undef, undef, undef, undef, undef, undef, undef, undef, undef, undef, undef, undef, undef, undef, undef, undef, undef, undef, undef, undef, undef, undef, undef, undef, undef, undef, undef, undef, undef, undef, undef, undef, undef, undef, undef, undef, undef, undef, undef, undef, undef, undef, undef, undef, undef, undef]) _ (x_move (.int .i64 pages) rfl rfl) rfl ?_
          refine p_on rfl (by rw [hops16]; rfl) ?_
          refine p_run (l' := _) _ (x_cmp (k := .i64) (m := pages) (n := 60) .gtr false rfl rfl rfl h1d rfl) rfl ?_
          refine p_run (l' := _) _ (x_pick false (.bool true) (.bool false) (.bool false) rfl rfl rfl rfl rfl) rfl ?_
          refine p_run (l' := _) _ (x_move (.bool false) rfl rfl) rfl ?_
          refine p_on rfl (by rw [hops16]; rfl) ?_
          refine p_run (l' := [.int .i64 pages, .slice A1 l1.length c1, .slice A2 l2.length c2, undef, undef, undef, .bool false, undef, undef, undef, undef, undef, undef, undef, undef, undef, undef, .bool true, .bool false, .int .i64 pages, .bool false, .bool false, .int .i64 pages, .bool false, .bool false, .bool false, .slice A1 l1.length c1, undef, undef, undef, undef, undef, undef, undef, undef, undef, undef, undef, undef, undef, undef, undef, undef, undef, undef, undef, undef, undef, undef, undef, undef, undef, undef, undef, undef, undef, undef, undef, undef, undef, undef, undef, undef, undef, undef, undef, undef, undef, undef, undef, undef, undef, undef, undef, undef, undef, undef, undef, undef, undef, undef, undef, undef, undef, undef, undef, undef, undef, undef, undef, undef, undef, undef, undef, undef, undef, undef, undef, undef, undef, undef, undef, undef, undef, undef, undef, undef, undef, undef, undef, undef, undef, undef, undef, undef, undef, undef, undef, undef, undef, undef, undef, undef, undef, undef, undef, undef]) _ (x_move (.slice A1 l1.length c1) rfl rfl) rfl ?_
          refine p_on rfl (by rw [hops16]; rfl) ?_
          refine p_run (l' := _) _ (x_len rfl rfl Try.underlying35) rfl ?_
          refine p_on rfl (by rw [hops16]; rfl) ?_
          refine p_run (l' := _) _ (x_cmp (k := .i64) (m := (l1.length : Int)) (n := 80) .gtr true rfl rfl rfl h2d rfl) rfl ?_
          refine p_run (l' := _) _ (x_pick false (.bool true) (.bool true) (.bool true) rfl rfl rfl rfl rfl) rfl ?_
          refine p_run (l' := [.int .i64 pages, .slice A1 l1.length c1, .slice A2 l2.length c2, undef, undef, undef, .bool false, undef, undef, undef, undef, undef, undef, undef, undef, undef, undef, .bool true, .bool false, .int .i64 pages, .bool false, .bool false, .int .i64 pages, .bool false, .bool false, .bool false, .slice A1 l1.length c1, .int .i64 (l1.length : Int), .bool true, .bool true, .bool true, undef, undef, undef, undef, undef, undef, undef, undef, undef, undef, undef, undef, undef, undef, undef, undef, undef, undef, undef, undef, undef, undef, undef, undef, undef, undef, undef, undef, undef, undef, undef, undef, undef, undef, undef, undef, undef, undef, undef, undef, undef, undef, undef, undef, undef, undef, undef, undef, undef, undef, undef, undef, undef, undef, undef, undef, undef, undef, undef, undef, undef, undef, undef, undef, undef, undef, undef, undef, undef, undef, undef, undef, undef, undef, undef, undef, undef, undef, undef, undef, undef, undef, undef, undef, undef, undef, undef, undef, undef, undef, undef, undef, undef, undef, undef, undef]) _ (x_move (.bool true) rfl rfl) rfl ?_
          refine p_off (l' := _) (by rw [hops16]; rfl) rfl ?_
          refine p_off (l' := _) (by rw [hops16]; rfl) rfl ?_
          refine p_off (l' := _) (by rw [hops16]; rfl) rfl ?_
          refine p_run (l' := [.int .i64 pages, .slice A1 l1.length c1, .slice A2 l2.length c2, undef, undef, undef, .bool false, undef, undef, undef, undef, undef, undef, undef, undef, undef, undef, .bool true, .bool false, .int .i64 pages, .bool false, .bool false, .int .i64 pages, .bool false, .bool false, .bool false, .slice A1 l1.length c1, .int .i64 (l1.length : Int), .bool true, .bool true, .bool true, undef, undef, undef, .bool true, undef, undef, undef, undef, undef, undef, undef, undef, undef, undef, undef, undef, undef, undef, undef, undef, undef, undef, undef, undef, undef, undef, undef, undef, undef, undef, undef, undef, undef, undef, undef, undef, undef, undef, undef, undef, undef, undef, undef, undef, undef, undef, undef, undef, undef, undef, undef, undef, undef, undef, undef, undef, undef, undef, undef, undef, undef, undef, undef, undef, undef, undef, undef, undef, undef, undef, undef, undef, undef, undef, undef, undef, undef, undef, undef, undef, undef, undef, undef, undef, undef, undef, undef, undef, undef, undef, undef, undef, undef, undef, undef, undef]) _ (x_pick true (.bool true) (undef) (.bool true) rfl rfl rfl rfl rfl) rfl ?_
          clear hops16
          refine wpList_nil ?_
          refine hK15 _ _ ?_
          refine c_true rfl ?_
          refine wp_seq_k (fun K18 hK19 => ?_)
          refine c_region (fun ops21 hops20 => ?_)
          clear hops20
          refine p_run (l' := _) _ (x_assign (.bool true) rfl rfl) rfl ?_
          refine wpList_nil ?_
          refine fr_at (l' := [.int .i64 pages, .slice A1 l1.length c1, .slice A2 l2.length c2, undef, undef, undef, .bool true, undef, undef, undef, undef, undef, undef, undef, undef, undef, undef, .bool true, .bool false, .int .i64 pages, .bool false, .bool false, .int .i64 pages, .bool false, .bool false, .bool false, .slice A1 l1.length c1, .int .i64 (l1.length : Int), .bool true, .bool true, .bool true, undef, undef, undef, .bool true, undef, undef, undef, undef, undef, undef, undef, undef, undef, undef, undef, undef, undef, undef, undef, undef, undef, undef, undef, undef, undef, undef, undef, undef, undef, undef, undef, undef, undef, undef, undef, undef, undef, undef, undef, undef, undef, undef, undef, undef, undef, undef, undef, undef, undef, undef, undef, undef, undef, undef, undef, undef, undef, undef, undef, undef, undef, undef, undef, undef, undef, undef, undef, undef, undef, undef, undef, undef, undef, undef, undef, undef, undef, undef, undef, undef, undef, undef, undef, undef, undef, undef, undef, undef, undef, undef, undef, undef, undef, undef, undef, undef]) rfl ?_
          refine hK19 _ _ ?_
          refine wp_ret ?_
          try simp only [Exit.inBlock, Exit.then]
          refine c_ret (.bool true) (r_tmp rfl rfl) ?_
          exact ⟨rfl, HS.belowOf⟩
        · skip
          have h2d := decide_eq_false h2
          by_cases h3 : (l2.length : Int) > 200
          · skip
            have h3d := decide_eq_true h3
            refine c_enter Try.func4 rfl 127 rfl [.int .i64 pages, .slice A1 l1.length c1, .slice A2 l2.length c2, undef, undef, undef, undef, undef, undef, undef, undef, undef, undef, undef, undef, undef, undef, undef, undef, undef, undef, undef, undef, undef, undef, undef, undef, undef, undef, undef, undef, undef, undef, undef, undef, undef, undef, undef, undef, undef, undef, undef, undef, undef, undef, undef, undef, undef, undef, undef, undef, undef, undef, undef, undef, undef, undef, undef, undef, undef, undef, undef, undef, undef, undef, undef, undef, undef, undef, undef, undef, undef, undef, undef, undef, undef, undef, undef, undef, undef, undef, undef, undef, undef, undef, undef, undef, undef, undef, undef, undef, undef, undef, undef, undef, undef, undef, undef, undef, undef, undef, undef, undef, undef, undef, undef, undef, undef, undef, undef, undef, undef, undef, undef, undef, undef, undef, undef, undef, undef, undef, undef, undef, undef, undef, undef, undef] rfl ?_
            refine wp_seq_k (fun K1 hK2 => ?_)
            refine c_region (fun ops4 hops3 => ?_)
            clear hops3
            refine p_run (l' := _) _ (x_assign (.bool false) rfl rfl) rfl ?_
            refine wpList_nil ?_
            refine fr_at (l' := [.int .i64 pages, .slice A1 l1.length c1, .slice A2 l2.length c2, undef, undef, undef, .bool false, undef, undef, undef, undef, undef, undef, undef, undef, undef, undef, undef, undef, undef, undef, undef, undef, undef, undef, undef, undef, undef, undef, undef, undef, undef, undef, undef, undef, undef, undef, undef, undef, undef, undef, undef, undef, undef, undef, undef, undef, undef, undef, undef, undef, undef, undef, undef, undef, undef, undef, undef, undef, undef, undef, undef, undef, undef, undef, undef, undef, undef, undef, undef, undef, undef, undef, undef, undef, undef, undef, undef, undef, undef, undef, undef, undef, undef, undef, undef, undef, undef, undef, undef, undef, undef, undef, undef, undef, undef, undef, undef, undef, undef, undef, undef, undef, undef, undef, undef, undef, undef, undef, undef, undef, undef, undef, undef, undef, undef, undef, undef, undef, undef, undef, undef, undef, undef, undef, undef, undef]) rfl ?_
            refine hK2 _ _ ?_
            refine wp_seq_k (fun K5 hK6 => ?_)
            refine wp_seq_k (fun K7 hK8 => ?_)
            refine c_region (fun ops10 hops9 => ?_)
            clear hops9
            refine w_call [] Try.func9 (by kernel_rfl) (by rfl) rfl ?_
            refine (alive_any HS).mono ?_
            clear HS
            rintro e w11 ⟨rfl, HS⟩
            refine ⟨_, rfl, ?_⟩
            refine p_run (l' := _) _ (x_not true rfl rfl) rfl ?_
            refine wpList_nil ?_
            refine fr_at (l' := [.int .i64 pages, .slice A1 l1.length c1, .slice A2 l2.length c2, undef, undef, undef, .bool false, undef, undef, undef, undef, undef, undef, undef, undef, undef, undef, .bool true, .bool false, undef, undef, undef, undef, undef, undef, undef, undef, undef, undef, undef, undef, undef, undef, undef, undef, undef, undef, undef, undef, undef, undef, undef, undef, undef, undef, undef, undef, undef, undef, undef, undef, undef, undef, undef, undef, undef, undef, undef, undef, undef, undef, undef, undef, undef, undef, undef, undef, undef, undef, undef, undef, undef, undef, undef, undef, undef, undef, undef, undef, undef, undef, undef, undef, undef, undef, undef, undef, undef, undef, undef, undef, undef, undef, undef, undef, undef, undef, undef, undef, undef, undef, undef, undef, undef, undef, undef, undef, undef, undef, undef, undef, undef, undef, undef, undef, undef, undef, undef, undef, undef, undef, undef, undef, undef, undef, undef, undef]) rfl ?_
            refine hK8 _ _ ?_
            refine c_false rfl ?_
            refine wp_skip ?_
            refine hK6 _ _ ?_
            refine wp_seq_k (fun K12 hK13 => ?_)
            refine wp_seq_k (fun K14 hK15 => ?_)
            refine c_region (fun ops17 hops16 => ?_)
            refine p_run (l' := _) _ (x_move (.int .i64 pages) rfl rfl) rfl ?_
            refine p_run (l' := _) _ (x_cmp (k := .i64) (m := pages) (n := 0) .lss false rfl rfl rfl h0d rfl) rfl ?_
            refine p_run (l' := _) _ (x_move (.bool false) rfl rfl) rfl ?_
            refine p_on rfl (by rw [hops16]; rfl) ?_
            refine p_run (l' := [.int .i64 pages, .slice A1 l1.length c1, .slice A2 l2.length c2, undef, undef, undef, .bool false, undef, undef, undef, undef, undef, undef, undef, undef, undef, undef, .bool true, .bool false, .int .i64 pages, .bool false, .bool false, .int .i64 pages, undef, undef, undef, undef, undef, undef, undef, undef, undef, undef, undef, undef, undef, undef, undef, undef, undef, undef, undef, undef, undef, undef, undef, undef, undef, undef, undef, undef, undef, undef, undef, undef, undef, undef, undef, undef, undef, undef, undef, undef, undef, undef, undef, undef, undef, undef, undef, undef, undef, undef, undef, undef, undef, undef, undef, undef, undef, undef, undef, undef, undef, undef, undef, undef, undef, undef, undef, undef, undef, undef, undef, undef, undef, undef, undef, undef, undef, undef, undef, undef, undef, undef, undef, undef, undef, undef, undef, undef, undef, undef, undef, undef, undef, undef, undef, undef, undef, undef, undef, undef, undef, undef, undef, undef]) _ (x_move (.int .i64 pages) rfl rfl) rfl ?_
            refine p_on rfl (by rw [hops16]; rfl) ?_
            refine p_run (l' := _) _ (x_cmp (k := .i64) (m := pages) (n := 60) .gtr false rfl rfl rfl h1d rfl) rfl ?_
            refine p_run (l' := _) _ (x_pick false (.bool true) (.bool false) (.bool false) rfl rfl rfl rfl rfl) rfl ?_
            refine p_run (l' := _) _ (x_move (.bool false) rfl rfl) rfl ?_
            refine p_on rfl (by rw [hops16]; rfl) ?_
            refine p_run (l' := [.int .i64 pages, .slice A1 l1.length c1, .slice A2 l2.length c2, undef, undef, undef, .bool false, undef, undef, undef, undef, undef, undef, undef, undef, undef, undef, .bool true, .bool false, .int .i64 pages, .bool false, .bool false, .int .i64 pages, .bool false, .bool false, .bool false, .slice A1 l1.length c1, undef, undef, undef, undef, undef, undef, undef, undef, undef, undef, undef, undef, undef, undef, undef, undef, undef, undef, undef, undef, undef, undef, undef, undef, undef, undef, undef, undef, undef, undef, undef, undef, undef, undef, undef, undef, undef, undef, undef, undef, undef, undef, undef, undef, undef, undef, undef, undef, undef, undef, undef, undef, undef, undef, undef, undef, undef, undef, undef, undef, undef, undef, undef, undef, undef, undef, undef, undef, undef, undef, undef, undef, undef, undef, undef, undef, undef, undef, undef, undef, undef, undef, undef, undef, undef, undef, undef, undef, undef, undef, undef, undef, undef, undef, undef, undef, undef, undef, undef, undef]) _ (x_move (.slice A1 l1.length c1) rfl rfl) rfl ?_
            refine p_on rfl (by rw [hops16]; rfl) ?_
            refine p_run (l' := _) _ (x_len rfl rfl Try.underlying35) rfl ?_
            refine p_on rfl (by rw [hops16]; rfl) ?_
            refine p_run (l' := _) _ (x_cmp (k := .i64) (m := (l1.length : Int)) (n := 80) .gtr false rfl rfl rfl h2d rfl) rfl ?_
            refine p_run (l' := _) _ (x_pick false (.bool true) (.bool false) (.bool false) rfl rfl rfl rfl rfl) rfl ?_
            refine p_run (l' := [.int .i64 pages, .slice A1 l1.length c1, .slice A2 l2.length c2, undef, undef, undef, .bool false, undef, undef, undef, undef, undef, undef, undef, undef, undef, undef, .bool true, .bool false, .int .i64 pages, .bool false, .bool false, .int .i64 pages, .bool false, .bool false, .bool false, .slice A1 l1.length c1, .int .i64 (l1.length : Int), .bool false, .bool false, .bool false, undef, undef, undef, undef, undef, undef, undef, undef, undef, undef, undef, undef, undef, undef, undef, undef, undef, undef, undef, undef, undef, undef, undef, undef, undef, undef, undef, undef, undef, undef, undef, undef, undef, undef, undef, undef, undef, undef, undef, undef, undef, undef, undef, undef, undef, undef, undef, undef, undef, undef, undef, undef, undef, undef, undef, undef, undef, undef, undef, undef, undef, undef, undef, undef, undef, undef, undef, undef, undef, undef, undef, undef, undef, undef, undef, undef, undef, undef, undef, undef, undef, undef, undef, undef, undef, undef, undef, undef, undef, undef, undef, undef, undef, undef, undef, undef]) _ (x_move (.bool false) rfl rfl) rfl ?_
            refine p_on rfl (by rw [hops16]; rfl) ?_
            refine p_run (l' := _) _ (x_move (.slice A2 l2.length c2) rfl rfl) rfl ?_
            refine p_on rfl (by rw [hops16]; rfl) ?_
            refine p_run (l' := _) _ (x_len rfl rfl Try.underlying36) rfl ?_
            refine p_on rfl (by rw [hops16]; rfl) ?_
            refine p_run (l' := _) _ (x_cmp (k := .i64) (m := (l2.length : Int)) (n := 200) .gtr true rfl rfl rfl h3d rfl) rfl ?_
            refine p_run (l' := [.int .i64 pages, .slice A1 l1.length c1, .slice A2 l2.length c2, undef, undef, undef, .bool false, undef, undef, undef, undef, undef, undef, undef, undef, undef, undef, .bool true, .bool false, .int .i64 pages, .bool false, .bool false, .int .i64 pages, .bool false, .bool false, .bool false, .slice A1 l1.length c1, .int .i64 (l1.length : Int), .bool false, .bool false, .bool false, .slice A2 l2.length c2, .int .i64 (l2.length : Int), .bool true, .bool true, undef, undef, undef, undef, undef, undef, undef, undef, undef, undef, undef, undef, undef, undef, undef, undef, undef, undef, undef, undef, undef, undef, undef, undef, undef, undef, undef, undef, undef, undef, undef, undef, undef, undef, undef, undef, undef, undef, undef, undef, undef, undef, undef, undef, undef, undef, undef, undef, undef, undef, undef, undef, undef, undef, undef, undef, undef, undef, undef, undef, undef, undef, undef, undef, undef, undef, undef, undef, undef, undef, undef, undef, undef, undef, undef, undef, undef, undef, undef, undef, undef, undef, undef, undef, undef, undef, undef, undef, undef, undef, undef, undef]) _ (x_pick false (.bool true) (.bool true) (.bool true) rfl rfl rfl rfl rfl) rfl ?_
            clear hops16
            refine wpList_nil ?_
            refine hK15 _ _ ?_
            refine c_true rfl ?_
            refine wp_seq_k (fun K18 hK19 => ?_)
            refine c_region (fun ops21 hops20 => ?_)
            clear hops20
            refine p_run (l' := _) _ (x_assign (.bool true) rfl rfl) rfl ?_
            refine wpList_nil ?_
            refine fr_at (l' := [.int .i64 pages, .slice A1 l1.length c1, .slice A2 l2.length c2, undef, undef, undef, .bool true, undef, undef, undef, undef, undef, undef, undef, undef, undef, undef, .bool true, .bool false, .int .i64 pages, .bool false, .bool false, .int .i64 pages, .bool false, .bool false, .bool false, .slice A1 l1.length c1, .int .i64 (l1.length : Int), .bool false, .bool false, .bool false, .slice A2 l2.length c2, .int .i64 (l2.length : Int), .bool true, .bool true, undef, undef, undef, undef, undef, undef, undef, undef, undef, undef, undef, undef, undef, undef, undef, undef, undef, undef, undef, undef, undef, undef, undef, undef, undef, undef, undef, undef, undef, undef, undef, undef, undef, undef, undef, undef, undef, undef, undef, undef, undef, undef, undef, undef, undef, undef, undef, undef, undef, undef, undef, undef, undef, undef, undef, undef, undef, undef, undef, undef, undef, undef, undef, undef, undef, undef, undef, undef, undef, undef, undef, undef, undef, undef, undef, undef, undef, undef, undef, undef, undef, undef, undef, undef, undef, undef, undef, undef, undef, undef, undef, undef]) rfl ?_
            refine hK19 _ _ ?_
            refine wp_ret ?_
            try simp only [Exit.inBlock, Exit.then]
            refine c_ret (.bool true) (r_tmp rfl rfl) ?_
            exact ⟨rfl, HS.belowOf⟩
          · skip
            have h3d := decide_eq_false h3
            · skip
              refine c_enter Try.func4 rfl 127 rfl [.int .i64 pages, .slice A1 l1.length c1, .slice A2 l2.length c2, undef, undef, undef, undef, undef, undef, undef, undef, undef, undef, undef, undef, undef, undef, undef, undef, undef, undef, undef, undef, undef, undef, undef, undef, undef, undef, undef, undef, undef, undef, undef, undef, undef, undef, undef, undef, undef, undef, undef, undef, undef, undef, undef, undef, undef, undef, undef, undef, undef, undef, undef, undef, undef, undef, undef, undef, undef, undef, undef, undef, undef, undef, undef, undef, undef, undef, undef, undef, undef, undef, undef, undef, undef, undef, undef, undef, undef, undef, undef, undef, undef, undef, undef, undef, undef, undef, undef, undef, undef, undef, undef, undef, undef, undef, undef, undef, undef, undef, undef, undef, undef, undef, undef, undef, undef, undef, undef, undef, undef, undef, undef, undef, undef, undef, undef, undef, undef, undef, undef, undef, undef, undef, undef, undef] rfl ?_
              refine wp_seq_k (fun K1 hK2 => ?_)
              refine c_region (fun ops4 hops3 => ?_)
              clear hops3
              refine p_run (l' := _) _ (x_assign (.bool false) rfl rfl) rfl ?_
              refine wpList_nil ?_
              refine fr_at (l' := [.int .i64 pages, .slice A1 l1.length c1, .slice A2 l2.length c2, undef, undef, undef, .bool false, undef, undef, undef, undef, undef, undef, undef, undef, undef, undef, undef, undef, undef, undef, undef, undef, undef, undef, undef, undef, undef, undef, undef, undef, undef, undef, undef, undef, undef, undef, undef, undef, undef, undef, undef, undef, undef, undef, undef, undef, undef, undef, undef, undef, undef, undef, undef, undef, undef, undef, undef, undef, undef, undef, undef, undef, undef, undef, undef, undef, undef, undef, undef, undef, undef, undef, undef, undef, undef, undef, undef, undef, undef, undef, undef, undef, undef, undef, undef, undef, undef, undef, undef, undef, undef, undef, undef, undef, undef, undef, undef, undef, undef, undef, undef, undef, undef, undef, undef, undef, undef, undef, undef, undef, undef, undef, undef, undef, undef, undef, undef, undef, undef, undef, undef, undef, undef, undef, undef, undef]) rfl ?_
              refine hK2 _ _ ?_
              refine wp_seq_k (fun K5 hK6 => ?_)
              refine wp_seq_k (fun K7 hK8 => ?_)
              refine c_region (fun ops10 hops9 => ?_)
              clear hops9
              refine w_call [] Try.func9 (by kernel_rfl) (by rfl) rfl ?_
              refine (alive_any HS).mono ?_
              clear HS
              rintro e w11 ⟨rfl, HS⟩
              refine ⟨_, rfl, ?_⟩
              refine p_run (l' := _) _ (x_not true rfl rfl) rfl ?_
              refine wpList_nil ?_
              refine fr_at (l' := [.int .i64 pages, .slice A1 l1.length c1, .slice A2 l2.length c2, undef, undef, undef, .bool false, undef, undef, undef, undef, undef, undef, undef, undef, undef, undef, .bool true, .bool false, undef, undef, undef, undef, undef, undef, undef, undef, undef, undef, undef, undef, undef, undef, undef, undef, undef, undef, undef, undef, undef, undef, undef, undef, undef, undef, undef, undef, undef, undef, undef, undef, undef, undef, undef, undef, undef, undef, undef, undef, undef, undef, undef, undef, undef, undef, undef, undef, undef, undef, undef, undef, undef, undef, undef, undef, undef, undef, undef, undef, undef, undef, undef, undef, undef, undef, undef, undef, undef, undef, undef, undef, undef, undef, undef, undef, undef, undef, undef, undef, undef, undef, undef, undef, undef, undef, undef, undef, undef, undef, undef, undef, undef, undef, undef, undef, undef, undef, undef, undef, undef, undef, undef, undef, undef, undef, undef, undef]) rfl ?_
              refine hK8 _ _ ?_
              refine c_false rfl ?_
              refine wp_skip ?_
              refine hK6 _ _ ?_
              refine wp_seq_k (fun K12 hK13 => ?_)
              refine wp_seq_k (fun K14 hK15 => ?_)
              refine c_region (fun ops17 hops16 => ?_)
              refine p_run (l' := _) _ (x_move (.int .i64 pages) rfl rfl) rfl ?_
              refine p_run (l' := _) _ (x_cmp (k := .i64) (m := pages) (n := 0) .lss false rfl rfl rfl h0d rfl) rfl ?_
              refine p_run (l' := _) _ (x_move (.bool false) rfl rfl) rfl ?_
              refine p_on rfl (by rw [hops16]; rfl) ?_
              refine p_run (l' := [.int .i64 pages, .slice A1 l1.length c1, .slice A2 l2.length c2, undef, undef, undef, .bool false, undef, undef, undef, undef, undef, undef, undef, undef, undef, undef, .bool true, .bool false, .int .i64 pages, .bool false, .bool false, .int .i64 pages, undef, undef, undef, undef, undef, undef, undef, undef, undef, undef, undef, undef, undef, undef, undef, undef, undef, undef, undef, undef, undef, undef, undef, undef, undef, undef, undef, undef, undef, undef, undef, undef, undef, undef, undef, undef, undef, undef, undef, undef, undef, undef, undef, undef, undef, undef, undef, undef, undef, undef, undef, undef, undef, undef, undef, undef, undef, undef, undef, undef, undef, undef, undef, undef, undef, undef, undef, undef, undef, undef, undef, undef, undef, undef, undef, undef, undef, undef, undef, undef, undef, undef, undef, undef, undef, undef, undef, undef, undef, undef, undef, undef, undef, undef, undef, undef, undef, undef, undef, undef, undef, undef, undef, undef]) _ (x_move (.int .i64 pages) rfl rfl) rfl ?_
              refine p_on rfl (by rw [hops16]; rfl) ?_
              refine p_run (l' := _) _ (x_cmp (k := .i64) (m := pages) (n := 60) .gtr false rfl rfl rfl h1d rfl) rfl ?_
              refine p_run (l' := _) _ (x_pick false (.bool true) (.bool false) (.bool false) rfl rfl rfl rfl rfl) rfl ?_
              refine p_run (l' := _) _ (x_move (.bool false) rfl rfl) rfl ?_
              refine p_on rfl (by rw [hops16]; rfl) ?_
              refine p_run (l' := [.int .i64 pages, .slice A1 l1.length c1, .slice A2 l2.length c2, undef, undef, undef, .bool false, undef, undef, undef, undef, undef, undef, undef, undef, undef, undef, .bool true, .bool false, .int .i64 pages, .bool false, .bool false, .int .i64 pages, .bool false, .bool false, .bool false, .slice A1 l1.length c1, undef, undef, undef, undef, undef, undef, undef, undef, undef, undef, undef, undef, undef, undef, undef, undef, undef, undef, undef, undef, undef, undef, undef, undef, undef, undef, undef, undef, undef, undef, undef, undef, undef, undef, undef, undef, undef, undef, undef, undef, undef, undef, undef, undef, undef, undef, undef, undef, undef, undef, undef, undef, undef, undef, undef, undef, undef, undef, undef, undef, undef, undef, undef, undef, undef, undef, undef, undef, undef, undef, undef, undef, undef, undef, undef, undef, undef, undef, undef, undef, undef, undef, undef, undef, undef, undef, undef, undef, undef, undef, undef, undef, undef, undef, undef, undef, undef, undef, undef, undef]) _ (x_move (.slice A1 l1.length c1) rfl rfl) rfl ?_
              refine p_on rfl (by rw [hops16]; rfl) ?_
              refine p_run (l' := _) _ (x_len rfl rfl Try.underlying35) rfl ?_
              refine p_on rfl (by rw [hops16]; rfl) ?_
              refine p_run (l' := _) _ (x_cmp (k := .i64) (m := (l1.length : Int)) (n := 80) .gtr false rfl rfl rfl h2d rfl) rfl ?_
              refine p_run (l' := _) _ (x_pick false (.bool true) (.bool false) (.bool false) rfl rfl rfl rfl rfl) rfl ?_
              refine p_run (l' := [.int .i64 pages, .slice A1 l1.length c1, .slice A2 l2.length c2, undef, undef, undef, .bool false, undef, undef, undef, undef, undef, undef, undef, undef, undef, undef, .bool true, .bool false, .int .i64 pages, .bool false, .bool false, .int .i64 pages, .bool false, .bool false, .bool false, .slice A1 l1.length c1, .int .i64 (l1.length : Int), .bool false, .bool false, .bool false, undef, undef, undef, undef, undef, undef, undef, undef, undef, undef, undef, undef, undef, undef, undef, undef, undef, undef, undef, undef, undef, undef, undef, undef, undef, undef, undef, undef, undef, undef, undef, undef, undef, undef, undef, undef, undef, undef, undef, undef, undef, undef, undef, undef, undef, undef, undef, undef, undef, undef, undef, undef, undef, undef, undef, undef, undef, undef, undef, undef, undef, undef, undef, undef, undef, undef, undef, undef, undef, undef, undef, undef, undef, undef, undef, undef, undef, undef, undef, undef, undef, undef, undef, undef, undef, undef, undef, undef, undef, undef, undef, undef, undef, undef, undef, undef]) _ (x_move (.bool false) rfl rfl) rfl ?_
              refine p_on rfl (by rw [hops16]; rfl) ?_
              refine p_run (l' := _) _ (x_move (.slice A2 l2.length c2) rfl rfl) rfl ?_
              refine p_on rfl (by rw [hops16]; rfl) ?_
              refine p_run (l' := _) _ (x_len rfl rfl Try.underlying36) rfl ?_
              refine p_on rfl (by rw [hops16]; rfl) ?_
              refine p_run (l' := _) _ (x_cmp (k := .i64) (m := (l2.length : Int)) (n := 200) .gtr false rfl rfl rfl h3d rfl) rfl ?_
              refine p_run (l' := [.int .i64 pages, .slice A1 l1.length c1, .slice A2 l2.length c2, undef, undef, undef, .bool false, undef, undef, undef, undef, undef, undef, undef, undef, undef, undef, .bool true, .bool false, .int .i64 pages, .bool false, .bool false, .int .i64 pages, .bool false, .bool false, .bool false, .slice A1 l1.length c1, .int .i64 (l1.length : Int), .bool false, .bool false, .bool false, .slice A2 l2.length c2, .int .i64 (l2.length : Int), .bool false, .bool false, undef, undef, undef, undef, undef, undef, undef, undef, undef, undef, undef, undef, undef, undef, undef, undef, undef, undef, undef, undef, undef, undef, undef, undef, undef, undef, undef, undef, undef, undef, undef, undef, undef, undef, undef, undef, undef, undef, undef, undef, undef, undef, undef, undef, undef, undef, undef, undef, undef, undef, undef, undef, undef, undef, undef, undef, undef, undef, undef, undef, undef, undef, undef, undef, undef, undef, undef, undef, undef, undef, undef, undef, undef, undef, undef, undef, undef, undef, undef, undef, undef, undef, undef, undef, undef, undef, undef, undef, undef, undef, undef, undef]) _ (x_pick false (.bool true) (.bool false) (.bool false) rfl rfl rfl rfl rfl) rfl ?_
              clear hops16
              refine wpList_nil ?_
              refine hK15 _ _ ?_
              refine c_false rfl ?_
              refine wp_skip ?_
              refine hK13 _ _ ?_
              refine wp_seq_k (fun K18 hK19 => ?_)
              refine c_region (fun ops21 hops20 => ?_)
              clear hops20
              refine p_run (l' := _) _ (x_move (.int .i64 pages) rfl rfl) rfl ?_
              refine w_call [.int .i64 pages] Try.func10 (by kernel_rfl) (by rfl) rfl ?_
              refine (new_any HS pages).mono ?_
              clear HS
              rintro e w25 ⟨D22, gs23, gm24, rfl, HS⟩
              have hgd26 := good_new pages
              refine ⟨_, rfl, ?_⟩
              refine p_run (l' := _) _ (x_move (.int .i64 pages) rfl rfl) rfl ?_
              refine w_call [.int .i64 pages] Try.func10 (by kernel_rfl) (by rfl) rfl ?_
              refine (new_any HS pages).mono ?_
              clear HS
              rintro e w30 ⟨D27, gs28, gm29, rfl, HS⟩
              have hgd31 := good_new pages
              refine ⟨_, rfl, ?_⟩
              refine fr_to (l' := [.int .i64 pages, .slice A1 l1.length c1, .slice A2 l2.length c2, undef, undef, undef, .bool false, undef, undef, undef, undef, undef, undef, undef, undef, undef, undef, .bool true, .bool false, .int .i64 pages, .bool false, .bool false, .int .i64 pages, .bool false, .bool false, .bool false, .slice A1 l1.length c1, .int .i64 (l1.length : Int), .bool false, .bool false, .bool false, .slice A2 l2.length c2, .int .i64 (l2.length : Int), .bool false, .bool false, .int .i64 pages, .pointer (some ⟨D22, 0, none⟩), .int .i64 pages, .pointer (some ⟨D27, 0, none⟩), undef, undef, undef, undef, undef, undef, undef, undef, undef, undef, undef, undef, undef, undef, undef, undef, undef, undef, undef, undef, undef, undef, undef, undef, undef, undef, undef, undef, undef, undef, undef, undef, undef, undef, undef, undef, undef, undef, undef, undef, undef, undef, undef, undef, undef, undef, undef, undef, undef, undef, undef, undef, undef, undef, undef, undef, undef, undef, undef, undef, undef, undef, undef, undef, undef, undef, undef, undef, undef, undef, undef, undef, undef, undef, undef, undef, undef, undef, undef, undef, undef, undef, undef, undef, undef, undef, undef, undef]) rfl ?_
              refine p_run (l' := _) _ (x_assign (.pointer (some ⟨D22, 0, none⟩)) rfl rfl) rfl ?_
              refine p_run (l' := _) _ (x_assign (.pointer (some ⟨D27, 0, none⟩)) rfl rfl) rfl ?_
              refine wpList_nil ?_
              refine fr_at (l' := [.int .i64 pages, .slice A1 l1.length c1, .slice A2 l2.length c2, undef, undef, undef, .bool false, .pointer (some ⟨D22, 0, none⟩), .pointer (some ⟨D27, 0, none⟩), undef, undef, undef, undef, undef, undef, undef, undef, .bool true, .bool false, .int .i64 pages, .bool false, .bool false, .int .i64 pages, .bool false, .bool false, .bool false, .slice A1 l1.length c1, .int .i64 (l1.length : Int), .bool false, .bool false, .bool false, .slice A2 l2.length c2, .int .i64 (l2.length : Int), .bool false, .bool false, .int .i64 pages, .pointer (some ⟨D22, 0, none⟩), .int .i64 pages, .pointer (some ⟨D27, 0, none⟩), undef, undef, undef, undef, undef, undef, undef, undef, undef, undef, undef, undef, undef, undef, undef, undef, undef, undef, undef, undef, undef, undef, undef, undef, undef, undef, undef, undef, undef, undef, undef, undef, undef, undef, undef, undef, undef, undef, undef, undef, undef, undef, undef, undef, undef, undef, undef, undef, undef, undef, undef, undef, undef, undef, undef, undef, undef, undef, undef, undef, undef, undef, undef, undef, undef, undef, undef, undef, undef, undef, undef, undef, undef, undef, undef, undef, undef, undef, undef, undef, undef, undef, undef, undef, undef, undef, undef, undef]) rfl ?_
              refine hK19 _ _ ?_
              refine wp_seq_k (fun K32 hK33 => ?_)
              refine c_region (fun ops35 hops34 => ?_)
              clear hops34
              refine St.wLit0 HS (Kd.int .u8) rfl 1 (.int .u8 0) Try.underlying36 (by kernel_rfl) ?_
              clear HS
              intro v36 w37 HS
              refine p_run (l' := _) _ (x_assign (v36) rfl rfl) rfl ?_
              refine wpList_nil ?_
              refine fr_at (l' := [.int .i64 pages, .slice A1 l1.length c1, .slice A2 l2.length c2, undef, undef, undef, .bool false, .pointer (some ⟨D22, 0, none⟩), .pointer (some ⟨D27, 0, none⟩), v36, undef, undef, undef, undef, undef, undef, undef, .bool true, .bool false, .int .i64 pages, .bool false, .bool false, .int .i64 pages, .bool false, .bool false, .bool false, .slice A1 l1.length c1, .int .i64 (l1.length : Int), .bool false, .bool false, .bool false, .slice A2 l2.length c2, .int .i64 (l2.length : Int), .bool false, .bool false, .int .i64 pages, .pointer (some ⟨D22, 0, none⟩), .int .i64 pages, .pointer (some ⟨D27, 0, none⟩), v36, undef, undef, undef, undef, undef, undef, undef, undef, undef, undef, undef, undef, undef, undef, undef, undef, undef, undef, undef, undef, undef, undef, undef, undef, undef, undef, undef, undef, undef, undef, undef, undef, undef, undef, undef, undef, undef, undef, undef, undef, undef, undef, undef, undef, undef, undef, undef, undef, undef, undef, undef, undef, undef, undef, undef, undef, undef, undef, undef, undef, undef, undef, undef, undef, undef, undef, undef, undef, undef, undef, undef, undef, undef, undef, undef, undef, undef, undef, undef, undef, undef, undef, undef, undef, undef, undef, undef]) rfl ?_
              refine hK33 _ _ ?_
              refine wp_seq_k (fun K38 hK39 => ?_)
              refine wp_seq_k (fun K40 hK41 => ?_)
              refine c_region (fun ops43 hops42 => ?_)
              clear hops42
              refine p_run (l' := _) _ (x_move (.slice A1 l1.length c1) rfl rfl) rfl ?_
              refine p_run (l' := _) _ (x_len rfl rfl Try.underlying35) rfl ?_
              refine p_run (l' := _) _ (x_move (.int .i64 0) rfl rfl) rfl ?_
              refine wpList_nil ?_
              refine fr_at (l' := [.int .i64 pages, .slice A1 l1.length c1, .slice A2 l2.length c2, undef, undef, undef, .bool false, .pointer (some ⟨D22, 0, none⟩), .pointer (some ⟨D27, 0, none⟩), v36, undef, undef, undef, undef, undef, undef, undef, .bool true, .bool false, .int .i64 pages, .bool false, .bool false, .int .i64 pages, .bool false, .bool false, .bool false, .slice A1 l1.length c1, .int .i64 (l1.length : Int), .bool false, .bool false, .bool false, .slice A2 l2.length c2, .int .i64 (l2.length : Int), .bool false, .bool false, .int .i64 pages, .pointer (some ⟨D22, 0, none⟩), .int .i64 pages, .pointer (some ⟨D27, 0, none⟩), v36, .slice A1 l1.length c1, .int .i64 (l1.length : Int), .int .i64 0, undef, undef, undef, undef, undef, undef, undef, undef, undef, undef, undef, undef, undef, undef, undef, undef, undef, undef, undef, undef, undef, undef, undef, undef, undef, undef, undef, undef, undef, undef, undef, undef, undef, undef, undef, undef, undef, undef, undef, undef, undef, undef, undef, undef, undef, undef, undef, undef, undef, undef, undef, undef, undef, undef, undef, undef, undef, undef, undef, undef, undef, undef, undef, undef, undef, undef, undef, undef, undef, undef, undef, undef, undef, undef, undef, undef, undef, undef, undef, undef, undef, undef, undef, undef]) rfl ?_
              refine hK41 _ _ ?_
              refine wp_block ?_
              refine c_loop (ι := Nat × Dk × Value × Value) (fun i_ a_ w_ => match i_ with | (i, S, v1, v2) => ∃ (u6 : Value) (u11 : Value) (u43 : Value) (u44 : Value) (u45 : Value) (u46 : Value) (u47 : Value) (u48 : Value) (u49 : Value) (u50 : Value) (u51 : Value) (u52 : Value) (u53 : Value) (u54 : Value) (u55 : Value) (u56 : Value) (u57 : Value) (u58 : Value) (u59 : Value) (u60 : Value) (u61 : Value) (u62 : Value) (u63 : Value) (u64 : Value) (u65 : Value) (u66 : Value) (u67 : Value) (u68 : Value) (u69 : Value) (u70 : Value) (u71 : Value) (u72 : Value) (u73 : Value), a_ = fr [.int .i64 pages, .slice A1 l1.length c1, .slice A2 l2.length c2, undef, undef, undef, u6, .pointer (some ⟨D22, 0, none⟩), .pointer (some ⟨D27, 0, none⟩), v36, undef, u11, undef, undef, undef, undef, undef, .bool true, .bool false, .int .i64 pages, .bool false, .bool false, .int .i64 pages, .bool false, .bool false, .bool false, .slice A1 l1.length c1, .int .i64 (l1.length : Int), .bool false, .bool false, .bool false, .slice A2 l2.length c2, .int .i64 (l2.length : Int), .bool false, .bool false, .int .i64 pages, .pointer (some ⟨D22, 0, none⟩), .int .i64 pages, .pointer (some ⟨D27, 0, none⟩), v36, .slice A1 l1.length c1, .int .i64 (l1.length : Int), .int .i64 (i : Int), u43, u44, u45, u46, u47, u48, u49, u50, u51, u52, u53, u54, u55, u56, u57, u58, u59, u60, u61, u62, u63, u64, u65, u66, u67, u68, u69, u70, u71, u72, u73, undef, undef, undef, undef, undef, undef, undef, undef, undef, undef, undef, undef, undef, undef, undef, undef, undef, undef, undef, undef, undef, undef, undef, undef, undef, undef, undef, undef, undef, undef, undef, undef, undef, undef, undef, undef, undef, undef, undef, undef, undef, undef, undef, undef, undef, undef, undef, undef, undef, undef, undef, undef, undef] ∧ St w (fun _ => False) w_ ([blk D22 (dskC gs23 gm24 v1 S) 66, blk gs23 (pgs S.stable) 31, mapR gm24 S.cnt S.bad, row kWr rfl 71 v1 S.pending, blk D27 (dskC gs28 gm29 v2 S) 66, blk gs28 (pgs S.stable) 31, mapR gm29 S.cnt S.bad, row kWr rfl 71 v2 S.pending, row (Kd.int .u8) rfl 5 v36 []]) ∧ (AgI pages i S ∧ i ≤ l1.length)) (fun i_ => match i_ with | (i, S, v1, v2) => l1.length - i) (0, (Dk.new pages), .slice none 0 0, .slice none 0 0) ?_ ?_
              · exact ⟨_, _, _, _, _, _, _, _, _, _, _, _, _, _, _, _, _, _, _, _, _, _, _, _, _, _, _, _, _, _, _, _, _, rfl, ((((((((HS.front 4 rfl).front 4 rfl).front 4 rfl).front 4 rfl).front 8 rfl).front 8 rfl).front 8 rfl).front 8 rfl), ⟨ag_start h0 h1, Nat.zero_le _⟩⟩
              · clear HS
                rintro ⟨i, S, v1, v2⟩ a_ w46 ⟨u6, u11, u43, u44, u45, u46, u47, u48, u49, u50, u51, u52, u53, u54, u55, u56, u57, u58, u59, u60, u61, u62, u63, u64, u65, u66, u67, u68, u69, u70, u71, u72, u73, rfl, HS, hI⟩ J44 hJ45
                obtain ⟨hI, hil⟩ := hI
                refine wp_seq_k (fun K47 hK48 => ?_)
                refine c_region (fun ops50 hops49 => ?_)
                clear hops49
                refine p_run (l' := _) _ (x_cmp (k := .i64) (m := (i : Int)) (n := (l1.length : Int)) .lss (decide ((i : Int) < (l1.length : Int))) rfl rfl rfl rfl rfl) rfl ?_
                refine wpList_nil ?_
                refine fr_at (l' := [.int .i64 pages, .slice A1 l1.length c1, .slice A2 l2.length c2, undef, undef, undef, u6, .pointer (some ⟨D22, 0, none⟩), .pointer (some ⟨D27, 0, none⟩), v36, undef, u11, undef, undef, undef, undef, undef, .bool true, .bool false, .int .i64 pages, .bool false, .bool false, .int .i64 pages, .bool false, .bool false, .bool false, .slice A1 l1.length c1, .int .i64 (l1.length : Int), .bool false, .bool false, .bool false, .slice A2 l2.length c2, .int .i64 (l2.length : Int), .bool false, .bool false, .int .i64 pages, .pointer (some ⟨D22, 0, none⟩), .int .i64 pages, .pointer (some ⟨D27, 0, none⟩), v36, .slice A1 l1.length c1, .int .i64 (l1.length : Int), .int .i64 (i : Int), .bool (decide ((i : Int) < (l1.length : Int))), u44, u45, u46, u47, u48, u49, u50, u51, u52, u53, u54, u55, u56, u57, u58, u59, u60, u61, u62, u63, u64, u65, u66, u67, u68, u69, u70, u71, u72, u73, undef, undef, undef, undef, undef, undef, undef, undef, undef, undef, undef, undef, undef, undef, undef, undef, undef, undef, undef, undef, undef, undef, undef, undef, undef, undef, undef, undef, undef, undef, undef, undef, undef, undef, undef, undef, undef, undef, undef, undef, undef, undef, undef, undef, undef, undef, undef, undef, undef, undef, undef, undef, undef]) rfl ?_
                refine hK48 _ _ ?_
                refine wp_seq_k (fun K51 hK52 => ?_)
                refine c_cond (t := decide ((i : Int) < (l1.length : Int))) rfl (fun hc53 => ?_) (fun hc53 => ?_)
                · have hlt0 := of_decide_eq_true hc53
                  have hlt : i < l1.length := by omega
                  obtain ⟨ad, y, A3, c3, rfl, hy, hl3, hC3, hcell⟩ := dA_get (Kd.C_below hr1 HS.belowOf) i hlt
                  refine wp_skip ?_
                  refine hK52 _ _ ?_
                  refine wp_seq_k (fun K54 hK55 => ?_)
                  refine wp_block ?_
                  refine wp_seq_k (fun K56 hK57 => ?_)
                  refine c_region (fun ops59 hops58 => ?_)
                  clear hops58
                  refine p_run (l' := _) _ (x_index (A := ad) (j := i * 4) (sz := 4) rfl rfl rfl Try.underlying35 (by kernel_rfl) (by omega) rfl) rfl ?_
                  refine p_run (l' := _) _ (x_loads [.int .i64 y.1, .int .i64 y.2.1, .int .u8 y.2.2.1, .slice A3 y.2.2.2.length c3] 4 rfl rfl hcell (by rfl) (by kernel_rfl) rfl) rfl ?_
                  refine St.wAlloc HS (cs := [.int .i64 0, .int .i64 0, .int .u8 0, .slice none 0 0]) (.agg [.int .i64 0, .int .i64 0, .int .u8 0, .slice none 0 0].toArray) (by kernel_rfl) rfl ?_
                  clear HS
                  intro g60 w61 hg62 HS
                  refine St.stores (cs' := [.int .i64 y.1, .int .i64 y.2.1, .int .u8 y.2.2.1, .slice A3 y.2.2.2.length c3]) HS [.int .i64 y.1, .int .i64 y.2.1, .int .u8 y.2.2.1, .slice A3 y.2.2.2.length c3] 4 rfl rfl (by rfl) (by kernel_rfl) rfl (by simp) rfl ?_
                  clear HS
                  intro w63 HS
                  refine wpList_nil ?_
                  refine fr_at (l' := [.int .i64 pages, .slice (some ad) l1.length c1, .slice A2 l2.length c2, undef, undef, undef, u6, .pointer (some ⟨D22, 0, none⟩), .pointer (some ⟨D27, 0, none⟩), v36, undef, .pointer (some ⟨g60, 0, none⟩), undef, undef, undef, undef, undef, .bool true, .bool false, .int .i64 pages, .bool false, .bool false, .int .i64 pages, .bool false, .bool false, .bool false, .slice (some ad) l1.length c1, .int .i64 (l1.length : Int), .bool false, .bool false, .bool false, .slice A2 l2.length c2, .int .i64 (l2.length : Int), .bool false, .bool false, .int .i64 pages, .pointer (some ⟨D22, 0, none⟩), .int .i64 pages, .pointer (some ⟨D27, 0, none⟩), v36, .slice (some ad) l1.length c1, .int .i64 (l1.length : Int), .int .i64 (i : Int), .bool (decide ((i : Int) < (l1.length : Int))), .pointer (some ((ad).add (i * 4))), .agg ([.int .i64 y.1, .int .i64 y.2.1, .int .u8 y.2.2.1, .slice A3 y.2.2.2.length c3] : List Value).toArray, u46, u47, u48, u49, u50, u51, u52, u53, u54, u55, u56, u57, u58, u59, u60, u61, u62, u63, u64, u65, u66, u67, u68, u69, u70, u71, u72, u73, undef, undef, undef, undef, undef, undef, undef, undef, undef, undef, undef, undef, undef, undef, undef, undef, undef, undef, undef, undef, undef, undef, undef, undef, undef, undef, undef, undef, undef, undef, undef, undef, undef, undef, undef, undef, undef, undef, undef, undef, undef, undef, undef, undef, undef, undef, undef, undef, undef, undef, undef, undef, undef]) rfl ?_
                  refine hK57 _ _ ?_
                  refine wp_seq_k (fun K64 hK65 => ?_)
                  refine wp_seq_k (fun K66 hK67 => ?_)
                  by_cases hk : y.1 = 0
                  · skip
                    refine free_frame (n := 20) (T := _) [0, 1, 3, 7, 15, 15, 47, 15, 143, 399, 1023, 15, 15, 4111, 15, 16399, 51199, 131071, 262143, 524287] [(0, 46), (1, 47), (2, 48), (3, 49), (4, 50), (5, 51), (6, 52), (7, 53), (8, 54), (9, 55), (10, 56), (11, 57), (12, 58), (13, 59), (14, 60), (15, 61), (16, 62), (17, 63), (18, 64), (19, 65)] (fun bq_ vq_ w_ => qv ((fun i_ => match i_ with | 0 => some (.pointer (some ⟨g60, 0, none⟩)) | 1 => some (.int .i64 y.1) | 2 => some (.bool true) | 3 => some (.bool true) | 4 => some (.pointer (some ⟨D22, 0, none⟩)) | 5 => some (.pointer (some ⟨g60, 1, none⟩)) | 6 => some (.int .i64 y.2.1) | 7 => some (.pointer (some ⟨g60, 2, none⟩)) | 8 => some (.int .u8 y.2.2.1) | 11 => some (.pointer (some ⟨D27, 0, none⟩)) | 12 => some (.pointer (some ⟨g60, 1, none⟩)) | 13 => some (.int .i64 y.2.1) | 14 => some (.pointer (some ⟨g60, 2, none⟩)) | 15 => some (.int .u8 y.2.2.1) | 18 => some (.bool false) | 19 => some (.bool false) | _ => none) : Nat → Option Value) bq_ vq_ ∧ cond (bq_ 17) (∃ (v71 : Value) (v75 : Value), vq_ 9 = .agg ((nums .u8 (rep y.2.2.1))).toArray ∧ vq_ 10 = .int .i64 (S.writeE y.2.1) ∧ vq_ 16 = .agg ((nums .u8 (rep y.2.2.1))).toArray ∧ vq_ 17 = .int .i64 (S.writeE y.2.1) ∧ St w (fun _ => False) w_ ([blk D27 (dskC gs28 gm29 v75 (S.write y.2.1 (rep y.2.2.1))) 66, blk gs28 (pgs (S.write y.2.1 (rep y.2.2.1)).stable) 31, mapR gm29 (S.write y.2.1 (rep y.2.2.1)).cnt (S.write y.2.1 (rep y.2.2.1)).bad, row kWr rfl 71 v75 (S.write y.2.1 (rep y.2.2.1)).pending, blk D22 (dskC gs23 gm24 v71 (S.write y.2.1 (rep y.2.2.1))) 66, blk gs23 (pgs (S.write y.2.1 (rep y.2.2.1)).stable) 31, mapR gm24 (S.write y.2.1 (rep y.2.2.1)).cnt (S.write y.2.1 (rep y.2.2.1)).bad, row kWr rfl 71 v71 (S.write y.2.1 (rep y.2.2.1)).pending, blk g60 [.int .i64 y.1, .int .i64 y.2.1, .int .u8 y.2.2.1, .slice A3 y.2.2.2.length c3] 38, row (Kd.int .u8) rfl 5 v36 []])) (cond (bq_ 16) (∃ (v71 : Value), vq_ 9 = .agg ((nums .u8 (rep y.2.2.1))).toArray ∧ vq_ 10 = .int .i64 (S.writeE y.2.1) ∧ vq_ 16 = .agg ((nums .u8 (rep y.2.2.1))).toArray ∧ St w (fun _ => False) w_ ([blk D22 (dskC gs23 gm24 v71 (S.write y.2.1 (rep y.2.2.1))) 66, blk gs23 (pgs (S.write y.2.1 (rep y.2.2.1)).stable) 31, mapR gm24 (S.write y.2.1 (rep y.2.2.1)).cnt (S.write y.2.1 (rep y.2.2.1)).bad, row kWr rfl 71 v71 (S.write y.2.1 (rep y.2.2.1)).pending, blk g60 [.int .i64 y.1, .int .i64 y.2.1, .int .u8 y.2.2.1, .slice A3 y.2.2.2.length c3] 38, blk D27 (dskC gs28 gm29 v2 S) 66, blk gs28 (pgs S.stable) 31, mapR gm29 S.cnt S.bad, row kWr rfl 71 v2 S.pending, row (Kd.int .u8) rfl 5 v36 []])) (cond (bq_ 10) (∃ (v71 : Value), vq_ 9 = .agg ((nums .u8 (rep y.2.2.1))).toArray ∧ vq_ 10 = .int .i64 (S.writeE y.2.1) ∧ St w (fun _ => False) w_ ([blk D22 (dskC gs23 gm24 v71 (S.write y.2.1 (rep y.2.2.1))) 66, blk gs23 (pgs (S.write y.2.1 (rep y.2.2.1)).stable) 31, mapR gm24 (S.write y.2.1 (rep y.2.2.1)).cnt (S.write y.2.1 (rep y.2.2.1)).bad, row kWr rfl 71 v71 (S.write y.2.1 (rep y.2.2.1)).pending, blk g60 [.int .i64 y.1, .int .i64 y.2.1, .int .u8 y.2.2.1, .slice A3 y.2.2.2.length c3] 38, blk D27 (dskC gs28 gm29 v2 S) 66, blk gs28 (pgs S.stable) 31, mapR gm29 S.cnt S.bad, row kWr rfl 71 v2 S.pending, row (Kd.int .u8) rfl 5 v36 []])) (cond (bq_ 9) (vq_ 9 = .agg ((nums .u8 (rep y.2.2.1))).toArray ∧ St w (fun _ => False) w_ ([blk g60 [.int .i64 y.1, .int .i64 y.2.1, .int .u8 y.2.2.1, .slice A3 y.2.2.2.length c3] 38, blk D22 (dskC gs23 gm24 v1 S) 66, blk gs23 (pgs S.stable) 31, mapR gm24 S.cnt S.bad, row kWr rfl 71 v1 S.pending, blk D27 (dskC gs28 gm29 v2 S) 66, blk gs28 (pgs S.stable) 31, mapR gm29 S.cnt S.bad, row kWr rfl 71 v2 S.pending, row (Kd.int .u8) rfl 5 v36 []])) ((St w (fun _ => False) w_ ([blk g60 [.int .i64 y.1, .int .i64 y.2.1, .int .u8 y.2.2.1, .slice A3 y.2.2.2.length c3] 38, blk D22 (dskC gs23 gm24 v1 S) 66, blk gs23 (pgs S.stable) 31, mapR gm24 S.cnt S.bad, row kWr rfl 71 v1 S.pending, blk D27 (dskC gs28 gm29 v2 S) 66, blk gs28 (pgs S.stable) 31, mapR gm29 S.cnt S.bad, row kWr rfl 71 v2 S.pending, row (Kd.int .u8) rfl 5 v36 []]))))))) (by kernel_rfl) rfl rfl (by kernel_rfl) (by kernel_rfl) rfl (by kernel_rfl) (by kernel_rfl) ⟨qv_none, HS.draw⟩ ?_ ?_
                    · clear HS
                      intro i_ hi_ bq_ vq_ a_ w_ hG hb_ hon hoff hfr hel hval
                      obtain ⟨hV, hE⟩ := hG
                      have hi_ := List.mem_range.1 hi_
                      have hcs : i_ = 0 ∨ i_ = 1 ∨ i_ = 2 ∨ i_ = 3 ∨ i_ = 4 ∨ i_ = 5 ∨ i_ = 6 ∨ i_ = 7 ∨ i_ = 8 ∨ i_ = 9 ∨ i_ = 10 ∨ i_ = 11 ∨ i_ = 12 ∨ i_ = 13 ∨ i_ = 14 ∨ i_ = 15 ∨ i_ = 16 ∨ i_ = 17 ∨ i_ = 18 ∨ i_ = 19 := by omega
                      rcases hcs with rfl | rfl | rfl | rfl | rfl | rfl | rfl | rfl | rfl | rfl | rfl | rfl | rfl | rfl | rfl | rfl | rfl | rfl | rfl | rfl
                      · have h11 : a_.tmps[11]? = some (.pointer (some ⟨g60, 0, none⟩)) := (hel 11 (by decide)).trans rfl
                        obtain ⟨l_, rfl⟩ := hfr
                        have e11 : evl l_ (.tmp 11) = .pointer (some ⟨g60, 0, none⟩) := evl_of h11
                        refine ⟨_, rfl, fun K_ hK_ => wp_of_list rfl ?_⟩
                        intro ops_
                        refine p_run (l' := _) _ (x_field (j := 0) _ _ rfl e11 Try.underlying38 rfl (by rfl) rfl) rfl ?_
                        refine wpList_nil ?_
                        exact norm_put (hK_ (.pointer (some ⟨g60, 0, none⟩)) _ ⟨qv_up hV (fun _ h => Option.some.inj h), hE⟩)
                      · have h46 : a_.tmps[46]? = some (.pointer (some ⟨g60, 0, none⟩)) := (hval (0, 46) (by decide) (hon 0 (by decide))).trans (congrArg some (hV 0 _ rfl (hon 0 (by decide))))
                        obtain ⟨l_, rfl⟩ := hfr
                        have hE0 := hE
                        rw [show bq_ 17 = false from (hoff 17 (by decide))] at hE0
                        rw [show bq_ 16 = false from (hoff 16 (by decide))] at hE0
                        rw [show bq_ 10 = false from (hoff 10 (by decide))] at hE0
                        rw [show bq_ 9 = false from (hoff 9 (by decide))] at hE0
                        simp only [cond_true, cond_false] at hE0
                        have HS := hE0
                        have e46 : evl l_ (.tmp 46) = .pointer (some ⟨g60, 0, none⟩) := evl_of h46
                        refine ⟨_, rfl, fun K_ hK_ => wp_of_list rfl ?_⟩
                        intro ops_
                        refine p_run (l' := _) _ (x_load (.int .i64 y.1) rfl e46 (bkCell (HS.get (.head _)) 0 _ rfl) (by rfl)) rfl ?_
                        refine wpList_nil ?_
                        exact norm_put (hK_ (.int .i64 y.1) _ ⟨qv_up hV (fun _ h => Option.some.inj h), hE⟩)
                      · have h47 : a_.tmps[47]? = some (.int .i64 y.1) := (hval (1, 47) (by decide) (hon 1 (by decide))).trans (congrArg some (hV 1 _ rfl (hon 1 (by decide))))
                        obtain ⟨l_, rfl⟩ := hfr
                        have e47 : evl l_ (.tmp 47) = .int .i64 y.1 := evl_of h47
                        refine ⟨_, rfl, fun K_ hK_ => wp_of_list rfl ?_⟩
                        intro ops_
                        refine p_run (l' := _) _ (x_cmp (k := .i64) (m := y.1) (n := 0) .eql true rfl e47 rfl (beq_iff_eq.2 hk) rfl) rfl ?_
                        refine wpList_nil ?_
                        exact norm_put (hK_ (.bool true) _ ⟨qv_up hV (fun _ h => Option.some.inj h), hE⟩)
                      · have h48 : a_.tmps[48]? = some (.bool true) := (hval (2, 48) (by decide) (hon 2 (by decide))).trans (congrArg some (hV 2 _ rfl (hon 2 (by decide))))
                        obtain ⟨l_, rfl⟩ := hfr
                        have e48 : evl l_ (.tmp 48) = .bool true := evl_of h48
                        refine ⟨_, rfl, fun K_ hK_ => wp_of_list rfl ?_⟩
                        intro ops_
                        refine p_run (l' := _) _ (x_move (.bool true) rfl e48) rfl ?_
                        refine wpList_nil ?_
                        exact norm_put (hK_ (.bool true) _ ⟨qv_up hV (fun _ h => Option.some.inj h), hE⟩)
                      · have h7 : a_.tmps[7]? = some (.pointer (some ⟨D22, 0, none⟩)) := (hel 7 (by decide)).trans rfl
                        have h49 : a_.tmps[49]? = some (.bool true) := (hval (3, 49) (by decide) (hon 3 (by decide))).trans (congrArg some (hV 3 _ rfl (hon 3 (by decide))))
                        obtain ⟨l_, rfl⟩ := hfr
                        have e7 : evl l_ (.tmp 7) = .pointer (some ⟨D22, 0, none⟩) := evl_of h7
                        have e49 : evl l_ (.tmp 49) = .bool true := evl_of h49
                        refine ⟨_, rfl, fun K_ hK_ => wp_of_listG rfl (wanted_on (t := 49) rfl rfl rfl h49) ?_⟩
                        intro ops_
                        refine p_run (l' := _) _ (x_move (.pointer (some ⟨D22, 0, none⟩)) rfl e7) rfl ?_
                        refine wpList_nil ?_
                        exact norm_put (hK_ (.pointer (some ⟨D22, 0, none⟩)) _ ⟨qv_up hV (fun _ h => Option.some.inj h), hE⟩)
                      · have h11 : a_.tmps[11]? = some (.pointer (some ⟨g60, 0, none⟩)) := (hel 11 (by decide)).trans rfl
                        have h49 : a_.tmps[49]? = some (.bool true) := (hval (3, 49) (by decide) (hon 3 (by decide))).trans (congrArg some (hV 3 _ rfl (hon 3 (by decide))))
                        obtain ⟨l_, rfl⟩ := hfr
                        have e11 : evl l_ (.tmp 11) = .pointer (some ⟨g60, 0, none⟩) := evl_of h11
                        have e49 : evl l_ (.tmp 49) = .bool true := evl_of h49
                        refine ⟨_, rfl, fun K_ hK_ => wp_of_listG rfl (wanted_on (t := 49) rfl rfl rfl h49) ?_⟩
                        intro ops_
                        refine p_run (l' := _) _ (x_field (j := 1) _ _ rfl e11 Try.underlying38 rfl (by rfl) rfl) rfl ?_
                        refine wpList_nil ?_
                        exact norm_put (hK_ (.pointer (some ⟨g60, 1, none⟩)) _ ⟨qv_up hV (fun _ h => Option.some.inj h), hE⟩)
                      · have h49 : a_.tmps[49]? = some (.bool true) := (hval (3, 49) (by decide) (hon 3 (by decide))).trans (congrArg some (hV 3 _ rfl (hon 3 (by decide))))
                        have h51 : a_.tmps[51]? = some (.pointer (some ⟨g60, 1, none⟩)) := (hval (5, 51) (by decide) (hon 5 (by decide))).trans (congrArg some (hV 5 _ rfl (hon 5 (by decide))))
                        obtain ⟨l_, rfl⟩ := hfr
                        rcases hq9 : bq_ 9 with _ | _
                        · skip
                          have hE0 := hE
                          rw [show bq_ 17 = false from (hoff 17 (by decide))] at hE0
                          rw [show bq_ 16 = false from (hoff 16 (by decide))] at hE0
                          rw [show bq_ 10 = false from (hoff 10 (by decide))] at hE0
                          rw [show bq_ 9 = false from hq9] at hE0
                          simp only [cond_true, cond_false] at hE0
                          have HS := hE0
                          have e49 : evl l_ (.tmp 49) = .bool true := evl_of h49
                          have e51 : evl l_ (.tmp 51) = .pointer (some ⟨g60, 1, none⟩) := evl_of h51
                          refine ⟨_, rfl, fun K_ hK_ => wp_of_listG rfl (wanted_on (t := 49) rfl rfl rfl h49) ?_⟩
                          intro ops_
                          refine p_run (l' := _) _ (x_load (.int .i64 y.2.1) rfl e51 (bkCell (HS.get (.head _)) 1 _ rfl) (by rfl)) rfl ?_
                          refine wpList_nil ?_
                          exact norm_put (hK_ (.int .i64 y.2.1) _ ⟨qv_up hV (fun _ h => Option.some.inj h), hE⟩)
                        · have hE0 := hE
                          rw [show bq_ 17 = false from (hoff 17 (by decide))] at hE0
                          rw [show bq_ 16 = false from (hoff 16 (by decide))] at hE0
                          rw [show bq_ 10 = false from (hoff 10 (by decide))] at hE0
                          rw [show bq_ 9 = true from hq9] at hE0
                          simp only [cond_true, cond_false] at hE0
                          obtain ⟨hv9, HS⟩ := hE0
                          have e49 : evl l_ (.tmp 49) = .bool true := evl_of h49
                          have e51 : evl l_ (.tmp 51) = .pointer (some ⟨g60, 1, none⟩) := evl_of h51
                          refine ⟨_, rfl, fun K_ hK_ => wp_of_listG rfl (wanted_on (t := 49) rfl rfl rfl h49) ?_⟩
                          intro ops_
                          refine p_run (l' := _) _ (x_load (.int .i64 y.2.1) rfl e51 (bkCell (HS.get (.head _)) 1 _ rfl) (by rfl)) rfl ?_
                          refine wpList_nil ?_
                          exact norm_put (hK_ (.int .i64 y.2.1) _ ⟨qv_up hV (fun _ h => Option.some.inj h), hE⟩)
                      · have h11 : a_.tmps[11]? = some (.pointer (some ⟨g60, 0, none⟩)) := (hel 11 (by decide)).trans rfl
                        have h49 : a_.tmps[49]? = some (.bool true) := (hval (3, 49) (by decide) (hon 3 (by decide))).trans (congrArg some (hV 3 _ rfl (hon 3 (by decide))))
                        obtain ⟨l_, rfl⟩ := hfr
                        have e11 : evl l_ (.tmp 11) = .pointer (some ⟨g60, 0, none⟩) := evl_of h11
                        have e49 : evl l_ (.tmp 49) = .bool true := evl_of h49
                        refine ⟨_, rfl, fun K_ hK_ => wp_of_listG rfl (wanted_on (t := 49) rfl rfl rfl h49) ?_⟩
                        intro ops_
                        refine p_run (l' := _) _ (x_field (j := 2) _ _ rfl e11 Try.underlying38 rfl (by rfl) rfl) rfl ?_
                        refine wpList_nil ?_
                        exact norm_put (hK_ (.pointer (some ⟨g60, 2, none⟩)) _ ⟨qv_up hV (fun _ h => Option.some.inj h), hE⟩)
                      · have h49 : a_.tmps[49]? = some (.bool true) := (hval (3, 49) (by decide) (hon 3 (by decide))).trans (congrArg some (hV 3 _ rfl (hon 3 (by decide))))
                        have h53 : a_.tmps[53]? = some (.pointer (some ⟨g60, 2, none⟩)) := (hval (7, 53) (by decide) (hon 7 (by decide))).trans (congrArg some (hV 7 _ rfl (hon 7 (by decide))))
                        obtain ⟨l_, rfl⟩ := hfr
                        have hE0 := hE
                        rw [show bq_ 17 = false from (hoff 17 (by decide))] at hE0
                        rw [show bq_ 16 = false from (hoff 16 (by decide))] at hE0
                        rw [show bq_ 10 = false from (hoff 10 (by decide))] at hE0
                        rw [show bq_ 9 = false from (hoff 9 (by decide))] at hE0
                        simp only [cond_true, cond_false] at hE0
                        have HS := hE0
                        have e49 : evl l_ (.tmp 49) = .bool true := evl_of h49
                        have e53 : evl l_ (.tmp 53) = .pointer (some ⟨g60, 2, none⟩) := evl_of h53
                        refine ⟨_, rfl, fun K_ hK_ => wp_of_listG rfl (wanted_on (t := 49) rfl rfl rfl h49) ?_⟩
                        intro ops_
                        refine p_run (l' := _) _ (x_load (.int .u8 y.2.2.1) rfl e53 (bkCell (HS.get (.head _)) 2 _ rfl) (by rfl)) rfl ?_
                        refine wpList_nil ?_
                        exact norm_put (hK_ (.int .u8 y.2.2.1) _ ⟨qv_up hV (fun _ h => Option.some.inj h), hE⟩)
                      · have h49 : a_.tmps[49]? = some (.bool true) := (hval (3, 49) (by decide) (hon 3 (by decide))).trans (congrArg some (hV 3 _ rfl (hon 3 (by decide))))
                        have h54 : a_.tmps[54]? = some (.int .u8 y.2.2.1) := (hval (8, 54) (by decide) (hon 8 (by decide))).trans (congrArg some (hV 8 _ rfl (hon 8 (by decide))))
                        obtain ⟨l_, rfl⟩ := hfr
                        have hE0 := hE
                        rw [show bq_ 17 = false from (hoff 17 (by decide))] at hE0
                        rw [show bq_ 16 = false from (hoff 16 (by decide))] at hE0
                        rw [show bq_ 10 = false from (hoff 10 (by decide))] at hE0
                        rw [show bq_ 9 = false from hb_] at hE0
                        simp only [cond_true, cond_false] at hE0
                        have HS := hE0
                        have e49 : evl l_ (.tmp 49) = .bool true := evl_of h49
                        have e54 : evl l_ (.tmp 54) = .int .u8 y.2.2.1 := evl_of h54
                        refine ⟨_, rfl, fun K_ hK_ => wp_of_listG rfl (wanted_on (t := 49) rfl rfl rfl h49) ?_⟩
                        intro ops_
                        refine w_call [.int .u8 y.2.2.1] Try.func14 (by kernel_rfl) (by rfl) (by simp only [List.map_cons, List.map_nil, e54] <;> rfl) ?_
                        refine (full_any HS y.2.2.1).mono ?_
                        clear HS
                        rintro e w900901 ⟨rfl, HS⟩
                        refine ⟨_, rfl, ?_⟩
                        refine wpList_nil ?_
                        refine norm_put (hK_ (.agg ((nums .u8 (rep y.2.2.1))).toArray) _ ⟨qv_up hV (by intro _ h; cases h), ?_⟩)
                        show cond (bq_ 17) _ _
                        rw [show bq_ 17 = false from hoff 17 (by decide), cond_false]
                        show cond (bq_ 16) _ _
                        rw [show bq_ 16 = false from hoff 16 (by decide), cond_false]
                        show cond (bq_ 10) _ _
                        rw [show bq_ 10 = false from hoff 10 (by decide), cond_false]
                        show cond true _ _
                        rw [cond_true]
                        exact ⟨rfl, ((((((((((HS.front 9 rfl).front 9 rfl).front 9 rfl).front 9 rfl).front 9 rfl).front 9 rfl).front 9 rfl).front 9 rfl).front 9 rfl).front 9 rfl)⟩
                      · have h49 : a_.tmps[49]? = some (.bool true) := (hval (3, 49) (by decide) (hon 3 (by decide))).trans (congrArg some (hV 3 _ rfl (hon 3 (by decide))))
                        have h50 : a_.tmps[50]? = some (.pointer (some ⟨D22, 0, none⟩)) := (hval (4, 50) (by decide) (hon 4 (by decide))).trans (congrArg some (hV 4 _ rfl (hon 4 (by decide))))
                        have h52 : a_.tmps[52]? = some (.int .i64 y.2.1) := (hval (6, 52) (by decide) (hon 6 (by decide))).trans (congrArg some (hV 6 _ rfl (hon 6 (by decide))))
                        have h55 := hval (9, 55) (by decide) (hon 9 (by decide))
                        obtain ⟨l_, rfl⟩ := hfr
                        have hE0 := hE
                        rw [show bq_ 17 = false from (hoff 17 (by decide))] at hE0
                        rw [show bq_ 16 = false from (hoff 16 (by decide))] at hE0
                        rw [show bq_ 10 = false from hb_] at hE0
                        rw [show bq_ 9 = true from (hon 9 (by decide))] at hE0
                        simp only [cond_true, cond_false] at hE0
                        obtain ⟨hv9, HS⟩ := hE0
                        rw [hv9] at h55
                        have e49 : evl l_ (.tmp 49) = .bool true := evl_of h49
                        have e50 : evl l_ (.tmp 50) = .pointer (some ⟨D22, 0, none⟩) := evl_of h50
                        have e52 : evl l_ (.tmp 52) = .int .i64 y.2.1 := evl_of h52
                        have e55 : evl l_ (.tmp 55) = .agg ((nums .u8 (rep y.2.2.1))).toArray := evl_of h55
                        refine ⟨_, rfl, fun K_ hK_ => wp_of_listG rfl (wanted_on (t := 49) rfl rfl rfl h49) ?_⟩
                        intro ops_
                        refine w_call [.pointer (some ⟨D22, 0, none⟩), .int .i64 y.2.1, .agg ((nums .u8 (rep y.2.2.1))).toArray] Try.func13 (by kernel_rfl) (by rfl) (by simp only [List.map_cons, List.map_nil, e50, e52, e55] <;> rfl) ?_
                        replace HS := ((((HS.front 4 rfl).front 4 rfl).front 4 rfl).front 4 rfl)
                        refine (write_any HS hI.1.lft (by have := hI.1.pn; omega) y.2.1 (rep y.2.2.1) (rep_len _)).mono ?_
                        clear HS
                        rintro e w901002 ⟨v901001, rfl, HS⟩
                        refine ⟨_, rfl, ?_⟩
                        refine wpList_nil ?_
                        refine norm_put (hK_ (.int .i64 (S.writeE y.2.1)) _ ⟨qv_up hV (by intro _ h; cases h), ?_⟩)
                        show cond (bq_ 17) _ _
                        rw [show bq_ 17 = false from hoff 17 (by decide), cond_false]
                        show cond (bq_ 16) _ _
                        rw [show bq_ 16 = false from hoff 16 (by decide), cond_false]
                        show cond true _ _
                        rw [cond_true]
                        exact ⟨v901001, hv9, rfl, ((((((((((HS.front 9 rfl).front 9 rfl).front 9 rfl).front 9 rfl).front 9 rfl).front 9 rfl).front 9 rfl).front 9 rfl).front 9 rfl).front 9 rfl)⟩
                      · have h8 : a_.tmps[8]? = some (.pointer (some ⟨D27, 0, none⟩)) := (hel 8 (by decide)).trans rfl
                        have h49 : a_.tmps[49]? = some (.bool true) := (hval (3, 49) (by decide) (hon 3 (by decide))).trans (congrArg some (hV 3 _ rfl (hon 3 (by decide))))
                        obtain ⟨l_, rfl⟩ := hfr
                        have e8 : evl l_ (.tmp 8) = .pointer (some ⟨D27, 0, none⟩) := evl_of h8
                        have e49 : evl l_ (.tmp 49) = .bool true := evl_of h49
                        refine ⟨_, rfl, fun K_ hK_ => wp_of_listG rfl (wanted_on (t := 49) rfl rfl rfl h49) ?_⟩
                        intro ops_
                        refine p_run (l' := _) _ (x_move (.pointer (some ⟨D27, 0, none⟩)) rfl e8) rfl ?_
                        refine wpList_nil ?_
                        exact norm_put (hK_ (.pointer (some ⟨D27, 0, none⟩)) _ ⟨qv_up hV (fun _ h => Option.some.inj h), hE⟩)
                      · have h11 : a_.tmps[11]? = some (.pointer (some ⟨g60, 0, none⟩)) := (hel 11 (by decide)).trans rfl
                        have h49 : a_.tmps[49]? = some (.bool true) := (hval (3, 49) (by decide) (hon 3 (by decide))).trans (congrArg some (hV 3 _ rfl (hon 3 (by decide))))
                        obtain ⟨l_, rfl⟩ := hfr
                        have e11 : evl l_ (.tmp 11) = .pointer (some ⟨g60, 0, none⟩) := evl_of h11
                        have e49 : evl l_ (.tmp 49) = .bool true := evl_of h49
                        refine ⟨_, rfl, fun K_ hK_ => wp_of_listG rfl (wanted_on (t := 49) rfl rfl rfl h49) ?_⟩
                        intro ops_
                        refine p_run (l' := _) _ (x_field (j := 1) _ _ rfl e11 Try.underlying38 rfl (by rfl) rfl) rfl ?_
                        refine wpList_nil ?_
                        exact norm_put (hK_ (.pointer (some ⟨g60, 1, none⟩)) _ ⟨qv_up hV (fun _ h => Option.some.inj h), hE⟩)
                      · have h49 : a_.tmps[49]? = some (.bool true) := (hval (3, 49) (by decide) (hon 3 (by decide))).trans (congrArg some (hV 3 _ rfl (hon 3 (by decide))))
                        have h58 : a_.tmps[58]? = some (.pointer (some ⟨g60, 1, none⟩)) := (hval (12, 58) (by decide) (hon 12 (by decide))).trans (congrArg some (hV 12 _ rfl (hon 12 (by decide))))
                        obtain ⟨l_, rfl⟩ := hfr
                        rcases hq16 : bq_ 16 with _ | _
                        · skip
                          rcases hq10 : bq_ 10 with _ | _
                          · skip
                            rcases hq9 : bq_ 9 with _ | _
                            · skip
                              have hE0 := hE
                              rw [show bq_ 17 = false from (hoff 17 (by decide))] at hE0
                              rw [show bq_ 16 = false from hq16] at hE0
                              rw [show bq_ 10 = false from hq10] at hE0
                              rw [show bq_ 9 = false from hq9] at hE0
                              simp only [cond_true, cond_false] at hE0
                              have HS := hE0
                              have e49 : evl l_ (.tmp 49) = .bool true := evl_of h49
                              have e58 : evl l_ (.tmp 58) = .pointer (some ⟨g60, 1, none⟩) := evl_of h58
                              refine ⟨_, rfl, fun K_ hK_ => wp_of_listG rfl (wanted_on (t := 49) rfl rfl rfl h49) ?_⟩
                              intro ops_
                              refine p_run (l' := _) _ (x_load (.int .i64 y.2.1) rfl e58 (bkCell (HS.get (.head _)) 1 _ rfl) (by rfl)) rfl ?_
                              refine wpList_nil ?_
                              exact norm_put (hK_ (.int .i64 y.2.1) _ ⟨qv_up hV (fun _ h => Option.some.inj h), hE⟩)
                            · have hE0 := hE
                              rw [show bq_ 17 = false from (hoff 17 (by decide))] at hE0
                              rw [show bq_ 16 = false from hq16] at hE0
                              rw [show bq_ 10 = false from hq10] at hE0
                              rw [show bq_ 9 = true from hq9] at hE0
                              simp only [cond_true, cond_false] at hE0
                              obtain ⟨hv9, HS⟩ := hE0
                              have e49 : evl l_ (.tmp 49) = .bool true := evl_of h49
                              have e58 : evl l_ (.tmp 58) = .pointer (some ⟨g60, 1, none⟩) := evl_of h58
                              refine ⟨_, rfl, fun K_ hK_ => wp_of_listG rfl (wanted_on (t := 49) rfl rfl rfl h49) ?_⟩
                              intro ops_
                              refine p_run (l' := _) _ (x_load (.int .i64 y.2.1) rfl e58 (bkCell (HS.get (.head _)) 1 _ rfl) (by rfl)) rfl ?_
                              refine wpList_nil ?_
                              exact norm_put (hK_ (.int .i64 y.2.1) _ ⟨qv_up hV (fun _ h => Option.some.inj h), hE⟩)
                          · have hE0 := hE
                            rw [show bq_ 17 = false from (hoff 17 (by decide))] at hE0
                            rw [show bq_ 16 = false from hq16] at hE0
                            rw [show bq_ 10 = true from hq10] at hE0
                            simp only [cond_true, cond_false] at hE0
                            obtain ⟨v71, hv9, hv10, HS⟩ := hE0
                            have e49 : evl l_ (.tmp 49) = .bool true := evl_of h49
                            have e58 : evl l_ (.tmp 58) = .pointer (some ⟨g60, 1, none⟩) := evl_of h58
                            refine ⟨_, rfl, fun K_ hK_ => wp_of_listG rfl (wanted_on (t := 49) rfl rfl rfl h49) ?_⟩
                            intro ops_
                            refine p_run (l' := _) _ (x_load (.int .i64 y.2.1) rfl e58 (bkCell (HS.get (.tail _ (.tail _ (.tail _ (.tail _ (.head _)))))) 1 _ rfl) (by rfl)) rfl ?_
                            refine wpList_nil ?_
                            exact norm_put (hK_ (.int .i64 y.2.1) _ ⟨qv_up hV (fun _ h => Option.some.inj h), hE⟩)
                        · have hE0 := hE
                          rw [show bq_ 17 = false from (hoff 17 (by decide))] at hE0
                          rw [show bq_ 16 = true from hq16] at hE0
                          simp only [cond_true, cond_false] at hE0
                          obtain ⟨v71, hv9, hv10, hv16, HS⟩ := hE0
                          have e49 : evl l_ (.tmp 49) = .bool true := evl_of h49
                          have e58 : evl l_ (.tmp 58) = .pointer (some ⟨g60, 1, none⟩) := evl_of h58
                          refine ⟨_, rfl, fun K_ hK_ => wp_of_listG rfl (wanted_on (t := 49) rfl rfl rfl h49) ?_⟩
                          intro ops_
                          refine p_run (l' := _) _ (x_load (.int .i64 y.2.1) rfl e58 (bkCell (HS.get (.tail _ (.tail _ (.tail _ (.tail _ (.head _)))))) 1 _ rfl) (by rfl)) rfl ?_
                          refine wpList_nil ?_
                          exact norm_put (hK_ (.int .i64 y.2.1) _ ⟨qv_up hV (fun _ h => Option.some.inj h), hE⟩)
                      · have h11 : a_.tmps[11]? = some (.pointer (some ⟨g60, 0, none⟩)) := (hel 11 (by decide)).trans rfl
                        have h49 : a_.tmps[49]? = some (.bool true) := (hval (3, 49) (by decide) (hon 3 (by decide))).trans (congrArg some (hV 3 _ rfl (hon 3 (by decide))))
                        obtain ⟨l_, rfl⟩ := hfr
                        have e11 : evl l_ (.tmp 11) = .pointer (some ⟨g60, 0, none⟩) := evl_of h11
                        have e49 : evl l_ (.tmp 49) = .bool true := evl_of h49
                        refine ⟨_, rfl, fun K_ hK_ => wp_of_listG rfl (wanted_on (t := 49) rfl rfl rfl h49) ?_⟩
                        intro ops_
                        refine p_run (l' := _) _ (x_field (j := 2) _ _ rfl e11 Try.underlying38 rfl (by rfl) rfl) rfl ?_
                        refine wpList_nil ?_
                        exact norm_put (hK_ (.pointer (some ⟨g60, 2, none⟩)) _ ⟨qv_up hV (fun _ h => Option.some.inj h), hE⟩)
                      · have h49 : a_.tmps[49]? = some (.bool true) := (hval (3, 49) (by decide) (hon 3 (by decide))).trans (congrArg some (hV 3 _ rfl (hon 3 (by decide))))
                        have h60 : a_.tmps[60]? = some (.pointer (some ⟨g60, 2, none⟩)) := (hval (14, 60) (by decide) (hon 14 (by decide))).trans (congrArg some (hV 14 _ rfl (hon 14 (by decide))))
                        obtain ⟨l_, rfl⟩ := hfr
                        rcases hq10 : bq_ 10 with _ | _
                        · skip
                          rcases hq9 : bq_ 9 with _ | _
                          · skip
                            have hE0 := hE
                            rw [show bq_ 17 = false from (hoff 17 (by decide))] at hE0
                            rw [show bq_ 16 = false from (hoff 16 (by decide))] at hE0
                            rw [show bq_ 10 = false from hq10] at hE0
                            rw [show bq_ 9 = false from hq9] at hE0
                            simp only [cond_true, cond_false] at hE0
                            have HS := hE0
                            have e49 : evl l_ (.tmp 49) = .bool true := evl_of h49
                            have e60 : evl l_ (.tmp 60) = .pointer (some ⟨g60, 2, none⟩) := evl_of h60
                            refine ⟨_, rfl, fun K_ hK_ => wp_of_listG rfl (wanted_on (t := 49) rfl rfl rfl h49) ?_⟩
                            intro ops_
                            refine p_run (l' := _) _ (x_load (.int .u8 y.2.2.1) rfl e60 (bkCell (HS.get (.head _)) 2 _ rfl) (by rfl)) rfl ?_
                            refine wpList_nil ?_
                            exact norm_put (hK_ (.int .u8 y.2.2.1) _ ⟨qv_up hV (fun _ h => Option.some.inj h), hE⟩)
                          · have hE0 := hE
                            rw [show bq_ 17 = false from (hoff 17 (by decide))] at hE0
                            rw [show bq_ 16 = false from (hoff 16 (by decide))] at hE0
                            rw [show bq_ 10 = false from hq10] at hE0
                            rw [show bq_ 9 = true from hq9] at hE0
                            simp only [cond_true, cond_false] at hE0
                            obtain ⟨hv9, HS⟩ := hE0
                            have e49 : evl l_ (.tmp 49) = .bool true := evl_of h49
                            have e60 : evl l_ (.tmp 60) = .pointer (some ⟨g60, 2, none⟩) := evl_of h60
                            refine ⟨_, rfl, fun K_ hK_ => wp_of_listG rfl (wanted_on (t := 49) rfl rfl rfl h49) ?_⟩
                            intro ops_
                            refine p_run (l' := _) _ (x_load (.int .u8 y.2.2.1) rfl e60 (bkCell (HS.get (.head _)) 2 _ rfl) (by rfl)) rfl ?_
                            refine wpList_nil ?_
                            exact norm_put (hK_ (.int .u8 y.2.2.1) _ ⟨qv_up hV (fun _ h => Option.some.inj h), hE⟩)
                        · have hE0 := hE
                          rw [show bq_ 17 = false from (hoff 17 (by decide))] at hE0
                          rw [show bq_ 16 = false from (hoff 16 (by decide))] at hE0
                          rw [show bq_ 10 = true from hq10] at hE0
                          simp only [cond_true, cond_false] at hE0
                          obtain ⟨v71, hv9, hv10, HS⟩ := hE0
                          have e49 : evl l_ (.tmp 49) = .bool true := evl_of h49
                          have e60 : evl l_ (.tmp 60) = .pointer (some ⟨g60, 2, none⟩) := evl_of h60
                          refine ⟨_, rfl, fun K_ hK_ => wp_of_listG rfl (wanted_on (t := 49) rfl rfl rfl h49) ?_⟩
                          intro ops_
                          refine p_run (l' := _) _ (x_load (.int .u8 y.2.2.1) rfl e60 (bkCell (HS.get (.tail _ (.tail _ (.tail _ (.tail _ (.head _)))))) 2 _ rfl) (by rfl)) rfl ?_
                          refine wpList_nil ?_
                          exact norm_put (hK_ (.int .u8 y.2.2.1) _ ⟨qv_up hV (fun _ h => Option.some.inj h), hE⟩)
                      · have h49 : a_.tmps[49]? = some (.bool true) := (hval (3, 49) (by decide) (hon 3 (by decide))).trans (congrArg some (hV 3 _ rfl (hon 3 (by decide))))
                        have h61 : a_.tmps[61]? = some (.int .u8 y.2.2.1) := (hval (15, 61) (by decide) (hon 15 (by decide))).trans (congrArg some (hV 15 _ rfl (hon 15 (by decide))))
                        obtain ⟨l_, rfl⟩ := hfr
                        have hE0 := hE
                        rw [show bq_ 17 = false from (hoff 17 (by decide))] at hE0
                        rw [show bq_ 16 = false from hb_] at hE0
                        rw [show bq_ 10 = true from (hon 10 (by decide))] at hE0
                        simp only [cond_true, cond_false] at hE0
                        obtain ⟨v71, hv9, hv10, HS⟩ := hE0
                        have e49 : evl l_ (.tmp 49) = .bool true := evl_of h49
                        have e61 : evl l_ (.tmp 61) = .int .u8 y.2.2.1 := evl_of h61
                        refine ⟨_, rfl, fun K_ hK_ => wp_of_listG rfl (wanted_on (t := 49) rfl rfl rfl h49) ?_⟩
                        intro ops_
                        refine w_call [.int .u8 y.2.2.1] Try.func14 (by kernel_rfl) (by rfl) (by simp only [List.map_cons, List.map_nil, e61] <;> rfl) ?_
                        refine (full_any HS y.2.2.1).mono ?_
                        clear HS
                        rintro e w901601 ⟨rfl, HS⟩
                        refine ⟨_, rfl, ?_⟩
                        refine wpList_nil ?_
                        refine norm_put (hK_ (.agg ((nums .u8 (rep y.2.2.1))).toArray) _ ⟨qv_up hV (by intro _ h; cases h), ?_⟩)
                        show cond (bq_ 17) _ _
                        rw [show bq_ 17 = false from hoff 17 (by decide), cond_false]
                        show cond true _ _
                        rw [cond_true]
                        exact ⟨v71, hv9, hv10, rfl, ((((((((((HS.front 9 rfl).front 9 rfl).front 9 rfl).front 9 rfl).front 9 rfl).front 9 rfl).front 9 rfl).front 9 rfl).front 9 rfl).front 9 rfl)⟩
                      · have h49 : a_.tmps[49]? = some (.bool true) := (hval (3, 49) (by decide) (hon 3 (by decide))).trans (congrArg some (hV 3 _ rfl (hon 3 (by decide))))
                        have h57 : a_.tmps[57]? = some (.pointer (some ⟨D27, 0, none⟩)) := (hval (11, 57) (by decide) (hon 11 (by decide))).trans (congrArg some (hV 11 _ rfl (hon 11 (by decide))))
                        have h59 : a_.tmps[59]? = some (.int .i64 y.2.1) := (hval (13, 59) (by decide) (hon 13 (by decide))).trans (congrArg some (hV 13 _ rfl (hon 13 (by decide))))
                        have h62 := hval (16, 62) (by decide) (hon 16 (by decide))
                        obtain ⟨l_, rfl⟩ := hfr
                        have hE0 := hE
                        rw [show bq_ 17 = false from hb_] at hE0
                        rw [show bq_ 16 = true from (hon 16 (by decide))] at hE0
                        simp only [cond_true, cond_false] at hE0
                        obtain ⟨v71, hv9, hv10, hv16, HS⟩ := hE0
                        rw [hv16] at h62
                        have e49 : evl l_ (.tmp 49) = .bool true := evl_of h49
                        have e57 : evl l_ (.tmp 57) = .pointer (some ⟨D27, 0, none⟩) := evl_of h57
                        have e59 : evl l_ (.tmp 59) = .int .i64 y.2.1 := evl_of h59
                        have e62 : evl l_ (.tmp 62) = .agg ((nums .u8 (rep y.2.2.1))).toArray := evl_of h62
                        refine ⟨_, rfl, fun K_ hK_ => wp_of_listG rfl (wanted_on (t := 49) rfl rfl rfl h49) ?_⟩
                        intro ops_
                        refine w_call [.pointer (some ⟨D27, 0, none⟩), .int .i64 y.2.1, .agg ((nums .u8 (rep y.2.2.1))).toArray] Try.func13 (by kernel_rfl) (by rfl) (by simp only [List.map_cons, List.map_nil, e57, e59, e62] <;> rfl) ?_
                        replace HS := ((((HS.front 8 rfl).front 8 rfl).front 8 rfl).front 8 rfl)
                        refine (write_any HS hI.1.lft (by have := hI.1.pn; omega) y.2.1 (rep y.2.2.1) (rep_len _)).mono ?_
                        clear HS
                        rintro e w901702 ⟨v901701, rfl, HS⟩
                        refine ⟨_, rfl, ?_⟩
                        refine wpList_nil ?_
                        refine norm_put (hK_ (.int .i64 (S.writeE y.2.1)) _ ⟨qv_up hV (by intro _ h; cases h), ?_⟩)
                        show cond true _ _
                        rw [cond_true]
                        exact ⟨v71, v901701, hv9, hv10, hv16, rfl, ((((((((((HS.front 9 rfl).front 9 rfl).front 9 rfl).front 9 rfl).front 9 rfl).front 9 rfl).front 9 rfl).front 9 rfl).front 9 rfl).front 9 rfl)⟩
                      · have h49 : a_.tmps[49]? = some (.bool true) := (hval (3, 49) (by decide) (hon 3 (by decide))).trans (congrArg some (hV 3 _ rfl (hon 3 (by decide))))
                        have h56 := hval (10, 56) (by decide) (hon 10 (by decide))
                        have h63 := hval (17, 63) (by decide) (hon 17 (by decide))
                        obtain ⟨l_, rfl⟩ := hfr
                        have hE0 := hE
                        rw [show bq_ 17 = true from (hon 17 (by decide))] at hE0
                        simp only [cond_true, cond_false] at hE0
                        obtain ⟨v71, v75, hv9, hv10, hv16, hv17, HS⟩ := hE0
                        rw [hv10] at h56
                        rw [hv17] at h63
                        have e49 : evl l_ (.tmp 49) = .bool true := evl_of h49
                        have e56 : evl l_ (.tmp 56) = .int .i64 (S.writeE y.2.1) := evl_of h56
                        have e63 : evl l_ (.tmp 63) = .int .i64 (S.writeE y.2.1) := evl_of h63
                        refine ⟨_, rfl, fun K_ hK_ => wp_of_listG rfl (wanted_on (t := 49) rfl rfl rfl h49) ?_⟩
                        intro ops_
                        refine p_run (l' := _) _ (x_cmp (k := .i64) (m := (S.writeE y.2.1)) (n := (S.writeE y.2.1)) .neq false rfl e56 e63 (by unfold cmpB; simp) rfl) rfl ?_
                        refine wpList_nil ?_
                        exact norm_put (hK_ (.bool false) _ ⟨qv_up hV (fun _ h => Option.some.inj h), hE⟩)
                      · have h49 : a_.tmps[49]? = some (.bool true) := (hval (3, 49) (by decide) (hon 3 (by decide))).trans (congrArg some (hV 3 _ rfl (hon 3 (by decide))))
                        have h64 : a_.tmps[64]? = some (.bool false) := (hval (18, 64) (by decide) (hon 18 (by decide))).trans (congrArg some (hV 18 _ rfl (hon 18 (by decide))))
                        obtain ⟨l_, rfl⟩ := hfr
                        have e49 : evl l_ (.tmp 49) = .bool true := evl_of h49
                        have e64 : evl l_ (.tmp 64) = .bool false := evl_of h64
                        refine ⟨_, rfl, fun K_ hK_ => wp_of_list rfl ?_⟩
                        intro ops_
                        refine p_run (l' := _) _ (x_pick true (.bool false) (.bool false) (.bool false) rfl e49 e64 rfl rfl) rfl ?_
                        refine wpList_nil ?_
                        exact norm_put (hK_ (.bool false) _ ⟨qv_up hV (fun _ h => Option.some.inj h), hE⟩)
                    intro bq_ vq_ w_ hall hG
                    obtain ⟨hV, hE⟩ := hG
                    clear HS
                    rw [show bq_ 17 = true from hall 17 (by decide)] at hE
                    simp only [cond_true] at hE
                    obtain ⟨v71, v75, hv9, hv10, hv16, hv17, HS⟩ := hE
                    have hv0 := hV 0 _ rfl (hall 0 (by decide))
                    have hv1 := hV 1 _ rfl (hall 1 (by decide))
                    have hv2 := hV 2 _ rfl (hall 2 (by decide))
                    have hv3 := hV 3 _ rfl (hall 3 (by decide))
                    have hv4 := hV 4 _ rfl (hall 4 (by decide))
                    have hv5 := hV 5 _ rfl (hall 5 (by decide))
                    have hv6 := hV 6 _ rfl (hall 6 (by decide))
                    have hv7 := hV 7 _ rfl (hall 7 (by decide))
                    have hv8 := hV 8 _ rfl (hall 8 (by decide))
                    have hv11 := hV 11 _ rfl (hall 11 (by decide))
                    have hv12 := hV 12 _ rfl (hall 12 (by decide))
                    have hv13 := hV 13 _ rfl (hall 13 (by decide))
                    have hv14 := hV 14 _ rfl (hall 14 (by decide))
                    have hv15 := hV 15 _ rfl (hall 15 (by decide))
                    have hv18 := hV 18 _ rfl (hall 18 (by decide))
                    have hv19 := hV 19 _ rfl (hall 19 (by decide))
                    clear hV hall
                    rw [putSel_fr]
                    simp only [tells, List.map_cons, List.map_nil, setAll, List.set_cons_succ, List.set_cons_zero, hv0, hv1, hv2, hv3, hv4, hv5, hv6, hv7, hv8, hv9, hv10, hv11, hv12, hv13, hv14, hv15, hv16, hv17, hv18, hv19]
                    clear hv0 hv1 hv2 hv3 hv4 hv5 hv6 hv7 hv8 hv9 hv10 hv11 hv12 hv13 hv14 hv15 hv16 hv17 hv18 hv19
                    generalize w_ = w901801 at HS ⊢
                    refine fr_at (l' := [.int .i64 pages, .slice (some ad) l1.length c1, .slice A2 l2.length c2, undef, undef, undef, u6, .pointer (some ⟨D22, 0, none⟩), .pointer (some ⟨D27, 0, none⟩), v36, undef, .pointer (some ⟨g60, 0, none⟩), undef, undef, undef, undef, undef, .bool true, .bool false, .int .i64 pages, .bool false, .bool false, .int .i64 pages, .bool false, .bool false, .bool false, .slice (some ad) l1.length c1, .int .i64 (l1.length : Int), .bool false, .bool false, .bool false, .slice A2 l2.length c2, .int .i64 (l2.length : Int), .bool false, .bool false, .int .i64 pages, .pointer (some ⟨D22, 0, none⟩), .int .i64 pages, .pointer (some ⟨D27, 0, none⟩), v36, .slice (some ad) l1.length c1, .int .i64 (l1.length : Int), .int .i64 (i : Int), .bool (decide ((i : Int) < (l1.length : Int))), .pointer (some ((ad).add (i * 4))), .agg ([.int .i64 y.1, .int .i64 y.2.1, .int .u8 y.2.2.1, .slice A3 y.2.2.2.length c3] : List Value).toArray, .pointer (some ⟨g60, 0, none⟩), .int .i64 y.1, .bool true, .bool true, .pointer (some ⟨D22, 0, none⟩), .pointer (some ⟨g60, 1, none⟩), .int .i64 y.2.1, .pointer (some ⟨g60, 2, none⟩), .int .u8 y.2.2.1, .agg ((nums .u8 (rep y.2.2.1))).toArray, .int .i64 (S.writeE y.2.1), .pointer (some ⟨D27, 0, none⟩), .pointer (some ⟨g60, 1, none⟩), .int .i64 y.2.1, .pointer (some ⟨g60, 2, none⟩), .int .u8 y.2.2.1, .agg ((nums .u8 (rep y.2.2.1))).toArray, .int .i64 (S.writeE y.2.1), .bool false, .bool false, u66, u67, u68, u69, u70, u71, u72, u73, undef, undef, undef, undef, undef, undef, undef, undef, undef, undef, undef, undef, undef, undef, undef, undef, undef, undef, undef, undef, undef, undef, undef, undef, undef, undef, undef, undef, undef, undef, undef, undef, undef, undef, undef, undef, undef, undef, undef, undef, undef, undef, undef, undef, undef, undef, undef, undef, undef, undef, undef, undef, undef]) rfl ?_
                    refine hK67 _ _ ?_
                    refine c_false rfl ?_
                    refine wp_skip ?_
                    refine hK65 _ _ ?_
                    refine wp_seq_k (fun K901802 hK901803 => ?_)
                    refine c_region (fun ops901805 hops901804 => ?_)
                    clear hops901804
                    refine p_run (l' := _) _ (x_field (j := 0) _ _ rfl rfl Try.underlying38 rfl (by rfl) rfl) rfl ?_
                    refine p_run (l' := _) _ (x_load (.int .i64 y.1) rfl rfl (bkCell (HS.get (.tail _ (.tail _ (.tail _ (.tail _ (.tail _ (.tail _ (.tail _ (.tail _ (.head _)))))))))) 0 _ rfl) (by rfl)) rfl ?_
                    refine p_run (l' := _) _ (x_cmp (k := .i64) (m := y.1) (n := 1) .eql false rfl rfl rfl (by rw [hk]; rfl) rfl) rfl ?_
                    refine wpList_nil ?_
                    refine fr_at (l' := [.int .i64 pages, .slice (some ad) l1.length c1, .slice A2 l2.length c2, undef, undef, undef, u6, .pointer (some ⟨D22, 0, none⟩), .pointer (some ⟨D27, 0, none⟩), v36, undef, .pointer (some ⟨g60, 0, none⟩), undef, undef, undef, undef, undef, .bool true, .bool false, .int .i64 pages, .bool false, .bool false, .int .i64 pages, .bool false, .bool false, .bool false, .slice (some ad) l1.length c1, .int .i64 (l1.length : Int), .bool false, .bool false, .bool false, .slice A2 l2.length c2, .int .i64 (l2.length : Int), .bool false, .bool false, .int .i64 pages, .pointer (some ⟨D22, 0, none⟩), .int .i64 pages, .pointer (some ⟨D27, 0, none⟩), v36, .slice (some ad) l1.length c1, .int .i64 (l1.length : Int), .int .i64 (i : Int), .bool (decide ((i : Int) < (l1.length : Int))), .pointer (some ((ad).add (i * 4))), .agg ([.int .i64 y.1, .int .i64 y.2.1, .int .u8 y.2.2.1, .slice A3 y.2.2.2.length c3] : List Value).toArray, .pointer (some ⟨g60, 0, none⟩), .int .i64 y.1, .bool true, .bool true, .pointer (some ⟨D22, 0, none⟩), .pointer (some ⟨g60, 1, none⟩), .int .i64 y.2.1, .pointer (some ⟨g60, 2, none⟩), .int .u8 y.2.2.1, .agg ((nums .u8 (rep y.2.2.1))).toArray, .int .i64 (S.writeE y.2.1), .pointer (some ⟨D27, 0, none⟩), .pointer (some ⟨g60, 1, none⟩), .int .i64 y.2.1, .pointer (some ⟨g60, 2, none⟩), .int .u8 y.2.2.1, .agg ((nums .u8 (rep y.2.2.1))).toArray, .int .i64 (S.writeE y.2.1), .bool false, .bool false, .pointer (some ⟨g60, 0, none⟩), .int .i64 y.1, .bool false, u69, u70, u71, u72, u73, undef, undef, undef, undef, undef, undef, undef, undef, undef, undef, undef, undef, undef, undef, undef, undef, undef, undef, undef, undef, undef, undef, undef, undef, undef, undef, undef, undef, undef, undef, undef, undef, undef, undef, undef, undef, undef, undef, undef, undef, undef, undef, undef, undef, undef, undef, undef, undef, undef, undef, undef, undef, undef]) rfl ?_
                    refine hK901803 _ _ ?_
                    refine c_false rfl ?_
                    refine wp_skip ?_
                    refine hK55 _ _ ?_
                    refine c_region (fun ops901807 hops901806 => ?_)
                    clear hops901806
                    refine p_run (l' := _) _ (x_arith (k := .i64) (m := (i : Int)) (n := 1) .add (((i + 1 : Nat) : Int)) rfl rfl rfl (show IntKind.i64.wrap ((i : Int) + 1) = ((i + 1 : Nat) : Int) from ((wr64 (by omega)).trans (by omega))) rfl) rfl ?_
                    refine p_run (l' := _) _ (x_move (.int .i64 ((i + 1 : Nat) : Int)) rfl rfl) rfl ?_
                    refine wpList_nil ?_
                    refine fr_at (l' := [.int .i64 pages, .slice (some ad) l1.length c1, .slice A2 l2.length c2, undef, undef, undef, u6, .pointer (some ⟨D22, 0, none⟩), .pointer (some ⟨D27, 0, none⟩), v36, undef, .pointer (some ⟨g60, 0, none⟩), undef, undef, undef, undef, undef, .bool true, .bool false, .int .i64 pages, .bool false, .bool false, .int .i64 pages, .bool false, .bool false, .bool false, .slice (some ad) l1.length c1, .int .i64 (l1.length : Int), .bool false, .bool false, .bool false, .slice A2 l2.length c2, .int .i64 (l2.length : Int), .bool false, .bool false, .int .i64 pages, .pointer (some ⟨D22, 0, none⟩), .int .i64 pages, .pointer (some ⟨D27, 0, none⟩), v36, .slice (some ad) l1.length c1, .int .i64 (l1.length : Int), .int .i64 ((i + 1 : Nat) : Int), .bool (decide ((i : Int) < (l1.length : Int))), .pointer (some ((ad).add (i * 4))), .agg ([.int .i64 y.1, .int .i64 y.2.1, .int .u8 y.2.2.1, .slice A3 y.2.2.2.length c3] : List Value).toArray, .pointer (some ⟨g60, 0, none⟩), .int .i64 y.1, .bool true, .bool true, .pointer (some ⟨D22, 0, none⟩), .pointer (some ⟨g60, 1, none⟩), .int .i64 y.2.1, .pointer (some ⟨g60, 2, none⟩), .int .u8 y.2.2.1, .agg ((nums .u8 (rep y.2.2.1))).toArray, .int .i64 (S.writeE y.2.1), .pointer (some ⟨D27, 0, none⟩), .pointer (some ⟨g60, 1, none⟩), .int .i64 y.2.1, .pointer (some ⟨g60, 2, none⟩), .int .u8 y.2.2.1, .agg ((nums .u8 (rep y.2.2.1))).toArray, .int .i64 (S.writeE y.2.1), .bool false, .bool false, .pointer (some ⟨g60, 0, none⟩), .int .i64 y.1, .bool false, u69, u70, u71, u72, .int .i64 ((i + 1 : Nat) : Int), undef, undef, undef, undef, undef, undef, undef, undef, undef, undef, undef, undef, undef, undef, undef, undef, undef, undef, undef, undef, undef, undef, undef, undef, undef, undef, undef, undef, undef, undef, undef, undef, undef, undef, undef, undef, undef, undef, undef, undef, undef, undef, undef, undef, undef, undef, undef, undef, undef, undef, undef, undef, undef]) rfl ?_
                    refine hJ45 (i + 1, (S.write y.2.1 (rep y.2.2.1)), v71, v75) _ _ ?_ ?_
                    · show l1.length - (i + 1) < l1.length - i; omega
                    · exact ⟨_, _, _, _, _, _, _, _, _, _, _, _, _, _, _, _, _, _, _, _, _, _, _, _, _, _, _, _, _, _, _, _, _, rfl, ((((((((((HS.front 8 rfl).drop.front 8 rfl).front 4 rfl).front 4 rfl).front 4 rfl).front 4 rfl).front 8 rfl).front 8 rfl).front 8 rfl).front 8 rfl), ⟨ag_write hI _ _, by omega⟩⟩
                  · skip
                    refine free_frame (n := 20) (T := _) [0, 1, 3, 7, 15, 15, 47, 15, 143, 399, 1023, 15, 15, 4111, 15, 16399, 51199, 131071, 262143, 524287] [(0, 46), (1, 47), (2, 48), (3, 49), (4, 50), (5, 51), (6, 52), (7, 53), (8, 54), (9, 55), (10, 56), (11, 57), (12, 58), (13, 59), (14, 60), (15, 61), (16, 62), (17, 63), (18, 64), (19, 65)] (fun bq_ vq_ w_ => qv ((fun i_ => match i_ with | 0 => some (.pointer (some ⟨g60, 0, none⟩)) | 1 => some (.int .i64 y.1) | 2 => some (.bool false) | 3 => some (.bool false) | 4 => some (undef) | 5 => some (undef) | 6 => some (undef) | 7 => some (undef) | 8 => some (undef) | 9 => some (undef) | 10 => some (undef) | 11 => some (undef) | 12 => some (undef) | 13 => some (undef) | 14 => some (undef) | 15 => some (undef) | 16 => some (undef) | 17 => some (undef) | 18 => some (undef) | 19 => some (.bool false) | _ => none) : Nat → Option Value) bq_ vq_ ∧ (St w (fun _ => False) w_ ([blk g60 [.int .i64 y.1, .int .i64 y.2.1, .int .u8 y.2.2.1, .slice A3 y.2.2.2.length c3] 38, blk D22 (dskC gs23 gm24 v1 S) 66, blk gs23 (pgs S.stable) 31, mapR gm24 S.cnt S.bad, row kWr rfl 71 v1 S.pending, blk D27 (dskC gs28 gm29 v2 S) 66, blk gs28 (pgs S.stable) 31, mapR gm29 S.cnt S.bad, row kWr rfl 71 v2 S.pending, row (Kd.int .u8) rfl 5 v36 []]))) (by kernel_rfl) rfl rfl (by kernel_rfl) (by kernel_rfl) rfl (by kernel_rfl) (by kernel_rfl) ⟨qv_none, HS.draw⟩ ?_ ?_
                    · clear HS
                      intro i_ hi_ bq_ vq_ a_ w_ hG hb_ hon hoff hfr hel hval
                      obtain ⟨hV, hE⟩ := hG
                      have hi_ := List.mem_range.1 hi_
                      have hcs : i_ = 0 ∨ i_ = 1 ∨ i_ = 2 ∨ i_ = 3 ∨ i_ = 4 ∨ i_ = 5 ∨ i_ = 6 ∨ i_ = 7 ∨ i_ = 8 ∨ i_ = 9 ∨ i_ = 10 ∨ i_ = 11 ∨ i_ = 12 ∨ i_ = 13 ∨ i_ = 14 ∨ i_ = 15 ∨ i_ = 16 ∨ i_ = 17 ∨ i_ = 18 ∨ i_ = 19 := by omega
                      rcases hcs with rfl | rfl | rfl | rfl | rfl | rfl | rfl | rfl | rfl | rfl | rfl | rfl | rfl | rfl | rfl | rfl | rfl | rfl | rfl | rfl
                      · have h11 : a_.tmps[11]? = some (.pointer (some ⟨g60, 0, none⟩)) := (hel 11 (by decide)).trans rfl
                        obtain ⟨l_, rfl⟩ := hfr
                        have e11 : evl l_ (.tmp 11) = .pointer (some ⟨g60, 0, none⟩) := evl_of h11
                        refine ⟨_, rfl, fun K_ hK_ => wp_of_list rfl ?_⟩
                        intro ops_
                        refine p_run (l' := _) _ (x_field (j := 0) _ _ rfl e11 Try.underlying38 rfl (by rfl) rfl) rfl ?_
                        refine wpList_nil ?_
                        exact norm_put (hK_ (.pointer (some ⟨g60, 0, none⟩)) _ ⟨qv_up hV (fun _ h => Option.some.inj h), hE⟩)
                      · have h46 : a_.tmps[46]? = some (.pointer (some ⟨g60, 0, none⟩)) := (hval (0, 46) (by decide) (hon 0 (by decide))).trans (congrArg some (hV 0 _ rfl (hon 0 (by decide))))
                        obtain ⟨l_, rfl⟩ := hfr
                        have hE0 := hE
                        have HS := hE0
                        have e46 : evl l_ (.tmp 46) = .pointer (some ⟨g60, 0, none⟩) := evl_of h46
                        refine ⟨_, rfl, fun K_ hK_ => wp_of_list rfl ?_⟩
                        intro ops_
                        refine p_run (l' := _) _ (x_load (.int .i64 y.1) rfl e46 (bkCell (HS.get (.head _)) 0 _ rfl) (by rfl)) rfl ?_
                        refine wpList_nil ?_
                        exact norm_put (hK_ (.int .i64 y.1) _ ⟨qv_up hV (fun _ h => Option.some.inj h), hE⟩)
                      · have h47 : a_.tmps[47]? = some (.int .i64 y.1) := (hval (1, 47) (by decide) (hon 1 (by decide))).trans (congrArg some (hV 1 _ rfl (hon 1 (by decide))))
                        obtain ⟨l_, rfl⟩ := hfr
                        have e47 : evl l_ (.tmp 47) = .int .i64 y.1 := evl_of h47
                        refine ⟨_, rfl, fun K_ hK_ => wp_of_list rfl ?_⟩
                        intro ops_
                        refine p_run (l' := _) _ (x_cmp (k := .i64) (m := y.1) (n := 0) .eql false rfl e47 rfl (beq_eq_false_iff_ne.2 hk) rfl) rfl ?_
                        refine wpList_nil ?_
                        exact norm_put (hK_ (.bool false) _ ⟨qv_up hV (fun _ h => Option.some.inj h), hE⟩)
                      · have h48 : a_.tmps[48]? = some (.bool false) := (hval (2, 48) (by decide) (hon 2 (by decide))).trans (congrArg some (hV 2 _ rfl (hon 2 (by decide))))
                        obtain ⟨l_, rfl⟩ := hfr
                        have e48 : evl l_ (.tmp 48) = .bool false := evl_of h48
                        refine ⟨_, rfl, fun K_ hK_ => wp_of_list rfl ?_⟩
                        intro ops_
                        refine p_run (l' := _) _ (x_move (.bool false) rfl e48) rfl ?_
                        refine wpList_nil ?_
                        exact norm_put (hK_ (.bool false) _ ⟨qv_up hV (fun _ h => Option.some.inj h), hE⟩)
                      · have h49 : a_.tmps[49]? = some (.bool false) := (hval (3, 49) (by decide) (hon 3 (by decide))).trans (congrArg some (hV 3 _ rfl (hon 3 (by decide))))
                        obtain ⟨l_, rfl⟩ := hfr
                        refine ⟨_, rfl, fun K_ hK_ => wp_offG (wanted_off (t := 49) rfl rfl rfl h49) ?_⟩
                        exact hK_ undef _ ⟨qv_up hV (fun _ h => Option.some.inj h), hE⟩
                      · have h49 : a_.tmps[49]? = some (.bool false) := (hval (3, 49) (by decide) (hon 3 (by decide))).trans (congrArg some (hV 3 _ rfl (hon 3 (by decide))))
                        obtain ⟨l_, rfl⟩ := hfr
                        refine ⟨_, rfl, fun K_ hK_ => wp_offG (wanted_off (t := 49) rfl rfl rfl h49) ?_⟩
                        exact hK_ undef _ ⟨qv_up hV (fun _ h => Option.some.inj h), hE⟩
                      · have h49 : a_.tmps[49]? = some (.bool false) := (hval (3, 49) (by decide) (hon 3 (by decide))).trans (congrArg some (hV 3 _ rfl (hon 3 (by decide))))
                        obtain ⟨l_, rfl⟩ := hfr
                        refine ⟨_, rfl, fun K_ hK_ => wp_offG (wanted_off (t := 49) rfl rfl rfl h49) ?_⟩
                        exact hK_ undef _ ⟨qv_up hV (fun _ h => Option.some.inj h), hE⟩
                      · have h49 : a_.tmps[49]? = some (.bool false) := (hval (3, 49) (by decide) (hon 3 (by decide))).trans (congrArg some (hV 3 _ rfl (hon 3 (by decide))))
                        obtain ⟨l_, rfl⟩ := hfr
                        refine ⟨_, rfl, fun K_ hK_ => wp_offG (wanted_off (t := 49) rfl rfl rfl h49) ?_⟩
                        exact hK_ undef _ ⟨qv_up hV (fun _ h => Option.some.inj h), hE⟩
                      · have h49 : a_.tmps[49]? = some (.bool false) := (hval (3, 49) (by decide) (hon 3 (by decide))).trans (congrArg some (hV 3 _ rfl (hon 3 (by decide))))
                        obtain ⟨l_, rfl⟩ := hfr
                        refine ⟨_, rfl, fun K_ hK_ => wp_offG (wanted_off (t := 49) rfl rfl rfl h49) ?_⟩
                        exact hK_ undef _ ⟨qv_up hV (fun _ h => Option.some.inj h), hE⟩
                      · have h49 : a_.tmps[49]? = some (.bool false) := (hval (3, 49) (by decide) (hon 3 (by decide))).trans (congrArg some (hV 3 _ rfl (hon 3 (by decide))))
                        obtain ⟨l_, rfl⟩ := hfr
                        refine ⟨_, rfl, fun K_ hK_ => wp_offG (wanted_off (t := 49) rfl rfl rfl h49) ?_⟩
                        exact hK_ undef _ ⟨qv_up hV (fun _ h => Option.some.inj h), hE⟩
                      · have h49 : a_.tmps[49]? = some (.bool false) := (hval (3, 49) (by decide) (hon 3 (by decide))).trans (congrArg some (hV 3 _ rfl (hon 3 (by decide))))
                        obtain ⟨l_, rfl⟩ := hfr
                        refine ⟨_, rfl, fun K_ hK_ => wp_offG (wanted_off (t := 49) rfl rfl rfl h49) ?_⟩
                        exact hK_ undef _ ⟨qv_up hV (fun _ h => Option.some.inj h), hE⟩
                      · have h49 : a_.tmps[49]? = some (.bool false) := (hval (3, 49) (by decide) (hon 3 (by decide))).trans (congrArg some (hV 3 _ rfl (hon 3 (by decide))))
                        obtain ⟨l_, rfl⟩ := hfr
                        refine ⟨_, rfl, fun K_ hK_ => wp_offG (wanted_off (t := 49) rfl rfl rfl h49) ?_⟩
                        exact hK_ undef _ ⟨qv_up hV (fun _ h => Option.some.inj h), hE⟩
                      · have h49 : a_.tmps[49]? = some (.bool false) := (hval (3, 49) (by decide) (hon 3 (by decide))).trans (congrArg some (hV 3 _ rfl (hon 3 (by decide))))
                        obtain ⟨l_, rfl⟩ := hfr
                        refine ⟨_, rfl, fun K_ hK_ => wp_offG (wanted_off (t := 49) rfl rfl rfl h49) ?_⟩
                        exact hK_ undef _ ⟨qv_up hV (fun _ h => Option.some.inj h), hE⟩
                      · have h49 : a_.tmps[49]? = some (.bool false) := (hval (3, 49) (by decide) (hon 3 (by decide))).trans (congrArg some (hV 3 _ rfl (hon 3 (by decide))))
                        obtain ⟨l_, rfl⟩ := hfr
                        refine ⟨_, rfl, fun K_ hK_ => wp_offG (wanted_off (t := 49) rfl rfl rfl h49) ?_⟩
                        exact hK_ undef _ ⟨qv_up hV (fun _ h => Option.some.inj h), hE⟩
                      · have h49 : a_.tmps[49]? = some (.bool false) := (hval (3, 49) (by decide) (hon 3 (by decide))).trans (congrArg some (hV 3 _ rfl (hon 3 (by decide))))
                        obtain ⟨l_, rfl⟩ := hfr
                        refine ⟨_, rfl, fun K_ hK_ => wp_offG (wanted_off (t := 49) rfl rfl rfl h49) ?_⟩
                        exact hK_ undef _ ⟨qv_up hV (fun _ h => Option.some.inj h), hE⟩
                      · have h49 : a_.tmps[49]? = some (.bool false) := (hval (3, 49) (by decide) (hon 3 (by decide))).trans (congrArg some (hV 3 _ rfl (hon 3 (by decide))))
                        obtain ⟨l_, rfl⟩ := hfr
                        refine ⟨_, rfl, fun K_ hK_ => wp_offG (wanted_off (t := 49) rfl rfl rfl h49) ?_⟩
                        exact hK_ undef _ ⟨qv_up hV (fun _ h => Option.some.inj h), hE⟩
                      · have h49 : a_.tmps[49]? = some (.bool false) := (hval (3, 49) (by decide) (hon 3 (by decide))).trans (congrArg some (hV 3 _ rfl (hon 3 (by decide))))
                        obtain ⟨l_, rfl⟩ := hfr
                        refine ⟨_, rfl, fun K_ hK_ => wp_offG (wanted_off (t := 49) rfl rfl rfl h49) ?_⟩
                        exact hK_ undef _ ⟨qv_up hV (fun _ h => Option.some.inj h), hE⟩
                      · have h49 : a_.tmps[49]? = some (.bool false) := (hval (3, 49) (by decide) (hon 3 (by decide))).trans (congrArg some (hV 3 _ rfl (hon 3 (by decide))))
                        obtain ⟨l_, rfl⟩ := hfr
                        refine ⟨_, rfl, fun K_ hK_ => wp_offG (wanted_off (t := 49) rfl rfl rfl h49) ?_⟩
                        exact hK_ undef _ ⟨qv_up hV (fun _ h => Option.some.inj h), hE⟩
                      · have h49 : a_.tmps[49]? = some (.bool false) := (hval (3, 49) (by decide) (hon 3 (by decide))).trans (congrArg some (hV 3 _ rfl (hon 3 (by decide))))
                        obtain ⟨l_, rfl⟩ := hfr
                        refine ⟨_, rfl, fun K_ hK_ => wp_offG (wanted_off (t := 49) rfl rfl rfl h49) ?_⟩
                        exact hK_ undef _ ⟨qv_up hV (fun _ h => Option.some.inj h), hE⟩
                      · have h49 : a_.tmps[49]? = some (.bool false) := (hval (3, 49) (by decide) (hon 3 (by decide))).trans (congrArg some (hV 3 _ rfl (hon 3 (by decide))))
                        have h64 : a_.tmps[64]? = some (undef) := (hval (18, 64) (by decide) (hon 18 (by decide))).trans (congrArg some (hV 18 _ rfl (hon 18 (by decide))))
                        obtain ⟨l_, rfl⟩ := hfr
                        have e49 : evl l_ (.tmp 49) = .bool false := evl_of h49
                        have e64 : evl l_ (.tmp 64) = undef := evl_of h64
                        refine ⟨_, rfl, fun K_ hK_ => wp_of_list rfl ?_⟩
                        intro ops_
                        refine p_run (l' := _) _ (x_pick false (undef) (.bool false) (.bool false) rfl e49 e64 rfl rfl) rfl ?_
                        refine wpList_nil ?_
                        exact norm_put (hK_ (.bool false) _ ⟨qv_up hV (fun _ h => Option.some.inj h), hE⟩)
                    intro bq_ vq_ w_ hall hG
                    obtain ⟨hV, hE⟩ := hG
                    clear HS
                    have HS := hE
                    have hv0 := hV 0 _ rfl (hall 0 (by decide))
                    have hv1 := hV 1 _ rfl (hall 1 (by decide))
                    have hv2 := hV 2 _ rfl (hall 2 (by decide))
                    have hv3 := hV 3 _ rfl (hall 3 (by decide))
                    have hv4 := hV 4 _ rfl (hall 4 (by decide))
                    have hv5 := hV 5 _ rfl (hall 5 (by decide))
                    have hv6 := hV 6 _ rfl (hall 6 (by decide))
                    have hv7 := hV 7 _ rfl (hall 7 (by decide))
                    have hv8 := hV 8 _ rfl (hall 8 (by decide))
                    have hv9 := hV 9 _ rfl (hall 9 (by decide))
                    have hv10 := hV 10 _ rfl (hall 10 (by decide))
                    have hv11 := hV 11 _ rfl (hall 11 (by decide))
                    have hv12 := hV 12 _ rfl (hall 12 (by decide))
                    have hv13 := hV 13 _ rfl (hall 13 (by decide))
                    have hv14 := hV 14 _ rfl (hall 14 (by decide))
                    have hv15 := hV 15 _ rfl (hall 15 (by decide))
                    have hv16 := hV 16 _ rfl (hall 16 (by decide))
                    have hv17 := hV 17 _ rfl (hall 17 (by decide))
                    have hv18 := hV 18 _ rfl (hall 18 (by decide))
                    have hv19 := hV 19 _ rfl (hall 19 (by decide))
                    clear hV hall
                    rw [putSel_fr]
                    simp only [tells, List.map_cons, List.map_nil, setAll, List.set_cons_succ, List.set_cons_zero, hv0, hv1, hv2, hv3, hv4, hv5, hv6, hv7, hv8, hv9, hv10, hv11, hv12, hv13, hv14, hv15, hv16, hv17, hv18, hv19]
                    clear hv0 hv1 hv2 hv3 hv4 hv5 hv6 hv7 hv8 hv9 hv10 hv11 hv12 hv13 hv14 hv15 hv16 hv17 hv18 hv19
                    generalize w_ = w900101 at HS ⊢
                    refine fr_at (l' := [.int .i64 pages, .slice (some ad) l1.length c1, .slice A2 l2.length c2, undef, undef, undef, u6, .pointer (some ⟨D22, 0, none⟩), .pointer (some ⟨D27, 0, none⟩), v36, undef, .pointer (some ⟨g60, 0, none⟩), undef, undef, undef, undef, undef, .bool true, .bool false, .int .i64 pages, .bool false, .bool false, .int .i64 pages, .bool false, .bool false, .bool false, .slice (some ad) l1.length c1, .int .i64 (l1.length : Int), .bool false, .bool false, .bool false, .slice A2 l2.length c2, .int .i64 (l2.length : Int), .bool false, .bool false, .int .i64 pages, .pointer (some ⟨D22, 0, none⟩), .int .i64 pages, .pointer (some ⟨D27, 0, none⟩), v36, .slice (some ad) l1.length c1, .int .i64 (l1.length : Int), .int .i64 (i : Int), .bool (decide ((i : Int) < (l1.length : Int))), .pointer (some ((ad).add (i * 4))), .agg ([.int .i64 y.1, .int .i64 y.2.1, .int .u8 y.2.2.1, .slice A3 y.2.2.2.length c3] : List Value).toArray, .pointer (some ⟨g60, 0, none⟩), .int .i64 y.1, .bool false, .bool false, undef, undef, undef, undef, undef, undef, undef, undef, undef, undef, undef, undef, undef, undef, undef, .bool false, u66, u67, u68, u69, u70, u71, u72, u73, undef, undef, undef, undef, undef, undef, undef, undef, undef, undef, undef, undef, undef, undef, undef, undef, undef, undef, undef, undef, undef, undef, undef, undef, undef, undef, undef, undef, undef, undef, undef, undef, undef, undef, undef, undef, undef, undef, undef, undef, undef, undef, undef, undef, undef, undef, undef, undef, undef, undef, undef, undef, undef]) rfl ?_
                    refine hK67 _ _ ?_
                    refine c_false rfl ?_
                    refine wp_skip ?_
                    refine hK65 _ _ ?_
                    refine wp_seq_k (fun K900102 hK900103 => ?_)
                    refine c_region (fun ops900105 hops900104 => ?_)
                    clear hops900104
                    refine p_run (l' := _) _ (x_field (j := 0) _ _ rfl rfl Try.underlying38 rfl (by rfl) rfl) rfl ?_
                    refine p_run (l' := _) _ (x_load (.int .i64 y.1) rfl rfl (bkCell (HS.get (.head _)) 0 _ rfl) (by rfl)) rfl ?_
                    refine p_run (l' := _) _ (x_cmp (k := .i64) (m := y.1) (n := 1) .eql (y.1 == 1) rfl rfl rfl rfl rfl) rfl ?_
                    refine wpList_nil ?_
                    refine fr_at (l' := [.int .i64 pages, .slice (some ad) l1.length c1, .slice A2 l2.length c2, undef, undef, undef, u6, .pointer (some ⟨D22, 0, none⟩), .pointer (some ⟨D27, 0, none⟩), v36, undef, .pointer (some ⟨g60, 0, none⟩), undef, undef, undef, undef, undef, .bool true, .bool false, .int .i64 pages, .bool false, .bool false, .int .i64 pages, .bool false, .bool false, .bool false, .slice (some ad) l1.length c1, .int .i64 (l1.length : Int), .bool false, .bool false, .bool false, .slice A2 l2.length c2, .int .i64 (l2.length : Int), .bool false, .bool false, .int .i64 pages, .pointer (some ⟨D22, 0, none⟩), .int .i64 pages, .pointer (some ⟨D27, 0, none⟩), v36, .slice (some ad) l1.length c1, .int .i64 (l1.length : Int), .int .i64 (i : Int), .bool (decide ((i : Int) < (l1.length : Int))), .pointer (some ((ad).add (i * 4))), .agg ([.int .i64 y.1, .int .i64 y.2.1, .int .u8 y.2.2.1, .slice A3 y.2.2.2.length c3] : List Value).toArray, .pointer (some ⟨g60, 0, none⟩), .int .i64 y.1, .bool false, .bool false, undef, undef, undef, undef, undef, undef, undef, undef, undef, undef, undef, undef, undef, undef, undef, .bool false, .pointer (some ⟨g60, 0, none⟩), .int .i64 y.1, .bool (y.1 == 1), u69, u70, u71, u72, u73, undef, undef, undef, undef, undef, undef, undef, undef, undef, undef, undef, undef, undef, undef, undef, undef, undef, undef, undef, undef, undef, undef, undef, undef, undef, undef, undef, undef, undef, undef, undef, undef, undef, undef, undef, undef, undef, undef, undef, undef, undef, undef, undef, undef, undef, undef, undef, undef, undef, undef, undef, undef, undef]) rfl ?_
                    refine hK900103 _ _ ?_
                    refine c_cond (t := (y.1 == 1)) rfl (fun hc900106 => ?_) (fun hc900106 => ?_)
                    · refine wp_seq_k (fun K900107 hK900108 => ?_)
                      refine c_region (fun ops900110 hops900109 => ?_)
                      clear hops900109
                      refine p_run (l' := _) _ (x_move (.pointer (some ⟨D22, 0, none⟩)) rfl rfl) rfl ?_
                      refine w_call [.pointer (some ⟨D22, 0, none⟩)] Try.func12 (by kernel_rfl) (by rfl) rfl ?_
                      replace HS := ((((HS.front 4 rfl).front 4 rfl).front 4 rfl).front 4 rfl)
                      refine (sync_any HS hI.1.ok (by have := hI.1.pn; omega)).mono ?_
                      clear HS
                      rintro e w900112 ⟨v900111, rfl, HS⟩
                      have hgd900113 : Dk.good S.sync (i) := good_sync hI.1
                      refine ⟨_, rfl, ?_⟩
                      refine wpList_nil ?_
                      refine fr_at (l' := [.int .i64 pages, .slice (some ad) l1.length c1, .slice A2 l2.length c2, undef, undef, undef, u6, .pointer (some ⟨D22, 0, none⟩), .pointer (some ⟨D27, 0, none⟩), v36, undef, .pointer (some ⟨g60, 0, none⟩), undef, undef, undef, undef, undef, .bool true, .bool false, .int .i64 pages, .bool false, .bool false, .int .i64 pages, .bool false, .bool false, .bool false, .slice (some ad) l1.length c1, .int .i64 (l1.length : Int), .bool false, .bool false, .bool false, .slice A2 l2.length c2, .int .i64 (l2.length : Int), .bool false, .bool false, .int .i64 pages, .pointer (some ⟨D22, 0, none⟩), .int .i64 pages, .pointer (some ⟨D27, 0, none⟩), v36, .slice (some ad) l1.length c1, .int .i64 (l1.length : Int), .int .i64 (i : Int), .bool (decide ((i : Int) < (l1.length : Int))), .pointer (some ((ad).add (i * 4))), .agg ([.int .i64 y.1, .int .i64 y.2.1, .int .u8 y.2.2.1, .slice A3 y.2.2.2.length c3] : List Value).toArray, .pointer (some ⟨g60, 0, none⟩), .int .i64 y.1, .bool false, .bool false, undef, undef, undef, undef, undef, undef, undef, undef, undef, undef, undef, undef, undef, undef, undef, .bool false, .pointer (some ⟨g60, 0, none⟩), .int .i64 y.1, .bool (y.1 == 1), .pointer (some ⟨D22, 0, none⟩), .int .i64 S.actE, u71, u72, u73, undef, undef, undef, undef, undef, undef, undef, undef, undef, undef, undef, undef, undef, undef, undef, undef, undef, undef, undef, undef, undef, undef, undef, undef, undef, undef, undef, undef, undef, undef, undef, undef, undef, undef, undef, undef, undef, undef, undef, undef, undef, undef, undef, undef, undef, undef, undef, undef, undef, undef, undef, undef, undef]) rfl ?_
                      refine hK900108 _ _ ?_
                      refine c_region (fun ops900115 hops900114 => ?_)
                      clear hops900114
                      refine p_run (l' := _) _ (x_move (.pointer (some ⟨D27, 0, none⟩)) rfl rfl) rfl ?_
                      refine w_call [.pointer (some ⟨D27, 0, none⟩)] Try.func12 (by kernel_rfl) (by rfl) rfl ?_
                      replace HS := ((((HS.front 8 rfl).front 8 rfl).front 8 rfl).front 8 rfl)
                      refine (sync_any HS hI.1.ok (by have := hI.1.pn; omega)).mono ?_
                      clear HS
                      rintro e w900117 ⟨v900116, rfl, HS⟩
                      have hgd900118 : Dk.good S.sync (i) := good_sync hI.1
                      refine ⟨_, rfl, ?_⟩
                      refine wpList_nil ?_
                      refine fr_at (l' := [.int .i64 pages, .slice (some ad) l1.length c1, .slice A2 l2.length c2, undef, undef, undef, u6, .pointer (some ⟨D22, 0, none⟩), .pointer (some ⟨D27, 0, none⟩), v36, undef, .pointer (some ⟨g60, 0, none⟩), undef, undef, undef, undef, undef, .bool true, .bool false, .int .i64 pages, .bool false, .bool false, .int .i64 pages, .bool false, .bool false, .bool false, .slice (some ad) l1.length c1, .int .i64 (l1.length : Int), .bool false, .bool false, .bool false, .slice A2 l2.length c2, .int .i64 (l2.length : Int), .bool false, .bool false, .int .i64 pages, .pointer (some ⟨D22, 0, none⟩), .int .i64 pages, .pointer (some ⟨D27, 0, none⟩), v36, .slice (some ad) l1.length c1, .int .i64 (l1.length : Int), .int .i64 (i : Int), .bool (decide ((i : Int) < (l1.length : Int))), .pointer (some ((ad).add (i * 4))), .agg ([.int .i64 y.1, .int .i64 y.2.1, .int .u8 y.2.2.1, .slice A3 y.2.2.2.length c3] : List Value).toArray, .pointer (some ⟨g60, 0, none⟩), .int .i64 y.1, .bool false, .bool false, undef, undef, undef, undef, undef, undef, undef, undef, undef, undef, undef, undef, undef, undef, undef, .bool false, .pointer (some ⟨g60, 0, none⟩), .int .i64 y.1, .bool (y.1 == 1), .pointer (some ⟨D22, 0, none⟩), .int .i64 S.actE, .pointer (some ⟨D27, 0, none⟩), .int .i64 S.actE, u73, undef, undef, undef, undef, undef, undef, undef, undef, undef, undef, undef, undef, undef, undef, undef, undef, undef, undef, undef, undef, undef, undef, undef, undef, undef, undef, undef, undef, undef, undef, undef, undef, undef, undef, undef, undef, undef, undef, undef, undef, undef, undef, undef, undef, undef, undef, undef, undef, undef, undef, undef, undef, undef]) rfl ?_
                      refine hK55 _ _ ?_
                      refine c_region (fun ops900120 hops900119 => ?_)
                      clear hops900119
                      refine p_run (l' := _) _ (x_arith (k := .i64) (m := (i : Int)) (n := 1) .add (((i + 1 : Nat) : Int)) rfl rfl rfl (show IntKind.i64.wrap ((i : Int) + 1) = ((i + 1 : Nat) : Int) from ((wr64 (by omega)).trans (by omega))) rfl) rfl ?_
                      refine p_run (l' := _) _ (x_move (.int .i64 ((i + 1 : Nat) : Int)) rfl rfl) rfl ?_
                      refine wpList_nil ?_
                      refine fr_at (l' := [.int .i64 pages, .slice (some ad) l1.length c1, .slice A2 l2.length c2, undef, undef, undef, u6, .pointer (some ⟨D22, 0, none⟩), .pointer (some ⟨D27, 0, none⟩), v36, undef, .pointer (some ⟨g60, 0, none⟩), undef, undef, undef, undef, undef, .bool true, .bool false, .int .i64 pages, .bool false, .bool false, .int .i64 pages, .bool false, .bool false, .bool false, .slice (some ad) l1.length c1, .int .i64 (l1.length : Int), .bool false, .bool false, .bool false, .slice A2 l2.length c2, .int .i64 (l2.length : Int), .bool false, .bool false, .int .i64 pages, .pointer (some ⟨D22, 0, none⟩), .int .i64 pages, .pointer (some ⟨D27, 0, none⟩), v36, .slice (some ad) l1.length c1, .int .i64 (l1.length : Int), .int .i64 ((i + 1 : Nat) : Int), .bool (decide ((i : Int) < (l1.length : Int))), .pointer (some ((ad).add (i * 4))), .agg ([.int .i64 y.1, .int .i64 y.2.1, .int .u8 y.2.2.1, .slice A3 y.2.2.2.length c3] : List Value).toArray, .pointer (some ⟨g60, 0, none⟩), .int .i64 y.1, .bool false, .bool false, undef, undef, undef, undef, undef, undef, undef, undef, undef, undef, undef, undef, undef, undef, undef, .bool false, .pointer (some ⟨g60, 0, none⟩), .int .i64 y.1, .bool (y.1 == 1), .pointer (some ⟨D22, 0, none⟩), .int .i64 S.actE, .pointer (some ⟨D27, 0, none⟩), .int .i64 S.actE, .int .i64 ((i + 1 : Nat) : Int), undef, undef, undef, undef, undef, undef, undef, undef, undef, undef, undef, undef, undef, undef, undef, undef, undef, undef, undef, undef, undef, undef, undef, undef, undef, undef, undef, undef, undef, undef, undef, undef, undef, undef, undef, undef, undef, undef, undef, undef, undef, undef, undef, undef, undef, undef, undef, undef, undef, undef, undef, undef, undef]) rfl ?_
                      refine hJ45 (i + 1, S.sync, v900111, v900116) _ _ ?_ ?_
                      · show l1.length - (i + 1) < l1.length - i; omega
                      · exact ⟨_, _, _, _, _, _, _, _, _, _, _, _, _, _, _, _, _, _, _, _, _, _, _, _, _, _, _, _, _, _, _, _, _, rfl, ((((((((((HS.front 8 rfl).drop.front 8 rfl).front 4 rfl).front 4 rfl).front 4 rfl).front 4 rfl).front 8 rfl).front 8 rfl).front 8 rfl).front 8 rfl), ⟨ag_sync hI, by omega⟩⟩
                    · refine wp_skip ?_
                      refine hK55 _ _ ?_
                      refine c_region (fun ops900122 hops900121 => ?_)
                      clear hops900121
                      refine p_run (l' := _) _ (x_arith (k := .i64) (m := (i : Int)) (n := 1) .add (((i + 1 : Nat) : Int)) rfl rfl rfl (show IntKind.i64.wrap ((i : Int) + 1) = ((i + 1 : Nat) : Int) from ((wr64 (by omega)).trans (by omega))) rfl) rfl ?_
                      refine p_run (l' := _) _ (x_move (.int .i64 ((i + 1 : Nat) : Int)) rfl rfl) rfl ?_
                      refine wpList_nil ?_
                      refine fr_at (l' := [.int .i64 pages, .slice (some ad) l1.length c1, .slice A2 l2.length c2, undef, undef, undef, u6, .pointer (some ⟨D22, 0, none⟩), .pointer (some ⟨D27, 0, none⟩), v36, undef, .pointer (some ⟨g60, 0, none⟩), undef, undef, undef, undef, undef, .bool true, .bool false, .int .i64 pages, .bool false, .bool false, .int .i64 pages, .bool false, .bool false, .bool false, .slice (some ad) l1.length c1, .int .i64 (l1.length : Int), .bool false, .bool false, .bool false, .slice A2 l2.length c2, .int .i64 (l2.length : Int), .bool false, .bool false, .int .i64 pages, .pointer (some ⟨D22, 0, none⟩), .int .i64 pages, .pointer (some ⟨D27, 0, none⟩), v36, .slice (some ad) l1.length c1, .int .i64 (l1.length : Int), .int .i64 ((i + 1 : Nat) : Int), .bool (decide ((i : Int) < (l1.length : Int))), .pointer (some ((ad).add (i * 4))), .agg ([.int .i64 y.1, .int .i64 y.2.1, .int .u8 y.2.2.1, .slice A3 y.2.2.2.length c3] : List Value).toArray, .pointer (some ⟨g60, 0, none⟩), .int .i64 y.1, .bool false, .bool false, undef, undef, undef, undef, undef, undef, undef, undef, undef, undef, undef, undef, undef, undef, undef, .bool false, .pointer (some ⟨g60, 0, none⟩), .int .i64 y.1, .bool (y.1 == 1), u69, u70, u71, u72, .int .i64 ((i + 1 : Nat) : Int), undef, undef, undef, undef, undef, undef, undef, undef, undef, undef, undef, undef, undef, undef, undef, undef, undef, undef, undef, undef, undef, undef, undef, undef, undef, undef, undef, undef, undef, undef, undef, undef, undef, undef, undef, undef, undef, undef, undef, undef, undef, undef, undef, undef, undef, undef, undef, undef, undef, undef, undef, undef, undef]) rfl ?_
                      refine hJ45 (i + 1, S, v1, v2) _ _ ?_ ?_
                      · show l1.length - (i + 1) < l1.length - i; omega
                      · exact ⟨_, _, _, _, _, _, _, _, _, _, _, _, _, _, _, _, _, _, _, _, _, _, _, _, _, _, _, _, _, _, _, _, _, rfl, (((((((((HS.drop.front 8 rfl).front 8 rfl).front 8 rfl).front 8 rfl).front 8 rfl).front 8 rfl).front 8 rfl).front 8 rfl).front 8 rfl), ⟨ag_mono hI, by omega⟩⟩
                · have hlt : ¬ i < l1.length := by have := of_decide_eq_false hc53; omega
                  have hI0 := hI
                  have hil0 := hil
                  refine wp_exit ?_
                  refine hK39 _ _ ?_
                  refine wp_seq_k (fun K900123 hK900124 => ?_)
                  refine wp_seq_k (fun K900125 hK900126 => ?_)
                  refine c_region (fun ops900128 hops900127 => ?_)
                  clear hops900127
                  refine p_run (l' := _) _ (x_move (.pointer (some ⟨D27, 0, none⟩)) rfl rfl) rfl ?_
                  refine w_call [.pointer (some ⟨D27, 0, none⟩)] Try.func17 (by kernel_rfl) (by rfl) rfl ?_
                  replace HS := ((((HS.front 7 rfl).front 7 rfl).front 7 rfl).front 7 rfl)
                  refine (pending_any HS (by have := hI0.1.pn; omega)).mono ?_
                  clear HS
                  rintro e w900130 ⟨v900129, rfl, HS⟩
                  obtain ⟨A900131, c900132, hv900133, hcp900134, -⟩ := row_reads (HS.get (.head _))
                  rw [List.length_map] at hv900133 hcp900134
                  subst hv900133
                  refine ⟨_, rfl, ?_⟩
                  refine p_run (l' := _) _ (x_len rfl rfl Try.underlying39) rfl ?_
                  refine p_run (l' := [.int .i64 pages, .slice A1 l1.length c1, .slice A2 l2.length c2, undef, undef, undef, u6, .pointer (some ⟨D22, 0, none⟩), .pointer (some ⟨D27, 0, none⟩), v36, undef, u11, undef, undef, undef, undef, undef, .bool true, .bool false, .int .i64 pages, .bool false, .bool false, .int .i64 pages, .bool false, .bool false, .bool false, .slice A1 l1.length c1, .int .i64 (l1.length : Int), .bool false, .bool false, .bool false, .slice A2 l2.length c2, .int .i64 (l2.length : Int), .bool false, .bool false, .int .i64 pages, .pointer (some ⟨D22, 0, none⟩), .int .i64 pages, .pointer (some ⟨D27, 0, none⟩), v36, .slice A1 l1.length c1, .int .i64 (l1.length : Int), .int .i64 (i : Int), .bool (decide ((i : Int) < (l1.length : Int))), u44, u45, u46, u47, u48, u49, u50, u51, u52, u53, u54, u55, u56, u57, u58, u59, u60, u61, u62, u63, u64, u65, u66, u67, u68, u69, u70, u71, u72, u73, .pointer (some ⟨D27, 0, none⟩), .slice A900131 S.pending.length c900132, .int .i64 (S.pending.length : Int), .int .i64 0, undef, undef, undef, undef, undef, undef, undef, undef, undef, undef, undef, undef, undef, undef, undef, undef, undef, undef, undef, undef, undef, undef, undef, undef, undef, undef, undef, undef, undef, undef, undef, undef, undef, undef, undef, undef, undef, undef, undef, undef, undef, undef, undef, undef, undef, undef, undef, undef, undef]) _ (x_move (.int .i64 0) rfl rfl) rfl ?_
                  refine wpList_nil ?_
                  refine hK900126 _ _ ?_
                  refine wp_block ?_
                  have hpn := hI0.1.pn
                  refine c_loop (ι := Nat × Value) (fun i_ a_ w_ => match i_ with | (j, u) => ∃ (u78 : Value) (u79 : Value) (u80 : Value) (u81 : Value) (u82 : Value), a_ = fr [.int .i64 pages, .slice A1 l1.length c1, .slice A2 l2.length c2, undef, undef, undef, u6, .pointer (some ⟨D22, 0, none⟩), .pointer (some ⟨D27, 0, none⟩), u, undef, u11, undef, undef, undef, undef, undef, .bool true, .bool false, .int .i64 pages, .bool false, .bool false, .int .i64 pages, .bool false, .bool false, .bool false, .slice A1 l1.length c1, .int .i64 (l1.length : Int), .bool false, .bool false, .bool false, .slice A2 l2.length c2, .int .i64 (l2.length : Int), .bool false, .bool false, .int .i64 pages, .pointer (some ⟨D22, 0, none⟩), .int .i64 pages, .pointer (some ⟨D27, 0, none⟩), v36, .slice A1 l1.length c1, .int .i64 (l1.length : Int), .int .i64 (i : Int), .bool (decide ((i : Int) < (l1.length : Int))), u44, u45, u46, u47, u48, u49, u50, u51, u52, u53, u54, u55, u56, u57, u58, u59, u60, u61, u62, u63, u64, u65, u66, u67, u68, u69, u70, u71, u72, u73, .pointer (some ⟨D27, 0, none⟩), .slice A900131 S.pending.length c900132, .int .i64 (S.pending.length : Int), .int .i64 (j : Int), u78, u79, u80, u81, u82, undef, undef, undef, undef, undef, undef, undef, undef, undef, undef, undef, undef, undef, undef, undef, undef, undef, undef, undef, undef, undef, undef, undef, undef, undef, undef, undef, undef, undef, undef, undef, undef, undef, undef, undef, undef, undef, undef, undef, undef, undef, undef, undef, undef] ∧ St w (fun _ => False) w_ ([blk D27 (dskC gs28 gm29 v2 S) 66, blk gs28 (pgs S.stable) 31, mapR gm29 S.cnt S.bad, row kWr rfl 71 v2 S.pending, blk D22 (dskC gs23 gm24 v1 S) 66, blk gs23 (pgs S.stable) 31, mapR gm24 S.cnt S.bad, row kWr rfl 71 v1 S.pending, row (Kd.int .u8) rfl 5 u (List.replicate j (255 : Int))]) ∧ (j ≤ S.pending.length)) (fun i_ => match i_ with | (j, u) => S.pending.length - j) (0, v36) ?_ ?_
                  · exact ⟨_, _, _, _, _, rfl, (((((((((HS.drop.front 8 rfl).front 8 rfl).front 8 rfl).front 8 rfl).front 8 rfl).front 8 rfl).front 8 rfl).front 8 rfl).front 8 rfl), Nat.zero_le _⟩
                  · clear HS
                    rintro ⟨j, u⟩ a_ w900137 ⟨u78, u79, u80, u81, u82, rfl, HS, hI⟩ J900135 hJ900136
                    have hjl := hI
                    refine wp_seq_k (fun K900138 hK900139 => ?_)
                    refine c_region (fun ops900141 hops900140 => ?_)
                    clear hops900140
                    refine p_run (l' := _) _ (x_cmp (k := .i64) (m := (j : Int)) (n := (S.pending.length : Int)) .lss (decide ((j : Int) < (S.pending.length : Int))) rfl rfl rfl rfl rfl) rfl ?_
                    refine wpList_nil ?_
                    refine fr_at (l' := [.int .i64 pages, .slice A1 l1.length c1, .slice A2 l2.length c2, undef, undef, undef, u6, .pointer (some ⟨D22, 0, none⟩), .pointer (some ⟨D27, 0, none⟩), u, undef, u11, undef, undef, undef, undef, undef, .bool true, .bool false, .int .i64 pages, .bool false, .bool false, .int .i64 pages, .bool false, .bool false, .bool false, .slice A1 l1.length c1, .int .i64 (l1.length : Int), .bool false, .bool false, .bool false, .slice A2 l2.length c2, .int .i64 (l2.length : Int), .bool false, .bool false, .int .i64 pages, .pointer (some ⟨D22, 0, none⟩), .int .i64 pages, .pointer (some ⟨D27, 0, none⟩), v36, .slice A1 l1.length c1, .int .i64 (l1.length : Int), .int .i64 (i : Int), .bool (decide ((i : Int) < (l1.length : Int))), u44, u45, u46, u47, u48, u49, u50, u51, u52, u53, u54, u55, u56, u57, u58, u59, u60, u61, u62, u63, u64, u65, u66, u67, u68, u69, u70, u71, u72, u73, .pointer (some ⟨D27, 0, none⟩), .slice A900131 S.pending.length c900132, .int .i64 (S.pending.length : Int), .int .i64 (j : Int), .bool (decide ((j : Int) < (S.pending.length : Int))), u79, u80, u81, u82, undef, undef, undef, undef, undef, undef, undef, undef, undef, undef, undef, undef, undef, undef, undef, undef, undef, undef, undef, undef, undef, undef, undef, undef, undef, undef, undef, undef, undef, undef, undef, undef, undef, undef, undef, undef, undef, undef, undef, undef, undef, undef, undef, undef]) rfl ?_
                    refine hK900139 _ _ ?_
                    refine wp_seq_k (fun K900142 hK900143 => ?_)
                    refine c_cond (t := decide ((j : Int) < (S.pending.length : Int))) rfl (fun hc900144 => ?_) (fun hc900144 => ?_)
                    · have hlt2 : j < S.pending.length := by have := of_decide_eq_true hc900144; omega
                      refine wp_skip ?_
                      refine hK900143 _ _ ?_
                      refine wp_seq_k (fun K900145 hK900146 => ?_)
                      refine wp_block ?_
                      refine c_region (fun ops900148 hops900147 => ?_)
                      clear hops900147
                      refine p_run (l' := _) _ (x_move (u) rfl rfl) rfl ?_
                      refine St.wLit1 HS [.int .u8 255] 1 (.int .u8 0) (.int .u8 255) Try.underlying36 (by kernel_rfl) (by decide) rfl rfl rfl ?_
                      clear HS
                      intro g900149 w900150 hg900151 HS
                      replace HS := (HS.front 9 rfl)
                      refine St.wAppend HS (.int .u8 0) 1 Try.underlying36 (by kernel_rfl) rfl (by decide) (by decide) [255] _ _ _ rfl rfl (ints_reads (HS.get (.tail _ (.head _))) rfl (by simp)) (fun _ _ h => h) (by simp; omega) ?_
                      clear HS
                      intro v900152 w900153 HS
                      refine p_run (l' := [.int .i64 pages, .slice A1 l1.length c1, .slice A2 l2.length c2, undef, undef, undef, u6, .pointer (some ⟨D22, 0, none⟩), .pointer (some ⟨D27, 0, none⟩), v900152, undef, u11, undef, undef, undef, undef, undef, .bool true, .bool false, .int .i64 pages, .bool false, .bool false, .int .i64 pages, .bool false, .bool false, .bool false, .slice A1 l1.length c1, .int .i64 (l1.length : Int), .bool false, .bool false, .bool false, .slice A2 l2.length c2, .int .i64 (l2.length : Int), .bool false, .bool false, .int .i64 pages, .pointer (some ⟨D22, 0, none⟩), .int .i64 pages, .pointer (some ⟨D27, 0, none⟩), v36, .slice A1 l1.length c1, .int .i64 (l1.length : Int), .int .i64 (i : Int), .bool (decide ((i : Int) < (l1.length : Int))), u44, u45, u46, u47, u48, u49, u50, u51, u52, u53, u54, u55, u56, u57, u58, u59, u60, u61, u62, u63, u64, u65, u66, u67, u68, u69, u70, u71, u72, u73, .pointer (some ⟨D27, 0, none⟩), .slice A900131 S.pending.length c900132, .int .i64 (S.pending.length : Int), .int .i64 (j : Int), .bool (decide ((j : Int) < (S.pending.length : Int))), u, .slice (some ⟨g900149, 0, none⟩) 1 1, v900152, u82, undef, undef, undef, undef, undef, undef, undef, undef, undef, undef, undef, undef, undef, undef, undef, undef, undef, undef, undef, undef, undef, undef, undef, undef, undef, undef, undef, undef, undef, undef, undef, undef, undef, undef, undef, undef, undef, undef, undef, undef, undef, undef, undef, undef]) _ (x_assign (v900152) rfl rfl) rfl ?_
                      refine wpList_nil ?_
                      refine hK900146 _ _ ?_
                      refine c_region (fun ops900155 hops900154 => ?_)
                      clear hops900154
                      refine p_run (l' := _) _ (x_arith (k := .i64) (m := (j : Int)) (n := 1) .add (((j + 1 : Nat) : Int)) rfl rfl rfl (show IntKind.i64.wrap ((j : Int) + 1) = ((j + 1 : Nat) : Int) from ((wr64 (by omega)).trans (by omega))) rfl) rfl ?_
                      refine p_run (l' := _) _ (x_move (.int .i64 ((j + 1 : Nat) : Int)) rfl rfl) rfl ?_
                      refine wpList_nil ?_
                      refine fr_at (l' := [.int .i64 pages, .slice A1 l1.length c1, .slice A2 l2.length c2, undef, undef, undef, u6, .pointer (some ⟨D22, 0, none⟩), .pointer (some ⟨D27, 0, none⟩), v900152, undef, u11, undef, undef, undef, undef, undef, .bool true, .bool false, .int .i64 pages, .bool false, .bool false, .int .i64 pages, .bool false, .bool false, .bool false, .slice A1 l1.length c1, .int .i64 (l1.length : Int), .bool false, .bool false, .bool false, .slice A2 l2.length c2, .int .i64 (l2.length : Int), .bool false, .bool false, .int .i64 pages, .pointer (some ⟨D22, 0, none⟩), .int .i64 pages, .pointer (some ⟨D27, 0, none⟩), v36, .slice A1 l1.length c1, .int .i64 (l1.length : Int), .int .i64 (i : Int), .bool (decide ((i : Int) < (l1.length : Int))), u44, u45, u46, u47, u48, u49, u50, u51, u52, u53, u54, u55, u56, u57, u58, u59, u60, u61, u62, u63, u64, u65, u66, u67, u68, u69, u70, u71, u72, u73, .pointer (some ⟨D27, 0, none⟩), .slice A900131 S.pending.length c900132, .int .i64 (S.pending.length : Int), .int .i64 ((j + 1 : Nat) : Int), .bool (decide ((j : Int) < (S.pending.length : Int))), u, .slice (some ⟨g900149, 0, none⟩) 1 1, v900152, .int .i64 ((j + 1 : Nat) : Int), undef, undef, undef, undef, undef, undef, undef, undef, undef, undef, undef, undef, undef, undef, undef, undef, undef, undef, undef, undef, undef, undef, undef, undef, undef, undef, undef, undef, undef, undef, undef, undef, undef, undef, undef, undef, undef, undef, undef, undef, undef, undef, undef, undef]) rfl ?_
                      rw [← List.replicate_succ'] at HS
                      refine hJ900136 (j + 1, v900152) _ _ ?_ ?_
                      · show S.pending.length - (j + 1) < S.pending.length - j; omega
                      · exact ⟨_, _, _, _, _, rfl, (((((((((HS.front 1 rfl).drop.front 8 rfl).front 8 rfl).front 8 rfl).front 8 rfl).front 8 rfl).front 8 rfl).front 8 rfl).front 8 rfl), (by omega)⟩
                    · obtain rfl : j = S.pending.length := by have := of_decide_eq_false hc900144; omega
                      obtain ⟨A900156, c900157, hv900158, hcp900159, -⟩ := row_reads (HS.get (.tail _ (.tail _ (.tail _ (.tail _ (.tail _ (.tail _ (.tail _ (.tail _ (.head _))))))))))
                      subst hv900158
                      refine wp_exit ?_
                      refine hK900124 _ _ ?_
                      refine wp_seq_k (fun K900160 hK900161 => ?_)
                      refine c_region (fun ops900163 hops900162 => ?_)
                      clear hops900162
                      refine p_run (l' := _) _ (x_move (.pointer (some ⟨D22, 0, none⟩)) rfl rfl) rfl ?_
                      refine w_call [.pointer (some ⟨D22, 0, none⟩)] Try.func12 (by kernel_rfl) (by rfl) rfl ?_
                      replace HS := ((((HS.front 7 rfl).front 7 rfl).front 7 rfl).front 7 rfl)
                      refine (sync_any HS hI0.1.ok (by have := hI0.1.pn; omega)).mono ?_
                      clear HS
                      rintro e w900165 ⟨v900164, rfl, HS⟩
                      have hgd900166 : Dk.good S.sync (i) := good_sync hI0.1
                      refine ⟨_, rfl, ?_⟩
                      refine wpList_nil ?_
                      refine fr_at (l' := [.int .i64 pages, .slice A1 l1.length c1, .slice A2 l2.length c2, undef, undef, undef, u6, .pointer (some ⟨D22, 0, none⟩), .pointer (some ⟨D27, 0, none⟩), .slice A900156 ((List.replicate S.pending.length (255 : Int)).length) c900157, undef, u11, undef, undef, undef, undef, undef, .bool true, .bool false, .int .i64 pages, .bool false, .bool false, .int .i64 pages, .bool false, .bool false, .bool false, .slice A1 l1.length c1, .int .i64 (l1.length : Int), .bool false, .bool false, .bool false, .slice A2 l2.length c2, .int .i64 (l2.length : Int), .bool false, .bool false, .int .i64 pages, .pointer (some ⟨D22, 0, none⟩), .int .i64 pages, .pointer (some ⟨D27, 0, none⟩), v36, .slice A1 l1.length c1, .int .i64 (l1.length : Int), .int .i64 (i : Int), .bool (decide ((i : Int) < (l1.length : Int))), u44, u45, u46, u47, u48, u49, u50, u51, u52, u53, u54, u55, u56, u57, u58, u59, u60, u61, u62, u63, u64, u65, u66, u67, u68, u69, u70, u71, u72, u73, .pointer (some ⟨D27, 0, none⟩), .slice A900131 S.pending.length c900132, .int .i64 (S.pending.length : Int), .int .i64 (S.pending.length : Int), .bool (decide ((S.pending.length : Int) < (S.pending.length : Int))), u79, u80, u81, u82, .pointer (some ⟨D22, 0, none⟩), .int .i64 S.actE, undef, undef, undef, undef, undef, undef, undef, undef, undef, undef, undef, undef, undef, undef, undef, undef, undef, undef, undef, undef, undef, undef, undef, undef, undef, undef, undef, undef, undef, undef, undef, undef, undef, undef, undef, undef, undef, undef, undef, undef, undef, undef]) rfl ?_
                      refine hK900161 _ _ ?_
                      refine wp_seq_k (fun K900167 hK900168 => ?_)
                      refine c_region (fun ops900170 hops900169 => ?_)
                      clear hops900169
                      refine p_run (l' := _) _ (x_move (.pointer (some ⟨D27, 0, none⟩)) rfl rfl) rfl ?_
                      refine p_run (l' := _) _ (x_move (.slice A900156 ((List.replicate S.pending.length (255 : Int)).length) c900157) rfl rfl) rfl ?_
                      refine w_call [.pointer (some ⟨D27, 0, none⟩), .slice A900156 ((List.replicate S.pending.length (255 : Int)).length) c900157] Try.func16 (by kernel_rfl) (by rfl) rfl ?_
                      replace HS := ((((HS.front 7 rfl).front 7 rfl).front 7 rfl).front 7 rfl)
                      refine (crash_any HS hI0.1.ok (by have := hI0.1.pn; omega) (List.replicate S.pending.length (255 : Int)) (fun z hz => by rw [(List.mem_replicate.1 hz).2]; decide) (fun w X hx => (row_C (hx.hs.right.1 _ (.tail _ (.tail _ (.tail _ (.tail _ (.head _))))))).2.2)).mono ?_
                      clear HS
                      rintro e w900172 ⟨v900171, rfl, HS⟩
                      have hgd900173 : Dk.good (S.crash (List.replicate S.pending.length (255 : Int))) (i) := good_crash hI0.1 _
                      refine ⟨_, rfl, ?_⟩
                      refine wpList_nil ?_
                      refine fr_at (l' := [.int .i64 pages, .slice A1 l1.length c1, .slice A2 l2.length c2, undef, undef, undef, u6, .pointer (some ⟨D22, 0, none⟩), .pointer (some ⟨D27, 0, none⟩), .slice A900156 ((List.replicate S.pending.length (255 : Int)).length) c900157, undef, u11, undef, undef, undef, undef, undef, .bool true, .bool false, .int .i64 pages, .bool false, .bool false, .int .i64 pages, .bool false, .bool false, .bool false, .slice A1 l1.length c1, .int .i64 (l1.length : Int), .bool false, .bool false, .bool false, .slice A2 l2.length c2, .int .i64 (l2.length : Int), .bool false, .bool false, .int .i64 pages, .pointer (some ⟨D22, 0, none⟩), .int .i64 pages, .pointer (some ⟨D27, 0, none⟩), v36, .slice A1 l1.length c1, .int .i64 (l1.length : Int), .int .i64 (i : Int), .bool (decide ((i : Int) < (l1.length : Int))), u44, u45, u46, u47, u48, u49, u50, u51, u52, u53, u54, u55, u56, u57, u58, u59, u60, u61, u62, u63, u64, u65, u66, u67, u68, u69, u70, u71, u72, u73, .pointer (some ⟨D27, 0, none⟩), .slice A900131 S.pending.length c900132, .int .i64 (S.pending.length : Int), .int .i64 (S.pending.length : Int), .bool (decide ((S.pending.length : Int) < (S.pending.length : Int))), u79, u80, u81, u82, .pointer (some ⟨D22, 0, none⟩), .int .i64 S.actE, .pointer (some ⟨D27, 0, none⟩), .slice A900156 ((List.replicate S.pending.length (255 : Int)).length) c900157, .tuple [].toArray, undef, undef, undef, undef, undef, undef, undef, undef, undef, undef, undef, undef, undef, undef, undef, undef, undef, undef, undef, undef, undef, undef, undef, undef, undef, undef, undef, undef, undef, undef, undef, undef, undef, undef, undef, undef, undef, undef, undef]) rfl ?_
                      refine hK900168 _ _ ?_
                      refine wp_seq_k (fun K900174 hK900175 => ?_)
                      refine c_region (fun ops900177 hops900176 => ?_)
                      clear hops900176
                      refine p_run (l' := _) _ (x_move (.pointer (some ⟨D27, 0, none⟩)) rfl rfl) rfl ?_
                      refine p_run (l' := _) _ (x_move (.slice A2 l2.length c2) rfl rfl) rfl ?_
                      refine w_call [.pointer (some ⟨D27, 0, none⟩), .slice A2 l2.length c2] Try.func16 (by kernel_rfl) (by rfl) rfl ?_
                      replace HS := ((((HS.front 3 rfl).front 3 rfl).front 3 rfl).front 3 rfl)
                      refine (crash_any HS hgd900173.ok (by have := hgd900173.pn; omega) l2 hk2 (fun w X hx => Kd.C_below hr2 hx.belowOf)).mono ?_
                      clear HS
                      rintro e w900179 ⟨v900178, rfl, HS⟩
                      have hgd900180 : Dk.good ((S.crash (List.replicate S.pending.length (255 : Int))).crash l2) (i) := good_crash hgd900173 _
                      refine ⟨_, rfl, ?_⟩
                      refine wpList_nil ?_
                      refine fr_at (l' := [.int .i64 pages, .slice A1 l1.length c1, .slice A2 l2.length c2, undef, undef, undef, u6, .pointer (some ⟨D22, 0, none⟩), .pointer (some ⟨D27, 0, none⟩), .slice A900156 ((List.replicate S.pending.length (255 : Int)).length) c900157, undef, u11, undef, undef, undef, undef, undef, .bool true, .bool false, .int .i64 pages, .bool false, .bool false, .int .i64 pages, .bool false, .bool false, .bool false, .slice A1 l1.length c1, .int .i64 (l1.length : Int), .bool false, .bool false, .bool false, .slice A2 l2.length c2, .int .i64 (l2.length : Int), .bool false, .bool false, .int .i64 pages, .pointer (some ⟨D22, 0, none⟩), .int .i64 pages, .pointer (some ⟨D27, 0, none⟩), v36, .slice A1 l1.length c1, .int .i64 (l1.length : Int), .int .i64 (i : Int), .bool (decide ((i : Int) < (l1.length : Int))), u44, u45, u46, u47, u48, u49, u50, u51, u52, u53, u54, u55, u56, u57, u58, u59, u60, u61, u62, u63, u64, u65, u66, u67, u68, u69, u70, u71, u72, u73, .pointer (some ⟨D27, 0, none⟩), .slice A900131 S.pending.length c900132, .int .i64 (S.pending.length : Int), .int .i64 (S.pending.length : Int), .bool (decide ((S.pending.length : Int) < (S.pending.length : Int))), u79, u80, u81, u82, .pointer (some ⟨D22, 0, none⟩), .int .i64 S.actE, .pointer (some ⟨D27, 0, none⟩), .slice A900156 ((List.replicate S.pending.length (255 : Int)).length) c900157, .tuple [].toArray, .pointer (some ⟨D27, 0, none⟩), .slice A2 l2.length c2, .tuple [].toArray, undef, undef, undef, undef, undef, undef, undef, undef, undef, undef, undef, undef, undef, undef, undef, undef, undef, undef, undef, undef, undef, undef, undef, undef, undef, undef, undef, undef, undef, undef, undef, undef, undef, undef, undef, undef]) rfl ?_
                      refine hK900175 _ _ ?_
                      refine wp_seq_k (fun K900181 hK900182 => ?_)
                      refine wp_seq_k (fun K900183 hK900184 => ?_)
                      refine c_region (fun ops900186 hops900185 => ?_)
                      clear hops900185
                      refine p_run (l' := _) _ (x_assign (.int .i64 0) rfl rfl) rfl ?_
                      refine wpList_nil ?_
                      refine fr_at (l' := [.int .i64 pages, .slice A1 l1.length c1, .slice A2 l2.length c2, undef, undef, undef, u6, .pointer (some ⟨D22, 0, none⟩), .pointer (some ⟨D27, 0, none⟩), .slice A900156 ((List.replicate S.pending.length (255 : Int)).length) c900157, undef, u11, .int .i64 0, undef, undef, undef, undef, .bool true, .bool false, .int .i64 pages, .bool false, .bool false, .int .i64 pages, .bool false, .bool false, .bool false, .slice A1 l1.length c1, .int .i64 (l1.length : Int), .bool false, .bool false, .bool false, .slice A2 l2.length c2, .int .i64 (l2.length : Int), .bool false, .bool false, .int .i64 pages, .pointer (some ⟨D22, 0, none⟩), .int .i64 pages, .pointer (some ⟨D27, 0, none⟩), v36, .slice A1 l1.length c1, .int .i64 (l1.length : Int), .int .i64 (i : Int), .bool (decide ((i : Int) < (l1.length : Int))), u44, u45, u46, u47, u48, u49, u50, u51, u52, u53, u54, u55, u56, u57, u58, u59, u60, u61, u62, u63, u64, u65, u66, u67, u68, u69, u70, u71, u72, u73, .pointer (some ⟨D27, 0, none⟩), .slice A900131 S.pending.length c900132, .int .i64 (S.pending.length : Int), .int .i64 (S.pending.length : Int), .bool (decide ((S.pending.length : Int) < (S.pending.length : Int))), u79, u80, u81, u82, .pointer (some ⟨D22, 0, none⟩), .int .i64 S.actE, .pointer (some ⟨D27, 0, none⟩), .slice A900156 ((List.replicate S.pending.length (255 : Int)).length) c900157, .tuple [].toArray, .pointer (some ⟨D27, 0, none⟩), .slice A2 l2.length c2, .tuple [].toArray, undef, undef, undef, undef, undef, undef, undef, undef, undef, undef, undef, undef, undef, undef, undef, undef, undef, undef, undef, undef, undef, undef, undef, undef, undef, undef, undef, undef, undef, undef, undef, undef, undef, undef, undef, undef]) rfl ?_
                      refine hK900184 _ _ ?_
                      refine wp_block ?_
                      have hst : ((S.crash (List.replicate S.pending.length (255 : Int))).crash l2).stable = S.sync.stable := ag_stable hI0.2.1 l2
                      have hsl : (S.sync.stable.length : Int) = pages := by rw [sy_length hI0.1]; exact hI0.2.2
                      refine c_loop (ι := Nat) (fun i_ a_ w_ => match i_ with | k => ∃ (u6 : Value) (u13 : Value) (u14 : Value) (u15 : Value) (u16 : Value) (u91 : Value) (u92 : Value) (u93 : Value) (u94 : Value) (u95 : Value) (u96 : Value) (u97 : Value) (u98 : Value) (u99 : Value) (u100 : Value) (u101 : Value) (u102 : Value) (u103 : Value) (u104 : Value) (u105 : Value) (u106 : Value) (u107 : Value) (u108 : Value) (u109 : Value) (u110 : Value) (u111 : Value) (u112 : Value) (u113 : Value) (u114 : Value) (u115 : Value) (u116 : Value) (u117 : Value) (u118 : Value), a_ = fr [.int .i64 pages, .slice A1 l1.length c1, .slice A2 l2.length c2, undef, undef, undef, u6, .pointer (some ⟨D22, 0, none⟩), .pointer (some ⟨D27, 0, none⟩), .slice A900156 ((List.replicate S.pending.length (255 : Int)).length) c900157, undef, u11, .int .i64 (k : Int), u13, u14, u15, u16, .bool true, .bool false, .int .i64 pages, .bool false, .bool false, .int .i64 pages, .bool false, .bool false, .bool false, .slice A1 l1.length c1, .int .i64 (l1.length : Int), .bool false, .bool false, .bool false, .slice A2 l2.length c2, .int .i64 (l2.length : Int), .bool false, .bool false, .int .i64 pages, .pointer (some ⟨D22, 0, none⟩), .int .i64 pages, .pointer (some ⟨D27, 0, none⟩), v36, .slice A1 l1.length c1, .int .i64 (l1.length : Int), .int .i64 (i : Int), .bool (decide ((i : Int) < (l1.length : Int))), u44, u45, u46, u47, u48, u49, u50, u51, u52, u53, u54, u55, u56, u57, u58, u59, u60, u61, u62, u63, u64, u65, u66, u67, u68, u69, u70, u71, u72, u73, .pointer (some ⟨D27, 0, none⟩), .slice A900131 S.pending.length c900132, .int .i64 (S.pending.length : Int), .int .i64 (S.pending.length : Int), .bool (decide ((S.pending.length : Int) < (S.pending.length : Int))), u79, u80, u81, u82, .pointer (some ⟨D22, 0, none⟩), .int .i64 S.actE, .pointer (some ⟨D27, 0, none⟩), .slice A900156 ((List.replicate S.pending.length (255 : Int)).length) c900157, .tuple [].toArray, .pointer (some ⟨D27, 0, none⟩), .slice A2 l2.length c2, .tuple [].toArray, u91, u92, u93, u94, u95, u96, u97, u98, u99, u100, u101, u102, u103, u104, u105, u106, u107, u108, u109, u110, u111, u112, u113, u114, u115, u116, u117, u118, undef, undef, undef, undef, undef, undef, undef, undef] ∧ St w (fun _ => False) w_ ([blk D27 (dskC gs28 gm29 v900178 ((S.crash (List.replicate S.pending.length (255 : Int))).crash l2)) 66, blk gs28 (pgs ((S.crash (List.replicate S.pending.length (255 : Int))).crash l2).stable) 31, mapR gm29 ((S.crash (List.replicate S.pending.length (255 : Int))).crash l2).cnt ((S.crash (List.replicate S.pending.length (255 : Int))).crash l2).bad, row kWr rfl 71 v900178 ((S.crash (List.replicate S.pending.length (255 : Int))).crash l2).pending, blk D22 (dskC gs23 gm24 v900164 S.sync) 66, blk gs23 (pgs S.sync.stable) 31, mapR gm24 S.sync.cnt S.sync.bad, row kWr rfl 71 v900164 S.sync.pending, row (Kd.int .u8) rfl 5 (.slice A900156 ((List.replicate S.pending.length (255 : Int)).length) c900157) (List.replicate S.pending.length (255 : Int))]) ∧ (True)) (fun i_ => match i_ with | k => pages.toNat - k) 0 ?_ ?_
                      · exact ⟨_, _, _, _, _, _, _, _, _, _, _, _, _, _, _, _, _, _, _, _, _, _, _, _, _, _, _, _, _, _, _, _, _, rfl, (((((((((HS.front 8 rfl).front 8 rfl).front 8 rfl).front 8 rfl).front 8 rfl).front 8 rfl).front 8 rfl).front 8 rfl).front 8 rfl), trivial⟩
                      · clear HS
                        rintro k a_ w900189 ⟨u6, u13, u14, u15, u16, u91, u92, u93, u94, u95, u96, u97, u98, u99, u100, u101, u102, u103, u104, u105, u106, u107, u108, u109, u110, u111, u112, u113, u114, u115, u116, u117, u118, rfl, HS, hI⟩ J900187 hJ900188
                        refine wp_seq_k (fun K900190 hK900191 => ?_)
                        refine wp_seq_k (fun K900192 hK900193 => ?_)
                        refine c_region (fun ops900195 hops900194 => ?_)
                        clear hops900194
                        refine p_run (l' := _) _ (x_move (.int .i64 (k : Int)) rfl rfl) rfl ?_
                        refine p_run (l' := _) _ (x_move (.int .i64 pages) rfl rfl) rfl ?_
                        refine p_run (l' := _) _ (x_cmp (k := .i64) (m := (k : Int)) (n := pages) .lss (decide ((k : Int) < pages)) rfl rfl rfl rfl rfl) rfl ?_
                        refine wpList_nil ?_
                        refine fr_at (l' := [.int .i64 pages, .slice A1 l1.length c1, .slice A2 l2.length c2, undef, undef, undef, u6, .pointer (some ⟨D22, 0, none⟩), .pointer (some ⟨D27, 0, none⟩), .slice A900156 ((List.replicate S.pending.length (255 : Int)).length) c900157, undef, u11, .int .i64 (k : Int), u13, u14, u15, u16, .bool true, .bool false, .int .i64 pages, .bool false, .bool false, .int .i64 pages, .bool false, .bool false, .bool false, .slice A1 l1.length c1, .int .i64 (l1.length : Int), .bool false, .bool false, .bool false, .slice A2 l2.length c2, .int .i64 (l2.length : Int), .bool false, .bool false, .int .i64 pages, .pointer (some ⟨D22, 0, none⟩), .int .i64 pages, .pointer (some ⟨D27, 0, none⟩), v36, .slice A1 l1.length c1, .int .i64 (l1.length : Int), .int .i64 (i : Int), .bool (decide ((i : Int) < (l1.length : Int))), u44, u45, u46, u47, u48, u49, u50, u51, u52, u53, u54, u55, u56, u57, u58, u59, u60, u61, u62, u63, u64, u65, u66, u67, u68, u69, u70, u71, u72, u73, .pointer (some ⟨D27, 0, none⟩), .slice A900131 S.pending.length c900132, .int .i64 (S.pending.length : Int), .int .i64 (S.pending.length : Int), .bool (decide ((S.pending.length : Int) < (S.pending.length : Int))), u79, u80, u81, u82, .pointer (some ⟨D22, 0, none⟩), .int .i64 S.actE, .pointer (some ⟨D27, 0, none⟩), .slice A900156 ((List.replicate S.pending.length (255 : Int)).length) c900157, .tuple [].toArray, .pointer (some ⟨D27, 0, none⟩), .slice A2 l2.length c2, .tuple [].toArray, .int .i64 (k : Int), .int .i64 pages, .bool (decide ((k : Int) < pages)), u94, u95, u96, u97, u98, u99, u100, u101, u102, u103, u104, u105, u106, u107, u108, u109, u110, u111, u112, u113, u114, u115, u116, u117, u118, undef, undef, undef, undef, undef, undef, undef, undef]) rfl ?_
                        refine hK900193 _ _ ?_
                        refine c_cond (t := decide ((k : Int) < pages)) rfl (fun hc900196 => ?_) (fun hc900196 => ?_)
                        · have hkp : (k : Int) < pages := of_decide_eq_true hc900196
                          have ht1 : S.sync.there (k : Int) = true := ag_there (by rw [hsl]; exact hkp)
                          have ht2 : ((S.crash (List.replicate S.pending.length (255 : Int))).crash l2).there (k : Int) = true := ag_there (by rw [hst, hsl]; exact hkp)
                          refine wp_skip ?_
                          refine hK900191 _ _ ?_
                          refine wp_seq_k (fun K900197 hK900198 => ?_)
                          refine wp_block ?_
                          refine wp_seq_k (fun K900199 hK900200 => ?_)
                          refine c_region (fun ops900202 hops900201 => ?_)
                          clear hops900201
                          refine p_run (l' := _) _ (x_move (.pointer (some ⟨D22, 0, none⟩)) rfl rfl) rfl ?_
                          refine p_run (l' := _) _ (x_move (.int .i64 (k : Int)) rfl rfl) rfl ?_
                          refine w_call [.pointer (some ⟨D22, 0, none⟩), .int .i64 (k : Int)] Try.func18 (by kernel_rfl) (by rfl) rfl ?_
                          replace HS := ((((HS.front 7 rfl).front 7 rfl).front 7 rfl).front 7 rfl)
                          refine (stable_any HS hgd900166.ok (k : Int)).mono ?_
                          clear HS
                          rintro e w900203 ⟨rfl, HS⟩
                          refine ⟨_, rfl, ?_⟩
                          refine p_run (l' := [.int .i64 pages, .slice A1 l1.length c1, .slice A2 l2.length c2, undef, undef, undef, u6, .pointer (some ⟨D22, 0, none⟩), .pointer (some ⟨D27, 0, none⟩), .slice A900156 ((List.replicate S.pending.length (255 : Int)).length) c900157, undef, u11, .int .i64 (k : Int), u13, u14, u15, u16, .bool true, .bool false, .int .i64 pages, .bool false, .bool false, .int .i64 pages, .bool false, .bool false, .bool false, .slice A1 l1.length c1, .int .i64 (l1.length : Int), .bool false, .bool false, .bool false, .slice A2 l2.length c2, .int .i64 (l2.length : Int), .bool false, .bool false, .int .i64 pages, .pointer (some ⟨D22, 0, none⟩), .int .i64 pages, .pointer (some ⟨D27, 0, none⟩), v36, .slice A1 l1.length c1, .int .i64 (l1.length : Int), .int .i64 (i : Int), .bool (decide ((i : Int) < (l1.length : Int))), u44, u45, u46, u47, u48, u49, u50, u51, u52, u53, u54, u55, u56, u57, u58, u59, u60, u61, u62, u63, u64, u65, u66, u67, u68, u69, u70, u71, u72, u73, .pointer (some ⟨D27, 0, none⟩), .slice A900131 S.pending.length c900132, .int .i64 (S.pending.length : Int), .int .i64 (S.pending.length : Int), .bool (decide ((S.pending.length : Int) < (S.pending.length : Int))), u79, u80, u81, u82, .pointer (some ⟨D22, 0, none⟩), .int .i64 S.actE, .pointer (some ⟨D27, 0, none⟩), .slice A900156 ((List.replicate S.pending.length (255 : Int)).length) c900157, .tuple [].toArray, .pointer (some ⟨D27, 0, none⟩), .slice A2 l2.length c2, .tuple [].toArray, .int .i64 (k : Int), .int .i64 pages, .bool (decide ((k : Int) < pages)), u94, u95, .tuple [.agg ((nums .u8 (S.sync.stabP (k : Int)))).toArray, .int .i64 (S.sync.pageE (k : Int))].toArray, .pointer (some ⟨D22, 0, none⟩), .int .i64 (k : Int), .tuple [.agg ((nums .u8 (S.sync.stabP (k : Int)))).toArray, .int .i64 (S.sync.pageE (k : Int))].toArray, u100, u101, u102, u103, u104, u105, u106, u107, u108, u109, u110, u111, u112, u113, u114, u115, u116, u117, u118, undef, undef, undef, undef, undef, undef, undef, undef]) _ (x_move (.tuple [.agg ((nums .u8 (S.sync.stabP (k : Int)))).toArray, .int .i64 (S.sync.pageE (k : Int))].toArray) rfl rfl) rfl ?_
                          refine p_run (l' := _) _ (x_extract (vs := [.agg ((nums .u8 (S.sync.stabP (k : Int)))).toArray, .int .i64 (S.sync.pageE (k : Int))]) 0 (.agg ((nums .u8 (S.sync.stabP (k : Int)))).toArray) rfl rfl rfl) rfl ?_
                          refine p_run (l' := _) _ (x_extract (vs := [.agg ((nums .u8 (S.sync.stabP (k : Int)))).toArray, .int .i64 (S.sync.pageE (k : Int))]) 1 (.int .i64 (S.sync.pageE (k : Int))) rfl rfl rfl) rfl ?_
                          refine St.wAlloc HS (cs := ((nums .u8 zpg))) (.agg ((nums .u8 zpg)).toArray) (by kernel_rfl) rfl ?_
                          clear HS
                          intro g900204 w900205 hg900206 HS
                          refine St.stores (cs' := ((nums .u8 (S.sync.stabP (k : Int))))) HS ((nums .u8 (S.sync.stabP (k : Int)))) 256 rfl rfl (nums_one _ _) (by kernel_rfl) (by simp [nums_length, stabP_len hgd900166.ok]) (by simp [nums_length, stabP_len hgd900166.ok, zlen]) (lay_all _ _ (by simp [nums_length, stabP_len hgd900166.ok, zlen])) ?_
                          clear HS
                          intro w900207 HS
                          refine p_run (l' := [.int .i64 pages, .slice A1 l1.length c1, .slice A2 l2.length c2, undef, undef, undef, u6, .pointer (some ⟨D22, 0, none⟩), .pointer (some ⟨D27, 0, none⟩), .slice A900156 ((List.replicate S.pending.length (255 : Int)).length) c900157, undef, u11, .int .i64 (k : Int), .pointer (some ⟨g900204, 0, none⟩), .int .i64 (S.sync.pageE (k : Int)), u15, u16, .bool true, .bool false, .int .i64 pages, .bool false, .bool false, .int .i64 pages, .bool false, .bool false, .bool false, .slice A1 l1.length c1, .int .i64 (l1.length : Int), .bool false, .bool false, .bool false, .slice A2 l2.length c2, .int .i64 (l2.length : Int), .bool false, .bool false, .int .i64 pages, .pointer (some ⟨D22, 0, none⟩), .int .i64 pages, .pointer (some ⟨D27, 0, none⟩), v36, .slice A1 l1.length c1, .int .i64 (l1.length : Int), .int .i64 (i : Int), .bool (decide ((i : Int) < (l1.length : Int))), u44, u45, u46, u47, u48, u49, u50, u51, u52, u53, u54, u55, u56, u57, u58, u59, u60, u61, u62, u63, u64, u65, u66, u67, u68, u69, u70, u71, u72, u73, .pointer (some ⟨D27, 0, none⟩), .slice A900131 S.pending.length c900132, .int .i64 (S.pending.length : Int), .int .i64 (S.pending.length : Int), .bool (decide ((S.pending.length : Int) < (S.pending.length : Int))), u79, u80, u81, u82, .pointer (some ⟨D22, 0, none⟩), .int .i64 S.actE, .pointer (some ⟨D27, 0, none⟩), .slice A900156 ((List.replicate S.pending.length (255 : Int)).length) c900157, .tuple [].toArray, .pointer (some ⟨D27, 0, none⟩), .slice A2 l2.length c2, .tuple [].toArray, .int .i64 (k : Int), .int .i64 pages, .bool (decide ((k : Int) < pages)), u94, u95, .tuple [.agg ((nums .u8 (S.sync.stabP (k : Int)))).toArray, .int .i64 (S.sync.pageE (k : Int))].toArray, .pointer (some ⟨D22, 0, none⟩), .int .i64 (k : Int), .tuple [.agg ((nums .u8 (S.sync.stabP (k : Int)))).toArray, .int .i64 (S.sync.pageE (k : Int))].toArray, .agg ((nums .u8 (S.sync.stabP (k : Int)))).toArray, .int .i64 (S.sync.pageE (k : Int)), u102, u103, u104, u105, u106, u107, u108, u109, u110, u111, u112, u113, u114, u115, u116, u117, u118, undef, undef, undef, undef, undef, undef, undef, undef]) _ (x_assign (.int .i64 (S.sync.pageE (k : Int))) rfl rfl) rfl ?_
                          refine wpList_nil ?_
                          refine hK900200 _ _ ?_
                          refine wp_seq_k (fun K900208 hK900209 => ?_)
                          refine c_region (fun ops900211 hops900210 => ?_)
                          clear hops900210
                          refine p_run (l' := _) _ (x_move (.pointer (some ⟨D27, 0, none⟩)) rfl rfl) rfl ?_
                          refine p_run (l' := _) _ (x_move (.int .i64 (k : Int)) rfl rfl) rfl ?_
                          refine w_call [.pointer (some ⟨D27, 0, none⟩), .int .i64 (k : Int)] Try.func18 (by kernel_rfl) (by rfl) rfl ?_
                          replace HS := ((((HS.front 8 rfl).front 8 rfl).front 8 rfl).front 8 rfl)
                          refine (stable_any HS hgd900180.ok (k : Int)).mono ?_
                          clear HS
                          rintro e w900212 ⟨rfl, HS⟩
                          refine ⟨_, rfl, ?_⟩
                          refine p_run (l' := [.int .i64 pages, .slice A1 l1.length c1, .slice A2 l2.length c2, undef, undef, undef, u6, .pointer (some ⟨D22, 0, none⟩), .pointer (some ⟨D27, 0, none⟩), .slice A900156 ((List.replicate S.pending.length (255 : Int)).length) c900157, undef, u11, .int .i64 (k : Int), .pointer (some ⟨g900204, 0, none⟩), .int .i64 (S.sync.pageE (k : Int)), u15, u16, .bool true, .bool false, .int .i64 pages, .bool false, .bool false, .int .i64 pages, .bool false, .bool false, .bool false, .slice A1 l1.length c1, .int .i64 (l1.length : Int), .bool false, .bool false, .bool false, .slice A2 l2.length c2, .int .i64 (l2.length : Int), .bool false, .bool false, .int .i64 pages, .pointer (some ⟨D22, 0, none⟩), .int .i64 pages, .pointer (some ⟨D27, 0, none⟩), v36, .slice A1 l1.length c1, .int .i64 (l1.length : Int), .int .i64 (i : Int), .bool (decide ((i : Int) < (l1.length : Int))), u44, u45, u46, u47, u48, u49, u50, u51, u52, u53, u54, u55, u56, u57, u58, u59, u60, u61, u62, u63, u64, u65, u66, u67, u68, u69, u70, u71, u72, u73, .pointer (some ⟨D27, 0, none⟩), .slice A900131 S.pending.length c900132, .int .i64 (S.pending.length : Int), .int .i64 (S.pending.length : Int), .bool (decide ((S.pending.length : Int) < (S.pending.length : Int))), u79, u80, u81, u82, .pointer (some ⟨D22, 0, none⟩), .int .i64 S.actE, .pointer (some ⟨D27, 0, none⟩), .slice A900156 ((List.replicate S.pending.length (255 : Int)).length) c900157, .tuple [].toArray, .pointer (some ⟨D27, 0, none⟩), .slice A2 l2.length c2, .tuple [].toArray, .int .i64 (k : Int), .int .i64 pages, .bool (decide ((k : Int) < pages)), u94, u95, .tuple [.agg ((nums .u8 (S.sync.stabP (k : Int)))).toArray, .int .i64 (S.sync.pageE (k : Int))].toArray, .pointer (some ⟨D22, 0, none⟩), .int .i64 (k : Int), .tuple [.agg ((nums .u8 (S.sync.stabP (k : Int)))).toArray, .int .i64 (S.sync.pageE (k : Int))].toArray, .agg ((nums .u8 (S.sync.stabP (k : Int)))).toArray, .int .i64 (S.sync.pageE (k : Int)), .tuple [.agg ((nums .u8 (((S.crash (List.replicate S.pending.length (255 : Int))).crash l2).stabP (k : Int)))).toArray, .int .i64 (((S.crash (List.replicate S.pending.length (255 : Int))).crash l2).pageE (k : Int))].toArray, .pointer (some ⟨D27, 0, none⟩), .int .i64 (k : Int), .tuple [.agg ((nums .u8 (((S.crash (List.replicate S.pending.length (255 : Int))).crash l2).stabP (k : Int)))).toArray, .int .i64 (((S.crash (List.replicate S.pending.length (255 : Int))).crash l2).pageE (k : Int))].toArray, u106, u107, u108, u109, u110, u111, u112, u113, u114, u115, u116, u117, u118, undef, undef, undef, undef, undef, undef, undef, undef]) _ (x_move (.tuple [.agg ((nums .u8 (((S.crash (List.replicate S.pending.length (255 : Int))).crash l2).stabP (k : Int)))).toArray, .int .i64 (((S.crash (List.replicate S.pending.length (255 : Int))).crash l2).pageE (k : Int))].toArray) rfl rfl) rfl ?_
                          refine p_run (l' := _) _ (x_extract (vs := [.agg ((nums .u8 (((S.crash (List.replicate S.pending.length (255 : Int))).crash l2).stabP (k : Int)))).toArray, .int .i64 (((S.crash (List.replicate S.pending.length (255 : Int))).crash l2).pageE (k : Int))]) 0 (.agg ((nums .u8 (((S.crash (List.replicate S.pending.length (255 : Int))).crash l2).stabP (k : Int)))).toArray) rfl rfl rfl) rfl ?_
                          refine p_run (l' := _) _ (x_extract (vs := [.agg ((nums .u8 (((S.crash (List.replicate S.pending.length (255 : Int))).crash l2).stabP (k : Int)))).toArray, .int .i64 (((S.crash (List.replicate S.pending.length (255 : Int))).crash l2).pageE (k : Int))]) 1 (.int .i64 (((S.crash (List.replicate S.pending.length (255 : Int))).crash l2).pageE (k : Int))) rfl rfl rfl) rfl ?_
                          refine St.wAlloc HS (cs := ((nums .u8 zpg))) (.agg ((nums .u8 zpg)).toArray) (by kernel_rfl) rfl ?_
                          clear HS
                          intro g900213 w900214 hg900215 HS
                          refine St.stores (cs' := ((nums .u8 (((S.crash (List.replicate S.pending.length (255 : Int))).crash l2).stabP (k : Int))))) HS ((nums .u8 (((S.crash (List.replicate S.pending.length (255 : Int))).crash l2).stabP (k : Int)))) 256 rfl rfl (nums_one _ _) (by kernel_rfl) (by simp [nums_length, stabP_len hgd900180.ok]) (by simp [nums_length, stabP_len hgd900180.ok, zlen]) (lay_all _ _ (by simp [nums_length, stabP_len hgd900180.ok, zlen])) ?_
                          clear HS
                          intro w900216 HS
                          refine p_run (l' := [.int .i64 pages, .slice A1 l1.length c1, .slice A2 l2.length c2, undef, undef, undef, u6, .pointer (some ⟨D22, 0, none⟩), .pointer (some ⟨D27, 0, none⟩), .slice A900156 ((List.replicate S.pending.length (255 : Int)).length) c900157, undef, u11, .int .i64 (k : Int), .pointer (some ⟨g900204, 0, none⟩), .int .i64 (S.sync.pageE (k : Int)), .pointer (some ⟨g900213, 0, none⟩), .int .i64 (((S.crash (List.replicate S.pending.length (255 : Int))).crash l2).pageE (k : Int)), .bool true, .bool false, .int .i64 pages, .bool false, .bool false, .int .i64 pages, .bool false, .bool false, .bool false, .slice A1 l1.length c1, .int .i64 (l1.length : Int), .bool false, .bool false, .bool false, .slice A2 l2.length c2, .int .i64 (l2.length : Int), .bool false, .bool false, .int .i64 pages, .pointer (some ⟨D22, 0, none⟩), .int .i64 pages, .pointer (some ⟨D27, 0, none⟩), v36, .slice A1 l1.length c1, .int .i64 (l1.length : Int), .int .i64 (i : Int), .bool (decide ((i : Int) < (l1.length : Int))), u44, u45, u46, u47, u48, u49, u50, u51, u52, u53, u54, u55, u56, u57, u58, u59, u60, u61, u62, u63, u64, u65, u66, u67, u68, u69, u70, u71, u72, u73, .pointer (some ⟨D27, 0, none⟩), .slice A900131 S.pending.length c900132, .int .i64 (S.pending.length : Int), .int .i64 (S.pending.length : Int), .bool (decide ((S.pending.length : Int) < (S.pending.length : Int))), u79, u80, u81, u82, .pointer (some ⟨D22, 0, none⟩), .int .i64 S.actE, .pointer (some ⟨D27, 0, none⟩), .slice A900156 ((List.replicate S.pending.length (255 : Int)).length) c900157, .tuple [].toArray, .pointer (some ⟨D27, 0, none⟩), .slice A2 l2.length c2, .tuple [].toArray, .int .i64 (k : Int), .int .i64 pages, .bool (decide ((k : Int) < pages)), u94, u95, .tuple [.agg ((nums .u8 (S.sync.stabP (k : Int)))).toArray, .int .i64 (S.sync.pageE (k : Int))].toArray, .pointer (some ⟨D22, 0, none⟩), .int .i64 (k : Int), .tuple [.agg ((nums .u8 (S.sync.stabP (k : Int)))).toArray, .int .i64 (S.sync.pageE (k : Int))].toArray, .agg ((nums .u8 (S.sync.stabP (k : Int)))).toArray, .int .i64 (S.sync.pageE (k : Int)), .tuple [.agg ((nums .u8 (((S.crash (List.replicate S.pending.length (255 : Int))).crash l2).stabP (k : Int)))).toArray, .int .i64 (((S.crash (List.replicate S.pending.length (255 : Int))).crash l2).pageE (k : Int))].toArray, .pointer (some ⟨D27, 0, none⟩), .int .i64 (k : Int), .tuple [.agg ((nums .u8 (((S.crash (List.replicate S.pending.length (255 : Int))).crash l2).stabP (k : Int)))).toArray, .int .i64 (((S.crash (List.replicate S.pending.length (255 : Int))).crash l2).pageE (k : Int))].toArray, .agg ((nums .u8 (((S.crash (List.replicate S.pending.length (255 : Int))).crash l2).stabP (k : Int)))).toArray, .int .i64 (((S.crash (List.replicate S.pending.length (255 : Int))).crash l2).pageE (k : Int)), u108, u109, u110, u111, u112, u113, u114, u115, u116, u117, u118, undef, undef, undef, undef, undef, undef, undef, undef]) _ (x_assign (.int .i64 (((S.crash (List.replicate S.pending.length (255 : Int))).crash l2).pageE (k : Int))) rfl rfl) rfl ?_
                          refine wpList_nil ?_
                          refine hK900209 _ _ ?_
                          refine wp_seq_k (fun K900217 hK900218 => ?_)
                          refine c_region (fun ops900220 hops900219 => ?_)
                          refine p_run (l' := _) _ (x_move (.int .i64 (S.sync.pageE (k : Int))) rfl rfl) rfl ?_
                          refine p_run (l' := _) _ (x_cmp (k := .i64) (m := (S.sync.pageE (k : Int))) (n := 0) .neq false rfl rfl rfl (by unfold cmpB; rw [pageE_yes ht1]; rfl) rfl) rfl ?_
                          refine p_run (l' := _) _ (x_move (.bool false) rfl rfl) rfl ?_
                          refine p_on rfl (by rw [hops900219]; rfl) ?_
                          refine p_run (l' := [.int .i64 pages, .slice A1 l1.length c1, .slice A2 l2.length c2, undef, undef, undef, u6, .pointer (some ⟨D22, 0, none⟩), .pointer (some ⟨D27, 0, none⟩), .slice A900156 ((List.replicate S.pending.length (255 : Int)).length) c900157, undef, u11, .int .i64 (k : Int), .pointer (some ⟨g900204, 0, none⟩), .int .i64 (S.sync.pageE (k : Int)), .pointer (some ⟨g900213, 0, none⟩), .int .i64 (((S.crash (List.replicate S.pending.length (255 : Int))).crash l2).pageE (k : Int)), .bool true, .bool false, .int .i64 pages, .bool false, .bool false, .int .i64 pages, .bool false, .bool false, .bool false, .slice A1 l1.length c1, .int .i64 (l1.length : Int), .bool false, .bool false, .bool false, .slice A2 l2.length c2, .int .i64 (l2.length : Int), .bool false, .bool false, .int .i64 pages, .pointer (some ⟨D22, 0, none⟩), .int .i64 pages, .pointer (some ⟨D27, 0, none⟩), v36, .slice A1 l1.length c1, .int .i64 (l1.length : Int), .int .i64 (i : Int), .bool (decide ((i : Int) < (l1.length : Int))), u44, u45, u46, u47, u48, u49, u50, u51, u52, u53, u54, u55, u56, u57, u58, u59, u60, u61, u62, u63, u64, u65, u66, u67, u68, u69, u70, u71, u72, u73, .pointer (some ⟨D27, 0, none⟩), .slice A900131 S.pending.length c900132, .int .i64 (S.pending.length : Int), .int .i64 (S.pending.length : Int), .bool (decide ((S.pending.length : Int) < (S.pending.length : Int))), u79, u80, u81, u82, .pointer (some ⟨D22, 0, none⟩), .int .i64 S.actE, .pointer (some ⟨D27, 0, none⟩), .slice A900156 ((List.replicate S.pending.length (255 : Int)).length) c900157, .tuple [].toArray, .pointer (some ⟨D27, 0, none⟩), .slice A2 l2.length c2, .tuple [].toArray, .int .i64 (k : Int), .int .i64 pages, .bool (decide ((k : Int) < pages)), u94, u95, .tuple [.agg ((nums .u8 (S.sync.stabP (k : Int)))).toArray, .int .i64 (S.sync.pageE (k : Int))].toArray, .pointer (some ⟨D22, 0, none⟩), .int .i64 (k : Int), .tuple [.agg ((nums .u8 (S.sync.stabP (k : Int)))).toArray, .int .i64 (S.sync.pageE (k : Int))].toArray, .agg ((nums .u8 (S.sync.stabP (k : Int)))).toArray, .int .i64 (S.sync.pageE (k : Int)), .tuple [.agg ((nums .u8 (((S.crash (List.replicate S.pending.length (255 : Int))).crash l2).stabP (k : Int)))).toArray, .int .i64 (((S.crash (List.replicate S.pending.length (255 : Int))).crash l2).pageE (k : Int))].toArray, .pointer (some ⟨D27, 0, none⟩), .int .i64 (k : Int), .tuple [.agg ((nums .u8 (((S.crash (List.replicate S.pending.length (255 : Int))).crash l2).stabP (k : Int)))).toArray, .int .i64 (((S.crash (List.replicate S.pending.length (255 : Int))).crash l2).pageE (k : Int))].toArray, .agg ((nums .u8 (((S.crash (List.replicate S.pending.length (255 : Int))).crash l2).stabP (k : Int)))).toArray, .int .i64 (((S.crash (List.replicate S.pending.length (255 : Int))).crash l2).pageE (k : Int)), .int .i64 (S.sync.pageE (k : Int)), .bool false, .bool false, .int .i64 (((S.crash (List.replicate S.pending.length (255 : Int))).crash l2).pageE (k : Int)), u112, u113, u114, u115, u116, u117, u118, undef, undef, undef, undef, undef, undef, undef, undef]) _ (x_move (.int .i64 (((S.crash (List.replicate S.pending.length (255 : Int))).crash l2).pageE (k : Int))) rfl rfl) rfl ?_
                          refine p_on rfl (by rw [hops900219]; rfl) ?_
                          refine p_run (l' := _) _ (x_cmp (k := .i64) (m := (((S.crash (List.replicate S.pending.length (255 : Int))).crash l2).pageE (k : Int))) (n := 0) .neq false rfl rfl rfl (by unfold cmpB; rw [pageE_yes ht2]; rfl) rfl) rfl ?_
                          refine p_run (l' := _) _ (x_pick false (.bool true) (.bool false) (.bool false) rfl rfl rfl rfl rfl) rfl ?_
                          refine p_run (l' := _) _ (x_move (.bool false) rfl rfl) rfl ?_
                          refine p_on rfl (by rw [hops900219]; rfl) ?_
                          refine p_run (l' := [.int .i64 pages, .slice A1 l1.length c1, .slice A2 l2.length c2, undef, undef, undef, u6, .pointer (some ⟨D22, 0, none⟩), .pointer (some ⟨D27, 0, none⟩), .slice A900156 ((List.replicate S.pending.length (255 : Int)).length) c900157, undef, u11, .int .i64 (k : Int), .pointer (some ⟨g900204, 0, none⟩), .int .i64 (S.sync.pageE (k : Int)), .pointer (some ⟨g900213, 0, none⟩), .int .i64 (((S.crash (List.replicate S.pending.length (255 : Int))).crash l2).pageE (k : Int)), .bool true, .bool false, .int .i64 pages, .bool false, .bool false, .int .i64 pages, .bool false, .bool false, .bool false, .slice A1 l1.length c1, .int .i64 (l1.length : Int), .bool false, .bool false, .bool false, .slice A2 l2.length c2, .int .i64 (l2.length : Int), .bool false, .bool false, .int .i64 pages, .pointer (some ⟨D22, 0, none⟩), .int .i64 pages, .pointer (some ⟨D27, 0, none⟩), v36, .slice A1 l1.length c1, .int .i64 (l1.length : Int), .int .i64 (i : Int), .bool (decide ((i : Int) < (l1.length : Int))), u44, u45, u46, u47, u48, u49, u50, u51, u52, u53, u54, u55, u56, u57, u58, u59, u60, u61, u62, u63, u64, u65, u66, u67, u68, u69, u70, u71, u72, u73, .pointer (some ⟨D27, 0, none⟩), .slice A900131 S.pending.length c900132, .int .i64 (S.pending.length : Int), .int .i64 (S.pending.length : Int), .bool (decide ((S.pending.length : Int) < (S.pending.length : Int))), u79, u80, u81, u82, .pointer (some ⟨D22, 0, none⟩), .int .i64 S.actE, .pointer (some ⟨D27, 0, none⟩), .slice A900156 ((List.replicate S.pending.length (255 : Int)).length) c900157, .tuple [].toArray, .pointer (some ⟨D27, 0, none⟩), .slice A2 l2.length c2, .tuple [].toArray, .int .i64 (k : Int), .int .i64 pages, .bool (decide ((k : Int) < pages)), u94, u95, .tuple [.agg ((nums .u8 (S.sync.stabP (k : Int)))).toArray, .int .i64 (S.sync.pageE (k : Int))].toArray, .pointer (some ⟨D22, 0, none⟩), .int .i64 (k : Int), .tuple [.agg ((nums .u8 (S.sync.stabP (k : Int)))).toArray, .int .i64 (S.sync.pageE (k : Int))].toArray, .agg ((nums .u8 (S.sync.stabP (k : Int)))).toArray, .int .i64 (S.sync.pageE (k : Int)), .tuple [.agg ((nums .u8 (((S.crash (List.replicate S.pending.length (255 : Int))).crash l2).stabP (k : Int)))).toArray, .int .i64 (((S.crash (List.replicate S.pending.length (255 : Int))).crash l2).pageE (k : Int))].toArray, .pointer (some ⟨D27, 0, none⟩), .int .i64 (k : Int), .tuple [.agg ((nums .u8 (((S.crash (List.replicate S.pending.length (255 : Int))).crash l2).stabP (k : Int)))).toArray, .int .i64 (((S.crash (List.replicate S.pending.length (255 : Int))).crash l2).pageE (k : Int))].toArray, .agg ((nums .u8 (((S.crash (List.replicate S.pending.length (255 : Int))).crash l2).stabP (k : Int)))).toArray, .int .i64 (((S.crash (List.replicate S.pending.length (255 : Int))).crash l2).pageE (k : Int)), .int .i64 (S.sync.pageE (k : Int)), .bool false, .bool false, .int .i64 (((S.crash (List.replicate S.pending.length (255 : Int))).crash l2).pageE (k : Int)), .bool false, .bool false, .bool false, .agg ((nums .u8 (S.sync.stabP (k : Int)))).toArray, u116, u117, u118, undef, undef, undef, undef, undef, undef, undef, undef]) _ (x_loads ((nums .u8 (S.sync.stabP (k : Int)))) 256 rfl rfl (bkCells (HS.get (.tail _ (.tail _ (.tail _ (.tail _ (.tail _ (.head _))))))) 0 _ (whole _)) (by rfl) (by kernel_rfl) (by simp [nums_length, stabP_len hgd900166.ok])) rfl ?_
                          refine p_on rfl (by rw [hops900219]; rfl) ?_
                          refine p_run (l' := _) _ (x_loads ((nums .u8 (((S.crash (List.replicate S.pending.length (255 : Int))).crash l2).stabP (k : Int)))) 256 rfl rfl (bkCells (HS.get (.head _)) 0 _ (whole _)) (by rfl) (by kernel_rfl) (by simp [nums_length, stabP_len hgd900180.ok])) rfl ?_
                          refine p_on rfl (by rw [hops900219]; rfl) ?_
                          refine p_run (l' := _) _ (x_eq .neq (.agg ((nums .u8 (S.sync.stabP (k : Int)))).toArray) (.agg ((nums .u8 (((S.crash (List.replicate S.pending.length (255 : Int))).crash l2).stabP (k : Int)))).toArray) (decide ((S.sync.stabP (k : Int)) = (((S.crash (List.replicate S.pending.length (255 : Int))).crash l2).stabP (k : Int)))) false rfl rfl rfl (equal_nums Try.underlying31 Try.underlying5 (by kernel_rfl) (by kernel_rfl) _ _ (by simp [stabP_len hgd900166.ok]) (by simp [stabP_len hgd900180.ok])) (by rw [stabP_cong hst]; simp [eqB]) rfl (guard_agg (by kernel_rfl)) (guard_agg (by kernel_rfl))) rfl ?_
                          refine p_run (l' := _) _ (x_pick false (.bool true) (.bool false) (.bool false) rfl rfl rfl rfl rfl) rfl ?_
                          clear hops900219
                          refine wpList_nil ?_
                          refine fr_at (l' := [.int .i64 pages, .slice A1 l1.length c1, .slice A2 l2.length c2, undef, undef, undef, u6, .pointer (some ⟨D22, 0, none⟩), .pointer (some ⟨D27, 0, none⟩), .slice A900156 ((List.replicate S.pending.length (255 : Int)).length) c900157, undef, u11, .int .i64 (k : Int), .pointer (some ⟨g900204, 0, none⟩), .int .i64 (S.sync.pageE (k : Int)), .pointer (some ⟨g900213, 0, none⟩), .int .i64 (((S.crash (List.replicate S.pending.length (255 : Int))).crash l2).pageE (k : Int)), .bool true, .bool false, .int .i64 pages, .bool false, .bool false, .int .i64 pages, .bool false, .bool false, .bool false, .slice A1 l1.length c1, .int .i64 (l1.length : Int), .bool false, .bool false, .bool false, .slice A2 l2.length c2, .int .i64 (l2.length : Int), .bool false, .bool false, .int .i64 pages, .pointer (some ⟨D22, 0, none⟩), .int .i64 pages, .pointer (some ⟨D27, 0, none⟩), v36, .slice A1 l1.length c1, .int .i64 (l1.length : Int), .int .i64 (i : Int), .bool (decide ((i : Int) < (l1.length : Int))), u44, u45, u46, u47, u48, u49, u50, u51, u52, u53, u54, u55, u56, u57, u58, u59, u60, u61, u62, u63, u64, u65, u66, u67, u68, u69, u70, u71, u72, u73, .pointer (some ⟨D27, 0, none⟩), .slice A900131 S.pending.length c900132, .int .i64 (S.pending.length : Int), .int .i64 (S.pending.length : Int), .bool (decide ((S.pending.length : Int) < (S.pending.length : Int))), u79, u80, u81, u82, .pointer (some ⟨D22, 0, none⟩), .int .i64 S.actE, .pointer (some ⟨D27, 0, none⟩), .slice A900156 ((List.replicate S.pending.length (255 : Int)).length) c900157, .tuple [].toArray, .pointer (some ⟨D27, 0, none⟩), .slice A2 l2.length c2, .tuple [].toArray, .int .i64 (k : Int), .int .i64 pages, .bool (decide ((k : Int) < pages)), u94, u95, .tuple [.agg ((nums .u8 (S.sync.stabP (k : Int)))).toArray, .int .i64 (S.sync.pageE (k : Int))].toArray, .pointer (some ⟨D22, 0, none⟩), .int .i64 (k : Int), .tuple [.agg ((nums .u8 (S.sync.stabP (k : Int)))).toArray, .int .i64 (S.sync.pageE (k : Int))].toArray, .agg ((nums .u8 (S.sync.stabP (k : Int)))).toArray, .int .i64 (S.sync.pageE (k : Int)), .tuple [.agg ((nums .u8 (((S.crash (List.replicate S.pending.length (255 : Int))).crash l2).stabP (k : Int)))).toArray, .int .i64 (((S.crash (List.replicate S.pending.length (255 : Int))).crash l2).pageE (k : Int))].toArray, .pointer (some ⟨D27, 0, none⟩), .int .i64 (k : Int), .tuple [.agg ((nums .u8 (((S.crash (List.replicate S.pending.length (255 : Int))).crash l2).stabP (k : Int)))).toArray, .int .i64 (((S.crash (List.replicate S.pending.length (255 : Int))).crash l2).pageE (k : Int))].toArray, .agg ((nums .u8 (((S.crash (List.replicate S.pending.length (255 : Int))).crash l2).stabP (k : Int)))).toArray, .int .i64 (((S.crash (List.replicate S.pending.length (255 : Int))).crash l2).pageE (k : Int)), .int .i64 (S.sync.pageE (k : Int)), .bool false, .bool false, .int .i64 (((S.crash (List.replicate S.pending.length (255 : Int))).crash l2).pageE (k : Int)), .bool false, .bool false, .bool false, .agg ((nums .u8 (S.sync.stabP (k : Int)))).toArray, .agg ((nums .u8 (((S.crash (List.replicate S.pending.length (255 : Int))).crash l2).stabP (k : Int)))).toArray, .bool false, .bool false, undef, undef, undef, undef, undef, undef, undef, undef]) rfl ?_
                          refine hK900218 _ _ ?_
                          refine c_false rfl ?_
                          refine wp_skip ?_
                          refine hK900198 _ _ ?_
                          refine c_region (fun ops900222 hops900221 => ?_)
                          clear hops900221
                          refine p_run (l' := _) _ (x_move (.int .i64 (k : Int)) rfl rfl) rfl ?_
                          refine p_run (l' := _) _ (x_arith (k := .i64) (m := (k : Int)) (n := 1) .add (((k + 1 : Nat) : Int)) rfl rfl rfl (show IntKind.i64.wrap ((k : Int) + 1) = ((k + 1 : Nat) : Int) from ((wr64 (by omega)).trans (by omega))) rfl) rfl ?_
                          refine p_run (l' := _) _ (x_assign (.int .i64 ((k + 1 : Nat) : Int)) rfl rfl) rfl ?_
                          refine wpList_nil ?_
                          refine fr_at (l' := [.int .i64 pages, .slice A1 l1.length c1, .slice A2 l2.length c2, undef, undef, undef, u6, .pointer (some ⟨D22, 0, none⟩), .pointer (some ⟨D27, 0, none⟩), .slice A900156 ((List.replicate S.pending.length (255 : Int)).length) c900157, undef, u11, .int .i64 ((k + 1 : Nat) : Int), .pointer (some ⟨g900204, 0, none⟩), .int .i64 (S.sync.pageE (k : Int)), .pointer (some ⟨g900213, 0, none⟩), .int .i64 (((S.crash (List.replicate S.pending.length (255 : Int))).crash l2).pageE (k : Int)), .bool true, .bool false, .int .i64 pages, .bool false, .bool false, .int .i64 pages, .bool false, .bool false, .bool false, .slice A1 l1.length c1, .int .i64 (l1.length : Int), .bool false, .bool false, .bool false, .slice A2 l2.length c2, .int .i64 (l2.length : Int), .bool false, .bool false, .int .i64 pages, .pointer (some ⟨D22, 0, none⟩), .int .i64 pages, .pointer (some ⟨D27, 0, none⟩), v36, .slice A1 l1.length c1, .int .i64 (l1.length : Int), .int .i64 (i : Int), .bool (decide ((i : Int) < (l1.length : Int))), u44, u45, u46, u47, u48, u49, u50, u51, u52, u53, u54, u55, u56, u57, u58, u59, u60, u61, u62, u63, u64, u65, u66, u67, u68, u69, u70, u71, u72, u73, .pointer (some ⟨D27, 0, none⟩), .slice A900131 S.pending.length c900132, .int .i64 (S.pending.length : Int), .int .i64 (S.pending.length : Int), .bool (decide ((S.pending.length : Int) < (S.pending.length : Int))), u79, u80, u81, u82, .pointer (some ⟨D22, 0, none⟩), .int .i64 S.actE, .pointer (some ⟨D27, 0, none⟩), .slice A900156 ((List.replicate S.pending.length (255 : Int)).length) c900157, .tuple [].toArray, .pointer (some ⟨D27, 0, none⟩), .slice A2 l2.length c2, .tuple [].toArray, .int .i64 (k : Int), .int .i64 pages, .bool (decide ((k : Int) < pages)), .int .i64 (k : Int), .int .i64 ((k + 1 : Nat) : Int), .tuple [.agg ((nums .u8 (S.sync.stabP (k : Int)))).toArray, .int .i64 (S.sync.pageE (k : Int))].toArray, .pointer (some ⟨D22, 0, none⟩), .int .i64 (k : Int), .tuple [.agg ((nums .u8 (S.sync.stabP (k : Int)))).toArray, .int .i64 (S.sync.pageE (k : Int))].toArray, .agg ((nums .u8 (S.sync.stabP (k : Int)))).toArray, .int .i64 (S.sync.pageE (k : Int)), .tuple [.agg ((nums .u8 (((S.crash (List.replicate S.pending.length (255 : Int))).crash l2).stabP (k : Int)))).toArray, .int .i64 (((S.crash (List.replicate S.pending.length (255 : Int))).crash l2).pageE (k : Int))].toArray, .pointer (some ⟨D27, 0, none⟩), .int .i64 (k : Int), .tuple [.agg ((nums .u8 (((S.crash (List.replicate S.pending.length (255 : Int))).crash l2).stabP (k : Int)))).toArray, .int .i64 (((S.crash (List.replicate S.pending.length (255 : Int))).crash l2).pageE (k : Int))].toArray, .agg ((nums .u8 (((S.crash (List.replicate S.pending.length (255 : Int))).crash l2).stabP (k : Int)))).toArray, .int .i64 (((S.crash (List.replicate S.pending.length (255 : Int))).crash l2).pageE (k : Int)), .int .i64 (S.sync.pageE (k : Int)), .bool false, .bool false, .int .i64 (((S.crash (List.replicate S.pending.length (255 : Int))).crash l2).pageE (k : Int)), .bool false, .bool false, .bool false, .agg ((nums .u8 (S.sync.stabP (k : Int)))).toArray, .agg ((nums .u8 (((S.crash (List.replicate S.pending.length (255 : Int))).crash l2).stabP (k : Int)))).toArray, .bool false, .bool false, undef, undef, undef, undef, undef, undef, undef, undef]) rfl ?_
                          refine hJ900188 (k + 1) _ _ ?_ ?_
                          · show pages.toNat - (k + 1) < pages.toNat - k; omega
                          · exact ⟨_, _, _, _, _, _, _, _, _, _, _, _, _, _, _, _, _, _, _, _, _, _, _, _, _, _, _, _, _, _, _, _, _, rfl, ((((((((((HS.drop.front 4 rfl).drop.front 8 rfl).front 8 rfl).front 8 rfl).front 8 rfl).front 8 rfl).front 8 rfl).front 8 rfl).front 8 rfl).front 8 rfl), trivial⟩
                        · skip
                          refine wp_exit ?_
                          refine hK900182 _ _ ?_
                          refine wp_seq_k (fun K900223 hK900224 => ?_)
                          refine c_region (fun ops900226 hops900225 => ?_)
                          clear hops900225
                          refine p_run (l' := _) _ (x_move (.pointer (some ⟨D22, 0, none⟩)) rfl rfl) rfl ?_
                          refine w_call [.pointer (some ⟨D22, 0, none⟩)] Try.func17 (by kernel_rfl) (by rfl) rfl ?_
                          replace HS := ((((HS.front 7 rfl).front 7 rfl).front 7 rfl).front 7 rfl)
                          refine (pending_any HS (by have := hgd900166.pn; omega)).mono ?_
                          clear HS
                          rintro e w900228 ⟨v900227, rfl, HS⟩
                          obtain ⟨A900229, c900230, hv900231, hcp900232, -⟩ := row_reads (HS.get (.head _))
                          rw [List.length_map] at hv900231 hcp900232
                          subst hv900231
                          refine ⟨_, rfl, ?_⟩
                          refine p_run (l' := _) _ (x_len rfl rfl Try.underlying39) rfl ?_
                          refine p_run (l' := [.int .i64 pages, .slice A1 l1.length c1, .slice A2 l2.length c2, undef, undef, undef, u6, .pointer (some ⟨D22, 0, none⟩), .pointer (some ⟨D27, 0, none⟩), .slice A900156 ((List.replicate S.pending.length (255 : Int)).length) c900157, undef, u11, .int .i64 (k : Int), u13, u14, u15, u16, .bool true, .bool false, .int .i64 pages, .bool false, .bool false, .int .i64 pages, .bool false, .bool false, .bool false, .slice A1 l1.length c1, .int .i64 (l1.length : Int), .bool false, .bool false, .bool false, .slice A2 l2.length c2, .int .i64 (l2.length : Int), .bool false, .bool false, .int .i64 pages, .pointer (some ⟨D22, 0, none⟩), .int .i64 pages, .pointer (some ⟨D27, 0, none⟩), v36, .slice A1 l1.length c1, .int .i64 (l1.length : Int), .int .i64 (i : Int), .bool (decide ((i : Int) < (l1.length : Int))), u44, u45, u46, u47, u48, u49, u50, u51, u52, u53, u54, u55, u56, u57, u58, u59, u60, u61, u62, u63, u64, u65, u66, u67, u68, u69, u70, u71, u72, u73, .pointer (some ⟨D27, 0, none⟩), .slice A900131 S.pending.length c900132, .int .i64 (S.pending.length : Int), .int .i64 (S.pending.length : Int), .bool (decide ((S.pending.length : Int) < (S.pending.length : Int))), u79, u80, u81, u82, .pointer (some ⟨D22, 0, none⟩), .int .i64 S.actE, .pointer (some ⟨D27, 0, none⟩), .slice A900156 ((List.replicate S.pending.length (255 : Int)).length) c900157, .tuple [].toArray, .pointer (some ⟨D27, 0, none⟩), .slice A2 l2.length c2, .tuple [].toArray, .int .i64 (k : Int), .int .i64 pages, .bool (decide ((k : Int) < pages)), u94, u95, u96, u97, u98, u99, u100, u101, u102, u103, u104, u105, u106, u107, u108, u109, u110, u111, u112, u113, u114, u115, u116, u117, u118, .pointer (some ⟨D22, 0, none⟩), .slice A900229 S.sync.pending.length c900230, .int .i64 (S.sync.pending.length : Int), .pointer (some ⟨D27, 0, none⟩), undef, undef, undef, undef]) _ (x_move (.pointer (some ⟨D27, 0, none⟩)) rfl rfl) rfl ?_
                          refine w_call [.pointer (some ⟨D27, 0, none⟩)] Try.func17 (by kernel_rfl) (by rfl) rfl ?_
                          replace HS := ((((HS.front 8 rfl).front 8 rfl).front 8 rfl).front 8 rfl)
                          refine (pending_any HS (by have := hgd900180.pn; omega)).mono ?_
                          clear HS
                          rintro e w900234 ⟨v900233, rfl, HS⟩
                          obtain ⟨A900235, c900236, hv900237, hcp900238, -⟩ := row_reads (HS.get (.head _))
                          rw [List.length_map] at hv900237 hcp900238
                          subst hv900237
                          refine ⟨_, rfl, ?_⟩
                          refine p_run (l' := _) _ (x_len rfl rfl Try.underlying39) rfl ?_
                          refine p_run (l' := _) _ (x_arith (k := .i64) (m := (S.sync.pending.length : Int)) (n := (((S.crash (List.replicate S.pending.length (255 : Int))).crash l2).pending.length : Int)) .add (0) rfl rfl rfl (show IntKind.i64.wrap ((S.sync.pending.length : Int) + (((S.crash (List.replicate S.pending.length (255 : Int))).crash l2).pending.length : Int)) = 0 from (by rw [ag_pend hI0.2.1]; rfl)) rfl) rfl ?_
                          refine p_run (l' := [.int .i64 pages, .slice A1 l1.length c1, .slice A2 l2.length c2, undef, undef, undef, u6, .pointer (some ⟨D22, 0, none⟩), .pointer (some ⟨D27, 0, none⟩), .slice A900156 ((List.replicate S.pending.length (255 : Int)).length) c900157, undef, u11, .int .i64 (k : Int), u13, u14, u15, u16, .bool true, .bool false, .int .i64 pages, .bool false, .bool false, .int .i64 pages, .bool false, .bool false, .bool false, .slice A1 l1.length c1, .int .i64 (l1.length : Int), .bool false, .bool false, .bool false, .slice A2 l2.length c2, .int .i64 (l2.length : Int), .bool false, .bool false, .int .i64 pages, .pointer (some ⟨D22, 0, none⟩), .int .i64 pages, .pointer (some ⟨D27, 0, none⟩), v36, .slice A1 l1.length c1, .int .i64 (l1.length : Int), .int .i64 (i : Int), .bool (decide ((i : Int) < (l1.length : Int))), u44, u45, u46, u47, u48, u49, u50, u51, u52, u53, u54, u55, u56, u57, u58, u59, u60, u61, u62, u63, u64, u65, u66, u67, u68, u69, u70, u71, u72, u73, .pointer (some ⟨D27, 0, none⟩), .slice A900131 S.pending.length c900132, .int .i64 (S.pending.length : Int), .int .i64 (S.pending.length : Int), .bool (decide ((S.pending.length : Int) < (S.pending.length : Int))), u79, u80, u81, u82, .pointer (some ⟨D22, 0, none⟩), .int .i64 S.actE, .pointer (some ⟨D27, 0, none⟩), .slice A900156 ((List.replicate S.pending.length (255 : Int)).length) c900157, .tuple [].toArray, .pointer (some ⟨D27, 0, none⟩), .slice A2 l2.length c2, .tuple [].toArray, .int .i64 (k : Int), .int .i64 pages, .bool (decide ((k : Int) < pages)), u94, u95, u96, u97, u98, u99, u100, u101, u102, u103, u104, u105, u106, u107, u108, u109, u110, u111, u112, u113, u114, u115, u116, u117, u118, .pointer (some ⟨D22, 0, none⟩), .slice A900229 S.sync.pending.length c900230, .int .i64 (S.sync.pending.length : Int), .pointer (some ⟨D27, 0, none⟩), .slice A900235 (((S.crash (List.replicate S.pending.length (255 : Int))).crash l2).pending.length) c900236, .int .i64 (((S.crash (List.replicate S.pending.length (255 : Int))).crash l2).pending.length : Int), .int .i64 0, .bool true]) _ (x_cmp (k := .i64) (m := 0) (n := 0) .eql true rfl rfl rfl (by decide) rfl) rfl ?_
                          refine p_run (l' := _) _ (x_assign (.bool true) rfl rfl) rfl ?_
                          refine wpList_nil ?_
                          refine fr_at (l' := [.int .i64 pages, .slice A1 l1.length c1, .slice A2 l2.length c2, undef, undef, undef, .bool true, .pointer (some ⟨D22, 0, none⟩), .pointer (some ⟨D27, 0, none⟩), .slice A900156 ((List.replicate S.pending.length (255 : Int)).length) c900157, undef, u11, .int .i64 (k : Int), u13, u14, u15, u16, .bool true, .bool false, .int .i64 pages, .bool false, .bool false, .int .i64 pages, .bool false, .bool false, .bool false, .slice A1 l1.length c1, .int .i64 (l1.length : Int), .bool false, .bool false, .bool false, .slice A2 l2.length c2, .int .i64 (l2.length : Int), .bool false, .bool false, .int .i64 pages, .pointer (some ⟨D22, 0, none⟩), .int .i64 pages, .pointer (some ⟨D27, 0, none⟩), v36, .slice A1 l1.length c1, .int .i64 (l1.length : Int), .int .i64 (i : Int), .bool (decide ((i : Int) < (l1.length : Int))), u44, u45, u46, u47, u48, u49, u50, u51, u52, u53, u54, u55, u56, u57, u58, u59, u60, u61, u62, u63, u64, u65, u66, u67, u68, u69, u70, u71, u72, u73, .pointer (some ⟨D27, 0, none⟩), .slice A900131 S.pending.length c900132, .int .i64 (S.pending.length : Int), .int .i64 (S.pending.length : Int), .bool (decide ((S.pending.length : Int) < (S.pending.length : Int))), u79, u80, u81, u82, .pointer (some ⟨D22, 0, none⟩), .int .i64 S.actE, .pointer (some ⟨D27, 0, none⟩), .slice A900156 ((List.replicate S.pending.length (255 : Int)).length) c900157, .tuple [].toArray, .pointer (some ⟨D27, 0, none⟩), .slice A2 l2.length c2, .tuple [].toArray, .int .i64 (k : Int), .int .i64 pages, .bool (decide ((k : Int) < pages)), u94, u95, u96, u97, u98, u99, u100, u101, u102, u103, u104, u105, u106, u107, u108, u109, u110, u111, u112, u113, u114, u115, u116, u117, u118, .pointer (some ⟨D22, 0, none⟩), .slice A900229 S.sync.pending.length c900230, .int .i64 (S.sync.pending.length : Int), .pointer (some ⟨D27, 0, none⟩), .slice A900235 (((S.crash (List.replicate S.pending.length (255 : Int))).crash l2).pending.length) c900236, .int .i64 (((S.crash (List.replicate S.pending.length (255 : Int))).crash l2).pending.length : Int), .int .i64 0, .bool true]) rfl ?_
                          refine hK900224 _ _ ?_
                          refine wp_ret ?_
                          try simp only [Exit.inBlock, Exit.then]
                          refine c_ret (.bool true) (r_tmp rfl rfl) ?_
                          exact ⟨rfl, HS.belowOf⟩

theorem again_any (pages : Int) (A1 : Option Addr) (c1 : Nat) (l1 : List dAT) (A2 : Option Addr) (c2 : Nat) (l2 : List Int) (w : World) (hr1 : kdA.C w A1 l1.length l1) (hr2 : (Kd.int .u8).C w A2 l2.length l2) (hk2 : ∀ z ∈ l2, 0 ≤ z ∧ z < 256) : Calls Try.prog 4 #[.int .i64 pages, .slice A1 l1.length c1, .slice A2 l2.length c2] w fun e w' => e = .returned (.bool true) ∧ Below w.heap.size w w' := again_law w pages A1 c1 l1 hr1 A2 c2 l2 hr2 hk2
end Go.Proofs.Ytjholgfaipfmbaa
