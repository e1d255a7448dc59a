/- DiskFaults. -/
import Derived.Test.YtjholgfaipfmbaaL4b
set_option linter.unusedVariables false
set_option linter.unusedSimpArgs false
namespace Go.Proofs.Ytjholgfaipfmbaa
open Go.RowKit Go.Proofs.YtjholgfaipfmbaaW.PrintWords Go.Proofs.YtjholgfaipfmbaaW.PrintLast
set_option maxRecDepth 10000 in
set_option maxHeartbeats 4000000 in
theorem faults_law (w : World) (i a b : Int) : Calls Try.prog 6 #[.int .i64 i, .int .u8 a, .int .u8 b] w fun e w' => e = .returned (.bool true) ∧ Below w.heap.size w w' := by
  have HS := St.empty w
  by_cases h00 : i < 0
  · skip
    have h0 := decide_eq_true h00
    refine c_enter Try.func6 rfl 116 rfl [.int .i64 i, .int .u8 a, .int .u8 b, undef, undef, undef, undef, undef, undef, undef, undef, undef, undef, undef, undef, undef, undef, undef, undef, undef, undef, undef, undef, undef, undef, undef, undef, undef, undef, undef, undef, undef, undef, undef, undef, undef, undef, undef, undef, undef, undef, undef, undef, undef, undef, undef, undef, undef, undef, undef, undef, undef, undef, undef, undef, undef, undef, undef, undef, undef, undef, undef, undef, undef, undef, undef, undef, undef, undef, undef, undef, undef, undef, undef, undef, undef, undef, undef, undef, undef, undef, undef, undef, undef, undef, undef, undef, undef, undef, undef, undef, undef, undef, undef, undef, undef, undef, undef, undef, undef, undef, undef, undef, undef, undef, undef, undef, undef, undef, undef, undef, undef, undef, undef, undef, undef] rfl ?_
    refine wp_seq_k (fun K1 hK2 => ?_)
    refine c_region (fun ops4 hops3 => ?_)
    clear hops3
    refine p_run (l' := _) _ (x_assign (.bool false) rfl rfl) rfl ?_
    refine wpList_nil ?_
    refine fr_at (l' := [.int .i64 i, .int .u8 a, .int .u8 b, undef, undef, undef, .bool false, undef, undef, undef, undef, undef, undef, undef, undef, undef, undef, undef, undef, undef, undef, undef, undef, undef, undef, undef, undef, undef, undef, undef, undef, undef, undef, undef, undef, undef, undef, undef, undef, undef, undef, undef, undef, undef, undef, undef, undef, undef, undef, undef, undef, undef, undef, undef, undef, undef, undef, undef, undef, undef, undef, undef, undef, undef, undef, undef, undef, undef, undef, undef, undef, undef, undef, undef, undef, undef, undef, undef, undef, undef, undef, undef, undef, undef, undef, undef, undef, undef, undef, undef, undef, undef, undef, undef, undef, undef, undef, undef, undef, undef, undef, undef, undef, undef, undef, undef, undef, undef, undef, undef, undef, undef, undef, undef, undef, undef]) rfl ?_
    refine hK2 _ _ ?_
    refine wp_seq_k (fun K5 hK6 => ?_)
    refine wp_seq_k (fun K7 hK8 => ?_)
    refine c_region (fun ops10 hops9 => ?_)
    clear hops9
    refine w_call [] Try.func9 (by kernel_rfl) (by rfl) rfl ?_
    refine (alive_any HS).mono ?_
    clear HS
    rintro e w11 ⟨rfl, HS⟩
    refine ⟨_, rfl, ?_⟩
    refine p_run (l' := _) _ (x_not true rfl rfl) rfl ?_
    refine wpList_nil ?_
    refine fr_at (l' := [.int .i64 i, .int .u8 a, .int .u8 b, undef, undef, undef, .bool false, undef, undef, undef, undef, undef, undef, undef, undef, undef, undef, undef, .bool true, .bool false, undef, undef, undef, undef, undef, undef, undef, undef, undef, undef, undef, undef, undef, undef, undef, undef, undef, undef, undef, undef, undef, undef, undef, undef, undef, undef, undef, undef, undef, undef, undef, undef, undef, undef, undef, undef, undef, undef, undef, undef, undef, undef, undef, undef, undef, undef, undef, undef, undef, undef, undef, undef, undef, undef, undef, undef, undef, undef, undef, undef, undef, undef, undef, undef, undef, undef, undef, undef, undef, undef, undef, undef, undef, undef, undef, undef, undef, undef, undef, undef, undef, undef, undef, undef, undef, undef, undef, undef, undef, undef, undef, undef, undef, undef, undef, undef]) rfl ?_
    refine hK8 _ _ ?_
    refine c_false rfl ?_
    refine wp_skip ?_
    refine hK6 _ _ ?_
    refine wp_seq_k (fun K12 hK13 => ?_)
    refine wp_seq_k (fun K14 hK15 => ?_)
    refine c_region (fun ops17 hops16 => ?_)
    refine p_run (l' := _) _ (x_move (.int .i64 i) rfl rfl) rfl ?_
    refine p_run (l' := _) _ (x_cmp (k := .i64) (m := i) (n := 0) .lss true rfl rfl rfl h0 rfl) rfl ?_
    refine p_run (l' := _) _ (x_move (.bool true) rfl rfl) rfl ?_
    refine p_off (l' := [.int .i64 i, .int .u8 a, .int .u8 b, undef, undef, undef, .bool false, undef, undef, undef, undef, undef, undef, undef, undef, undef, undef, undef, .bool true, .bool false, .int .i64 i, .bool true, .bool true, undef, undef, undef, undef, undef, undef, undef, undef, undef, undef, undef, undef, undef, undef, undef, undef, undef, undef, undef, undef, undef, undef, undef, undef, undef, undef, undef, undef, undef, undef, undef, undef, undef, undef, undef, undef, undef, undef, undef, undef, undef, undef, undef, undef, undef, undef, undef, undef, undef, undef, undef, undef, undef, undef, undef, undef, undef, undef, undef, undef, undef, undef, undef, undef, undef, undef, undef, undef, undef, undef, undef, undef, undef, undef, undef, undef, undef, undef, undef, undef, undef, undef, undef, undef, undef, undef, undef, undef, undef, undef, undef, undef, undef]) (by rw [hops16]; rfl) rfl ?_
    refine p_off (l' := _) (by rw [hops16]; rfl) rfl ?_
    refine p_run (l' := _) _ (x_pick true (.bool true) (undef) (.bool true) rfl rfl rfl rfl rfl) rfl ?_
    clear hops16
    refine wpList_nil ?_
    refine fr_at (l' := [.int .i64 i, .int .u8 a, .int .u8 b, undef, undef, undef, .bool false, undef, undef, undef, undef, undef, undef, undef, undef, undef, undef, undef, .bool true, .bool false, .int .i64 i, .bool true, .bool true, undef, undef, .bool true, undef, undef, undef, undef, undef, undef, undef, undef, undef, undef, undef, undef, undef, undef, undef, undef, undef, undef, undef, undef, undef, undef, undef, undef, undef, undef, undef, undef, undef, undef, undef, undef, undef, undef, undef, undef, undef, undef, undef, undef, undef, undef, undef, undef, undef, undef, undef, undef, undef, undef, undef, undef, undef, undef, undef, undef, undef, undef, undef, undef, undef, undef, undef, undef, undef, undef, undef, undef, undef, undef, undef, undef, undef, undef, undef, undef, undef, undef, undef, undef, undef, undef, undef, undef, undef, undef, undef, undef, undef, undef]) rfl ?_
    refine hK15 _ _ ?_
    refine c_true rfl ?_
    refine wp_seq_k (fun K18 hK19 => ?_)
    refine c_region (fun ops21 hops20 => ?_)
    clear hops20
    refine p_run (l' := _) _ (x_assign (.bool true) rfl rfl) rfl ?_
    refine wpList_nil ?_
    refine fr_at (l' := [.int .i64 i, .int .u8 a, .int .u8 b, undef, undef, undef, .bool true, undef, undef, undef, undef, undef, undef, undef, undef, undef, undef, undef, .bool true, .bool false, .int .i64 i, .bool true, .bool true, undef, undef, .bool true, undef, undef, undef, undef, undef, undef, undef, undef, undef, undef, undef, undef, undef, undef, undef, undef, undef, undef, undef, undef, undef, undef, undef, undef, undef, undef, undef, undef, undef, undef, undef, undef, undef, undef, undef, undef, undef, undef, undef, undef, undef, undef, undef, undef, undef, undef, undef, undef, undef, undef, undef, undef, undef, undef, undef, undef, undef, undef, undef, undef, undef, undef, undef, undef, undef, undef, undef, undef, undef, undef, undef, undef, undef, undef, undef, undef, undef, undef, undef, undef, undef, undef, undef, undef, undef, undef, undef, undef, undef, undef]) rfl ?_
    refine hK19 _ _ ?_
    refine wp_ret ?_
    try simp only [Exit.inBlock, Exit.then]
    refine c_ret (.bool true) (r_tmp rfl rfl) ?_
    exact ⟨rfl, HS.belowOf⟩
  · skip
    have h0 := decide_eq_false h00
    by_cases h11 : i > 9
    · skip
      have h1 := decide_eq_true h11
      refine c_enter Try.func6 rfl 116 rfl [.int .i64 i, .int .u8 a, .int .u8 b, undef, undef, undef, undef, undef, undef, undef, undef, undef, undef, undef, undef, undef, undef, undef, undef, undef, undef, undef, undef, undef, undef, undef, undef, undef, undef, undef, undef, undef, undef, undef, undef, undef, undef, undef, undef, undef, undef, undef, undef, undef, undef, undef, undef, undef, undef, undef, undef, undef, undef, undef, undef, undef, undef, undef, undef, undef, undef, undef, undef, undef, undef, undef, undef, undef, undef, undef, undef, undef, undef, undef, undef, undef, undef, undef, undef, undef, undef, undef, undef, undef, undef, undef, undef, undef, undef, undef, undef, undef, undef, undef, undef, undef, undef, undef, undef, undef, undef, undef, undef, undef, undef, undef, undef, undef, undef, undef, undef, undef, undef, undef, undef, undef] rfl ?_
      refine wp_seq_k (fun K1 hK2 => ?_)
      refine c_region (fun ops4 hops3 => ?_)
      clear hops3
      refine p_run (l' := _) _ (x_assign (.bool false) rfl rfl) rfl ?_
      refine wpList_nil ?_
      refine fr_at (l' := [.int .i64 i, .int .u8 a, .int .u8 b, undef, undef, undef, .bool false, undef, undef, undef, undef, undef, undef, undef, undef, undef, undef, undef, undef, undef, undef, undef, undef, undef, undef, undef, undef, undef, undef, undef, undef, undef, undef, undef, undef, undef, undef, undef, undef, undef, undef, undef, undef, undef, undef, undef, undef, undef, undef, undef, undef, undef, undef, undef, undef, undef, undef, undef, undef, undef, undef, undef, undef, undef, undef, undef, undef, undef, undef, undef, undef, undef, undef, undef, undef, undef, undef, undef, undef, undef, undef, undef, undef, undef, undef, undef, undef, undef, undef, undef, undef, undef, undef, undef, undef, undef, undef, undef, undef, undef, undef, undef, undef, undef, undef, undef, undef, undef, undef, undef, undef, undef, undef, undef, undef, undef]) rfl ?_
      refine hK2 _ _ ?_
      refine wp_seq_k (fun K5 hK6 => ?_)
      refine wp_seq_k (fun K7 hK8 => ?_)
      refine c_region (fun ops10 hops9 => ?_)
      clear hops9
      refine w_call [] Try.func9 (by kernel_rfl) (by rfl) rfl ?_
      refine (alive_any HS).mono ?_
      clear HS
      rintro e w11 ⟨rfl, HS⟩
      refine ⟨_, rfl, ?_⟩
      refine p_run (l' := _) _ (x_not true rfl rfl) rfl ?_
      refine wpList_nil ?_
      refine fr_at (l' := [.int .i64 i, .int .u8 a, .int .u8 b, undef, undef, undef, .bool false, undef, undef, undef, undef, undef, undef, undef, undef, undef, undef, undef, .bool true, .bool false, undef, undef, undef, undef, undef, undef, undef, undef, undef, undef, undef, undef, undef, undef, undef, undef, undef, undef, undef, undef, undef, undef, undef, undef, undef, undef, undef, undef, undef, undef, undef, undef, undef, undef, undef, undef, undef, undef, undef, undef, undef, undef, undef, undef, undef, undef, undef, undef, undef, undef, undef, undef, undef, undef, undef, undef, undef, undef, undef, undef, undef, undef, undef, undef, undef, undef, undef, undef, undef, undef, undef, undef, undef, undef, undef, undef, undef, undef, undef, undef, undef, undef, undef, undef, undef, undef, undef, undef, undef, undef, undef, undef, undef, undef, undef, undef]) rfl ?_
      refine hK8 _ _ ?_
      refine c_false rfl ?_
      refine wp_skip ?_
      refine hK6 _ _ ?_
      refine wp_seq_k (fun K12 hK13 => ?_)
      refine wp_seq_k (fun K14 hK15 => ?_)
      refine c_region (fun ops17 hops16 => ?_)
      refine p_run (l' := _) _ (x_move (.int .i64 i) rfl rfl) rfl ?_
      refine p_run (l' := _) _ (x_cmp (k := .i64) (m := i) (n := 0) .lss false rfl rfl rfl h0 rfl) rfl ?_
      refine p_run (l' := _) _ (x_move (.bool false) rfl rfl) rfl ?_
      refine p_on rfl (by rw [hops16]; rfl) ?_
      refine p_run (l' := [.int .i64 i, .int .u8 a, .int .u8 b, undef, undef, undef, .bool false, undef, undef, undef, undef, undef, undef, undef, undef, undef, undef, undef, .bool true, .bool false, .int .i64 i, .bool false, .bool false, .int .i64 i, undef, undef, undef, undef, undef, undef, undef, undef, undef, undef, undef, undef, undef, undef, undef, undef, undef, undef, undef, undef, undef, undef, undef, undef, undef, undef, undef, undef, undef, undef, undef, undef, undef, undef, undef, undef, undef, undef, undef, undef, undef, undef, undef, undef, undef, undef, undef, undef, undef, undef, undef, undef, undef, undef, undef, undef, undef, undef, undef, undef, undef, undef, undef, undef, undef, undef, undef, undef, undef, undef, undef, undef, undef, undef, undef, undef, undef, undef, undef, undef, undef, undef, undef, undef, undef, undef, undef, undef, undef, undef, undef, undef]) _ (x_move (.int .i64 i) rfl rfl) rfl ?_
      refine p_on rfl (by rw [hops16]; rfl) ?_
      refine p_run (l' := _) _ (x_cmp (k := .i64) (m := i) (n := 9) .gtr true rfl rfl rfl h1 rfl) rfl ?_
      refine p_run (l' := _) _ (x_pick false (.bool true) (.bool true) (.bool true) rfl rfl rfl rfl rfl) rfl ?_
      clear hops16
      refine wpList_nil ?_
      refine fr_at (l' := [.int .i64 i, .int .u8 a, .int .u8 b, undef, undef, undef, .bool false, undef, undef, undef, undef, undef, undef, undef, undef, undef, undef, undef, .bool true, .bool false, .int .i64 i, .bool false, .bool false, .int .i64 i, .bool true, .bool true, undef, undef, undef, undef, undef, undef, undef, undef, undef, undef, undef, undef, undef, undef, undef, undef, undef, undef, undef, undef, undef, undef, undef, undef, undef, undef, undef, undef, undef, undef, undef, undef, undef, undef, undef, undef, undef, undef, undef, undef, undef, undef, undef, undef, undef, undef, undef, undef, undef, undef, undef, undef, undef, undef, undef, undef, undef, undef, undef, undef, undef, undef, undef, undef, undef, undef, undef, undef, undef, undef, undef, undef, undef, undef, undef, undef, undef, undef, undef, undef, undef, undef, undef, undef, undef, undef, undef, undef, undef, undef]) rfl ?_
      refine hK15 _ _ ?_
      refine c_true rfl ?_
      refine wp_seq_k (fun K18 hK19 => ?_)
      refine c_region (fun ops21 hops20 => ?_)
      clear hops20
      refine p_run (l' := _) _ (x_assign (.bool true) rfl rfl) rfl ?_
      refine wpList_nil ?_
      refine fr_at (l' := [.int .i64 i, .int .u8 a, .int .u8 b, undef, undef, undef, .bool true, undef, undef, undef, undef, undef, undef, undef, undef, undef, undef, undef, .bool true, .bool false, .int .i64 i, .bool false, .bool false, .int .i64 i, .bool true, .bool true, undef, undef, undef, undef, undef, undef, undef, undef, undef, undef, undef, undef, undef, undef, undef, undef, undef, undef, undef, undef, undef, undef, undef, undef, undef, undef, undef, undef, undef, undef, undef, undef, undef, undef, undef, undef, undef, undef, undef, undef, undef, undef, undef, undef, undef, undef, undef, undef, undef, undef, undef, undef, undef, undef, undef, undef, undef, undef, undef, undef, undef, undef, undef, undef, undef, undef, undef, undef, undef, undef, undef, undef, undef, undef, undef, undef, undef, undef, undef, undef, undef, undef, undef, undef, undef, undef, undef, undef, undef, undef]) rfl ?_
      refine hK19 _ _ ?_
      refine wp_ret ?_
      try simp only [Exit.inBlock, Exit.then]
      refine c_ret (.bool true) (r_tmp rfl rfl) ?_
      exact ⟨rfl, HS.belowOf⟩
    · skip
      have h1 := decide_eq_false h11
      have hi : 0 ≤ i ∧ i ≤ 9 := by omega
      refine c_enter Try.func6 rfl 116 rfl [.int .i64 i, .int .u8 a, .int .u8 b, undef, undef, undef, undef, undef, undef, undef, undef, undef, undef, undef, undef, undef, undef, undef, undef, undef, undef, undef, undef, undef, undef, undef, undef, undef, undef, undef, undef, undef, undef, undef, undef, undef, undef, undef, undef, undef, undef, undef, undef, undef, undef, undef, undef, undef, undef, undef, undef, undef, undef, undef, undef, undef, undef, undef, undef, undef, undef, undef, undef, undef, undef, undef, undef, undef, undef, undef, undef, undef, undef, undef, undef, undef, undef, undef, undef, undef, undef, undef, undef, undef, undef, undef, undef, undef, undef, undef, undef, undef, undef, undef, undef, undef, undef, undef, undef, undef, undef, undef, undef, undef, undef, undef, undef, undef, undef, undef, undef, undef, undef, undef, undef, undef] rfl ?_
      refine wp_seq_k (fun K1 hK2 => ?_)
      refine c_region (fun ops4 hops3 => ?_)
      clear hops3
      refine p_run (l' := _) _ (x_assign (.bool false) rfl rfl) rfl ?_
      refine wpList_nil ?_
      refine fr_at (l' := [.int .i64 i, .int .u8 a, .int .u8 b, undef, undef, undef, .bool false, undef, undef, undef, undef, undef, undef, undef, undef, undef, undef, undef, undef, undef, undef, undef, undef, undef, undef, undef, undef, undef, undef, undef, undef, undef, undef, undef, undef, undef, undef, undef, undef, undef, undef, undef, undef, undef, undef, undef, undef, undef, undef, undef, undef, undef, undef, undef, undef, undef, undef, undef, undef, undef, undef, undef, undef, undef, undef, undef, undef, undef, undef, undef, undef, undef, undef, undef, undef, undef, undef, undef, undef, undef, undef, undef, undef, undef, undef, undef, undef, undef, undef, undef, undef, undef, undef, undef, undef, undef, undef, undef, undef, undef, undef, undef, undef, undef, undef, undef, undef, undef, undef, undef, undef, undef, undef, undef, undef, undef]) rfl ?_
      refine hK2 _ _ ?_
      refine wp_seq_k (fun K5 hK6 => ?_)
      refine wp_seq_k (fun K7 hK8 => ?_)
      refine c_region (fun ops10 hops9 => ?_)
      clear hops9
      refine w_call [] Try.func9 (by kernel_rfl) (by rfl) rfl ?_
      refine (alive_any HS).mono ?_
      clear HS
      rintro e w11 ⟨rfl, HS⟩
      refine ⟨_, rfl, ?_⟩
      refine p_run (l' := _) _ (x_not true rfl rfl) rfl ?_
      refine wpList_nil ?_
      refine fr_at (l' := [.int .i64 i, .int .u8 a, .int .u8 b, undef, undef, undef, .bool false, undef, undef, undef, undef, undef, undef, undef, undef, undef, undef, undef, .bool true, .bool false, undef, undef, undef, undef, undef, undef, undef, undef, undef, undef, undef, undef, undef, undef, undef, undef, undef, undef, undef, undef, undef, undef, undef, undef, undef, undef, undef, undef, undef, undef, undef, undef, undef, undef, undef, undef, undef, undef, undef, undef, undef, undef, undef, undef, undef, undef, undef, undef, undef, undef, undef, undef, undef, undef, undef, undef, undef, undef, undef, undef, undef, undef, undef, undef, undef, undef, undef, undef, undef, undef, undef, undef, undef, undef, undef, undef, undef, undef, undef, undef, undef, undef, undef, undef, undef, undef, undef, undef, undef, undef, undef, undef, undef, undef, undef, undef]) rfl ?_
      refine hK8 _ _ ?_
      refine c_false rfl ?_
      refine wp_skip ?_
      refine hK6 _ _ ?_
      refine wp_seq_k (fun K12 hK13 => ?_)
      refine wp_seq_k (fun K14 hK15 => ?_)
      refine c_region (fun ops17 hops16 => ?_)
      refine p_run (l' := _) _ (x_move (.int .i64 i) rfl rfl) rfl ?_
      refine p_run (l' := _) _ (x_cmp (k := .i64) (m := i) (n := 0) .lss false rfl rfl rfl h0 rfl) rfl ?_
      refine p_run (l' := _) _ (x_move (.bool false) rfl rfl) rfl ?_
      refine p_on rfl (by rw [hops16]; rfl) ?_
      refine p_run (l' := [.int .i64 i, .int .u8 a, .int .u8 b, undef, undef, undef, .bool false, undef, undef, undef, undef, undef, undef, undef, undef, undef, undef, undef, .bool true, .bool false, .int .i64 i, .bool false, .bool false, .int .i64 i, undef, undef, undef, undef, undef, undef, undef, undef, undef, undef, undef, undef, undef, undef, undef, undef, undef, undef, undef, undef, undef, undef, undef, undef, undef, undef, undef, undef, undef, undef, undef, undef, undef, undef, undef, undef, undef, undef, undef, undef, undef, undef, undef, undef, undef, undef, undef, undef, undef, undef, undef, undef, undef, undef, undef, undef, undef, undef, undef, undef, undef, undef, undef, undef, undef, undef, undef, undef, undef, undef, undef, undef, undef, undef, undef, undef, undef, undef, undef, undef, undef, undef, undef, undef, undef, undef, undef, undef, undef, undef, undef, undef]) _ (x_move (.int .i64 i) rfl rfl) rfl ?_
      refine p_on rfl (by rw [hops16]; rfl) ?_
      refine p_run (l' := _) _ (x_cmp (k := .i64) (m := i) (n := 9) .gtr false rfl rfl rfl h1 rfl) rfl ?_
      refine p_run (l' := _) _ (x_pick false (.bool true) (.bool false) (.bool false) rfl rfl rfl rfl rfl) rfl ?_
      clear hops16
      refine wpList_nil ?_
      refine fr_at (l' := [.int .i64 i, .int .u8 a, .int .u8 b, undef, undef, undef, .bool false, undef, undef, undef, undef, undef, undef, undef, undef, undef, undef, undef, .bool true, .bool false, .int .i64 i, .bool false, .bool false, .int .i64 i, .bool false, .bool false, undef, undef, undef, undef, undef, undef, undef, undef, undef, undef, undef, undef, undef, undef, undef, undef, undef, undef, undef, undef, undef, undef, undef, undef, undef, undef, undef, undef, undef, undef, undef, undef, undef, undef, undef, undef, undef, undef, undef, undef, undef, undef, undef, undef, undef, undef, undef, undef, undef, undef, undef, undef, undef, undef, undef, undef, undef, undef, undef, undef, undef, undef, undef, undef, undef, undef, undef, undef, undef, undef, undef, undef, undef, undef, undef, undef, undef, undef, undef, undef, undef, undef, undef, undef, undef, undef, undef, undef, undef, undef]) rfl ?_
      refine hK15 _ _ ?_
      refine c_false rfl ?_
      refine wp_skip ?_
      refine hK13 _ _ ?_
      refine wp_seq_k (fun K18 hK19 => ?_)
      refine c_region (fun ops21 hops20 => ?_)
      clear hops20
      refine w_call [.int .i64 10] Try.func10 (by kernel_rfl) (by rfl) rfl ?_
      refine (new_any HS 10).mono ?_
      clear HS
      rintro e w25 ⟨D22, gs23, gm24, rfl, HS⟩
      have hgd26 := good_new 10
      refine ⟨_, rfl, ?_⟩
      refine p_run (l' := _) _ (x_assign (.pointer (some ⟨D22, 0, none⟩)) rfl rfl) rfl ?_
      refine wpList_nil ?_
      refine fr_at (l' := [.int .i64 i, .int .u8 a, .int .u8 b, undef, undef, undef, .bool false, .pointer (some ⟨D22, 0, none⟩), undef, undef, undef, undef, undef, undef, undef, undef, undef, undef, .bool true, .bool false, .int .i64 i, .bool false, .bool false, .int .i64 i, .bool false, .bool false, .pointer (some ⟨D22, 0, none⟩), undef, undef, undef, undef, undef, undef, undef, undef, undef, undef, undef, undef, undef, undef, undef, undef, undef, undef, undef, undef, undef, undef, undef, undef, undef, undef, undef, undef, undef, undef, undef, undef, undef, undef, undef, undef, undef, undef, undef, undef, undef, undef, undef, undef, undef, undef, undef, undef, undef, undef, undef, undef, undef, undef, undef, undef, undef, undef, undef, undef, undef, undef, undef, undef, undef, undef, undef, undef, undef, undef, undef, undef, undef, undef, undef, undef, undef, undef, undef, undef, undef, undef, undef, undef, undef, undef, undef, undef, undef]) rfl ?_
      refine hK19 _ _ ?_
      refine wp_seq_k (fun K27 hK28 => ?_)
      refine wp_seq_k (fun K29 hK30 => ?_)
      refine c_region (fun ops32 hops31 => ?_)
      refine p_run (l' := _) _ (x_move (.pointer (some ⟨D22, 0, none⟩)) rfl rfl) rfl ?_
      refine p_run (l' := _) _ (x_move (.int .i64 i) rfl rfl) rfl ?_
      refine p_run (l' := _) _ (x_move (.int .u8 a) rfl rfl) rfl ?_
      refine w_call [.int .u8 a] Try.func14 (by kernel_rfl) (by rfl) rfl ?_
      refine (full_any HS a).mono ?_
      clear HS
      rintro e w33 ⟨rfl, HS⟩
      refine ⟨_, rfl, ?_⟩
      refine fr_to (l' := [.int .i64 i, .int .u8 a, .int .u8 b, undef, undef, undef, .bool false, .pointer (some ⟨D22, 0, none⟩), undef, undef, undef, undef, undef, undef, undef, undef, undef, undef, .bool true, .bool false, .int .i64 i, .bool false, .bool false, .int .i64 i, .bool false, .bool false, .pointer (some ⟨D22, 0, none⟩), .pointer (some ⟨D22, 0, none⟩), .int .i64 i, .int .u8 a, .agg ((nums .u8 (rep a))).toArray, undef, undef, undef, undef, undef, undef, undef, undef, undef, undef, undef, undef, undef, undef, undef, undef, undef, undef, undef, undef, undef, undef, undef, undef, undef, undef, undef, undef, undef, undef, undef, undef, undef, undef, undef, undef, undef, undef, undef, undef, undef, undef, undef, undef, undef, undef, undef, undef, undef, undef, undef, undef, undef, undef, undef, undef, undef, undef, undef, undef, undef, undef, undef, undef, undef, undef, undef, undef, undef, undef, undef, undef, undef, undef, undef, undef, undef, undef, undef, undef, undef, undef, undef, undef, undef]) rfl ?_
      refine w_call [.pointer (some ⟨D22, 0, none⟩), .int .i64 i, .agg ((nums .u8 (rep a))).toArray] Try.func13 (by kernel_rfl) (by rfl) rfl ?_
      replace HS := ((((HS.front 3 rfl).front 3 rfl).front 3 rfl).front 3 rfl)
      refine (write_any HS hgd26.lft (by have := hgd26.pn; omega) i (rep a) (rep_len _)).mono ?_
      clear HS
      rintro e w35 ⟨v34, rfl, HS⟩
      have hgd36 : Dk.good ((Dk.new 10).write i (rep a)) (1) := good_write hgd26 i (rep_len _)
      refine ⟨_, rfl, ?_⟩
      refine p_run (l' := _) _ (x_cmp (k := .i64) (m := ((Dk.new 10).writeE i)) (n := 0) .neq false rfl rfl rfl (by unfold cmpB; rw [fre_writeE (fre_new 10) (new10 hi)]; rfl) rfl) rfl ?_
      refine p_run (l' := _) _ (x_move (.bool false) rfl rfl) rfl ?_
      refine p_on rfl (by rw [hops31]; rfl) ?_
      refine p_run (l' := [.int .i64 i, .int .u8 a, .int .u8 b, undef, undef, undef, .bool false, .pointer (some ⟨D22, 0, none⟩), undef, undef, undef, undef, undef, undef, undef, undef, undef, undef, .bool true, .bool false, .int .i64 i, .bool false, .bool false, .int .i64 i, .bool false, .bool false, .pointer (some ⟨D22, 0, none⟩), .pointer (some ⟨D22, 0, none⟩), .int .i64 i, .int .u8 a, .agg ((nums .u8 (rep a))).toArray, .int .i64 ((Dk.new 10).writeE i), .bool false, .bool false, .pointer (some ⟨D22, 0, none⟩), undef, undef, undef, undef, undef, undef, undef, undef, undef, undef, undef, undef, undef, undef, undef, undef, undef, undef, undef, undef, undef, undef, undef, undef, undef, undef, undef, undef, undef, undef, undef, undef, undef, undef, undef, undef, undef, undef, undef, undef, undef, undef, undef, undef, undef, undef, undef, undef, undef, undef, undef, undef, undef, undef, undef, undef, undef, undef, undef, undef, undef, undef, undef, undef, undef, undef, undef, undef, undef, undef, undef, undef, undef, undef, undef, undef, undef, undef, undef, undef, undef]) _ (x_move (.pointer (some ⟨D22, 0, none⟩)) rfl rfl) rfl ?_
      refine p_on rfl (by rw [hops31]; rfl) ?_
      refine w_call [.pointer (some ⟨D22, 0, none⟩)] Try.func12 (by kernel_rfl) (by rfl) rfl ?_
      replace HS := ((((HS.front 3 rfl).front 3 rfl).front 3 rfl).front 3 rfl)
      refine (sync_any HS hgd36.ok (by have := hgd36.pn; omega)).mono ?_
      clear HS
      rintro e w38 ⟨v37, rfl, HS⟩
      have hgd39 : Dk.good (((Dk.new 10).write i (rep a)).sync) (1) := good_sync hgd36
      refine ⟨_, rfl, ?_⟩
      refine p_on rfl (by rw [hops31]; rfl) ?_
      refine p_run (l' := _) _ (x_cmp (k := .i64) (m := ((Dk.new 10).write i (rep a)).actE) (n := 0) .neq false rfl rfl rfl (by unfold cmpB; rw [fre_write (fre_new 10) (new10 hi), fre_actE ⟨rfl, rfl⟩]; rfl) rfl) rfl ?_
      refine p_run (l' := _) _ (x_pick false (.bool true) (.bool false) (.bool false) rfl rfl rfl rfl rfl) rfl ?_
      refine p_run (l' := [.int .i64 i, .int .u8 a, .int .u8 b, undef, undef, undef, .bool false, .pointer (some ⟨D22, 0, none⟩), undef, undef, undef, undef, undef, undef, undef, undef, undef, undef, .bool true, .bool false, .int .i64 i, .bool false, .bool false, .int .i64 i, .bool false, .bool false, .pointer (some ⟨D22, 0, none⟩), .pointer (some ⟨D22, 0, none⟩), .int .i64 i, .int .u8 a, .agg ((nums .u8 (rep a))).toArray, .int .i64 ((Dk.new 10).writeE i), .bool false, .bool false, .pointer (some ⟨D22, 0, none⟩), .int .i64 (((Dk.new 10).write i (rep a)).actE), .bool false, .bool false, .bool false, undef, undef, undef, undef, undef, undef, undef, undef, undef, undef, undef, undef, undef, undef, undef, undef, undef, undef, undef, undef, undef, undef, undef, undef, undef, undef, undef, undef, undef, undef, undef, undef, undef, undef, undef, undef, undef, undef, undef, undef, undef, undef, undef, undef, undef, undef, undef, undef, undef, undef, undef, undef, undef, undef, undef, undef, undef, undef, undef, undef, undef, undef, undef, undef, undef, undef, undef, undef, undef, undef, undef, undef, undef, undef, undef, undef, undef]) _ (x_move (.bool false) rfl rfl) rfl ?_
      refine p_on rfl (by rw [hops31]; rfl) ?_
      refine p_run (l' := _) _ (x_move (.pointer (some ⟨D22, 0, none⟩)) rfl rfl) rfl ?_
      refine p_on rfl (by rw [hops31]; rfl) ?_
      refine p_run (l' := _) _ (x_move (.int .i64 i) rfl rfl) rfl ?_
      refine p_on rfl (by rw [hops31]; rfl) ?_
      refine w_call [.pointer (some ⟨D22, 0, none⟩), .int .i64 i, .bool true] Try.func20 (by kernel_rfl) (by rfl) rfl ?_
      replace HS := ((((HS.front 3 rfl).front 3 rfl).front 3 rfl).front 3 rfl)
      refine (spoil_any HS hgd39.ok (by have := hgd39.cn; omega) i true).mono ?_
      clear HS
      rintro e w40 ⟨rfl, HS⟩
      have hgd41 : Dk.good ((((Dk.new 10).write i (rep a)).sync).spoil i true) (2) := good_spoil hgd39 i true
      refine ⟨_, rfl, ?_⟩
      refine p_on rfl (by rw [hops31]; rfl) ?_
      refine p_run (l' := [.int .i64 i, .int .u8 a, .int .u8 b, undef, undef, undef, .bool false, .pointer (some ⟨D22, 0, none⟩), undef, undef, undef, undef, undef, undef, undef, undef, undef, undef, .bool true, .bool false, .int .i64 i, .bool false, .bool false, .int .i64 i, .bool false, .bool false, .pointer (some ⟨D22, 0, none⟩), .pointer (some ⟨D22, 0, none⟩), .int .i64 i, .int .u8 a, .agg ((nums .u8 (rep a))).toArray, .int .i64 ((Dk.new 10).writeE i), .bool false, .bool false, .pointer (some ⟨D22, 0, none⟩), .int .i64 (((Dk.new 10).write i (rep a)).actE), .bool false, .bool false, .bool false, .pointer (some ⟨D22, 0, none⟩), .int .i64 i, .int .i64 ((((Dk.new 10).write i (rep a)).sync).pageE i), .bool false, undef, undef, undef, undef, undef, undef, undef, undef, undef, undef, undef, undef, undef, undef, undef, undef, undef, undef, undef, undef, undef, undef, undef, undef, undef, undef, undef, undef, undef, undef, undef, undef, undef, undef, undef, undef, undef, undef, undef, undef, undef, undef, undef, undef, undef, undef, undef, undef, undef, undef, undef, undef, undef, undef, undef, undef, undef, undef, undef, undef, undef, undef, undef, undef, undef, undef, undef, undef, undef, undef, undef, undef, undef]) _ (x_cmp (k := .i64) (m := ((((Dk.new 10).write i (rep a)).sync).pageE i)) (n := 0) .neq false rfl rfl rfl (by unfold cmpB; rw [G1 hi, G_E hi]; rfl) rfl) rfl ?_
      refine p_run (l' := _) _ (x_pick false (.bool true) (.bool false) (.bool false) rfl rfl rfl rfl rfl) rfl ?_
      refine p_run (l' := _) _ (x_move (.bool false) rfl rfl) rfl ?_
      refine p_on rfl (by rw [hops31]; rfl) ?_
      refine p_run (l' := _) _ (x_move (.pointer (some ⟨D22, 0, none⟩)) rfl rfl) rfl ?_
      refine p_on rfl (by rw [hops31]; rfl) ?_
      refine p_run (l' := [.int .i64 i, .int .u8 a, .int .u8 b, undef, undef, undef, .bool false, .pointer (some ⟨D22, 0, none⟩), undef, undef, undef, undef, undef, undef, undef, undef, undef, undef, .bool true, .bool false, .int .i64 i, .bool false, .bool false, .int .i64 i, .bool false, .bool false, .pointer (some ⟨D22, 0, none⟩), .pointer (some ⟨D22, 0, none⟩), .int .i64 i, .int .u8 a, .agg ((nums .u8 (rep a))).toArray, .int .i64 ((Dk.new 10).writeE i), .bool false, .bool false, .pointer (some ⟨D22, 0, none⟩), .int .i64 (((Dk.new 10).write i (rep a)).actE), .bool false, .bool false, .bool false, .pointer (some ⟨D22, 0, none⟩), .int .i64 i, .int .i64 ((((Dk.new 10).write i (rep a)).sync).pageE i), .bool false, .bool false, .bool false, .pointer (some ⟨D22, 0, none⟩), .int .i64 i, undef, undef, undef, undef, undef, undef, undef, undef, undef, undef, undef, undef, undef, undef, undef, undef, undef, undef, undef, undef, undef, undef, undef, undef, undef, undef, undef, undef, undef, undef, undef, undef, undef, undef, undef, undef, undef, undef, undef, undef, undef, undef, undef, undef, undef, undef, undef, undef, undef, undef, undef, undef, undef, undef, undef, undef, undef, undef, undef, undef, undef, undef, undef, undef, undef, undef, undef, undef, undef]) _ (x_move (.int .i64 i) rfl rfl) rfl ?_
      refine p_on rfl (by rw [hops31]; rfl) ?_
      refine w_call [.pointer (some ⟨D22, 0, none⟩), .int .i64 i, .bool true] Try.func20 (by kernel_rfl) (by rfl) rfl ?_
      replace HS := ((((HS.front 3 rfl).front 3 rfl).front 3 rfl).front 3 rfl)
      refine (spoil_any HS hgd41.ok (by have := hgd41.cn; omega) i true).mono ?_
      clear HS
      rintro e w42 ⟨rfl, HS⟩
      have hgd43 : Dk.good (((((Dk.new 10).write i (rep a)).sync).spoil i true).spoil i true) (3) := good_spoil hgd41 i true
      refine ⟨_, rfl, ?_⟩
      refine p_on rfl (by rw [hops31]; rfl) ?_
      refine p_run (l' := _) _ (x_cmp (k := .i64) (m := (((((Dk.new 10).write i (rep a)).sync).spoil i true).pageE i)) (n := 0) .neq false rfl rfl rfl (by unfold cmpB; rw [G1 hi, G2 hi, G_E hi]; rfl) rfl) rfl ?_
      refine p_run (l' := _) _ (x_pick false (.bool true) (.bool false) (.bool false) rfl rfl rfl rfl rfl) rfl ?_
      clear hops31
      refine wpList_nil ?_
      refine fr_at (l' := [.int .i64 i, .int .u8 a, .int .u8 b, undef, undef, undef, .bool false, .pointer (some ⟨D22, 0, none⟩), undef, undef, undef, undef, undef, undef, undef, undef, undef, undef, .bool true, .bool false, .int .i64 i, .bool false, .bool false, .int .i64 i, .bool false, .bool false, .pointer (some ⟨D22, 0, none⟩), .pointer (some ⟨D22, 0, none⟩), .int .i64 i, .int .u8 a, .agg ((nums .u8 (rep a))).toArray, .int .i64 ((Dk.new 10).writeE i), .bool false, .bool false, .pointer (some ⟨D22, 0, none⟩), .int .i64 (((Dk.new 10).write i (rep a)).actE), .bool false, .bool false, .bool false, .pointer (some ⟨D22, 0, none⟩), .int .i64 i, .int .i64 ((((Dk.new 10).write i (rep a)).sync).pageE i), .bool false, .bool false, .bool false, .pointer (some ⟨D22, 0, none⟩), .int .i64 i, .int .i64 (((((Dk.new 10).write i (rep a)).sync).spoil i true).pageE i), .bool false, .bool false, undef, undef, undef, undef, undef, undef, undef, undef, undef, undef, undef, undef, undef, undef, undef, undef, undef, undef, undef, undef, undef, undef, undef, undef, undef, undef, undef, undef, undef, undef, undef, undef, undef, undef, undef, undef, undef, undef, undef, undef, undef, undef, undef, undef, undef, undef, undef, undef, undef, undef, undef, undef, undef, undef, undef, undef, undef, undef, undef, undef, undef, undef, undef, undef, undef, undef]) rfl ?_
      refine hK30 _ _ ?_
      refine c_false rfl ?_
      refine wp_skip ?_
      refine hK28 _ _ ?_
      refine wp_seq_k (fun K44 hK45 => ?_)
      refine c_region (fun ops47 hops46 => ?_)
      clear hops46
      refine p_run (l' := _) _ (x_move (.pointer (some ⟨D22, 0, none⟩)) rfl rfl) rfl ?_
      refine p_run (l' := _) _ (x_move (.int .i64 i) rfl rfl) rfl ?_
      refine w_call [.pointer (some ⟨D22, 0, none⟩), .int .i64 i] Try.func19 (by kernel_rfl) (by rfl) rfl ?_
      replace HS := ((((HS.front 3 rfl).front 3 rfl).front 3 rfl).front 3 rfl)
      refine (read_any HS hgd43.ok (by have := hgd43.pn; omega) i).mono ?_
      clear HS
      rintro e w48 ⟨rfl, HS⟩
      refine ⟨_, rfl, ?_⟩
      refine p_run (l' := [.int .i64 i, .int .u8 a, .int .u8 b, undef, undef, undef, .bool false, .pointer (some ⟨D22, 0, none⟩), undef, undef, undef, undef, undef, undef, undef, undef, undef, undef, .bool true, .bool false, .int .i64 i, .bool false, .bool false, .int .i64 i, .bool false, .bool false, .pointer (some ⟨D22, 0, none⟩), .pointer (some ⟨D22, 0, none⟩), .int .i64 i, .int .u8 a, .agg ((nums .u8 (rep a))).toArray, .int .i64 ((Dk.new 10).writeE i), .bool false, .bool false, .pointer (some ⟨D22, 0, none⟩), .int .i64 (((Dk.new 10).write i (rep a)).actE), .bool false, .bool false, .bool false, .pointer (some ⟨D22, 0, none⟩), .int .i64 i, .int .i64 ((((Dk.new 10).write i (rep a)).sync).pageE i), .bool false, .bool false, .bool false, .pointer (some ⟨D22, 0, none⟩), .int .i64 i, .int .i64 (((((Dk.new 10).write i (rep a)).sync).spoil i true).pageE i), .bool false, .bool false, .tuple [.agg ((nums .u8 ((((((Dk.new 10).write i (rep a)).sync).spoil i true).spoil i true).readP i))).toArray, .int .i64 ((((((Dk.new 10).write i (rep a)).sync).spoil i true).spoil i true).readE i)].toArray, .pointer (some ⟨D22, 0, none⟩), .int .i64 i, .tuple [.agg ((nums .u8 ((((((Dk.new 10).write i (rep a)).sync).spoil i true).spoil i true).readP i))).toArray, .int .i64 ((((((Dk.new 10).write i (rep a)).sync).spoil i true).spoil i true).readE i)].toArray, undef, undef, undef, undef, undef, undef, undef, undef, undef, undef, undef, undef, undef, undef, undef, undef, undef, undef, undef, undef, undef, undef, undef, undef, undef, undef, undef, undef, undef, undef, undef, undef, undef, undef, undef, undef, undef, undef, undef, undef, undef, undef, undef, undef, undef, undef, undef, undef, undef, undef, undef, undef, undef, undef, undef, undef, undef, undef, undef, undef, undef, undef]) _ (x_move (.tuple [.agg ((nums .u8 ((((((Dk.new 10).write i (rep a)).sync).spoil i true).spoil i true).readP i))).toArray, .int .i64 ((((((Dk.new 10).write i (rep a)).sync).spoil i true).spoil i true).readE i)].toArray) rfl rfl) rfl ?_
      refine p_run (l' := _) _ (x_extract (vs := [.agg ((nums .u8 ((((((Dk.new 10).write i (rep a)).sync).spoil i true).spoil i true).readP i))).toArray, .int .i64 ((((((Dk.new 10).write i (rep a)).sync).spoil i true).spoil i true).readE i)]) 0 (.agg ((nums .u8 ((((((Dk.new 10).write i (rep a)).sync).spoil i true).spoil i true).readP i))).toArray) rfl rfl rfl) rfl ?_
      refine p_run (l' := _) _ (x_extract (vs := [.agg ((nums .u8 ((((((Dk.new 10).write i (rep a)).sync).spoil i true).spoil i true).readP i))).toArray, .int .i64 ((((((Dk.new 10).write i (rep a)).sync).spoil i true).spoil i true).readE i)]) 1 (.int .i64 ((((((Dk.new 10).write i (rep a)).sync).spoil i true).spoil i true).readE i)) rfl rfl rfl) rfl ?_
      refine St.wAlloc HS (cs := ((nums .u8 zpg))) (.agg ((nums .u8 zpg)).toArray) (by kernel_rfl) rfl ?_
      clear HS
      intro g49 w50 hg51 HS
      refine St.stores (cs' := ((nums .u8 ((((((Dk.new 10).write i (rep a)).sync).spoil i true).spoil i true).readP i)))) HS ((nums .u8 ((((((Dk.new 10).write i (rep a)).sync).spoil i true).spoil i true).readP i))) 256 rfl rfl (nums_one _ _) (by kernel_rfl) (by simp [nums_length, readP_len hgd43.ok]) (by simp [nums_length, readP_len hgd43.ok, zlen]) (lay_all _ _ (by simp [nums_length, readP_len hgd43.ok, zlen])) ?_
      clear HS
      intro w52 HS
      refine p_run (l' := [.int .i64 i, .int .u8 a, .int .u8 b, undef, undef, undef, .bool false, .pointer (some ⟨D22, 0, none⟩), .pointer (some ⟨g49, 0, none⟩), .int .i64 ((((((Dk.new 10).write i (rep a)).sync).spoil i true).spoil i true).readE i), undef, undef, undef, undef, undef, undef, undef, undef, .bool true, .bool false, .int .i64 i, .bool false, .bool false, .int .i64 i, .bool false, .bool false, .pointer (some ⟨D22, 0, none⟩), .pointer (some ⟨D22, 0, none⟩), .int .i64 i, .int .u8 a, .agg ((nums .u8 (rep a))).toArray, .int .i64 ((Dk.new 10).writeE i), .bool false, .bool false, .pointer (some ⟨D22, 0, none⟩), .int .i64 (((Dk.new 10).write i (rep a)).actE), .bool false, .bool false, .bool false, .pointer (some ⟨D22, 0, none⟩), .int .i64 i, .int .i64 ((((Dk.new 10).write i (rep a)).sync).pageE i), .bool false, .bool false, .bool false, .pointer (some ⟨D22, 0, none⟩), .int .i64 i, .int .i64 (((((Dk.new 10).write i (rep a)).sync).spoil i true).pageE i), .bool false, .bool false, .tuple [.agg ((nums .u8 ((((((Dk.new 10).write i (rep a)).sync).spoil i true).spoil i true).readP i))).toArray, .int .i64 ((((((Dk.new 10).write i (rep a)).sync).spoil i true).spoil i true).readE i)].toArray, .pointer (some ⟨D22, 0, none⟩), .int .i64 i, .tuple [.agg ((nums .u8 ((((((Dk.new 10).write i (rep a)).sync).spoil i true).spoil i true).readP i))).toArray, .int .i64 ((((((Dk.new 10).write i (rep a)).sync).spoil i true).spoil i true).readE i)].toArray, .agg ((nums .u8 ((((((Dk.new 10).write i (rep a)).sync).spoil i true).spoil i true).readP i))).toArray, .int .i64 ((((((Dk.new 10).write i (rep a)).sync).spoil i true).spoil i true).readE i), undef, undef, undef, undef, undef, undef, undef, undef, undef, undef, undef, undef, undef, undef, undef, undef, undef, undef, undef, undef, undef, undef, undef, undef, undef, undef, undef, undef, undef, undef, undef, undef, undef, undef, undef, undef, undef, undef, undef, undef, undef, undef, undef, undef, undef, undef, undef, undef, undef, undef, undef, undef, undef, undef, undef, undef, undef, undef, undef, undef]) _ (x_assign (.int .i64 ((((((Dk.new 10).write i (rep a)).sync).spoil i true).spoil i true).readE i)) rfl rfl) rfl ?_
      refine wpList_nil ?_
      refine hK45 _ _ ?_
      refine wp_seq_k (fun K53 hK54 => ?_)
      refine c_region (fun ops56 hops55 => ?_)
      clear hops55
      refine p_run (l' := _) _ (x_move (.pointer (some ⟨D22, 0, none⟩)) rfl rfl) rfl ?_
      refine p_run (l' := _) _ (x_move (.int .i64 i) rfl rfl) rfl ?_
      refine w_call [.pointer (some ⟨D22, 0, none⟩), .int .i64 i] Try.func18 (by kernel_rfl) (by rfl) rfl ?_
      replace HS := ((((HS.front 4 rfl).front 4 rfl).front 4 rfl).front 4 rfl)
      refine (stable_any HS hgd43.ok i).mono ?_
      clear HS
      rintro e w57 ⟨rfl, HS⟩
      refine ⟨_, rfl, ?_⟩
      refine p_run (l' := [.int .i64 i, .int .u8 a, .int .u8 b, undef, undef, undef, .bool false, .pointer (some ⟨D22, 0, none⟩), .pointer (some ⟨g49, 0, none⟩), .int .i64 ((((((Dk.new 10).write i (rep a)).sync).spoil i true).spoil i true).readE i), undef, undef, undef, undef, undef, undef, undef, undef, .bool true, .bool false, .int .i64 i, .bool false, .bool false, .int .i64 i, .bool false, .bool false, .pointer (some ⟨D22, 0, none⟩), .pointer (some ⟨D22, 0, none⟩), .int .i64 i, .int .u8 a, .agg ((nums .u8 (rep a))).toArray, .int .i64 ((Dk.new 10).writeE i), .bool false, .bool false, .pointer (some ⟨D22, 0, none⟩), .int .i64 (((Dk.new 10).write i (rep a)).actE), .bool false, .bool false, .bool false, .pointer (some ⟨D22, 0, none⟩), .int .i64 i, .int .i64 ((((Dk.new 10).write i (rep a)).sync).pageE i), .bool false, .bool false, .bool false, .pointer (some ⟨D22, 0, none⟩), .int .i64 i, .int .i64 (((((Dk.new 10).write i (rep a)).sync).spoil i true).pageE i), .bool false, .bool false, .tuple [.agg ((nums .u8 ((((((Dk.new 10).write i (rep a)).sync).spoil i true).spoil i true).readP i))).toArray, .int .i64 ((((((Dk.new 10).write i (rep a)).sync).spoil i true).spoil i true).readE i)].toArray, .pointer (some ⟨D22, 0, none⟩), .int .i64 i, .tuple [.agg ((nums .u8 ((((((Dk.new 10).write i (rep a)).sync).spoil i true).spoil i true).readP i))).toArray, .int .i64 ((((((Dk.new 10).write i (rep a)).sync).spoil i true).spoil i true).readE i)].toArray, .agg ((nums .u8 ((((((Dk.new 10).write i (rep a)).sync).spoil i true).spoil i true).readP i))).toArray, .int .i64 ((((((Dk.new 10).write i (rep a)).sync).spoil i true).spoil i true).readE i), .tuple [.agg ((nums .u8 ((((((Dk.new 10).write i (rep a)).sync).spoil i true).spoil i true).stabP i))).toArray, .int .i64 ((((((Dk.new 10).write i (rep a)).sync).spoil i true).spoil i true).pageE i)].toArray, .pointer (some ⟨D22, 0, none⟩), .int .i64 i, .tuple [.agg ((nums .u8 ((((((Dk.new 10).write i (rep a)).sync).spoil i true).spoil i true).stabP i))).toArray, .int .i64 ((((((Dk.new 10).write i (rep a)).sync).spoil i true).spoil i true).pageE i)].toArray, undef, undef, undef, undef, undef, undef, undef, undef, undef, undef, undef, undef, undef, undef, undef, undef, undef, undef, undef, undef, undef, undef, undef, undef, undef, undef, undef, undef, undef, undef, undef, undef, undef, undef, undef, undef, undef, undef, undef, undef, undef, undef, undef, undef, undef, undef, undef, undef, undef, undef, undef, undef, undef, undef, undef, undef]) _ (x_move (.tuple [.agg ((nums .u8 ((((((Dk.new 10).write i (rep a)).sync).spoil i true).spoil i true).stabP i))).toArray, .int .i64 ((((((Dk.new 10).write i (rep a)).sync).spoil i true).spoil i true).pageE i)].toArray) rfl rfl) rfl ?_
      refine p_run (l' := _) _ (x_extract (vs := [.agg ((nums .u8 ((((((Dk.new 10).write i (rep a)).sync).spoil i true).spoil i true).stabP i))).toArray, .int .i64 ((((((Dk.new 10).write i (rep a)).sync).spoil i true).spoil i true).pageE i)]) 0 (.agg ((nums .u8 ((((((Dk.new 10).write i (rep a)).sync).spoil i true).spoil i true).stabP i))).toArray) rfl rfl rfl) rfl ?_
      refine p_run (l' := _) _ (x_extract (vs := [.agg ((nums .u8 ((((((Dk.new 10).write i (rep a)).sync).spoil i true).spoil i true).stabP i))).toArray, .int .i64 ((((((Dk.new 10).write i (rep a)).sync).spoil i true).spoil i true).pageE i)]) 1 (.int .i64 ((((((Dk.new 10).write i (rep a)).sync).spoil i true).spoil i true).pageE i)) rfl rfl rfl) rfl ?_
      refine St.wAlloc HS (cs := ((nums .u8 zpg))) (.agg ((nums .u8 zpg)).toArray) (by kernel_rfl) rfl ?_
      clear HS
      intro g58 w59 hg60 HS
      refine St.stores (cs' := ((nums .u8 ((((((Dk.new 10).write i (rep a)).sync).spoil i true).spoil i true).stabP i)))) HS ((nums .u8 ((((((Dk.new 10).write i (rep a)).sync).spoil i true).spoil i true).stabP i))) 256 rfl rfl (nums_one _ _) (by kernel_rfl) (by simp [nums_length, stabP_len hgd43.ok]) (by simp [nums_length, stabP_len hgd43.ok, zlen]) (lay_all _ _ (by simp [nums_length, stabP_len hgd43.ok, zlen])) ?_
      clear HS
      intro w61 HS
      refine p_run (l' := [.int .i64 i, .int .u8 a, .int .u8 b, undef, undef, undef, .bool false, .pointer (some ⟨D22, 0, none⟩), .pointer (some ⟨g49, 0, none⟩), .int .i64 ((((((Dk.new 10).write i (rep a)).sync).spoil i true).spoil i true).readE i), .pointer (some ⟨g58, 0, none⟩), .int .i64 ((((((Dk.new 10).write i (rep a)).sync).spoil i true).spoil i true).pageE i), undef, undef, undef, undef, undef, undef, .bool true, .bool false, .int .i64 i, .bool false, .bool false, .int .i64 i, .bool false, .bool false, .pointer (some ⟨D22, 0, none⟩), .pointer (some ⟨D22, 0, none⟩), .int .i64 i, .int .u8 a, .agg ((nums .u8 (rep a))).toArray, .int .i64 ((Dk.new 10).writeE i), .bool false, .bool false, .pointer (some ⟨D22, 0, none⟩), .int .i64 (((Dk.new 10).write i (rep a)).actE), .bool false, .bool false, .bool false, .pointer (some ⟨D22, 0, none⟩), .int .i64 i, .int .i64 ((((Dk.new 10).write i (rep a)).sync).pageE i), .bool false, .bool false, .bool false, .pointer (some ⟨D22, 0, none⟩), .int .i64 i, .int .i64 (((((Dk.new 10).write i (rep a)).sync).spoil i true).pageE i), .bool false, .bool false, .tuple [.agg ((nums .u8 ((((((Dk.new 10).write i (rep a)).sync).spoil i true).spoil i true).readP i))).toArray, .int .i64 ((((((Dk.new 10).write i (rep a)).sync).spoil i true).spoil i true).readE i)].toArray, .pointer (some ⟨D22, 0, none⟩), .int .i64 i, .tuple [.agg ((nums .u8 ((((((Dk.new 10).write i (rep a)).sync).spoil i true).spoil i true).readP i))).toArray, .int .i64 ((((((Dk.new 10).write i (rep a)).sync).spoil i true).spoil i true).readE i)].toArray, .agg ((nums .u8 ((((((Dk.new 10).write i (rep a)).sync).spoil i true).spoil i true).readP i))).toArray, .int .i64 ((((((Dk.new 10).write i (rep a)).sync).spoil i true).spoil i true).readE i), .tuple [.agg ((nums .u8 ((((((Dk.new 10).write i (rep a)).sync).spoil i true).spoil i true).stabP i))).toArray, .int .i64 ((((((Dk.new 10).write i (rep a)).sync).spoil i true).spoil i true).pageE i)].toArray, .pointer (some ⟨D22, 0, none⟩), .int .i64 i, .tuple [.agg ((nums .u8 ((((((Dk.new 10).write i (rep a)).sync).spoil i true).spoil i true).stabP i))).toArray, .int .i64 ((((((Dk.new 10).write i (rep a)).sync).spoil i true).spoil i true).pageE i)].toArray, .agg ((nums .u8 ((((((Dk.new 10).write i (rep a)).sync).spoil i true).spoil i true).stabP i))).toArray, .int .i64 ((((((Dk.new 10).write i (rep a)).sync).spoil i true).spoil i true).pageE i), undef, undef, undef, undef, undef, undef, undef, undef, undef, undef, undef, undef, undef, undef, undef, undef, undef, undef, undef, undef, undef, undef, undef, undef, undef, undef, undef, undef, undef, undef, undef, undef, undef, undef, undef, undef, undef, undef, undef, undef, undef, undef, undef, undef, undef, undef, undef, undef, undef, undef, undef, undef, undef, undef]) _ (x_assign (.int .i64 ((((((Dk.new 10).write i (rep a)).sync).spoil i true).spoil i true).pageE i)) rfl rfl) rfl ?_
      refine wpList_nil ?_
      refine hK54 _ _ ?_
      refine wp_seq_k (fun K62 hK63 => ?_)
      refine c_region (fun ops65 hops64 => ?_)
      clear hops64
      refine p_run (l' := _) _ (x_move (.pointer (some ⟨D22, 0, none⟩)) rfl rfl) rfl ?_
      refine p_run (l' := _) _ (x_move (.int .i64 i) rfl rfl) rfl ?_
      refine p_run (l' := _) _ (x_move (.int .u8 b) rfl rfl) rfl ?_
      refine w_call [.int .u8 b] Try.func14 (by kernel_rfl) (by rfl) rfl ?_
      refine (full_any HS b).mono ?_
      clear HS
      rintro e w66 ⟨rfl, HS⟩
      refine ⟨_, rfl, ?_⟩
      refine fr_to (l' := [.int .i64 i, .int .u8 a, .int .u8 b, undef, undef, undef, .bool false, .pointer (some ⟨D22, 0, none⟩), .pointer (some ⟨g49, 0, none⟩), .int .i64 ((((((Dk.new 10).write i (rep a)).sync).spoil i true).spoil i true).readE i), .pointer (some ⟨g58, 0, none⟩), .int .i64 ((((((Dk.new 10).write i (rep a)).sync).spoil i true).spoil i true).pageE i), undef, undef, undef, undef, undef, undef, .bool true, .bool false, .int .i64 i, .bool false, .bool false, .int .i64 i, .bool false, .bool false, .pointer (some ⟨D22, 0, none⟩), .pointer (some ⟨D22, 0, none⟩), .int .i64 i, .int .u8 a, .agg ((nums .u8 (rep a))).toArray, .int .i64 ((Dk.new 10).writeE i), .bool false, .bool false, .pointer (some ⟨D22, 0, none⟩), .int .i64 (((Dk.new 10).write i (rep a)).actE), .bool false, .bool false, .bool false, .pointer (some ⟨D22, 0, none⟩), .int .i64 i, .int .i64 ((((Dk.new 10).write i (rep a)).sync).pageE i), .bool false, .bool false, .bool false, .pointer (some ⟨D22, 0, none⟩), .int .i64 i, .int .i64 (((((Dk.new 10).write i (rep a)).sync).spoil i true).pageE i), .bool false, .bool false, .tuple [.agg ((nums .u8 ((((((Dk.new 10).write i (rep a)).sync).spoil i true).spoil i true).readP i))).toArray, .int .i64 ((((((Dk.new 10).write i (rep a)).sync).spoil i true).spoil i true).readE i)].toArray, .pointer (some ⟨D22, 0, none⟩), .int .i64 i, .tuple [.agg ((nums .u8 ((((((Dk.new 10).write i (rep a)).sync).spoil i true).spoil i true).readP i))).toArray, .int .i64 ((((((Dk.new 10).write i (rep a)).sync).spoil i true).spoil i true).readE i)].toArray, .agg ((nums .u8 ((((((Dk.new 10).write i (rep a)).sync).spoil i true).spoil i true).readP i))).toArray, .int .i64 ((((((Dk.new 10).write i (rep a)).sync).spoil i true).spoil i true).readE i), .tuple [.agg ((nums .u8 ((((((Dk.new 10).write i (rep a)).sync).spoil i true).spoil i true).stabP i))).toArray, .int .i64 ((((((Dk.new 10).write i (rep a)).sync).spoil i true).spoil i true).pageE i)].toArray, .pointer (some ⟨D22, 0, none⟩), .int .i64 i, .tuple [.agg ((nums .u8 ((((((Dk.new 10).write i (rep a)).sync).spoil i true).spoil i true).stabP i))).toArray, .int .i64 ((((((Dk.new 10).write i (rep a)).sync).spoil i true).spoil i true).pageE i)].toArray, .agg ((nums .u8 ((((((Dk.new 10).write i (rep a)).sync).spoil i true).spoil i true).stabP i))).toArray, .int .i64 ((((((Dk.new 10).write i (rep a)).sync).spoil i true).spoil i true).pageE i), .pointer (some ⟨D22, 0, none⟩), .int .i64 i, .int .u8 b, .agg ((nums .u8 (rep b))).toArray, undef, undef, undef, undef, undef, undef, undef, undef, undef, undef, undef, undef, undef, undef, undef, undef, undef, undef, undef, undef, undef, undef, undef, undef, undef, undef, undef, undef, undef, undef, undef, undef, undef, undef, undef, undef, undef, undef, undef, undef, undef, undef, undef, undef, undef, undef, undef, undef, undef, undef]) rfl ?_
      refine w_call [.pointer (some ⟨D22, 0, none⟩), .int .i64 i, .agg ((nums .u8 (rep b))).toArray] Try.func13 (by kernel_rfl) (by rfl) rfl ?_
      replace HS := ((((HS.front 4 rfl).front 4 rfl).front 4 rfl).front 4 rfl)
      refine (write_any HS hgd43.lft (by have := hgd43.pn; omega) i (rep b) (rep_len _)).mono ?_
      clear HS
      rintro e w68 ⟨v67, rfl, HS⟩
      have hgd69 : Dk.good ((((((Dk.new 10).write i (rep a)).sync).spoil i true).spoil i true).write i (rep b)) (4) := good_write hgd43 i (rep_len _)
      refine ⟨_, rfl, ?_⟩
      refine p_run (l' := _) _ (x_assign (.int .i64 ((((((Dk.new 10).write i (rep a)).sync).spoil i true).spoil i true).writeE i)) rfl rfl) rfl ?_
      refine wpList_nil ?_
      refine fr_at (l' := [.int .i64 i, .int .u8 a, .int .u8 b, undef, undef, undef, .bool false, .pointer (some ⟨D22, 0, none⟩), .pointer (some ⟨g49, 0, none⟩), .int .i64 ((((((Dk.new 10).write i (rep a)).sync).spoil i true).spoil i true).readE i), .pointer (some ⟨g58, 0, none⟩), .int .i64 ((((((Dk.new 10).write i (rep a)).sync).spoil i true).spoil i true).pageE i), .int .i64 ((((((Dk.new 10).write i (rep a)).sync).spoil i true).spoil i true).writeE i), undef, undef, undef, undef, undef, .bool true, .bool false, .int .i64 i, .bool false, .bool false, .int .i64 i, .bool false, .bool false, .pointer (some ⟨D22, 0, none⟩), .pointer (some ⟨D22, 0, none⟩), .int .i64 i, .int .u8 a, .agg ((nums .u8 (rep a))).toArray, .int .i64 ((Dk.new 10).writeE i), .bool false, .bool false, .pointer (some ⟨D22, 0, none⟩), .int .i64 (((Dk.new 10).write i (rep a)).actE), .bool false, .bool false, .bool false, .pointer (some ⟨D22, 0, none⟩), .int .i64 i, .int .i64 ((((Dk.new 10).write i (rep a)).sync).pageE i), .bool false, .bool false, .bool false, .pointer (some ⟨D22, 0, none⟩), .int .i64 i, .int .i64 (((((Dk.new 10).write i (rep a)).sync).spoil i true).pageE i), .bool false, .bool false, .tuple [.agg ((nums .u8 ((((((Dk.new 10).write i (rep a)).sync).spoil i true).spoil i true).readP i))).toArray, .int .i64 ((((((Dk.new 10).write i (rep a)).sync).spoil i true).spoil i true).readE i)].toArray, .pointer (some ⟨D22, 0, none⟩), .int .i64 i, .tuple [.agg ((nums .u8 ((((((Dk.new 10).write i (rep a)).sync).spoil i true).spoil i true).readP i))).toArray, .int .i64 ((((((Dk.new 10).write i (rep a)).sync).spoil i true).spoil i true).readE i)].toArray, .agg ((nums .u8 ((((((Dk.new 10).write i (rep a)).sync).spoil i true).spoil i true).readP i))).toArray, .int .i64 ((((((Dk.new 10).write i (rep a)).sync).spoil i true).spoil i true).readE i), .tuple [.agg ((nums .u8 ((((((Dk.new 10).write i (rep a)).sync).spoil i true).spoil i true).stabP i))).toArray, .int .i64 ((((((Dk.new 10).write i (rep a)).sync).spoil i true).spoil i true).pageE i)].toArray, .pointer (some ⟨D22, 0, none⟩), .int .i64 i, .tuple [.agg ((nums .u8 ((((((Dk.new 10).write i (rep a)).sync).spoil i true).spoil i true).stabP i))).toArray, .int .i64 ((((((Dk.new 10).write i (rep a)).sync).spoil i true).spoil i true).pageE i)].toArray, .agg ((nums .u8 ((((((Dk.new 10).write i (rep a)).sync).spoil i true).spoil i true).stabP i))).toArray, .int .i64 ((((((Dk.new 10).write i (rep a)).sync).spoil i true).spoil i true).pageE i), .pointer (some ⟨D22, 0, none⟩), .int .i64 i, .int .u8 b, .agg ((nums .u8 (rep b))).toArray, .int .i64 ((((((Dk.new 10).write i (rep a)).sync).spoil i true).spoil i true).writeE i), undef, undef, undef, undef, undef, undef, undef, undef, undef, undef, undef, undef, undef, undef, undef, undef, undef, undef, undef, undef, undef, undef, undef, undef, undef, undef, undef, undef, undef, undef, undef, undef, undef, undef, undef, undef, undef, undef, undef, undef, undef, undef, undef, undef, undef, undef, undef, undef, undef]) rfl ?_
      refine hK63 _ _ ?_
      refine wp_seq_k (fun K70 hK71 => ?_)
      refine c_region (fun ops73 hops72 => ?_)
      clear hops72
      refine p_run (l' := _) _ (x_move (.pointer (some ⟨D22, 0, none⟩)) rfl rfl) rfl ?_
      refine p_run (l' := _) _ (x_move (.int .i64 i) rfl rfl) rfl ?_
      refine w_call [.pointer (some ⟨D22, 0, none⟩), .int .i64 i] Try.func19 (by kernel_rfl) (by rfl) rfl ?_
      replace HS := ((((HS.front 3 rfl).front 3 rfl).front 3 rfl).front 3 rfl)
      refine (read_any HS hgd69.ok (by have := hgd69.pn; omega) i).mono ?_
      clear HS
      rintro e w74 ⟨rfl, HS⟩
      refine ⟨_, rfl, ?_⟩
      refine p_run (l' := [.int .i64 i, .int .u8 a, .int .u8 b, undef, undef, undef, .bool false, .pointer (some ⟨D22, 0, none⟩), .pointer (some ⟨g49, 0, none⟩), .int .i64 ((((((Dk.new 10).write i (rep a)).sync).spoil i true).spoil i true).readE i), .pointer (some ⟨g58, 0, none⟩), .int .i64 ((((((Dk.new 10).write i (rep a)).sync).spoil i true).spoil i true).pageE i), .int .i64 ((((((Dk.new 10).write i (rep a)).sync).spoil i true).spoil i true).writeE i), undef, undef, undef, undef, undef, .bool true, .bool false, .int .i64 i, .bool false, .bool false, .int .i64 i, .bool false, .bool false, .pointer (some ⟨D22, 0, none⟩), .pointer (some ⟨D22, 0, none⟩), .int .i64 i, .int .u8 a, .agg ((nums .u8 (rep a))).toArray, .int .i64 ((Dk.new 10).writeE i), .bool false, .bool false, .pointer (some ⟨D22, 0, none⟩), .int .i64 (((Dk.new 10).write i (rep a)).actE), .bool false, .bool false, .bool false, .pointer (some ⟨D22, 0, none⟩), .int .i64 i, .int .i64 ((((Dk.new 10).write i (rep a)).sync).pageE i), .bool false, .bool false, .bool false, .pointer (some ⟨D22, 0, none⟩), .int .i64 i, .int .i64 (((((Dk.new 10).write i (rep a)).sync).spoil i true).pageE i), .bool false, .bool false, .tuple [.agg ((nums .u8 ((((((Dk.new 10).write i (rep a)).sync).spoil i true).spoil i true).readP i))).toArray, .int .i64 ((((((Dk.new 10).write i (rep a)).sync).spoil i true).spoil i true).readE i)].toArray, .pointer (some ⟨D22, 0, none⟩), .int .i64 i, .tuple [.agg ((nums .u8 ((((((Dk.new 10).write i (rep a)).sync).spoil i true).spoil i true).readP i))).toArray, .int .i64 ((((((Dk.new 10).write i (rep a)).sync).spoil i true).spoil i true).readE i)].toArray, .agg ((nums .u8 ((((((Dk.new 10).write i (rep a)).sync).spoil i true).spoil i true).readP i))).toArray, .int .i64 ((((((Dk.new 10).write i (rep a)).sync).spoil i true).spoil i true).readE i), .tuple [.agg ((nums .u8 ((((((Dk.new 10).write i (rep a)).sync).spoil i true).spoil i true).stabP i))).toArray, .int .i64 ((((((Dk.new 10).write i (rep a)).sync).spoil i true).spoil i true).pageE i)].toArray, .pointer (some ⟨D22, 0, none⟩), .int .i64 i, .tuple [.agg ((nums .u8 ((((((Dk.new 10).write i (rep a)).sync).spoil i true).spoil i true).stabP i))).toArray, .int .i64 ((((((Dk.new 10).write i (rep a)).sync).spoil i true).spoil i true).pageE i)].toArray, .agg ((nums .u8 ((((((Dk.new 10).write i (rep a)).sync).spoil i true).spoil i true).stabP i))).toArray, .int .i64 ((((((Dk.new 10).write i (rep a)).sync).spoil i true).spoil i true).pageE i), .pointer (some ⟨D22, 0, none⟩), .int .i64 i, .int .u8 b, .agg ((nums .u8 (rep b))).toArray, .int .i64 ((((((Dk.new 10).write i (rep a)).sync).spoil i true).spoil i true).writeE i), .tuple [.agg ((nums .u8 (((((((Dk.new 10).write i (rep a)).sync).spoil i true).spoil i true).write i (rep b)).readP i))).toArray, .int .i64 (((((((Dk.new 10).write i (rep a)).sync).spoil i true).spoil i true).write i (rep b)).readE i)].toArray, .pointer (some ⟨D22, 0, none⟩), .int .i64 i, .tuple [.agg ((nums .u8 (((((((Dk.new 10).write i (rep a)).sync).spoil i true).spoil i true).write i (rep b)).readP i))).toArray, .int .i64 (((((((Dk.new 10).write i (rep a)).sync).spoil i true).spoil i true).write i (rep b)).readE i)].toArray, undef, undef, undef, undef, undef, undef, undef, undef, undef, undef, undef, undef, undef, undef, undef, undef, undef, undef, undef, undef, undef, undef, undef, undef, undef, undef, undef, undef, undef, undef, undef, undef, undef, undef, undef, undef, undef, undef, undef, undef, undef, undef, undef, undef, undef]) _ (x_move (.tuple [.agg ((nums .u8 (((((((Dk.new 10).write i (rep a)).sync).spoil i true).spoil i true).write i (rep b)).readP i))).toArray, .int .i64 (((((((Dk.new 10).write i (rep a)).sync).spoil i true).spoil i true).write i (rep b)).readE i)].toArray) rfl rfl) rfl ?_
      refine p_run (l' := _) _ (x_extract (vs := [.agg ((nums .u8 (((((((Dk.new 10).write i (rep a)).sync).spoil i true).spoil i true).write i (rep b)).readP i))).toArray, .int .i64 (((((((Dk.new 10).write i (rep a)).sync).spoil i true).spoil i true).write i (rep b)).readE i)]) 0 (.agg ((nums .u8 (((((((Dk.new 10).write i (rep a)).sync).spoil i true).spoil i true).write i (rep b)).readP i))).toArray) rfl rfl rfl) rfl ?_
      refine p_run (l' := _) _ (x_extract (vs := [.agg ((nums .u8 (((((((Dk.new 10).write i (rep a)).sync).spoil i true).spoil i true).write i (rep b)).readP i))).toArray, .int .i64 (((((((Dk.new 10).write i (rep a)).sync).spoil i true).spoil i true).write i (rep b)).readE i)]) 1 (.int .i64 (((((((Dk.new 10).write i (rep a)).sync).spoil i true).spoil i true).write i (rep b)).readE i)) rfl rfl rfl) rfl ?_
      refine St.wAlloc HS (cs := ((nums .u8 zpg))) (.agg ((nums .u8 zpg)).toArray) (by kernel_rfl) rfl ?_
      clear HS
      intro g75 w76 hg77 HS
      refine St.stores (cs' := ((nums .u8 (((((((Dk.new 10).write i (rep a)).sync).spoil i true).spoil i true).write i (rep b)).readP i)))) HS ((nums .u8 (((((((Dk.new 10).write i (rep a)).sync).spoil i true).spoil i true).write i (rep b)).readP i))) 256 rfl rfl (nums_one _ _) (by kernel_rfl) (by simp [nums_length, readP_len hgd69.ok]) (by simp [nums_length, readP_len hgd69.ok, zlen]) (lay_all _ _ (by simp [nums_length, readP_len hgd69.ok, zlen])) ?_
      clear HS
      intro w78 HS
      refine p_run (l' := [.int .i64 i, .int .u8 a, .int .u8 b, undef, undef, undef, .bool false, .pointer (some ⟨D22, 0, none⟩), .pointer (some ⟨g49, 0, none⟩), .int .i64 ((((((Dk.new 10).write i (rep a)).sync).spoil i true).spoil i true).readE i), .pointer (some ⟨g58, 0, none⟩), .int .i64 ((((((Dk.new 10).write i (rep a)).sync).spoil i true).spoil i true).pageE i), .int .i64 ((((((Dk.new 10).write i (rep a)).sync).spoil i true).spoil i true).writeE i), .pointer (some ⟨g75, 0, none⟩), .int .i64 (((((((Dk.new 10).write i (rep a)).sync).spoil i true).spoil i true).write i (rep b)).readE i), undef, undef, undef, .bool true, .bool false, .int .i64 i, .bool false, .bool false, .int .i64 i, .bool false, .bool false, .pointer (some ⟨D22, 0, none⟩), .pointer (some ⟨D22, 0, none⟩), .int .i64 i, .int .u8 a, .agg ((nums .u8 (rep a))).toArray, .int .i64 ((Dk.new 10).writeE i), .bool false, .bool false, .pointer (some ⟨D22, 0, none⟩), .int .i64 (((Dk.new 10).write i (rep a)).actE), .bool false, .bool false, .bool false, .pointer (some ⟨D22, 0, none⟩), .int .i64 i, .int .i64 ((((Dk.new 10).write i (rep a)).sync).pageE i), .bool false, .bool false, .bool false, .pointer (some ⟨D22, 0, none⟩), .int .i64 i, .int .i64 (((((Dk.new 10).write i (rep a)).sync).spoil i true).pageE i), .bool false, .bool false, .tuple [.agg ((nums .u8 ((((((Dk.new 10).write i (rep a)).sync).spoil i true).spoil i true).readP i))).toArray, .int .i64 ((((((Dk.new 10).write i (rep a)).sync).spoil i true).spoil i true).readE i)].toArray, .pointer (some ⟨D22, 0, none⟩), .int .i64 i, .tuple [.agg ((nums .u8 ((((((Dk.new 10).write i (rep a)).sync).spoil i true).spoil i true).readP i))).toArray, .int .i64 ((((((Dk.new 10).write i (rep a)).sync).spoil i true).spoil i true).readE i)].toArray, .agg ((nums .u8 ((((((Dk.new 10).write i (rep a)).sync).spoil i true).spoil i true).readP i))).toArray, .int .i64 ((((((Dk.new 10).write i (rep a)).sync).spoil i true).spoil i true).readE i), .tuple [.agg ((nums .u8 ((((((Dk.new 10).write i (rep a)).sync).spoil i true).spoil i true).stabP i))).toArray, .int .i64 ((((((Dk.new 10).write i (rep a)).sync).spoil i true).spoil i true).pageE i)].toArray, .pointer (some ⟨D22, 0, none⟩), .int .i64 i, .tuple [.agg ((nums .u8 ((((((Dk.new 10).write i (rep a)).sync).spoil i true).spoil i true).stabP i))).toArray, .int .i64 ((((((Dk.new 10).write i (rep a)).sync).spoil i true).spoil i true).pageE i)].toArray, .agg ((nums .u8 ((((((Dk.new 10).write i (rep a)).sync).spoil i true).spoil i true).stabP i))).toArray, .int .i64 ((((((Dk.new 10).write i (rep a)).sync).spoil i true).spoil i true).pageE i), .pointer (some ⟨D22, 0, none⟩), .int .i64 i, .int .u8 b, .agg ((nums .u8 (rep b))).toArray, .int .i64 ((((((Dk.new 10).write i (rep a)).sync).spoil i true).spoil i true).writeE i), .tuple [.agg ((nums .u8 (((((((Dk.new 10).write i (rep a)).sync).spoil i true).spoil i true).write i (rep b)).readP i))).toArray, .int .i64 (((((((Dk.new 10).write i (rep a)).sync).spoil i true).spoil i true).write i (rep b)).readE i)].toArray, .pointer (some ⟨D22, 0, none⟩), .int .i64 i, .tuple [.agg ((nums .u8 (((((((Dk.new 10).write i (rep a)).sync).spoil i true).spoil i true).write i (rep b)).readP i))).toArray, .int .i64 (((((((Dk.new 10).write i (rep a)).sync).spoil i true).spoil i true).write i (rep b)).readE i)].toArray, .agg ((nums .u8 (((((((Dk.new 10).write i (rep a)).sync).spoil i true).spoil i true).write i (rep b)).readP i))).toArray, .int .i64 (((((((Dk.new 10).write i (rep a)).sync).spoil i true).spoil i true).write i (rep b)).readE i), undef, undef, undef, undef, undef, undef, undef, undef, undef, undef, undef, undef, undef, undef, undef, undef, undef, undef, undef, undef, undef, undef, undef, undef, undef, undef, undef, undef, undef, undef, undef, undef, undef, undef, undef, undef, undef, undef, undef, undef, undef, undef, undef]) _ (x_assign (.int .i64 (((((((Dk.new 10).write i (rep a)).sync).spoil i true).spoil i true).write i (rep b)).readE i)) rfl rfl) rfl ?_
      refine wpList_nil ?_
      refine hK71 _ _ ?_
      refine wp_seq_k (fun K79 hK80 => ?_)
      refine c_region (fun ops82 hops81 => ?_)
      clear hops81
      refine p_run (l' := _) _ (x_move (.pointer (some ⟨D22, 0, none⟩)) rfl rfl) rfl ?_
      refine p_run (l' := _) _ (x_move (.int .i64 i) rfl rfl) rfl ?_
      refine w_call [.pointer (some ⟨D22, 0, none⟩), .int .i64 i, .bool false] Try.func20 (by kernel_rfl) (by rfl) rfl ?_
      replace HS := ((((HS.front 4 rfl).front 4 rfl).front 4 rfl).front 4 rfl)
      refine (spoil_any HS hgd69.ok (by have := hgd69.cn; omega) i false).mono ?_
      clear HS
      rintro e w83 ⟨rfl, HS⟩
      have hgd84 : Dk.good (((((((Dk.new 10).write i (rep a)).sync).spoil i true).spoil i true).write i (rep b)).spoil i false) (5) := good_spoil hgd69 i false
      refine ⟨_, rfl, ?_⟩
      refine p_run (l' := [.int .i64 i, .int .u8 a, .int .u8 b, undef, undef, undef, .bool false, .pointer (some ⟨D22, 0, none⟩), .pointer (some ⟨g49, 0, none⟩), .int .i64 ((((((Dk.new 10).write i (rep a)).sync).spoil i true).spoil i true).readE i), .pointer (some ⟨g58, 0, none⟩), .int .i64 ((((((Dk.new 10).write i (rep a)).sync).spoil i true).spoil i true).pageE i), .int .i64 ((((((Dk.new 10).write i (rep a)).sync).spoil i true).spoil i true).writeE i), .pointer (some ⟨g75, 0, none⟩), .int .i64 (((((((Dk.new 10).write i (rep a)).sync).spoil i true).spoil i true).write i (rep b)).readE i), .int .i64 (((((((Dk.new 10).write i (rep a)).sync).spoil i true).spoil i true).write i (rep b)).pageE i), undef, undef, .bool true, .bool false, .int .i64 i, .bool false, .bool false, .int .i64 i, .bool false, .bool false, .pointer (some ⟨D22, 0, none⟩), .pointer (some ⟨D22, 0, none⟩), .int .i64 i, .int .u8 a, .agg ((nums .u8 (rep a))).toArray, .int .i64 ((Dk.new 10).writeE i), .bool false, .bool false, .pointer (some ⟨D22, 0, none⟩), .int .i64 (((Dk.new 10).write i (rep a)).actE), .bool false, .bool false, .bool false, .pointer (some ⟨D22, 0, none⟩), .int .i64 i, .int .i64 ((((Dk.new 10).write i (rep a)).sync).pageE i), .bool false, .bool false, .bool false, .pointer (some ⟨D22, 0, none⟩), .int .i64 i, .int .i64 (((((Dk.new 10).write i (rep a)).sync).spoil i true).pageE i), .bool false, .bool false, .tuple [.agg ((nums .u8 ((((((Dk.new 10).write i (rep a)).sync).spoil i true).spoil i true).readP i))).toArray, .int .i64 ((((((Dk.new 10).write i (rep a)).sync).spoil i true).spoil i true).readE i)].toArray, .pointer (some ⟨D22, 0, none⟩), .int .i64 i, .tuple [.agg ((nums .u8 ((((((Dk.new 10).write i (rep a)).sync).spoil i true).spoil i true).readP i))).toArray, .int .i64 ((((((Dk.new 10).write i (rep a)).sync).spoil i true).spoil i true).readE i)].toArray, .agg ((nums .u8 ((((((Dk.new 10).write i (rep a)).sync).spoil i true).spoil i true).readP i))).toArray, .int .i64 ((((((Dk.new 10).write i (rep a)).sync).spoil i true).spoil i true).readE i), .tuple [.agg ((nums .u8 ((((((Dk.new 10).write i (rep a)).sync).spoil i true).spoil i true).stabP i))).toArray, .int .i64 ((((((Dk.new 10).write i (rep a)).sync).spoil i true).spoil i true).pageE i)].toArray, .pointer (some ⟨D22, 0, none⟩), .int .i64 i, .tuple [.agg ((nums .u8 ((((((Dk.new 10).write i (rep a)).sync).spoil i true).spoil i true).stabP i))).toArray, .int .i64 ((((((Dk.new 10).write i (rep a)).sync).spoil i true).spoil i true).pageE i)].toArray, .agg ((nums .u8 ((((((Dk.new 10).write i (rep a)).sync).spoil i true).spoil i true).stabP i))).toArray, .int .i64 ((((((Dk.new 10).write i (rep a)).sync).spoil i true).spoil i true).pageE i), .pointer (some ⟨D22, 0, none⟩), .int .i64 i, .int .u8 b, .agg ((nums .u8 (rep b))).toArray, .int .i64 ((((((Dk.new 10).write i (rep a)).sync).spoil i true).spoil i true).writeE i), .tuple [.agg ((nums .u8 (((((((Dk.new 10).write i (rep a)).sync).spoil i true).spoil i true).write i (rep b)).readP i))).toArray, .int .i64 (((((((Dk.new 10).write i (rep a)).sync).spoil i true).spoil i true).write i (rep b)).readE i)].toArray, .pointer (some ⟨D22, 0, none⟩), .int .i64 i, .tuple [.agg ((nums .u8 (((((((Dk.new 10).write i (rep a)).sync).spoil i true).spoil i true).write i (rep b)).readP i))).toArray, .int .i64 (((((((Dk.new 10).write i (rep a)).sync).spoil i true).spoil i true).write i (rep b)).readE i)].toArray, .agg ((nums .u8 (((((((Dk.new 10).write i (rep a)).sync).spoil i true).spoil i true).write i (rep b)).readP i))).toArray, .int .i64 (((((((Dk.new 10).write i (rep a)).sync).spoil i true).spoil i true).write i (rep b)).readE i), .pointer (some ⟨D22, 0, none⟩), .int .i64 i, .int .i64 (((((((Dk.new 10).write i (rep a)).sync).spoil i true).spoil i true).write i (rep b)).pageE i), undef, undef, undef, undef, undef, undef, undef, undef, undef, undef, undef, undef, undef, undef, undef, undef, undef, undef, undef, undef, undef, undef, undef, undef, undef, undef, undef, undef, undef, undef, undef, undef, undef, undef, undef, undef, undef, undef, undef, undef]) _ (x_assign (.int .i64 (((((((Dk.new 10).write i (rep a)).sync).spoil i true).spoil i true).write i (rep b)).pageE i)) rfl rfl) rfl ?_
      refine wpList_nil ?_
      refine hK80 _ _ ?_
      refine wp_seq_k (fun K85 hK86 => ?_)
      refine c_region (fun ops88 hops87 => ?_)
      clear hops87
      refine p_run (l' := _) _ (x_move (.pointer (some ⟨D22, 0, none⟩)) rfl rfl) rfl ?_
      refine p_run (l' := _) _ (x_move (.int .i64 i) rfl rfl) rfl ?_
      refine w_call [.pointer (some ⟨D22, 0, none⟩), .int .i64 i] Try.func19 (by kernel_rfl) (by rfl) rfl ?_
      replace HS := ((((HS.front 3 rfl).front 3 rfl).front 3 rfl).front 3 rfl)
      refine (read_any HS hgd84.ok (by have := hgd84.pn; omega) i).mono ?_
      clear HS
      rintro e w89 ⟨rfl, HS⟩
      refine ⟨_, rfl, ?_⟩
      refine p_run (l' := [.int .i64 i, .int .u8 a, .int .u8 b, undef, undef, undef, .bool false, .pointer (some ⟨D22, 0, none⟩), .pointer (some ⟨g49, 0, none⟩), .int .i64 ((((((Dk.new 10).write i (rep a)).sync).spoil i true).spoil i true).readE i), .pointer (some ⟨g58, 0, none⟩), .int .i64 ((((((Dk.new 10).write i (rep a)).sync).spoil i true).spoil i true).pageE i), .int .i64 ((((((Dk.new 10).write i (rep a)).sync).spoil i true).spoil i true).writeE i), .pointer (some ⟨g75, 0, none⟩), .int .i64 (((((((Dk.new 10).write i (rep a)).sync).spoil i true).spoil i true).write i (rep b)).readE i), .int .i64 (((((((Dk.new 10).write i (rep a)).sync).spoil i true).spoil i true).write i (rep b)).pageE i), undef, undef, .bool true, .bool false, .int .i64 i, .bool false, .bool false, .int .i64 i, .bool false, .bool false, .pointer (some ⟨D22, 0, none⟩), .pointer (some ⟨D22, 0, none⟩), .int .i64 i, .int .u8 a, .agg ((nums .u8 (rep a))).toArray, .int .i64 ((Dk.new 10).writeE i), .bool false, .bool false, .pointer (some ⟨D22, 0, none⟩), .int .i64 (((Dk.new 10).write i (rep a)).actE), .bool false, .bool false, .bool false, .pointer (some ⟨D22, 0, none⟩), .int .i64 i, .int .i64 ((((Dk.new 10).write i (rep a)).sync).pageE i), .bool false, .bool false, .bool false, .pointer (some ⟨D22, 0, none⟩), .int .i64 i, .int .i64 (((((Dk.new 10).write i (rep a)).sync).spoil i true).pageE i), .bool false, .bool false, .tuple [.agg ((nums .u8 ((((((Dk.new 10).write i (rep a)).sync).spoil i true).spoil i true).readP i))).toArray, .int .i64 ((((((Dk.new 10).write i (rep a)).sync).spoil i true).spoil i true).readE i)].toArray, .pointer (some ⟨D22, 0, none⟩), .int .i64 i, .tuple [.agg ((nums .u8 ((((((Dk.new 10).write i (rep a)).sync).spoil i true).spoil i true).readP i))).toArray, .int .i64 ((((((Dk.new 10).write i (rep a)).sync).spoil i true).spoil i true).readE i)].toArray, .agg ((nums .u8 ((((((Dk.new 10).write i (rep a)).sync).spoil i true).spoil i true).readP i))).toArray, .int .i64 ((((((Dk.new 10).write i (rep a)).sync).spoil i true).spoil i true).readE i), .tuple [.agg ((nums .u8 ((((((Dk.new 10).write i (rep a)).sync).spoil i true).spoil i true).stabP i))).toArray, .int .i64 ((((((Dk.new 10).write i (rep a)).sync).spoil i true).spoil i true).pageE i)].toArray, .pointer (some ⟨D22, 0, none⟩), .int .i64 i, .tuple [.agg ((nums .u8 ((((((Dk.new 10).write i (rep a)).sync).spoil i true).spoil i true).stabP i))).toArray, .int .i64 ((((((Dk.new 10).write i (rep a)).sync).spoil i true).spoil i true).pageE i)].toArray, .agg ((nums .u8 ((((((Dk.new 10).write i (rep a)).sync).spoil i true).spoil i true).stabP i))).toArray, .int .i64 ((((((Dk.new 10).write i (rep a)).sync).spoil i true).spoil i true).pageE i), .pointer (some ⟨D22, 0, none⟩), .int .i64 i, .int .u8 b, .agg ((nums .u8 (rep b))).toArray, .int .i64 ((((((Dk.new 10).write i (rep a)).sync).spoil i true).spoil i true).writeE i), .tuple [.agg ((nums .u8 (((((((Dk.new 10).write i (rep a)).sync).spoil i true).spoil i true).write i (rep b)).readP i))).toArray, .int .i64 (((((((Dk.new 10).write i (rep a)).sync).spoil i true).spoil i true).write i (rep b)).readE i)].toArray, .pointer (some ⟨D22, 0, none⟩), .int .i64 i, .tuple [.agg ((nums .u8 (((((((Dk.new 10).write i (rep a)).sync).spoil i true).spoil i true).write i (rep b)).readP i))).toArray, .int .i64 (((((((Dk.new 10).write i (rep a)).sync).spoil i true).spoil i true).write i (rep b)).readE i)].toArray, .agg ((nums .u8 (((((((Dk.new 10).write i (rep a)).sync).spoil i true).spoil i true).write i (rep b)).readP i))).toArray, .int .i64 (((((((Dk.new 10).write i (rep a)).sync).spoil i true).spoil i true).write i (rep b)).readE i), .pointer (some ⟨D22, 0, none⟩), .int .i64 i, .int .i64 (((((((Dk.new 10).write i (rep a)).sync).spoil i true).spoil i true).write i (rep b)).pageE i), .tuple [.agg ((nums .u8 ((((((((Dk.new 10).write i (rep a)).sync).spoil i true).spoil i true).write i (rep b)).spoil i false).readP i))).toArray, .int .i64 ((((((((Dk.new 10).write i (rep a)).sync).spoil i true).spoil i true).write i (rep b)).spoil i false).readE i)].toArray, .pointer (some ⟨D22, 0, none⟩), .int .i64 i, .tuple [.agg ((nums .u8 ((((((((Dk.new 10).write i (rep a)).sync).spoil i true).spoil i true).write i (rep b)).spoil i false).readP i))).toArray, .int .i64 ((((((((Dk.new 10).write i (rep a)).sync).spoil i true).spoil i true).write i (rep b)).spoil i false).readE i)].toArray, undef, undef, undef, undef, undef, undef, undef, undef, undef, undef, undef, undef, undef, undef, undef, undef, undef, undef, undef, undef, undef, undef, undef, undef, undef, undef, undef, undef, undef, undef, undef, undef, undef, undef, undef, undef]) _ (x_move (.tuple [.agg ((nums .u8 ((((((((Dk.new 10).write i (rep a)).sync).spoil i true).spoil i true).write i (rep b)).spoil i false).readP i))).toArray, .int .i64 ((((((((Dk.new 10).write i (rep a)).sync).spoil i true).spoil i true).write i (rep b)).spoil i false).readE i)].toArray) rfl rfl) rfl ?_
      refine p_run (l' := _) _ (x_extract (vs := [.agg ((nums .u8 ((((((((Dk.new 10).write i (rep a)).sync).spoil i true).spoil i true).write i (rep b)).spoil i false).readP i))).toArray, .int .i64 ((((((((Dk.new 10).write i (rep a)).sync).spoil i true).spoil i true).write i (rep b)).spoil i false).readE i)]) 0 (.agg ((nums .u8 ((((((((Dk.new 10).write i (rep a)).sync).spoil i true).spoil i true).write i (rep b)).spoil i false).readP i))).toArray) rfl rfl rfl) rfl ?_
      refine p_run (l' := _) _ (x_extract (vs := [.agg ((nums .u8 ((((((((Dk.new 10).write i (rep a)).sync).spoil i true).spoil i true).write i (rep b)).spoil i false).readP i))).toArray, .int .i64 ((((((((Dk.new 10).write i (rep a)).sync).spoil i true).spoil i true).write i (rep b)).spoil i false).readE i)]) 1 (.int .i64 ((((((((Dk.new 10).write i (rep a)).sync).spoil i true).spoil i true).write i (rep b)).spoil i false).readE i)) rfl rfl rfl) rfl ?_
      refine St.wAlloc HS (cs := ((nums .u8 zpg))) (.agg ((nums .u8 zpg)).toArray) (by kernel_rfl) rfl ?_
      clear HS
      intro g90 w91 hg92 HS
      refine St.stores (cs' := ((nums .u8 ((((((((Dk.new 10).write i (rep a)).sync).spoil i true).spoil i true).write i (rep b)).spoil i false).readP i)))) HS ((nums .u8 ((((((((Dk.new 10).write i (rep a)).sync).spoil i true).spoil i true).write i (rep b)).spoil i false).readP i))) 256 rfl rfl (nums_one _ _) (by kernel_rfl) (by simp [nums_length, readP_len hgd84.ok]) (by simp [nums_length, readP_len hgd84.ok, zlen]) (lay_all _ _ (by simp [nums_length, readP_len hgd84.ok, zlen])) ?_
      clear HS
      intro w93 HS
      refine p_run (l' := [.int .i64 i, .int .u8 a, .int .u8 b, undef, undef, undef, .bool false, .pointer (some ⟨D22, 0, none⟩), .pointer (some ⟨g49, 0, none⟩), .int .i64 ((((((Dk.new 10).write i (rep a)).sync).spoil i true).spoil i true).readE i), .pointer (some ⟨g58, 0, none⟩), .int .i64 ((((((Dk.new 10).write i (rep a)).sync).spoil i true).spoil i true).pageE i), .int .i64 ((((((Dk.new 10).write i (rep a)).sync).spoil i true).spoil i true).writeE i), .pointer (some ⟨g75, 0, none⟩), .int .i64 (((((((Dk.new 10).write i (rep a)).sync).spoil i true).spoil i true).write i (rep b)).readE i), .int .i64 (((((((Dk.new 10).write i (rep a)).sync).spoil i true).spoil i true).write i (rep b)).pageE i), .pointer (some ⟨g90, 0, none⟩), .int .i64 ((((((((Dk.new 10).write i (rep a)).sync).spoil i true).spoil i true).write i (rep b)).spoil i false).readE i), .bool true, .bool false, .int .i64 i, .bool false, .bool false, .int .i64 i, .bool false, .bool false, .pointer (some ⟨D22, 0, none⟩), .pointer (some ⟨D22, 0, none⟩), .int .i64 i, .int .u8 a, .agg ((nums .u8 (rep a))).toArray, .int .i64 ((Dk.new 10).writeE i), .bool false, .bool false, .pointer (some ⟨D22, 0, none⟩), .int .i64 (((Dk.new 10).write i (rep a)).actE), .bool false, .bool false, .bool false, .pointer (some ⟨D22, 0, none⟩), .int .i64 i, .int .i64 ((((Dk.new 10).write i (rep a)).sync).pageE i), .bool false, .bool false, .bool false, .pointer (some ⟨D22, 0, none⟩), .int .i64 i, .int .i64 (((((Dk.new 10).write i (rep a)).sync).spoil i true).pageE i), .bool false, .bool false, .tuple [.agg ((nums .u8 ((((((Dk.new 10).write i (rep a)).sync).spoil i true).spoil i true).readP i))).toArray, .int .i64 ((((((Dk.new 10).write i (rep a)).sync).spoil i true).spoil i true).readE i)].toArray, .pointer (some ⟨D22, 0, none⟩), .int .i64 i, .tuple [.agg ((nums .u8 ((((((Dk.new 10).write i (rep a)).sync).spoil i true).spoil i true).readP i))).toArray, .int .i64 ((((((Dk.new 10).write i (rep a)).sync).spoil i true).spoil i true).readE i)].toArray, .agg ((nums .u8 ((((((Dk.new 10).write i (rep a)).sync).spoil i true).spoil i true).readP i))).toArray, .int .i64 ((((((Dk.new 10).write i (rep a)).sync).spoil i true).spoil i true).readE i), .tuple [.agg ((nums .u8 ((((((Dk.new 10).write i (rep a)).sync).spoil i true).spoil i true).stabP i))).toArray, .int .i64 ((((((Dk.new 10).write i (rep a)).sync).spoil i true).spoil i true).pageE i)].toArray, .pointer (some ⟨D22, 0, none⟩), .int .i64 i, .tuple [.agg ((nums .u8 ((((((Dk.new 10).write i (rep a)).sync).spoil i true).spoil i true).stabP i))).toArray, .int .i64 ((((((Dk.new 10).write i (rep a)).sync).spoil i true).spoil i true).pageE i)].toArray, .agg ((nums .u8 ((((((Dk.new 10).write i (rep a)).sync).spoil i true).spoil i true).stabP i))).toArray, .int .i64 ((((((Dk.new 10).write i (rep a)).sync).spoil i true).spoil i true).pageE i), .pointer (some ⟨D22, 0, none⟩), .int .i64 i, .int .u8 b, .agg ((nums .u8 (rep b))).toArray, .int .i64 ((((((Dk.new 10).write i (rep a)).sync).spoil i true).spoil i true).writeE i), .tuple [.agg ((nums .u8 (((((((Dk.new 10).write i (rep a)).sync).spoil i true).spoil i true).write i (rep b)).readP i))).toArray, .int .i64 (((((((Dk.new 10).write i (rep a)).sync).spoil i true).spoil i true).write i (rep b)).readE i)].toArray, .pointer (some ⟨D22, 0, none⟩), .int .i64 i, .tuple [.agg ((nums .u8 (((((((Dk.new 10).write i (rep a)).sync).spoil i true).spoil i true).write i (rep b)).readP i))).toArray, .int .i64 (((((((Dk.new 10).write i (rep a)).sync).spoil i true).spoil i true).write i (rep b)).readE i)].toArray, .agg ((nums .u8 (((((((Dk.new 10).write i (rep a)).sync).spoil i true).spoil i true).write i (rep b)).readP i))).toArray, .int .i64 (((((((Dk.new 10).write i (rep a)).sync).spoil i true).spoil i true).write i (rep b)).readE i), .pointer (some ⟨D22, 0, none⟩), .int .i64 i, .int .i64 (((((((Dk.new 10).write i (rep a)).sync).spoil i true).spoil i true).write i (rep b)).pageE i), .tuple [.agg ((nums .u8 ((((((((Dk.new 10).write i (rep a)).sync).spoil i true).spoil i true).write i (rep b)).spoil i false).readP i))).toArray, .int .i64 ((((((((Dk.new 10).write i (rep a)).sync).spoil i true).spoil i true).write i (rep b)).spoil i false).readE i)].toArray, .pointer (some ⟨D22, 0, none⟩), .int .i64 i, .tuple [.agg ((nums .u8 ((((((((Dk.new 10).write i (rep a)).sync).spoil i true).spoil i true).write i (rep b)).spoil i false).readP i))).toArray, .int .i64 ((((((((Dk.new 10).write i (rep a)).sync).spoil i true).spoil i true).write i (rep b)).spoil i false).readE i)].toArray, .agg ((nums .u8 ((((((((Dk.new 10).write i (rep a)).sync).spoil i true).spoil i true).write i (rep b)).spoil i false).readP i))).toArray, .int .i64 ((((((((Dk.new 10).write i (rep a)).sync).spoil i true).spoil i true).write i (rep b)).spoil i false).readE i), undef, undef, undef, undef, undef, undef, undef, undef, undef, undef, undef, undef, undef, undef, undef, undef, undef, undef, undef, undef, undef, undef, undef, undef, undef, undef, undef, undef, undef, undef, undef, undef, undef, undef]) _ (x_assign (.int .i64 ((((((((Dk.new 10).write i (rep a)).sync).spoil i true).spoil i true).write i (rep b)).spoil i false).readE i)) rfl rfl) rfl ?_
      refine wpList_nil ?_
      refine hK86 _ _ ?_
      refine wp_seq_k (fun K94 hK95 => ?_)
      refine free_frame (n := 35) (T := _) [0, 1, 3, 7, 15, 31, 63, 127, 127, 383, 1023, 2047, 4095, 8191, 16383, 32767, 65535, 131071, 262143, 524287, 1048575, 2097151, 4194303, 8388607, 16777215, 33554431, 67108863, 134217727, 268435455, 536870911, 536870911, 1610612735, 4294967295, 8589934591, 17179869183] [(0, 82), (1, 83), (2, 84), (3, 85), (4, 86), (5, 87), (6, 88), (7, 89), (8, 90), (9, 91), (10, 92), (11, 93), (12, 94), (13, 95), (14, 96), (15, 97), (16, 98), (17, 99), (18, 100), (19, 101), (20, 102), (21, 103), (22, 104), (23, 105), (24, 106), (25, 107), (26, 108), (27, 109), (28, 110), (29, 111), (30, 112), (31, 113), (32, 114), (33, 115), (34, 6)] (fun bq_ vq_ w_ => qv ((fun i_ => match i_ with | 0 => some (.int .i64 ((((((Dk.new 10).write i (rep a)).sync).spoil i true).spoil i true).readE i)) | 1 => some (.bool true) | 2 => some (.bool true) | 3 => some (.int .i64 ((((((Dk.new 10).write i (rep a)).sync).spoil i true).spoil i true).pageE i)) | 4 => some (.bool true) | 5 => some (.bool true) | 6 => some (.bool true) | 7 => some (.agg ((nums .u8 ((((((Dk.new 10).write i (rep a)).sync).spoil i true).spoil i true).stabP i))).toArray) | 8 => some (.int .u8 a) | 10 => some (.bool true) | 11 => some (.bool true) | 12 => some (.bool true) | 13 => some (.int .i64 ((((((Dk.new 10).write i (rep a)).sync).spoil i true).spoil i true).writeE i)) | 14 => some (.bool true) | 15 => some (.bool true) | 16 => some (.bool true) | 17 => some (.int .i64 (((((((Dk.new 10).write i (rep a)).sync).spoil i true).spoil i true).write i (rep b)).readE i)) | 18 => some (.bool true) | 19 => some (.bool true) | 20 => some (.bool true) | 21 => some (.int .i64 (((((((Dk.new 10).write i (rep a)).sync).spoil i true).spoil i true).write i (rep b)).pageE i)) | 22 => some (.bool true) | 23 => some (.bool true) | 24 => some (.bool true) | 25 => some (.int .i64 ((((((((Dk.new 10).write i (rep a)).sync).spoil i true).spoil i true).write i (rep b)).spoil i false).readE i)) | 26 => some (.bool true) | 27 => some (.bool true) | 28 => some (.bool true) | 29 => some (.agg ((nums .u8 ((((((((Dk.new 10).write i (rep a)).sync).spoil i true).spoil i true).write i (rep b)).spoil i false).readP i))).toArray) | 30 => some (.int .u8 b) | 32 => some (.bool true) | 33 => some (.bool true) | 34 => some (.bool true) | _ => none) : Nat → Option Value) bq_ vq_ ∧ cond (bq_ 31) (vq_ 9 = .agg ((nums .u8 (rep a))).toArray ∧ vq_ 31 = .agg ((nums .u8 (rep b))).toArray ∧ St w (fun _ => False) w_ ([blk g90 ((nums .u8 ((((((((Dk.new 10).write i (rep a)).sync).spoil i true).spoil i true).write i (rep b)).spoil i false).readP i))) 31, blk D22 (dskC gs23 gm24 v67 (((((((Dk.new 10).write i (rep a)).sync).spoil i true).spoil i true).write i (rep b)).spoil i false)) 66, blk gs23 (pgs (((((((Dk.new 10).write i (rep a)).sync).spoil i true).spoil i true).write i (rep b)).spoil i false).stable) 31, mapR gm24 (((((((Dk.new 10).write i (rep a)).sync).spoil i true).spoil i true).write i (rep b)).spoil i false).cnt (((((((Dk.new 10).write i (rep a)).sync).spoil i true).spoil i true).write i (rep b)).spoil i false).bad, row kWr rfl 71 v67 (((((((Dk.new 10).write i (rep a)).sync).spoil i true).spoil i true).write i (rep b)).spoil i false).pending, blk g75 ((nums .u8 (((((((Dk.new 10).write i (rep a)).sync).spoil i true).spoil i true).write i (rep b)).readP i))) 31, blk g58 ((nums .u8 ((((((Dk.new 10).write i (rep a)).sync).spoil i true).spoil i true).stabP i))) 31, blk g49 ((nums .u8 ((((((Dk.new 10).write i (rep a)).sync).spoil i true).spoil i true).readP i))) 31])) (cond (bq_ 9) (vq_ 9 = .agg ((nums .u8 (rep a))).toArray ∧ St w (fun _ => False) w_ ([blk g90 ((nums .u8 ((((((((Dk.new 10).write i (rep a)).sync).spoil i true).spoil i true).write i (rep b)).spoil i false).readP i))) 31, blk D22 (dskC gs23 gm24 v67 (((((((Dk.new 10).write i (rep a)).sync).spoil i true).spoil i true).write i (rep b)).spoil i false)) 66, blk gs23 (pgs (((((((Dk.new 10).write i (rep a)).sync).spoil i true).spoil i true).write i (rep b)).spoil i false).stable) 31, mapR gm24 (((((((Dk.new 10).write i (rep a)).sync).spoil i true).spoil i true).write i (rep b)).spoil i false).cnt (((((((Dk.new 10).write i (rep a)).sync).spoil i true).spoil i true).write i (rep b)).spoil i false).bad, row kWr rfl 71 v67 (((((((Dk.new 10).write i (rep a)).sync).spoil i true).spoil i true).write i (rep b)).spoil i false).pending, blk g75 ((nums .u8 (((((((Dk.new 10).write i (rep a)).sync).spoil i true).spoil i true).write i (rep b)).readP i))) 31, blk g58 ((nums .u8 ((((((Dk.new 10).write i (rep a)).sync).spoil i true).spoil i true).stabP i))) 31, blk g49 ((nums .u8 ((((((Dk.new 10).write i (rep a)).sync).spoil i true).spoil i true).readP i))) 31])) ((St w (fun _ => False) w_ ([blk g90 ((nums .u8 ((((((((Dk.new 10).write i (rep a)).sync).spoil i true).spoil i true).write i (rep b)).spoil i false).readP i))) 31, blk D22 (dskC gs23 gm24 v67 (((((((Dk.new 10).write i (rep a)).sync).spoil i true).spoil i true).write i (rep b)).spoil i false)) 66, blk gs23 (pgs (((((((Dk.new 10).write i (rep a)).sync).spoil i true).spoil i true).write i (rep b)).spoil i false).stable) 31, mapR gm24 (((((((Dk.new 10).write i (rep a)).sync).spoil i true).spoil i true).write i (rep b)).spoil i false).cnt (((((((Dk.new 10).write i (rep a)).sync).spoil i true).spoil i true).write i (rep b)).spoil i false).bad, row kWr rfl 71 v67 (((((((Dk.new 10).write i (rep a)).sync).spoil i true).spoil i true).write i (rep b)).spoil i false).pending, blk g75 ((nums .u8 (((((((Dk.new 10).write i (rep a)).sync).spoil i true).spoil i true).write i (rep b)).readP i))) 31, blk g58 ((nums .u8 ((((((Dk.new 10).write i (rep a)).sync).spoil i true).spoil i true).stabP i))) 31, blk g49 ((nums .u8 ((((((Dk.new 10).write i (rep a)).sync).spoil i true).spoil i true).readP i))) 31]))))) (by kernel_rfl) rfl rfl (by kernel_rfl) (by kernel_rfl) rfl (by kernel_rfl) (by kernel_rfl) ⟨qv_none, HS.draw⟩ ?_ ?_
      · clear HS
        intro i_ hi_ bq_ vq_ a_ w_ hG hb_ hon hoff hfr hel hval
        obtain ⟨hV, hE⟩ := hG
        have hi_ := List.mem_range.1 hi_
        have hcs : i_ = 0 ∨ i_ = 1 ∨ i_ = 2 ∨ i_ = 3 ∨ i_ = 4 ∨ i_ = 5 ∨ i_ = 6 ∨ i_ = 7 ∨ i_ = 8 ∨ i_ = 9 ∨ i_ = 10 ∨ i_ = 11 ∨ i_ = 12 ∨ i_ = 13 ∨ i_ = 14 ∨ i_ = 15 ∨ i_ = 16 ∨ i_ = 17 ∨ i_ = 18 ∨ i_ = 19 ∨ i_ = 20 ∨ i_ = 21 ∨ i_ = 22 ∨ i_ = 23 ∨ i_ = 24 ∨ i_ = 25 ∨ i_ = 26 ∨ i_ = 27 ∨ i_ = 28 ∨ i_ = 29 ∨ i_ = 30 ∨ i_ = 31 ∨ i_ = 32 ∨ i_ = 33 ∨ i_ = 34 := by omega
        rcases hcs with rfl | rfl | rfl | rfl | rfl | rfl | rfl | rfl | rfl | rfl | rfl | rfl | rfl | rfl | rfl | rfl | rfl | rfl | rfl | rfl | rfl | rfl | rfl | rfl | rfl | rfl | rfl | rfl | rfl | rfl | rfl | rfl | rfl | rfl | rfl
        · have h9 : a_.tmps[9]? = some (.int .i64 ((((((Dk.new 10).write i (rep a)).sync).spoil i true).spoil i true).readE i)) := (hel 9 (by decide)).trans rfl
          obtain ⟨l_, rfl⟩ := hfr
          have e9 : evl l_ (.tmp 9) = .int .i64 ((((((Dk.new 10).write i (rep a)).sync).spoil i true).spoil i true).readE i) := evl_of h9
          refine ⟨_, rfl, fun K_ hK_ => wp_of_list rfl ?_⟩
          intro ops_
          refine p_run (l' := _) _ (x_move (.int .i64 ((((((Dk.new 10).write i (rep a)).sync).spoil i true).spoil i true).readE i)) rfl e9) rfl ?_
          refine wpList_nil ?_
          exact norm_put (hK_ (.int .i64 ((((((Dk.new 10).write i (rep a)).sync).spoil i true).spoil i true).readE i)) _ ⟨qv_up hV (fun _ h => Option.some.inj h), hE⟩)
        · have h82 : a_.tmps[82]? = some (.int .i64 ((((((Dk.new 10).write i (rep a)).sync).spoil i true).spoil i true).readE i)) := (hval (0, 82) (by decide) (hon 0 (by decide))).trans (congrArg some (hV 0 _ rfl (hon 0 (by decide))))
          obtain ⟨l_, rfl⟩ := hfr
          have e82 : evl l_ (.tmp 82) = .int .i64 ((((((Dk.new 10).write i (rep a)).sync).spoil i true).spoil i true).readE i) := evl_of h82
          refine ⟨_, rfl, fun K_ hK_ => wp_of_list rfl ?_⟩
          intro ops_
          refine p_run (l' := _) _ (x_cmp (k := .i64) (m := ((((((Dk.new 10).write i (rep a)).sync).spoil i true).spoil i true).readE i)) (n := 43) .eql true rfl e82 rfl (by unfold cmpB; rw [G1 hi, G2 hi, G2 hi, G_bad hi _ _ _ _ (by rw [put_same, put_same]; decide)]; rfl) rfl) rfl ?_
          refine wpList_nil ?_
          exact norm_put (hK_ (.bool true) _ ⟨qv_up hV (fun _ h => Option.some.inj h), hE⟩)
        · have h83 : a_.tmps[83]? = some (.bool true) := (hval (1, 83) (by decide) (hon 1 (by decide))).trans (congrArg some (hV 1 _ rfl (hon 1 (by decide))))
          obtain ⟨l_, rfl⟩ := hfr
          have e83 : evl l_ (.tmp 83) = .bool true := evl_of h83
          refine ⟨_, rfl, fun K_ hK_ => wp_of_list rfl ?_⟩
          intro ops_
          refine p_run (l' := _) _ (x_move (.bool true) rfl e83) rfl ?_
          refine wpList_nil ?_
          exact norm_put (hK_ (.bool true) _ ⟨qv_up hV (fun _ h => Option.some.inj h), hE⟩)
        · have h11 : a_.tmps[11]? = some (.int .i64 ((((((Dk.new 10).write i (rep a)).sync).spoil i true).spoil i true).pageE i)) := (hel 11 (by decide)).trans rfl
          have h84 : a_.tmps[84]? = some (.bool true) := (hval (2, 84) (by decide) (hon 2 (by decide))).trans (congrArg some (hV 2 _ rfl (hon 2 (by decide))))
          obtain ⟨l_, rfl⟩ := hfr
          have e11 : evl l_ (.tmp 11) = .int .i64 ((((((Dk.new 10).write i (rep a)).sync).spoil i true).spoil i true).pageE i) := evl_of h11
          have e84 : evl l_ (.tmp 84) = .bool true := evl_of h84
          refine ⟨_, rfl, fun K_ hK_ => wp_of_listG rfl (wanted_on (t := 84) rfl rfl rfl h84) ?_⟩
          intro ops_
          refine p_run (l' := _) _ (x_move (.int .i64 ((((((Dk.new 10).write i (rep a)).sync).spoil i true).spoil i true).pageE i)) rfl e11) rfl ?_
          refine wpList_nil ?_
          exact norm_put (hK_ (.int .i64 ((((((Dk.new 10).write i (rep a)).sync).spoil i true).spoil i true).pageE i)) _ ⟨qv_up hV (fun _ h => Option.some.inj h), hE⟩)
        · have h84 : a_.tmps[84]? = some (.bool true) := (hval (2, 84) (by decide) (hon 2 (by decide))).trans (congrArg some (hV 2 _ rfl (hon 2 (by decide))))
          have h85 : a_.tmps[85]? = some (.int .i64 ((((((Dk.new 10).write i (rep a)).sync).spoil i true).spoil i true).pageE i)) := (hval (3, 85) (by decide) (hon 3 (by decide))).trans (congrArg some (hV 3 _ rfl (hon 3 (by decide))))
          obtain ⟨l_, rfl⟩ := hfr
          have e84 : evl l_ (.tmp 84) = .bool true := evl_of h84
          have e85 : evl l_ (.tmp 85) = .int .i64 ((((((Dk.new 10).write i (rep a)).sync).spoil i true).spoil i true).pageE i) := evl_of h85
          refine ⟨_, rfl, fun K_ hK_ => wp_of_listG rfl (wanted_on (t := 84) rfl rfl rfl h84) ?_⟩
          intro ops_
          refine p_run (l' := _) _ (x_cmp (k := .i64) (m := ((((((Dk.new 10).write i (rep a)).sync).spoil i true).spoil i true).pageE i)) (n := 0) .eql true rfl e85 rfl (by unfold cmpB; rw [G1 hi, G2 hi, G2 hi, G_E hi]; rfl) rfl) rfl ?_
          refine wpList_nil ?_
          exact norm_put (hK_ (.bool true) _ ⟨qv_up hV (fun _ h => Option.some.inj h), hE⟩)
        · have h84 : a_.tmps[84]? = some (.bool true) := (hval (2, 84) (by decide) (hon 2 (by decide))).trans (congrArg some (hV 2 _ rfl (hon 2 (by decide))))
          have h86 : a_.tmps[86]? = some (.bool true) := (hval (4, 86) (by decide) (hon 4 (by decide))).trans (congrArg some (hV 4 _ rfl (hon 4 (by decide))))
          obtain ⟨l_, rfl⟩ := hfr
          have e84 : evl l_ (.tmp 84) = .bool true := evl_of h84
          have e86 : evl l_ (.tmp 86) = .bool true := evl_of h86
          refine ⟨_, rfl, fun K_ hK_ => wp_of_list rfl ?_⟩
          intro ops_
          refine p_run (l' := _) _ (x_pick true (.bool true) (.bool false) (.bool true) rfl e84 e86 rfl rfl) rfl ?_
          refine wpList_nil ?_
          exact norm_put (hK_ (.bool true) _ ⟨qv_up hV (fun _ h => Option.some.inj h), hE⟩)
        · have h87 : a_.tmps[87]? = some (.bool true) := (hval (5, 87) (by decide) (hon 5 (by decide))).trans (congrArg some (hV 5 _ rfl (hon 5 (by decide))))
          obtain ⟨l_, rfl⟩ := hfr
          have e87 : evl l_ (.tmp 87) = .bool true := evl_of h87
          refine ⟨_, rfl, fun K_ hK_ => wp_of_list rfl ?_⟩
          intro ops_
          refine p_run (l' := _) _ (x_move (.bool true) rfl e87) rfl ?_
          refine wpList_nil ?_
          exact norm_put (hK_ (.bool true) _ ⟨qv_up hV (fun _ h => Option.some.inj h), hE⟩)
        · have h10 : a_.tmps[10]? = some (.pointer (some ⟨g58, 0, none⟩)) := (hel 10 (by decide)).trans rfl
          have h88 : a_.tmps[88]? = some (.bool true) := (hval (6, 88) (by decide) (hon 6 (by decide))).trans (congrArg some (hV 6 _ rfl (hon 6 (by decide))))
          obtain ⟨l_, rfl⟩ := hfr
          rcases hq9 : bq_ 9 with _ | _
          · have hE0 := hE
            rw [show bq_ 31 = false from (hoff 31 (by decide))] at hE0
            rw [show bq_ 9 = false from hq9] at hE0
            simp only [cond_true, cond_false] at hE0
            have HS := hE0
            have e10 : evl l_ (.tmp 10) = .pointer (some ⟨g58, 0, none⟩) := evl_of h10
            have e88 : evl l_ (.tmp 88) = .bool true := evl_of h88
            refine ⟨_, rfl, fun K_ hK_ => wp_of_listG rfl (wanted_on (t := 88) rfl rfl rfl h88) ?_⟩
            intro ops_
            refine p_run (l' := _) _ (x_loads ((nums .u8 ((((((Dk.new 10).write i (rep a)).sync).spoil i true).spoil i true).stabP i))) 256 rfl e10 (bkCells (HS.get (.tail _ (.tail _ (.tail _ (.tail _ (.tail _ (.tail _ (.head _)))))))) 0 _ (whole _)) (by rfl) (by kernel_rfl) (by simp [nums_length, stabP_len hgd43.ok])) rfl ?_
            refine wpList_nil ?_
            exact norm_put (hK_ (.agg ((nums .u8 ((((((Dk.new 10).write i (rep a)).sync).spoil i true).spoil i true).stabP i))).toArray) _ ⟨qv_up hV (fun _ h => Option.some.inj h), hE⟩)
          · skip
            have hE0 := hE
            rw [show bq_ 31 = false from (hoff 31 (by decide))] at hE0
            rw [show bq_ 9 = true from hq9] at hE0
            simp only [cond_true, cond_false] at hE0
            obtain ⟨hv9, HS⟩ := hE0
            have e10 : evl l_ (.tmp 10) = .pointer (some ⟨g58, 0, none⟩) := evl_of h10
            have e88 : evl l_ (.tmp 88) = .bool true := evl_of h88
            refine ⟨_, rfl, fun K_ hK_ => wp_of_listG rfl (wanted_on (t := 88) rfl rfl rfl h88) ?_⟩
            intro ops_
            refine p_run (l' := _) _ (x_loads ((nums .u8 ((((((Dk.new 10).write i (rep a)).sync).spoil i true).spoil i true).stabP i))) 256 rfl e10 (bkCells (HS.get (.tail _ (.tail _ (.tail _ (.tail _ (.tail _ (.tail _ (.head _)))))))) 0 _ (whole _)) (by rfl) (by kernel_rfl) (by simp [nums_length, stabP_len hgd43.ok])) rfl ?_
            refine wpList_nil ?_
            exact norm_put (hK_ (.agg ((nums .u8 ((((((Dk.new 10).write i (rep a)).sync).spoil i true).spoil i true).stabP i))).toArray) _ ⟨qv_up hV (fun _ h => Option.some.inj h), hE⟩)
        · have h1 : a_.tmps[1]? = some (.int .u8 a) := (hel 1 (by decide)).trans rfl
          have h88 : a_.tmps[88]? = some (.bool true) := (hval (6, 88) (by decide) (hon 6 (by decide))).trans (congrArg some (hV 6 _ rfl (hon 6 (by decide))))
          obtain ⟨l_, rfl⟩ := hfr
          have e1 : evl l_ (.tmp 1) = .int .u8 a := evl_of h1
          have e88 : evl l_ (.tmp 88) = .bool true := evl_of h88
          refine ⟨_, rfl, fun K_ hK_ => wp_of_listG rfl (wanted_on (t := 88) rfl rfl rfl h88) ?_⟩
          intro ops_
          refine p_run (l' := _) _ (x_move (.int .u8 a) rfl e1) rfl ?_
          refine wpList_nil ?_
          exact norm_put (hK_ (.int .u8 a) _ ⟨qv_up hV (fun _ h => Option.some.inj h), hE⟩)
        · have h88 : a_.tmps[88]? = some (.bool true) := (hval (6, 88) (by decide) (hon 6 (by decide))).trans (congrArg some (hV 6 _ rfl (hon 6 (by decide))))
          have h90 : a_.tmps[90]? = some (.int .u8 a) := (hval (8, 90) (by decide) (hon 8 (by decide))).trans (congrArg some (hV 8 _ rfl (hon 8 (by decide))))
          obtain ⟨l_, rfl⟩ := hfr
          have hE0 := hE
          rw [show bq_ 31 = false from (hoff 31 (by decide))] at hE0
          rw [show bq_ 9 = false from hb_] at hE0
          simp only [cond_true, cond_false] at hE0
          have HS := hE0
          have e88 : evl l_ (.tmp 88) = .bool true := evl_of h88
          have e90 : evl l_ (.tmp 90) = .int .u8 a := evl_of h90
          refine ⟨_, rfl, fun K_ hK_ => wp_of_listG rfl (wanted_on (t := 88) rfl rfl rfl h88) ?_⟩
          intro ops_
          refine w_call [.int .u8 a] Try.func14 (by kernel_rfl) (by rfl) (by simp [e90]) ?_
          refine (full_any HS a).mono ?_
          clear HS
          rintro e w9901 ⟨rfl, HS⟩
          refine ⟨_, rfl, ?_⟩
          refine wpList_nil ?_
          refine norm_put (hK_ (.agg ((nums .u8 (rep a))).toArray) _ ⟨qv_up hV (by intro _ h; cases h), ?_⟩)
          show cond (bq_ 31) _ _
          rw [show bq_ 31 = false from hoff 31 (by decide), cond_false]
          show cond true _ _
          rw [cond_true]
          exact ⟨rfl, ((((((((HS.front 7 rfl).front 7 rfl).front 7 rfl).front 7 rfl).front 7 rfl).front 7 rfl).front 7 rfl).front 7 rfl)⟩
        · have h88 : a_.tmps[88]? = some (.bool true) := (hval (6, 88) (by decide) (hon 6 (by decide))).trans (congrArg some (hV 6 _ rfl (hon 6 (by decide))))
          have h89 : a_.tmps[89]? = some (.agg ((nums .u8 ((((((Dk.new 10).write i (rep a)).sync).spoil i true).spoil i true).stabP i))).toArray) := (hval (7, 89) (by decide) (hon 7 (by decide))).trans (congrArg some (hV 7 _ rfl (hon 7 (by decide))))
          have h91 := hval (9, 91) (by decide) (hon 9 (by decide))
          obtain ⟨l_, rfl⟩ := hfr
          have hE0 := hE
          rw [show bq_ 31 = false from (hoff 31 (by decide))] at hE0
          rw [show bq_ 9 = true from (hon 9 (by decide))] at hE0
          simp only [cond_true, cond_false] at hE0
          obtain ⟨hv9, HS⟩ := hE0
          rw [hv9] at h91
          have e88 : evl l_ (.tmp 88) = .bool true := evl_of h88
          have e89 : evl l_ (.tmp 89) = .agg ((nums .u8 ((((((Dk.new 10).write i (rep a)).sync).spoil i true).spoil i true).stabP i))).toArray := evl_of h89
          have e91 : evl l_ (.tmp 91) = .agg ((nums .u8 (rep a))).toArray := evl_of h91
          refine ⟨_, rfl, fun K_ hK_ => wp_of_listG rfl (wanted_on (t := 88) rfl rfl rfl h88) ?_⟩
          intro ops_
          refine p_run (l' := _) _ (x_eq .eql (.agg ((nums .u8 ((((((Dk.new 10).write i (rep a)).sync).spoil i true).spoil i true).stabP i))).toArray) (.agg ((nums .u8 (rep a))).toArray) (decide (((((((Dk.new 10).write i (rep a)).sync).spoil i true).spoil i true).stabP i) = (rep a))) true rfl e89 e91 (equal_nums Try.underlying31 Try.underlying5 (by kernel_rfl) (by kernel_rfl) _ _ (by simp [stabP_len hgd43.ok]) (by simp [rep_len])) (by unfold eqB; rw [G1 hi, G2 hi, G2 hi, G_at hi]; simp) rfl (guard_agg (by kernel_rfl)) (guard_agg (by kernel_rfl))) rfl ?_
          refine wpList_nil ?_
          exact norm_put (hK_ (.bool true) _ ⟨qv_up hV (fun _ h => Option.some.inj h), hE⟩)
        · have h88 : a_.tmps[88]? = some (.bool true) := (hval (6, 88) (by decide) (hon 6 (by decide))).trans (congrArg some (hV 6 _ rfl (hon 6 (by decide))))
          have h92 : a_.tmps[92]? = some (.bool true) := (hval (10, 92) (by decide) (hon 10 (by decide))).trans (congrArg some (hV 10 _ rfl (hon 10 (by decide))))
          obtain ⟨l_, rfl⟩ := hfr
          have e88 : evl l_ (.tmp 88) = .bool true := evl_of h88
          have e92 : evl l_ (.tmp 92) = .bool true := evl_of h92
          refine ⟨_, rfl, fun K_ hK_ => wp_of_list rfl ?_⟩
          intro ops_
          refine p_run (l' := _) _ (x_pick true (.bool true) (.bool false) (.bool true) rfl e88 e92 rfl rfl) rfl ?_
          refine wpList_nil ?_
          exact norm_put (hK_ (.bool true) _ ⟨qv_up hV (fun _ h => Option.some.inj h), hE⟩)
        · have h93 : a_.tmps[93]? = some (.bool true) := (hval (11, 93) (by decide) (hon 11 (by decide))).trans (congrArg some (hV 11 _ rfl (hon 11 (by decide))))
          obtain ⟨l_, rfl⟩ := hfr
          have e93 : evl l_ (.tmp 93) = .bool true := evl_of h93
          refine ⟨_, rfl, fun K_ hK_ => wp_of_list rfl ?_⟩
          intro ops_
          refine p_run (l' := _) _ (x_move (.bool true) rfl e93) rfl ?_
          refine wpList_nil ?_
          exact norm_put (hK_ (.bool true) _ ⟨qv_up hV (fun _ h => Option.some.inj h), hE⟩)
        · have h12 : a_.tmps[12]? = some (.int .i64 ((((((Dk.new 10).write i (rep a)).sync).spoil i true).spoil i true).writeE i)) := (hel 12 (by decide)).trans rfl
          have h94 : a_.tmps[94]? = some (.bool true) := (hval (12, 94) (by decide) (hon 12 (by decide))).trans (congrArg some (hV 12 _ rfl (hon 12 (by decide))))
          obtain ⟨l_, rfl⟩ := hfr
          have e12 : evl l_ (.tmp 12) = .int .i64 ((((((Dk.new 10).write i (rep a)).sync).spoil i true).spoil i true).writeE i) := evl_of h12
          have e94 : evl l_ (.tmp 94) = .bool true := evl_of h94
          refine ⟨_, rfl, fun K_ hK_ => wp_of_listG rfl (wanted_on (t := 94) rfl rfl rfl h94) ?_⟩
          intro ops_
          refine p_run (l' := _) _ (x_move (.int .i64 ((((((Dk.new 10).write i (rep a)).sync).spoil i true).spoil i true).writeE i)) rfl e12) rfl ?_
          refine wpList_nil ?_
          exact norm_put (hK_ (.int .i64 ((((((Dk.new 10).write i (rep a)).sync).spoil i true).spoil i true).writeE i)) _ ⟨qv_up hV (fun _ h => Option.some.inj h), hE⟩)
        · have h94 : a_.tmps[94]? = some (.bool true) := (hval (12, 94) (by decide) (hon 12 (by decide))).trans (congrArg some (hV 12 _ rfl (hon 12 (by decide))))
          have h95 : a_.tmps[95]? = some (.int .i64 ((((((Dk.new 10).write i (rep a)).sync).spoil i true).spoil i true).writeE i)) := (hval (13, 95) (by decide) (hon 13 (by decide))).trans (congrArg some (hV 13 _ rfl (hon 13 (by decide))))
          obtain ⟨l_, rfl⟩ := hfr
          have e94 : evl l_ (.tmp 94) = .bool true := evl_of h94
          have e95 : evl l_ (.tmp 95) = .int .i64 ((((((Dk.new 10).write i (rep a)).sync).spoil i true).spoil i true).writeE i) := evl_of h95
          refine ⟨_, rfl, fun K_ hK_ => wp_of_listG rfl (wanted_on (t := 94) rfl rfl rfl h94) ?_⟩
          intro ops_
          refine p_run (l' := _) _ (x_cmp (k := .i64) (m := ((((((Dk.new 10).write i (rep a)).sync).spoil i true).spoil i true).writeE i)) (n := 0) .eql true rfl e95 rfl (by unfold cmpB; rw [G1 hi, G2 hi, G2 hi, fre_writeE (G_free _ _ _ _ _) (G_there hi _ _ _ _)]; rfl) rfl) rfl ?_
          refine wpList_nil ?_
          exact norm_put (hK_ (.bool true) _ ⟨qv_up hV (fun _ h => Option.some.inj h), hE⟩)
        · have h94 : a_.tmps[94]? = some (.bool true) := (hval (12, 94) (by decide) (hon 12 (by decide))).trans (congrArg some (hV 12 _ rfl (hon 12 (by decide))))
          have h96 : a_.tmps[96]? = some (.bool true) := (hval (14, 96) (by decide) (hon 14 (by decide))).trans (congrArg some (hV 14 _ rfl (hon 14 (by decide))))
          obtain ⟨l_, rfl⟩ := hfr
          have e94 : evl l_ (.tmp 94) = .bool true := evl_of h94
          have e96 : evl l_ (.tmp 96) = .bool true := evl_of h96
          refine ⟨_, rfl, fun K_ hK_ => wp_of_list rfl ?_⟩
          intro ops_
          refine p_run (l' := _) _ (x_pick true (.bool true) (.bool false) (.bool true) rfl e94 e96 rfl rfl) rfl ?_
          refine wpList_nil ?_
          exact norm_put (hK_ (.bool true) _ ⟨qv_up hV (fun _ h => Option.some.inj h), hE⟩)
        · have h97 : a_.tmps[97]? = some (.bool true) := (hval (15, 97) (by decide) (hon 15 (by decide))).trans (congrArg some (hV 15 _ rfl (hon 15 (by decide))))
          obtain ⟨l_, rfl⟩ := hfr
          have e97 : evl l_ (.tmp 97) = .bool true := evl_of h97
          refine ⟨_, rfl, fun K_ hK_ => wp_of_list rfl ?_⟩
          intro ops_
          refine p_run (l' := _) _ (x_move (.bool true) rfl e97) rfl ?_
          refine wpList_nil ?_
          exact norm_put (hK_ (.bool true) _ ⟨qv_up hV (fun _ h => Option.some.inj h), hE⟩)
        · have h14 : a_.tmps[14]? = some (.int .i64 (((((((Dk.new 10).write i (rep a)).sync).spoil i true).spoil i true).write i (rep b)).readE i)) := (hel 14 (by decide)).trans rfl
          have h98 : a_.tmps[98]? = some (.bool true) := (hval (16, 98) (by decide) (hon 16 (by decide))).trans (congrArg some (hV 16 _ rfl (hon 16 (by decide))))
          obtain ⟨l_, rfl⟩ := hfr
          have e14 : evl l_ (.tmp 14) = .int .i64 (((((((Dk.new 10).write i (rep a)).sync).spoil i true).spoil i true).write i (rep b)).readE i) := evl_of h14
          have e98 : evl l_ (.tmp 98) = .bool true := evl_of h98
          refine ⟨_, rfl, fun K_ hK_ => wp_of_listG rfl (wanted_on (t := 98) rfl rfl rfl h98) ?_⟩
          intro ops_
          refine p_run (l' := _) _ (x_move (.int .i64 (((((((Dk.new 10).write i (rep a)).sync).spoil i true).spoil i true).write i (rep b)).readE i)) rfl e14) rfl ?_
          refine wpList_nil ?_
          exact norm_put (hK_ (.int .i64 (((((((Dk.new 10).write i (rep a)).sync).spoil i true).spoil i true).write i (rep b)).readE i)) _ ⟨qv_up hV (fun _ h => Option.some.inj h), hE⟩)
        · have h98 : a_.tmps[98]? = some (.bool true) := (hval (16, 98) (by decide) (hon 16 (by decide))).trans (congrArg some (hV 16 _ rfl (hon 16 (by decide))))
          have h99 : a_.tmps[99]? = some (.int .i64 (((((((Dk.new 10).write i (rep a)).sync).spoil i true).spoil i true).write i (rep b)).readE i)) := (hval (17, 99) (by decide) (hon 17 (by decide))).trans (congrArg some (hV 17 _ rfl (hon 17 (by decide))))
          obtain ⟨l_, rfl⟩ := hfr
          have e98 : evl l_ (.tmp 98) = .bool true := evl_of h98
          have e99 : evl l_ (.tmp 99) = .int .i64 (((((((Dk.new 10).write i (rep a)).sync).spoil i true).spoil i true).write i (rep b)).readE i) := evl_of h99
          refine ⟨_, rfl, fun K_ hK_ => wp_of_listG rfl (wanted_on (t := 98) rfl rfl rfl h98) ?_⟩
          intro ops_
          refine p_run (l' := _) _ (x_cmp (k := .i64) (m := (((((((Dk.new 10).write i (rep a)).sync).spoil i true).spoil i true).write i (rep b)).readE i)) (n := 43) .eql true rfl e99 rfl (by unfold cmpB; rw [G1 hi, G2 hi, G2 hi, G3 hi, G_bad hi _ _ _ _ (by rw [put_same, put_same]; decide)]; rfl) rfl) rfl ?_
          refine wpList_nil ?_
          exact norm_put (hK_ (.bool true) _ ⟨qv_up hV (fun _ h => Option.some.inj h), hE⟩)
        · have h98 : a_.tmps[98]? = some (.bool true) := (hval (16, 98) (by decide) (hon 16 (by decide))).trans (congrArg some (hV 16 _ rfl (hon 16 (by decide))))
          have h100 : a_.tmps[100]? = some (.bool true) := (hval (18, 100) (by decide) (hon 18 (by decide))).trans (congrArg some (hV 18 _ rfl (hon 18 (by decide))))
          obtain ⟨l_, rfl⟩ := hfr
          have e98 : evl l_ (.tmp 98) = .bool true := evl_of h98
          have e100 : evl l_ (.tmp 100) = .bool true := evl_of h100
          refine ⟨_, rfl, fun K_ hK_ => wp_of_list rfl ?_⟩
          intro ops_
          refine p_run (l' := _) _ (x_pick true (.bool true) (.bool false) (.bool true) rfl e98 e100 rfl rfl) rfl ?_
          refine wpList_nil ?_
          exact norm_put (hK_ (.bool true) _ ⟨qv_up hV (fun _ h => Option.some.inj h), hE⟩)
        · have h101 : a_.tmps[101]? = some (.bool true) := (hval (19, 101) (by decide) (hon 19 (by decide))).trans (congrArg some (hV 19 _ rfl (hon 19 (by decide))))
          obtain ⟨l_, rfl⟩ := hfr
          have e101 : evl l_ (.tmp 101) = .bool true := evl_of h101
          refine ⟨_, rfl, fun K_ hK_ => wp_of_list rfl ?_⟩
          intro ops_
          refine p_run (l' := _) _ (x_move (.bool true) rfl e101) rfl ?_
          refine wpList_nil ?_
          exact norm_put (hK_ (.bool true) _ ⟨qv_up hV (fun _ h => Option.some.inj h), hE⟩)
        · have h15 : a_.tmps[15]? = some (.int .i64 (((((((Dk.new 10).write i (rep a)).sync).spoil i true).spoil i true).write i (rep b)).pageE i)) := (hel 15 (by decide)).trans rfl
          have h102 : a_.tmps[102]? = some (.bool true) := (hval (20, 102) (by decide) (hon 20 (by decide))).trans (congrArg some (hV 20 _ rfl (hon 20 (by decide))))
          obtain ⟨l_, rfl⟩ := hfr
          have e15 : evl l_ (.tmp 15) = .int .i64 (((((((Dk.new 10).write i (rep a)).sync).spoil i true).spoil i true).write i (rep b)).pageE i) := evl_of h15
          have e102 : evl l_ (.tmp 102) = .bool true := evl_of h102
          refine ⟨_, rfl, fun K_ hK_ => wp_of_listG rfl (wanted_on (t := 102) rfl rfl rfl h102) ?_⟩
          intro ops_
          refine p_run (l' := _) _ (x_move (.int .i64 (((((((Dk.new 10).write i (rep a)).sync).spoil i true).spoil i true).write i (rep b)).pageE i)) rfl e15) rfl ?_
          refine wpList_nil ?_
          exact norm_put (hK_ (.int .i64 (((((((Dk.new 10).write i (rep a)).sync).spoil i true).spoil i true).write i (rep b)).pageE i)) _ ⟨qv_up hV (fun _ h => Option.some.inj h), hE⟩)
        · have h102 : a_.tmps[102]? = some (.bool true) := (hval (20, 102) (by decide) (hon 20 (by decide))).trans (congrArg some (hV 20 _ rfl (hon 20 (by decide))))
          have h103 : a_.tmps[103]? = some (.int .i64 (((((((Dk.new 10).write i (rep a)).sync).spoil i true).spoil i true).write i (rep b)).pageE i)) := (hval (21, 103) (by decide) (hon 21 (by decide))).trans (congrArg some (hV 21 _ rfl (hon 21 (by decide))))
          obtain ⟨l_, rfl⟩ := hfr
          have e102 : evl l_ (.tmp 102) = .bool true := evl_of h102
          have e103 : evl l_ (.tmp 103) = .int .i64 (((((((Dk.new 10).write i (rep a)).sync).spoil i true).spoil i true).write i (rep b)).pageE i) := evl_of h103
          refine ⟨_, rfl, fun K_ hK_ => wp_of_listG rfl (wanted_on (t := 102) rfl rfl rfl h102) ?_⟩
          intro ops_
          refine p_run (l' := _) _ (x_cmp (k := .i64) (m := (((((((Dk.new 10).write i (rep a)).sync).spoil i true).spoil i true).write i (rep b)).pageE i)) (n := 0) .eql true rfl e103 rfl (by unfold cmpB; rw [G1 hi, G2 hi, G2 hi, G3 hi, G_E hi]; rfl) rfl) rfl ?_
          refine wpList_nil ?_
          exact norm_put (hK_ (.bool true) _ ⟨qv_up hV (fun _ h => Option.some.inj h), hE⟩)
        · have h102 : a_.tmps[102]? = some (.bool true) := (hval (20, 102) (by decide) (hon 20 (by decide))).trans (congrArg some (hV 20 _ rfl (hon 20 (by decide))))
          have h104 : a_.tmps[104]? = some (.bool true) := (hval (22, 104) (by decide) (hon 22 (by decide))).trans (congrArg some (hV 22 _ rfl (hon 22 (by decide))))
          obtain ⟨l_, rfl⟩ := hfr
          have e102 : evl l_ (.tmp 102) = .bool true := evl_of h102
          have e104 : evl l_ (.tmp 104) = .bool true := evl_of h104
          refine ⟨_, rfl, fun K_ hK_ => wp_of_list rfl ?_⟩
          intro ops_
          refine p_run (l' := _) _ (x_pick true (.bool true) (.bool false) (.bool true) rfl e102 e104 rfl rfl) rfl ?_
          refine wpList_nil ?_
          exact norm_put (hK_ (.bool true) _ ⟨qv_up hV (fun _ h => Option.some.inj h), hE⟩)
        · have h105 : a_.tmps[105]? = some (.bool true) := (hval (23, 105) (by decide) (hon 23 (by decide))).trans (congrArg some (hV 23 _ rfl (hon 23 (by decide))))
          obtain ⟨l_, rfl⟩ := hfr
          have e105 : evl l_ (.tmp 105) = .bool true := evl_of h105
          refine ⟨_, rfl, fun K_ hK_ => wp_of_list rfl ?_⟩
          intro ops_
          refine p_run (l' := _) _ (x_move (.bool true) rfl e105) rfl ?_
          refine wpList_nil ?_
          exact norm_put (hK_ (.bool true) _ ⟨qv_up hV (fun _ h => Option.some.inj h), hE⟩)
        · have h17 : a_.tmps[17]? = some (.int .i64 ((((((((Dk.new 10).write i (rep a)).sync).spoil i true).spoil i true).write i (rep b)).spoil i false).readE i)) := (hel 17 (by decide)).trans rfl
          have h106 : a_.tmps[106]? = some (.bool true) := (hval (24, 106) (by decide) (hon 24 (by decide))).trans (congrArg some (hV 24 _ rfl (hon 24 (by decide))))
          obtain ⟨l_, rfl⟩ := hfr
          have e17 : evl l_ (.tmp 17) = .int .i64 ((((((((Dk.new 10).write i (rep a)).sync).spoil i true).spoil i true).write i (rep b)).spoil i false).readE i) := evl_of h17
          have e106 : evl l_ (.tmp 106) = .bool true := evl_of h106
          refine ⟨_, rfl, fun K_ hK_ => wp_of_listG rfl (wanted_on (t := 106) rfl rfl rfl h106) ?_⟩
          intro ops_
          refine p_run (l' := _) _ (x_move (.int .i64 ((((((((Dk.new 10).write i (rep a)).sync).spoil i true).spoil i true).write i (rep b)).spoil i false).readE i)) rfl e17) rfl ?_
          refine wpList_nil ?_
          exact norm_put (hK_ (.int .i64 ((((((((Dk.new 10).write i (rep a)).sync).spoil i true).spoil i true).write i (rep b)).spoil i false).readE i)) _ ⟨qv_up hV (fun _ h => Option.some.inj h), hE⟩)
        · have h106 : a_.tmps[106]? = some (.bool true) := (hval (24, 106) (by decide) (hon 24 (by decide))).trans (congrArg some (hV 24 _ rfl (hon 24 (by decide))))
          have h107 : a_.tmps[107]? = some (.int .i64 ((((((((Dk.new 10).write i (rep a)).sync).spoil i true).spoil i true).write i (rep b)).spoil i false).readE i)) := (hval (25, 107) (by decide) (hon 25 (by decide))).trans (congrArg some (hV 25 _ rfl (hon 25 (by decide))))
          obtain ⟨l_, rfl⟩ := hfr
          have e106 : evl l_ (.tmp 106) = .bool true := evl_of h106
          have e107 : evl l_ (.tmp 107) = .int .i64 ((((((((Dk.new 10).write i (rep a)).sync).spoil i true).spoil i true).write i (rep b)).spoil i false).readE i) := evl_of h107
          refine ⟨_, rfl, fun K_ hK_ => wp_of_listG rfl (wanted_on (t := 106) rfl rfl rfl h106) ?_⟩
          intro ops_
          refine p_run (l' := _) _ (x_cmp (k := .i64) (m := ((((((((Dk.new 10).write i (rep a)).sync).spoil i true).spoil i true).write i (rep b)).spoil i false).readE i)) (n := 0) .eql true rfl e107 rfl (by unfold cmpB; rw [G1 hi, G2 hi, G2 hi, G3 hi, G4 hi, List.nil_append, (G_good hi _ _ _ _ (put_same _ _ _)).2]; rfl) rfl) rfl ?_
          refine wpList_nil ?_
          exact norm_put (hK_ (.bool true) _ ⟨qv_up hV (fun _ h => Option.some.inj h), hE⟩)
        · have h106 : a_.tmps[106]? = some (.bool true) := (hval (24, 106) (by decide) (hon 24 (by decide))).trans (congrArg some (hV 24 _ rfl (hon 24 (by decide))))
          have h108 : a_.tmps[108]? = some (.bool true) := (hval (26, 108) (by decide) (hon 26 (by decide))).trans (congrArg some (hV 26 _ rfl (hon 26 (by decide))))
          obtain ⟨l_, rfl⟩ := hfr
          have e106 : evl l_ (.tmp 106) = .bool true := evl_of h106
          have e108 : evl l_ (.tmp 108) = .bool true := evl_of h108
          refine ⟨_, rfl, fun K_ hK_ => wp_of_list rfl ?_⟩
          intro ops_
          refine p_run (l' := _) _ (x_pick true (.bool true) (.bool false) (.bool true) rfl e106 e108 rfl rfl) rfl ?_
          refine wpList_nil ?_
          exact norm_put (hK_ (.bool true) _ ⟨qv_up hV (fun _ h => Option.some.inj h), hE⟩)
        · have h109 : a_.tmps[109]? = some (.bool true) := (hval (27, 109) (by decide) (hon 27 (by decide))).trans (congrArg some (hV 27 _ rfl (hon 27 (by decide))))
          obtain ⟨l_, rfl⟩ := hfr
          have e109 : evl l_ (.tmp 109) = .bool true := evl_of h109
          refine ⟨_, rfl, fun K_ hK_ => wp_of_list rfl ?_⟩
          intro ops_
          refine p_run (l' := _) _ (x_move (.bool true) rfl e109) rfl ?_
          refine wpList_nil ?_
          exact norm_put (hK_ (.bool true) _ ⟨qv_up hV (fun _ h => Option.some.inj h), hE⟩)
        · have h16 : a_.tmps[16]? = some (.pointer (some ⟨g90, 0, none⟩)) := (hel 16 (by decide)).trans rfl
          have h110 : a_.tmps[110]? = some (.bool true) := (hval (28, 110) (by decide) (hon 28 (by decide))).trans (congrArg some (hV 28 _ rfl (hon 28 (by decide))))
          obtain ⟨l_, rfl⟩ := hfr
          rcases hq31 : bq_ 31 with _ | _
          · have hE0 := hE
            rw [show bq_ 31 = false from hq31] at hE0
            rw [show bq_ 9 = true from (hon 9 (by decide))] at hE0
            simp only [cond_true, cond_false] at hE0
            obtain ⟨hv9, HS⟩ := hE0
            have e16 : evl l_ (.tmp 16) = .pointer (some ⟨g90, 0, none⟩) := evl_of h16
            have e110 : evl l_ (.tmp 110) = .bool true := evl_of h110
            refine ⟨_, rfl, fun K_ hK_ => wp_of_listG rfl (wanted_on (t := 110) rfl rfl rfl h110) ?_⟩
            intro ops_
            refine p_run (l' := _) _ (x_loads ((nums .u8 ((((((((Dk.new 10).write i (rep a)).sync).spoil i true).spoil i true).write i (rep b)).spoil i false).readP i))) 256 rfl e16 (bkCells (HS.get (.head _)) 0 _ (whole _)) (by rfl) (by kernel_rfl) (by simp [nums_length, readP_len hgd84.ok])) rfl ?_
            refine wpList_nil ?_
            exact norm_put (hK_ (.agg ((nums .u8 ((((((((Dk.new 10).write i (rep a)).sync).spoil i true).spoil i true).write i (rep b)).spoil i false).readP i))).toArray) _ ⟨qv_up hV (fun _ h => Option.some.inj h), hE⟩)
          · skip
            have hE0 := hE
            rw [show bq_ 31 = true from hq31] at hE0
            simp only [cond_true, cond_false] at hE0
            obtain ⟨hv9, hv31, HS⟩ := hE0
            have e16 : evl l_ (.tmp 16) = .pointer (some ⟨g90, 0, none⟩) := evl_of h16
            have e110 : evl l_ (.tmp 110) = .bool true := evl_of h110
            refine ⟨_, rfl, fun K_ hK_ => wp_of_listG rfl (wanted_on (t := 110) rfl rfl rfl h110) ?_⟩
            intro ops_
            refine p_run (l' := _) _ (x_loads ((nums .u8 ((((((((Dk.new 10).write i (rep a)).sync).spoil i true).spoil i true).write i (rep b)).spoil i false).readP i))) 256 rfl e16 (bkCells (HS.get (.head _)) 0 _ (whole _)) (by rfl) (by kernel_rfl) (by simp [nums_length, readP_len hgd84.ok])) rfl ?_
            refine wpList_nil ?_
            exact norm_put (hK_ (.agg ((nums .u8 ((((((((Dk.new 10).write i (rep a)).sync).spoil i true).spoil i true).write i (rep b)).spoil i false).readP i))).toArray) _ ⟨qv_up hV (fun _ h => Option.some.inj h), hE⟩)
        · have h2 : a_.tmps[2]? = some (.int .u8 b) := (hel 2 (by decide)).trans rfl
          have h110 : a_.tmps[110]? = some (.bool true) := (hval (28, 110) (by decide) (hon 28 (by decide))).trans (congrArg some (hV 28 _ rfl (hon 28 (by decide))))
          obtain ⟨l_, rfl⟩ := hfr
          have e2 : evl l_ (.tmp 2) = .int .u8 b := evl_of h2
          have e110 : evl l_ (.tmp 110) = .bool true := evl_of h110
          refine ⟨_, rfl, fun K_ hK_ => wp_of_listG rfl (wanted_on (t := 110) rfl rfl rfl h110) ?_⟩
          intro ops_
          refine p_run (l' := _) _ (x_move (.int .u8 b) rfl e2) rfl ?_
          refine wpList_nil ?_
          exact norm_put (hK_ (.int .u8 b) _ ⟨qv_up hV (fun _ h => Option.some.inj h), hE⟩)
        · have h110 : a_.tmps[110]? = some (.bool true) := (hval (28, 110) (by decide) (hon 28 (by decide))).trans (congrArg some (hV 28 _ rfl (hon 28 (by decide))))
          have h112 : a_.tmps[112]? = some (.int .u8 b) := (hval (30, 112) (by decide) (hon 30 (by decide))).trans (congrArg some (hV 30 _ rfl (hon 30 (by decide))))
          obtain ⟨l_, rfl⟩ := hfr
          have hE0 := hE
          rw [show bq_ 31 = false from hb_] at hE0
          rw [show bq_ 9 = true from (hon 9 (by decide))] at hE0
          simp only [cond_true, cond_false] at hE0
          obtain ⟨hv9, HS⟩ := hE0
          have e110 : evl l_ (.tmp 110) = .bool true := evl_of h110
          have e112 : evl l_ (.tmp 112) = .int .u8 b := evl_of h112
          refine ⟨_, rfl, fun K_ hK_ => wp_of_listG rfl (wanted_on (t := 110) rfl rfl rfl h110) ?_⟩
          intro ops_
          refine w_call [.int .u8 b] Try.func14 (by kernel_rfl) (by rfl) (by simp [e112]) ?_
          refine (full_any HS b).mono ?_
          clear HS
          rintro e w12101 ⟨rfl, HS⟩
          refine ⟨_, rfl, ?_⟩
          refine wpList_nil ?_
          refine norm_put (hK_ (.agg ((nums .u8 (rep b))).toArray) _ ⟨qv_up hV (by intro _ h; cases h), ?_⟩)
          show cond true _ _
          rw [cond_true]
          exact ⟨hv9, rfl, ((((((((HS.front 7 rfl).front 7 rfl).front 7 rfl).front 7 rfl).front 7 rfl).front 7 rfl).front 7 rfl).front 7 rfl)⟩
        · have h110 : a_.tmps[110]? = some (.bool true) := (hval (28, 110) (by decide) (hon 28 (by decide))).trans (congrArg some (hV 28 _ rfl (hon 28 (by decide))))
          have h111 : a_.tmps[111]? = some (.agg ((nums .u8 ((((((((Dk.new 10).write i (rep a)).sync).spoil i true).spoil i true).write i (rep b)).spoil i false).readP i))).toArray) := (hval (29, 111) (by decide) (hon 29 (by decide))).trans (congrArg some (hV 29 _ rfl (hon 29 (by decide))))
          have h113 := hval (31, 113) (by decide) (hon 31 (by decide))
          obtain ⟨l_, rfl⟩ := hfr
          have hE0 := hE
          rw [show bq_ 31 = true from (hon 31 (by decide))] at hE0
          simp only [cond_true, cond_false] at hE0
          obtain ⟨hv9, hv31, HS⟩ := hE0
          rw [hv31] at h113
          have e110 : evl l_ (.tmp 110) = .bool true := evl_of h110
          have e111 : evl l_ (.tmp 111) = .agg ((nums .u8 ((((((((Dk.new 10).write i (rep a)).sync).spoil i true).spoil i true).write i (rep b)).spoil i false).readP i))).toArray := evl_of h111
          have e113 : evl l_ (.tmp 113) = .agg ((nums .u8 (rep b))).toArray := evl_of h113
          refine ⟨_, rfl, fun K_ hK_ => wp_of_listG rfl (wanted_on (t := 110) rfl rfl rfl h110) ?_⟩
          intro ops_
          refine p_run (l' := _) _ (x_eq .eql (.agg ((nums .u8 ((((((((Dk.new 10).write i (rep a)).sync).spoil i true).spoil i true).write i (rep b)).spoil i false).readP i))).toArray) (.agg ((nums .u8 (rep b))).toArray) (decide (((((((((Dk.new 10).write i (rep a)).sync).spoil i true).spoil i true).write i (rep b)).spoil i false).readP i) = (rep b))) true rfl e111 e113 (equal_nums Try.underlying31 Try.underlying5 (by kernel_rfl) (by kernel_rfl) _ _ (by simp [readP_len hgd84.ok]) (by simp [rep_len])) (by unfold eqB; rw [G1 hi, G2 hi, G2 hi, G3 hi, G4 hi, List.nil_append, (G_good hi _ _ _ _ (put_same _ _ _)).1]; simp) rfl (guard_agg (by kernel_rfl)) (guard_agg (by kernel_rfl))) rfl ?_
          refine wpList_nil ?_
          exact norm_put (hK_ (.bool true) _ ⟨qv_up hV (fun _ h => Option.some.inj h), hE⟩)
        · have h110 : a_.tmps[110]? = some (.bool true) := (hval (28, 110) (by decide) (hon 28 (by decide))).trans (congrArg some (hV 28 _ rfl (hon 28 (by decide))))
          have h114 : a_.tmps[114]? = some (.bool true) := (hval (32, 114) (by decide) (hon 32 (by decide))).trans (congrArg some (hV 32 _ rfl (hon 32 (by decide))))
          obtain ⟨l_, rfl⟩ := hfr
          have e110 : evl l_ (.tmp 110) = .bool true := evl_of h110
          have e114 : evl l_ (.tmp 114) = .bool true := evl_of h114
          refine ⟨_, rfl, fun K_ hK_ => wp_of_list rfl ?_⟩
          intro ops_
          refine p_run (l' := _) _ (x_pick true (.bool true) (.bool false) (.bool true) rfl e110 e114 rfl rfl) rfl ?_
          refine wpList_nil ?_
          exact norm_put (hK_ (.bool true) _ ⟨qv_up hV (fun _ h => Option.some.inj h), hE⟩)
        · have h115 : a_.tmps[115]? = some (.bool true) := (hval (33, 115) (by decide) (hon 33 (by decide))).trans (congrArg some (hV 33 _ rfl (hon 33 (by decide))))
          obtain ⟨l_, rfl⟩ := hfr
          have e115 : evl l_ (.tmp 115) = .bool true := evl_of h115
          refine ⟨_, rfl, fun K_ hK_ => wp_of_list rfl ?_⟩
          intro ops_
          refine p_run (l' := _) _ (x_assign (.bool true) rfl e115) rfl ?_
          refine wpList_nil ?_
          exact norm_put (hK_ (.bool true) _ ⟨qv_up hV (fun _ h => Option.some.inj h), hE⟩)
      intro bq_ vq_ w_ hall hG
      obtain ⟨hV, hE⟩ := hG
      clear HS
      rw [show bq_ 31 = true from hall 31 (by decide)] at hE
      simp only [cond_true] at hE
      obtain ⟨hv9, hv31, HS⟩ := hE
      have hv0 := hV 0 _ rfl (hall 0 (by decide))
      have hv1 := hV 1 _ rfl (hall 1 (by decide))
      have hv2 := hV 2 _ rfl (hall 2 (by decide))
      have hv3 := hV 3 _ rfl (hall 3 (by decide))
      have hv4 := hV 4 _ rfl (hall 4 (by decide))
      have hv5 := hV 5 _ rfl (hall 5 (by decide))
      have hv6 := hV 6 _ rfl (hall 6 (by decide))
      have hv7 := hV 7 _ rfl (hall 7 (by decide))
      have hv8 := hV 8 _ rfl (hall 8 (by decide))
      have hv10 := hV 10 _ rfl (hall 10 (by decide))
      have hv11 := hV 11 _ rfl (hall 11 (by decide))
      have hv12 := hV 12 _ rfl (hall 12 (by decide))
      have hv13 := hV 13 _ rfl (hall 13 (by decide))
      have hv14 := hV 14 _ rfl (hall 14 (by decide))
      have hv15 := hV 15 _ rfl (hall 15 (by decide))
      have hv16 := hV 16 _ rfl (hall 16 (by decide))
      have hv17 := hV 17 _ rfl (hall 17 (by decide))
      have hv18 := hV 18 _ rfl (hall 18 (by decide))
      have hv19 := hV 19 _ rfl (hall 19 (by decide))
      have hv20 := hV 20 _ rfl (hall 20 (by decide))
      have hv21 := hV 21 _ rfl (hall 21 (by decide))
      have hv22 := hV 22 _ rfl (hall 22 (by decide))
      have hv23 := hV 23 _ rfl (hall 23 (by decide))
      have hv24 := hV 24 _ rfl (hall 24 (by decide))
      have hv25 := hV 25 _ rfl (hall 25 (by decide))
      have hv26 := hV 26 _ rfl (hall 26 (by decide))
      have hv27 := hV 27 _ rfl (hall 27 (by decide))
      have hv28 := hV 28 _ rfl (hall 28 (by decide))
      have hv29 := hV 29 _ rfl (hall 29 (by decide))
      have hv30 := hV 30 _ rfl (hall 30 (by decide))
      have hv32 := hV 32 _ rfl (hall 32 (by decide))
      have hv33 := hV 33 _ rfl (hall 33 (by decide))
      have hv34 := hV 34 _ rfl (hall 34 (by decide))
      clear hV hall
      rw [putSel_fr]
      simp only [tells, List.map_cons, List.map_nil, setAll, List.set_cons_succ, List.set_cons_zero, hv0, hv1, hv2, hv3, hv4, hv5, hv6, hv7, hv8, hv9, hv10, hv11, hv12, hv13, hv14, hv15, hv16, hv17, hv18, hv19, hv20, hv21, hv22, hv23, hv24, hv25, hv26, hv27, hv28, hv29, hv30, hv31, hv32, hv33, hv34]
      clear hv0 hv1 hv2 hv3 hv4 hv5 hv6 hv7 hv8 hv9 hv10 hv11 hv12 hv13 hv14 hv15 hv16 hv17 hv18 hv19 hv20 hv21 hv22 hv23 hv24 hv25 hv26 hv27 hv28 hv29 hv30 hv31 hv32 hv33 hv34
      generalize w_ = w12201 at HS ⊢
      refine fr_at (l' := [.int .i64 i, .int .u8 a, .int .u8 b, undef, undef, undef, .bool true, .pointer (some ⟨D22, 0, none⟩), .pointer (some ⟨g49, 0, none⟩), .int .i64 ((((((Dk.new 10).write i (rep a)).sync).spoil i true).spoil i true).readE i), .pointer (some ⟨g58, 0, none⟩), .int .i64 ((((((Dk.new 10).write i (rep a)).sync).spoil i true).spoil i true).pageE i), .int .i64 ((((((Dk.new 10).write i (rep a)).sync).spoil i true).spoil i true).writeE i), .pointer (some ⟨g75, 0, none⟩), .int .i64 (((((((Dk.new 10).write i (rep a)).sync).spoil i true).spoil i true).write i (rep b)).readE i), .int .i64 (((((((Dk.new 10).write i (rep a)).sync).spoil i true).spoil i true).write i (rep b)).pageE i), .pointer (some ⟨g90, 0, none⟩), .int .i64 ((((((((Dk.new 10).write i (rep a)).sync).spoil i true).spoil i true).write i (rep b)).spoil i false).readE i), .bool true, .bool false, .int .i64 i, .bool false, .bool false, .int .i64 i, .bool false, .bool false, .pointer (some ⟨D22, 0, none⟩), .pointer (some ⟨D22, 0, none⟩), .int .i64 i, .int .u8 a, .agg ((nums .u8 (rep a))).toArray, .int .i64 ((Dk.new 10).writeE i), .bool false, .bool false, .pointer (some ⟨D22, 0, none⟩), .int .i64 (((Dk.new 10).write i (rep a)).actE), .bool false, .bool false, .bool false, .pointer (some ⟨D22, 0, none⟩), .int .i64 i, .int .i64 ((((Dk.new 10).write i (rep a)).sync).pageE i), .bool false, .bool false, .bool false, .pointer (some ⟨D22, 0, none⟩), .int .i64 i, .int .i64 (((((Dk.new 10).write i (rep a)).sync).spoil i true).pageE i), .bool false, .bool false, .tuple [.agg ((nums .u8 ((((((Dk.new 10).write i (rep a)).sync).spoil i true).spoil i true).readP i))).toArray, .int .i64 ((((((Dk.new 10).write i (rep a)).sync).spoil i true).spoil i true).readE i)].toArray, .pointer (some ⟨D22, 0, none⟩), .int .i64 i, .tuple [.agg ((nums .u8 ((((((Dk.new 10).write i (rep a)).sync).spoil i true).spoil i true).readP i))).toArray, .int .i64 ((((((Dk.new 10).write i (rep a)).sync).spoil i true).spoil i true).readE i)].toArray, .agg ((nums .u8 ((((((Dk.new 10).write i (rep a)).sync).spoil i true).spoil i true).readP i))).toArray, .int .i64 ((((((Dk.new 10).write i (rep a)).sync).spoil i true).spoil i true).readE i), .tuple [.agg ((nums .u8 ((((((Dk.new 10).write i (rep a)).sync).spoil i true).spoil i true).stabP i))).toArray, .int .i64 ((((((Dk.new 10).write i (rep a)).sync).spoil i true).spoil i true).pageE i)].toArray, .pointer (some ⟨D22, 0, none⟩), .int .i64 i, .tuple [.agg ((nums .u8 ((((((Dk.new 10).write i (rep a)).sync).spoil i true).spoil i true).stabP i))).toArray, .int .i64 ((((((Dk.new 10).write i (rep a)).sync).spoil i true).spoil i true).pageE i)].toArray, .agg ((nums .u8 ((((((Dk.new 10).write i (rep a)).sync).spoil i true).spoil i true).stabP i))).toArray, .int .i64 ((((((Dk.new 10).write i (rep a)).sync).spoil i true).spoil i true).pageE i), .pointer (some ⟨D22, 0, none⟩), .int .i64 i, .int .u8 b, .agg ((nums .u8 (rep b))).toArray, .int .i64 ((((((Dk.new 10).write i (rep a)).sync).spoil i true).spoil i true).writeE i), .tuple [.agg ((nums .u8 (((((((Dk.new 10).write i (rep a)).sync).spoil i true).spoil i true).write i (rep b)).readP i))).toArray, .int .i64 (((((((Dk.new 10).write i (rep a)).sync).spoil i true).spoil i true).write i (rep b)).readE i)].toArray, .pointer (some ⟨D22, 0, none⟩), .int .i64 i, .tuple [.agg ((nums .u8 (((((((Dk.new 10).write i (rep a)).sync).spoil i true).spoil i true).write i (rep b)).readP i))).toArray, .int .i64 (((((((Dk.new 10).write i (rep a)).sync).spoil i true).spoil i true).write i (rep b)).readE i)].toArray, .agg ((nums .u8 (((((((Dk.new 10).write i (rep a)).sync).spoil i true).spoil i true).write i (rep b)).readP i))).toArray, .int .i64 (((((((Dk.new 10).write i (rep a)).sync).spoil i true).spoil i true).write i (rep b)).readE i), .pointer (some ⟨D22, 0, none⟩), .int .i64 i, .int .i64 (((((((Dk.new 10).write i (rep a)).sync).spoil i true).spoil i true).write i (rep b)).pageE i), .tuple [.agg ((nums .u8 ((((((((Dk.new 10).write i (rep a)).sync).spoil i true).spoil i true).write i (rep b)).spoil i false).readP i))).toArray, .int .i64 ((((((((Dk.new 10).write i (rep a)).sync).spoil i true).spoil i true).write i (rep b)).spoil i false).readE i)].toArray, .pointer (some ⟨D22, 0, none⟩), .int .i64 i, .tuple [.agg ((nums .u8 ((((((((Dk.new 10).write i (rep a)).sync).spoil i true).spoil i true).write i (rep b)).spoil i false).readP i))).toArray, .int .i64 ((((((((Dk.new 10).write i (rep a)).sync).spoil i true).spoil i true).write i (rep b)).spoil i false).readE i)].toArray, .agg ((nums .u8 ((((((((Dk.new 10).write i (rep a)).sync).spoil i true).spoil i true).write i (rep b)).spoil i false).readP i))).toArray, .int .i64 ((((((((Dk.new 10).write i (rep a)).sync).spoil i true).spoil i true).write i (rep b)).spoil i false).readE i), .int .i64 ((((((Dk.new 10).write i (rep a)).sync).spoil i true).spoil i true).readE i), .bool true, .bool true, .int .i64 ((((((Dk.new 10).write i (rep a)).sync).spoil i true).spoil i true).pageE i), .bool true, .bool true, .bool true, .agg ((nums .u8 ((((((Dk.new 10).write i (rep a)).sync).spoil i true).spoil i true).stabP i))).toArray, .int .u8 a, .agg ((nums .u8 (rep a))).toArray, .bool true, .bool true, .bool true, .int .i64 ((((((Dk.new 10).write i (rep a)).sync).spoil i true).spoil i true).writeE i), .bool true, .bool true, .bool true, .int .i64 (((((((Dk.new 10).write i (rep a)).sync).spoil i true).spoil i true).write i (rep b)).readE i), .bool true, .bool true, .bool true, .int .i64 (((((((Dk.new 10).write i (rep a)).sync).spoil i true).spoil i true).write i (rep b)).pageE i), .bool true, .bool true, .bool true, .int .i64 ((((((((Dk.new 10).write i (rep a)).sync).spoil i true).spoil i true).write i (rep b)).spoil i false).readE i), .bool true, .bool true, .bool true, .agg ((nums .u8 ((((((((Dk.new 10).write i (rep a)).sync).spoil i true).spoil i true).write i (rep b)).spoil i false).readP i))).toArray, .int .u8 b, .agg ((nums .u8 (rep b))).toArray, .bool true, .bool true]) rfl ?_
      refine hK95 _ _ ?_
      refine wp_ret ?_
      try simp only [Exit.inBlock, Exit.then]
      refine c_ret (.bool true) (r_tmp rfl rfl) ?_
      exact ⟨rfl, HS.belowOf⟩
end Go.Proofs.Ytjholgfaipfmbaa
