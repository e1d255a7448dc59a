/- NetNames. -/
import Derived.Test.YtckfcnclekjjdaaLn1
set_option linter.unusedVariables false
set_option linter.unusedSimpArgs false
namespace Go.Proofs.Ytckfcnclekjjdaa
open Go.RowKit Go.Proofs.YtckfcnclekjjdaaW.PrintWords Go.Proofs.YtckfcnclekjjdaaW.PrintLast Crc
set_option maxRecDepth 10000 in
set_option maxHeartbeats 1000000 in
theorem names_law (w : World) : Calls Try.prog 11 #[] w fun e w' => e = .returned (.bool true) ∧ Below w.heap.size w w' := by
  have HS := St.empty w
  · skip
    refine c_enter Try.func11 rfl 39 rfl [undef, undef, undef, undef, undef, undef, undef, undef, undef, undef, undef, undef, undef, undef, undef, undef, undef, undef, undef, undef, undef, undef, undef, undef, undef, undef, undef, undef, undef, undef, undef, undef, undef, undef, undef, undef, undef, undef, undef] rfl ?_
    refine wp_seq_k (fun K1 hK2 => ?_)
    refine c_region (fun ops4 hops3 => ?_)
    clear hops3
    refine p_run (l' := _) _ (x_assign (.bool false) rfl rfl) rfl ?_
    refine wpList_nil ?_
    refine fr_at (l' := [.bool false, undef, undef, undef, undef, undef, undef, undef, undef, undef, undef, undef, undef, undef, undef, undef, undef, undef, undef, undef, undef, undef, undef, undef, undef, undef, undef, undef, undef, undef, undef, undef, undef, undef, undef, undef, undef, undef, undef]) rfl ?_
    refine hK2 _ _ ?_
    refine wp_seq_k (fun K5 hK6 => ?_)
    refine c_region (fun ops8 hops7 => ?_)
    clear hops7
    refine w_call [] Try.func22 (by kernel_rfl) (by rfl) rfl ?_
    refine (nNew_any HS).mono ?_
    clear HS
    rintro e w10 ⟨G9, rfl, HS⟩
    refine ⟨_, rfl, ?_⟩
    refine p_run (l' := _) _ (x_assign (.pointer (some ⟨G9, 0, none⟩)) rfl rfl) rfl ?_
    refine wpList_nil ?_
    refine fr_at (l' := [.bool false, .pointer (some ⟨G9, 0, none⟩), undef, undef, .pointer (some ⟨G9, 0, none⟩), undef, undef, undef, undef, undef, undef, undef, undef, undef, undef, undef, undef, undef, undef, undef, undef, undef, undef, undef, undef, undef, undef, undef, undef, undef, undef, undef, undef, undef, undef, undef, undef, undef, undef]) rfl ?_
    refine hK6 _ _ ?_
    refine wp_seq_k (fun K11 hK12 => ?_)
    refine c_region (fun ops14 hops13 => ?_)
    clear hops13
    refine p_run (l' := _) _ (x_move (.pointer (some ⟨G9, 0, none⟩)) rfl rfl) rfl ?_
    refine w_call [.pointer (some ⟨G9, 0, none⟩), .int .i64 0] Try.func24 (by kernel_rfl) (by rfl) rfl ?_
    replace HS := (((HS.front 2 rfl).front 2 rfl).front 2 rfl)
    refine (nTake_no HS 0 (by rfl)).mono ?_
    rintro e w' ⟨rfl, rfl⟩
    refine ⟨_, rfl, ?_⟩
    refine p_run (l' := _) _ (x_move (.tuple [.slice none 0 0, .int .i64 191].toArray) rfl rfl) rfl ?_
    refine p_run (l' := [.bool false, .pointer (some ⟨G9, 0, none⟩), undef, undef, .pointer (some ⟨G9, 0, none⟩), .tuple [.slice none 0 0, .int .i64 191].toArray, .pointer (some ⟨G9, 0, none⟩), .tuple [.slice none 0 0, .int .i64 191].toArray, .slice none 0 0, undef, undef, undef, undef, undef, undef, undef, undef, undef, undef, undef, undef, undef, undef, undef, undef, undef, undef, undef, undef, undef, undef, undef, undef, undef, undef, undef, undef, undef, undef]) _ (x_extract (vs := [.slice none 0 0, .int .i64 191]) 0 (.slice none 0 0) rfl rfl rfl) rfl ?_
    refine p_run (l' := _) _ (x_extract (vs := [.slice none 0 0, .int .i64 191]) 1 (.int .i64 191) rfl rfl rfl) rfl ?_
    refine p_run (l' := _) _ (x_assign (.slice none 0 0) rfl rfl) rfl ?_
    refine p_run (l' := _) _ (x_assign (.int .i64 191) rfl rfl) rfl ?_
    refine wpList_nil ?_
    refine fr_at (l' := [.bool false, .pointer (some ⟨G9, 0, none⟩), .slice none 0 0, .int .i64 191, .pointer (some ⟨G9, 0, none⟩), .tuple [.slice none 0 0, .int .i64 191].toArray, .pointer (some ⟨G9, 0, none⟩), .tuple [.slice none 0 0, .int .i64 191].toArray, .slice none 0 0, .int .i64 191, undef, undef, undef, undef, undef, undef, undef, undef, undef, undef, undef, undef, undef, undef, undef, undef, undef, undef, undef, undef, undef, undef, undef, undef, undef, undef, undef, undef, undef]) rfl ?_
    refine hK12 _ _ ?_
    refine wp_seq_k (fun K15 hK16 => ?_)
    refine c_region (fun ops18 hops17 => ?_)
    refine w_call [] Try.func21 (by kernel_rfl) (by rfl) rfl ?_
    refine (nAlive_any HS).mono ?_
    clear HS
    rintro e w19 ⟨rfl, HS⟩
    refine ⟨_, rfl, ?_⟩
    refine p_run (l' := _) _ (x_move (.bool true) rfl rfl) rfl ?_
    refine p_run (l' := _) _ (x_pick true (.bool true) (.bool false) (.bool true) rfl rfl rfl rfl rfl) rfl ?_
    refine p_run (l' := [.bool false, .pointer (some ⟨G9, 0, none⟩), .slice none 0 0, .int .i64 191, .pointer (some ⟨G9, 0, none⟩), .tuple [.slice none 0 0, .int .i64 191].toArray, .pointer (some ⟨G9, 0, none⟩), .tuple [.slice none 0 0, .int .i64 191].toArray, .slice none 0 0, .int .i64 191, .bool true, .bool true, .bool true, .bool true, undef, undef, undef, undef, undef, undef, undef, undef, undef, undef, undef, undef, undef, undef, undef, undef, undef, undef, undef, undef, undef, undef, undef, undef, undef]) _ (x_move (.bool true) rfl rfl) rfl ?_
    refine p_run (l' := _) _ (x_pick true (.bool true) (.bool false) (.bool true) rfl rfl rfl rfl rfl) rfl ?_
    refine p_run (l' := _) _ (x_move (.bool true) rfl rfl) rfl ?_
    refine p_on rfl (by rw [hops17]; rfl) ?_
    refine p_run (l' := _) _ (x_move (.int .i64 191) rfl rfl) rfl ?_
    refine p_on rfl (by rw [hops17]; rfl) ?_
    refine p_run (l' := [.bool false, .pointer (some ⟨G9, 0, none⟩), .slice none 0 0, .int .i64 191, .pointer (some ⟨G9, 0, none⟩), .tuple [.slice none 0 0, .int .i64 191].toArray, .pointer (some ⟨G9, 0, none⟩), .tuple [.slice none 0 0, .int .i64 191].toArray, .slice none 0 0, .int .i64 191, .bool true, .bool true, .bool true, .bool true, .bool true, .bool true, .int .i64 191, .bool true, undef, undef, undef, undef, undef, undef, undef, undef, undef, undef, undef, undef, undef, undef, undef, undef, undef, undef, undef, undef, undef]) _ (x_cmp (k := .i64) (m := 191) (n := 191) .eql true rfl rfl rfl (by decide) rfl) rfl ?_
    refine p_run (l' := _) _ (x_pick true (.bool true) (.bool false) (.bool true) rfl rfl rfl rfl rfl) rfl ?_
    refine p_run (l' := _) _ (x_move (.bool true) rfl rfl) rfl ?_
    refine p_on rfl (by rw [hops17]; rfl) ?_
    refine p_run (l' := _) _ (x_move (.pointer (some ⟨G9, 0, none⟩)) rfl rfl) rfl ?_
    refine p_on rfl (by rw [hops17]; rfl) ?_
    refine w_call [.pointer (some ⟨G9, 0, none⟩), .int .i64 (-1)] Try.func27 (by kernel_rfl) (by rfl) rfl ?_
    replace HS := (((HS.front 2 rfl).front 2 rfl).front 2 rfl)
    refine (nTwice_no HS (-1) (by rfl)).mono ?_
    rintro e w' ⟨rfl, rfl⟩
    refine ⟨_, rfl, ?_⟩
    refine fr_to (l' := [.bool false, .pointer (some ⟨G9, 0, none⟩), .slice none 0 0, .int .i64 191, .pointer (some ⟨G9, 0, none⟩), .tuple [.slice none 0 0, .int .i64 191].toArray, .pointer (some ⟨G9, 0, none⟩), .tuple [.slice none 0 0, .int .i64 191].toArray, .slice none 0 0, .int .i64 191, .bool true, .bool true, .bool true, .bool true, .bool true, .bool true, .int .i64 191, .bool true, .bool true, .bool true, .pointer (some ⟨G9, 0, none⟩), .int .i64 191, undef, undef, undef, undef, undef, undef, undef, undef, undef, undef, undef, undef, undef, undef, undef, undef, undef]) rfl ?_
    refine p_on rfl (by rw [hops17]; rfl) ?_
    refine p_run (l' := _) _ (x_cmp (k := .i64) (m := 191) (n := 191) .eql true rfl rfl rfl (by decide) rfl) rfl ?_
    refine p_run (l' := _) _ (x_pick true (.bool true) (.bool false) (.bool true) rfl rfl rfl rfl rfl) rfl ?_
    refine p_run (l' := _) _ (x_move (.bool true) rfl rfl) rfl ?_
    refine p_on rfl (by rw [hops17]; rfl) ?_
    refine p_run (l' := [.bool false, .pointer (some ⟨G9, 0, none⟩), .slice none 0 0, .int .i64 191, .pointer (some ⟨G9, 0, none⟩), .tuple [.slice none 0 0, .int .i64 191].toArray, .pointer (some ⟨G9, 0, none⟩), .tuple [.slice none 0 0, .int .i64 191].toArray, .slice none 0 0, .int .i64 191, .bool true, .bool true, .bool true, .bool true, .bool true, .bool true, .int .i64 191, .bool true, .bool true, .bool true, .pointer (some ⟨G9, 0, none⟩), .int .i64 191, .bool true, .bool true, .bool true, .pointer (some ⟨G9, 0, none⟩), undef, undef, undef, undef, undef, undef, undef, undef, undef, undef, undef, undef, undef]) _ (x_move (.pointer (some ⟨G9, 0, none⟩)) rfl rfl) rfl ?_
    refine p_on rfl (by rw [hops17]; rfl) ?_
    refine w_call [.pointer (some ⟨G9, 0, none⟩), .int .i64 0, .int .i64 0, .int .u8 1] Try.func29 (by kernel_rfl) (by rfl) rfl ?_
    replace HS := (((HS.front 2 rfl).front 2 rfl).front 2 rfl)
    refine (nTurn_no HS 0 (by rfl) 0 (1 : UInt8)).mono ?_
    rintro e w' ⟨rfl, rfl⟩
    refine ⟨_, rfl, ?_⟩
    refine p_on rfl (by rw [hops17]; rfl) ?_
    refine p_run (l' := _) _ (x_cmp (k := .i64) (m := 191) (n := 191) .eql true rfl rfl rfl (by decide) rfl) rfl ?_
    refine p_run (l' := _) _ (x_pick true (.bool true) (.bool false) (.bool true) rfl rfl rfl rfl rfl) rfl ?_
    refine p_run (l' := [.bool false, .pointer (some ⟨G9, 0, none⟩), .slice none 0 0, .int .i64 191, .pointer (some ⟨G9, 0, none⟩), .tuple [.slice none 0 0, .int .i64 191].toArray, .pointer (some ⟨G9, 0, none⟩), .tuple [.slice none 0 0, .int .i64 191].toArray, .slice none 0 0, .int .i64 191, .bool true, .bool true, .bool true, .bool true, .bool true, .bool true, .int .i64 191, .bool true, .bool true, .bool true, .pointer (some ⟨G9, 0, none⟩), .int .i64 191, .bool true, .bool true, .bool true, .pointer (some ⟨G9, 0, none⟩), .int .i64 191, .bool true, .bool true, .bool true, undef, undef, undef, undef, undef, undef, undef, undef, undef]) _ (x_move (.bool true) rfl rfl) rfl ?_
    refine p_on rfl (by rw [hops17]; rfl) ?_
    refine p_run (l' := _) _ (x_move (.pointer (some ⟨G9, 0, none⟩)) rfl rfl) rfl ?_
    refine p_on rfl (by rw [hops17]; rfl) ?_
    refine w_call [.pointer (some ⟨G9, 0, none⟩), .int .i64 0] Try.func30 (by kernel_rfl) (by rfl) rfl ?_
    replace HS := (((HS.front 2 rfl).front 2 rfl).front 2 rfl)
    refine (nTo_no HS 0 (by rfl)).mono ?_
    rintro e w' ⟨rfl, rfl⟩
    refine ⟨_, rfl, ?_⟩
    refine p_on rfl (by rw [hops17]; rfl) ?_
    refine p_run (l' := _) _ (x_cmp (k := .i64) (m := (-1)) (n := -1) .eql true rfl rfl rfl (by decide) rfl) rfl ?_
    refine p_run (l' := [.bool false, .pointer (some ⟨G9, 0, none⟩), .slice none 0 0, .int .i64 191, .pointer (some ⟨G9, 0, none⟩), .tuple [.slice none 0 0, .int .i64 191].toArray, .pointer (some ⟨G9, 0, none⟩), .tuple [.slice none 0 0, .int .i64 191].toArray, .slice none 0 0, .int .i64 191, .bool true, .bool true, .bool true, .bool true, .bool true, .bool true, .int .i64 191, .bool true, .bool true, .bool true, .pointer (some ⟨G9, 0, none⟩), .int .i64 191, .bool true, .bool true, .bool true, .pointer (some ⟨G9, 0, none⟩), .int .i64 191, .bool true, .bool true, .bool true, .pointer (some ⟨G9, 0, none⟩), .int .i64 (-1), .bool true, .bool true, undef, undef, undef, undef, undef]) _ (x_pick true (.bool true) (.bool false) (.bool true) rfl rfl rfl rfl rfl) rfl ?_
    refine p_run (l' := _) _ (x_move (.bool true) rfl rfl) rfl ?_
    refine p_on rfl (by rw [hops17]; rfl) ?_
    refine p_run (l' := _) _ (x_move (.pointer (some ⟨G9, 0, none⟩)) rfl rfl) rfl ?_
    refine p_on rfl (by rw [hops17]; rfl) ?_
    refine w_call [.pointer (some ⟨G9, 0, none⟩)] Try.func26 (by kernel_rfl) (by rfl) rfl ?_
    replace HS := (((HS.front 2 rfl).front 2 rfl).front 2 rfl)
    refine (nClear_any HS).mono ?_
    clear HS
    rintro e w20 ⟨rfl, HS⟩
    refine ⟨_, rfl, ?_⟩
    refine p_on rfl (by rw [hops17]; rfl) ?_
    refine p_run (l' := [.bool false, .pointer (some ⟨G9, 0, none⟩), .slice none 0 0, .int .i64 191, .pointer (some ⟨G9, 0, none⟩), .tuple [.slice none 0 0, .int .i64 191].toArray, .pointer (some ⟨G9, 0, none⟩), .tuple [.slice none 0 0, .int .i64 191].toArray, .slice none 0 0, .int .i64 191, .bool true, .bool true, .bool true, .bool true, .bool true, .bool true, .int .i64 191, .bool true, .bool true, .bool true, .pointer (some ⟨G9, 0, none⟩), .int .i64 191, .bool true, .bool true, .bool true, .pointer (some ⟨G9, 0, none⟩), .int .i64 191, .bool true, .bool true, .bool true, .pointer (some ⟨G9, 0, none⟩), .int .i64 (-1), .bool true, .bool true, .bool true, .pointer (some ⟨G9, 0, none⟩), .int .i64 ([].length : Int), .bool true, undef]) _ (x_cmp (k := .i64) (m := ([].length : Int)) (n := 0) .eql true rfl rfl rfl (by rfl) rfl) rfl ?_
    refine p_run (l' := _) _ (x_pick true (.bool true) (.bool false) (.bool true) rfl rfl rfl rfl rfl) rfl ?_
    refine p_run (l' := _) _ (x_assign (.bool true) rfl rfl) rfl ?_
    clear hops17
    refine wpList_nil ?_
    refine fr_at (l' := [.bool true, .pointer (some ⟨G9, 0, none⟩), .slice none 0 0, .int .i64 191, .pointer (some ⟨G9, 0, none⟩), .tuple [.slice none 0 0, .int .i64 191].toArray, .pointer (some ⟨G9, 0, none⟩), .tuple [.slice none 0 0, .int .i64 191].toArray, .slice none 0 0, .int .i64 191, .bool true, .bool true, .bool true, .bool true, .bool true, .bool true, .int .i64 191, .bool true, .bool true, .bool true, .pointer (some ⟨G9, 0, none⟩), .int .i64 191, .bool true, .bool true, .bool true, .pointer (some ⟨G9, 0, none⟩), .int .i64 191, .bool true, .bool true, .bool true, .pointer (some ⟨G9, 0, none⟩), .int .i64 (-1), .bool true, .bool true, .bool true, .pointer (some ⟨G9, 0, none⟩), .int .i64 ([].length : Int), .bool true, .bool true]) rfl ?_
    refine hK16 _ _ ?_
    refine wp_ret ?_
    try simp only [Exit.inBlock, Exit.then]
    refine c_ret (.bool true) (r_tmp rfl rfl) ?_
    exact ⟨rfl, HS.belowOf⟩
end Go.Proofs.Ytckfcnclekjjdaa
