/- DiskNames, DiskFaults, DiskCuts. -/
import Derived.Test.YtjholgfaipfmbaaL4a
set_option linter.unusedVariables false
set_option linter.unusedSimpArgs false
namespace Go.Proofs.Ytjholgfaipfmbaa
open Go.RowKit Go.Proofs.YtjholgfaipfmbaaW.PrintWords Go.Proofs.YtjholgfaipfmbaaW.PrintLast
set_option maxRecDepth 10000 in
set_option maxHeartbeats 2000000 in
theorem names_law (w : World) : Calls Try.prog 7 #[] w fun e w' => e = .returned (.bool true) ∧ Below w.heap.size w w' := by
  have HS := St.empty w
  · skip
    refine c_enter Try.func7 rfl 68 rfl [undef, undef, undef, undef, undef, undef, undef, undef, undef, undef, undef, undef, undef, undef, undef, undef, undef, undef, undef, undef, undef, undef, undef, undef, undef, undef, undef, undef, undef, undef, undef, undef, undef, undef, undef, undef, undef, undef, undef, undef, undef, undef, undef, undef, undef, undef, undef, undef, undef, undef, undef, undef, undef, undef, undef, undef, undef, undef, undef, undef, undef, undef, undef, undef, undef, undef, undef, undef] rfl ?_
    refine wp_seq_k (fun K1 hK2 => ?_)
    refine c_region (fun ops4 hops3 => ?_)
    clear hops3
    refine p_run (l' := _) _ (x_assign (.bool false) rfl rfl) rfl ?_
    refine wpList_nil ?_
    refine fr_at (l' := [.bool false, undef, undef, undef, undef, undef, undef, undef, undef, undef, undef, undef, undef, undef, undef, undef, undef, undef, undef, undef, undef, undef, undef, undef, undef, undef, undef, undef, undef, undef, undef, undef, undef, undef, undef, undef, undef, undef, undef, undef, undef, undef, undef, undef, undef, undef, undef, undef, undef, undef, undef, undef, undef, undef, undef, undef, undef, undef, undef, undef, undef, undef, undef, undef, undef, undef, undef, undef]) rfl ?_
    refine hK2 _ _ ?_
    refine wp_seq_k (fun K5 hK6 => ?_)
    refine c_region (fun ops8 hops7 => ?_)
    clear hops7
    refine w_call [.int .i64 1] Try.func10 (by kernel_rfl) (by rfl) rfl ?_
    refine (new_any HS 1).mono ?_
    clear HS
    rintro e w12 ⟨D9, gs10, gm11, rfl, HS⟩
    have hgd13 := good_new 1
    refine ⟨_, rfl, ?_⟩
    refine p_run (l' := _) _ (x_assign (.pointer (some ⟨D9, 0, none⟩)) rfl rfl) rfl ?_
    refine wpList_nil ?_
    refine fr_at (l' := [.bool false, .pointer (some ⟨D9, 0, none⟩), undef, undef, undef, undef, undef, .pointer (some ⟨D9, 0, none⟩), undef, undef, undef, undef, undef, undef, undef, undef, undef, undef, undef, undef, undef, undef, undef, undef, undef, undef, undef, undef, undef, undef, undef, undef, undef, undef, undef, undef, undef, undef, undef, undef, undef, undef, undef, undef, undef, undef, undef, undef, undef, undef, undef, undef, undef, undef, undef, undef, undef, undef, undef, undef, undef, undef, undef, undef, undef, undef, undef, undef]) rfl ?_
    refine hK6 _ _ ?_
    refine wp_seq_k (fun K14 hK15 => ?_)
    refine c_region (fun ops17 hops16 => ?_)
    clear hops16
    refine p_run (l' := _) _ (x_move (.pointer (some ⟨D9, 0, none⟩)) rfl rfl) rfl ?_
    refine w_call [.pointer (some ⟨D9, 0, none⟩), .int .i64 1] Try.func19 (by kernel_rfl) (by rfl) rfl ?_
    replace HS := ((((HS.front 3 rfl).front 3 rfl).front 3 rfl).front 3 rfl)
    refine (read_any HS hgd13.ok (by have := hgd13.pn; omega) 1).mono ?_
    clear HS
    rintro e w18 ⟨rfl, HS⟩
    refine ⟨_, rfl, ?_⟩
    refine p_run (l' := _) _ (x_move (.tuple [.agg ((nums .u8 ((Dk.new 1).readP 1))).toArray, .int .i64 ((Dk.new 1).readE 1)].toArray) rfl rfl) rfl ?_
    refine p_run (l' := [.bool false, .pointer (some ⟨D9, 0, none⟩), undef, undef, undef, undef, undef, .pointer (some ⟨D9, 0, none⟩), .tuple [.agg ((nums .u8 ((Dk.new 1).readP 1))).toArray, .int .i64 ((Dk.new 1).readE 1)].toArray, .pointer (some ⟨D9, 0, none⟩), .tuple [.agg ((nums .u8 ((Dk.new 1).readP 1))).toArray, .int .i64 ((Dk.new 1).readE 1)].toArray, .agg ((nums .u8 ((Dk.new 1).readP 1))).toArray, undef, undef, undef, undef, undef, undef, undef, undef, undef, undef, undef, undef, undef, undef, undef, undef, undef, undef, undef, undef, undef, undef, undef, undef, undef, undef, undef, undef, undef, undef, undef, undef, undef, undef, undef, undef, undef, undef, undef, undef, undef, undef, undef, undef, undef, undef, undef, undef, undef, undef, undef, undef, undef, undef, undef, undef]) _ (x_extract (vs := [.agg ((nums .u8 ((Dk.new 1).readP 1))).toArray, .int .i64 ((Dk.new 1).readE 1)]) 0 (.agg ((nums .u8 ((Dk.new 1).readP 1))).toArray) rfl rfl rfl) rfl ?_
    refine p_run (l' := _) _ (x_extract (vs := [.agg ((nums .u8 ((Dk.new 1).readP 1))).toArray, .int .i64 ((Dk.new 1).readE 1)]) 1 (.int .i64 ((Dk.new 1).readE 1)) rfl rfl rfl) rfl ?_
    refine St.wAlloc HS (cs := ((nums .u8 zpg))) (.agg ((nums .u8 zpg)).toArray) (by kernel_rfl) rfl ?_
    clear HS
    intro g19 w20 hg21 HS
    refine St.stores (cs' := ((nums .u8 ((Dk.new 1).readP 1)))) HS ((nums .u8 ((Dk.new 1).readP 1))) 256 rfl rfl (nums_one _ _) (by kernel_rfl) (by simp [nums_length, readP_len hgd13.ok]) (by simp [nums_length, readP_len hgd13.ok, zlen]) (lay_all _ _ (by simp [nums_length, readP_len hgd13.ok, zlen])) ?_
    clear HS
    intro w22 HS
    refine p_run (l' := _) _ (x_assign (.int .i64 ((Dk.new 1).readE 1)) rfl rfl) rfl ?_
    refine wpList_nil ?_
    refine fr_at (l' := [.bool false, .pointer (some ⟨D9, 0, none⟩), .pointer (some ⟨g19, 0, none⟩), .int .i64 ((Dk.new 1).readE 1), undef, undef, undef, .pointer (some ⟨D9, 0, none⟩), .tuple [.agg ((nums .u8 ((Dk.new 1).readP 1))).toArray, .int .i64 ((Dk.new 1).readE 1)].toArray, .pointer (some ⟨D9, 0, none⟩), .tuple [.agg ((nums .u8 ((Dk.new 1).readP 1))).toArray, .int .i64 ((Dk.new 1).readE 1)].toArray, .agg ((nums .u8 ((Dk.new 1).readP 1))).toArray, .int .i64 ((Dk.new 1).readE 1), undef, undef, undef, undef, undef, undef, undef, undef, undef, undef, undef, undef, undef, undef, undef, undef, undef, undef, undef, undef, undef, undef, undef, undef, undef, undef, undef, undef, undef, undef, undef, undef, undef, undef, undef, undef, undef, undef, undef, undef, undef, undef, undef, undef, undef, undef, undef, undef, undef, undef, undef, undef, undef, undef, undef]) rfl ?_
    refine hK15 _ _ ?_
    refine wp_seq_k (fun K23 hK24 => ?_)
    refine c_region (fun ops26 hops25 => ?_)
    clear hops25
    refine p_run (l' := _) _ (x_move (.pointer (some ⟨D9, 0, none⟩)) rfl rfl) rfl ?_
    refine w_call [.pointer (some ⟨D9, 0, none⟩), .int .i64 0, .bool true] Try.func20 (by kernel_rfl) (by rfl) rfl ?_
    replace HS := ((((HS.front 4 rfl).front 4 rfl).front 4 rfl).front 4 rfl)
    refine (spoil_any HS hgd13.ok (by have := hgd13.cn; omega) 0 true).mono ?_
    clear HS
    rintro e w27 ⟨rfl, HS⟩
    have hgd28 : Dk.good ((Dk.new 1).spoil 0 true) (1) := good_spoil hgd13 0 true
    refine ⟨_, rfl, ?_⟩
    refine p_run (l' := _) _ (x_assign (.int .i64 ((Dk.new 1).pageE 0)) rfl rfl) rfl ?_
    refine wpList_nil ?_
    refine fr_at (l' := [.bool false, .pointer (some ⟨D9, 0, none⟩), .pointer (some ⟨g19, 0, none⟩), .int .i64 ((Dk.new 1).readE 1), .int .i64 ((Dk.new 1).pageE 0), undef, undef, .pointer (some ⟨D9, 0, none⟩), .tuple [.agg ((nums .u8 ((Dk.new 1).readP 1))).toArray, .int .i64 ((Dk.new 1).readE 1)].toArray, .pointer (some ⟨D9, 0, none⟩), .tuple [.agg ((nums .u8 ((Dk.new 1).readP 1))).toArray, .int .i64 ((Dk.new 1).readE 1)].toArray, .agg ((nums .u8 ((Dk.new 1).readP 1))).toArray, .int .i64 ((Dk.new 1).readE 1), .pointer (some ⟨D9, 0, none⟩), .int .i64 ((Dk.new 1).pageE 0), undef, undef, undef, undef, undef, undef, undef, undef, undef, undef, undef, undef, undef, undef, undef, undef, undef, undef, undef, undef, undef, undef, undef, undef, undef, undef, undef, undef, undef, undef, undef, undef, undef, undef, undef, undef, undef, undef, undef, undef, undef, undef, undef, undef, undef, undef, undef, undef, undef, undef, undef, undef, undef]) rfl ?_
    refine hK24 _ _ ?_
    refine wp_seq_k (fun K29 hK30 => ?_)
    refine c_region (fun ops32 hops31 => ?_)
    clear hops31
    refine p_run (l' := _) _ (x_move (.pointer (some ⟨D9, 0, none⟩)) rfl rfl) rfl ?_
    refine w_call [.pointer (some ⟨D9, 0, none⟩), .int .i64 0] Try.func19 (by kernel_rfl) (by rfl) rfl ?_
    replace HS := ((((HS.front 3 rfl).front 3 rfl).front 3 rfl).front 3 rfl)
    refine (read_any HS hgd28.ok (by have := hgd28.pn; omega) 0).mono ?_
    clear HS
    rintro e w33 ⟨rfl, HS⟩
    refine ⟨_, rfl, ?_⟩
    refine p_run (l' := _) _ (x_move (.tuple [.agg ((nums .u8 (((Dk.new 1).spoil 0 true).readP 0))).toArray, .int .i64 (((Dk.new 1).spoil 0 true).readE 0)].toArray) rfl rfl) rfl ?_
    refine p_run (l' := [.bool false, .pointer (some ⟨D9, 0, none⟩), .pointer (some ⟨g19, 0, none⟩), .int .i64 ((Dk.new 1).readE 1), .int .i64 ((Dk.new 1).pageE 0), undef, undef, .pointer (some ⟨D9, 0, none⟩), .tuple [.agg ((nums .u8 ((Dk.new 1).readP 1))).toArray, .int .i64 ((Dk.new 1).readE 1)].toArray, .pointer (some ⟨D9, 0, none⟩), .tuple [.agg ((nums .u8 ((Dk.new 1).readP 1))).toArray, .int .i64 ((Dk.new 1).readE 1)].toArray, .agg ((nums .u8 ((Dk.new 1).readP 1))).toArray, .int .i64 ((Dk.new 1).readE 1), .pointer (some ⟨D9, 0, none⟩), .int .i64 ((Dk.new 1).pageE 0), .tuple [.agg ((nums .u8 (((Dk.new 1).spoil 0 true).readP 0))).toArray, .int .i64 (((Dk.new 1).spoil 0 true).readE 0)].toArray, .pointer (some ⟨D9, 0, none⟩), .tuple [.agg ((nums .u8 (((Dk.new 1).spoil 0 true).readP 0))).toArray, .int .i64 (((Dk.new 1).spoil 0 true).readE 0)].toArray, .agg ((nums .u8 (((Dk.new 1).spoil 0 true).readP 0))).toArray, undef, undef, undef, undef, undef, undef, undef, undef, undef, undef, undef, undef, undef, undef, undef, undef, undef, undef, undef, undef, undef, undef, undef, undef, undef, undef, undef, undef, undef, undef, undef, undef, undef, undef, undef, undef, undef, undef, undef, undef, undef, undef, undef, undef, undef, undef, undef, undef, undef]) _ (x_extract (vs := [.agg ((nums .u8 (((Dk.new 1).spoil 0 true).readP 0))).toArray, .int .i64 (((Dk.new 1).spoil 0 true).readE 0)]) 0 (.agg ((nums .u8 (((Dk.new 1).spoil 0 true).readP 0))).toArray) rfl rfl rfl) rfl ?_
    refine p_run (l' := _) _ (x_extract (vs := [.agg ((nums .u8 (((Dk.new 1).spoil 0 true).readP 0))).toArray, .int .i64 (((Dk.new 1).spoil 0 true).readE 0)]) 1 (.int .i64 (((Dk.new 1).spoil 0 true).readE 0)) rfl rfl rfl) rfl ?_
    refine St.wAlloc HS (cs := ((nums .u8 zpg))) (.agg ((nums .u8 zpg)).toArray) (by kernel_rfl) rfl ?_
    clear HS
    intro g34 w35 hg36 HS
    refine St.stores (cs' := ((nums .u8 (((Dk.new 1).spoil 0 true).readP 0)))) HS ((nums .u8 (((Dk.new 1).spoil 0 true).readP 0))) 256 rfl rfl (nums_one _ _) (by kernel_rfl) (by simp [nums_length, readP_len hgd28.ok]) (by simp [nums_length, readP_len hgd28.ok, zlen]) (lay_all _ _ (by simp [nums_length, readP_len hgd28.ok, zlen])) ?_
    clear HS
    intro w37 HS
    refine p_run (l' := _) _ (x_assign (.int .i64 (((Dk.new 1).spoil 0 true).readE 0)) rfl rfl) rfl ?_
    refine wpList_nil ?_
    refine fr_at (l' := [.bool false, .pointer (some ⟨D9, 0, none⟩), .pointer (some ⟨g19, 0, none⟩), .int .i64 ((Dk.new 1).readE 1), .int .i64 ((Dk.new 1).pageE 0), .pointer (some ⟨g34, 0, none⟩), .int .i64 (((Dk.new 1).spoil 0 true).readE 0), .pointer (some ⟨D9, 0, none⟩), .tuple [.agg ((nums .u8 ((Dk.new 1).readP 1))).toArray, .int .i64 ((Dk.new 1).readE 1)].toArray, .pointer (some ⟨D9, 0, none⟩), .tuple [.agg ((nums .u8 ((Dk.new 1).readP 1))).toArray, .int .i64 ((Dk.new 1).readE 1)].toArray, .agg ((nums .u8 ((Dk.new 1).readP 1))).toArray, .int .i64 ((Dk.new 1).readE 1), .pointer (some ⟨D9, 0, none⟩), .int .i64 ((Dk.new 1).pageE 0), .tuple [.agg ((nums .u8 (((Dk.new 1).spoil 0 true).readP 0))).toArray, .int .i64 (((Dk.new 1).spoil 0 true).readE 0)].toArray, .pointer (some ⟨D9, 0, none⟩), .tuple [.agg ((nums .u8 (((Dk.new 1).spoil 0 true).readP 0))).toArray, .int .i64 (((Dk.new 1).spoil 0 true).readE 0)].toArray, .agg ((nums .u8 (((Dk.new 1).spoil 0 true).readP 0))).toArray, .int .i64 (((Dk.new 1).spoil 0 true).readE 0), undef, undef, undef, undef, undef, undef, undef, undef, undef, undef, undef, undef, undef, undef, undef, undef, undef, undef, undef, undef, undef, undef, undef, undef, undef, undef, undef, undef, undef, undef, undef, undef, undef, undef, undef, undef, undef, undef, undef, undef, undef, undef, undef, undef, undef, undef, undef, undef]) rfl ?_
    refine hK30 _ _ ?_
    refine wp_seq_k (fun K38 hK39 => ?_)
    refine c_region (fun ops41 hops40 => ?_)
    clear hops40
    refine p_run (l' := _) _ (x_move (.pointer (some ⟨D9, 0, none⟩)) rfl rfl) rfl ?_
    refine w_call [.pointer (some ⟨D9, 0, none⟩), .int .i64 0] Try.func11 (by kernel_rfl) (by rfl) rfl ?_
    replace HS := ((((HS.front 4 rfl).front 4 rfl).front 4 rfl).front 4 rfl)
    refine (cut_any HS 0).mono ?_
    clear HS
    rintro e w42 ⟨rfl, HS⟩
    have hgd43 : Dk.good (((Dk.new 1).spoil 0 true).cut 0) (1) := good_cut hgd28 0 (by omega)
    refine ⟨_, rfl, ?_⟩
    refine wpList_nil ?_
    refine fr_at (l' := [.bool false, .pointer (some ⟨D9, 0, none⟩), .pointer (some ⟨g19, 0, none⟩), .int .i64 ((Dk.new 1).readE 1), .int .i64 ((Dk.new 1).pageE 0), .pointer (some ⟨g34, 0, none⟩), .int .i64 (((Dk.new 1).spoil 0 true).readE 0), .pointer (some ⟨D9, 0, none⟩), .tuple [.agg ((nums .u8 ((Dk.new 1).readP 1))).toArray, .int .i64 ((Dk.new 1).readE 1)].toArray, .pointer (some ⟨D9, 0, none⟩), .tuple [.agg ((nums .u8 ((Dk.new 1).readP 1))).toArray, .int .i64 ((Dk.new 1).readE 1)].toArray, .agg ((nums .u8 ((Dk.new 1).readP 1))).toArray, .int .i64 ((Dk.new 1).readE 1), .pointer (some ⟨D9, 0, none⟩), .int .i64 ((Dk.new 1).pageE 0), .tuple [.agg ((nums .u8 (((Dk.new 1).spoil 0 true).readP 0))).toArray, .int .i64 (((Dk.new 1).spoil 0 true).readE 0)].toArray, .pointer (some ⟨D9, 0, none⟩), .tuple [.agg ((nums .u8 (((Dk.new 1).spoil 0 true).readP 0))).toArray, .int .i64 (((Dk.new 1).spoil 0 true).readE 0)].toArray, .agg ((nums .u8 (((Dk.new 1).spoil 0 true).readP 0))).toArray, .int .i64 (((Dk.new 1).spoil 0 true).readE 0), .pointer (some ⟨D9, 0, none⟩), .tuple [].toArray, undef, undef, undef, undef, undef, undef, undef, undef, undef, undef, undef, undef, undef, undef, undef, undef, undef, undef, undef, undef, undef, undef, undef, undef, undef, undef, undef, undef, undef, undef, undef, undef, undef, undef, undef, undef, undef, undef, undef, undef, undef, undef, undef, undef, undef, undef]) rfl ?_
    refine hK39 _ _ ?_
    refine wp_seq_k (fun K44 hK45 => ?_)
    refine c_region (fun ops47 hops46 => ?_)
    refine w_call [] Try.func9 (by kernel_rfl) (by rfl) rfl ?_
    refine (alive_any HS).mono ?_
    clear HS
    rintro e w48 ⟨rfl, HS⟩
    refine ⟨_, rfl, ?_⟩
    refine p_run (l' := _) _ (x_move (.bool true) rfl rfl) rfl ?_
    refine p_run (l' := _) _ (x_pick true (.bool true) (.bool false) (.bool true) rfl rfl rfl rfl rfl) rfl ?_
    refine p_run (l' := [.bool false, .pointer (some ⟨D9, 0, none⟩), .pointer (some ⟨g19, 0, none⟩), .int .i64 ((Dk.new 1).readE 1), .int .i64 ((Dk.new 1).pageE 0), .pointer (some ⟨g34, 0, none⟩), .int .i64 (((Dk.new 1).spoil 0 true).readE 0), .pointer (some ⟨D9, 0, none⟩), .tuple [.agg ((nums .u8 ((Dk.new 1).readP 1))).toArray, .int .i64 ((Dk.new 1).readE 1)].toArray, .pointer (some ⟨D9, 0, none⟩), .tuple [.agg ((nums .u8 ((Dk.new 1).readP 1))).toArray, .int .i64 ((Dk.new 1).readE 1)].toArray, .agg ((nums .u8 ((Dk.new 1).readP 1))).toArray, .int .i64 ((Dk.new 1).readE 1), .pointer (some ⟨D9, 0, none⟩), .int .i64 ((Dk.new 1).pageE 0), .tuple [.agg ((nums .u8 (((Dk.new 1).spoil 0 true).readP 0))).toArray, .int .i64 (((Dk.new 1).spoil 0 true).readE 0)].toArray, .pointer (some ⟨D9, 0, none⟩), .tuple [.agg ((nums .u8 (((Dk.new 1).spoil 0 true).readP 0))).toArray, .int .i64 (((Dk.new 1).spoil 0 true).readE 0)].toArray, .agg ((nums .u8 (((Dk.new 1).spoil 0 true).readP 0))).toArray, .int .i64 (((Dk.new 1).spoil 0 true).readE 0), .pointer (some ⟨D9, 0, none⟩), .tuple [].toArray, .bool true, .bool true, .bool true, .bool true, undef, undef, undef, undef, undef, undef, undef, undef, undef, undef, undef, undef, undef, undef, undef, undef, undef, undef, undef, undef, undef, undef, undef, undef, undef, undef, undef, undef, undef, undef, undef, undef, undef, undef, undef, undef, undef, undef, undef, undef, undef, undef]) _ (x_move (.bool true) rfl rfl) rfl ?_
    refine p_run (l' := _) _ (x_pick true (.bool true) (.bool false) (.bool true) rfl rfl rfl rfl rfl) rfl ?_
    refine p_run (l' := _) _ (x_move (.bool true) rfl rfl) rfl ?_
    refine p_run (l' := _) _ (x_pick true (.bool true) (.bool false) (.bool true) rfl rfl rfl rfl rfl) rfl ?_
    refine p_run (l' := [.bool false, .pointer (some ⟨D9, 0, none⟩), .pointer (some ⟨g19, 0, none⟩), .int .i64 ((Dk.new 1).readE 1), .int .i64 ((Dk.new 1).pageE 0), .pointer (some ⟨g34, 0, none⟩), .int .i64 (((Dk.new 1).spoil 0 true).readE 0), .pointer (some ⟨D9, 0, none⟩), .tuple [.agg ((nums .u8 ((Dk.new 1).readP 1))).toArray, .int .i64 ((Dk.new 1).readE 1)].toArray, .pointer (some ⟨D9, 0, none⟩), .tuple [.agg ((nums .u8 ((Dk.new 1).readP 1))).toArray, .int .i64 ((Dk.new 1).readE 1)].toArray, .agg ((nums .u8 ((Dk.new 1).readP 1))).toArray, .int .i64 ((Dk.new 1).readE 1), .pointer (some ⟨D9, 0, none⟩), .int .i64 ((Dk.new 1).pageE 0), .tuple [.agg ((nums .u8 (((Dk.new 1).spoil 0 true).readP 0))).toArray, .int .i64 (((Dk.new 1).spoil 0 true).readE 0)].toArray, .pointer (some ⟨D9, 0, none⟩), .tuple [.agg ((nums .u8 (((Dk.new 1).spoil 0 true).readP 0))).toArray, .int .i64 (((Dk.new 1).spoil 0 true).readE 0)].toArray, .agg ((nums .u8 (((Dk.new 1).spoil 0 true).readP 0))).toArray, .int .i64 (((Dk.new 1).spoil 0 true).readE 0), .pointer (some ⟨D9, 0, none⟩), .tuple [].toArray, .bool true, .bool true, .bool true, .bool true, .bool true, .bool true, .bool true, .bool true, undef, undef, undef, undef, undef, undef, undef, undef, undef, undef, undef, undef, undef, undef, undef, undef, undef, undef, undef, undef, undef, undef, undef, undef, undef, undef, undef, undef, undef, undef, undef, undef, undef, undef, undef, undef, undef, undef]) _ (x_move (.bool true) rfl rfl) rfl ?_
    refine p_run (l' := _) _ (x_pick true (.bool true) (.bool false) (.bool true) rfl rfl rfl rfl rfl) rfl ?_
    refine p_run (l' := _) _ (x_move (.bool true) rfl rfl) rfl ?_
    refine p_run (l' := _) _ (x_pick true (.bool true) (.bool false) (.bool true) rfl rfl rfl rfl rfl) rfl ?_
    refine p_run (l' := [.bool false, .pointer (some ⟨D9, 0, none⟩), .pointer (some ⟨g19, 0, none⟩), .int .i64 ((Dk.new 1).readE 1), .int .i64 ((Dk.new 1).pageE 0), .pointer (some ⟨g34, 0, none⟩), .int .i64 (((Dk.new 1).spoil 0 true).readE 0), .pointer (some ⟨D9, 0, none⟩), .tuple [.agg ((nums .u8 ((Dk.new 1).readP 1))).toArray, .int .i64 ((Dk.new 1).readE 1)].toArray, .pointer (some ⟨D9, 0, none⟩), .tuple [.agg ((nums .u8 ((Dk.new 1).readP 1))).toArray, .int .i64 ((Dk.new 1).readE 1)].toArray, .agg ((nums .u8 ((Dk.new 1).readP 1))).toArray, .int .i64 ((Dk.new 1).readE 1), .pointer (some ⟨D9, 0, none⟩), .int .i64 ((Dk.new 1).pageE 0), .tuple [.agg ((nums .u8 (((Dk.new 1).spoil 0 true).readP 0))).toArray, .int .i64 (((Dk.new 1).spoil 0 true).readE 0)].toArray, .pointer (some ⟨D9, 0, none⟩), .tuple [.agg ((nums .u8 (((Dk.new 1).spoil 0 true).readP 0))).toArray, .int .i64 (((Dk.new 1).spoil 0 true).readE 0)].toArray, .agg ((nums .u8 (((Dk.new 1).spoil 0 true).readP 0))).toArray, .int .i64 (((Dk.new 1).spoil 0 true).readE 0), .pointer (some ⟨D9, 0, none⟩), .tuple [].toArray, .bool true, .bool true, .bool true, .bool true, .bool true, .bool true, .bool true, .bool true, .bool true, .bool true, .bool true, .bool true, undef, undef, undef, undef, undef, undef, undef, undef, undef, undef, undef, undef, undef, undef, undef, undef, undef, undef, undef, undef, undef, undef, undef, undef, undef, undef, undef, undef, undef, undef, undef, undef, undef, undef]) _ (x_move (.bool true) rfl rfl) rfl ?_
    refine p_run (l' := _) _ (x_pick true (.bool true) (.bool false) (.bool true) rfl rfl rfl rfl rfl) rfl ?_
    refine p_run (l' := _) _ (x_move (.bool true) rfl rfl) rfl ?_
    refine p_run (l' := _) _ (x_pick true (.bool true) (.bool false) (.bool true) rfl rfl rfl rfl rfl) rfl ?_
    refine p_run (l' := [.bool false, .pointer (some ⟨D9, 0, none⟩), .pointer (some ⟨g19, 0, none⟩), .int .i64 ((Dk.new 1).readE 1), .int .i64 ((Dk.new 1).pageE 0), .pointer (some ⟨g34, 0, none⟩), .int .i64 (((Dk.new 1).spoil 0 true).readE 0), .pointer (some ⟨D9, 0, none⟩), .tuple [.agg ((nums .u8 ((Dk.new 1).readP 1))).toArray, .int .i64 ((Dk.new 1).readE 1)].toArray, .pointer (some ⟨D9, 0, none⟩), .tuple [.agg ((nums .u8 ((Dk.new 1).readP 1))).toArray, .int .i64 ((Dk.new 1).readE 1)].toArray, .agg ((nums .u8 ((Dk.new 1).readP 1))).toArray, .int .i64 ((Dk.new 1).readE 1), .pointer (some ⟨D9, 0, none⟩), .int .i64 ((Dk.new 1).pageE 0), .tuple [.agg ((nums .u8 (((Dk.new 1).spoil 0 true).readP 0))).toArray, .int .i64 (((Dk.new 1).spoil 0 true).readE 0)].toArray, .pointer (some ⟨D9, 0, none⟩), .tuple [.agg ((nums .u8 (((Dk.new 1).spoil 0 true).readP 0))).toArray, .int .i64 (((Dk.new 1).spoil 0 true).readE 0)].toArray, .agg ((nums .u8 (((Dk.new 1).spoil 0 true).readP 0))).toArray, .int .i64 (((Dk.new 1).spoil 0 true).readE 0), .pointer (some ⟨D9, 0, none⟩), .tuple [].toArray, .bool true, .bool true, .bool true, .bool true, .bool true, .bool true, .bool true, .bool true, .bool true, .bool true, .bool true, .bool true, .bool true, .bool true, .bool true, .bool true, undef, undef, undef, undef, undef, undef, undef, undef, undef, undef, undef, undef, undef, undef, undef, undef, undef, undef, undef, undef, undef, undef, undef, undef, undef, undef, undef, undef, undef, undef]) _ (x_move (.bool true) rfl rfl) rfl ?_
    refine p_on rfl (by rw [hops46]; rfl) ?_
    refine p_run (l' := _) _ (x_move (.int .i64 ((Dk.new 1).readE 1)) rfl rfl) rfl ?_
    refine p_on rfl (by rw [hops46]; rfl) ?_
    refine p_run (l' := _) _ (x_cmp (k := .i64) (m := ((Dk.new 1).readE 1)) (n := 41) .eql true rfl rfl rfl (by kernel_rfl) rfl) rfl ?_
    refine p_run (l' := _) _ (x_pick true (.bool true) (.bool false) (.bool true) rfl rfl rfl rfl rfl) rfl ?_
    refine p_run (l' := [.bool false, .pointer (some ⟨D9, 0, none⟩), .pointer (some ⟨g19, 0, none⟩), .int .i64 ((Dk.new 1).readE 1), .int .i64 ((Dk.new 1).pageE 0), .pointer (some ⟨g34, 0, none⟩), .int .i64 (((Dk.new 1).spoil 0 true).readE 0), .pointer (some ⟨D9, 0, none⟩), .tuple [.agg ((nums .u8 ((Dk.new 1).readP 1))).toArray, .int .i64 ((Dk.new 1).readE 1)].toArray, .pointer (some ⟨D9, 0, none⟩), .tuple [.agg ((nums .u8 ((Dk.new 1).readP 1))).toArray, .int .i64 ((Dk.new 1).readE 1)].toArray, .agg ((nums .u8 ((Dk.new 1).readP 1))).toArray, .int .i64 ((Dk.new 1).readE 1), .pointer (some ⟨D9, 0, none⟩), .int .i64 ((Dk.new 1).pageE 0), .tuple [.agg ((nums .u8 (((Dk.new 1).spoil 0 true).readP 0))).toArray, .int .i64 (((Dk.new 1).spoil 0 true).readE 0)].toArray, .pointer (some ⟨D9, 0, none⟩), .tuple [.agg ((nums .u8 (((Dk.new 1).spoil 0 true).readP 0))).toArray, .int .i64 (((Dk.new 1).spoil 0 true).readE 0)].toArray, .agg ((nums .u8 (((Dk.new 1).spoil 0 true).readP 0))).toArray, .int .i64 (((Dk.new 1).spoil 0 true).readE 0), .pointer (some ⟨D9, 0, none⟩), .tuple [].toArray, .bool true, .bool true, .bool true, .bool true, .bool true, .bool true, .bool true, .bool true, .bool true, .bool true, .bool true, .bool true, .bool true, .bool true, .bool true, .bool true, .int .i64 ((Dk.new 1).readE 1), .bool true, .bool true, .bool true, undef, undef, undef, undef, undef, undef, undef, undef, undef, undef, undef, undef, undef, undef, undef, undef, undef, undef, undef, undef, undef, undef, undef, undef, undef, undef]) _ (x_move (.bool true) rfl rfl) rfl ?_
    refine p_on rfl (by rw [hops46]; rfl) ?_
    refine p_run (l' := _) _ (x_move (.int .i64 ((Dk.new 1).pageE 0)) rfl rfl) rfl ?_
    refine p_on rfl (by rw [hops46]; rfl) ?_
    refine p_run (l' := _) _ (x_cmp (k := .i64) (m := ((Dk.new 1).pageE 0)) (n := 0) .eql true rfl rfl rfl (by kernel_rfl) rfl) rfl ?_
    refine p_run (l' := _) _ (x_pick true (.bool true) (.bool false) (.bool true) rfl rfl rfl rfl rfl) rfl ?_
    refine p_run (l' := [.bool false, .pointer (some ⟨D9, 0, none⟩), .pointer (some ⟨g19, 0, none⟩), .int .i64 ((Dk.new 1).readE 1), .int .i64 ((Dk.new 1).pageE 0), .pointer (some ⟨g34, 0, none⟩), .int .i64 (((Dk.new 1).spoil 0 true).readE 0), .pointer (some ⟨D9, 0, none⟩), .tuple [.agg ((nums .u8 ((Dk.new 1).readP 1))).toArray, .int .i64 ((Dk.new 1).readE 1)].toArray, .pointer (some ⟨D9, 0, none⟩), .tuple [.agg ((nums .u8 ((Dk.new 1).readP 1))).toArray, .int .i64 ((Dk.new 1).readE 1)].toArray, .agg ((nums .u8 ((Dk.new 1).readP 1))).toArray, .int .i64 ((Dk.new 1).readE 1), .pointer (some ⟨D9, 0, none⟩), .int .i64 ((Dk.new 1).pageE 0), .tuple [.agg ((nums .u8 (((Dk.new 1).spoil 0 true).readP 0))).toArray, .int .i64 (((Dk.new 1).spoil 0 true).readE 0)].toArray, .pointer (some ⟨D9, 0, none⟩), .tuple [.agg ((nums .u8 (((Dk.new 1).spoil 0 true).readP 0))).toArray, .int .i64 (((Dk.new 1).spoil 0 true).readE 0)].toArray, .agg ((nums .u8 (((Dk.new 1).spoil 0 true).readP 0))).toArray, .int .i64 (((Dk.new 1).spoil 0 true).readE 0), .pointer (some ⟨D9, 0, none⟩), .tuple [].toArray, .bool true, .bool true, .bool true, .bool true, .bool true, .bool true, .bool true, .bool true, .bool true, .bool true, .bool true, .bool true, .bool true, .bool true, .bool true, .bool true, .int .i64 ((Dk.new 1).readE 1), .bool true, .bool true, .bool true, .int .i64 ((Dk.new 1).pageE 0), .bool true, .bool true, .bool true, undef, undef, undef, undef, undef, undef, undef, undef, undef, undef, undef, undef, undef, undef, undef, undef, undef, undef, undef, undef, undef, undef]) _ (x_move (.bool true) rfl rfl) rfl ?_
    refine p_on rfl (by rw [hops46]; rfl) ?_
    refine p_run (l' := _) _ (x_move (.int .i64 (((Dk.new 1).spoil 0 true).readE 0)) rfl rfl) rfl ?_
    refine p_on rfl (by rw [hops46]; rfl) ?_
    refine p_run (l' := _) _ (x_cmp (k := .i64) (m := (((Dk.new 1).spoil 0 true).readE 0)) (n := 43) .eql true rfl rfl rfl (by kernel_rfl) rfl) rfl ?_
    refine p_run (l' := _) _ (x_pick true (.bool true) (.bool false) (.bool true) rfl rfl rfl rfl rfl) rfl ?_
    refine p_run (l' := [.bool false, .pointer (some ⟨D9, 0, none⟩), .pointer (some ⟨g19, 0, none⟩), .int .i64 ((Dk.new 1).readE 1), .int .i64 ((Dk.new 1).pageE 0), .pointer (some ⟨g34, 0, none⟩), .int .i64 (((Dk.new 1).spoil 0 true).readE 0), .pointer (some ⟨D9, 0, none⟩), .tuple [.agg ((nums .u8 ((Dk.new 1).readP 1))).toArray, .int .i64 ((Dk.new 1).readE 1)].toArray, .pointer (some ⟨D9, 0, none⟩), .tuple [.agg ((nums .u8 ((Dk.new 1).readP 1))).toArray, .int .i64 ((Dk.new 1).readE 1)].toArray, .agg ((nums .u8 ((Dk.new 1).readP 1))).toArray, .int .i64 ((Dk.new 1).readE 1), .pointer (some ⟨D9, 0, none⟩), .int .i64 ((Dk.new 1).pageE 0), .tuple [.agg ((nums .u8 (((Dk.new 1).spoil 0 true).readP 0))).toArray, .int .i64 (((Dk.new 1).spoil 0 true).readE 0)].toArray, .pointer (some ⟨D9, 0, none⟩), .tuple [.agg ((nums .u8 (((Dk.new 1).spoil 0 true).readP 0))).toArray, .int .i64 (((Dk.new 1).spoil 0 true).readE 0)].toArray, .agg ((nums .u8 (((Dk.new 1).spoil 0 true).readP 0))).toArray, .int .i64 (((Dk.new 1).spoil 0 true).readE 0), .pointer (some ⟨D9, 0, none⟩), .tuple [].toArray, .bool true, .bool true, .bool true, .bool true, .bool true, .bool true, .bool true, .bool true, .bool true, .bool true, .bool true, .bool true, .bool true, .bool true, .bool true, .bool true, .int .i64 ((Dk.new 1).readE 1), .bool true, .bool true, .bool true, .int .i64 ((Dk.new 1).pageE 0), .bool true, .bool true, .bool true, .int .i64 (((Dk.new 1).spoil 0 true).readE 0), .bool true, .bool true, .bool true, undef, undef, undef, undef, undef, undef, undef, undef, undef, undef, undef, undef, undef, undef, undef, undef, undef, undef]) _ (x_move (.bool true) rfl rfl) rfl ?_
    refine p_on rfl (by rw [hops46]; rfl) ?_
    refine p_run (l' := _) _ (x_move (.pointer (some ⟨D9, 0, none⟩)) rfl rfl) rfl ?_
    refine p_on rfl (by rw [hops46]; rfl) ?_
    refine w_call [.pointer (some ⟨D9, 0, none⟩)] Try.func12 (by kernel_rfl) (by rfl) rfl ?_
    replace HS := ((((HS.front 3 rfl).front 3 rfl).front 3 rfl).front 3 rfl)
    refine (sync_any HS hgd43.ok (by have := hgd43.pn; omega)).mono ?_
    clear HS
    rintro e w50 ⟨v49, rfl, HS⟩
    have hgd51 : Dk.good ((((Dk.new 1).spoil 0 true).cut 0).sync) (1) := good_sync hgd43
    refine ⟨_, rfl, ?_⟩
    refine p_on rfl (by rw [hops46]; rfl) ?_
    refine p_run (l' := _) _ (x_cmp (k := .i64) (m := (((Dk.new 1).spoil 0 true).cut 0).actE) (n := 42) .eql true rfl rfl rfl (by kernel_rfl) rfl) rfl ?_
    refine p_run (l' := [.bool false, .pointer (some ⟨D9, 0, none⟩), .pointer (some ⟨g19, 0, none⟩), .int .i64 ((Dk.new 1).readE 1), .int .i64 ((Dk.new 1).pageE 0), .pointer (some ⟨g34, 0, none⟩), .int .i64 (((Dk.new 1).spoil 0 true).readE 0), .pointer (some ⟨D9, 0, none⟩), .tuple [.agg ((nums .u8 ((Dk.new 1).readP 1))).toArray, .int .i64 ((Dk.new 1).readE 1)].toArray, .pointer (some ⟨D9, 0, none⟩), .tuple [.agg ((nums .u8 ((Dk.new 1).readP 1))).toArray, .int .i64 ((Dk.new 1).readE 1)].toArray, .agg ((nums .u8 ((Dk.new 1).readP 1))).toArray, .int .i64 ((Dk.new 1).readE 1), .pointer (some ⟨D9, 0, none⟩), .int .i64 ((Dk.new 1).pageE 0), .tuple [.agg ((nums .u8 (((Dk.new 1).spoil 0 true).readP 0))).toArray, .int .i64 (((Dk.new 1).spoil 0 true).readE 0)].toArray, .pointer (some ⟨D9, 0, none⟩), .tuple [.agg ((nums .u8 (((Dk.new 1).spoil 0 true).readP 0))).toArray, .int .i64 (((Dk.new 1).spoil 0 true).readE 0)].toArray, .agg ((nums .u8 (((Dk.new 1).spoil 0 true).readP 0))).toArray, .int .i64 (((Dk.new 1).spoil 0 true).readE 0), .pointer (some ⟨D9, 0, none⟩), .tuple [].toArray, .bool true, .bool true, .bool true, .bool true, .bool true, .bool true, .bool true, .bool true, .bool true, .bool true, .bool true, .bool true, .bool true, .bool true, .bool true, .bool true, .int .i64 ((Dk.new 1).readE 1), .bool true, .bool true, .bool true, .int .i64 ((Dk.new 1).pageE 0), .bool true, .bool true, .bool true, .int .i64 (((Dk.new 1).spoil 0 true).readE 0), .bool true, .bool true, .bool true, .pointer (some ⟨D9, 0, none⟩), .int .i64 ((((Dk.new 1).spoil 0 true).cut 0).actE), .bool true, .bool true, undef, undef, undef, undef, undef, undef, undef, undef, undef, undef, undef, undef, undef, undef]) _ (x_pick true (.bool true) (.bool false) (.bool true) rfl rfl rfl rfl rfl) rfl ?_
    refine p_run (l' := _) _ (x_move (.bool true) rfl rfl) rfl ?_
    refine p_on rfl (by rw [hops46]; rfl) ?_
    refine p_run (l' := _) _ (x_move (.pointer (some ⟨D9, 0, none⟩)) rfl rfl) rfl ?_
    refine p_on rfl (by rw [hops46]; rfl) ?_
    refine w_call [.pointer (some ⟨D9, 0, none⟩)] Try.func15 (by kernel_rfl) (by rfl) rfl ?_
    replace HS := ((((HS.front 3 rfl).front 3 rfl).front 3 rfl).front 3 rfl)
    refine (down_any HS).mono ?_
    rintro e w' ⟨he_, rfl⟩
    rw [show ((((Dk.new 1).spoil 0 true).cut 0).sync).down = true from (by kernel_rfl)] at he_
    subst he_
    refine ⟨_, rfl, ?_⟩
    refine p_run (l' := [.bool false, .pointer (some ⟨D9, 0, none⟩), .pointer (some ⟨g19, 0, none⟩), .int .i64 ((Dk.new 1).readE 1), .int .i64 ((Dk.new 1).pageE 0), .pointer (some ⟨g34, 0, none⟩), .int .i64 (((Dk.new 1).spoil 0 true).readE 0), .pointer (some ⟨D9, 0, none⟩), .tuple [.agg ((nums .u8 ((Dk.new 1).readP 1))).toArray, .int .i64 ((Dk.new 1).readE 1)].toArray, .pointer (some ⟨D9, 0, none⟩), .tuple [.agg ((nums .u8 ((Dk.new 1).readP 1))).toArray, .int .i64 ((Dk.new 1).readE 1)].toArray, .agg ((nums .u8 ((Dk.new 1).readP 1))).toArray, .int .i64 ((Dk.new 1).readE 1), .pointer (some ⟨D9, 0, none⟩), .int .i64 ((Dk.new 1).pageE 0), .tuple [.agg ((nums .u8 (((Dk.new 1).spoil 0 true).readP 0))).toArray, .int .i64 (((Dk.new 1).spoil 0 true).readE 0)].toArray, .pointer (some ⟨D9, 0, none⟩), .tuple [.agg ((nums .u8 (((Dk.new 1).spoil 0 true).readP 0))).toArray, .int .i64 (((Dk.new 1).spoil 0 true).readE 0)].toArray, .agg ((nums .u8 (((Dk.new 1).spoil 0 true).readP 0))).toArray, .int .i64 (((Dk.new 1).spoil 0 true).readE 0), .pointer (some ⟨D9, 0, none⟩), .tuple [].toArray, .bool true, .bool true, .bool true, .bool true, .bool true, .bool true, .bool true, .bool true, .bool true, .bool true, .bool true, .bool true, .bool true, .bool true, .bool true, .bool true, .int .i64 ((Dk.new 1).readE 1), .bool true, .bool true, .bool true, .int .i64 ((Dk.new 1).pageE 0), .bool true, .bool true, .bool true, .int .i64 (((Dk.new 1).spoil 0 true).readE 0), .bool true, .bool true, .bool true, .pointer (some ⟨D9, 0, none⟩), .int .i64 ((((Dk.new 1).spoil 0 true).cut 0).actE), .bool true, .bool true, .bool true, .pointer (some ⟨D9, 0, none⟩), .bool true, .bool true, undef, undef, undef, undef, undef, undef, undef, undef, undef, undef]) _ (x_pick true (.bool true) (.bool false) (.bool true) rfl rfl rfl rfl rfl) rfl ?_
    refine p_run (l' := _) _ (x_move (.bool true) rfl rfl) rfl ?_
    refine p_on rfl (by rw [hops46]; rfl) ?_
    refine w_call [.int .i64 999] Try.func10 (by kernel_rfl) (by rfl) rfl ?_
    refine (new_any HS 999).mono ?_
    clear HS
    rintro e w55 ⟨D52, gs53, gm54, rfl, HS⟩
    have hgd56 := good_new 999
    refine ⟨_, rfl, ?_⟩
    refine p_on rfl (by rw [hops46]; rfl) ?_
    refine w_call [.pointer (some ⟨D52, 0, none⟩)] Try.func21 (by kernel_rfl) (by rfl) rfl ?_
    replace HS := ((((HS.front 3 rfl).front 3 rfl).front 3 rfl).front 3 rfl)
    refine (len_any HS).mono ?_
    rintro e w' ⟨rfl, rfl⟩
    refine ⟨_, rfl, ?_⟩
    refine p_on rfl (by rw [hops46]; rfl) ?_
    refine p_run (l' := [.bool false, .pointer (some ⟨D9, 0, none⟩), .pointer (some ⟨g19, 0, none⟩), .int .i64 ((Dk.new 1).readE 1), .int .i64 ((Dk.new 1).pageE 0), .pointer (some ⟨g34, 0, none⟩), .int .i64 (((Dk.new 1).spoil 0 true).readE 0), .pointer (some ⟨D9, 0, none⟩), .tuple [.agg ((nums .u8 ((Dk.new 1).readP 1))).toArray, .int .i64 ((Dk.new 1).readE 1)].toArray, .pointer (some ⟨D9, 0, none⟩), .tuple [.agg ((nums .u8 ((Dk.new 1).readP 1))).toArray, .int .i64 ((Dk.new 1).readE 1)].toArray, .agg ((nums .u8 ((Dk.new 1).readP 1))).toArray, .int .i64 ((Dk.new 1).readE 1), .pointer (some ⟨D9, 0, none⟩), .int .i64 ((Dk.new 1).pageE 0), .tuple [.agg ((nums .u8 (((Dk.new 1).spoil 0 true).readP 0))).toArray, .int .i64 (((Dk.new 1).spoil 0 true).readE 0)].toArray, .pointer (some ⟨D9, 0, none⟩), .tuple [.agg ((nums .u8 (((Dk.new 1).spoil 0 true).readP 0))).toArray, .int .i64 (((Dk.new 1).spoil 0 true).readE 0)].toArray, .agg ((nums .u8 (((Dk.new 1).spoil 0 true).readP 0))).toArray, .int .i64 (((Dk.new 1).spoil 0 true).readE 0), .pointer (some ⟨D9, 0, none⟩), .tuple [].toArray, .bool true, .bool true, .bool true, .bool true, .bool true, .bool true, .bool true, .bool true, .bool true, .bool true, .bool true, .bool true, .bool true, .bool true, .bool true, .bool true, .int .i64 ((Dk.new 1).readE 1), .bool true, .bool true, .bool true, .int .i64 ((Dk.new 1).pageE 0), .bool true, .bool true, .bool true, .int .i64 (((Dk.new 1).spoil 0 true).readE 0), .bool true, .bool true, .bool true, .pointer (some ⟨D9, 0, none⟩), .int .i64 ((((Dk.new 1).spoil 0 true).cut 0).actE), .bool true, .bool true, .bool true, .pointer (some ⟨D9, 0, none⟩), .bool true, .bool true, .bool true, .pointer (some ⟨D52, 0, none⟩), .int .i64 ((Dk.new 999).stable.length : Int), .bool true, undef, undef, undef, undef, undef, undef]) _ (x_cmp (k := .i64) (m := ((Dk.new 999).stable.length : Int)) (n := 244) .eql true rfl rfl rfl (by kernel_rfl) rfl) rfl ?_
    refine p_run (l' := _) _ (x_pick true (.bool true) (.bool false) (.bool true) rfl rfl rfl rfl rfl) rfl ?_
    refine p_run (l' := _) _ (x_move (.bool true) rfl rfl) rfl ?_
    refine p_on rfl (by rw [hops46]; rfl) ?_
    refine w_call [.int .i64 (-1)] Try.func10 (by kernel_rfl) (by rfl) rfl ?_
    refine (new_any HS (-1)).mono ?_
    clear HS
    rintro e w60 ⟨D57, gs58, gm59, rfl, HS⟩
    have hgd61 := good_new (-1)
    refine ⟨_, rfl, ?_⟩
    refine p_on rfl (by rw [hops46]; rfl) ?_
    refine w_call [.pointer (some ⟨D57, 0, none⟩)] Try.func21 (by kernel_rfl) (by rfl) rfl ?_
    replace HS := ((((HS.front 3 rfl).front 3 rfl).front 3 rfl).front 3 rfl)
    refine (len_any HS).mono ?_
    rintro e w' ⟨rfl, rfl⟩
    refine ⟨_, rfl, ?_⟩
    refine fr_to (l' := [.bool false, .pointer (some ⟨D9, 0, none⟩), .pointer (some ⟨g19, 0, none⟩), .int .i64 ((Dk.new 1).readE 1), .int .i64 ((Dk.new 1).pageE 0), .pointer (some ⟨g34, 0, none⟩), .int .i64 (((Dk.new 1).spoil 0 true).readE 0), .pointer (some ⟨D9, 0, none⟩), .tuple [.agg ((nums .u8 ((Dk.new 1).readP 1))).toArray, .int .i64 ((Dk.new 1).readE 1)].toArray, .pointer (some ⟨D9, 0, none⟩), .tuple [.agg ((nums .u8 ((Dk.new 1).readP 1))).toArray, .int .i64 ((Dk.new 1).readE 1)].toArray, .agg ((nums .u8 ((Dk.new 1).readP 1))).toArray, .int .i64 ((Dk.new 1).readE 1), .pointer (some ⟨D9, 0, none⟩), .int .i64 ((Dk.new 1).pageE 0), .tuple [.agg ((nums .u8 (((Dk.new 1).spoil 0 true).readP 0))).toArray, .int .i64 (((Dk.new 1).spoil 0 true).readE 0)].toArray, .pointer (some ⟨D9, 0, none⟩), .tuple [.agg ((nums .u8 (((Dk.new 1).spoil 0 true).readP 0))).toArray, .int .i64 (((Dk.new 1).spoil 0 true).readE 0)].toArray, .agg ((nums .u8 (((Dk.new 1).spoil 0 true).readP 0))).toArray, .int .i64 (((Dk.new 1).spoil 0 true).readE 0), .pointer (some ⟨D9, 0, none⟩), .tuple [].toArray, .bool true, .bool true, .bool true, .bool true, .bool true, .bool true, .bool true, .bool true, .bool true, .bool true, .bool true, .bool true, .bool true, .bool true, .bool true, .bool true, .int .i64 ((Dk.new 1).readE 1), .bool true, .bool true, .bool true, .int .i64 ((Dk.new 1).pageE 0), .bool true, .bool true, .bool true, .int .i64 (((Dk.new 1).spoil 0 true).readE 0), .bool true, .bool true, .bool true, .pointer (some ⟨D9, 0, none⟩), .int .i64 ((((Dk.new 1).spoil 0 true).cut 0).actE), .bool true, .bool true, .bool true, .pointer (some ⟨D9, 0, none⟩), .bool true, .bool true, .bool true, .pointer (some ⟨D52, 0, none⟩), .int .i64 ((Dk.new 999).stable.length : Int), .bool true, .bool true, .bool true, .pointer (some ⟨D57, 0, none⟩), .int .i64 ((Dk.new (-1)).stable.length : Int), undef, undef]) rfl ?_
    refine p_on rfl (by rw [hops46]; rfl) ?_
    refine p_run (l' := _) _ (x_cmp (k := .i64) (m := ((Dk.new (-1)).stable.length : Int)) (n := 0) .eql true rfl rfl rfl (by kernel_rfl) rfl) rfl ?_
    refine p_run (l' := _) _ (x_pick true (.bool true) (.bool false) (.bool true) rfl rfl rfl rfl rfl) rfl ?_
    refine p_run (l' := _) _ (x_assign (.bool true) rfl rfl) rfl ?_
    clear hops46
    refine wpList_nil ?_
    refine fr_at (l' := [.bool true, .pointer (some ⟨D9, 0, none⟩), .pointer (some ⟨g19, 0, none⟩), .int .i64 ((Dk.new 1).readE 1), .int .i64 ((Dk.new 1).pageE 0), .pointer (some ⟨g34, 0, none⟩), .int .i64 (((Dk.new 1).spoil 0 true).readE 0), .pointer (some ⟨D9, 0, none⟩), .tuple [.agg ((nums .u8 ((Dk.new 1).readP 1))).toArray, .int .i64 ((Dk.new 1).readE 1)].toArray, .pointer (some ⟨D9, 0, none⟩), .tuple [.agg ((nums .u8 ((Dk.new 1).readP 1))).toArray, .int .i64 ((Dk.new 1).readE 1)].toArray, .agg ((nums .u8 ((Dk.new 1).readP 1))).toArray, .int .i64 ((Dk.new 1).readE 1), .pointer (some ⟨D9, 0, none⟩), .int .i64 ((Dk.new 1).pageE 0), .tuple [.agg ((nums .u8 (((Dk.new 1).spoil 0 true).readP 0))).toArray, .int .i64 (((Dk.new 1).spoil 0 true).readE 0)].toArray, .pointer (some ⟨D9, 0, none⟩), .tuple [.agg ((nums .u8 (((Dk.new 1).spoil 0 true).readP 0))).toArray, .int .i64 (((Dk.new 1).spoil 0 true).readE 0)].toArray, .agg ((nums .u8 (((Dk.new 1).spoil 0 true).readP 0))).toArray, .int .i64 (((Dk.new 1).spoil 0 true).readE 0), .pointer (some ⟨D9, 0, none⟩), .tuple [].toArray, .bool true, .bool true, .bool true, .bool true, .bool true, .bool true, .bool true, .bool true, .bool true, .bool true, .bool true, .bool true, .bool true, .bool true, .bool true, .bool true, .int .i64 ((Dk.new 1).readE 1), .bool true, .bool true, .bool true, .int .i64 ((Dk.new 1).pageE 0), .bool true, .bool true, .bool true, .int .i64 (((Dk.new 1).spoil 0 true).readE 0), .bool true, .bool true, .bool true, .pointer (some ⟨D9, 0, none⟩), .int .i64 ((((Dk.new 1).spoil 0 true).cut 0).actE), .bool true, .bool true, .bool true, .pointer (some ⟨D9, 0, none⟩), .bool true, .bool true, .bool true, .pointer (some ⟨D52, 0, none⟩), .int .i64 ((Dk.new 999).stable.length : Int), .bool true, .bool true, .bool true, .pointer (some ⟨D57, 0, none⟩), .int .i64 ((Dk.new (-1)).stable.length : Int), .bool true, .bool true]) rfl ?_
    refine hK45 _ _ ?_
    refine wp_ret ?_
    try simp only [Exit.inBlock, Exit.then]
    refine c_ret (.bool true) (r_tmp rfl rfl) ?_
    exact ⟨rfl, HS.belowOf⟩

section
variable {S : Dk}
theorem sp_stable (i : Int) (b : Bool) : (S.spoil i b).stable = S.stable := by unfold Dk.spoil; split <;> (try split) <;> rfl
theorem wr_stable (i : Int) (p : List Int) : (S.write i p).stable = S.stable := by unfold Dk.write; split <;> (try split) <;> first | rfl | exact act_stable
theorem sy_length {n : Nat} (h : S.good n) : S.sync.stable.length = S.stable.length := by
  unfold Dk.sync
  split
  · have hg := good_act h
    have := (settleL_ok (fun _ => 255) S.act.pending 0 S.act.stable hg.ok.1 hg.ok.2.2.2.2).2
    show (settleL _ _ _ _).length = _
    rw [this, act_stable]
  · rw [act_stable]
theorem there_len {T : Dk} {i : Int} (h : S.stable.length = T.stable.length) : S.there i = T.there i := by unfold Dk.there; rw [h]
/-- Nothing counts the acts. -/
structure Dk.free (S : Dk) : Prop where
  lf : S.left = -1
  dn : S.down = false
theorem fre_acts (h : S.free) : S.acts = true := by unfold Dk.acts; rw [h.dn, h.lf]; rfl
theorem fre_act (h : S.free) : S.act = S := by
  unfold Dk.act
  rw [if_pos (fre_acts h)]
  obtain ⟨h1, h2⟩ := h
  cases S
  simp only at h1
  subst h1
  rfl
theorem fre_new (n : Int) : (Dk.new n).free := ⟨rfl, rfl⟩
theorem fre_write (h : S.free) {i : Int} (ht : S.there i = true) (p : List Int) : S.write i p = { S with pending := S.pending ++ [(i, p)] } := by
  unfold Dk.write
  rw [if_pos ht, if_pos (fre_acts h), fre_act h]
theorem fre_sync (h : S.free) : S.sync = S.settle (fun _ => 255) := by
  unfold Dk.sync
  rw [if_pos (fre_acts h), fre_act h]
theorem fre_writeE (h : S.free) {i : Int} (ht : S.there i = true) : S.writeE i = 0 := by unfold Dk.writeE; rw [if_pos ht, actE_eq, if_pos (fre_acts h)]
theorem fre_actE (h : S.free) : S.actE = 0 := by rw [actE_eq, if_pos (fre_acts h)]
theorem spoil_yes {i : Int} (ht : S.there i = true) : S.spoil i true = { S with bad := putF S.bad i (S.bad i + 1), cnt := S.cnt + 1 } := by unfold Dk.spoil; rw [if_pos ht, if_pos rfl]
theorem spoil_no {i : Int} (ht : S.there i = true) : S.spoil i false = { S with bad := putF S.bad i 0 } := by unfold Dk.spoil; rw [if_pos ht, if_neg (by decide)]
theorem mix_full {o x : List Int} (ho : o.length = 256) (hx : x.length = 256) : ∀ q, q ≤ 8 → mixS 255 o x q = x.take (q * 32) ++ o.drop (q * 32)
  | 0, _ => by simp [mixS]
  | q + 1, hq => by
    have ih := mix_full ho hx q (by omega)
    have hb : (255 : Int) / 2 ^ q % 2 = 1 := by
      have : q = 0 ∨ q = 1 ∨ q = 2 ∨ q = 3 ∨ q = 4 ∨ q = 5 ∨ q = 6 ∨ q = 7 := by omega
      rcases this with rfl | rfl | rfl | rfl | rfl | rfl | rfl | rfl <;> decide
    have hA : (x.take (q * 32)).length = q * 32 := by rw [List.length_take]; omega
    have e1 : (x.take (q * 32) ++ o.drop (q * 32)).take (q * 32) = x.take (q * 32) := List.take_left' hA
    have e2 : (x.take (q * 32) ++ o.drop (q * 32)).drop (q * 32 + 32) = o.drop ((q + 1) * 32) := by
      rw [List.drop_append, hA, List.drop_of_length_le (l := x.take (q * 32)) (by omega), List.nil_append, List.drop_drop]
      congr 1
      omega
    unfold mixS
    rw [if_pos hb, ih, e1, e2, ← List.take_add, show q * 32 + 32 = (q + 1) * 32 by omega]
theorem mix_all {o x : List Int} (ho : o.length = 256) (hx : x.length = 256) : mixS 255 o x 8 = x := by
  rw [mix_full ho hx 8 (Nat.le_refl _), List.take_of_length_le (by omega), List.drop_of_length_le (by omega), List.append_nil]
end
/-! DiskFaults, plain. -/
section
variable {i a b : Int}
theorem new10 (hi : 0 ≤ i ∧ i ≤ 9) : (Dk.new 10).there i = true := by
  have : (Dk.new 10).stable.length = 10 := rfl
  unfold Dk.there
  rw [this]
  exact decide_eq_true (by omega)
def G (i a : Int) (f : Int → Int) (p : List (Int × List Int)) (c : Nat) : Dk := { stable := (List.replicate 10 zpg).set i.toNat (rep a), bad := f, pending := p, left := -1, down := false, cnt := c }
theorem G_free (i a : Int) (f : Int → Int) (p : List (Int × List Int)) (c : Nat) : (G i a f p c).free := ⟨rfl, rfl⟩
theorem G_there (hi : 0 ≤ i ∧ i ≤ 9) (a : Int) (f : Int → Int) (p : List (Int × List Int)) (c : Nat) : (G i a f p c).there i = true := by
  unfold Dk.there G
  rw [List.length_set, List.length_replicate]
  exact decide_eq_true (by omega)
theorem G1 (hi : 0 ≤ i ∧ i ≤ 9) (a : Int) : ((Dk.new 10).write i (rep a)).sync = G i a (fun _ => 0) [] 0 := by
  rw [fre_write (fre_new 10) (new10 hi), fre_sync ⟨rfl, rfl⟩]
  unfold Dk.settle G
  have e : (List.replicate 10 zpg).getD i.toNat zpg = zpg := by rw [List.getD_eq_getElem?_getD, List.getElem?_replicate]; split <;> rfl
  have e2 : settleL (fun _ => 255) 0 [(i, rep a)] (List.replicate 10 zpg) = (List.replicate 10 zpg).set i.toNat (rep a) := by
    unfold settleL
    dsimp only
    rw [e, mix_all zlen (rep_len a)]
    rfl
  show ({ stable := settleL (fun _ => 255) 0 [(i, rep a)] (List.replicate 10 zpg), bad := _, pending := _, left := _, down := _, cnt := _ } : Dk) = _
  rw [e2]
  rfl
theorem G2 (hi : 0 ≤ i ∧ i ≤ 9) (a : Int) (f : Int → Int) (p : List (Int × List Int)) (c : Nat) : (G i a f p c).spoil i true = G i a (putF f i (f i + 1)) p (c + 1) := by rw [spoil_yes (G_there hi a f p c)]; rfl
theorem G3 (hi : 0 ≤ i ∧ i ≤ 9) (a b : Int) (f : Int → Int) (p : List (Int × List Int)) (c : Nat) : (G i a f p c).write i (rep b) = G i a f (p ++ [(i, rep b)]) c := by rw [fre_write (G_free i a f p c) (G_there hi a f p c)]; rfl
theorem G4 (hi : 0 ≤ i ∧ i ≤ 9) (a : Int) (f : Int → Int) (p : List (Int × List Int)) (c : Nat) : (G i a f p c).spoil i false = G i a (putF f i 0) p c := by rw [spoil_no (G_there hi a f p c)]; rfl
theorem G_at (hi : 0 ≤ i ∧ i ≤ 9) (a : Int) (f : Int → Int) (p : List (Int × List Int)) (c : Nat) : (G i a f p c).stabP i = rep a := by
  unfold Dk.stabP
  rw [if_pos (G_there hi a f p c)]
  unfold Dk.at
  show ((List.replicate 10 zpg).set i.toNat (rep a)).getD i.toNat zpg = _
  rw [List.getD_eq_getElem?_getD, List.getElem?_set_self (by rw [List.length_replicate]; omega)]
  rfl
theorem G_E (hi : 0 ≤ i ∧ i ≤ 9) (a : Int) (f : Int → Int) (p : List (Int × List Int)) (c : Nat) : (G i a f p c).pageE i = 0 := if_pos (G_there hi a f p c)
theorem put_same (f : Int → Int) (i z : Int) : putF f i z i = z := by unfold putF; rw [if_pos rfl]
theorem G_bad (hi : 0 ≤ i ∧ i ≤ 9) (a : Int) (f : Int → Int) (p : List (Int × List Int)) (c : Nat) (h : 0 < f i) : (G i a f p c).readE i = 43 := by unfold Dk.readE; rw [if_pos (G_there hi a f p c)]; exact if_pos h
theorem G_good (hi : 0 ≤ i ∧ i ≤ 9) (a b : Int) (f : Int → Int) (c : Nat) (h : f i = 0) : (G i a f [(i, rep b)] c).readP i = rep b ∧ (G i a f [(i, rep b)] c).readE i = 0 := by
  have hb : ¬ 0 < (G i a f [(i, rep b)] c).bad i := by show ¬ 0 < f i; omega
  unfold Dk.readP Dk.readE
  rw [if_pos (G_there hi a f _ c), if_pos (G_there hi a f _ c), if_neg hb, if_neg hb]
  exact ⟨by show lastW [(i, rep b)] i _ = _; simp [lastW], rfl⟩
end
end Go.Proofs.Ytjholgfaipfmbaa
