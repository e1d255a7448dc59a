/- LeafNames. -/
import Derived.Test.YtiokdpnhaemciaaL8a
set_option linter.unusedVariables false
set_option linter.unusedSimpArgs false
namespace Go.Proofs.Ytiokdpnhaemciaa
open Go.RowKit Go.Proofs.YtiokdpnhaemciaaW.PrintWords Go.Proofs.YtiokdpnhaemciaaW.PrintLast Crc
theorem z_page : lfE 0 zK [] = 81 := by kernel_rfl
theorem z_open : opE zQ = 81 := (op_no (by kernel_rfl : okN zQ = false)).2.2.2

set_option maxRecDepth 10000 in
set_option maxHeartbeats 2000000 in
theorem leafNames_any (w : World) : Calls Try.prog 8 #[] w fun e w' => e = .returned (.bool true) ∧ Below w.heap.size w w' := by
  have HS := St.empty w
  · skip
    refine c_enter Try.func8 rfl 42 rfl [undef, undef, undef, undef, undef, undef, undef, undef, undef, undef, undef, undef, undef, undef, undef, undef, undef, undef, undef, undef, undef, undef, undef, undef, undef, undef, undef, undef, undef, undef, undef, undef, undef, undef, undef, undef, undef, undef, undef, undef, undef, undef] rfl ?_
    refine wp_seq_k (fun K1 hK2 => ?_)
    refine c_region (fun ops4 hops3 => ?_)
    clear hops3
    refine p_run (l' := _) _ (x_assign (.bool false) rfl rfl) rfl ?_
    refine wpList_nil ?_
    refine fr_at (l' := [.bool false, undef, undef, undef, undef, undef, undef, undef, undef, undef, undef, undef, undef, undef, undef, undef, undef, undef, undef, undef, undef, undef, undef, undef, undef, undef, undef, undef, undef, undef, undef, undef, undef, undef, undef, undef, undef, undef, undef, undef, undef, undef]) rfl ?_
    refine hK2 _ _ ?_
    refine wp_seq_k (fun K5 hK6 => ?_)
    refine c_region (fun ops8 hops7 => ?_)
    clear hops7
    refine p_run (l' := _) _ (x_build (Value.int .i64 0 :: ((nums .u8 (zK.map bv)) ++ ([Value.slice none 0 0]))) rfl (by kernel_rfl)) rfl ?_
    refine w_call [.agg (Value.int .i64 0 :: ((nums .u8 (zK.map bv)) ++ ([Value.slice none 0 0]))).toArray] Try.func23 (by kernel_rfl) (by rfl) rfl ?_
    refine (lpage_any _ 0 zK zK_len none 0 [] (en_nil _) (by decide)).mono ?_
    rintro e w9 ⟨rfl, hb_⟩
    replace HS := HS.here hb_
    clear hb_
    refine ⟨_, rfl, ?_⟩
    refine p_run (l' := _) _ (x_move (.tuple [.agg ((nums .u8 ((lfP 0 zK []).map bv))).toArray, .int .i64 (lfE 0 zK [])].toArray) rfl rfl) rfl ?_
    refine p_run (l' := [.bool false, undef, undef, undef, undef, .tuple [.agg ((nums .u8 ((lfP 0 zK []).map bv))).toArray, .int .i64 (lfE 0 zK [])].toArray, .agg (Value.int .i64 0 :: ((nums .u8 (zK.map bv)) ++ ([Value.slice none 0 0]))).toArray, .tuple [.agg ((nums .u8 ((lfP 0 zK []).map bv))).toArray, .int .i64 (lfE 0 zK [])].toArray, .agg ((nums .u8 ((lfP 0 zK []).map bv))).toArray, undef, undef, undef, undef, undef, undef, undef, undef, undef, undef, undef, undef, undef, undef, undef, undef, undef, undef, undef, undef, undef, undef, undef, undef, undef, undef, undef, undef, undef, undef, undef, undef, undef]) _ (x_extract (vs := [.agg ((nums .u8 ((lfP 0 zK []).map bv))).toArray, .int .i64 (lfE 0 zK [])]) 0 (.agg ((nums .u8 ((lfP 0 zK []).map bv))).toArray) rfl rfl rfl) rfl ?_
    refine p_run (l' := _) _ (x_extract (vs := [.agg ((nums .u8 ((lfP 0 zK []).map bv))).toArray, .int .i64 (lfE 0 zK [])]) 1 (.int .i64 (lfE 0 zK [])) rfl rfl rfl) rfl ?_
    refine St.wAlloc HS (cs := ((nums .u8 (zQ.map bv)))) (.agg ((nums .u8 (zQ.map bv))).toArray) (by kernel_rfl) rfl ?_
    clear HS
    intro g10 w11 hg12 HS
    refine St.stores (cs' := ((nums .u8 ((lfP 0 zK []).map bv)))) HS ((nums .u8 ((lfP 0 zK []).map bv))) 256 rfl rfl (nums_one _ _) (by kernel_rfl) (by simp [(lfP_len 0 zK_len []), List.length_map, nums_length]) (by simp [(lfP_len 0 zK_len []), List.length_map, nums_length, zQ_len]) (lay_all _ _ (by simp [(lfP_len 0 zK_len []), List.length_map, nums_length, zQ_len])) ?_
    clear HS
    intro w13 HS
    refine p_run (l' := _) _ (x_assign (.int .i64 (lfE 0 zK [])) rfl rfl) rfl ?_
    refine wpList_nil ?_
    refine fr_at (l' := [.bool false, .pointer (some ⟨g10, 0, none⟩), .int .i64 (lfE 0 zK []), undef, undef, .tuple [.agg ((nums .u8 ((lfP 0 zK []).map bv))).toArray, .int .i64 (lfE 0 zK [])].toArray, .agg (Value.int .i64 0 :: ((nums .u8 (zK.map bv)) ++ ([Value.slice none 0 0]))).toArray, .tuple [.agg ((nums .u8 ((lfP 0 zK []).map bv))).toArray, .int .i64 (lfE 0 zK [])].toArray, .agg ((nums .u8 ((lfP 0 zK []).map bv))).toArray, .int .i64 (lfE 0 zK []), undef, undef, undef, undef, undef, undef, undef, undef, undef, undef, undef, undef, undef, undef, undef, undef, undef, undef, undef, undef, undef, undef, undef, undef, undef, undef, undef, undef, undef, undef, undef, undef]) rfl ?_
    refine hK6 _ _ ?_
    refine wp_seq_k (fun K14 hK15 => ?_)
    refine c_region (fun ops17 hops16 => ?_)
    clear hops16
    refine p_run (l' := _) _ (x_build ((nums .u8 (zQ.map bv))) rfl (by kernel_rfl)) rfl ?_
    refine w_call [.agg ((nums .u8 (zQ.map bv))).toArray] Try.func24 (by kernel_rfl) (by rfl) rfl ?_
    refine (lopen_any _ zQ zQ_len).mono ?_
    rintro e w20 ⟨oa18, nc19, rfl, hk_⟩
    replace HS := HS.more hk_
    clear hk_
    refine ⟨_, rfl, ?_⟩
    refine p_run (l' := _) _ (x_move (.tuple [.agg (Value.int .i64 (opK zQ) :: ((nums .u8 ((opB zQ).map bv)) ++ ([Value.slice oa18 ((opS zQ).length) nc19]))).toArray, .int .i64 (opE zQ)].toArray) rfl rfl) rfl ?_
    refine p_run (l' := [.bool false, .pointer (some ⟨g10, 0, none⟩), .int .i64 (lfE 0 zK []), undef, undef, .tuple [.agg ((nums .u8 ((lfP 0 zK []).map bv))).toArray, .int .i64 (lfE 0 zK [])].toArray, .agg (Value.int .i64 0 :: ((nums .u8 (zK.map bv)) ++ ([Value.slice none 0 0]))).toArray, .tuple [.agg ((nums .u8 ((lfP 0 zK []).map bv))).toArray, .int .i64 (lfE 0 zK [])].toArray, .agg ((nums .u8 ((lfP 0 zK []).map bv))).toArray, .int .i64 (lfE 0 zK []), .tuple [.agg (Value.int .i64 (opK zQ) :: ((nums .u8 ((opB zQ).map bv)) ++ ([Value.slice oa18 ((opS zQ).length) nc19]))).toArray, .int .i64 (opE zQ)].toArray, .agg ((nums .u8 (zQ.map bv))).toArray, .tuple [.agg (Value.int .i64 (opK zQ) :: ((nums .u8 ((opB zQ).map bv)) ++ ([Value.slice oa18 ((opS zQ).length) nc19]))).toArray, .int .i64 (opE zQ)].toArray, .agg (Value.int .i64 (opK zQ) :: ((nums .u8 ((opB zQ).map bv)) ++ ([Value.slice oa18 ((opS zQ).length) nc19]))).toArray, undef, undef, undef, undef, undef, undef, undef, undef, undef, undef, undef, undef, undef, undef, undef, undef, undef, undef, undef, undef, undef, undef, undef, undef, undef, undef, undef, undef]) _ (x_extract (vs := [.agg (Value.int .i64 (opK zQ) :: ((nums .u8 ((opB zQ).map bv)) ++ ([Value.slice oa18 ((opS zQ).length) nc19]))).toArray, .int .i64 (opE zQ)]) 0 (.agg (Value.int .i64 (opK zQ) :: ((nums .u8 ((opB zQ).map bv)) ++ ([Value.slice oa18 ((opS zQ).length) nc19]))).toArray) rfl rfl rfl) rfl ?_
    refine p_run (l' := _) _ (x_extract (vs := [.agg (Value.int .i64 (opK zQ) :: ((nums .u8 ((opB zQ).map bv)) ++ ([Value.slice oa18 ((opS zQ).length) nc19]))).toArray, .int .i64 (opE zQ)]) 1 (.int .i64 (opE zQ)) rfl rfl rfl) rfl ?_
    refine St.wAlloc HS (cs := (Value.int .i64 0 :: ((nums .u8 (zK.map bv)) ++ ([Value.slice none 0 0])))) (.agg (Value.int .i64 0 :: ((nums .u8 (zK.map bv)) ++ ([Value.slice none 0 0]))).toArray) (by kernel_rfl) rfl ?_
    clear HS
    intro g21 w22 hg23 HS
    refine St.stores (cs' := (Value.int .i64 (opK zQ) :: ((nums .u8 ((opB zQ).map bv)) ++ ([Value.slice oa18 ((opS zQ).length) nc19])))) HS (Value.int .i64 (opK zQ) :: ((nums .u8 ((opB zQ).map bv)) ++ ([Value.slice oa18 ((opS zQ).length) nc19]))) 18 rfl rfl (all1 rfl (allA (nums_one _ _) (all1 rfl rfl))) (by kernel_rfl) (by simp [(opB_len zQ_len), List.length_map, nums_length]) (by simp [(opB_len zQ_len), List.length_map, nums_length, zK_len]) (lay_all _ _ (by simp [(opB_len zQ_len), List.length_map, nums_length, zK_len])) ?_
    clear HS
    intro w24 HS
    refine p_run (l' := _) _ (x_assign (.int .i64 (opE zQ)) rfl rfl) rfl ?_
    refine wpList_nil ?_
    refine fr_at (l' := [.bool false, .pointer (some ⟨g10, 0, none⟩), .int .i64 (lfE 0 zK []), .pointer (some ⟨g21, 0, none⟩), .int .i64 (opE zQ), .tuple [.agg ((nums .u8 ((lfP 0 zK []).map bv))).toArray, .int .i64 (lfE 0 zK [])].toArray, .agg (Value.int .i64 0 :: ((nums .u8 (zK.map bv)) ++ ([Value.slice none 0 0]))).toArray, .tuple [.agg ((nums .u8 ((lfP 0 zK []).map bv))).toArray, .int .i64 (lfE 0 zK [])].toArray, .agg ((nums .u8 ((lfP 0 zK []).map bv))).toArray, .int .i64 (lfE 0 zK []), .tuple [.agg (Value.int .i64 (opK zQ) :: ((nums .u8 ((opB zQ).map bv)) ++ ([Value.slice oa18 ((opS zQ).length) nc19]))).toArray, .int .i64 (opE zQ)].toArray, .agg ((nums .u8 (zQ.map bv))).toArray, .tuple [.agg (Value.int .i64 (opK zQ) :: ((nums .u8 ((opB zQ).map bv)) ++ ([Value.slice oa18 ((opS zQ).length) nc19]))).toArray, .int .i64 (opE zQ)].toArray, .agg (Value.int .i64 (opK zQ) :: ((nums .u8 ((opB zQ).map bv)) ++ ([Value.slice oa18 ((opS zQ).length) nc19]))).toArray, .int .i64 (opE zQ), undef, undef, undef, undef, undef, undef, undef, undef, undef, undef, undef, undef, undef, undef, undef, undef, undef, undef, undef, undef, undef, undef, undef, undef, undef, undef, undef]) rfl ?_
    refine hK15 _ _ ?_
    refine wp_seq_k (fun K25 hK26 => ?_)
    refine c_region (fun ops28 hops27 => ?_)
    refine w_call [] Try.func25 (by kernel_rfl) (by rfl) rfl ?_
    refine (lalive_any _).mono ?_
    rintro e w29 ⟨rfl, hb_⟩
    replace HS := HS.here hb_
    clear hb_
    refine ⟨_, rfl, ?_⟩
    refine p_run (l' := _) _ (x_move (.bool true) rfl rfl) rfl ?_
    refine p_run (l' := _) _ (x_pick true (.bool true) (.bool false) (.bool true) rfl rfl rfl rfl rfl) rfl ?_
    refine p_run (l' := [.bool false, .pointer (some ⟨g10, 0, none⟩), .int .i64 (lfE 0 zK []), .pointer (some ⟨g21, 0, none⟩), .int .i64 (opE zQ), .tuple [.agg ((nums .u8 ((lfP 0 zK []).map bv))).toArray, .int .i64 (lfE 0 zK [])].toArray, .agg (Value.int .i64 0 :: ((nums .u8 (zK.map bv)) ++ ([Value.slice none 0 0]))).toArray, .tuple [.agg ((nums .u8 ((lfP 0 zK []).map bv))).toArray, .int .i64 (lfE 0 zK [])].toArray, .agg ((nums .u8 ((lfP 0 zK []).map bv))).toArray, .int .i64 (lfE 0 zK []), .tuple [.agg (Value.int .i64 (opK zQ) :: ((nums .u8 ((opB zQ).map bv)) ++ ([Value.slice oa18 ((opS zQ).length) nc19]))).toArray, .int .i64 (opE zQ)].toArray, .agg ((nums .u8 (zQ.map bv))).toArray, .tuple [.agg (Value.int .i64 (opK zQ) :: ((nums .u8 ((opB zQ).map bv)) ++ ([Value.slice oa18 ((opS zQ).length) nc19]))).toArray, .int .i64 (opE zQ)].toArray, .agg (Value.int .i64 (opK zQ) :: ((nums .u8 ((opB zQ).map bv)) ++ ([Value.slice oa18 ((opS zQ).length) nc19]))).toArray, .int .i64 (opE zQ), .bool true, .bool true, .bool true, .bool true, undef, undef, undef, undef, undef, undef, undef, undef, undef, undef, undef, undef, undef, undef, undef, undef, undef, undef, undef, undef, undef, undef, undef]) _ (x_move (.bool true) rfl rfl) rfl ?_
    refine p_run (l' := _) _ (x_pick true (.bool true) (.bool false) (.bool true) rfl rfl rfl rfl rfl) rfl ?_
    refine p_run (l' := _) _ (x_move (.bool true) rfl rfl) rfl ?_
    refine p_run (l' := _) _ (x_pick true (.bool true) (.bool false) (.bool true) rfl rfl rfl rfl rfl) rfl ?_
    refine p_run (l' := [.bool false, .pointer (some ⟨g10, 0, none⟩), .int .i64 (lfE 0 zK []), .pointer (some ⟨g21, 0, none⟩), .int .i64 (opE zQ), .tuple [.agg ((nums .u8 ((lfP 0 zK []).map bv))).toArray, .int .i64 (lfE 0 zK [])].toArray, .agg (Value.int .i64 0 :: ((nums .u8 (zK.map bv)) ++ ([Value.slice none 0 0]))).toArray, .tuple [.agg ((nums .u8 ((lfP 0 zK []).map bv))).toArray, .int .i64 (lfE 0 zK [])].toArray, .agg ((nums .u8 ((lfP 0 zK []).map bv))).toArray, .int .i64 (lfE 0 zK []), .tuple [.agg (Value.int .i64 (opK zQ) :: ((nums .u8 ((opB zQ).map bv)) ++ ([Value.slice oa18 ((opS zQ).length) nc19]))).toArray, .int .i64 (opE zQ)].toArray, .agg ((nums .u8 (zQ.map bv))).toArray, .tuple [.agg (Value.int .i64 (opK zQ) :: ((nums .u8 ((opB zQ).map bv)) ++ ([Value.slice oa18 ((opS zQ).length) nc19]))).toArray, .int .i64 (opE zQ)].toArray, .agg (Value.int .i64 (opK zQ) :: ((nums .u8 ((opB zQ).map bv)) ++ ([Value.slice oa18 ((opS zQ).length) nc19]))).toArray, .int .i64 (opE zQ), .bool true, .bool true, .bool true, .bool true, .bool true, .bool true, .bool true, .bool true, undef, undef, undef, undef, undef, undef, undef, undef, undef, undef, undef, undef, undef, undef, undef, undef, undef, undef, undef]) _ (x_move (.bool true) rfl rfl) rfl ?_
    refine p_run (l' := _) _ (x_pick true (.bool true) (.bool false) (.bool true) rfl rfl rfl rfl rfl) rfl ?_
    refine p_run (l' := _) _ (x_move (.bool true) rfl rfl) rfl ?_
    refine p_run (l' := _) _ (x_pick true (.bool true) (.bool false) (.bool true) rfl rfl rfl rfl rfl) rfl ?_
    refine p_run (l' := [.bool false, .pointer (some ⟨g10, 0, none⟩), .int .i64 (lfE 0 zK []), .pointer (some ⟨g21, 0, none⟩), .int .i64 (opE zQ), .tuple [.agg ((nums .u8 ((lfP 0 zK []).map bv))).toArray, .int .i64 (lfE 0 zK [])].toArray, .agg (Value.int .i64 0 :: ((nums .u8 (zK.map bv)) ++ ([Value.slice none 0 0]))).toArray, .tuple [.agg ((nums .u8 ((lfP 0 zK []).map bv))).toArray, .int .i64 (lfE 0 zK [])].toArray, .agg ((nums .u8 ((lfP 0 zK []).map bv))).toArray, .int .i64 (lfE 0 zK []), .tuple [.agg (Value.int .i64 (opK zQ) :: ((nums .u8 ((opB zQ).map bv)) ++ ([Value.slice oa18 ((opS zQ).length) nc19]))).toArray, .int .i64 (opE zQ)].toArray, .agg ((nums .u8 (zQ.map bv))).toArray, .tuple [.agg (Value.int .i64 (opK zQ) :: ((nums .u8 ((opB zQ).map bv)) ++ ([Value.slice oa18 ((opS zQ).length) nc19]))).toArray, .int .i64 (opE zQ)].toArray, .agg (Value.int .i64 (opK zQ) :: ((nums .u8 ((opB zQ).map bv)) ++ ([Value.slice oa18 ((opS zQ).length) nc19]))).toArray, .int .i64 (opE zQ), .bool true, .bool true, .bool true, .bool true, .bool true, .bool true, .bool true, .bool true, .bool true, .bool true, .bool true, .bool true, undef, undef, undef, undef, undef, undef, undef, undef, undef, undef, undef, undef, undef, undef, undef]) _ (x_move (.bool true) rfl rfl) rfl ?_
    refine p_run (l' := _) _ (x_pick true (.bool true) (.bool false) (.bool true) rfl rfl rfl rfl rfl) rfl ?_
    refine p_run (l' := _) _ (x_move (.bool true) rfl rfl) rfl ?_
    refine p_run (l' := _) _ (x_pick true (.bool true) (.bool false) (.bool true) rfl rfl rfl rfl rfl) rfl ?_
    refine p_run (l' := [.bool false, .pointer (some ⟨g10, 0, none⟩), .int .i64 (lfE 0 zK []), .pointer (some ⟨g21, 0, none⟩), .int .i64 (opE zQ), .tuple [.agg ((nums .u8 ((lfP 0 zK []).map bv))).toArray, .int .i64 (lfE 0 zK [])].toArray, .agg (Value.int .i64 0 :: ((nums .u8 (zK.map bv)) ++ ([Value.slice none 0 0]))).toArray, .tuple [.agg ((nums .u8 ((lfP 0 zK []).map bv))).toArray, .int .i64 (lfE 0 zK [])].toArray, .agg ((nums .u8 ((lfP 0 zK []).map bv))).toArray, .int .i64 (lfE 0 zK []), .tuple [.agg (Value.int .i64 (opK zQ) :: ((nums .u8 ((opB zQ).map bv)) ++ ([Value.slice oa18 ((opS zQ).length) nc19]))).toArray, .int .i64 (opE zQ)].toArray, .agg ((nums .u8 (zQ.map bv))).toArray, .tuple [.agg (Value.int .i64 (opK zQ) :: ((nums .u8 ((opB zQ).map bv)) ++ ([Value.slice oa18 ((opS zQ).length) nc19]))).toArray, .int .i64 (opE zQ)].toArray, .agg (Value.int .i64 (opK zQ) :: ((nums .u8 ((opB zQ).map bv)) ++ ([Value.slice oa18 ((opS zQ).length) nc19]))).toArray, .int .i64 (opE zQ), .bool true, .bool true, .bool true, .bool true, .bool true, .bool true, .bool true, .bool true, .bool true, .bool true, .bool true, .bool true, .bool true, .bool true, .bool true, .bool true, undef, undef, undef, undef, undef, undef, undef, undef, undef, undef, undef]) _ (x_move (.bool true) rfl rfl) rfl ?_
    refine p_run (l' := _) _ (x_pick true (.bool true) (.bool false) (.bool true) rfl rfl rfl rfl rfl) rfl ?_
    refine p_run (l' := _) _ (x_move (.bool true) rfl rfl) rfl ?_
    refine p_run (l' := _) _ (x_pick true (.bool true) (.bool false) (.bool true) rfl rfl rfl rfl rfl) rfl ?_
    refine p_run (l' := [.bool false, .pointer (some ⟨g10, 0, none⟩), .int .i64 (lfE 0 zK []), .pointer (some ⟨g21, 0, none⟩), .int .i64 (opE zQ), .tuple [.agg ((nums .u8 ((lfP 0 zK []).map bv))).toArray, .int .i64 (lfE 0 zK [])].toArray, .agg (Value.int .i64 0 :: ((nums .u8 (zK.map bv)) ++ ([Value.slice none 0 0]))).toArray, .tuple [.agg ((nums .u8 ((lfP 0 zK []).map bv))).toArray, .int .i64 (lfE 0 zK [])].toArray, .agg ((nums .u8 ((lfP 0 zK []).map bv))).toArray, .int .i64 (lfE 0 zK []), .tuple [.agg (Value.int .i64 (opK zQ) :: ((nums .u8 ((opB zQ).map bv)) ++ ([Value.slice oa18 ((opS zQ).length) nc19]))).toArray, .int .i64 (opE zQ)].toArray, .agg ((nums .u8 (zQ.map bv))).toArray, .tuple [.agg (Value.int .i64 (opK zQ) :: ((nums .u8 ((opB zQ).map bv)) ++ ([Value.slice oa18 ((opS zQ).length) nc19]))).toArray, .int .i64 (opE zQ)].toArray, .agg (Value.int .i64 (opK zQ) :: ((nums .u8 ((opB zQ).map bv)) ++ ([Value.slice oa18 ((opS zQ).length) nc19]))).toArray, .int .i64 (opE zQ), .bool true, .bool true, .bool true, .bool true, .bool true, .bool true, .bool true, .bool true, .bool true, .bool true, .bool true, .bool true, .bool true, .bool true, .bool true, .bool true, .bool true, .bool true, .bool true, .bool true, undef, undef, undef, undef, undef, undef, undef]) _ (x_move (.bool true) rfl rfl) rfl ?_
    refine p_on rfl (by rw [hops27]; rfl) ?_
    refine p_run (l' := _) _ (x_move (.int .i64 (lfE 0 zK [])) rfl rfl) rfl ?_
    refine p_on rfl (by rw [hops27]; rfl) ?_
    refine p_run (l' := _) _ (x_cmp (k := .i64) (m := (lfE 0 zK [])) (n := 81) .eql true rfl rfl rfl (cmp_yes z_page) rfl) rfl ?_
    refine p_run (l' := _) _ (x_pick true (.bool true) (.bool false) (.bool true) rfl rfl rfl rfl rfl) rfl ?_
    refine p_run (l' := [.bool false, .pointer (some ⟨g10, 0, none⟩), .int .i64 (lfE 0 zK []), .pointer (some ⟨g21, 0, none⟩), .int .i64 (opE zQ), .tuple [.agg ((nums .u8 ((lfP 0 zK []).map bv))).toArray, .int .i64 (lfE 0 zK [])].toArray, .agg (Value.int .i64 0 :: ((nums .u8 (zK.map bv)) ++ ([Value.slice none 0 0]))).toArray, .tuple [.agg ((nums .u8 ((lfP 0 zK []).map bv))).toArray, .int .i64 (lfE 0 zK [])].toArray, .agg ((nums .u8 ((lfP 0 zK []).map bv))).toArray, .int .i64 (lfE 0 zK []), .tuple [.agg (Value.int .i64 (opK zQ) :: ((nums .u8 ((opB zQ).map bv)) ++ ([Value.slice oa18 ((opS zQ).length) nc19]))).toArray, .int .i64 (opE zQ)].toArray, .agg ((nums .u8 (zQ.map bv))).toArray, .tuple [.agg (Value.int .i64 (opK zQ) :: ((nums .u8 ((opB zQ).map bv)) ++ ([Value.slice oa18 ((opS zQ).length) nc19]))).toArray, .int .i64 (opE zQ)].toArray, .agg (Value.int .i64 (opK zQ) :: ((nums .u8 ((opB zQ).map bv)) ++ ([Value.slice oa18 ((opS zQ).length) nc19]))).toArray, .int .i64 (opE zQ), .bool true, .bool true, .bool true, .bool true, .bool true, .bool true, .bool true, .bool true, .bool true, .bool true, .bool true, .bool true, .bool true, .bool true, .bool true, .bool true, .bool true, .bool true, .bool true, .bool true, .int .i64 (lfE 0 zK []), .bool true, .bool true, .bool true, undef, undef, undef]) _ (x_move (.bool true) rfl rfl) rfl ?_
    refine p_on rfl (by rw [hops27]; rfl) ?_
    refine p_run (l' := _) _ (x_move (.int .i64 (opE zQ)) rfl rfl) rfl ?_
    refine p_on rfl (by rw [hops27]; rfl) ?_
    refine p_run (l' := _) _ (x_cmp (k := .i64) (m := (opE zQ)) (n := 81) .eql true rfl rfl rfl (cmp_yes z_open) rfl) rfl ?_
    refine p_run (l' := _) _ (x_pick true (.bool true) (.bool false) (.bool true) rfl rfl rfl rfl rfl) rfl ?_
    refine p_run (l' := [.bool true, .pointer (some ⟨g10, 0, none⟩), .int .i64 (lfE 0 zK []), .pointer (some ⟨g21, 0, none⟩), .int .i64 (opE zQ), .tuple [.agg ((nums .u8 ((lfP 0 zK []).map bv))).toArray, .int .i64 (lfE 0 zK [])].toArray, .agg (Value.int .i64 0 :: ((nums .u8 (zK.map bv)) ++ ([Value.slice none 0 0]))).toArray, .tuple [.agg ((nums .u8 ((lfP 0 zK []).map bv))).toArray, .int .i64 (lfE 0 zK [])].toArray, .agg ((nums .u8 ((lfP 0 zK []).map bv))).toArray, .int .i64 (lfE 0 zK []), .tuple [.agg (Value.int .i64 (opK zQ) :: ((nums .u8 ((opB zQ).map bv)) ++ ([Value.slice oa18 ((opS zQ).length) nc19]))).toArray, .int .i64 (opE zQ)].toArray, .agg ((nums .u8 (zQ.map bv))).toArray, .tuple [.agg (Value.int .i64 (opK zQ) :: ((nums .u8 ((opB zQ).map bv)) ++ ([Value.slice oa18 ((opS zQ).length) nc19]))).toArray, .int .i64 (opE zQ)].toArray, .agg (Value.int .i64 (opK zQ) :: ((nums .u8 ((opB zQ).map bv)) ++ ([Value.slice oa18 ((opS zQ).length) nc19]))).toArray, .int .i64 (opE zQ), .bool true, .bool true, .bool true, .bool true, .bool true, .bool true, .bool true, .bool true, .bool true, .bool true, .bool true, .bool true, .bool true, .bool true, .bool true, .bool true, .bool true, .bool true, .bool true, .bool true, .int .i64 (lfE 0 zK []), .bool true, .bool true, .bool true, .int .i64 (opE zQ), .bool true, .bool true]) _ (x_assign (.bool true) rfl rfl) rfl ?_
    clear hops27
    refine wpList_nil ?_
    refine hK26 _ _ ?_
    refine wp_ret ?_
    try simp only [Exit.inBlock, Exit.then]
    refine c_ret (.bool true) (r_tmp rfl rfl) ?_
    exact ⟨rfl, HS.belowOf⟩
end Go.Proofs.Ytiokdpnhaemciaa
