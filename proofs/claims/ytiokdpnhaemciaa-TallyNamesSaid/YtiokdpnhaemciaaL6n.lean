/- TallyNames. -/
import Derived.Test.YtiokdpnhaemciaaTal3
set_option linter.unusedVariables false
set_option linter.unusedSimpArgs false
namespace Go.Proofs.Ytiokdpnhaemciaa
open Go.RowKit Go.Proofs.YtiokdpnhaemciaaW.PrintWords Go.Proofs.YtiokdpnhaemciaaW.PrintLast Crc
def zQ : List UInt8 := List.replicate 256 0
theorem zQ_len : zQ.length = 256 := List.length_replicate
theorem n_bad : (Dk.new 2).readE (tlA 4) = 41 := by kernel_rfl
theorem n_ok : (Dk.new 4).readE (tlA 4) = 0 := by kernel_rfl
theorem n_zero : (Dk.new 4).readP (tlA 4) = zQ.map bv := by kernel_rfl
theorem n_none : tlE 4 zQ = 61 := tE_no (by
  rcases h : tlOk 4 zQ with _ | _
  · rfl
  · exact absurd (ok_gen h) (by decide +kernel))
theorem n_a4 : tlA 4 = 2 := by kernel_rfl
theorem n_a5 : tlA 5 = 3 := by kernel_rfl

set_option maxRecDepth 10000 in
set_option maxHeartbeats 2000000 in
theorem tnames_law (w : World) : Calls Try.prog 6 #[] w fun e w' => e = .returned (.bool true) ∧ Below w.heap.size w w' := by
  have HS := St.empty w
  · skip
    refine c_enter Try.func6 rfl 40 rfl [undef, undef, undef, undef, undef, undef, undef, undef, undef, undef, undef, undef, undef, undef, undef, undef, undef, undef, undef, undef, undef, undef, undef, undef, undef, undef, undef, undef, undef, undef, undef, undef, undef, undef, undef, undef, undef, undef, undef, undef] rfl ?_
    refine wp_seq_k (fun K1 hK2 => ?_)
    refine c_region (fun ops4 hops3 => ?_)
    clear hops3
    refine p_run (l' := _) _ (x_assign (.bool false) rfl rfl) rfl ?_
    refine wpList_nil ?_
    refine fr_at (l' := [.bool false, undef, undef, undef, undef, undef, undef, undef, undef, undef, undef, undef, undef, undef, undef, undef, undef, undef, undef, undef, undef, undef, undef, undef, undef, undef, undef, undef, undef, undef, undef, undef, undef, undef, undef, undef, undef, undef, undef, undef]) rfl ?_
    refine hK2 _ _ ?_
    refine wp_seq_k (fun K5 hK6 => ?_)
    refine c_region (fun ops8 hops7 => ?_)
    clear hops7
    refine w_call [.int .i64 2] Try.func21 (by kernel_rfl) (by rfl) rfl ?_
    refine (new_any HS 2).mono ?_
    clear HS
    rintro e w12 ⟨D9, gs10, gm11, rfl, HS⟩
    have hgd13 := good_new 2
    refine ⟨_, rfl, ?_⟩
    refine w_call [.pointer (some ⟨D9, 0, none⟩), .int .u64 4] Try.func20 (by kernel_rfl) (by rfl) rfl ?_
    replace HS := ((((HS.front 3 rfl).front 3 rfl).front 3 rfl).front 3 rfl)
    refine (tread_bad HS hgd13 (by omega) (4 : UInt64) 41 n_bad (by decide)).mono ?_
    clear HS
    rintro e w14 ⟨rfl, HS⟩
    refine ⟨_, rfl, ?_⟩
    refine p_run (l' := _) _ (x_move (.tuple [.agg ((nums .u8 (zB.map bv))).toArray, .int .i64 41].toArray) rfl rfl) rfl ?_
    refine p_run (l' := [.bool false, undef, undef, undef, undef, .tuple [.agg ((nums .u8 (zB.map bv))).toArray, .int .i64 41].toArray, .pointer (some ⟨D9, 0, none⟩), .tuple [.agg ((nums .u8 (zB.map bv))).toArray, .int .i64 41].toArray, .agg ((nums .u8 (zB.map bv))).toArray, undef, undef, undef, undef, undef, undef, undef, undef, undef, undef, undef, undef, undef, undef, undef, undef, undef, undef, undef, undef, undef, undef, undef, undef, undef, undef, undef, undef, undef, undef, undef]) _ (x_extract (vs := [.agg ((nums .u8 (zB.map bv))).toArray, .int .i64 41]) 0 (.agg ((nums .u8 (zB.map bv))).toArray) rfl rfl rfl) rfl ?_
    refine p_run (l' := _) _ (x_extract (vs := [.agg ((nums .u8 (zB.map bv))).toArray, .int .i64 41]) 1 (.int .i64 41) rfl rfl rfl) rfl ?_
    refine St.wAlloc HS (cs := ((nums .u8 (zB.map bv)))) (.agg ((nums .u8 (zB.map bv))).toArray) (by kernel_rfl) rfl ?_
    clear HS
    intro g15 w16 hg17 HS
    refine St.stores (cs' := ((nums .u8 (zB.map bv)))) HS ((nums .u8 (zB.map bv))) 240 rfl rfl (nums_one _ _) (by kernel_rfl) (by simp [List.length_map, nums_length, zB_len]) (by simp [List.length_map, nums_length, zB_len]) (lay_all _ _ (by simp [List.length_map, nums_length, zB_len])) ?_
    clear HS
    intro w18 HS
    refine p_run (l' := _) _ (x_assign (.int .i64 41) rfl rfl) rfl ?_
    refine wpList_nil ?_
    refine fr_at (l' := [.bool false, .pointer (some ⟨g15, 0, none⟩), .int .i64 41, undef, undef, .tuple [.agg ((nums .u8 (zB.map bv))).toArray, .int .i64 41].toArray, .pointer (some ⟨D9, 0, none⟩), .tuple [.agg ((nums .u8 (zB.map bv))).toArray, .int .i64 41].toArray, .agg ((nums .u8 (zB.map bv))).toArray, .int .i64 41, undef, undef, undef, undef, undef, undef, undef, undef, undef, undef, undef, undef, undef, undef, undef, undef, undef, undef, undef, undef, undef, undef, undef, undef, undef, undef, undef, undef, undef, undef]) rfl ?_
    refine hK6 _ _ ?_
    refine wp_seq_k (fun K19 hK20 => ?_)
    refine c_region (fun ops22 hops21 => ?_)
    clear hops21
    refine w_call [.int .i64 4] Try.func21 (by kernel_rfl) (by rfl) rfl ?_
    refine (new_any HS 4).mono ?_
    clear HS
    rintro e w26 ⟨D23, gs24, gm25, rfl, HS⟩
    have hgd27 := good_new 4
    refine ⟨_, rfl, ?_⟩
    refine w_call [.pointer (some ⟨D23, 0, none⟩), .int .u64 4] Try.func20 (by kernel_rfl) (by rfl) rfl ?_
    replace HS := ((((HS.front 3 rfl).front 3 rfl).front 3 rfl).front 3 rfl)
    refine (tread_ok HS hgd27 (by omega) (4 : UInt64) zQ zQ_len n_ok n_zero).mono ?_
    clear HS
    rintro e w28 ⟨rfl, HS⟩
    refine ⟨_, rfl, ?_⟩
    refine p_run (l' := _) _ (x_move (.tuple [.agg ((nums .u8 ((tlC (4 : UInt64) zQ).map bv))).toArray, .int .i64 (tlE (4 : UInt64) zQ)].toArray) rfl rfl) rfl ?_
    refine p_run (l' := [.bool false, .pointer (some ⟨g15, 0, none⟩), .int .i64 41, undef, undef, .tuple [.agg ((nums .u8 (zB.map bv))).toArray, .int .i64 41].toArray, .pointer (some ⟨D9, 0, none⟩), .tuple [.agg ((nums .u8 (zB.map bv))).toArray, .int .i64 41].toArray, .agg ((nums .u8 (zB.map bv))).toArray, .int .i64 41, .tuple [.agg ((nums .u8 ((tlC (4 : UInt64) zQ).map bv))).toArray, .int .i64 (tlE (4 : UInt64) zQ)].toArray, .pointer (some ⟨D23, 0, none⟩), .tuple [.agg ((nums .u8 ((tlC (4 : UInt64) zQ).map bv))).toArray, .int .i64 (tlE (4 : UInt64) zQ)].toArray, .agg ((nums .u8 ((tlC (4 : UInt64) zQ).map bv))).toArray, undef, undef, undef, undef, undef, undef, undef, undef, undef, undef, undef, undef, undef, undef, undef, undef, undef, undef, undef, undef, undef, undef, undef, undef, undef, undef]) _ (x_extract (vs := [.agg ((nums .u8 ((tlC (4 : UInt64) zQ).map bv))).toArray, .int .i64 (tlE (4 : UInt64) zQ)]) 0 (.agg ((nums .u8 ((tlC (4 : UInt64) zQ).map bv))).toArray) rfl rfl rfl) rfl ?_
    refine p_run (l' := _) _ (x_extract (vs := [.agg ((nums .u8 ((tlC (4 : UInt64) zQ).map bv))).toArray, .int .i64 (tlE (4 : UInt64) zQ)]) 1 (.int .i64 (tlE (4 : UInt64) zQ)) rfl rfl rfl) rfl ?_
    refine St.wAlloc HS (cs := ((nums .u8 (zB.map bv)))) (.agg ((nums .u8 (zB.map bv))).toArray) (by kernel_rfl) rfl ?_
    clear HS
    intro g29 w30 hg31 HS
    refine St.stores (cs' := ((nums .u8 ((tlC (4 : UInt64) zQ).map bv)))) HS ((nums .u8 ((tlC (4 : UInt64) zQ).map bv))) 240 rfl rfl (nums_one _ _) (by kernel_rfl) (by simp [(tlC_len (4 : UInt64) zQ_len), List.length_map, nums_length]) (by simp [(tlC_len (4 : UInt64) zQ_len), List.length_map, nums_length, zB_len]) (lay_all _ _ (by simp [(tlC_len (4 : UInt64) zQ_len), List.length_map, nums_length, zB_len])) ?_
    clear HS
    intro w32 HS
    refine p_run (l' := _) _ (x_assign (.int .i64 (tlE (4 : UInt64) zQ)) rfl rfl) rfl ?_
    refine wpList_nil ?_
    refine fr_at (l' := [.bool false, .pointer (some ⟨g15, 0, none⟩), .int .i64 41, .pointer (some ⟨g29, 0, none⟩), .int .i64 (tlE (4 : UInt64) zQ), .tuple [.agg ((nums .u8 (zB.map bv))).toArray, .int .i64 41].toArray, .pointer (some ⟨D9, 0, none⟩), .tuple [.agg ((nums .u8 (zB.map bv))).toArray, .int .i64 41].toArray, .agg ((nums .u8 (zB.map bv))).toArray, .int .i64 41, .tuple [.agg ((nums .u8 ((tlC (4 : UInt64) zQ).map bv))).toArray, .int .i64 (tlE (4 : UInt64) zQ)].toArray, .pointer (some ⟨D23, 0, none⟩), .tuple [.agg ((nums .u8 ((tlC (4 : UInt64) zQ).map bv))).toArray, .int .i64 (tlE (4 : UInt64) zQ)].toArray, .agg ((nums .u8 ((tlC (4 : UInt64) zQ).map bv))).toArray, .int .i64 (tlE (4 : UInt64) zQ), undef, undef, undef, undef, undef, undef, undef, undef, undef, undef, undef, undef, undef, undef, undef, undef, undef, undef, undef, undef, undef, undef, undef, undef, undef]) rfl ?_
    refine hK20 _ _ ?_
    refine wp_seq_k (fun K33 hK34 => ?_)
    refine c_region (fun ops36 hops35 => ?_)
    refine w_call [] Try.func12 (by kernel_rfl) (by rfl) rfl ?_
    refine (talive_any HS).mono ?_
    clear HS
    rintro e w37 ⟨rfl, HS⟩
    refine ⟨_, rfl, ?_⟩
    refine p_run (l' := _) _ (x_move (.bool true) rfl rfl) rfl ?_
    refine p_run (l' := _) _ (x_pick true (.bool true) (.bool false) (.bool true) rfl rfl rfl rfl rfl) rfl ?_
    refine p_run (l' := [.bool false, .pointer (some ⟨g15, 0, none⟩), .int .i64 41, .pointer (some ⟨g29, 0, none⟩), .int .i64 (tlE (4 : UInt64) zQ), .tuple [.agg ((nums .u8 (zB.map bv))).toArray, .int .i64 41].toArray, .pointer (some ⟨D9, 0, none⟩), .tuple [.agg ((nums .u8 (zB.map bv))).toArray, .int .i64 41].toArray, .agg ((nums .u8 (zB.map bv))).toArray, .int .i64 41, .tuple [.agg ((nums .u8 ((tlC (4 : UInt64) zQ).map bv))).toArray, .int .i64 (tlE (4 : UInt64) zQ)].toArray, .pointer (some ⟨D23, 0, none⟩), .tuple [.agg ((nums .u8 ((tlC (4 : UInt64) zQ).map bv))).toArray, .int .i64 (tlE (4 : UInt64) zQ)].toArray, .agg ((nums .u8 ((tlC (4 : UInt64) zQ).map bv))).toArray, .int .i64 (tlE (4 : UInt64) zQ), .bool true, .bool true, .bool true, .bool true, undef, undef, undef, undef, undef, undef, undef, undef, undef, undef, undef, undef, undef, undef, undef, undef, undef, undef, undef, undef, undef]) _ (x_move (.bool true) rfl rfl) rfl ?_
    refine p_run (l' := _) _ (x_pick true (.bool true) (.bool false) (.bool true) rfl rfl rfl rfl rfl) rfl ?_
    refine p_run (l' := _) _ (x_move (.bool true) rfl rfl) rfl ?_
    refine p_run (l' := _) _ (x_pick true (.bool true) (.bool false) (.bool true) rfl rfl rfl rfl rfl) rfl ?_
    refine p_run (l' := [.bool false, .pointer (some ⟨g15, 0, none⟩), .int .i64 41, .pointer (some ⟨g29, 0, none⟩), .int .i64 (tlE (4 : UInt64) zQ), .tuple [.agg ((nums .u8 (zB.map bv))).toArray, .int .i64 41].toArray, .pointer (some ⟨D9, 0, none⟩), .tuple [.agg ((nums .u8 (zB.map bv))).toArray, .int .i64 41].toArray, .agg ((nums .u8 (zB.map bv))).toArray, .int .i64 41, .tuple [.agg ((nums .u8 ((tlC (4 : UInt64) zQ).map bv))).toArray, .int .i64 (tlE (4 : UInt64) zQ)].toArray, .pointer (some ⟨D23, 0, none⟩), .tuple [.agg ((nums .u8 ((tlC (4 : UInt64) zQ).map bv))).toArray, .int .i64 (tlE (4 : UInt64) zQ)].toArray, .agg ((nums .u8 ((tlC (4 : UInt64) zQ).map bv))).toArray, .int .i64 (tlE (4 : UInt64) zQ), .bool true, .bool true, .bool true, .bool true, .bool true, .bool true, .bool true, .bool true, undef, undef, undef, undef, undef, undef, undef, undef, undef, undef, undef, undef, undef, undef, undef, undef, undef]) _ (x_move (.bool true) rfl rfl) rfl ?_
    refine p_run (l' := _) _ (x_pick true (.bool true) (.bool false) (.bool true) rfl rfl rfl rfl rfl) rfl ?_
    refine p_run (l' := _) _ (x_move (.bool true) rfl rfl) rfl ?_
    refine p_on rfl (by rw [hops35]; rfl) ?_
    refine p_run (l' := _) _ (x_move (.int .i64 41) rfl rfl) rfl ?_
    refine p_on rfl (by rw [hops35]; rfl) ?_
    refine p_run (l' := [.bool false, .pointer (some ⟨g15, 0, none⟩), .int .i64 41, .pointer (some ⟨g29, 0, none⟩), .int .i64 (tlE (4 : UInt64) zQ), .tuple [.agg ((nums .u8 (zB.map bv))).toArray, .int .i64 41].toArray, .pointer (some ⟨D9, 0, none⟩), .tuple [.agg ((nums .u8 (zB.map bv))).toArray, .int .i64 41].toArray, .agg ((nums .u8 (zB.map bv))).toArray, .int .i64 41, .tuple [.agg ((nums .u8 ((tlC (4 : UInt64) zQ).map bv))).toArray, .int .i64 (tlE (4 : UInt64) zQ)].toArray, .pointer (some ⟨D23, 0, none⟩), .tuple [.agg ((nums .u8 ((tlC (4 : UInt64) zQ).map bv))).toArray, .int .i64 (tlE (4 : UInt64) zQ)].toArray, .agg ((nums .u8 ((tlC (4 : UInt64) zQ).map bv))).toArray, .int .i64 (tlE (4 : UInt64) zQ), .bool true, .bool true, .bool true, .bool true, .bool true, .bool true, .bool true, .bool true, .bool true, .bool true, .int .i64 41, .bool true, undef, undef, undef, undef, undef, undef, undef, undef, undef, undef, undef, undef, undef]) _ (x_cmp (k := .i64) (m := 41) (n := 41) .eql true rfl rfl rfl (by decide) rfl) rfl ?_
    refine p_run (l' := _) _ (x_pick true (.bool true) (.bool false) (.bool true) rfl rfl rfl rfl rfl) rfl ?_
    refine p_run (l' := _) _ (x_move (.bool true) rfl rfl) rfl ?_
    refine p_on rfl (by rw [hops35]; rfl) ?_
    refine p_run (l' := _) _ (x_move (.int .i64 (tlE (4 : UInt64) zQ)) rfl rfl) rfl ?_
    refine p_on rfl (by rw [hops35]; rfl) ?_
    refine p_run (l' := [.bool false, .pointer (some ⟨g15, 0, none⟩), .int .i64 41, .pointer (some ⟨g29, 0, none⟩), .int .i64 (tlE (4 : UInt64) zQ), .tuple [.agg ((nums .u8 (zB.map bv))).toArray, .int .i64 41].toArray, .pointer (some ⟨D9, 0, none⟩), .tuple [.agg ((nums .u8 (zB.map bv))).toArray, .int .i64 41].toArray, .agg ((nums .u8 (zB.map bv))).toArray, .int .i64 41, .tuple [.agg ((nums .u8 ((tlC (4 : UInt64) zQ).map bv))).toArray, .int .i64 (tlE (4 : UInt64) zQ)].toArray, .pointer (some ⟨D23, 0, none⟩), .tuple [.agg ((nums .u8 ((tlC (4 : UInt64) zQ).map bv))).toArray, .int .i64 (tlE (4 : UInt64) zQ)].toArray, .agg ((nums .u8 ((tlC (4 : UInt64) zQ).map bv))).toArray, .int .i64 (tlE (4 : UInt64) zQ), .bool true, .bool true, .bool true, .bool true, .bool true, .bool true, .bool true, .bool true, .bool true, .bool true, .int .i64 41, .bool true, .bool true, .bool true, .int .i64 (tlE (4 : UInt64) zQ), .bool true, undef, undef, undef, undef, undef, undef, undef, undef, undef]) _ (x_cmp (k := .i64) (m := (tlE (4 : UInt64) zQ)) (n := 61) .eql true rfl rfl rfl (cmp_yes n_none) rfl) rfl ?_
    refine p_run (l' := _) _ (x_pick true (.bool true) (.bool false) (.bool true) rfl rfl rfl rfl rfl) rfl ?_
    refine p_run (l' := _) _ (x_move (.bool true) rfl rfl) rfl ?_
    refine p_on rfl (by rw [hops35]; rfl) ?_
    refine w_call [.int .u64 4] Try.func18 (by kernel_rfl) (by rfl) rfl ?_
    refine (tarea_any (4 : UInt64) _).mono ?_
    rintro e w' ⟨rfl, rfl⟩
    refine ⟨_, rfl, ?_⟩
    refine p_on rfl (by rw [hops35]; rfl) ?_
    refine p_run (l' := [.bool false, .pointer (some ⟨g15, 0, none⟩), .int .i64 41, .pointer (some ⟨g29, 0, none⟩), .int .i64 (tlE (4 : UInt64) zQ), .tuple [.agg ((nums .u8 (zB.map bv))).toArray, .int .i64 41].toArray, .pointer (some ⟨D9, 0, none⟩), .tuple [.agg ((nums .u8 (zB.map bv))).toArray, .int .i64 41].toArray, .agg ((nums .u8 (zB.map bv))).toArray, .int .i64 41, .tuple [.agg ((nums .u8 ((tlC (4 : UInt64) zQ).map bv))).toArray, .int .i64 (tlE (4 : UInt64) zQ)].toArray, .pointer (some ⟨D23, 0, none⟩), .tuple [.agg ((nums .u8 ((tlC (4 : UInt64) zQ).map bv))).toArray, .int .i64 (tlE (4 : UInt64) zQ)].toArray, .agg ((nums .u8 ((tlC (4 : UInt64) zQ).map bv))).toArray, .int .i64 (tlE (4 : UInt64) zQ), .bool true, .bool true, .bool true, .bool true, .bool true, .bool true, .bool true, .bool true, .bool true, .bool true, .int .i64 41, .bool true, .bool true, .bool true, .int .i64 (tlE (4 : UInt64) zQ), .bool true, .bool true, .bool true, .int .i64 (tlA (4 : UInt64)), .bool true, undef, undef, undef, undef, undef]) _ (x_cmp (k := .i64) (m := (tlA (4 : UInt64))) (n := 2) .eql true rfl rfl rfl (cmp_yes n_a4) rfl) rfl ?_
    refine p_run (l' := _) _ (x_pick true (.bool true) (.bool false) (.bool true) rfl rfl rfl rfl rfl) rfl ?_
    refine p_run (l' := _) _ (x_move (.bool true) rfl rfl) rfl ?_
    refine p_on rfl (by rw [hops35]; rfl) ?_
    refine w_call [.int .u64 5] Try.func18 (by kernel_rfl) (by rfl) rfl ?_
    refine (tarea_any (5 : UInt64) _).mono ?_
    rintro e w' ⟨rfl, rfl⟩
    refine ⟨_, rfl, ?_⟩
    refine p_on rfl (by rw [hops35]; rfl) ?_
    refine p_run (l' := [.bool false, .pointer (some ⟨g15, 0, none⟩), .int .i64 41, .pointer (some ⟨g29, 0, none⟩), .int .i64 (tlE (4 : UInt64) zQ), .tuple [.agg ((nums .u8 (zB.map bv))).toArray, .int .i64 41].toArray, .pointer (some ⟨D9, 0, none⟩), .tuple [.agg ((nums .u8 (zB.map bv))).toArray, .int .i64 41].toArray, .agg ((nums .u8 (zB.map bv))).toArray, .int .i64 41, .tuple [.agg ((nums .u8 ((tlC (4 : UInt64) zQ).map bv))).toArray, .int .i64 (tlE (4 : UInt64) zQ)].toArray, .pointer (some ⟨D23, 0, none⟩), .tuple [.agg ((nums .u8 ((tlC (4 : UInt64) zQ).map bv))).toArray, .int .i64 (tlE (4 : UInt64) zQ)].toArray, .agg ((nums .u8 ((tlC (4 : UInt64) zQ).map bv))).toArray, .int .i64 (tlE (4 : UInt64) zQ), .bool true, .bool true, .bool true, .bool true, .bool true, .bool true, .bool true, .bool true, .bool true, .bool true, .int .i64 41, .bool true, .bool true, .bool true, .int .i64 (tlE (4 : UInt64) zQ), .bool true, .bool true, .bool true, .int .i64 (tlA (4 : UInt64)), .bool true, .bool true, .bool true, .int .i64 (tlA (5 : UInt64)), .bool true, undef]) _ (x_cmp (k := .i64) (m := (tlA (5 : UInt64))) (n := 3) .eql true rfl rfl rfl (cmp_yes n_a5) rfl) rfl ?_
    refine p_run (l' := _) _ (x_pick true (.bool true) (.bool false) (.bool true) rfl rfl rfl rfl rfl) rfl ?_
    refine p_run (l' := _) _ (x_assign (.bool true) rfl rfl) rfl ?_
    clear hops35
    refine wpList_nil ?_
    refine fr_at (l' := [.bool true, .pointer (some ⟨g15, 0, none⟩), .int .i64 41, .pointer (some ⟨g29, 0, none⟩), .int .i64 (tlE (4 : UInt64) zQ), .tuple [.agg ((nums .u8 (zB.map bv))).toArray, .int .i64 41].toArray, .pointer (some ⟨D9, 0, none⟩), .tuple [.agg ((nums .u8 (zB.map bv))).toArray, .int .i64 41].toArray, .agg ((nums .u8 (zB.map bv))).toArray, .int .i64 41, .tuple [.agg ((nums .u8 ((tlC (4 : UInt64) zQ).map bv))).toArray, .int .i64 (tlE (4 : UInt64) zQ)].toArray, .pointer (some ⟨D23, 0, none⟩), .tuple [.agg ((nums .u8 ((tlC (4 : UInt64) zQ).map bv))).toArray, .int .i64 (tlE (4 : UInt64) zQ)].toArray, .agg ((nums .u8 ((tlC (4 : UInt64) zQ).map bv))).toArray, .int .i64 (tlE (4 : UInt64) zQ), .bool true, .bool true, .bool true, .bool true, .bool true, .bool true, .bool true, .bool true, .bool true, .bool true, .int .i64 41, .bool true, .bool true, .bool true, .int .i64 (tlE (4 : UInt64) zQ), .bool true, .bool true, .bool true, .int .i64 (tlA (4 : UInt64)), .bool true, .bool true, .bool true, .int .i64 (tlA (5 : UInt64)), .bool true, .bool true]) rfl ?_
    refine hK34 _ _ ?_
    refine wp_ret ?_
    try simp only [Exit.inBlock, Exit.then]
    refine c_ret (.bool true) (r_tmp rfl rfl) ?_
    exact ⟨rfl, HS.belowOf⟩

theorem tallyNames_any (w : World) : Calls Try.prog 6 #[] w fun e w' => e = .returned (.bool true) ∧ Below w.heap.size w w' := tnames_law w
end Go.Proofs.Ytiokdpnhaemciaa
