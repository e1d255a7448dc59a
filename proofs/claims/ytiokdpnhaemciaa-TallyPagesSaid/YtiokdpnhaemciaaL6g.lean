/- TallyPages. -/
import Derived.Test.YtiokdpnhaemciaaL6a
import Derived.Test.YtiokdpnhaemciaaRef06
set_option linter.unusedVariables false
set_option linter.unusedSimpArgs false
namespace Go.Proofs.Ytiokdpnhaemciaa
open Go.RowKit Go.Proofs.YtiokdpnhaemciaaW.PrintWords Go.Proofs.YtiokdpnhaemciaaW.PrintLast Crc
theorem bv_ne (x : UInt8) : (bv x ≠ 0) ↔ ¬ x = 0 := by rw [Ne, bv_zero]

set_option maxRecDepth 10000 in
set_option maxHeartbeats 2000000 in
theorem pages_law (w : World) (g : UInt64) (c q : List UInt8) (hc : c.length = 240) (hq : q.length = 256) : Calls Try.prog 5 #[.int .u64 (uv g), .agg ((nums .u8 (c.map bv))).toArray, .agg ((nums .u8 (q.map bv))).toArray] w fun e w' => e = .returned (.bool true) ∧ Below w.heap.size w w' := by
  have HS := St.empty w
  · skip
    refine c_enter Try.func5 rfl 67 rfl [.int .u64 (uv g), .agg ((nums .u8 (c.map bv))).toArray, .agg ((nums .u8 (q.map bv))).toArray, undef, undef, undef, undef, undef, undef, undef, undef, undef, undef, undef, undef, undef, undef, undef, undef, undef, undef, undef, undef, undef, undef, undef, undef, undef, undef, undef, undef, undef, undef, undef, undef, undef, undef, undef, undef, undef, undef, undef, undef, undef, undef, undef, undef, undef, undef, undef, undef, undef, undef, undef, undef, undef, undef, undef, undef, undef, undef, undef, undef, undef, undef, undef, undef] rfl ?_
    refine wp_seq_k (fun K1 hK2 => ?_)
    refine c_region (fun ops4 hops3 => ?_)
    clear hops3
    refine St.wBox HS (cs := ((nums .u8 (c.map bv)))) (.agg ((nums .u8 (c.map bv))).toArray) rfl rfl ?_
    clear HS
    intro g5 w6 hg7 HS
    refine St.wBox HS (cs := ((nums .u8 (q.map bv)))) (.agg ((nums .u8 (q.map bv))).toArray) rfl rfl ?_
    clear HS
    intro g8 w9 hg10 HS
    refine p_run (l' := _) _ (x_assign (.bool false) rfl rfl) rfl ?_
    refine wpList_nil ?_
    refine fr_at (l' := [.int .u64 (uv g), .agg ((nums .u8 (c.map bv))).toArray, .agg ((nums .u8 (q.map bv))).toArray, undef, .pointer (some ⟨g5, 0, none⟩), .pointer (some ⟨g8, 0, none⟩), .bool false, undef, undef, undef, undef, undef, undef, undef, undef, undef, undef, undef, undef, undef, undef, undef, undef, undef, undef, undef, undef, undef, undef, undef, undef, undef, undef, undef, undef, undef, undef, undef, undef, undef, undef, undef, undef, undef, undef, undef, undef, undef, undef, undef, undef, undef, undef, undef, undef, undef, undef, undef, undef, undef, undef, undef, undef, undef, undef, undef, undef]) rfl ?_
    refine hK2 _ _ ?_
    refine wp_seq_k (fun K11 hK12 => ?_)
    refine wp_seq_k (fun K13 hK14 => ?_)
    refine c_region (fun ops16 hops15 => ?_)
    clear hops15
    refine w_call [] Try.func12 (by kernel_rfl) (by rfl) rfl ?_
    refine (talive_any HS).mono ?_
    clear HS
    rintro e w17 ⟨rfl, HS⟩
    refine ⟨_, rfl, ?_⟩
    refine p_run (l' := _) _ (x_not true rfl rfl) rfl ?_
    refine wpList_nil ?_
    refine fr_at (l' := [.int .u64 (uv g), .agg ((nums .u8 (c.map bv))).toArray, .agg ((nums .u8 (q.map bv))).toArray, undef, .pointer (some ⟨g5, 0, none⟩), .pointer (some ⟨g8, 0, none⟩), .bool false, undef, undef, undef, undef, undef, undef, undef, .bool true, .bool false, undef, undef, undef, undef, undef, undef, undef, undef, undef, undef, undef, undef, undef, undef, undef, undef, undef, undef, undef, undef, undef, undef, undef, undef, undef, undef, undef, undef, undef, undef, undef, undef, undef, undef, undef, undef, undef, undef, undef, undef, undef, undef, undef, undef, undef, undef, undef, undef, undef, undef, undef]) rfl ?_
    refine hK14 _ _ ?_
    refine c_false rfl ?_
    refine wp_skip ?_
    refine hK12 _ _ ?_
    refine wp_seq_k (fun K18 hK19 => ?_)
    refine c_region (fun ops21 hops20 => ?_)
    clear hops20
    refine p_run (l' := _) _ (x_loads ((nums .u8 (q.map bv))) 256 rfl rfl (bkCells (HS.get (.head _)) 0 _ (whole _)) (by rfl) (by kernel_rfl) (by simp [List.length_map, hq, nums_length])) rfl ?_
    refine p_run (l' := _) _ (x_move (.int .u64 (uv g)) rfl rfl) rfl ?_
    refine w_call [.agg ((nums .u8 (q.map bv))).toArray, .int .u64 (uv g)] Try.func14 (by kernel_rfl) (by rfl) rfl ?_
    refine (topen_any HS g q hq).mono ?_
    clear HS
    rintro e w22 ⟨rfl, HS⟩
    refine ⟨_, rfl, ?_⟩
    refine p_run (l' := [.int .u64 (uv g), .agg ((nums .u8 (c.map bv))).toArray, .agg ((nums .u8 (q.map bv))).toArray, undef, .pointer (some ⟨g5, 0, none⟩), .pointer (some ⟨g8, 0, none⟩), .bool false, undef, undef, undef, undef, undef, undef, undef, .bool true, .bool false, .tuple [.agg ((nums .u8 ((tlC g q).map bv))).toArray, .int .i64 (tlE g q)].toArray, .agg ((nums .u8 (q.map bv))).toArray, .int .u64 (uv g), .tuple [.agg ((nums .u8 ((tlC g q).map bv))).toArray, .int .i64 (tlE g q)].toArray, undef, undef, undef, undef, undef, undef, undef, undef, undef, undef, undef, undef, undef, undef, undef, undef, undef, undef, undef, undef, undef, undef, undef, undef, undef, undef, undef, undef, undef, undef, undef, undef, undef, undef, undef, undef, undef, undef, undef, undef, undef, undef, undef, undef, undef, undef, undef]) _ (x_move (.tuple [.agg ((nums .u8 ((tlC g q).map bv))).toArray, .int .i64 (tlE g q)].toArray) rfl rfl) rfl ?_
    refine p_run (l' := _) _ (x_extract (vs := [.agg ((nums .u8 ((tlC g q).map bv))).toArray, .int .i64 (tlE g q)]) 0 (.agg ((nums .u8 ((tlC g q).map bv))).toArray) rfl rfl rfl) rfl ?_
    refine p_run (l' := _) _ (x_extract (vs := [.agg ((nums .u8 ((tlC g q).map bv))).toArray, .int .i64 (tlE g q)]) 1 (.int .i64 (tlE g q)) rfl rfl rfl) rfl ?_
    refine St.wAlloc HS (cs := ((nums .u8 (zB.map bv)))) (.agg ((nums .u8 (zB.map bv))).toArray) (by kernel_rfl) rfl ?_
    clear HS
    intro g23 w24 hg25 HS
    refine St.stores (cs' := ((nums .u8 ((tlC g q).map bv)))) HS ((nums .u8 ((tlC g q).map bv))) 240 rfl rfl (nums_one _ _) (by kernel_rfl) (by simp [(tlC_len g hq), List.length_map, nums_length]) (by simp [(tlC_len g hq), List.length_map, nums_length, zB_len]) (lay_all _ _ (by simp [(tlC_len g hq), List.length_map, nums_length, zB_len])) ?_
    clear HS
    intro w26 HS
    refine p_run (l' := [.int .u64 (uv g), .agg ((nums .u8 (c.map bv))).toArray, .agg ((nums .u8 (q.map bv))).toArray, undef, .pointer (some ⟨g5, 0, none⟩), .pointer (some ⟨g8, 0, none⟩), .bool false, .pointer (some ⟨g23, 0, none⟩), .int .i64 (tlE g q), undef, undef, undef, undef, undef, .bool true, .bool false, .tuple [.agg ((nums .u8 ((tlC g q).map bv))).toArray, .int .i64 (tlE g q)].toArray, .agg ((nums .u8 (q.map bv))).toArray, .int .u64 (uv g), .tuple [.agg ((nums .u8 ((tlC g q).map bv))).toArray, .int .i64 (tlE g q)].toArray, .agg ((nums .u8 ((tlC g q).map bv))).toArray, .int .i64 (tlE g q), undef, undef, undef, undef, undef, undef, undef, undef, undef, undef, undef, undef, undef, undef, undef, undef, undef, undef, undef, undef, undef, undef, undef, undef, undef, undef, undef, undef, undef, undef, undef, undef, undef, undef, undef, undef, undef, undef, undef, undef, undef, undef, undef, undef, undef]) _ (x_assign (.int .i64 (tlE g q)) rfl rfl) rfl ?_
    refine wpList_nil ?_
    refine hK19 _ _ ?_
    refine wp_seq_k (fun K27 hK28 => ?_)
    refine c_region (fun ops30 hops29 => ?_)
    clear hops29
    refine p_run (l' := _) _ (x_loads ((nums .u8 (q.map bv))) 256 rfl rfl (bkCells (HS.get (.tail _ (.head _))) 0 _ (whole _)) (by rfl) (by kernel_rfl) (by simp [List.length_map, hq, nums_length])) rfl ?_
    refine p_run (l' := _) _ (x_move (.int .u64 (uv g)) rfl rfl) rfl ?_
    refine w_call [.agg ((nums .u8 (q.map bv))).toArray, .int .u64 (uv g)] Try.func16 (by kernel_rfl) (by rfl) rfl ?_
    refine (ropen_any HS g q hq).mono ?_
    clear HS
    rintro e w31 ⟨rfl, HS⟩
    refine ⟨_, rfl, ?_⟩
    refine p_run (l' := [.int .u64 (uv g), .agg ((nums .u8 (c.map bv))).toArray, .agg ((nums .u8 (q.map bv))).toArray, undef, .pointer (some ⟨g5, 0, none⟩), .pointer (some ⟨g8, 0, none⟩), .bool false, .pointer (some ⟨g23, 0, none⟩), .int .i64 (tlE g q), undef, undef, undef, undef, undef, .bool true, .bool false, .tuple [.agg ((nums .u8 ((tlC g q).map bv))).toArray, .int .i64 (tlE g q)].toArray, .agg ((nums .u8 (q.map bv))).toArray, .int .u64 (uv g), .tuple [.agg ((nums .u8 ((tlC g q).map bv))).toArray, .int .i64 (tlE g q)].toArray, .agg ((nums .u8 ((tlC g q).map bv))).toArray, .int .i64 (tlE g q), .tuple [.agg ((nums .u8 ((tlC g q).map bv))).toArray, .int .i64 (tlE g q)].toArray, .agg ((nums .u8 (q.map bv))).toArray, .int .u64 (uv g), .tuple [.agg ((nums .u8 ((tlC g q).map bv))).toArray, .int .i64 (tlE g q)].toArray, undef, undef, undef, undef, undef, undef, undef, undef, undef, undef, undef, undef, undef, undef, undef, undef, undef, undef, undef, undef, undef, undef, undef, undef, undef, undef, undef, undef, undef, undef, undef, undef, undef, undef, undef, undef, undef, undef, undef, undef, undef]) _ (x_move (.tuple [.agg ((nums .u8 ((tlC g q).map bv))).toArray, .int .i64 (tlE g q)].toArray) rfl rfl) rfl ?_
    refine p_run (l' := _) _ (x_extract (vs := [.agg ((nums .u8 ((tlC g q).map bv))).toArray, .int .i64 (tlE g q)]) 0 (.agg ((nums .u8 ((tlC g q).map bv))).toArray) rfl rfl rfl) rfl ?_
    refine p_run (l' := _) _ (x_extract (vs := [.agg ((nums .u8 ((tlC g q).map bv))).toArray, .int .i64 (tlE g q)]) 1 (.int .i64 (tlE g q)) rfl rfl rfl) rfl ?_
    refine St.wAlloc HS (cs := ((nums .u8 (zB.map bv)))) (.agg ((nums .u8 (zB.map bv))).toArray) (by kernel_rfl) rfl ?_
    clear HS
    intro g32 w33 hg34 HS
    refine St.stores (cs' := ((nums .u8 ((tlC g q).map bv)))) HS ((nums .u8 ((tlC g q).map bv))) 240 rfl rfl (nums_one _ _) (by kernel_rfl) (by simp [(tlC_len g hq), List.length_map, nums_length]) (by simp [(tlC_len g hq), List.length_map, nums_length, zB_len]) (lay_all _ _ (by simp [(tlC_len g hq), List.length_map, nums_length, zB_len])) ?_
    clear HS
    intro w35 HS
    refine p_run (l' := [.int .u64 (uv g), .agg ((nums .u8 (c.map bv))).toArray, .agg ((nums .u8 (q.map bv))).toArray, undef, .pointer (some ⟨g5, 0, none⟩), .pointer (some ⟨g8, 0, none⟩), .bool false, .pointer (some ⟨g23, 0, none⟩), .int .i64 (tlE g q), .pointer (some ⟨g32, 0, none⟩), .int .i64 (tlE g q), undef, undef, undef, .bool true, .bool false, .tuple [.agg ((nums .u8 ((tlC g q).map bv))).toArray, .int .i64 (tlE g q)].toArray, .agg ((nums .u8 (q.map bv))).toArray, .int .u64 (uv g), .tuple [.agg ((nums .u8 ((tlC g q).map bv))).toArray, .int .i64 (tlE g q)].toArray, .agg ((nums .u8 ((tlC g q).map bv))).toArray, .int .i64 (tlE g q), .tuple [.agg ((nums .u8 ((tlC g q).map bv))).toArray, .int .i64 (tlE g q)].toArray, .agg ((nums .u8 (q.map bv))).toArray, .int .u64 (uv g), .tuple [.agg ((nums .u8 ((tlC g q).map bv))).toArray, .int .i64 (tlE g q)].toArray, .agg ((nums .u8 ((tlC g q).map bv))).toArray, .int .i64 (tlE g q), undef, undef, undef, undef, undef, undef, undef, undef, undef, undef, undef, undef, undef, undef, undef, undef, undef, undef, undef, undef, undef, undef, undef, undef, undef, undef, undef, undef, undef, undef, undef, undef, undef, undef, undef, undef, undef, undef, undef]) _ (x_assign (.int .i64 (tlE g q)) rfl rfl) rfl ?_
    refine wpList_nil ?_
    refine hK28 _ _ ?_
    refine wp_seq_k (fun K36 hK37 => ?_)
    refine c_region (fun ops39 hops38 => ?_)
    clear hops38
    refine p_run (l' := _) _ (x_assign (.int .i64 0) rfl rfl) rfl ?_
    refine wpList_nil ?_
    refine fr_at (l' := [.int .u64 (uv g), .agg ((nums .u8 (c.map bv))).toArray, .agg ((nums .u8 (q.map bv))).toArray, undef, .pointer (some ⟨g5, 0, none⟩), .pointer (some ⟨g8, 0, none⟩), .bool false, .pointer (some ⟨g23, 0, none⟩), .int .i64 (tlE g q), .pointer (some ⟨g32, 0, none⟩), .int .i64 (tlE g q), .int .i64 0, undef, undef, .bool true, .bool false, .tuple [.agg ((nums .u8 ((tlC g q).map bv))).toArray, .int .i64 (tlE g q)].toArray, .agg ((nums .u8 (q.map bv))).toArray, .int .u64 (uv g), .tuple [.agg ((nums .u8 ((tlC g q).map bv))).toArray, .int .i64 (tlE g q)].toArray, .agg ((nums .u8 ((tlC g q).map bv))).toArray, .int .i64 (tlE g q), .tuple [.agg ((nums .u8 ((tlC g q).map bv))).toArray, .int .i64 (tlE g q)].toArray, .agg ((nums .u8 (q.map bv))).toArray, .int .u64 (uv g), .tuple [.agg ((nums .u8 ((tlC g q).map bv))).toArray, .int .i64 (tlE g q)].toArray, .agg ((nums .u8 ((tlC g q).map bv))).toArray, .int .i64 (tlE g q), undef, undef, undef, undef, undef, undef, undef, undef, undef, undef, undef, undef, undef, undef, undef, undef, undef, undef, undef, undef, undef, undef, undef, undef, undef, undef, undef, undef, undef, undef, undef, undef, undef, undef, undef, undef, undef, undef, undef]) rfl ?_
    refine hK37 _ _ ?_
    refine wp_seq_k (fun K40 hK41 => ?_)
    refine wp_seq_k (fun K42 hK43 => ?_)
    refine c_region (fun ops45 hops44 => ?_)
    clear hops44
    refine p_run (l' := _) _ (x_loads ((nums .u8 (c.map bv))) 240 rfl rfl (bkCells (HS.get (.tail _ (.tail _ (.tail _ (.head _))))) 0 _ (whole _)) (by rfl) (by kernel_rfl) (by simp [List.length_map, hc, nums_length])) rfl ?_
    refine p_run (l' := _) _ (x_move (.int .i64 0) rfl rfl) rfl ?_
    refine wpList_nil ?_
    refine fr_at (l' := [.int .u64 (uv g), .agg ((nums .u8 (c.map bv))).toArray, .agg ((nums .u8 (q.map bv))).toArray, undef, .pointer (some ⟨g5, 0, none⟩), .pointer (some ⟨g8, 0, none⟩), .bool false, .pointer (some ⟨g23, 0, none⟩), .int .i64 (tlE g q), .pointer (some ⟨g32, 0, none⟩), .int .i64 (tlE g q), .int .i64 0, undef, undef, .bool true, .bool false, .tuple [.agg ((nums .u8 ((tlC g q).map bv))).toArray, .int .i64 (tlE g q)].toArray, .agg ((nums .u8 (q.map bv))).toArray, .int .u64 (uv g), .tuple [.agg ((nums .u8 ((tlC g q).map bv))).toArray, .int .i64 (tlE g q)].toArray, .agg ((nums .u8 ((tlC g q).map bv))).toArray, .int .i64 (tlE g q), .tuple [.agg ((nums .u8 ((tlC g q).map bv))).toArray, .int .i64 (tlE g q)].toArray, .agg ((nums .u8 (q.map bv))).toArray, .int .u64 (uv g), .tuple [.agg ((nums .u8 ((tlC g q).map bv))).toArray, .int .i64 (tlE g q)].toArray, .agg ((nums .u8 ((tlC g q).map bv))).toArray, .int .i64 (tlE g q), .agg ((nums .u8 (c.map bv))).toArray, .int .i64 0, undef, undef, undef, undef, undef, undef, undef, undef, undef, undef, undef, undef, undef, undef, undef, undef, undef, undef, undef, undef, undef, undef, undef, undef, undef, undef, undef, undef, undef, undef, undef, undef, undef, undef, undef, undef, undef]) rfl ?_
    refine hK43 _ _ ?_
    refine wp_block ?_
    refine c_loop (ι := Nat) (fun i_ a_ w_ => match i_ with | j => ∃ (u13 : Value) (u30 : Value) (u31 : Value) (u32 : Value) (u33 : Value) (u34 : Value) (u35 : Value) (u36 : Value), a_ = fr [.int .u64 (uv g), .agg ((nums .u8 (c.map bv))).toArray, .agg ((nums .u8 (q.map bv))).toArray, undef, .pointer (some ⟨g5, 0, none⟩), .pointer (some ⟨g8, 0, none⟩), .bool false, .pointer (some ⟨g23, 0, none⟩), .int .i64 (tlE g q), .pointer (some ⟨g32, 0, none⟩), .int .i64 (tlE g q), .int .i64 ((usN (c.take j) : Nat) : Int), undef, u13, .bool true, .bool false, .tuple [.agg ((nums .u8 ((tlC g q).map bv))).toArray, .int .i64 (tlE g q)].toArray, .agg ((nums .u8 (q.map bv))).toArray, .int .u64 (uv g), .tuple [.agg ((nums .u8 ((tlC g q).map bv))).toArray, .int .i64 (tlE g q)].toArray, .agg ((nums .u8 ((tlC g q).map bv))).toArray, .int .i64 (tlE g q), .tuple [.agg ((nums .u8 ((tlC g q).map bv))).toArray, .int .i64 (tlE g q)].toArray, .agg ((nums .u8 (q.map bv))).toArray, .int .u64 (uv g), .tuple [.agg ((nums .u8 ((tlC g q).map bv))).toArray, .int .i64 (tlE g q)].toArray, .agg ((nums .u8 ((tlC g q).map bv))).toArray, .int .i64 (tlE g q), .agg ((nums .u8 (c.map bv))).toArray, .int .i64 (j : Int), u30, u31, u32, u33, u34, u35, u36, undef, undef, undef, undef, undef, undef, undef, undef, undef, undef, undef, undef, undef, undef, undef, undef, undef, undef, undef, undef, undef, undef, undef, undef, undef, undef, undef, undef, undef, undef] ∧ St w (fun _ => False) w_ ([blk g32 ((nums .u8 ((tlC g q).map bv))) 23, blk g23 ((nums .u8 ((tlC g q).map bv))) 29, blk g8 ((nums .u8 (q.map bv))) 27, blk g5 ((nums .u8 (c.map bv))) 23]) ∧ (j ≤ 240)) (fun i_ => match i_ with | j => 240 - j) 0 ?_ ?_
    · exact ⟨_, _, _, _, _, _, _, _, rfl, ((((HS.front 3 rfl).front 3 rfl).front 3 rfl).front 3 rfl), (by omega)⟩
    · clear HS
      rintro j a_ w48 ⟨u13, u30, u31, u32, u33, u34, u35, u36, rfl, HS, hI⟩ J46 hJ47
      refine wp_seq_k (fun K49 hK50 => ?_)
      refine c_region (fun ops52 hops51 => ?_)
      clear hops51
      refine p_run (l' := _) _ (x_cmp (k := .i64) (m := (j : Int)) (n := 240) .lss (decide ((j : Int) < 240)) rfl rfl rfl rfl rfl) rfl ?_
      refine wpList_nil ?_
      refine fr_at (l' := [.int .u64 (uv g), .agg ((nums .u8 (c.map bv))).toArray, .agg ((nums .u8 (q.map bv))).toArray, undef, .pointer (some ⟨g5, 0, none⟩), .pointer (some ⟨g8, 0, none⟩), .bool false, .pointer (some ⟨g23, 0, none⟩), .int .i64 (tlE g q), .pointer (some ⟨g32, 0, none⟩), .int .i64 (tlE g q), .int .i64 ((usN (c.take j) : Nat) : Int), undef, u13, .bool true, .bool false, .tuple [.agg ((nums .u8 ((tlC g q).map bv))).toArray, .int .i64 (tlE g q)].toArray, .agg ((nums .u8 (q.map bv))).toArray, .int .u64 (uv g), .tuple [.agg ((nums .u8 ((tlC g q).map bv))).toArray, .int .i64 (tlE g q)].toArray, .agg ((nums .u8 ((tlC g q).map bv))).toArray, .int .i64 (tlE g q), .tuple [.agg ((nums .u8 ((tlC g q).map bv))).toArray, .int .i64 (tlE g q)].toArray, .agg ((nums .u8 (q.map bv))).toArray, .int .u64 (uv g), .tuple [.agg ((nums .u8 ((tlC g q).map bv))).toArray, .int .i64 (tlE g q)].toArray, .agg ((nums .u8 ((tlC g q).map bv))).toArray, .int .i64 (tlE g q), .agg ((nums .u8 (c.map bv))).toArray, .int .i64 (j : Int), .bool (decide ((j : Int) < 240)), u31, u32, u33, u34, u35, u36, undef, undef, undef, undef, undef, undef, undef, undef, undef, undef, undef, undef, undef, undef, undef, undef, undef, undef, undef, undef, undef, undef, undef, undef, undef, undef, undef, undef, undef, undef]) rfl ?_
      refine hK50 _ _ ?_
      refine wp_seq_k (fun K53 hK54 => ?_)
      refine c_cond (t := decide ((j : Int) < 240)) rfl (fun hc55 => ?_) (fun hc55 => ?_)
      · have hlt : j < 240 := by have := of_decide_eq_true hc55; omega
        have hb := bv_at c j (by omega)
        have hu := us_snoc c j (by omega)
        have hv := us_le (c.take (j + 1))
        have hl2 : (c.take (j + 1)).length ≤ 240 := by rw [List.length_take]; omega
        refine wp_skip ?_
        refine hK54 _ _ ?_
        refine wp_seq_k (fun K56 hK57 => ?_)
        refine wp_block ?_
        refine wp_seq_k (fun K58 hK59 => ?_)
        refine c_region (fun ops61 hops60 => ?_)
        clear hops60
        refine p_run (l' := _) _ (x_idx (xs := (c.map bv)) (i := (j : Int)) j rfl rfl rfl Try.underlying23 (by kernel_rfl) (by rfl) (by first | rfl | omega) (by omega) (by simp [List.length_map, hc])) rfl ?_
        refine p_run (l' := _) _ (x_assign (.int .u8 ((c.map bv).getD j 0)) rfl rfl) rfl ?_
        refine wpList_nil ?_
        refine fr_at (l' := [.int .u64 (uv g), .agg ((nums .u8 (c.map bv))).toArray, .agg ((nums .u8 (q.map bv))).toArray, undef, .pointer (some ⟨g5, 0, none⟩), .pointer (some ⟨g8, 0, none⟩), .bool false, .pointer (some ⟨g23, 0, none⟩), .int .i64 (tlE g q), .pointer (some ⟨g32, 0, none⟩), .int .i64 (tlE g q), .int .i64 ((usN (c.take j) : Nat) : Int), undef, .int .u8 ((c.map bv).getD j 0), .bool true, .bool false, .tuple [.agg ((nums .u8 ((tlC g q).map bv))).toArray, .int .i64 (tlE g q)].toArray, .agg ((nums .u8 (q.map bv))).toArray, .int .u64 (uv g), .tuple [.agg ((nums .u8 ((tlC g q).map bv))).toArray, .int .i64 (tlE g q)].toArray, .agg ((nums .u8 ((tlC g q).map bv))).toArray, .int .i64 (tlE g q), .tuple [.agg ((nums .u8 ((tlC g q).map bv))).toArray, .int .i64 (tlE g q)].toArray, .agg ((nums .u8 (q.map bv))).toArray, .int .u64 (uv g), .tuple [.agg ((nums .u8 ((tlC g q).map bv))).toArray, .int .i64 (tlE g q)].toArray, .agg ((nums .u8 ((tlC g q).map bv))).toArray, .int .i64 (tlE g q), .agg ((nums .u8 (c.map bv))).toArray, .int .i64 (j : Int), .bool (decide ((j : Int) < 240)), .int .u8 ((c.map bv).getD j 0), u32, u33, u34, u35, u36, undef, undef, undef, undef, undef, undef, undef, undef, undef, undef, undef, undef, undef, undef, undef, undef, undef, undef, undef, undef, undef, undef, undef, undef, undef, undef, undef, undef, undef, undef]) rfl ?_
        refine hK59 _ _ ?_
        refine wp_seq_k (fun K62 hK63 => ?_)
        refine c_region (fun ops65 hops64 => ?_)
        clear hops64
        refine p_run (l' := _) _ (x_move (.int .u8 ((c.map bv).getD j 0)) rfl rfl) rfl ?_
        refine p_run (l' := _) _ (x_cmp (k := .u8) (m := ((c.map bv).getD j 0)) (n := 0) .neq (((c.map bv).getD j 0) != 0) rfl rfl rfl rfl rfl) rfl ?_
        refine wpList_nil ?_
        refine fr_at (l' := [.int .u64 (uv g), .agg ((nums .u8 (c.map bv))).toArray, .agg ((nums .u8 (q.map bv))).toArray, undef, .pointer (some ⟨g5, 0, none⟩), .pointer (some ⟨g8, 0, none⟩), .bool false, .pointer (some ⟨g23, 0, none⟩), .int .i64 (tlE g q), .pointer (some ⟨g32, 0, none⟩), .int .i64 (tlE g q), .int .i64 ((usN (c.take j) : Nat) : Int), undef, .int .u8 ((c.map bv).getD j 0), .bool true, .bool false, .tuple [.agg ((nums .u8 ((tlC g q).map bv))).toArray, .int .i64 (tlE g q)].toArray, .agg ((nums .u8 (q.map bv))).toArray, .int .u64 (uv g), .tuple [.agg ((nums .u8 ((tlC g q).map bv))).toArray, .int .i64 (tlE g q)].toArray, .agg ((nums .u8 ((tlC g q).map bv))).toArray, .int .i64 (tlE g q), .tuple [.agg ((nums .u8 ((tlC g q).map bv))).toArray, .int .i64 (tlE g q)].toArray, .agg ((nums .u8 (q.map bv))).toArray, .int .u64 (uv g), .tuple [.agg ((nums .u8 ((tlC g q).map bv))).toArray, .int .i64 (tlE g q)].toArray, .agg ((nums .u8 ((tlC g q).map bv))).toArray, .int .i64 (tlE g q), .agg ((nums .u8 (c.map bv))).toArray, .int .i64 (j : Int), .bool (decide ((j : Int) < 240)), .int .u8 ((c.map bv).getD j 0), .int .u8 ((c.map bv).getD j 0), .bool (((c.map bv).getD j 0) != 0), u34, u35, u36, undef, undef, undef, undef, undef, undef, undef, undef, undef, undef, undef, undef, undef, undef, undef, undef, undef, undef, undef, undef, undef, undef, undef, undef, undef, undef, undef, undef, undef, undef]) rfl ?_
        refine hK63 _ _ ?_
        refine c_cond (t := (((c.map bv).getD j 0) != 0)) rfl (fun hc66 => ?_) (fun hc66 => ?_)
        · have hz := bv_zero (c[j]'(by omega))
          rw [hb] at hc66
          rw [if_neg (fun h => by rw [hz.2 h] at hc66; exact absurd hc66 (by decide))] at hu
          refine c_region (fun ops68 hops67 => ?_)
          clear hops67
          refine p_run (l' := _) _ (x_move (.int .i64 ((usN (c.take j) : Nat) : Int)) rfl rfl) rfl ?_
          refine p_run (l' := _) _ (x_arith (k := .i64) (m := ((usN (c.take j) : Nat) : Int)) (n := 1) .add (((usN (c.take (j + 1)) : Nat) : Int)) rfl rfl rfl (show IntKind.i64.wrap (((usN (c.take j) : Nat) : Int) + 1) = ((usN (c.take (j + 1)) : Nat) : Int) from ((wr64 (by omega)).trans (by omega))) rfl) rfl ?_
          refine p_run (l' := _) _ (x_assign (.int .i64 ((usN (c.take (j + 1)) : Nat) : Int)) rfl rfl) rfl ?_
          refine wpList_nil ?_
          refine fr_at (l' := [.int .u64 (uv g), .agg ((nums .u8 (c.map bv))).toArray, .agg ((nums .u8 (q.map bv))).toArray, undef, .pointer (some ⟨g5, 0, none⟩), .pointer (some ⟨g8, 0, none⟩), .bool false, .pointer (some ⟨g23, 0, none⟩), .int .i64 (tlE g q), .pointer (some ⟨g32, 0, none⟩), .int .i64 (tlE g q), .int .i64 ((usN (c.take (j + 1)) : Nat) : Int), undef, .int .u8 ((c.map bv).getD j 0), .bool true, .bool false, .tuple [.agg ((nums .u8 ((tlC g q).map bv))).toArray, .int .i64 (tlE g q)].toArray, .agg ((nums .u8 (q.map bv))).toArray, .int .u64 (uv g), .tuple [.agg ((nums .u8 ((tlC g q).map bv))).toArray, .int .i64 (tlE g q)].toArray, .agg ((nums .u8 ((tlC g q).map bv))).toArray, .int .i64 (tlE g q), .tuple [.agg ((nums .u8 ((tlC g q).map bv))).toArray, .int .i64 (tlE g q)].toArray, .agg ((nums .u8 (q.map bv))).toArray, .int .u64 (uv g), .tuple [.agg ((nums .u8 ((tlC g q).map bv))).toArray, .int .i64 (tlE g q)].toArray, .agg ((nums .u8 ((tlC g q).map bv))).toArray, .int .i64 (tlE g q), .agg ((nums .u8 (c.map bv))).toArray, .int .i64 (j : Int), .bool (decide ((j : Int) < 240)), .int .u8 ((c.map bv).getD j 0), .int .u8 ((c.map bv).getD j 0), .bool (((c.map bv).getD j 0) != 0), .int .i64 ((usN (c.take j) : Nat) : Int), .int .i64 ((usN (c.take (j + 1)) : Nat) : Int), u36, undef, undef, undef, undef, undef, undef, undef, undef, undef, undef, undef, undef, undef, undef, undef, undef, undef, undef, undef, undef, undef, undef, undef, undef, undef, undef, undef, undef, undef, undef]) rfl ?_
          refine hK57 _ _ ?_
          refine c_region (fun ops70 hops69 => ?_)
          clear hops69
          refine p_run (l' := _) _ (x_arith (k := .i64) (m := (j : Int)) (n := 1) .add (((j + 1 : Nat) : Int)) rfl rfl rfl (show IntKind.i64.wrap ((j : Int) + 1) = ((j + 1 : Nat) : Int) from ((wr64 (by omega)).trans (by omega))) rfl) rfl ?_
          refine p_run (l' := _) _ (x_move (.int .i64 ((j + 1 : Nat) : Int)) rfl rfl) rfl ?_
          refine wpList_nil ?_
          refine fr_at (l' := [.int .u64 (uv g), .agg ((nums .u8 (c.map bv))).toArray, .agg ((nums .u8 (q.map bv))).toArray, undef, .pointer (some ⟨g5, 0, none⟩), .pointer (some ⟨g8, 0, none⟩), .bool false, .pointer (some ⟨g23, 0, none⟩), .int .i64 (tlE g q), .pointer (some ⟨g32, 0, none⟩), .int .i64 (tlE g q), .int .i64 ((usN (c.take (j + 1)) : Nat) : Int), undef, .int .u8 ((c.map bv).getD j 0), .bool true, .bool false, .tuple [.agg ((nums .u8 ((tlC g q).map bv))).toArray, .int .i64 (tlE g q)].toArray, .agg ((nums .u8 (q.map bv))).toArray, .int .u64 (uv g), .tuple [.agg ((nums .u8 ((tlC g q).map bv))).toArray, .int .i64 (tlE g q)].toArray, .agg ((nums .u8 ((tlC g q).map bv))).toArray, .int .i64 (tlE g q), .tuple [.agg ((nums .u8 ((tlC g q).map bv))).toArray, .int .i64 (tlE g q)].toArray, .agg ((nums .u8 (q.map bv))).toArray, .int .u64 (uv g), .tuple [.agg ((nums .u8 ((tlC g q).map bv))).toArray, .int .i64 (tlE g q)].toArray, .agg ((nums .u8 ((tlC g q).map bv))).toArray, .int .i64 (tlE g q), .agg ((nums .u8 (c.map bv))).toArray, .int .i64 ((j + 1 : Nat) : Int), .bool (decide ((j : Int) < 240)), .int .u8 ((c.map bv).getD j 0), .int .u8 ((c.map bv).getD j 0), .bool (((c.map bv).getD j 0) != 0), .int .i64 ((usN (c.take j) : Nat) : Int), .int .i64 ((usN (c.take (j + 1)) : Nat) : Int), .int .i64 ((j + 1 : Nat) : Int), undef, undef, undef, undef, undef, undef, undef, undef, undef, undef, undef, undef, undef, undef, undef, undef, undef, undef, undef, undef, undef, undef, undef, undef, undef, undef, undef, undef, undef, undef]) rfl ?_
          refine hJ47 (j + 1) _ _ ?_ ?_
          · show 240 - (j + 1) < 240 - j; omega
          · exact ⟨_, _, _, _, _, _, _, _, rfl, ((((HS.front 3 rfl).front 3 rfl).front 3 rfl).front 3 rfl), (by omega)⟩
        · have hz := bv_zero (c[j]'(by omega))
          rw [hb] at hc66
          rw [if_pos (hz.1 (by simpa using hc66))] at hu
          refine wp_skip ?_
          refine hK57 _ _ ?_
          refine c_region (fun ops72 hops71 => ?_)
          clear hops71
          refine p_run (l' := _) _ (x_arith (k := .i64) (m := (j : Int)) (n := 1) .add (((j + 1 : Nat) : Int)) rfl rfl rfl (show IntKind.i64.wrap ((j : Int) + 1) = ((j + 1 : Nat) : Int) from ((wr64 (by omega)).trans (by omega))) rfl) rfl ?_
          refine p_run (l' := _) _ (x_move (.int .i64 ((j + 1 : Nat) : Int)) rfl rfl) rfl ?_
          refine wpList_nil ?_
          refine fr_at (l' := [.int .u64 (uv g), .agg ((nums .u8 (c.map bv))).toArray, .agg ((nums .u8 (q.map bv))).toArray, undef, .pointer (some ⟨g5, 0, none⟩), .pointer (some ⟨g8, 0, none⟩), .bool false, .pointer (some ⟨g23, 0, none⟩), .int .i64 (tlE g q), .pointer (some ⟨g32, 0, none⟩), .int .i64 (tlE g q), .int .i64 ((usN (c.take j) : Nat) : Int), undef, .int .u8 ((c.map bv).getD j 0), .bool true, .bool false, .tuple [.agg ((nums .u8 ((tlC g q).map bv))).toArray, .int .i64 (tlE g q)].toArray, .agg ((nums .u8 (q.map bv))).toArray, .int .u64 (uv g), .tuple [.agg ((nums .u8 ((tlC g q).map bv))).toArray, .int .i64 (tlE g q)].toArray, .agg ((nums .u8 ((tlC g q).map bv))).toArray, .int .i64 (tlE g q), .tuple [.agg ((nums .u8 ((tlC g q).map bv))).toArray, .int .i64 (tlE g q)].toArray, .agg ((nums .u8 (q.map bv))).toArray, .int .u64 (uv g), .tuple [.agg ((nums .u8 ((tlC g q).map bv))).toArray, .int .i64 (tlE g q)].toArray, .agg ((nums .u8 ((tlC g q).map bv))).toArray, .int .i64 (tlE g q), .agg ((nums .u8 (c.map bv))).toArray, .int .i64 ((j + 1 : Nat) : Int), .bool (decide ((j : Int) < 240)), .int .u8 ((c.map bv).getD j 0), .int .u8 ((c.map bv).getD j 0), .bool (((c.map bv).getD j 0) != 0), u34, u35, .int .i64 ((j + 1 : Nat) : Int), undef, undef, undef, undef, undef, undef, undef, undef, undef, undef, undef, undef, undef, undef, undef, undef, undef, undef, undef, undef, undef, undef, undef, undef, undef, undef, undef, undef, undef, undef]) rfl ?_
          have hu2 : usN (c.take (j + 1)) = usN (c.take j) := hu
          rw [← hu2]
          refine hJ47 (j + 1) _ _ ?_ ?_
          · show 240 - (j + 1) < 240 - j; omega
          · exact ⟨_, _, _, _, _, _, _, _, rfl, ((((HS.front 3 rfl).front 3 rfl).front 3 rfl).front 3 rfl), (by omega)⟩
      · have hlt : j = 240 := by have := of_decide_eq_false hc55; omega
        subst hlt
        rw [show usN (c.take 240) = usN c from by rw [← hc, List.take_length]]
        refine wp_exit ?_
        refine hK41 _ _ ?_
        refine wp_seq_k (fun K73 hK74 => ?_)
        refine free_frame (n := 31) (T := _) [0, 0, 3, 0, 0, 31, 63, 127, 255, 255, 1023, 2047, 4095, 8191, 8191, 32767, 65535, 131071, 262143, 524287, 262143, 2097151, 4194303, 8388607, 16777215, 33554431, 67108863, 33554431, 268435455, 536870911, 1073741823] [(0, 37), (1, 38), (2, 39), (3, 40), (4, 41), (5, 42), (6, 43), (7, 44), (8, 45), (9, 46), (10, 47), (11, 48), (12, 49), (13, 50), (14, 51), (15, 52), (16, 53), (17, 54), (18, 55), (19, 56), (20, 57), (21, 58), (22, 59), (23, 60), (24, 61), (25, 62), (26, 63), (27, 64), (28, 65), (29, 66), (30, 6)] (fun bq_ vq_ w_ => qv ((fun i_ => match i_ with | 0 => some (.int .u64 (uv g)) | 1 => some (.agg ((nums .u8 (c.map bv))).toArray) | 3 => some (.int .u64 (uv g)) | 4 => some (.agg ((nums .u8 (c.map bv))).toArray) | 6 => some (.bool true) | 7 => some (.bool true) | 8 => some (.agg ((nums .u8 ((tlC g q).map bv))).toArray) | 9 => some (.agg ((nums .u8 ((tlC g q).map bv))).toArray) | 10 => some (.bool true) | 11 => some (.bool true) | 12 => some (.bool true) | 13 => some (.int .i64 (tlE g q)) | 14 => some (.int .i64 (tlE g q)) | 15 => some (.bool true) | 16 => some (.bool true) | 17 => some (.bool true) | 18 => some (.int .u64 (uv g)) | 19 => some (.int .i64 (tlA g)) | 20 => some (.int .u64 (uv g)) | 21 => some (.int .i64 (tlA g)) | 22 => some (.bool true) | 23 => some (.bool true) | 24 => some (.bool true) | 25 => some (.agg ((nums .u8 (c.map bv))).toArray) | 27 => some (.int .i64 ((usN c : Nat) : Int)) | 28 => some (.bool true) | 29 => some (.bool true) | 30 => some (.bool true) | _ => none) : Nat → Option Value) bq_ vq_ ∧ cond (bq_ 26) (vq_ 2 = .agg ((nums .u8 ((tlB g c).map bv))).toArray ∧ vq_ 5 = .agg ((nums .u8 ((tlB g c).map bv))).toArray ∧ vq_ 26 = .int .i64 (usN c : Int) ∧ St w (fun _ => False) w_ ([blk g32 ((nums .u8 ((tlC g q).map bv))) 23, blk g23 ((nums .u8 ((tlC g q).map bv))) 29, blk g8 ((nums .u8 (q.map bv))) 27, blk g5 ((nums .u8 (c.map bv))) 23])) (cond (bq_ 5) (vq_ 2 = .agg ((nums .u8 ((tlB g c).map bv))).toArray ∧ vq_ 5 = .agg ((nums .u8 ((tlB g c).map bv))).toArray ∧ St w (fun _ => False) w_ ([blk g32 ((nums .u8 ((tlC g q).map bv))) 23, blk g23 ((nums .u8 ((tlC g q).map bv))) 29, blk g8 ((nums .u8 (q.map bv))) 27, blk g5 ((nums .u8 (c.map bv))) 23])) (cond (bq_ 2) (vq_ 2 = .agg ((nums .u8 ((tlB g c).map bv))).toArray ∧ St w (fun _ => False) w_ ([blk g32 ((nums .u8 ((tlC g q).map bv))) 23, blk g23 ((nums .u8 ((tlC g q).map bv))) 29, blk g8 ((nums .u8 (q.map bv))) 27, blk g5 ((nums .u8 (c.map bv))) 23])) ((St w (fun _ => False) w_ ([blk g32 ((nums .u8 ((tlC g q).map bv))) 23, blk g23 ((nums .u8 ((tlC g q).map bv))) 29, blk g8 ((nums .u8 (q.map bv))) 27, blk g5 ((nums .u8 (c.map bv))) 23])))))) (by kernel_rfl) rfl rfl (by kernel_rfl) (by kernel_rfl) rfl (by kernel_rfl) (by kernel_rfl) ⟨qv_none, HS.draw⟩ ?_ ?_
        · clear HS
          intro i_ hi_ bq_ vq_ a_ w_ hG hb_ hon hoff hfr hel hval
          obtain ⟨hV, hE⟩ := hG
          have hi_ := List.mem_range.1 hi_
          have hcs : i_ = 0 ∨ i_ = 1 ∨ i_ = 2 ∨ i_ = 3 ∨ i_ = 4 ∨ i_ = 5 ∨ i_ = 6 ∨ i_ = 7 ∨ i_ = 8 ∨ i_ = 9 ∨ i_ = 10 ∨ i_ = 11 ∨ i_ = 12 ∨ i_ = 13 ∨ i_ = 14 ∨ i_ = 15 ∨ i_ = 16 ∨ i_ = 17 ∨ i_ = 18 ∨ i_ = 19 ∨ i_ = 20 ∨ i_ = 21 ∨ i_ = 22 ∨ i_ = 23 ∨ i_ = 24 ∨ i_ = 25 ∨ i_ = 26 ∨ i_ = 27 ∨ i_ = 28 ∨ i_ = 29 ∨ i_ = 30 := by omega
          rcases hcs with rfl | rfl | rfl | rfl | rfl | rfl | rfl | rfl | rfl | rfl | rfl | rfl | rfl | rfl | rfl | rfl | rfl | rfl | rfl | rfl | rfl | rfl | rfl | rfl | rfl | rfl | rfl | rfl | rfl | rfl | rfl
          · have h0 : a_.tmps[0]? = some (.int .u64 (uv g)) := (hel 0 (by decide)).trans rfl
            obtain ⟨l_, rfl⟩ := hfr
            have e0 : evl l_ (.tmp 0) = .int .u64 (uv g) := evl_of h0
            refine ⟨_, rfl, fun K_ hK_ => wp_of_list rfl ?_⟩
            intro ops_
            refine p_run (l' := _) _ (x_move (.int .u64 (uv g)) rfl e0) rfl ?_
            refine wpList_nil ?_
            exact norm_put (hK_ (.int .u64 (uv g)) _ ⟨qv_up hV (fun _ h => Option.some.inj h), hE⟩)
          · have h4 : a_.tmps[4]? = some (.pointer (some ⟨g5, 0, none⟩)) := (hel 4 (by decide)).trans rfl
            obtain ⟨l_, rfl⟩ := hfr
            have hE0 := hE
            rw [show bq_ 26 = false from (hoff 26 (by decide))] at hE0
            rw [show bq_ 5 = false from (hoff 5 (by decide))] at hE0
            rw [show bq_ 2 = false from (hoff 2 (by decide))] at hE0
            simp only [cond_true, cond_false] at hE0
            have HS := hE0
            have e4 : evl l_ (.tmp 4) = .pointer (some ⟨g5, 0, none⟩) := evl_of h4
            refine ⟨_, rfl, fun K_ hK_ => wp_of_list rfl ?_⟩
            intro ops_
            refine p_run (l' := _) _ (x_loads ((nums .u8 (c.map bv))) 240 rfl e4 (bkCells (HS.get (.tail _ (.tail _ (.tail _ (.head _))))) 0 _ (whole _)) (by rfl) (by kernel_rfl) (by simp [List.length_map, hc, nums_length])) rfl ?_
            refine wpList_nil ?_
            exact norm_put (hK_ (.agg ((nums .u8 (c.map bv))).toArray) _ ⟨qv_up hV (fun _ h => Option.some.inj h), hE⟩)
          · have h37 : a_.tmps[37]? = some (.int .u64 (uv g)) := (hval (0, 37) (by decide) (hon 0 (by decide))).trans (congrArg some (hV 0 _ rfl (hon 0 (by decide))))
            have h38 : a_.tmps[38]? = some (.agg ((nums .u8 (c.map bv))).toArray) := (hval (1, 38) (by decide) (hon 1 (by decide))).trans (congrArg some (hV 1 _ rfl (hon 1 (by decide))))
            obtain ⟨l_, rfl⟩ := hfr
            have hE0 := hE
            rw [show bq_ 26 = false from (hoff 26 (by decide))] at hE0
            rw [show bq_ 5 = false from (hoff 5 (by decide))] at hE0
            rw [show bq_ 2 = false from hb_] at hE0
            simp only [cond_true, cond_false] at hE0
            have HS := hE0
            have e37 : evl l_ (.tmp 37) = .int .u64 (uv g) := evl_of h37
            have e38 : evl l_ (.tmp 38) = .agg ((nums .u8 (c.map bv))).toArray := evl_of h38
            refine ⟨_, rfl, fun K_ hK_ => wp_of_list rfl ?_⟩
            intro ops_
            refine w_call [.int .u64 (uv g), .agg ((nums .u8 (c.map bv))).toArray] Try.func13 (by kernel_rfl) (by rfl) (by simp [e37, e38]) ?_
            refine (tpage_any HS g c hc).mono ?_
            clear HS
            rintro e w9201 ⟨rfl, HS⟩
            refine ⟨_, rfl, ?_⟩
            refine wpList_nil ?_
            refine norm_put (hK_ (.agg ((nums .u8 ((tlB g c).map bv))).toArray) _ ⟨qv_up hV (by intro _ h; cases h), ?_⟩)
            show cond (bq_ 26) _ _
            rw [show bq_ 26 = false from hoff 26 (by decide), cond_false]
            show cond (bq_ 5) _ _
            rw [show bq_ 5 = false from hoff 5 (by decide), cond_false]
            show cond true _ _
            rw [cond_true]
            exact ⟨rfl, ((((HS.front 3 rfl).front 3 rfl).front 3 rfl).front 3 rfl)⟩
          · have h0 : a_.tmps[0]? = some (.int .u64 (uv g)) := (hel 0 (by decide)).trans rfl
            obtain ⟨l_, rfl⟩ := hfr
            have e0 : evl l_ (.tmp 0) = .int .u64 (uv g) := evl_of h0
            refine ⟨_, rfl, fun K_ hK_ => wp_of_list rfl ?_⟩
            intro ops_
            refine p_run (l' := _) _ (x_move (.int .u64 (uv g)) rfl e0) rfl ?_
            refine wpList_nil ?_
            exact norm_put (hK_ (.int .u64 (uv g)) _ ⟨qv_up hV (fun _ h => Option.some.inj h), hE⟩)
          · have h4 : a_.tmps[4]? = some (.pointer (some ⟨g5, 0, none⟩)) := (hel 4 (by decide)).trans rfl
            obtain ⟨l_, rfl⟩ := hfr
            rcases hq2 : bq_ 2 with _ | _
            · have hE0 := hE
              rw [show bq_ 26 = false from (hoff 26 (by decide))] at hE0
              rw [show bq_ 5 = false from (hoff 5 (by decide))] at hE0
              rw [show bq_ 2 = false from hq2] at hE0
              simp only [cond_true, cond_false] at hE0
              have HS := hE0
              have e4 : evl l_ (.tmp 4) = .pointer (some ⟨g5, 0, none⟩) := evl_of h4
              refine ⟨_, rfl, fun K_ hK_ => wp_of_list rfl ?_⟩
              intro ops_
              refine p_run (l' := _) _ (x_loads ((nums .u8 (c.map bv))) 240 rfl e4 (bkCells (HS.get (.tail _ (.tail _ (.tail _ (.head _))))) 0 _ (whole _)) (by rfl) (by kernel_rfl) (by simp [List.length_map, hc, nums_length])) rfl ?_
              refine wpList_nil ?_
              exact norm_put (hK_ (.agg ((nums .u8 (c.map bv))).toArray) _ ⟨qv_up hV (fun _ h => Option.some.inj h), hE⟩)
            · skip
              have hE0 := hE
              rw [show bq_ 26 = false from (hoff 26 (by decide))] at hE0
              rw [show bq_ 5 = false from (hoff 5 (by decide))] at hE0
              rw [show bq_ 2 = true from hq2] at hE0
              simp only [cond_true, cond_false] at hE0
              obtain ⟨hv2, HS⟩ := hE0
              have e4 : evl l_ (.tmp 4) = .pointer (some ⟨g5, 0, none⟩) := evl_of h4
              refine ⟨_, rfl, fun K_ hK_ => wp_of_list rfl ?_⟩
              intro ops_
              refine p_run (l' := _) _ (x_loads ((nums .u8 (c.map bv))) 240 rfl e4 (bkCells (HS.get (.tail _ (.tail _ (.tail _ (.head _))))) 0 _ (whole _)) (by rfl) (by kernel_rfl) (by simp [List.length_map, hc, nums_length])) rfl ?_
              refine wpList_nil ?_
              exact norm_put (hK_ (.agg ((nums .u8 (c.map bv))).toArray) _ ⟨qv_up hV (fun _ h => Option.some.inj h), hE⟩)
          · have h40 : a_.tmps[40]? = some (.int .u64 (uv g)) := (hval (3, 40) (by decide) (hon 3 (by decide))).trans (congrArg some (hV 3 _ rfl (hon 3 (by decide))))
            have h41 : a_.tmps[41]? = some (.agg ((nums .u8 (c.map bv))).toArray) := (hval (4, 41) (by decide) (hon 4 (by decide))).trans (congrArg some (hV 4 _ rfl (hon 4 (by decide))))
            obtain ⟨l_, rfl⟩ := hfr
            have hE0 := hE
            rw [show bq_ 26 = false from (hoff 26 (by decide))] at hE0
            rw [show bq_ 5 = false from hb_] at hE0
            rw [show bq_ 2 = true from (hon 2 (by decide))] at hE0
            simp only [cond_true, cond_false] at hE0
            obtain ⟨hv2, HS⟩ := hE0
            have e40 : evl l_ (.tmp 40) = .int .u64 (uv g) := evl_of h40
            have e41 : evl l_ (.tmp 41) = .agg ((nums .u8 (c.map bv))).toArray := evl_of h41
            refine ⟨_, rfl, fun K_ hK_ => wp_of_list rfl ?_⟩
            intro ops_
            refine w_call [.int .u64 (uv g), .agg ((nums .u8 (c.map bv))).toArray] Try.func17 (by kernel_rfl) (by rfl) (by simp [e40, e41]) ?_
            refine (rpage_any HS g c hc).mono ?_
            clear HS
            rintro e w9501 ⟨rfl, HS⟩
            refine ⟨_, rfl, ?_⟩
            refine wpList_nil ?_
            refine norm_put (hK_ (.agg ((nums .u8 ((tlB g c).map bv))).toArray) _ ⟨qv_up hV (by intro _ h; cases h), ?_⟩)
            show cond (bq_ 26) _ _
            rw [show bq_ 26 = false from hoff 26 (by decide), cond_false]
            show cond true _ _
            rw [cond_true]
            exact ⟨hv2, rfl, ((((HS.front 3 rfl).front 3 rfl).front 3 rfl).front 3 rfl)⟩
          · have h39 := hval (2, 39) (by decide) (hon 2 (by decide))
            have h42 := hval (5, 42) (by decide) (hon 5 (by decide))
            obtain ⟨l_, rfl⟩ := hfr
            have hE0 := hE
            rw [show bq_ 26 = false from (hoff 26 (by decide))] at hE0
            rw [show bq_ 5 = true from (hon 5 (by decide))] at hE0
            simp only [cond_true, cond_false] at hE0
            obtain ⟨hv2, hv5, HS⟩ := hE0
            rw [hv2] at h39
            rw [hv5] at h42
            have e39 : evl l_ (.tmp 39) = .agg ((nums .u8 ((tlB g c).map bv))).toArray := evl_of h39
            have e42 : evl l_ (.tmp 42) = .agg ((nums .u8 ((tlB g c).map bv))).toArray := evl_of h42
            refine ⟨_, rfl, fun K_ hK_ => wp_of_list rfl ?_⟩
            intro ops_
            refine p_run (l' := _) _ (x_eq .eql (.agg ((nums .u8 ((tlB g c).map bv))).toArray) (.agg ((nums .u8 ((tlB g c).map bv))).toArray) (decide (((tlB g c).map bv) = ((tlB g c).map bv))) true rfl e39 e42 (equal_nums Try.underlying27 Try.underlying5 (by kernel_rfl) (by kernel_rfl) _ _ (by simp [List.length_map, (tlB_length g hc)]) (by simp [List.length_map, (tlB_length g hc)])) (eq_yes rfl) rfl (guard_agg (by kernel_rfl)) (guard_agg (by kernel_rfl))) rfl ?_
            refine wpList_nil ?_
            exact norm_put (hK_ (.bool true) _ ⟨qv_up hV (fun _ h => Option.some.inj h), hE⟩)
          · have h43 : a_.tmps[43]? = some (.bool true) := (hval (6, 43) (by decide) (hon 6 (by decide))).trans (congrArg some (hV 6 _ rfl (hon 6 (by decide))))
            obtain ⟨l_, rfl⟩ := hfr
            have e43 : evl l_ (.tmp 43) = .bool true := evl_of h43
            refine ⟨_, rfl, fun K_ hK_ => wp_of_list rfl ?_⟩
            intro ops_
            refine p_run (l' := _) _ (x_move (.bool true) rfl e43) rfl ?_
            refine wpList_nil ?_
            exact norm_put (hK_ (.bool true) _ ⟨qv_up hV (fun _ h => Option.some.inj h), hE⟩)
          · have h7 : a_.tmps[7]? = some (.pointer (some ⟨g23, 0, none⟩)) := (hel 7 (by decide)).trans rfl
            have h44 : a_.tmps[44]? = some (.bool true) := (hval (7, 44) (by decide) (hon 7 (by decide))).trans (congrArg some (hV 7 _ rfl (hon 7 (by decide))))
            obtain ⟨l_, rfl⟩ := hfr
            have hE0 := hE
            rw [show bq_ 26 = false from (hoff 26 (by decide))] at hE0
            rw [show bq_ 5 = true from (hon 5 (by decide))] at hE0
            simp only [cond_true, cond_false] at hE0
            obtain ⟨hv2, hv5, HS⟩ := hE0
            have e7 : evl l_ (.tmp 7) = .pointer (some ⟨g23, 0, none⟩) := evl_of h7
            have e44 : evl l_ (.tmp 44) = .bool true := evl_of h44
            refine ⟨_, rfl, fun K_ hK_ => wp_of_listG rfl (wanted_on (t := 44) rfl rfl rfl h44) ?_⟩
            intro ops_
            refine p_run (l' := _) _ (x_loads ((nums .u8 ((tlC g q).map bv))) 240 rfl e7 (bkCells (HS.get (.tail _ (.head _))) 0 _ (whole _)) (by rfl) (by kernel_rfl) (by simp [(tlC_len g hq), List.length_map, nums_length])) rfl ?_
            refine wpList_nil ?_
            exact norm_put (hK_ (.agg ((nums .u8 ((tlC g q).map bv))).toArray) _ ⟨qv_up hV (fun _ h => Option.some.inj h), hE⟩)
          · have h9 : a_.tmps[9]? = some (.pointer (some ⟨g32, 0, none⟩)) := (hel 9 (by decide)).trans rfl
            have h44 : a_.tmps[44]? = some (.bool true) := (hval (7, 44) (by decide) (hon 7 (by decide))).trans (congrArg some (hV 7 _ rfl (hon 7 (by decide))))
            obtain ⟨l_, rfl⟩ := hfr
            have hE0 := hE
            rw [show bq_ 26 = false from (hoff 26 (by decide))] at hE0
            rw [show bq_ 5 = true from (hon 5 (by decide))] at hE0
            simp only [cond_true, cond_false] at hE0
            obtain ⟨hv2, hv5, HS⟩ := hE0
            have e9 : evl l_ (.tmp 9) = .pointer (some ⟨g32, 0, none⟩) := evl_of h9
            have e44 : evl l_ (.tmp 44) = .bool true := evl_of h44
            refine ⟨_, rfl, fun K_ hK_ => wp_of_listG rfl (wanted_on (t := 44) rfl rfl rfl h44) ?_⟩
            intro ops_
            refine p_run (l' := _) _ (x_loads ((nums .u8 ((tlC g q).map bv))) 240 rfl e9 (bkCells (HS.get (.head _)) 0 _ (whole _)) (by rfl) (by kernel_rfl) (by simp [(tlC_len g hq), List.length_map, nums_length])) rfl ?_
            refine wpList_nil ?_
            exact norm_put (hK_ (.agg ((nums .u8 ((tlC g q).map bv))).toArray) _ ⟨qv_up hV (fun _ h => Option.some.inj h), hE⟩)
          · have h44 : a_.tmps[44]? = some (.bool true) := (hval (7, 44) (by decide) (hon 7 (by decide))).trans (congrArg some (hV 7 _ rfl (hon 7 (by decide))))
            have h45 : a_.tmps[45]? = some (.agg ((nums .u8 ((tlC g q).map bv))).toArray) := (hval (8, 45) (by decide) (hon 8 (by decide))).trans (congrArg some (hV 8 _ rfl (hon 8 (by decide))))
            have h46 : a_.tmps[46]? = some (.agg ((nums .u8 ((tlC g q).map bv))).toArray) := (hval (9, 46) (by decide) (hon 9 (by decide))).trans (congrArg some (hV 9 _ rfl (hon 9 (by decide))))
            obtain ⟨l_, rfl⟩ := hfr
            have e44 : evl l_ (.tmp 44) = .bool true := evl_of h44
            have e45 : evl l_ (.tmp 45) = .agg ((nums .u8 ((tlC g q).map bv))).toArray := evl_of h45
            have e46 : evl l_ (.tmp 46) = .agg ((nums .u8 ((tlC g q).map bv))).toArray := evl_of h46
            refine ⟨_, rfl, fun K_ hK_ => wp_of_listG rfl (wanted_on (t := 44) rfl rfl rfl h44) ?_⟩
            intro ops_
            refine p_run (l' := _) _ (x_eq .eql (.agg ((nums .u8 ((tlC g q).map bv))).toArray) (.agg ((nums .u8 ((tlC g q).map bv))).toArray) (decide (((tlC g q).map bv) = ((tlC g q).map bv))) true rfl e45 e46 (equal_nums Try.underlying23 Try.underlying5 (by kernel_rfl) (by kernel_rfl) _ _ (by simp [List.length_map, (tlC_len g hq)]) (by simp [List.length_map, (tlC_len g hq)])) (eq_yes rfl) rfl (guard_agg (by kernel_rfl)) (guard_agg (by kernel_rfl))) rfl ?_
            refine wpList_nil ?_
            exact norm_put (hK_ (.bool true) _ ⟨qv_up hV (fun _ h => Option.some.inj h), hE⟩)
          · have h44 : a_.tmps[44]? = some (.bool true) := (hval (7, 44) (by decide) (hon 7 (by decide))).trans (congrArg some (hV 7 _ rfl (hon 7 (by decide))))
            have h47 : a_.tmps[47]? = some (.bool true) := (hval (10, 47) (by decide) (hon 10 (by decide))).trans (congrArg some (hV 10 _ rfl (hon 10 (by decide))))
            obtain ⟨l_, rfl⟩ := hfr
            have e44 : evl l_ (.tmp 44) = .bool true := evl_of h44
            have e47 : evl l_ (.tmp 47) = .bool true := evl_of h47
            refine ⟨_, rfl, fun K_ hK_ => wp_of_list rfl ?_⟩
            intro ops_
            refine p_run (l' := _) _ (x_pick true (.bool true) (.bool false) (.bool true) rfl e44 e47 rfl rfl) rfl ?_
            refine wpList_nil ?_
            exact norm_put (hK_ (.bool true) _ ⟨qv_up hV (fun _ h => Option.some.inj h), hE⟩)
          · have h48 : a_.tmps[48]? = some (.bool true) := (hval (11, 48) (by decide) (hon 11 (by decide))).trans (congrArg some (hV 11 _ rfl (hon 11 (by decide))))
            obtain ⟨l_, rfl⟩ := hfr
            have e48 : evl l_ (.tmp 48) = .bool true := evl_of h48
            refine ⟨_, rfl, fun K_ hK_ => wp_of_list rfl ?_⟩
            intro ops_
            refine p_run (l' := _) _ (x_move (.bool true) rfl e48) rfl ?_
            refine wpList_nil ?_
            exact norm_put (hK_ (.bool true) _ ⟨qv_up hV (fun _ h => Option.some.inj h), hE⟩)
          · have h8 : a_.tmps[8]? = some (.int .i64 (tlE g q)) := (hel 8 (by decide)).trans rfl
            have h49 : a_.tmps[49]? = some (.bool true) := (hval (12, 49) (by decide) (hon 12 (by decide))).trans (congrArg some (hV 12 _ rfl (hon 12 (by decide))))
            obtain ⟨l_, rfl⟩ := hfr
            have e8 : evl l_ (.tmp 8) = .int .i64 (tlE g q) := evl_of h8
            have e49 : evl l_ (.tmp 49) = .bool true := evl_of h49
            refine ⟨_, rfl, fun K_ hK_ => wp_of_listG rfl (wanted_on (t := 49) rfl rfl rfl h49) ?_⟩
            intro ops_
            refine p_run (l' := _) _ (x_move (.int .i64 (tlE g q)) rfl e8) rfl ?_
            refine wpList_nil ?_
            exact norm_put (hK_ (.int .i64 (tlE g q)) _ ⟨qv_up hV (fun _ h => Option.some.inj h), hE⟩)
          · have h10 : a_.tmps[10]? = some (.int .i64 (tlE g q)) := (hel 10 (by decide)).trans rfl
            have h49 : a_.tmps[49]? = some (.bool true) := (hval (12, 49) (by decide) (hon 12 (by decide))).trans (congrArg some (hV 12 _ rfl (hon 12 (by decide))))
            obtain ⟨l_, rfl⟩ := hfr
            have e10 : evl l_ (.tmp 10) = .int .i64 (tlE g q) := evl_of h10
            have e49 : evl l_ (.tmp 49) = .bool true := evl_of h49
            refine ⟨_, rfl, fun K_ hK_ => wp_of_listG rfl (wanted_on (t := 49) rfl rfl rfl h49) ?_⟩
            intro ops_
            refine p_run (l' := _) _ (x_move (.int .i64 (tlE g q)) rfl e10) rfl ?_
            refine wpList_nil ?_
            exact norm_put (hK_ (.int .i64 (tlE g q)) _ ⟨qv_up hV (fun _ h => Option.some.inj h), hE⟩)
          · have h49 : a_.tmps[49]? = some (.bool true) := (hval (12, 49) (by decide) (hon 12 (by decide))).trans (congrArg some (hV 12 _ rfl (hon 12 (by decide))))
            have h50 : a_.tmps[50]? = some (.int .i64 (tlE g q)) := (hval (13, 50) (by decide) (hon 13 (by decide))).trans (congrArg some (hV 13 _ rfl (hon 13 (by decide))))
            have h51 : a_.tmps[51]? = some (.int .i64 (tlE g q)) := (hval (14, 51) (by decide) (hon 14 (by decide))).trans (congrArg some (hV 14 _ rfl (hon 14 (by decide))))
            obtain ⟨l_, rfl⟩ := hfr
            have e49 : evl l_ (.tmp 49) = .bool true := evl_of h49
            have e50 : evl l_ (.tmp 50) = .int .i64 (tlE g q) := evl_of h50
            have e51 : evl l_ (.tmp 51) = .int .i64 (tlE g q) := evl_of h51
            refine ⟨_, rfl, fun K_ hK_ => wp_of_listG rfl (wanted_on (t := 49) rfl rfl rfl h49) ?_⟩
            intro ops_
            refine p_run (l' := _) _ (x_cmp (k := .i64) (m := (tlE g q)) (n := (tlE g q)) .eql true rfl e50 e51 (cmp_yes rfl) rfl) rfl ?_
            refine wpList_nil ?_
            exact norm_put (hK_ (.bool true) _ ⟨qv_up hV (fun _ h => Option.some.inj h), hE⟩)
          · have h49 : a_.tmps[49]? = some (.bool true) := (hval (12, 49) (by decide) (hon 12 (by decide))).trans (congrArg some (hV 12 _ rfl (hon 12 (by decide))))
            have h52 : a_.tmps[52]? = some (.bool true) := (hval (15, 52) (by decide) (hon 15 (by decide))).trans (congrArg some (hV 15 _ rfl (hon 15 (by decide))))
            obtain ⟨l_, rfl⟩ := hfr
            have e49 : evl l_ (.tmp 49) = .bool true := evl_of h49
            have e52 : evl l_ (.tmp 52) = .bool true := evl_of h52
            refine ⟨_, rfl, fun K_ hK_ => wp_of_list rfl ?_⟩
            intro ops_
            refine p_run (l' := _) _ (x_pick true (.bool true) (.bool false) (.bool true) rfl e49 e52 rfl rfl) rfl ?_
            refine wpList_nil ?_
            exact norm_put (hK_ (.bool true) _ ⟨qv_up hV (fun _ h => Option.some.inj h), hE⟩)
          · have h53 : a_.tmps[53]? = some (.bool true) := (hval (16, 53) (by decide) (hon 16 (by decide))).trans (congrArg some (hV 16 _ rfl (hon 16 (by decide))))
            obtain ⟨l_, rfl⟩ := hfr
            have e53 : evl l_ (.tmp 53) = .bool true := evl_of h53
            refine ⟨_, rfl, fun K_ hK_ => wp_of_list rfl ?_⟩
            intro ops_
            refine p_run (l' := _) _ (x_move (.bool true) rfl e53) rfl ?_
            refine wpList_nil ?_
            exact norm_put (hK_ (.bool true) _ ⟨qv_up hV (fun _ h => Option.some.inj h), hE⟩)
          · have h0 : a_.tmps[0]? = some (.int .u64 (uv g)) := (hel 0 (by decide)).trans rfl
            have h54 : a_.tmps[54]? = some (.bool true) := (hval (17, 54) (by decide) (hon 17 (by decide))).trans (congrArg some (hV 17 _ rfl (hon 17 (by decide))))
            obtain ⟨l_, rfl⟩ := hfr
            have e0 : evl l_ (.tmp 0) = .int .u64 (uv g) := evl_of h0
            have e54 : evl l_ (.tmp 54) = .bool true := evl_of h54
            refine ⟨_, rfl, fun K_ hK_ => wp_of_listG rfl (wanted_on (t := 54) rfl rfl rfl h54) ?_⟩
            intro ops_
            refine p_run (l' := _) _ (x_move (.int .u64 (uv g)) rfl e0) rfl ?_
            refine wpList_nil ?_
            exact norm_put (hK_ (.int .u64 (uv g)) _ ⟨qv_up hV (fun _ h => Option.some.inj h), hE⟩)
          · have h54 : a_.tmps[54]? = some (.bool true) := (hval (17, 54) (by decide) (hon 17 (by decide))).trans (congrArg some (hV 17 _ rfl (hon 17 (by decide))))
            have h55 : a_.tmps[55]? = some (.int .u64 (uv g)) := (hval (18, 55) (by decide) (hon 18 (by decide))).trans (congrArg some (hV 18 _ rfl (hon 18 (by decide))))
            obtain ⟨l_, rfl⟩ := hfr
            have hE0 := hE
            rw [show bq_ 26 = false from (hoff 26 (by decide))] at hE0
            rw [show bq_ 5 = true from (hon 5 (by decide))] at hE0
            simp only [cond_true, cond_false] at hE0
            obtain ⟨hv2, hv5, HS⟩ := hE0
            have e54 : evl l_ (.tmp 54) = .bool true := evl_of h54
            have e55 : evl l_ (.tmp 55) = .int .u64 (uv g) := evl_of h55
            refine ⟨_, rfl, fun K_ hK_ => wp_of_listG rfl (wanted_on (t := 54) rfl rfl rfl h54) ?_⟩
            intro ops_
            refine w_call [.int .u64 (uv g)] Try.func18 (by kernel_rfl) (by rfl) (by simp [e55]) ?_
            refine (tarea_any g _).mono ?_
            rintro e w' ⟨rfl, rfl⟩
            refine ⟨_, rfl, ?_⟩
            refine wpList_nil ?_
            exact norm_put (hK_ (.int .i64 (tlA g)) _ ⟨qv_up hV (fun _ h => Option.some.inj h), hE⟩)
          · have h0 : a_.tmps[0]? = some (.int .u64 (uv g)) := (hel 0 (by decide)).trans rfl
            have h54 : a_.tmps[54]? = some (.bool true) := (hval (17, 54) (by decide) (hon 17 (by decide))).trans (congrArg some (hV 17 _ rfl (hon 17 (by decide))))
            obtain ⟨l_, rfl⟩ := hfr
            have e0 : evl l_ (.tmp 0) = .int .u64 (uv g) := evl_of h0
            have e54 : evl l_ (.tmp 54) = .bool true := evl_of h54
            refine ⟨_, rfl, fun K_ hK_ => wp_of_listG rfl (wanted_on (t := 54) rfl rfl rfl h54) ?_⟩
            intro ops_
            refine p_run (l' := _) _ (x_move (.int .u64 (uv g)) rfl e0) rfl ?_
            refine wpList_nil ?_
            exact norm_put (hK_ (.int .u64 (uv g)) _ ⟨qv_up hV (fun _ h => Option.some.inj h), hE⟩)
          · have h54 : a_.tmps[54]? = some (.bool true) := (hval (17, 54) (by decide) (hon 17 (by decide))).trans (congrArg some (hV 17 _ rfl (hon 17 (by decide))))
            have h57 : a_.tmps[57]? = some (.int .u64 (uv g)) := (hval (20, 57) (by decide) (hon 20 (by decide))).trans (congrArg some (hV 20 _ rfl (hon 20 (by decide))))
            obtain ⟨l_, rfl⟩ := hfr
            have hE0 := hE
            rw [show bq_ 26 = false from (hoff 26 (by decide))] at hE0
            rw [show bq_ 5 = true from (hon 5 (by decide))] at hE0
            simp only [cond_true, cond_false] at hE0
            obtain ⟨hv2, hv5, HS⟩ := hE0
            have e54 : evl l_ (.tmp 54) = .bool true := evl_of h54
            have e57 : evl l_ (.tmp 57) = .int .u64 (uv g) := evl_of h57
            refine ⟨_, rfl, fun K_ hK_ => wp_of_listG rfl (wanted_on (t := 54) rfl rfl rfl h54) ?_⟩
            intro ops_
            refine w_call [.int .u64 (uv g)] Try.func19 (by kernel_rfl) (by rfl) (by simp [e57]) ?_
            refine (rarea_any g _).mono ?_
            rintro e w' ⟨rfl, rfl⟩
            refine ⟨_, rfl, ?_⟩
            refine wpList_nil ?_
            exact norm_put (hK_ (.int .i64 (tlA g)) _ ⟨qv_up hV (fun _ h => Option.some.inj h), hE⟩)
          · have h54 : a_.tmps[54]? = some (.bool true) := (hval (17, 54) (by decide) (hon 17 (by decide))).trans (congrArg some (hV 17 _ rfl (hon 17 (by decide))))
            have h56 : a_.tmps[56]? = some (.int .i64 (tlA g)) := (hval (19, 56) (by decide) (hon 19 (by decide))).trans (congrArg some (hV 19 _ rfl (hon 19 (by decide))))
            have h58 : a_.tmps[58]? = some (.int .i64 (tlA g)) := (hval (21, 58) (by decide) (hon 21 (by decide))).trans (congrArg some (hV 21 _ rfl (hon 21 (by decide))))
            obtain ⟨l_, rfl⟩ := hfr
            have e54 : evl l_ (.tmp 54) = .bool true := evl_of h54
            have e56 : evl l_ (.tmp 56) = .int .i64 (tlA g) := evl_of h56
            have e58 : evl l_ (.tmp 58) = .int .i64 (tlA g) := evl_of h58
            refine ⟨_, rfl, fun K_ hK_ => wp_of_listG rfl (wanted_on (t := 54) rfl rfl rfl h54) ?_⟩
            intro ops_
            refine p_run (l' := _) _ (x_cmp (k := .i64) (m := (tlA g)) (n := (tlA g)) .eql true rfl e56 e58 (cmp_yes rfl) rfl) rfl ?_
            refine wpList_nil ?_
            exact norm_put (hK_ (.bool true) _ ⟨qv_up hV (fun _ h => Option.some.inj h), hE⟩)
          · have h54 : a_.tmps[54]? = some (.bool true) := (hval (17, 54) (by decide) (hon 17 (by decide))).trans (congrArg some (hV 17 _ rfl (hon 17 (by decide))))
            have h59 : a_.tmps[59]? = some (.bool true) := (hval (22, 59) (by decide) (hon 22 (by decide))).trans (congrArg some (hV 22 _ rfl (hon 22 (by decide))))
            obtain ⟨l_, rfl⟩ := hfr
            have e54 : evl l_ (.tmp 54) = .bool true := evl_of h54
            have e59 : evl l_ (.tmp 59) = .bool true := evl_of h59
            refine ⟨_, rfl, fun K_ hK_ => wp_of_list rfl ?_⟩
            intro ops_
            refine p_run (l' := _) _ (x_pick true (.bool true) (.bool false) (.bool true) rfl e54 e59 rfl rfl) rfl ?_
            refine wpList_nil ?_
            exact norm_put (hK_ (.bool true) _ ⟨qv_up hV (fun _ h => Option.some.inj h), hE⟩)
          · have h60 : a_.tmps[60]? = some (.bool true) := (hval (23, 60) (by decide) (hon 23 (by decide))).trans (congrArg some (hV 23 _ rfl (hon 23 (by decide))))
            obtain ⟨l_, rfl⟩ := hfr
            have e60 : evl l_ (.tmp 60) = .bool true := evl_of h60
            refine ⟨_, rfl, fun K_ hK_ => wp_of_list rfl ?_⟩
            intro ops_
            refine p_run (l' := _) _ (x_move (.bool true) rfl e60) rfl ?_
            refine wpList_nil ?_
            exact norm_put (hK_ (.bool true) _ ⟨qv_up hV (fun _ h => Option.some.inj h), hE⟩)
          · have h4 : a_.tmps[4]? = some (.pointer (some ⟨g5, 0, none⟩)) := (hel 4 (by decide)).trans rfl
            have h61 : a_.tmps[61]? = some (.bool true) := (hval (24, 61) (by decide) (hon 24 (by decide))).trans (congrArg some (hV 24 _ rfl (hon 24 (by decide))))
            obtain ⟨l_, rfl⟩ := hfr
            have hE0 := hE
            rw [show bq_ 26 = false from (hoff 26 (by decide))] at hE0
            rw [show bq_ 5 = true from (hon 5 (by decide))] at hE0
            simp only [cond_true, cond_false] at hE0
            obtain ⟨hv2, hv5, HS⟩ := hE0
            have e4 : evl l_ (.tmp 4) = .pointer (some ⟨g5, 0, none⟩) := evl_of h4
            have e61 : evl l_ (.tmp 61) = .bool true := evl_of h61
            refine ⟨_, rfl, fun K_ hK_ => wp_of_listG rfl (wanted_on (t := 61) rfl rfl rfl h61) ?_⟩
            intro ops_
            refine p_run (l' := _) _ (x_loads ((nums .u8 (c.map bv))) 240 rfl e4 (bkCells (HS.get (.tail _ (.tail _ (.tail _ (.head _))))) 0 _ (whole _)) (by rfl) (by kernel_rfl) (by simp [List.length_map, hc, nums_length])) rfl ?_
            refine wpList_nil ?_
            exact norm_put (hK_ (.agg ((nums .u8 (c.map bv))).toArray) _ ⟨qv_up hV (fun _ h => Option.some.inj h), hE⟩)
          · have h61 : a_.tmps[61]? = some (.bool true) := (hval (24, 61) (by decide) (hon 24 (by decide))).trans (congrArg some (hV 24 _ rfl (hon 24 (by decide))))
            have h62 : a_.tmps[62]? = some (.agg ((nums .u8 (c.map bv))).toArray) := (hval (25, 62) (by decide) (hon 25 (by decide))).trans (congrArg some (hV 25 _ rfl (hon 25 (by decide))))
            obtain ⟨l_, rfl⟩ := hfr
            have hE0 := hE
            rw [show bq_ 26 = false from hb_] at hE0
            rw [show bq_ 5 = true from (hon 5 (by decide))] at hE0
            simp only [cond_true, cond_false] at hE0
            obtain ⟨hv2, hv5, HS⟩ := hE0
            have e61 : evl l_ (.tmp 61) = .bool true := evl_of h61
            have e62 : evl l_ (.tmp 62) = .agg ((nums .u8 (c.map bv))).toArray := evl_of h62
            refine ⟨_, rfl, fun K_ hK_ => wp_of_listG rfl (wanted_on (t := 61) rfl rfl rfl h61) ?_⟩
            intro ops_
            refine w_call [.agg ((nums .u8 (c.map bv))).toArray] Try.func15 (by kernel_rfl) (by rfl) (by simp [e62]) ?_
            refine (tused_any HS c hc).mono ?_
            clear HS
            rintro e w11601 ⟨rfl, HS⟩
            refine ⟨_, rfl, ?_⟩
            refine wpList_nil ?_
            refine norm_put (hK_ (.int .i64 (usN c : Int)) _ ⟨qv_up hV (by intro _ h; cases h), ?_⟩)
            show cond true _ _
            rw [cond_true]
            exact ⟨hv2, hv5, rfl, ((((HS.front 3 rfl).front 3 rfl).front 3 rfl).front 3 rfl)⟩
          · have h11 : a_.tmps[11]? = some (.int .i64 ((usN c : Nat) : Int)) := (hel 11 (by decide)).trans rfl
            have h61 : a_.tmps[61]? = some (.bool true) := (hval (24, 61) (by decide) (hon 24 (by decide))).trans (congrArg some (hV 24 _ rfl (hon 24 (by decide))))
            obtain ⟨l_, rfl⟩ := hfr
            have e11 : evl l_ (.tmp 11) = .int .i64 ((usN c : Nat) : Int) := evl_of h11
            have e61 : evl l_ (.tmp 61) = .bool true := evl_of h61
            refine ⟨_, rfl, fun K_ hK_ => wp_of_listG rfl (wanted_on (t := 61) rfl rfl rfl h61) ?_⟩
            intro ops_
            refine p_run (l' := _) _ (x_move (.int .i64 ((usN c : Nat) : Int)) rfl e11) rfl ?_
            refine wpList_nil ?_
            exact norm_put (hK_ (.int .i64 ((usN c : Nat) : Int)) _ ⟨qv_up hV (fun _ h => Option.some.inj h), hE⟩)
          · have h61 : a_.tmps[61]? = some (.bool true) := (hval (24, 61) (by decide) (hon 24 (by decide))).trans (congrArg some (hV 24 _ rfl (hon 24 (by decide))))
            have h63 := hval (26, 63) (by decide) (hon 26 (by decide))
            have h64 : a_.tmps[64]? = some (.int .i64 ((usN c : Nat) : Int)) := (hval (27, 64) (by decide) (hon 27 (by decide))).trans (congrArg some (hV 27 _ rfl (hon 27 (by decide))))
            obtain ⟨l_, rfl⟩ := hfr
            have hE0 := hE
            rw [show bq_ 26 = true from (hon 26 (by decide))] at hE0
            simp only [cond_true, cond_false] at hE0
            obtain ⟨hv2, hv5, hv26, HS⟩ := hE0
            rw [hv26] at h63
            have e61 : evl l_ (.tmp 61) = .bool true := evl_of h61
            have e63 : evl l_ (.tmp 63) = .int .i64 (usN c : Int) := evl_of h63
            have e64 : evl l_ (.tmp 64) = .int .i64 ((usN c : Nat) : Int) := evl_of h64
            refine ⟨_, rfl, fun K_ hK_ => wp_of_listG rfl (wanted_on (t := 61) rfl rfl rfl h61) ?_⟩
            intro ops_
            refine p_run (l' := _) _ (x_cmp (k := .i64) (m := (usN c : Int)) (n := ((usN c : Nat) : Int)) .eql true rfl e63 e64 (cmp_yes rfl) rfl) rfl ?_
            refine wpList_nil ?_
            exact norm_put (hK_ (.bool true) _ ⟨qv_up hV (fun _ h => Option.some.inj h), hE⟩)
          · have h61 : a_.tmps[61]? = some (.bool true) := (hval (24, 61) (by decide) (hon 24 (by decide))).trans (congrArg some (hV 24 _ rfl (hon 24 (by decide))))
            have h65 : a_.tmps[65]? = some (.bool true) := (hval (28, 65) (by decide) (hon 28 (by decide))).trans (congrArg some (hV 28 _ rfl (hon 28 (by decide))))
            obtain ⟨l_, rfl⟩ := hfr
            have e61 : evl l_ (.tmp 61) = .bool true := evl_of h61
            have e65 : evl l_ (.tmp 65) = .bool true := evl_of h65
            refine ⟨_, rfl, fun K_ hK_ => wp_of_list rfl ?_⟩
            intro ops_
            refine p_run (l' := _) _ (x_pick true (.bool true) (.bool false) (.bool true) rfl e61 e65 rfl rfl) rfl ?_
            refine wpList_nil ?_
            exact norm_put (hK_ (.bool true) _ ⟨qv_up hV (fun _ h => Option.some.inj h), hE⟩)
          · have h66 : a_.tmps[66]? = some (.bool true) := (hval (29, 66) (by decide) (hon 29 (by decide))).trans (congrArg some (hV 29 _ rfl (hon 29 (by decide))))
            obtain ⟨l_, rfl⟩ := hfr
            have e66 : evl l_ (.tmp 66) = .bool true := evl_of h66
            refine ⟨_, rfl, fun K_ hK_ => wp_of_list rfl ?_⟩
            intro ops_
            refine p_run (l' := _) _ (x_assign (.bool true) rfl e66) rfl ?_
            refine wpList_nil ?_
            exact norm_put (hK_ (.bool true) _ ⟨qv_up hV (fun _ h => Option.some.inj h), hE⟩)
        intro bq_ vq_ w_ hall hG
        obtain ⟨hV, hE⟩ := hG
        clear HS
        rw [show bq_ 26 = true from hall 26 (by decide)] at hE
        simp only [cond_true] at hE
        obtain ⟨hv2, hv5, hv26, HS⟩ := hE
        have hv0 := hV 0 _ rfl (hall 0 (by decide))
        have hv1 := hV 1 _ rfl (hall 1 (by decide))
        have hv3 := hV 3 _ rfl (hall 3 (by decide))
        have hv4 := hV 4 _ rfl (hall 4 (by decide))
        have hv6 := hV 6 _ rfl (hall 6 (by decide))
        have hv7 := hV 7 _ rfl (hall 7 (by decide))
        have hv8 := hV 8 _ rfl (hall 8 (by decide))
        have hv9 := hV 9 _ rfl (hall 9 (by decide))
        have hv10 := hV 10 _ rfl (hall 10 (by decide))
        have hv11 := hV 11 _ rfl (hall 11 (by decide))
        have hv12 := hV 12 _ rfl (hall 12 (by decide))
        have hv13 := hV 13 _ rfl (hall 13 (by decide))
        have hv14 := hV 14 _ rfl (hall 14 (by decide))
        have hv15 := hV 15 _ rfl (hall 15 (by decide))
        have hv16 := hV 16 _ rfl (hall 16 (by decide))
        have hv17 := hV 17 _ rfl (hall 17 (by decide))
        have hv18 := hV 18 _ rfl (hall 18 (by decide))
        have hv19 := hV 19 _ rfl (hall 19 (by decide))
        have hv20 := hV 20 _ rfl (hall 20 (by decide))
        have hv21 := hV 21 _ rfl (hall 21 (by decide))
        have hv22 := hV 22 _ rfl (hall 22 (by decide))
        have hv23 := hV 23 _ rfl (hall 23 (by decide))
        have hv24 := hV 24 _ rfl (hall 24 (by decide))
        have hv25 := hV 25 _ rfl (hall 25 (by decide))
        have hv27 := hV 27 _ rfl (hall 27 (by decide))
        have hv28 := hV 28 _ rfl (hall 28 (by decide))
        have hv29 := hV 29 _ rfl (hall 29 (by decide))
        have hv30 := hV 30 _ rfl (hall 30 (by decide))
        clear hV hall
        rw [putSel_fr]
        simp only [tells, List.map_cons, List.map_nil, setAll, List.set_cons_succ, List.set_cons_zero, hv0, hv1, hv2, hv3, hv4, hv5, hv6, hv7, hv8, hv9, hv10, hv11, hv12, hv13, hv14, hv15, hv16, hv17, hv18, hv19, hv20, hv21, hv22, hv23, hv24, hv25, hv26, hv27, hv28, hv29, hv30]
        clear hv0 hv1 hv2 hv3 hv4 hv5 hv6 hv7 hv8 hv9 hv10 hv11 hv12 hv13 hv14 hv15 hv16 hv17 hv18 hv19 hv20 hv21 hv22 hv23 hv24 hv25 hv26 hv27 hv28 hv29 hv30
        generalize w_ = w11801 at HS ⊢
        refine fr_at (l' := [.int .u64 (uv g), .agg ((nums .u8 (c.map bv))).toArray, .agg ((nums .u8 (q.map bv))).toArray, undef, .pointer (some ⟨g5, 0, none⟩), .pointer (some ⟨g8, 0, none⟩), .bool true, .pointer (some ⟨g23, 0, none⟩), .int .i64 (tlE g q), .pointer (some ⟨g32, 0, none⟩), .int .i64 (tlE g q), .int .i64 ((usN c : Nat) : Int), undef, u13, .bool true, .bool false, .tuple [.agg ((nums .u8 ((tlC g q).map bv))).toArray, .int .i64 (tlE g q)].toArray, .agg ((nums .u8 (q.map bv))).toArray, .int .u64 (uv g), .tuple [.agg ((nums .u8 ((tlC g q).map bv))).toArray, .int .i64 (tlE g q)].toArray, .agg ((nums .u8 ((tlC g q).map bv))).toArray, .int .i64 (tlE g q), .tuple [.agg ((nums .u8 ((tlC g q).map bv))).toArray, .int .i64 (tlE g q)].toArray, .agg ((nums .u8 (q.map bv))).toArray, .int .u64 (uv g), .tuple [.agg ((nums .u8 ((tlC g q).map bv))).toArray, .int .i64 (tlE g q)].toArray, .agg ((nums .u8 ((tlC g q).map bv))).toArray, .int .i64 (tlE g q), .agg ((nums .u8 (c.map bv))).toArray, .int .i64 (240 : Int), .bool (decide ((240 : Int) < 240)), u31, u32, u33, u34, u35, u36, .int .u64 (uv g), .agg ((nums .u8 (c.map bv))).toArray, .agg ((nums .u8 ((tlB g c).map bv))).toArray, .int .u64 (uv g), .agg ((nums .u8 (c.map bv))).toArray, .agg ((nums .u8 ((tlB g c).map bv))).toArray, .bool true, .bool true, .agg ((nums .u8 ((tlC g q).map bv))).toArray, .agg ((nums .u8 ((tlC g q).map bv))).toArray, .bool true, .bool true, .bool true, .int .i64 (tlE g q), .int .i64 (tlE g q), .bool true, .bool true, .bool true, .int .u64 (uv g), .int .i64 (tlA g), .int .u64 (uv g), .int .i64 (tlA g), .bool true, .bool true, .bool true, .agg ((nums .u8 (c.map bv))).toArray, .int .i64 (usN c : Int), .int .i64 ((usN c : Nat) : Int), .bool true, .bool true]) rfl ?_
        refine hK74 _ _ ?_
        refine wp_ret ?_
        try simp only [Exit.inBlock, Exit.then]
        refine c_ret (.bool true) (r_tmp rfl rfl) ?_
        exact ⟨rfl, HS.belowOf⟩

theorem tallyPages_any (g : UInt64) (c q : List UInt8) (w : World) (hc : c.length = 240) (hq : q.length = 256) : Calls Try.prog 5 #[.int .u64 (uv g), .agg (nums .u8 (c.map bv)).toArray, .agg (nums .u8 (q.map bv)).toArray] w fun e w' => e = .returned (.bool true) ∧ Below w.heap.size w w' := pages_law w g c q hc hq
end Go.Proofs.Ytiokdpnhaemciaa
