/- RootNames. -/
import Derived.Test.YtenlkobjldhfgaaL5a
set_option linter.unusedVariables false
set_option linter.unusedSimpArgs false
namespace Go.Proofs.Ytenlkobjldhfgaa
open Go.RowKit Go.Proofs.YtenlkobjldhfgaaW.PrintWords Go.Proofs.YtenlkobjldhfgaaW.PrintLast Crc
abbrev U4l5n (l : List Value) : List Value := undef :: undef :: undef :: undef :: l
abbrev U8l5n (l : List Value) : List Value := U4l5n (U4l5n l)
abbrev U16l5n (l : List Value) : List Value := U8l5n (U8l5n l)
abbrev U32l5n (l : List Value) : List Value := U16l5n (U16l5n l)
abbrev U64l5n (l : List Value) : List Value := U32l5n (U32l5n l)
theorem made_z (n : Nat) : (madeCells (Value.int .u8 0).cells (n * 1)).toList = nums .u8 ((List.replicate n (0 : UInt8)).map bv) := by
  have h : (madeCells (Value.int .u8 0).cells (n * 1)).toList = List.replicate n (Value.int .u8 0) := by
    rw [List.eq_replicate_iff]
    refine ⟨by simp [size_madeCells], fun x hx => ?_⟩
    unfold madeCells at hx
    simp only [Array.toList_map, List.mem_map] at hx
    obtain ⟨i, -, rfl⟩ := hx
    have : (Value.int .u8 0).cells = #[Value.int .u8 0] := rfl
    rw [this]
    simp [Nat.mod_one]
  rw [h]
  unfold nums
  rw [List.map_replicate, List.map_replicate]
  rfl
theorem one_p0 : (Dk.new 1).readP 0 = zP.map bv := by rw [zP_bv]; rfl
theorem one_p1 : (Dk.new 1).readP 1 = zP.map bv := by rw [zP_bv]; rfl
theorem zP_len : zP.length = 256 := List.length_replicate

set_option maxRecDepth 10000 in
set_option maxHeartbeats 2000000 in
theorem rnames_law (w : World) : Calls Try.prog 3 #[] w fun e w' => e = .returned (.bool true) ∧ Below w.heap.size w w' := by
  have HS := St.empty w
  · skip
    obtain ⟨n1, n2, n3, n4⟩ := nx_vals (S := Dk.new 4) (rt_lkE (rt_new (n := 4) (by omega))) z_le
    refine c_enter Try.func3 rfl 63 rfl (U32l5n (U16l5n (U8l5n (U4l5n (undef :: undef :: undef :: []))))) rfl ?_
    refine wp_seq_k (fun K1 hK2 => ?_)
    refine c_region (fun ops4 hops3 => ?_)
    clear hops3
    refine p_run _ (x_assign (.bool false) rfl rfl) rfl ?_
    refine wpList_nil ?_
    refine hK2 _ _ ?_
    refine wp_seq_k (fun K5 hK6 => ?_)
    refine c_region (fun ops8 hops7 => ?_)
    clear hops7
    refine w_call [.int .i64 4] Try.func8 (by kernel_rfl) (by rfl) rfl ?_
    refine (dnew_any HS 4).mono ?_
    clear HS
    rintro e w12 ⟨D9, gs10, gm11, rfl, HS⟩
    have hgd13 := good_new 4
    have hR : RT (Dk.new 4) zP zP := rt_new (by omega)
    refine ⟨_, rfl, ?_⟩
    refine p_run _ (x_assign (.pointer (some ⟨D9, 0, none⟩)) rfl rfl) rfl ?_
    refine wpList_nil ?_
    refine hK6 _ _ ?_
    refine wp_seq_k (fun K14 hK15 => ?_)
    refine c_region (fun ops17 hops16 => ?_)
    clear hops16
    refine p_run _ (x_move (.pointer (some ⟨D9, 0, none⟩)) rfl rfl) rfl ?_
    refine w_call [.pointer (some ⟨D9, 0, none⟩)] Try.func9 (by kernel_rfl) (by rfl) rfl ?_
    replace HS := ((((HS.front 3 rfl).front 3 rfl).front 3 rfl).front 3 rfl)
    refine (read_root HS hgd13 (by omega) (rt_p0 hR) (rt_p1 hR) hR.l0 hR.l1).mono ?_
    clear HS
    rintro e w20 ⟨oa18, nc19, rfl, HS⟩
    refine ⟨_, rfl, ?_⟩
    refine p_run _ (x_move (.tuple [.slice oa18 ((rB (Dk.new 4) zP zP).length) nc19, .int .u64 (uv (rG (Dk.new 4) zP zP)), .int .i64 (reE (Dk.new 4) zP zP)].toArray) rfl rfl) rfl ?_
    refine p_run (l' := (.bool false :: .pointer (some ⟨D9, 0, none⟩) :: U8l5n (undef :: undef :: .pointer (some ⟨D9, 0, none⟩) :: .tuple [.slice oa18 ((rB (Dk.new 4) zP zP).length) nc19, .int .u64 (uv (rG (Dk.new 4) zP zP)), .int .i64 (reE (Dk.new 4) zP zP)].toArray :: .pointer (some ⟨D9, 0, none⟩) :: .tuple [.slice oa18 ((rB (Dk.new 4) zP zP).length) nc19, .int .u64 (uv (rG (Dk.new 4) zP zP)), .int .i64 (reE (Dk.new 4) zP zP)].toArray :: .slice oa18 ((rB (Dk.new 4) zP zP).length) nc19 :: U32l5n (U8l5n (U4l5n (undef :: undef :: [])))))) _ (x_extract (vs := [.slice oa18 ((rB (Dk.new 4) zP zP).length) nc19, .int .u64 (uv (rG (Dk.new 4) zP zP)), .int .i64 (reE (Dk.new 4) zP zP)]) 0 (.slice oa18 ((rB (Dk.new 4) zP zP).length) nc19) rfl rfl rfl) rfl ?_
    refine p_run _ (x_extract (vs := [.slice oa18 ((rB (Dk.new 4) zP zP).length) nc19, .int .u64 (uv (rG (Dk.new 4) zP zP)), .int .i64 (reE (Dk.new 4) zP zP)]) 1 (.int .u64 (uv (rG (Dk.new 4) zP zP))) rfl rfl rfl) rfl ?_
    refine p_run _ (x_extract (vs := [.slice oa18 ((rB (Dk.new 4) zP zP).length) nc19, .int .u64 (uv (rG (Dk.new 4) zP zP)), .int .i64 (reE (Dk.new 4) zP zP)]) 2 (.int .i64 (reE (Dk.new 4) zP zP)) rfl rfl rfl) rfl ?_
    refine p_run _ (x_assign (.slice oa18 ((rB (Dk.new 4) zP zP).length) nc19) rfl rfl) rfl ?_
    refine p_run _ (x_assign (.int .u64 (uv (rG (Dk.new 4) zP zP))) rfl rfl) rfl ?_
    refine p_run _ (x_assign (.int .i64 (reE (Dk.new 4) zP zP)) rfl rfl) rfl ?_
    refine wpList_nil ?_
    refine fr_at (l' := (.bool false :: .pointer (some ⟨D9, 0, none⟩) :: .slice oa18 ((rB (Dk.new 4) zP zP).length) nc19 :: .int .u64 (uv (rG (Dk.new 4) zP zP)) :: .int .i64 (reE (Dk.new 4) zP zP) :: U4l5n (undef :: undef :: undef :: .pointer (some ⟨D9, 0, none⟩) :: .tuple [.slice oa18 ((rB (Dk.new 4) zP zP).length) nc19, .int .u64 (uv (rG (Dk.new 4) zP zP)), .int .i64 (reE (Dk.new 4) zP zP)].toArray :: .pointer (some ⟨D9, 0, none⟩) :: .tuple [.slice oa18 ((rB (Dk.new 4) zP zP).length) nc19, .int .u64 (uv (rG (Dk.new 4) zP zP)), .int .i64 (reE (Dk.new 4) zP zP)].toArray :: .slice oa18 ((rB (Dk.new 4) zP zP).length) nc19 :: .int .u64 (uv (rG (Dk.new 4) zP zP)) :: .int .i64 (reE (Dk.new 4) zP zP) :: U32l5n (U8l5n (U4l5n ([])))))) rfl ?_
    refine hK15 _ _ ?_
    refine wp_seq_k (fun K21 hK22 => ?_)
    refine c_region (fun ops24 hops23 => ?_)
    clear hops23
    refine p_run _ (x_move (.pointer (some ⟨D9, 0, none⟩)) rfl rfl) rfl ?_
    refine St.wMake HS (n := 187) (bytes := 1) (.int .u8 0) 1 Try.underlying24 (by kernel_rfl) rfl rfl (by omega) (by omega) ?_
    clear HS
    intro g25 w26 hg27 HS
    rw [made_z] at HS
    refine w_call [.pointer (some ⟨D9, 0, none⟩), .slice (some ⟨g25, 0, none⟩) 187 187] Try.func10 (by kernel_rfl) (by rfl) rfl ?_
    replace HS := ((((HS.front 5 rfl).front 5 rfl).front 5 rfl).front 5 rfl)
    refine (write_root HS hgd13 (by omega) (rt_p0 hR) (rt_p1 hR) hR.l0 hR.l1 (List.replicate 187 (0 : UInt8)) (fun w X hX => ⟨rd_blk (hX.hs.right.1 _ (.head _)) (by decide), by decide⟩)).mono ?_
    clear HS
    rintro e w29 ⟨v28, rfl, HS⟩
    have hgd30 : Dk.good (wS (Dk.new 4) zP zP (List.replicate 187 (0 : UInt8))) (1) := good_wS hgd13 (List.replicate 187 (0 : UInt8))
    have hS : wS (Dk.new 4) zP zP (List.replicate 187 (0 : UInt8)) = Dk.new 4 := if_neg (fun h => absurd h.1 (by decide))
    rw [hS] at HS
    have hgd := hS ▸ hgd30
    refine ⟨_, rfl, ?_⟩
    refine p_run _ (x_move (.tuple [.int .u64 (uv (wG (Dk.new 4) zP zP (List.replicate 187 (0 : UInt8)))), .int .i64 (wE (Dk.new 4) zP zP (List.replicate 187 (0 : UInt8)))].toArray) rfl rfl) rfl ?_
    refine p_run _ (x_extract (vs := [.int .u64 (uv (wG (Dk.new 4) zP zP (List.replicate 187 (0 : UInt8)))), .int .i64 (wE (Dk.new 4) zP zP (List.replicate 187 (0 : UInt8)))]) 0 (.int .u64 (uv (wG (Dk.new 4) zP zP (List.replicate 187 (0 : UInt8))))) rfl rfl rfl) rfl ?_
    refine p_run _ (x_extract (vs := [.int .u64 (uv (wG (Dk.new 4) zP zP (List.replicate 187 (0 : UInt8)))), .int .i64 (wE (Dk.new 4) zP zP (List.replicate 187 (0 : UInt8)))]) 1 (.int .i64 (wE (Dk.new 4) zP zP (List.replicate 187 (0 : UInt8)))) rfl rfl rfl) rfl ?_
    refine p_run (l' := (.bool false :: .pointer (some ⟨D9, 0, none⟩) :: .slice oa18 ((rB (Dk.new 4) zP zP).length) nc19 :: .int .u64 (uv (rG (Dk.new 4) zP zP)) :: .int .i64 (reE (Dk.new 4) zP zP) :: .int .u64 (uv (wG (Dk.new 4) zP zP (List.replicate 187 (0 : UInt8)))) :: U4l5n (undef :: undef :: .pointer (some ⟨D9, 0, none⟩) :: .tuple [.slice oa18 ((rB (Dk.new 4) zP zP).length) nc19, .int .u64 (uv (rG (Dk.new 4) zP zP)), .int .i64 (reE (Dk.new 4) zP zP)].toArray :: .pointer (some ⟨D9, 0, none⟩) :: .tuple [.slice oa18 ((rB (Dk.new 4) zP zP).length) nc19, .int .u64 (uv (rG (Dk.new 4) zP zP)), .int .i64 (reE (Dk.new 4) zP zP)].toArray :: .slice oa18 ((rB (Dk.new 4) zP zP).length) nc19 :: .int .u64 (uv (rG (Dk.new 4) zP zP)) :: .int .i64 (reE (Dk.new 4) zP zP) :: .tuple [.int .u64 (uv (wG (Dk.new 4) zP zP (List.replicate 187 (0 : UInt8)))), .int .i64 (wE (Dk.new 4) zP zP (List.replicate 187 (0 : UInt8)))].toArray :: .pointer (some ⟨D9, 0, none⟩) :: .slice (some ⟨g25, 0, none⟩) 187 187 :: .tuple [.int .u64 (uv (wG (Dk.new 4) zP zP (List.replicate 187 (0 : UInt8)))), .int .i64 (wE (Dk.new 4) zP zP (List.replicate 187 (0 : UInt8)))].toArray :: .int .u64 (uv (wG (Dk.new 4) zP zP (List.replicate 187 (0 : UInt8)))) :: .int .i64 (wE (Dk.new 4) zP zP (List.replicate 187 (0 : UInt8))) :: U32l5n (U4l5n (undef :: undef :: []))))) _ (x_assign (.int .u64 (uv (wG (Dk.new 4) zP zP (List.replicate 187 (0 : UInt8))))) rfl rfl) rfl ?_
    refine p_run _ (x_assign (.int .i64 (wE (Dk.new 4) zP zP (List.replicate 187 (0 : UInt8)))) rfl rfl) rfl ?_
    refine wpList_nil ?_
    refine hK22 _ _ ?_
    refine wp_seq_k (fun K31 hK32 => ?_)
    refine c_region (fun ops34 hops33 => ?_)
    clear hops33
    refine w_call [.int .i64 1] Try.func8 (by kernel_rfl) (by rfl) rfl ?_
    refine (dnew_any HS 1).mono ?_
    clear HS
    rintro e w38 ⟨D35, gs36, gm37, rfl, HS⟩
    have hgd39 := good_new 1
    refine ⟨_, rfl, ?_⟩
    refine w_call [.pointer (some ⟨D35, 0, none⟩)] Try.func9 (by kernel_rfl) (by rfl) rfl ?_
    replace HS := ((((HS.front 3 rfl).front 3 rfl).front 3 rfl).front 3 rfl)
    refine (read_root HS hgd39 (by omega) one_p0 one_p1 zP_len zP_len).mono ?_
    clear HS
    rintro e w42 ⟨oa40, nc41, rfl, HS⟩
    refine ⟨_, rfl, ?_⟩
    refine p_run _ (x_move (.tuple [.slice oa40 ((rB (Dk.new 1) zP zP).length) nc41, .int .u64 (uv (rG (Dk.new 1) zP zP)), .int .i64 (reE (Dk.new 1) zP zP)].toArray) rfl rfl) rfl ?_
    refine p_run _ (x_extract (vs := [.slice oa40 ((rB (Dk.new 1) zP zP).length) nc41, .int .u64 (uv (rG (Dk.new 1) zP zP)), .int .i64 (reE (Dk.new 1) zP zP)]) 0 (.slice oa40 ((rB (Dk.new 1) zP zP).length) nc41) rfl rfl rfl) rfl ?_
    refine p_run _ (x_extract (vs := [.slice oa40 ((rB (Dk.new 1) zP zP).length) nc41, .int .u64 (uv (rG (Dk.new 1) zP zP)), .int .i64 (reE (Dk.new 1) zP zP)]) 1 (.int .u64 (uv (rG (Dk.new 1) zP zP))) rfl rfl rfl) rfl ?_
    refine p_run (l' := (.bool false :: .pointer (some ⟨D9, 0, none⟩) :: .slice oa18 ((rB (Dk.new 4) zP zP).length) nc19 :: .int .u64 (uv (rG (Dk.new 4) zP zP)) :: .int .i64 (reE (Dk.new 4) zP zP) :: .int .u64 (uv (wG (Dk.new 4) zP zP (List.replicate 187 (0 : UInt8)))) :: .int .i64 (wE (Dk.new 4) zP zP (List.replicate 187 (0 : UInt8))) :: U4l5n (undef :: .pointer (some ⟨D9, 0, none⟩) :: .tuple [.slice oa18 ((rB (Dk.new 4) zP zP).length) nc19, .int .u64 (uv (rG (Dk.new 4) zP zP)), .int .i64 (reE (Dk.new 4) zP zP)].toArray :: .pointer (some ⟨D9, 0, none⟩) :: .tuple [.slice oa18 ((rB (Dk.new 4) zP zP).length) nc19, .int .u64 (uv (rG (Dk.new 4) zP zP)), .int .i64 (reE (Dk.new 4) zP zP)].toArray :: .slice oa18 ((rB (Dk.new 4) zP zP).length) nc19 :: .int .u64 (uv (rG (Dk.new 4) zP zP)) :: .int .i64 (reE (Dk.new 4) zP zP) :: .tuple [.int .u64 (uv (wG (Dk.new 4) zP zP (List.replicate 187 (0 : UInt8)))), .int .i64 (wE (Dk.new 4) zP zP (List.replicate 187 (0 : UInt8)))].toArray :: .pointer (some ⟨D9, 0, none⟩) :: .slice (some ⟨g25, 0, none⟩) 187 187 :: .tuple [.int .u64 (uv (wG (Dk.new 4) zP zP (List.replicate 187 (0 : UInt8)))), .int .i64 (wE (Dk.new 4) zP zP (List.replicate 187 (0 : UInt8)))].toArray :: .int .u64 (uv (wG (Dk.new 4) zP zP (List.replicate 187 (0 : UInt8)))) :: .int .i64 (wE (Dk.new 4) zP zP (List.replicate 187 (0 : UInt8))) :: .tuple [.slice oa40 ((rB (Dk.new 1) zP zP).length) nc41, .int .u64 (uv (rG (Dk.new 1) zP zP)), .int .i64 (reE (Dk.new 1) zP zP)].toArray :: .pointer (some ⟨D35, 0, none⟩) :: .tuple [.slice oa40 ((rB (Dk.new 1) zP zP).length) nc41, .int .u64 (uv (rG (Dk.new 1) zP zP)), .int .i64 (reE (Dk.new 1) zP zP)].toArray :: .slice oa40 ((rB (Dk.new 1) zP zP).length) nc41 :: .int .u64 (uv (rG (Dk.new 1) zP zP)) :: .int .i64 (reE (Dk.new 1) zP zP) :: U32l5n ([])))) _ (x_extract (vs := [.slice oa40 ((rB (Dk.new 1) zP zP).length) nc41, .int .u64 (uv (rG (Dk.new 1) zP zP)), .int .i64 (reE (Dk.new 1) zP zP)]) 2 (.int .i64 (reE (Dk.new 1) zP zP)) rfl rfl rfl) rfl ?_
    refine p_run _ (x_assign (.slice oa40 ((rB (Dk.new 1) zP zP).length) nc41) rfl rfl) rfl ?_
    refine p_run _ (x_assign (.int .u64 (uv (rG (Dk.new 1) zP zP))) rfl rfl) rfl ?_
    refine p_run _ (x_assign (.int .i64 (reE (Dk.new 1) zP zP)) rfl rfl) rfl ?_
    refine wpList_nil ?_
    refine hK32 _ _ ?_
    refine wp_seq_k (fun K43 hK44 => ?_)
    refine c_region (fun ops46 hops45 => ?_)
    clear hops45
    refine p_run _ (x_move (.pointer (some ⟨D9, 0, none⟩)) rfl rfl) rfl ?_
    refine w_call [.pointer (some ⟨D9, 0, none⟩)] Try.func11 (by kernel_rfl) (by rfl) rfl ?_
    replace HS := ((((HS.front 8 rfl).front 8 rfl).front 8 rfl).front 8 rfl)
    refine (next_root HS hgd (by omega) (rt_p0 hR) (rt_p1 hR) hR.l0 hR.l1).mono ?_
    clear HS
    rintro e w47 ⟨rfl, HS⟩
    refine ⟨_, rfl, ?_⟩
    refine p_run _ (x_move (.tuple [.int .u64 (uv (nG (Dk.new 4) zP zP)), .int .i64 (nE (Dk.new 4) zP zP)].toArray) rfl rfl) rfl ?_
    refine p_run (l' := (.bool false :: .pointer (some ⟨D9, 0, none⟩) :: .slice oa18 ((rB (Dk.new 4) zP zP).length) nc19 :: .int .u64 (uv (rG (Dk.new 4) zP zP)) :: .int .i64 (reE (Dk.new 4) zP zP) :: .int .u64 (uv (wG (Dk.new 4) zP zP (List.replicate 187 (0 : UInt8)))) :: .int .i64 (wE (Dk.new 4) zP zP (List.replicate 187 (0 : UInt8))) :: .slice oa40 ((rB (Dk.new 1) zP zP).length) nc41 :: .int .u64 (uv (rG (Dk.new 1) zP zP)) :: .int .i64 (reE (Dk.new 1) zP zP) :: undef :: undef :: .pointer (some ⟨D9, 0, none⟩) :: .tuple [.slice oa18 ((rB (Dk.new 4) zP zP).length) nc19, .int .u64 (uv (rG (Dk.new 4) zP zP)), .int .i64 (reE (Dk.new 4) zP zP)].toArray :: .pointer (some ⟨D9, 0, none⟩) :: .tuple [.slice oa18 ((rB (Dk.new 4) zP zP).length) nc19, .int .u64 (uv (rG (Dk.new 4) zP zP)), .int .i64 (reE (Dk.new 4) zP zP)].toArray :: .slice oa18 ((rB (Dk.new 4) zP zP).length) nc19 :: .int .u64 (uv (rG (Dk.new 4) zP zP)) :: .int .i64 (reE (Dk.new 4) zP zP) :: .tuple [.int .u64 (uv (wG (Dk.new 4) zP zP (List.replicate 187 (0 : UInt8)))), .int .i64 (wE (Dk.new 4) zP zP (List.replicate 187 (0 : UInt8)))].toArray :: .pointer (some ⟨D9, 0, none⟩) :: .slice (some ⟨g25, 0, none⟩) 187 187 :: .tuple [.int .u64 (uv (wG (Dk.new 4) zP zP (List.replicate 187 (0 : UInt8)))), .int .i64 (wE (Dk.new 4) zP zP (List.replicate 187 (0 : UInt8)))].toArray :: .int .u64 (uv (wG (Dk.new 4) zP zP (List.replicate 187 (0 : UInt8)))) :: .int .i64 (wE (Dk.new 4) zP zP (List.replicate 187 (0 : UInt8))) :: .tuple [.slice oa40 ((rB (Dk.new 1) zP zP).length) nc41, .int .u64 (uv (rG (Dk.new 1) zP zP)), .int .i64 (reE (Dk.new 1) zP zP)].toArray :: .pointer (some ⟨D35, 0, none⟩) :: .tuple [.slice oa40 ((rB (Dk.new 1) zP zP).length) nc41, .int .u64 (uv (rG (Dk.new 1) zP zP)), .int .i64 (reE (Dk.new 1) zP zP)].toArray :: .slice oa40 ((rB (Dk.new 1) zP zP).length) nc41 :: .int .u64 (uv (rG (Dk.new 1) zP zP)) :: .int .i64 (reE (Dk.new 1) zP zP) :: .tuple [.int .u64 (uv (nG (Dk.new 4) zP zP)), .int .i64 (nE (Dk.new 4) zP zP)].toArray :: .pointer (some ⟨D9, 0, none⟩) :: .tuple [.int .u64 (uv (nG (Dk.new 4) zP zP)), .int .i64 (nE (Dk.new 4) zP zP)].toArray :: .int .u64 (uv (nG (Dk.new 4) zP zP)) :: U16l5n (U8l5n (U4l5n ([]))))) _ (x_extract (vs := [.int .u64 (uv (nG (Dk.new 4) zP zP)), .int .i64 (nE (Dk.new 4) zP zP)]) 0 (.int .u64 (uv (nG (Dk.new 4) zP zP))) rfl rfl rfl) rfl ?_
    refine p_run _ (x_extract (vs := [.int .u64 (uv (nG (Dk.new 4) zP zP)), .int .i64 (nE (Dk.new 4) zP zP)]) 1 (.int .i64 (nE (Dk.new 4) zP zP)) rfl rfl rfl) rfl ?_
    refine p_run _ (x_assign (.int .u64 (uv (nG (Dk.new 4) zP zP))) rfl rfl) rfl ?_
    refine p_run _ (x_assign (.int .i64 (nE (Dk.new 4) zP zP)) rfl rfl) rfl ?_
    refine wpList_nil ?_
    refine hK44 _ _ ?_
    refine wp_seq_k (fun K48 hK49 => ?_)
    refine c_region (fun ops51 hops50 => ?_)
    refine w_call [] Try.func12 (by kernel_rfl) (by rfl) rfl ?_
    refine (ralive_any _).mono ?_
    rintro e w52 ⟨rfl, hb_⟩
    replace HS := HS.here hb_
    clear hb_
    refine ⟨_, rfl, ?_⟩
    refine p_run _ (x_move (.bool true) rfl rfl) rfl ?_
    refine p_run _ (x_pick true (.bool true) (.bool false) (.bool true) rfl rfl rfl rfl rfl) rfl ?_
    refine p_run (l' := (.bool false :: .pointer (some ⟨D9, 0, none⟩) :: .slice oa18 ((rB (Dk.new 4) zP zP).length) nc19 :: .int .u64 (uv (rG (Dk.new 4) zP zP)) :: .int .i64 (reE (Dk.new 4) zP zP) :: .int .u64 (uv (wG (Dk.new 4) zP zP (List.replicate 187 (0 : UInt8)))) :: .int .i64 (wE (Dk.new 4) zP zP (List.replicate 187 (0 : UInt8))) :: .slice oa40 ((rB (Dk.new 1) zP zP).length) nc41 :: .int .u64 (uv (rG (Dk.new 1) zP zP)) :: .int .i64 (reE (Dk.new 1) zP zP) :: .int .u64 (uv (nG (Dk.new 4) zP zP)) :: .int .i64 (nE (Dk.new 4) zP zP) :: .pointer (some ⟨D9, 0, none⟩) :: .tuple [.slice oa18 ((rB (Dk.new 4) zP zP).length) nc19, .int .u64 (uv (rG (Dk.new 4) zP zP)), .int .i64 (reE (Dk.new 4) zP zP)].toArray :: .pointer (some ⟨D9, 0, none⟩) :: .tuple [.slice oa18 ((rB (Dk.new 4) zP zP).length) nc19, .int .u64 (uv (rG (Dk.new 4) zP zP)), .int .i64 (reE (Dk.new 4) zP zP)].toArray :: .slice oa18 ((rB (Dk.new 4) zP zP).length) nc19 :: .int .u64 (uv (rG (Dk.new 4) zP zP)) :: .int .i64 (reE (Dk.new 4) zP zP) :: .tuple [.int .u64 (uv (wG (Dk.new 4) zP zP (List.replicate 187 (0 : UInt8)))), .int .i64 (wE (Dk.new 4) zP zP (List.replicate 187 (0 : UInt8)))].toArray :: .pointer (some ⟨D9, 0, none⟩) :: .slice (some ⟨g25, 0, none⟩) 187 187 :: .tuple [.int .u64 (uv (wG (Dk.new 4) zP zP (List.replicate 187 (0 : UInt8)))), .int .i64 (wE (Dk.new 4) zP zP (List.replicate 187 (0 : UInt8)))].toArray :: .int .u64 (uv (wG (Dk.new 4) zP zP (List.replicate 187 (0 : UInt8)))) :: .int .i64 (wE (Dk.new 4) zP zP (List.replicate 187 (0 : UInt8))) :: .tuple [.slice oa40 ((rB (Dk.new 1) zP zP).length) nc41, .int .u64 (uv (rG (Dk.new 1) zP zP)), .int .i64 (reE (Dk.new 1) zP zP)].toArray :: .pointer (some ⟨D35, 0, none⟩) :: .tuple [.slice oa40 ((rB (Dk.new 1) zP zP).length) nc41, .int .u64 (uv (rG (Dk.new 1) zP zP)), .int .i64 (reE (Dk.new 1) zP zP)].toArray :: .slice oa40 ((rB (Dk.new 1) zP zP).length) nc41 :: .int .u64 (uv (rG (Dk.new 1) zP zP)) :: .int .i64 (reE (Dk.new 1) zP zP) :: .tuple [.int .u64 (uv (nG (Dk.new 4) zP zP)), .int .i64 (nE (Dk.new 4) zP zP)].toArray :: .pointer (some ⟨D9, 0, none⟩) :: .tuple [.int .u64 (uv (nG (Dk.new 4) zP zP)), .int .i64 (nE (Dk.new 4) zP zP)].toArray :: .int .u64 (uv (nG (Dk.new 4) zP zP)) :: .int .i64 (nE (Dk.new 4) zP zP) :: .bool true :: .bool true :: .bool true :: .bool true :: U16l5n (U4l5n (undef :: undef :: undef :: [])))) _ (x_move (.bool true) rfl rfl) rfl ?_
    refine p_run _ (x_pick true (.bool true) (.bool false) (.bool true) rfl rfl rfl rfl rfl) rfl ?_
    refine p_run _ (x_move (.bool true) rfl rfl) rfl ?_
    refine p_run _ (x_pick true (.bool true) (.bool false) (.bool true) rfl rfl rfl rfl rfl) rfl ?_
    refine p_run _ (x_move (.bool true) rfl rfl) rfl ?_
    refine p_on rfl (by rw [hops50]; rfl) ?_
    refine p_run _ (x_move (.int .i64 (reE (Dk.new 4) zP zP)) rfl rfl) rfl ?_
    refine p_on rfl (by rw [hops50]; rfl) ?_
    refine p_run _ (x_cmp (k := .i64) (m := (reE (Dk.new 4) zP zP)) (n := 51) .eql true rfl rfl rfl (by rw [(rt_vals hR).2.2, z_gen]; rfl) rfl) rfl ?_
    refine p_run (l' := (.bool false :: .pointer (some ⟨D9, 0, none⟩) :: .slice oa18 ((rB (Dk.new 4) zP zP).length) nc19 :: .int .u64 (uv (rG (Dk.new 4) zP zP)) :: .int .i64 (reE (Dk.new 4) zP zP) :: .int .u64 (uv (wG (Dk.new 4) zP zP (List.replicate 187 (0 : UInt8)))) :: .int .i64 (wE (Dk.new 4) zP zP (List.replicate 187 (0 : UInt8))) :: .slice oa40 ((rB (Dk.new 1) zP zP).length) nc41 :: .int .u64 (uv (rG (Dk.new 1) zP zP)) :: .int .i64 (reE (Dk.new 1) zP zP) :: .int .u64 (uv (nG (Dk.new 4) zP zP)) :: .int .i64 (nE (Dk.new 4) zP zP) :: .pointer (some ⟨D9, 0, none⟩) :: .tuple [.slice oa18 ((rB (Dk.new 4) zP zP).length) nc19, .int .u64 (uv (rG (Dk.new 4) zP zP)), .int .i64 (reE (Dk.new 4) zP zP)].toArray :: .pointer (some ⟨D9, 0, none⟩) :: .tuple [.slice oa18 ((rB (Dk.new 4) zP zP).length) nc19, .int .u64 (uv (rG (Dk.new 4) zP zP)), .int .i64 (reE (Dk.new 4) zP zP)].toArray :: .slice oa18 ((rB (Dk.new 4) zP zP).length) nc19 :: .int .u64 (uv (rG (Dk.new 4) zP zP)) :: .int .i64 (reE (Dk.new 4) zP zP) :: .tuple [.int .u64 (uv (wG (Dk.new 4) zP zP (List.replicate 187 (0 : UInt8)))), .int .i64 (wE (Dk.new 4) zP zP (List.replicate 187 (0 : UInt8)))].toArray :: .pointer (some ⟨D9, 0, none⟩) :: .slice (some ⟨g25, 0, none⟩) 187 187 :: .tuple [.int .u64 (uv (wG (Dk.new 4) zP zP (List.replicate 187 (0 : UInt8)))), .int .i64 (wE (Dk.new 4) zP zP (List.replicate 187 (0 : UInt8)))].toArray :: .int .u64 (uv (wG (Dk.new 4) zP zP (List.replicate 187 (0 : UInt8)))) :: .int .i64 (wE (Dk.new 4) zP zP (List.replicate 187 (0 : UInt8))) :: .tuple [.slice oa40 ((rB (Dk.new 1) zP zP).length) nc41, .int .u64 (uv (rG (Dk.new 1) zP zP)), .int .i64 (reE (Dk.new 1) zP zP)].toArray :: .pointer (some ⟨D35, 0, none⟩) :: .tuple [.slice oa40 ((rB (Dk.new 1) zP zP).length) nc41, .int .u64 (uv (rG (Dk.new 1) zP zP)), .int .i64 (reE (Dk.new 1) zP zP)].toArray :: .slice oa40 ((rB (Dk.new 1) zP zP).length) nc41 :: .int .u64 (uv (rG (Dk.new 1) zP zP)) :: .int .i64 (reE (Dk.new 1) zP zP) :: .tuple [.int .u64 (uv (nG (Dk.new 4) zP zP)), .int .i64 (nE (Dk.new 4) zP zP)].toArray :: .pointer (some ⟨D9, 0, none⟩) :: .tuple [.int .u64 (uv (nG (Dk.new 4) zP zP)), .int .i64 (nE (Dk.new 4) zP zP)].toArray :: .int .u64 (uv (nG (Dk.new 4) zP zP)) :: .int .i64 (nE (Dk.new 4) zP zP) :: .bool true :: .bool true :: .bool true :: .bool true :: .bool true :: .bool true :: .bool true :: .bool true :: .int .i64 (reE (Dk.new 4) zP zP) :: .bool true :: .bool true :: U16l5n ([]))) _ (x_pick true (.bool true) (.bool false) (.bool true) rfl rfl rfl rfl rfl) rfl ?_
    refine p_run _ (x_move (.bool true) rfl rfl) rfl ?_
    refine p_on rfl (by rw [hops50]; rfl) ?_
    refine p_run _ (x_move (.int .i64 (wE (Dk.new 4) zP zP (List.replicate 187 (0 : UInt8)))) rfl rfl) rfl ?_
    refine p_on rfl (by rw [hops50]; rfl) ?_
    refine p_run _ (x_cmp (k := .i64) (m := (wE (Dk.new 4) zP zP (List.replicate 187 (0 : UInt8)))) (n := 51) .eql true rfl rfl rfl (by unfold wE; rw [if_neg (by decide)]; rfl) rfl) rfl ?_
    refine p_run _ (x_pick true (.bool true) (.bool false) (.bool true) rfl rfl rfl rfl rfl) rfl ?_
    refine p_run _ (x_move (.bool true) rfl rfl) rfl ?_
    refine p_on rfl (by rw [hops50]; rfl) ?_
    refine p_run _ (x_move (.int .i64 (reE (Dk.new 1) zP zP)) rfl rfl) rfl ?_
    refine p_on rfl (by rw [hops50]; rfl) ?_
    refine p_run (l' := (.bool false :: .pointer (some ⟨D9, 0, none⟩) :: .slice oa18 ((rB (Dk.new 4) zP zP).length) nc19 :: .int .u64 (uv (rG (Dk.new 4) zP zP)) :: .int .i64 (reE (Dk.new 4) zP zP) :: .int .u64 (uv (wG (Dk.new 4) zP zP (List.replicate 187 (0 : UInt8)))) :: .int .i64 (wE (Dk.new 4) zP zP (List.replicate 187 (0 : UInt8))) :: .slice oa40 ((rB (Dk.new 1) zP zP).length) nc41 :: .int .u64 (uv (rG (Dk.new 1) zP zP)) :: .int .i64 (reE (Dk.new 1) zP zP) :: .int .u64 (uv (nG (Dk.new 4) zP zP)) :: .int .i64 (nE (Dk.new 4) zP zP) :: .pointer (some ⟨D9, 0, none⟩) :: .tuple [.slice oa18 ((rB (Dk.new 4) zP zP).length) nc19, .int .u64 (uv (rG (Dk.new 4) zP zP)), .int .i64 (reE (Dk.new 4) zP zP)].toArray :: .pointer (some ⟨D9, 0, none⟩) :: .tuple [.slice oa18 ((rB (Dk.new 4) zP zP).length) nc19, .int .u64 (uv (rG (Dk.new 4) zP zP)), .int .i64 (reE (Dk.new 4) zP zP)].toArray :: .slice oa18 ((rB (Dk.new 4) zP zP).length) nc19 :: .int .u64 (uv (rG (Dk.new 4) zP zP)) :: .int .i64 (reE (Dk.new 4) zP zP) :: .tuple [.int .u64 (uv (wG (Dk.new 4) zP zP (List.replicate 187 (0 : UInt8)))), .int .i64 (wE (Dk.new 4) zP zP (List.replicate 187 (0 : UInt8)))].toArray :: .pointer (some ⟨D9, 0, none⟩) :: .slice (some ⟨g25, 0, none⟩) 187 187 :: .tuple [.int .u64 (uv (wG (Dk.new 4) zP zP (List.replicate 187 (0 : UInt8)))), .int .i64 (wE (Dk.new 4) zP zP (List.replicate 187 (0 : UInt8)))].toArray :: .int .u64 (uv (wG (Dk.new 4) zP zP (List.replicate 187 (0 : UInt8)))) :: .int .i64 (wE (Dk.new 4) zP zP (List.replicate 187 (0 : UInt8))) :: .tuple [.slice oa40 ((rB (Dk.new 1) zP zP).length) nc41, .int .u64 (uv (rG (Dk.new 1) zP zP)), .int .i64 (reE (Dk.new 1) zP zP)].toArray :: .pointer (some ⟨D35, 0, none⟩) :: .tuple [.slice oa40 ((rB (Dk.new 1) zP zP).length) nc41, .int .u64 (uv (rG (Dk.new 1) zP zP)), .int .i64 (reE (Dk.new 1) zP zP)].toArray :: .slice oa40 ((rB (Dk.new 1) zP zP).length) nc41 :: .int .u64 (uv (rG (Dk.new 1) zP zP)) :: .int .i64 (reE (Dk.new 1) zP zP) :: .tuple [.int .u64 (uv (nG (Dk.new 4) zP zP)), .int .i64 (nE (Dk.new 4) zP zP)].toArray :: .pointer (some ⟨D9, 0, none⟩) :: .tuple [.int .u64 (uv (nG (Dk.new 4) zP zP)), .int .i64 (nE (Dk.new 4) zP zP)].toArray :: .int .u64 (uv (nG (Dk.new 4) zP zP)) :: .int .i64 (nE (Dk.new 4) zP zP) :: .bool true :: .bool true :: .bool true :: .bool true :: .bool true :: .bool true :: .bool true :: .bool true :: .int .i64 (reE (Dk.new 4) zP zP) :: .bool true :: .bool true :: .bool true :: .int .i64 (wE (Dk.new 4) zP zP (List.replicate 187 (0 : UInt8))) :: .bool true :: .bool true :: .bool true :: .int .i64 (reE (Dk.new 1) zP zP) :: .bool true :: U8l5n (undef :: []))) _ (x_cmp (k := .i64) (m := (reE (Dk.new 1) zP zP)) (n := 41) .eql true rfl rfl rfl (by rw [show reE (Dk.new 1) zP zP = 41 from rfl]; rfl) rfl) rfl ?_
    refine p_run _ (x_pick true (.bool true) (.bool false) (.bool true) rfl rfl rfl rfl rfl) rfl ?_
    refine p_run _ (x_move (.bool true) rfl rfl) rfl ?_
    refine p_on rfl (by rw [hops50]; rfl) ?_
    refine p_run _ (x_move (.int .u64 (uv (nG (Dk.new 4) zP zP))) rfl rfl) rfl ?_
    refine p_on rfl (by rw [hops50]; rfl) ?_
    refine p_run _ (x_cmp (k := .u64) (m := (uv (nG (Dk.new 4) zP zP))) (n := 1) .eql true rfl rfl rfl (by rw [n2, z_nx]; rfl) rfl) rfl ?_
    refine p_run _ (x_pick true (.bool true) (.bool false) (.bool true) rfl rfl rfl rfl rfl) rfl ?_
    refine p_run _ (x_move (.bool true) rfl rfl) rfl ?_
    refine p_on rfl (by rw [hops50]; rfl) ?_
    refine p_run (l' := (.bool false :: .pointer (some ⟨D9, 0, none⟩) :: .slice oa18 ((rB (Dk.new 4) zP zP).length) nc19 :: .int .u64 (uv (rG (Dk.new 4) zP zP)) :: .int .i64 (reE (Dk.new 4) zP zP) :: .int .u64 (uv (wG (Dk.new 4) zP zP (List.replicate 187 (0 : UInt8)))) :: .int .i64 (wE (Dk.new 4) zP zP (List.replicate 187 (0 : UInt8))) :: .slice oa40 ((rB (Dk.new 1) zP zP).length) nc41 :: .int .u64 (uv (rG (Dk.new 1) zP zP)) :: .int .i64 (reE (Dk.new 1) zP zP) :: .int .u64 (uv (nG (Dk.new 4) zP zP)) :: .int .i64 (nE (Dk.new 4) zP zP) :: .pointer (some ⟨D9, 0, none⟩) :: .tuple [.slice oa18 ((rB (Dk.new 4) zP zP).length) nc19, .int .u64 (uv (rG (Dk.new 4) zP zP)), .int .i64 (reE (Dk.new 4) zP zP)].toArray :: .pointer (some ⟨D9, 0, none⟩) :: .tuple [.slice oa18 ((rB (Dk.new 4) zP zP).length) nc19, .int .u64 (uv (rG (Dk.new 4) zP zP)), .int .i64 (reE (Dk.new 4) zP zP)].toArray :: .slice oa18 ((rB (Dk.new 4) zP zP).length) nc19 :: .int .u64 (uv (rG (Dk.new 4) zP zP)) :: .int .i64 (reE (Dk.new 4) zP zP) :: .tuple [.int .u64 (uv (wG (Dk.new 4) zP zP (List.replicate 187 (0 : UInt8)))), .int .i64 (wE (Dk.new 4) zP zP (List.replicate 187 (0 : UInt8)))].toArray :: .pointer (some ⟨D9, 0, none⟩) :: .slice (some ⟨g25, 0, none⟩) 187 187 :: .tuple [.int .u64 (uv (wG (Dk.new 4) zP zP (List.replicate 187 (0 : UInt8)))), .int .i64 (wE (Dk.new 4) zP zP (List.replicate 187 (0 : UInt8)))].toArray :: .int .u64 (uv (wG (Dk.new 4) zP zP (List.replicate 187 (0 : UInt8)))) :: .int .i64 (wE (Dk.new 4) zP zP (List.replicate 187 (0 : UInt8))) :: .tuple [.slice oa40 ((rB (Dk.new 1) zP zP).length) nc41, .int .u64 (uv (rG (Dk.new 1) zP zP)), .int .i64 (reE (Dk.new 1) zP zP)].toArray :: .pointer (some ⟨D35, 0, none⟩) :: .tuple [.slice oa40 ((rB (Dk.new 1) zP zP).length) nc41, .int .u64 (uv (rG (Dk.new 1) zP zP)), .int .i64 (reE (Dk.new 1) zP zP)].toArray :: .slice oa40 ((rB (Dk.new 1) zP zP).length) nc41 :: .int .u64 (uv (rG (Dk.new 1) zP zP)) :: .int .i64 (reE (Dk.new 1) zP zP) :: .tuple [.int .u64 (uv (nG (Dk.new 4) zP zP)), .int .i64 (nE (Dk.new 4) zP zP)].toArray :: .pointer (some ⟨D9, 0, none⟩) :: .tuple [.int .u64 (uv (nG (Dk.new 4) zP zP)), .int .i64 (nE (Dk.new 4) zP zP)].toArray :: .int .u64 (uv (nG (Dk.new 4) zP zP)) :: .int .i64 (nE (Dk.new 4) zP zP) :: .bool true :: .bool true :: .bool true :: .bool true :: .bool true :: .bool true :: .bool true :: .bool true :: .int .i64 (reE (Dk.new 4) zP zP) :: .bool true :: .bool true :: .bool true :: .int .i64 (wE (Dk.new 4) zP zP (List.replicate 187 (0 : UInt8))) :: .bool true :: .bool true :: .bool true :: .int .i64 (reE (Dk.new 1) zP zP) :: .bool true :: .bool true :: .bool true :: .int .u64 (uv (nG (Dk.new 4) zP zP)) :: .bool true :: .bool true :: .bool true :: .int .i64 (nE (Dk.new 4) zP zP) :: undef :: undef :: [])) _ (x_move (.int .i64 (nE (Dk.new 4) zP zP)) rfl rfl) rfl ?_
    refine p_on rfl (by rw [hops50]; rfl) ?_
    refine p_run _ (x_cmp (k := .i64) (m := (nE (Dk.new 4) zP zP)) (n := 0) .eql true rfl rfl rfl (by rw [n1]; rfl) rfl) rfl ?_
    refine p_run _ (x_pick true (.bool true) (.bool false) (.bool true) rfl rfl rfl rfl rfl) rfl ?_
    refine p_run _ (x_assign (.bool true) rfl rfl) rfl ?_
    clear hops50
    refine wpList_nil ?_
    refine hK49 _ _ ?_
    refine wp_ret ?_
    try simp only [Exit.inBlock, Exit.then]
    refine c_ret (.bool true) (r_tmp rfl rfl) ?_
    exact ⟨rfl, HS.belowOf⟩

theorem rnames_any (w : World) : Calls Try.prog 3 #[] w fun e w' => e = .returned (.bool true) ∧ Below w.heap.size w w' := rnames_law w
end Go.Proofs.Ytenlkobjldhfgaa
