/- FrameBytes, FrameReads. -/
import Derived.Test.YtmachdikonelbaaZFrameReadsL18a
import Derived.Test.YtmachdikonelbaaZFrameReadsRg4
set_option linter.unusedVariables false
set_option linter.unusedSimpArgs false
namespace Go.Proofs.Ytmachdikonelbaa
open Go.RowKit Go.Proofs.YtmachdikonelbaaW.PrintWords Go.Proofs.YtmachdikonelbaaW.PrintLast Crc
abbrev U4ld (l : List Value) : List Value := undef :: undef :: undef :: undef :: l
abbrev U8ld (l : List Value) : List Value := U4ld (U4ld l)
abbrev U16ld (l : List Value) : List Value := U8ld (U8ld l)
abbrev U32ld (l : List Value) : List Value := U16ld (U16ld l)
set_option maxRecDepth 10000 in
set_option maxHeartbeats 4000000 in
theorem fmreads_any (C : Option Addr) (cc : Nat) (xs : List UInt8) (w : World) (hC : Sl w C cc xs) : Calls Try.prog 5 #[.slice C xs.length cc] w fun e w' => e = .returned (.bool true) ∧ Below w.heap.size w w' := by
  have HS := St.empty w
  by_cases hl : 600 < xs.length
  · skip
    refine c_enter Try.func5 rfl 41 rfl (.slice C xs.length cc :: U32ld (U8ld ([]))) rfl ?_
    refine wp_seq_k (fun K1 hK2 => ?_)
    refine c_region (fun ops4 hops3 => ?_)
    clear hops3
    refine p_run _ (x_assign (.bool false) rfl rfl) rfl ?_
    refine wpList_nil ?_
    refine hK2 _ _ ?_
    refine wp_seq_k (fun K5 hK6 => ?_)
    refine wp_seq_k (fun K7 hK8 => ?_)
    refine c_region (fun ops10 hops9 => ?_)
    clear hops9
    refine w_call [] Try.func11 (by kernel_rfl) (by rfl) rfl ?_
    refine (falive_any _).mono ?_
    rintro e w11 ⟨rfl, hb_⟩
    replace HS := HS.here hb_
    clear hb_
    refine ⟨_, rfl, ?_⟩
    refine p_run _ (x_not true rfl rfl) rfl ?_
    refine wpList_nil ?_
    refine hK8 _ _ ?_
    refine c_false rfl ?_
    refine wp_skip ?_
    refine hK6 _ _ ?_
    refine wp_seq_k (fun K12 hK13 => ?_)
    refine wp_seq_k (fun K14 hK15 => ?_)
    refine c_region (fun ops17 hops16 => ?_)
    clear hops16
    refine p_run _ (x_move (.slice C xs.length cc) rfl rfl) rfl ?_
    refine p_run _ (x_len rfl rfl Try.underlying22) rfl ?_
    refine p_run (l' := (.slice C xs.length cc :: undef :: .bool false :: U4ld (undef :: .bool true :: .bool false :: .slice C xs.length cc :: .int .i64 (xs.length : Int) :: .bool true :: U16ld (U8ld (U4ld ([])))))) _ (x_cmp (k := .i64) (m := (xs.length : Int)) (n := 600) .gtr true rfl rfl rfl (show decide _ = true from decide_eq_true (by omega)) rfl) rfl ?_
    refine wpList_nil ?_
    refine hK15 _ _ ?_
    refine c_true rfl ?_
    refine wp_seq_k (fun K18 hK19 => ?_)
    refine c_region (fun ops21 hops20 => ?_)
    clear hops20
    refine p_run _ (x_assign (.bool true) rfl rfl) rfl ?_
    refine wpList_nil ?_
    refine hK19 _ _ ?_
    refine wp_ret ?_
    try simp only [Exit.inBlock, Exit.then]
    refine c_ret (.bool true) (r_tmp rfl rfl) ?_
    exact ⟨rfl, HS.belowOf⟩
  · skip
    refine c_enter Try.func5 rfl 41 rfl (.slice C xs.length cc :: U32ld (U8ld ([]))) rfl ?_
    refine wp_seq_k (fun K1 hK2 => ?_)
    refine c_region (fun ops4 hops3 => ?_)
    clear hops3
    refine p_run _ (x_assign (.bool false) rfl rfl) rfl ?_
    refine wpList_nil ?_
    refine hK2 _ _ ?_
    refine wp_seq_k (fun K5 hK6 => ?_)
    refine wp_seq_k (fun K7 hK8 => ?_)
    refine c_region (fun ops10 hops9 => ?_)
    clear hops9
    refine w_call [] Try.func11 (by kernel_rfl) (by rfl) rfl ?_
    refine (falive_any _).mono ?_
    rintro e w11 ⟨rfl, hb_⟩
    replace HS := HS.here hb_
    clear hb_
    refine ⟨_, rfl, ?_⟩
    refine p_run _ (x_not true rfl rfl) rfl ?_
    refine wpList_nil ?_
    refine hK8 _ _ ?_
    refine c_false rfl ?_
    refine wp_skip ?_
    refine hK6 _ _ ?_
    refine wp_seq_k (fun K12 hK13 => ?_)
    refine wp_seq_k (fun K14 hK15 => ?_)
    refine c_region (fun ops17 hops16 => ?_)
    clear hops16
    refine p_run _ (x_move (.slice C xs.length cc) rfl rfl) rfl ?_
    refine p_run _ (x_len rfl rfl Try.underlying22) rfl ?_
    refine p_run (l' := (.slice C xs.length cc :: undef :: .bool false :: U4ld (undef :: .bool true :: .bool false :: .slice C xs.length cc :: .int .i64 (xs.length : Int) :: .bool false :: U16ld (U8ld (U4ld ([])))))) _ (x_cmp (k := .i64) (m := (xs.length : Int)) (n := 600) .gtr false rfl rfl rfl (show decide _ = false from decide_eq_false (by omega)) rfl) rfl ?_
    refine wpList_nil ?_
    refine hK15 _ _ ?_
    refine c_false rfl ?_
    refine wp_skip ?_
    refine hK13 _ _ ?_
    refine wp_seq_k (fun K18 hK19 => ?_)
    refine c_region (fun ops21 hops20 => ?_)
    clear hops20
    refine St.wLit0 HS kByte rfl 1 (.int .u8 0) Try.underlying22 (by kernel_rfl) ?_
    clear HS
    intro v22 w23 HS
    refine p_run _ (x_move (.slice C xs.length cc) rfl rfl) rfl ?_
    refine St.wAppend HS (.int .u8 0) 1 Try.underlying22 (by kernel_rfl) rfl (by decide) (by decide) xs _ _ _ rfl rfl (hC.below HS.belowOf).rd (fun _ _ h => h) (by simp only [List.length_nil]; omega) ?_
    clear HS
    intro v24 w25 HS
    refine p_run _ (x_assign (v24) rfl rfl) rfl ?_
    refine wpList_nil ?_
    obtain ⟨qz26, hqz26⟩ : ∃ q_ : V8, q_ = ⟨.bool true, .bool false, .slice C xs.length cc, .int .i64 (xs.length : Int), .bool false, v22, .slice C xs.length cc, v24⟩ := ⟨_, rfl⟩
    refine fr_at (l' := (.slice C xs.length cc :: undef :: .bool false :: v24 :: U4ld (V8.l qz26 (U16ld (U8ld (undef :: [])))))) (by subst hqz26; rfl) ?_
    refine hK19 _ _ ?_
    refine wp_seq_k (fun K27 hK28 => ?_)
    skip
    · skip
      rw [List.nil_append] at HS
      obtain ⟨A29, c30, hv31, hcp32, -⟩ := row_reads (HS.get (.head _))
      subst hv31
      refine c_region (fun ops34 hops33 => ?_)
      clear hops33
      refine p_run _ (x_move (.slice A29 xs.length c30) rfl rfl) rfl ?_
      refine w_call [.slice A29 xs.length c30] Try.func10 (by kernel_rfl) (by rfl) rfl ?_
      refine (fread_any _ A29 c30 xs (rowsl (HS.get (.head _))) (by omega)).mono ?_
      rintro e w39 ⟨A35, c36, B37, d38, rfl, hk_⟩
      replace HS := HS.more hk_
      clear hk_
      refine ⟨_, rfl, ?_⟩
      refine p_run _ (x_move (.tuple [mgV (frM xs) A35 c36 B37 d38, .int .i64 (frE xs)].toArray) rfl rfl) rfl ?_
      refine p_run _ (x_extract (vs := [mgV (frM xs) A35 c36 B37 d38, .int .i64 (frE xs)]) 0 (mgV (frM xs) A35 c36 B37 d38) rfl rfl rfl) rfl ?_
      refine p_run _ (x_extract (vs := [mgV (frM xs) A35 c36 B37 d38, .int .i64 (frE xs)]) 1 (.int .i64 (frE xs)) rfl rfl rfl) rfl ?_
      refine St.wAlloc HS (cs := [.int .i64 0, .int .u32 0, .int .u64 0, .int .u32 0, .int .u32 0, .int .u32 0, .int .u32 0, .int .i64 0, .int .i64 0, .int .u32 0, .slice none 0 0, .slice none 0 0]) (.agg [.int .i64 0, .int .u32 0, .int .u64 0, .int .u32 0, .int .u32 0, .int .u32 0, .int .u32 0, .int .i64 0, .int .i64 0, .int .u32 0, .slice none 0 0, .slice none 0 0].toArray) (by kernel_rfl) rfl ?_
      clear HS
      intro g40 w41 hg42 HS
      refine fr_to (l' := (.slice C xs.length cc :: undef :: .bool false :: .slice A29 xs.length c30 :: .pointer (some ⟨g40, 0, none⟩) :: undef :: undef :: undef :: V8.l qz26 (.tuple [mgV (frM xs) A35 c36 B37 d38, .int .i64 (frE xs)].toArray :: .slice A29 xs.length c30 :: .tuple [mgV (frM xs) A35 c36 B37 d38, .int .i64 (frE xs)].toArray :: mgV (frM xs) A35 c36 B37 d38 :: .int .i64 (frE xs) :: U16ld (U4ld ([]))))) rfl ?_
      refine St.stores (cs' := [.int .i64 ((frM xs).k), .int .u32 ((frM xs).e), .int .u64 ((frM xs).s), .int .u32 ((frM xs).te), .int .u32 ((frM xs).ts), .int .u32 ((frM xs).be), .int .u32 ((frM xs).bs), .int .i64 ((frM xs).ix), .int .i64 ((frM xs).tt), .int .u32 ((frM xs).tk), .slice A35 ((frM xs).its.length) c36, .slice B37 ((frM xs).hvs.length) d38]) HS [.int .i64 ((frM xs).k), .int .u32 ((frM xs).e), .int .u64 ((frM xs).s), .int .u32 ((frM xs).te), .int .u32 ((frM xs).ts), .int .u32 ((frM xs).be), .int .u32 ((frM xs).bs), .int .i64 ((frM xs).ix), .int .i64 ((frM xs).tt), .int .u32 ((frM xs).tk), .slice A35 ((frM xs).its.length) c36, .slice B37 ((frM xs).hvs.length) d38] 12 rfl rfl (by rfl) (by kernel_rfl) rfl (by simp) rfl ?_
      clear HS
      intro w43 HS
      refine p_run _ (x_assign (.int .i64 (frE xs)) rfl rfl) rfl ?_
      refine wpList_nil ?_
      refine hK28 _ _ ?_
      refine wp_seq_k (fun K44 hK45 => ?_)
      refine c_region (fun ops47 hops46 => ?_)
      clear hops46
      refine p_run _ (x_move (.slice C xs.length cc) rfl rfl) rfl ?_
      refine w_call [.slice C xs.length cc] Try.func18 (by kernel_rfl) (by rfl) rfl ?_
      refine (r18read_any _ C cc xs (hC.below HS.belowOf) (by omega)).mono ?_
      rintro e w52 ⟨A48, c49, B50, d51, rfl, hk_⟩
      replace HS := HS.more hk_
      clear hk_
      refine ⟨_, rfl, ?_⟩
      refine p_run _ (x_move (.tuple [mgV (frM xs) A48 c49 B50 d51, .int .i64 (frE xs)].toArray) rfl rfl) rfl ?_
      refine p_run _ (x_extract (vs := [mgV (frM xs) A48 c49 B50 d51, .int .i64 (frE xs)]) 0 (mgV (frM xs) A48 c49 B50 d51) rfl rfl rfl) rfl ?_
      refine p_run (l' := (.slice C xs.length cc :: undef :: .bool false :: .slice A29 xs.length c30 :: .pointer (some ⟨g40, 0, none⟩) :: .int .i64 (frE xs) :: undef :: undef :: V8.l qz26 (.tuple [mgV (frM xs) A35 c36 B37 d38, .int .i64 (frE xs)].toArray :: .slice A29 xs.length c30 :: .tuple [mgV (frM xs) A35 c36 B37 d38, .int .i64 (frE xs)].toArray :: mgV (frM xs) A35 c36 B37 d38 :: .int .i64 (frE xs) :: .tuple [mgV (frM xs) A48 c49 B50 d51, .int .i64 (frE xs)].toArray :: .slice C xs.length cc :: .tuple [mgV (frM xs) A48 c49 B50 d51, .int .i64 (frE xs)].toArray :: mgV (frM xs) A48 c49 B50 d51 :: .int .i64 (frE xs) :: U8ld (U4ld (undef :: undef :: undef :: []))))) _ (x_extract (vs := [mgV (frM xs) A48 c49 B50 d51, .int .i64 (frE xs)]) 1 (.int .i64 (frE xs)) rfl rfl rfl) rfl ?_
      refine St.wAlloc HS (cs := [.int .i64 0, .int .u32 0, .int .u64 0, .int .u32 0, .int .u32 0, .int .u32 0, .int .u32 0, .int .i64 0, .int .i64 0, .int .u32 0, .slice none 0 0, .slice none 0 0]) (.agg [.int .i64 0, .int .u32 0, .int .u64 0, .int .u32 0, .int .u32 0, .int .u32 0, .int .u32 0, .int .i64 0, .int .i64 0, .int .u32 0, .slice none 0 0, .slice none 0 0].toArray) (by kernel_rfl) rfl ?_
      clear HS
      intro g53 w54 hg55 HS
      refine St.stores (cs' := [.int .i64 ((frM xs).k), .int .u32 ((frM xs).e), .int .u64 ((frM xs).s), .int .u32 ((frM xs).te), .int .u32 ((frM xs).ts), .int .u32 ((frM xs).be), .int .u32 ((frM xs).bs), .int .i64 ((frM xs).ix), .int .i64 ((frM xs).tt), .int .u32 ((frM xs).tk), .slice A48 ((frM xs).its.length) c49, .slice B50 ((frM xs).hvs.length) d51]) HS [.int .i64 ((frM xs).k), .int .u32 ((frM xs).e), .int .u64 ((frM xs).s), .int .u32 ((frM xs).te), .int .u32 ((frM xs).ts), .int .u32 ((frM xs).be), .int .u32 ((frM xs).bs), .int .i64 ((frM xs).ix), .int .i64 ((frM xs).tt), .int .u32 ((frM xs).tk), .slice A48 ((frM xs).its.length) c49, .slice B50 ((frM xs).hvs.length) d51] 12 rfl rfl (by rfl) (by kernel_rfl) rfl (by simp) rfl ?_
      clear HS
      intro w56 HS
      refine p_run _ (x_assign (.int .i64 (frE xs)) rfl rfl) rfl ?_
      refine wpList_nil ?_
      refine hK45 _ _ ?_
      refine wp_seq_k (fun K57 hK58 => ?_)
      refine c_region (fun ops60 hops59 => ?_)
      refine p_run _ (x_loads [.int .i64 ((frM xs).k), .int .u32 ((frM xs).e), .int .u64 ((frM xs).s), .int .u32 ((frM xs).te), .int .u32 ((frM xs).ts), .int .u32 ((frM xs).be), .int .u32 ((frM xs).bs), .int .i64 ((frM xs).ix), .int .i64 ((frM xs).tt), .int .u32 ((frM xs).tk), .slice A35 ((frM xs).its.length) c36, .slice B37 ((frM xs).hvs.length) d38] 12 rfl rfl (bkCells (HS.get (.tail _ (.tail _ (.tail _ (.head _))))) 0 _ rfl) (by rfl) (by kernel_rfl) rfl) rfl ?_
      refine p_run _ (x_loads [.int .i64 ((frM xs).k), .int .u32 ((frM xs).e), .int .u64 ((frM xs).s), .int .u32 ((frM xs).te), .int .u32 ((frM xs).ts), .int .u32 ((frM xs).be), .int .u32 ((frM xs).bs), .int .i64 ((frM xs).ix), .int .i64 ((frM xs).tt), .int .u32 ((frM xs).tk), .slice A48 ((frM xs).its.length) c49, .slice B50 ((frM xs).hvs.length) d51] 12 rfl rfl (bkCells (HS.get (.head _)) 0 _ rfl) (by rfl) (by kernel_rfl) rfl) rfl ?_
      refine w_call [mgV (frM xs) A35 c36 B37 d38, mgV (frM xs) A48 c49 B50 d51] Try.func17 (by kernel_rfl) (by rfl) rfl ?_
      refine (r18same_any _ (frM xs) A35 c36 (row_C (HS.get (.tail _ (.tail _ (.tail _ (.tail _ (.head _))))))).2.2 B37 d38 (row_C (HS.get (.tail _ (.tail _ (.tail _ (.tail _ (.tail _ (.head _)))))))).2.2 (Nat.le_trans (frM_its _) (by decide)) (Nat.le_trans (frM_hvs _) (by decide)) (frM xs) A48 c49 (row_C (HS.get (.tail _ (.head _)))).2.2 B50 d51 (row_C (HS.get (.tail _ (.tail _ (.head _))))).2.2 (Nat.le_trans (frM_its _) (by decide)) (Nat.le_trans (frM_hvs _) (by decide))).mono ?_
      rintro e w61 ⟨he_, hb_⟩
      rw [(smB_self _ : smB (frM xs) (frM xs) = true)] at he_
      subst he_
      replace HS := HS.here hb_
      clear hb_
      refine ⟨_, rfl, ?_⟩
      refine p_run (l' := (.slice C xs.length cc :: undef :: .bool false :: .slice A29 xs.length c30 :: .pointer (some ⟨g40, 0, none⟩) :: .int .i64 (frE xs) :: .pointer (some ⟨g53, 0, none⟩) :: .int .i64 (frE xs) :: V8.l qz26 (.tuple [mgV (frM xs) A35 c36 B37 d38, .int .i64 (frE xs)].toArray :: .slice A29 xs.length c30 :: .tuple [mgV (frM xs) A35 c36 B37 d38, .int .i64 (frE xs)].toArray :: mgV (frM xs) A35 c36 B37 d38 :: .int .i64 (frE xs) :: .tuple [mgV (frM xs) A48 c49 B50 d51, .int .i64 (frE xs)].toArray :: .slice C xs.length cc :: .tuple [mgV (frM xs) A48 c49 B50 d51, .int .i64 (frE xs)].toArray :: mgV (frM xs) A48 c49 B50 d51 :: .int .i64 (frE xs) :: mgV (frM xs) A35 c36 B37 d38 :: mgV (frM xs) A48 c49 B50 d51 :: .bool true :: .bool true :: U8ld (undef :: undef :: undef :: [])))) _ (x_move (.bool true) rfl rfl) rfl ?_
      refine p_on rfl (by rw [hops59]; rfl) ?_
      refine p_run _ (x_move (.int .i64 (frE xs)) rfl rfl) rfl ?_
      refine p_on rfl (by rw [hops59]; rfl) ?_
      refine p_run _ (x_move (.int .i64 (frE xs)) rfl rfl) rfl ?_
      refine p_on rfl (by rw [hops59]; rfl) ?_
      refine p_run _ (x_cmp (k := .i64) (m := (frE xs)) (n := (frE xs)) .eql true rfl rfl rfl (by simp [cmpB]) rfl) rfl ?_
      refine p_run _ (x_pick true (.bool true) (.bool false) (.bool true) rfl rfl rfl rfl rfl) rfl ?_
      refine p_run _ (x_move (.bool true) rfl rfl) rfl ?_
      refine p_on rfl (by rw [hops59]; rfl) ?_
      refine p_run (l' := (.slice C xs.length cc :: undef :: .bool false :: .slice A29 xs.length c30 :: .pointer (some ⟨g40, 0, none⟩) :: .int .i64 (frE xs) :: .pointer (some ⟨g53, 0, none⟩) :: .int .i64 (frE xs) :: V8.l qz26 (.tuple [mgV (frM xs) A35 c36 B37 d38, .int .i64 (frE xs)].toArray :: .slice A29 xs.length c30 :: .tuple [mgV (frM xs) A35 c36 B37 d38, .int .i64 (frE xs)].toArray :: mgV (frM xs) A35 c36 B37 d38 :: .int .i64 (frE xs) :: .tuple [mgV (frM xs) A48 c49 B50 d51, .int .i64 (frE xs)].toArray :: .slice C xs.length cc :: .tuple [mgV (frM xs) A48 c49 B50 d51, .int .i64 (frE xs)].toArray :: mgV (frM xs) A48 c49 B50 d51 :: .int .i64 (frE xs) :: mgV (frM xs) A35 c36 B37 d38 :: mgV (frM xs) A48 c49 B50 d51 :: .bool true :: .bool true :: .int .i64 (frE xs) :: .int .i64 (frE xs) :: .bool true :: .bool true :: .bool true :: .slice A29 xs.length c30 :: U4ld (undef :: [])))) _ (x_move (.slice A29 xs.length c30) rfl rfl) rfl ?_
      refine p_on rfl (by rw [hops59]; rfl) ?_
      refine p_run _ (x_str (xs := xs) (row_rd (HS.get (.tail _ (.tail _ (.tail _ (.tail _ (.tail _ (.tail _ (.head _))))))))).2.2 (by first | rfl | simp) rfl rfl) rfl ?_
      refine p_on rfl (by rw [hops59]; rfl) ?_
      refine p_run _ (x_move (.slice C xs.length cc) rfl rfl) rfl ?_
      refine p_on rfl (by rw [hops59]; rfl) ?_
      refine p_run _ (x_str (xs := xs) (hC.below HS.belowOf).rd (by first | rfl | simp) rfl rfl) rfl ?_
      refine p_on rfl (by rw [hops59]; rfl) ?_
      refine p_run _ (x_streq .eql (strB xs) (strB xs) true rfl rfl rfl (beq_self_eq_true _) rfl) rfl ?_
      refine p_run _ (x_pick true (.bool true) (.bool false) (.bool true) rfl rfl rfl rfl rfl) rfl ?_
      refine p_run (l' := (.slice C xs.length cc :: undef :: .bool true :: .slice A29 xs.length c30 :: .pointer (some ⟨g40, 0, none⟩) :: .int .i64 (frE xs) :: .pointer (some ⟨g53, 0, none⟩) :: .int .i64 (frE xs) :: V8.l qz26 (.tuple [mgV (frM xs) A35 c36 B37 d38, .int .i64 (frE xs)].toArray :: .slice A29 xs.length c30 :: .tuple [mgV (frM xs) A35 c36 B37 d38, .int .i64 (frE xs)].toArray :: mgV (frM xs) A35 c36 B37 d38 :: .int .i64 (frE xs) :: .tuple [mgV (frM xs) A48 c49 B50 d51, .int .i64 (frE xs)].toArray :: .slice C xs.length cc :: .tuple [mgV (frM xs) A48 c49 B50 d51, .int .i64 (frE xs)].toArray :: mgV (frM xs) A48 c49 B50 d51 :: .int .i64 (frE xs) :: mgV (frM xs) A35 c36 B37 d38 :: mgV (frM xs) A48 c49 B50 d51 :: .bool true :: .bool true :: .int .i64 (frE xs) :: .int .i64 (frE xs) :: .bool true :: .bool true :: .bool true :: .slice A29 xs.length c30 :: .string (strB xs) :: .slice C xs.length cc :: .string (strB xs) :: .bool true :: .bool true :: []))) _ (x_assign (.bool true) rfl rfl) rfl ?_
      clear hops59
      refine wpList_nil ?_
      refine hK58 _ _ ?_
      refine wp_ret ?_
      try simp only [Exit.inBlock, Exit.then]
      refine c_ret (.bool true) (r_tmp rfl rfl) ?_
      exact ⟨rfl, HS.belowOf⟩
end Go.Proofs.Ytmachdikonelbaa
