/- Frames' laws: great, frameAlive, FrameNames, FrameSizes. -/
import Derived.Test.YtmachdikonelbaaZFrameReadsFrL
set_option linter.unusedVariables false
set_option linter.unusedSimpArgs false
namespace Go.Proofs.Ytmachdikonelbaa
open Go.RowKit Go.Proofs.YtmachdikonelbaaW.PrintWords Go.Proofs.YtmachdikonelbaaW.PrintLast Crc
abbrev U4la (l : List Value) : List Value := undef :: undef :: undef :: undef :: l
abbrev U8la (l : List Value) : List Value := U4la (U4la l)
abbrev U16la (l : List Value) : List Value := U8la (U8la l)
abbrev U32la (l : List Value) : List Value := U16la (U16la l)
theorem aMg_back : frM (fbB aMg) = aMg ∧ frE (fbB aMg) = 0 := (fr_back aMg_wf aMg_ok).2
theorem aMg_len : (fbB aMg).length = 41 := fb_len aMg_wf aMg_ok
set_option maxRecDepth 10000 in
set_option maxHeartbeats 1000000 in
theorem falive_any (w : World) : Calls Try.prog 11 #[] w fun e w' => e = .returned (.bool true) ∧ Below w.heap.size w w' := by
  have HS := St.empty w
  · skip
    refine c_enter Try.func11 rfl 33 rfl (U32la (undef :: [])) rfl ?_
    refine wp_seq_k (fun K1 hK2 => ?_)
    refine c_region (fun ops4 hops3 => ?_)
    clear hops3
    refine p_run _ (x_assign (.bool false) rfl rfl) rfl ?_
    refine wpList_nil ?_
    refine hK2 _ _ ?_
    refine wp_seq_k (fun K5 hK6 => ?_)
    refine c_region (fun ops8 hops7 => ?_)
    clear hops7
    refine p_run _ (x_build [.int .i64 4, .int .u32 1, .int .u64 0, .int .u32 0, .int .u32 0, .int .u32 0, .int .u32 0, .int .i64 0, .int .i64 0, .int .u32 0, .slice none 0 0, .slice none 0 0] rfl (by kernel_rfl)) rfl ?_
    refine St.wAlloc HS (cs := [.int .i64 0, .int .u32 0, .int .u64 0, .int .u32 0, .int .u32 0, .int .u32 0, .int .u32 0, .int .i64 0, .int .i64 0, .int .u32 0, .slice none 0 0, .slice none 0 0]) (.agg [.int .i64 0, .int .u32 0, .int .u64 0, .int .u32 0, .int .u32 0, .int .u32 0, .int .u32 0, .int .i64 0, .int .i64 0, .int .u32 0, .slice none 0 0, .slice none 0 0].toArray) (by kernel_rfl) rfl ?_
    clear HS
    intro g9 w10 hg11 HS
    refine St.stores (cs' := [.int .i64 4, .int .u32 1, .int .u64 0, .int .u32 0, .int .u32 0, .int .u32 0, .int .u32 0, .int .i64 0, .int .i64 0, .int .u32 0, .slice none 0 0, .slice none 0 0]) HS [.int .i64 4, .int .u32 1, .int .u64 0, .int .u32 0, .int .u32 0, .int .u32 0, .int .u32 0, .int .i64 0, .int .i64 0, .int .u32 0, .slice none 0 0, .slice none 0 0] 12 rfl rfl (by rfl) (by kernel_rfl) rfl (by simp) rfl ?_
    clear HS
    intro w12 HS
    refine wpList_nil ?_
    refine hK6 _ _ ?_
    refine wp_seq_k (fun K13 hK14 => ?_)
    refine c_region (fun ops16 hops15 => ?_)
    clear hops15
    refine p_run _ (x_loads [.int .i64 4, .int .u32 1, .int .u64 0, .int .u32 0, .int .u32 0, .int .u32 0, .int .u32 0, .int .i64 0, .int .i64 0, .int .u32 0, .slice none 0 0, .slice none 0 0] 12 rfl rfl (bkCells (HS.get (.head _)) 0 _ rfl) (by rfl) (by kernel_rfl) rfl) rfl ?_
    refine w_call [.agg ([.int .i64 4, .int .u32 1, .int .u64 0, .int .u32 0, .int .u32 0, .int .u32 0, .int .u32 0, .int .i64 0, .int .i64 0, .int .u32 0, .slice none 0 0, .slice none 0 0] : List Value).toArray] Try.func9 (by kernel_rfl) (by rfl) rfl ?_
    refine (fbytes_any _ aMg none 0 (it_nil _) none 0 (hv_nil _) (Nat.zero_le _) (Nat.zero_le _) aMg_wf).mono ?_
    rintro e w19 ⟨A17, c18, rfl, hk_⟩
    replace HS := HS.more hk_
    clear hk_
    refine ⟨_, rfl, ?_⟩
    refine p_run _ (x_move (.tuple [.slice A17 ((fbB aMg).length) c18, .int .i64 (fbE aMg)].toArray) rfl rfl) rfl ?_
    refine p_run (l' := (.bool false :: .pointer (some ⟨g9, 0, none⟩) :: U4la (.agg ([.int .i64 4, .int .u32 1, .int .u64 0, .int .u32 0, .int .u32 0, .int .u32 0, .int .u32 0, .int .i64 0, .int .i64 0, .int .u32 0, .slice none 0 0, .slice none 0 0] : List Value).toArray :: .tuple [.slice A17 ((fbB aMg).length) c18, .int .i64 (fbE aMg)].toArray :: .agg ([.int .i64 4, .int .u32 1, .int .u64 0, .int .u32 0, .int .u32 0, .int .u32 0, .int .u32 0, .int .i64 0, .int .i64 0, .int .u32 0, .slice none 0 0, .slice none 0 0] : List Value).toArray :: .tuple [.slice A17 ((fbB aMg).length) c18, .int .i64 (fbE aMg)].toArray :: .slice A17 ((fbB aMg).length) c18 :: U16la (U4la (undef :: undef :: []))))) _ (x_extract (vs := [.slice A17 ((fbB aMg).length) c18, .int .i64 (fbE aMg)]) 0 (.slice A17 ((fbB aMg).length) c18) rfl rfl rfl) rfl ?_
    refine p_run _ (x_extract (vs := [.slice A17 ((fbB aMg).length) c18, .int .i64 (fbE aMg)]) 1 (.int .i64 (fbE aMg)) rfl rfl rfl) rfl ?_
    refine p_run _ (x_assign (.slice A17 ((fbB aMg).length) c18) rfl rfl) rfl ?_
    refine p_run _ (x_assign (.int .i64 (fbE aMg)) rfl rfl) rfl ?_
    refine wpList_nil ?_
    refine hK14 _ _ ?_
    refine wp_seq_k (fun K20 hK21 => ?_)
    refine c_region (fun ops23 hops22 => ?_)
    clear hops22
    refine p_run _ (x_move (.slice A17 ((fbB aMg).length) c18) rfl rfl) rfl ?_
    refine w_call [.slice A17 ((fbB aMg).length) c18] Try.func10 (by kernel_rfl) (by rfl) rfl ?_
    refine (fread_any _ A17 c18 (fbB aMg) (rowsl (HS.get (.head _))) (by rw [aMg_len]; decide)).mono ?_
    rintro e w28 ⟨A24, c25, B26, d27, rfl, hk_⟩
    replace HS := HS.more hk_
    clear hk_
    refine ⟨_, rfl, ?_⟩
    refine p_run _ (x_move (.tuple [mgV (frM (fbB aMg)) A24 c25 B26 d27, .int .i64 (frE (fbB aMg))].toArray) rfl rfl) rfl ?_
    refine p_run (l' := (.bool false :: .pointer (some ⟨g9, 0, none⟩) :: .slice A17 ((fbB aMg).length) c18 :: .int .i64 (fbE aMg) :: undef :: undef :: .agg ([.int .i64 4, .int .u32 1, .int .u64 0, .int .u32 0, .int .u32 0, .int .u32 0, .int .u32 0, .int .i64 0, .int .i64 0, .int .u32 0, .slice none 0 0, .slice none 0 0] : List Value).toArray :: .tuple [.slice A17 ((fbB aMg).length) c18, .int .i64 (fbE aMg)].toArray :: .agg ([.int .i64 4, .int .u32 1, .int .u64 0, .int .u32 0, .int .u32 0, .int .u32 0, .int .u32 0, .int .i64 0, .int .i64 0, .int .u32 0, .slice none 0 0, .slice none 0 0] : List Value).toArray :: .tuple [.slice A17 ((fbB aMg).length) c18, .int .i64 (fbE aMg)].toArray :: .slice A17 ((fbB aMg).length) c18 :: .int .i64 (fbE aMg) :: .tuple [mgV (frM (fbB aMg)) A24 c25 B26 d27, .int .i64 (frE (fbB aMg))].toArray :: .slice A17 ((fbB aMg).length) c18 :: .tuple [mgV (frM (fbB aMg)) A24 c25 B26 d27, .int .i64 (frE (fbB aMg))].toArray :: mgV (frM (fbB aMg)) A24 c25 B26 d27 :: U16la (undef :: []))) _ (x_extract (vs := [mgV (frM (fbB aMg)) A24 c25 B26 d27, .int .i64 (frE (fbB aMg))]) 0 (mgV (frM (fbB aMg)) A24 c25 B26 d27) rfl rfl rfl) rfl ?_
    refine p_run _ (x_extract (vs := [mgV (frM (fbB aMg)) A24 c25 B26 d27, .int .i64 (frE (fbB aMg))]) 1 (.int .i64 (frE (fbB aMg))) rfl rfl rfl) rfl ?_
    refine St.wAlloc HS (cs := [.int .i64 0, .int .u32 0, .int .u64 0, .int .u32 0, .int .u32 0, .int .u32 0, .int .u32 0, .int .i64 0, .int .i64 0, .int .u32 0, .slice none 0 0, .slice none 0 0]) (.agg [.int .i64 0, .int .u32 0, .int .u64 0, .int .u32 0, .int .u32 0, .int .u32 0, .int .u32 0, .int .i64 0, .int .i64 0, .int .u32 0, .slice none 0 0, .slice none 0 0].toArray) (by kernel_rfl) rfl ?_
    clear HS
    intro g29 w30 hg31 HS
    refine St.stores (cs' := [.int .i64 ((frM (fbB aMg)).k), .int .u32 ((frM (fbB aMg)).e), .int .u64 ((frM (fbB aMg)).s), .int .u32 ((frM (fbB aMg)).te), .int .u32 ((frM (fbB aMg)).ts), .int .u32 ((frM (fbB aMg)).be), .int .u32 ((frM (fbB aMg)).bs), .int .i64 ((frM (fbB aMg)).ix), .int .i64 ((frM (fbB aMg)).tt), .int .u32 ((frM (fbB aMg)).tk), .slice A24 ((frM (fbB aMg)).its.length) c25, .slice B26 ((frM (fbB aMg)).hvs.length) d27]) HS [.int .i64 ((frM (fbB aMg)).k), .int .u32 ((frM (fbB aMg)).e), .int .u64 ((frM (fbB aMg)).s), .int .u32 ((frM (fbB aMg)).te), .int .u32 ((frM (fbB aMg)).ts), .int .u32 ((frM (fbB aMg)).be), .int .u32 ((frM (fbB aMg)).bs), .int .i64 ((frM (fbB aMg)).ix), .int .i64 ((frM (fbB aMg)).tt), .int .u32 ((frM (fbB aMg)).tk), .slice A24 ((frM (fbB aMg)).its.length) c25, .slice B26 ((frM (fbB aMg)).hvs.length) d27] 12 rfl rfl (by rfl) (by kernel_rfl) rfl (by simp) rfl ?_
    clear HS
    intro w32 HS
    refine p_run _ (x_assign (.int .i64 (frE (fbB aMg))) rfl rfl) rfl ?_
    refine wpList_nil ?_
    refine hK21 _ _ ?_
    refine wp_seq_k (fun K33 hK34 => ?_)
    refine c_region (fun ops36 hops35 => ?_)
    refine p_run _ (x_move (.int .i64 (fbE aMg)) rfl rfl) rfl ?_
    refine p_run _ (x_cmp (k := .i64) (m := (fbE aMg)) (n := 0) .eql true rfl rfl rfl (by rw [(fb_yes aMg_ok).2]; rfl) rfl) rfl ?_
    refine p_run _ (x_move (.bool true) rfl rfl) rfl ?_
    refine p_on rfl (by rw [hops35]; rfl) ?_
    refine p_run (l' := (.bool false :: .pointer (some ⟨g9, 0, none⟩) :: .slice A17 ((fbB aMg).length) c18 :: .int .i64 (fbE aMg) :: .pointer (some ⟨g29, 0, none⟩) :: .int .i64 (frE (fbB aMg)) :: .agg ([.int .i64 4, .int .u32 1, .int .u64 0, .int .u32 0, .int .u32 0, .int .u32 0, .int .u32 0, .int .i64 0, .int .i64 0, .int .u32 0, .slice none 0 0, .slice none 0 0] : List Value).toArray :: .tuple [.slice A17 ((fbB aMg).length) c18, .int .i64 (fbE aMg)].toArray :: .agg ([.int .i64 4, .int .u32 1, .int .u64 0, .int .u32 0, .int .u32 0, .int .u32 0, .int .u32 0, .int .i64 0, .int .i64 0, .int .u32 0, .slice none 0 0, .slice none 0 0] : List Value).toArray :: .tuple [.slice A17 ((fbB aMg).length) c18, .int .i64 (fbE aMg)].toArray :: .slice A17 ((fbB aMg).length) c18 :: .int .i64 (fbE aMg) :: .tuple [mgV (frM (fbB aMg)) A24 c25 B26 d27, .int .i64 (frE (fbB aMg))].toArray :: .slice A17 ((fbB aMg).length) c18 :: .tuple [mgV (frM (fbB aMg)) A24 c25 B26 d27, .int .i64 (frE (fbB aMg))].toArray :: mgV (frM (fbB aMg)) A24 c25 B26 d27 :: .int .i64 (frE (fbB aMg)) :: .int .i64 (fbE aMg) :: .bool true :: .bool true :: .int .i64 (frE (fbB aMg)) :: U8la (U4la ([])))) _ (x_move (.int .i64 (frE (fbB aMg))) rfl rfl) rfl ?_
    refine p_on rfl (by rw [hops35]; rfl) ?_
    refine p_run _ (x_cmp (k := .i64) (m := (frE (fbB aMg))) (n := 0) .eql true rfl rfl rfl (by rw [aMg_back.2]; rfl) rfl) rfl ?_
    refine p_run _ (x_pick true (.bool true) (.bool false) (.bool true) rfl rfl rfl rfl rfl) rfl ?_
    refine p_run _ (x_move (.bool true) rfl rfl) rfl ?_
    refine p_on rfl (by rw [hops35]; rfl) ?_
    refine p_run _ (x_move (.slice A17 ((fbB aMg).length) c18) rfl rfl) rfl ?_
    refine p_on rfl (by rw [hops35]; rfl) ?_
    refine p_run _ (x_len rfl rfl Try.underlying22) rfl ?_
    refine p_on rfl (by rw [hops35]; rfl) ?_
    refine p_run _ (x_cmp (k := .i64) (m := ((fbB aMg).length : Int)) (n := 41) .eql true rfl rfl rfl (by rw [aMg_len]; rfl) rfl) rfl ?_
    refine p_run (l' := (.bool false :: .pointer (some ⟨g9, 0, none⟩) :: .slice A17 ((fbB aMg).length) c18 :: .int .i64 (fbE aMg) :: .pointer (some ⟨g29, 0, none⟩) :: .int .i64 (frE (fbB aMg)) :: .agg ([.int .i64 4, .int .u32 1, .int .u64 0, .int .u32 0, .int .u32 0, .int .u32 0, .int .u32 0, .int .i64 0, .int .i64 0, .int .u32 0, .slice none 0 0, .slice none 0 0] : List Value).toArray :: .tuple [.slice A17 ((fbB aMg).length) c18, .int .i64 (fbE aMg)].toArray :: .agg ([.int .i64 4, .int .u32 1, .int .u64 0, .int .u32 0, .int .u32 0, .int .u32 0, .int .u32 0, .int .i64 0, .int .i64 0, .int .u32 0, .slice none 0 0, .slice none 0 0] : List Value).toArray :: .tuple [.slice A17 ((fbB aMg).length) c18, .int .i64 (fbE aMg)].toArray :: .slice A17 ((fbB aMg).length) c18 :: .int .i64 (fbE aMg) :: .tuple [mgV (frM (fbB aMg)) A24 c25 B26 d27, .int .i64 (frE (fbB aMg))].toArray :: .slice A17 ((fbB aMg).length) c18 :: .tuple [mgV (frM (fbB aMg)) A24 c25 B26 d27, .int .i64 (frE (fbB aMg))].toArray :: mgV (frM (fbB aMg)) A24 c25 B26 d27 :: .int .i64 (frE (fbB aMg)) :: .int .i64 (fbE aMg) :: .bool true :: .bool true :: .int .i64 (frE (fbB aMg)) :: .bool true :: .bool true :: .bool true :: .slice A17 ((fbB aMg).length) c18 :: .int .i64 ((fbB aMg).length : Int) :: .bool true :: .bool true :: U4la (undef :: []))) _ (x_pick true (.bool true) (.bool false) (.bool true) rfl rfl rfl rfl rfl) rfl ?_
    refine p_run _ (x_move (.bool true) rfl rfl) rfl ?_
    refine p_on rfl (by rw [hops35]; rfl) ?_
    refine p_run _ (x_loads [.int .i64 ((frM (fbB aMg)).k), .int .u32 ((frM (fbB aMg)).e), .int .u64 ((frM (fbB aMg)).s), .int .u32 ((frM (fbB aMg)).te), .int .u32 ((frM (fbB aMg)).ts), .int .u32 ((frM (fbB aMg)).be), .int .u32 ((frM (fbB aMg)).bs), .int .i64 ((frM (fbB aMg)).ix), .int .i64 ((frM (fbB aMg)).tt), .int .u32 ((frM (fbB aMg)).tk), .slice A24 ((frM (fbB aMg)).its.length) c25, .slice B26 ((frM (fbB aMg)).hvs.length) d27] 12 rfl rfl (bkCells (HS.get (.head _)) 0 _ rfl) (by rfl) (by kernel_rfl) rfl) rfl ?_
    refine p_on rfl (by rw [hops35]; rfl) ?_
    refine p_run _ (x_loads [.int .i64 4, .int .u32 1, .int .u64 0, .int .u32 0, .int .u32 0, .int .u32 0, .int .u32 0, .int .i64 0, .int .i64 0, .int .u32 0, .slice none 0 0, .slice none 0 0] 12 rfl rfl (bkCells (HS.get (.tail _ (.tail _ (.tail _ (.tail _ (.head _)))))) 0 _ rfl) (by rfl) (by kernel_rfl) rfl) rfl ?_
    refine p_on rfl (by rw [hops35]; rfl) ?_
    refine w_call [mgV (frM (fbB aMg)) A24 c25 B26 d27, .agg ([.int .i64 4, .int .u32 1, .int .u64 0, .int .u32 0, .int .u32 0, .int .u32 0, .int .u32 0, .int .i64 0, .int .i64 0, .int .u32 0, .slice none 0 0, .slice none 0 0] : List Value).toArray] Try.func16 (by kernel_rfl) (by rfl) rfl ?_
    refine (fsame_any _ (frM (fbB aMg)) A24 c25 (row_C (HS.get (.tail _ (.head _)))).2.2 B26 d27 (row_C (HS.get (.tail _ (.tail _ (.head _))))).2.2 (Nat.le_trans (frM_its _) (by decide)) (Nat.le_trans (frM_hvs _) (by decide)) aMg none 0 (it_nil _) none 0 (hv_nil _) (Nat.zero_le _) (Nat.zero_le _)).mono ?_
    rintro e w37 ⟨he_, hb_⟩
    rw [(by rw [aMg_back.1]; exact smB_self _ : smB (frM (fbB aMg)) aMg = true)] at he_
    subst he_
    replace HS := HS.here hb_
    clear hb_
    refine ⟨_, rfl, ?_⟩
    refine p_run _ (x_pick true (.bool true) (.bool false) (.bool true) rfl rfl rfl rfl rfl) rfl ?_
    refine p_run _ (x_assign (.bool true) rfl rfl) rfl ?_
    clear hops35
    refine wpList_nil ?_
    refine fr_at (l' := (.bool true :: .pointer (some ⟨g9, 0, none⟩) :: .slice A17 ((fbB aMg).length) c18 :: .int .i64 (fbE aMg) :: .pointer (some ⟨g29, 0, none⟩) :: .int .i64 (frE (fbB aMg)) :: .agg ([.int .i64 4, .int .u32 1, .int .u64 0, .int .u32 0, .int .u32 0, .int .u32 0, .int .u32 0, .int .i64 0, .int .i64 0, .int .u32 0, .slice none 0 0, .slice none 0 0] : List Value).toArray :: .tuple [.slice A17 ((fbB aMg).length) c18, .int .i64 (fbE aMg)].toArray :: .agg ([.int .i64 4, .int .u32 1, .int .u64 0, .int .u32 0, .int .u32 0, .int .u32 0, .int .u32 0, .int .i64 0, .int .i64 0, .int .u32 0, .slice none 0 0, .slice none 0 0] : List Value).toArray :: .tuple [.slice A17 ((fbB aMg).length) c18, .int .i64 (fbE aMg)].toArray :: .slice A17 ((fbB aMg).length) c18 :: .int .i64 (fbE aMg) :: .tuple [mgV (frM (fbB aMg)) A24 c25 B26 d27, .int .i64 (frE (fbB aMg))].toArray :: .slice A17 ((fbB aMg).length) c18 :: .tuple [mgV (frM (fbB aMg)) A24 c25 B26 d27, .int .i64 (frE (fbB aMg))].toArray :: mgV (frM (fbB aMg)) A24 c25 B26 d27 :: .int .i64 (frE (fbB aMg)) :: .int .i64 (fbE aMg) :: .bool true :: .bool true :: .int .i64 (frE (fbB aMg)) :: .bool true :: .bool true :: .bool true :: .slice A17 ((fbB aMg).length) c18 :: .int .i64 ((fbB aMg).length : Int) :: .bool true :: .bool true :: .bool true :: mgV (frM (fbB aMg)) A24 c25 B26 d27 :: .agg ([.int .i64 4, .int .u32 1, .int .u64 0, .int .u32 0, .int .u32 0, .int .u32 0, .int .u32 0, .int .i64 0, .int .i64 0, .int .u32 0, .slice none 0 0, .slice none 0 0] : List Value).toArray :: .bool true :: .bool true :: [])) rfl ?_
    refine hK34 _ _ ?_
    refine wp_ret ?_
    try simp only [Exit.inBlock, Exit.then]
    refine c_ret (.bool true) (r_tmp rfl rfl) ?_
    exact ⟨rfl, HS.belowOf⟩
end Go.Proofs.Ytmachdikonelbaa
