/- recordAlive, RecordReads. -/
import Derived.Test.YtkiiangookibnaaZRecordTellsRq2
import Derived.Test.YtkiiangookibnaaZRecordTellsWkSS
import Derived.Test.YtkiiangookibnaaZRecordTellsRk3
set_option linter.unusedVariables false
set_option linter.unusedSimpArgs false
namespace Go.Proofs.Ytkiiangookibnaa
open Go.RowKit Go.Proofs.YtkiiangookibnaaW.PrintWords Go.Proofs.YtkiiangookibnaaW.PrintLast
abbrev U4la (l : List Value) : List Value := undef :: undef :: undef :: undef :: l
abbrev U8la (l : List Value) : List Value := U4la (U4la l)
abbrev U16la (l : List Value) : List Value := U8la (U8la l)
abbrev U32la (l : List Value) : List Value := U16la (U16la l)
theorem rowsl {w : World} {n c : Nat} {A : Option Addr} {xs : List UInt8} (h : (row kByte rfl 5 (.slice A n c) xs).holds w) : Sl w A c xs := by
  obtain ⟨A', c', hv, hs⟩ := Own.sl (row_own h)
  injection hv with h1 h2 h3
  subst h1 h3
  exact hs
def aRc : Rc := ⟨1, false, 0, 0, -1, 0, 0, [], 0, 0, 0, 0, 0, 0, 0, -1⟩
theorem u0 : u32 0 := ⟨by decide, by decide⟩
theorem i0 : i64 0 := ⟨by decide, by decide⟩
theorem i_1 : i64 (-1) := ⟨by decide, by decide⟩
theorem aRc_wf : aRc.wf := ⟨⟨by decide, by decide⟩, u0, u0, i_1, u0, u0, ⟨by decide, by decide⟩, u0, u0, u0, u0, i0, i0, i_1, fun x h => by cases h⟩
theorem aRc_ok : rcOk aRc = true := by decide
theorem rkM_sn (b : List UInt8) : (rkM b).sn.length ≤ 8 := by
  unfold rkM
  split
  · exact rdR_sn _
  · exact Nat.zero_le _
theorem aRc_rd : rdR (rcB aRc) = aRc := by kernel_rfl
theorem aRc_back : rkM (bB aRc) = aRc ∧ rkE (bB aRc) = 0 := by
  have h : rkOk (bB aRc) = true := by
    rw [(bb_yes aRc_ok).1]
    unfold rkOk
    rw [aRc_rd, aRc_ok, decide_eq_true rfl]
    rfl
  obtain ⟨e1, e2⟩ := rk_yes h
  rw [e1, e2, (bb_yes aRc_ok).1, aRc_rd]
  exact ⟨rfl, rfl⟩
theorem aRc_len : (bB aRc).length = 50 := by rw [(bb_yes aRc_ok).1, rcB_len]; rfl
set_option maxRecDepth 10000 in
set_option maxHeartbeats 2000000 in
theorem ralive_any (w : World) : Calls Try.prog 10 #[] w fun e w' => e = .returned (.bool true) ∧ Below w.heap.size w w' := by
  have HS := St.empty w
  · skip
    refine c_enter Try.func10 rfl 38 rfl (U32la (U4la (undef :: undef :: []))) rfl ?_
    refine wp_seq_k (fun K1 hK2 => ?_)
    refine c_region (fun ops4 hops3 => ?_)
    clear hops3
    refine p_run _ (x_assign (.bool false) rfl rfl) rfl ?_
    refine wpList_nil ?_
    refine hK2 _ _ ?_
    refine wp_seq_k (fun K5 hK6 => ?_)
    refine c_region (fun ops8 hops7 => ?_)
    clear hops7
    refine w_call [] Try.func11 (by kernel_rfl) (by rfl) rfl ?_
    refine (empty_any _).mono ?_
    rintro e w9 ⟨rfl, hb_⟩
    replace HS := HS.here hb_
    clear hb_
    refine ⟨_, rfl, ?_⟩
    refine p_run _ (x_build (.int .u32 1 :: .bool false :: .int .u32 0 :: .int .u32 0 :: .int .i64 (-1) :: .int .u32 0 :: .int .u32 0 :: .slice none 0 0 :: .int .u64 0 :: .int .u32 0 :: .int .u32 0 :: .int .u32 0 :: .int .u32 0 :: .int .i64 0 :: .int .i64 0 :: .int .i64 (-1) :: []) rfl (by kernel_rfl)) rfl ?_
    refine St.wAlloc HS (cs := (.int .u32 0 :: .bool false :: .int .u32 0 :: .int .u32 0 :: .int .i64 0 :: .int .u32 0 :: .int .u32 0 :: .slice none 0 0 :: .int .u64 0 :: .int .u32 0 :: .int .u32 0 :: .int .u32 0 :: .int .u32 0 :: .int .i64 0 :: .int .i64 0 :: .int .i64 0 :: [])) (.agg (.int .u32 0 :: .bool false :: .int .u32 0 :: .int .u32 0 :: .int .i64 0 :: .int .u32 0 :: .int .u32 0 :: .slice none 0 0 :: .int .u64 0 :: .int .u32 0 :: .int .u32 0 :: .int .u32 0 :: .int .u32 0 :: .int .i64 0 :: .int .i64 0 :: .int .i64 0 :: []).toArray) (by kernel_rfl) rfl ?_
    clear HS
    intro g10 w11 hg12 HS
    refine St.stores (cs' := (.int .u32 1 :: .bool false :: .int .u32 0 :: .int .u32 0 :: .int .i64 (-1) :: .int .u32 0 :: .int .u32 0 :: .slice none 0 0 :: .int .u64 0 :: .int .u32 0 :: .int .u32 0 :: .int .u32 0 :: .int .u32 0 :: .int .i64 0 :: .int .i64 0 :: .int .i64 (-1) :: [])) HS (.int .u32 1 :: .bool false :: .int .u32 0 :: .int .u32 0 :: .int .i64 (-1) :: .int .u32 0 :: .int .u32 0 :: .slice none 0 0 :: .int .u64 0 :: .int .u32 0 :: .int .u32 0 :: .int .u32 0 :: .int .u32 0 :: .int .i64 0 :: .int .i64 0 :: .int .i64 (-1) :: []) 16 rfl rfl (by rfl) (by kernel_rfl) rfl (by simp) rfl ?_
    clear HS
    intro w13 HS
    refine wpList_nil ?_
    refine fr_at (l' := (.bool false :: .pointer (some ⟨g10, 0, none⟩) :: U4la (.agg ([.int .u64 0, .int .u32 0, .int .u32 0, .int .u32 0, .int .u32 0, .int .i64 0, .int .i64 0, .int .i64 (-1)] : List Value).toArray :: .agg ((.int .u32 1 :: .bool false :: .int .u32 0 :: .int .u32 0 :: .int .i64 (-1) :: .int .u32 0 :: .int .u32 0 :: .slice none 0 0 :: .int .u64 0 :: .int .u32 0 :: .int .u32 0 :: .int .u32 0 :: .int .u32 0 :: .int .i64 0 :: .int .i64 0 :: .int .i64 (-1) :: []) : List Value).toArray :: U16la (U8la (U4la (undef :: undef :: [])))))) rfl ?_
    refine hK6 _ _ ?_
    refine wp_seq_k (fun K14 hK15 => ?_)
    refine c_region (fun ops17 hops16 => ?_)
    clear hops16
    refine p_run _ (x_loads (.int .u32 1 :: .bool false :: .int .u32 0 :: .int .u32 0 :: .int .i64 (-1) :: .int .u32 0 :: .int .u32 0 :: .slice none 0 0 :: .int .u64 0 :: .int .u32 0 :: .int .u32 0 :: .int .u32 0 :: .int .u32 0 :: .int .i64 0 :: .int .i64 0 :: .int .i64 (-1) :: []) 16 rfl rfl (bkCells (HS.get (.head _)) 0 _ rfl) (by rfl) (by kernel_rfl) rfl) rfl ?_
    refine w_call [.agg ((.int .u32 1 :: .bool false :: .int .u32 0 :: .int .u32 0 :: .int .i64 (-1) :: .int .u32 0 :: .int .u32 0 :: .slice none 0 0 :: .int .u64 0 :: .int .u32 0 :: .int .u32 0 :: .int .u32 0 :: .int .u32 0 :: .int .i64 0 :: .int .i64 0 :: .int .i64 (-1) :: []) : List Value).toArray] Try.func8 (by kernel_rfl) (by rfl) rfl ?_
    refine (rbytes_law _ aRc none 0 (Kd.C_nil kSn _) (Nat.zero_le _) aRc_wf).mono ?_
    rintro e w20 ⟨A18, c19, rfl, hk_⟩
    replace HS := HS.more hk_
    clear hk_
    refine ⟨_, rfl, ?_⟩
    refine p_run _ (x_move (.tuple [.slice A18 ((bB aRc).length) c19, .int .i64 (bE aRc)].toArray) rfl rfl) rfl ?_
    refine p_run _ (x_extract (vs := [.slice A18 ((bB aRc).length) c19, .int .i64 (bE aRc)]) 0 (.slice A18 ((bB aRc).length) c19) rfl rfl rfl) rfl ?_
    refine p_run _ (x_extract (vs := [.slice A18 ((bB aRc).length) c19, .int .i64 (bE aRc)]) 1 (.int .i64 (bE aRc)) rfl rfl rfl) rfl ?_
    refine p_run (l' := (.bool false :: .pointer (some ⟨g10, 0, none⟩) :: .slice A18 ((bB aRc).length) c19 :: undef :: undef :: undef :: .agg ([.int .u64 0, .int .u32 0, .int .u32 0, .int .u32 0, .int .u32 0, .int .i64 0, .int .i64 0, .int .i64 (-1)] : List Value).toArray :: .agg ((.int .u32 1 :: .bool false :: .int .u32 0 :: .int .u32 0 :: .int .i64 (-1) :: .int .u32 0 :: .int .u32 0 :: .slice none 0 0 :: .int .u64 0 :: .int .u32 0 :: .int .u32 0 :: .int .u32 0 :: .int .u32 0 :: .int .i64 0 :: .int .i64 0 :: .int .i64 (-1) :: []) : List Value).toArray :: .tuple [.slice A18 ((bB aRc).length) c19, .int .i64 (bE aRc)].toArray :: .agg ((.int .u32 1 :: .bool false :: .int .u32 0 :: .int .u32 0 :: .int .i64 (-1) :: .int .u32 0 :: .int .u32 0 :: .slice none 0 0 :: .int .u64 0 :: .int .u32 0 :: .int .u32 0 :: .int .u32 0 :: .int .u32 0 :: .int .i64 0 :: .int .i64 0 :: .int .i64 (-1) :: []) : List Value).toArray :: .tuple [.slice A18 ((bB aRc).length) c19, .int .i64 (bE aRc)].toArray :: .slice A18 ((bB aRc).length) c19 :: .int .i64 (bE aRc) :: U16la (U8la (undef :: [])))) _ (x_assign (.slice A18 ((bB aRc).length) c19) rfl rfl) rfl ?_
    refine p_run _ (x_assign (.int .i64 (bE aRc)) rfl rfl) rfl ?_
    refine wpList_nil ?_
    refine hK15 _ _ ?_
    refine wp_seq_k (fun K21 hK22 => ?_)
    refine c_region (fun ops24 hops23 => ?_)
    clear hops23
    refine p_run _ (x_move (.slice A18 ((bB aRc).length) c19) rfl rfl) rfl ?_
    refine w_call [.slice A18 ((bB aRc).length) c19] Try.func9 (by kernel_rfl) (by rfl) rfl ?_
    refine (rread_any _ A18 c19 (bB aRc) (rowsl (HS.get (.head _))) (by have := @bB_le aRc; omega)).mono ?_
    rintro e w27 ⟨A25, c26, rfl, hk_⟩
    replace HS := HS.more hk_
    clear hk_
    refine ⟨_, rfl, ?_⟩
    refine p_run _ (x_move (.tuple [rcV (rkM (bB aRc)) A25 c26, .int .i64 (rkE (bB aRc))].toArray) rfl rfl) rfl ?_
    refine p_run _ (x_extract (vs := [rcV (rkM (bB aRc)) A25 c26, .int .i64 (rkE (bB aRc))]) 0 (rcV (rkM (bB aRc)) A25 c26) rfl rfl rfl) rfl ?_
    refine p_run (l' := (.bool false :: .pointer (some ⟨g10, 0, none⟩) :: .slice A18 ((bB aRc).length) c19 :: .int .i64 (bE aRc) :: undef :: undef :: .agg ([.int .u64 0, .int .u32 0, .int .u32 0, .int .u32 0, .int .u32 0, .int .i64 0, .int .i64 0, .int .i64 (-1)] : List Value).toArray :: .agg ((.int .u32 1 :: .bool false :: .int .u32 0 :: .int .u32 0 :: .int .i64 (-1) :: .int .u32 0 :: .int .u32 0 :: .slice none 0 0 :: .int .u64 0 :: .int .u32 0 :: .int .u32 0 :: .int .u32 0 :: .int .u32 0 :: .int .i64 0 :: .int .i64 0 :: .int .i64 (-1) :: []) : List Value).toArray :: .tuple [.slice A18 ((bB aRc).length) c19, .int .i64 (bE aRc)].toArray :: .agg ((.int .u32 1 :: .bool false :: .int .u32 0 :: .int .u32 0 :: .int .i64 (-1) :: .int .u32 0 :: .int .u32 0 :: .slice none 0 0 :: .int .u64 0 :: .int .u32 0 :: .int .u32 0 :: .int .u32 0 :: .int .u32 0 :: .int .i64 0 :: .int .i64 0 :: .int .i64 (-1) :: []) : List Value).toArray :: .tuple [.slice A18 ((bB aRc).length) c19, .int .i64 (bE aRc)].toArray :: .slice A18 ((bB aRc).length) c19 :: .int .i64 (bE aRc) :: .tuple [rcV (rkM (bB aRc)) A25 c26, .int .i64 (rkE (bB aRc))].toArray :: .slice A18 ((bB aRc).length) c19 :: .tuple [rcV (rkM (bB aRc)) A25 c26, .int .i64 (rkE (bB aRc))].toArray :: rcV (rkM (bB aRc)) A25 c26 :: .int .i64 (rkE (bB aRc)) :: U16la (U4la ([])))) _ (x_extract (vs := [rcV (rkM (bB aRc)) A25 c26, .int .i64 (rkE (bB aRc))]) 1 (.int .i64 (rkE (bB aRc))) rfl rfl rfl) rfl ?_
    refine St.wAlloc HS (cs := (.int .u32 0 :: .bool false :: .int .u32 0 :: .int .u32 0 :: .int .i64 0 :: .int .u32 0 :: .int .u32 0 :: .slice none 0 0 :: .int .u64 0 :: .int .u32 0 :: .int .u32 0 :: .int .u32 0 :: .int .u32 0 :: .int .i64 0 :: .int .i64 0 :: .int .i64 0 :: [])) (.agg (.int .u32 0 :: .bool false :: .int .u32 0 :: .int .u32 0 :: .int .i64 0 :: .int .u32 0 :: .int .u32 0 :: .slice none 0 0 :: .int .u64 0 :: .int .u32 0 :: .int .u32 0 :: .int .u32 0 :: .int .u32 0 :: .int .i64 0 :: .int .i64 0 :: .int .i64 0 :: []).toArray) (by kernel_rfl) rfl ?_
    clear HS
    intro g28 w29 hg30 HS
    refine St.stores (cs' := (.int .u32 ((rkM (bB aRc)).e) :: .bool ((rkM (bB aRc)).p) :: .int .u32 ((rkM (bB aRc)).b) :: .int .u32 ((rkM (bB aRc)).q) :: .int .i64 ((rkM (bB aRc)).l) :: .int .u32 ((rkM (bB aRc)).xe) :: .int .u32 ((rkM (bB aRc)).xq) :: .slice A25 ((rkM (bB aRc)).sn.length) c26 :: .int .u64 ((rkM (bB aRc)).s) :: .int .u32 ((rkM (bB aRc)).te) :: .int .u32 ((rkM (bB aRc)).tq) :: .int .u32 ((rkM (bB aRc)).be) :: .int .u32 ((rkM (bB aRc)).bq) :: .int .i64 ((rkM (bB aRc)).nx) :: .int .i64 ((rkM (bB aRc)).tt) :: .int .i64 ((rkM (bB aRc)).rt) :: [])) HS (.int .u32 ((rkM (bB aRc)).e) :: .bool ((rkM (bB aRc)).p) :: .int .u32 ((rkM (bB aRc)).b) :: .int .u32 ((rkM (bB aRc)).q) :: .int .i64 ((rkM (bB aRc)).l) :: .int .u32 ((rkM (bB aRc)).xe) :: .int .u32 ((rkM (bB aRc)).xq) :: .slice A25 ((rkM (bB aRc)).sn.length) c26 :: .int .u64 ((rkM (bB aRc)).s) :: .int .u32 ((rkM (bB aRc)).te) :: .int .u32 ((rkM (bB aRc)).tq) :: .int .u32 ((rkM (bB aRc)).be) :: .int .u32 ((rkM (bB aRc)).bq) :: .int .i64 ((rkM (bB aRc)).nx) :: .int .i64 ((rkM (bB aRc)).tt) :: .int .i64 ((rkM (bB aRc)).rt) :: []) 16 rfl rfl (by rfl) (by kernel_rfl) rfl (by simp) rfl ?_
    clear HS
    intro w31 HS
    refine p_run _ (x_assign (.int .i64 (rkE (bB aRc))) rfl rfl) rfl ?_
    refine wpList_nil ?_
    refine hK22 _ _ ?_
    refine wp_seq_k (fun K32 hK33 => ?_)
    refine c_region (fun ops35 hops34 => ?_)
    refine p_run _ (x_move (.int .i64 (bE aRc)) rfl rfl) rfl ?_
    refine p_run _ (x_cmp (k := .i64) (m := (bE aRc)) (n := 0) .eql true rfl rfl rfl (by rw [(bb_yes aRc_ok).2]; rfl) rfl) rfl ?_
    refine p_run _ (x_move (.bool true) rfl rfl) rfl ?_
    refine p_on rfl (by rw [hops34]; rfl) ?_
    refine p_run (l' := (.bool false :: .pointer (some ⟨g10, 0, none⟩) :: .slice A18 ((bB aRc).length) c19 :: .int .i64 (bE aRc) :: .pointer (some ⟨g28, 0, none⟩) :: .int .i64 (rkE (bB aRc)) :: .agg ([.int .u64 0, .int .u32 0, .int .u32 0, .int .u32 0, .int .u32 0, .int .i64 0, .int .i64 0, .int .i64 (-1)] : List Value).toArray :: .agg ((.int .u32 1 :: .bool false :: .int .u32 0 :: .int .u32 0 :: .int .i64 (-1) :: .int .u32 0 :: .int .u32 0 :: .slice none 0 0 :: .int .u64 0 :: .int .u32 0 :: .int .u32 0 :: .int .u32 0 :: .int .u32 0 :: .int .i64 0 :: .int .i64 0 :: .int .i64 (-1) :: []) : List Value).toArray :: .tuple [.slice A18 ((bB aRc).length) c19, .int .i64 (bE aRc)].toArray :: .agg ((.int .u32 1 :: .bool false :: .int .u32 0 :: .int .u32 0 :: .int .i64 (-1) :: .int .u32 0 :: .int .u32 0 :: .slice none 0 0 :: .int .u64 0 :: .int .u32 0 :: .int .u32 0 :: .int .u32 0 :: .int .u32 0 :: .int .i64 0 :: .int .i64 0 :: .int .i64 (-1) :: []) : List Value).toArray :: .tuple [.slice A18 ((bB aRc).length) c19, .int .i64 (bE aRc)].toArray :: .slice A18 ((bB aRc).length) c19 :: .int .i64 (bE aRc) :: .tuple [rcV (rkM (bB aRc)) A25 c26, .int .i64 (rkE (bB aRc))].toArray :: .slice A18 ((bB aRc).length) c19 :: .tuple [rcV (rkM (bB aRc)) A25 c26, .int .i64 (rkE (bB aRc))].toArray :: rcV (rkM (bB aRc)) A25 c26 :: .int .i64 (rkE (bB aRc)) :: .int .i64 (bE aRc) :: .bool true :: .bool true :: .int .i64 (rkE (bB aRc)) :: U16la ([]))) _ (x_move (.int .i64 (rkE (bB aRc))) rfl rfl) rfl ?_
    refine p_on rfl (by rw [hops34]; rfl) ?_
    refine p_run _ (x_cmp (k := .i64) (m := (rkE (bB aRc))) (n := 0) .eql true rfl rfl rfl (by rw [aRc_back.2]; rfl) rfl) rfl ?_
    refine p_run _ (x_pick true (.bool true) (.bool false) (.bool true) rfl rfl rfl rfl rfl) rfl ?_
    refine p_run _ (x_move (.bool true) rfl rfl) rfl ?_
    refine p_on rfl (by rw [hops34]; rfl) ?_
    refine p_run _ (x_move (.slice A18 ((bB aRc).length) c19) rfl rfl) rfl ?_
    refine p_on rfl (by rw [hops34]; rfl) ?_
    refine p_run _ (x_len rfl rfl Try.underlying22) rfl ?_
    refine p_on rfl (by rw [hops34]; rfl) ?_
    refine p_run (l' := (.bool false :: .pointer (some ⟨g10, 0, none⟩) :: .slice A18 ((bB aRc).length) c19 :: .int .i64 (bE aRc) :: .pointer (some ⟨g28, 0, none⟩) :: .int .i64 (rkE (bB aRc)) :: .agg ([.int .u64 0, .int .u32 0, .int .u32 0, .int .u32 0, .int .u32 0, .int .i64 0, .int .i64 0, .int .i64 (-1)] : List Value).toArray :: .agg ((.int .u32 1 :: .bool false :: .int .u32 0 :: .int .u32 0 :: .int .i64 (-1) :: .int .u32 0 :: .int .u32 0 :: .slice none 0 0 :: .int .u64 0 :: .int .u32 0 :: .int .u32 0 :: .int .u32 0 :: .int .u32 0 :: .int .i64 0 :: .int .i64 0 :: .int .i64 (-1) :: []) : List Value).toArray :: .tuple [.slice A18 ((bB aRc).length) c19, .int .i64 (bE aRc)].toArray :: .agg ((.int .u32 1 :: .bool false :: .int .u32 0 :: .int .u32 0 :: .int .i64 (-1) :: .int .u32 0 :: .int .u32 0 :: .slice none 0 0 :: .int .u64 0 :: .int .u32 0 :: .int .u32 0 :: .int .u32 0 :: .int .u32 0 :: .int .i64 0 :: .int .i64 0 :: .int .i64 (-1) :: []) : List Value).toArray :: .tuple [.slice A18 ((bB aRc).length) c19, .int .i64 (bE aRc)].toArray :: .slice A18 ((bB aRc).length) c19 :: .int .i64 (bE aRc) :: .tuple [rcV (rkM (bB aRc)) A25 c26, .int .i64 (rkE (bB aRc))].toArray :: .slice A18 ((bB aRc).length) c19 :: .tuple [rcV (rkM (bB aRc)) A25 c26, .int .i64 (rkE (bB aRc))].toArray :: rcV (rkM (bB aRc)) A25 c26 :: .int .i64 (rkE (bB aRc)) :: .int .i64 (bE aRc) :: .bool true :: .bool true :: .int .i64 (rkE (bB aRc)) :: .bool true :: .bool true :: .bool true :: .slice A18 ((bB aRc).length) c19 :: .int .i64 ((bB aRc).length : Int) :: .bool true :: U8la (undef :: undef :: []))) _ (x_cmp (k := .i64) (m := ((bB aRc).length : Int)) (n := 50) .eql true rfl rfl rfl (by rw [aRc_len]; rfl) rfl) rfl ?_
    refine p_run _ (x_pick true (.bool true) (.bool false) (.bool true) rfl rfl rfl rfl rfl) rfl ?_
    refine p_run _ (x_move (.bool true) rfl rfl) rfl ?_
    refine p_on rfl (by rw [hops34]; rfl) ?_
    refine p_run _ (x_loads (.int .u32 ((rkM (bB aRc)).e) :: .bool ((rkM (bB aRc)).p) :: .int .u32 ((rkM (bB aRc)).b) :: .int .u32 ((rkM (bB aRc)).q) :: .int .i64 ((rkM (bB aRc)).l) :: .int .u32 ((rkM (bB aRc)).xe) :: .int .u32 ((rkM (bB aRc)).xq) :: .slice A25 ((rkM (bB aRc)).sn.length) c26 :: .int .u64 ((rkM (bB aRc)).s) :: .int .u32 ((rkM (bB aRc)).te) :: .int .u32 ((rkM (bB aRc)).tq) :: .int .u32 ((rkM (bB aRc)).be) :: .int .u32 ((rkM (bB aRc)).bq) :: .int .i64 ((rkM (bB aRc)).nx) :: .int .i64 ((rkM (bB aRc)).tt) :: .int .i64 ((rkM (bB aRc)).rt) :: []) 16 rfl rfl (bkCells (HS.get (.head _)) 0 _ rfl) (by rfl) (by kernel_rfl) rfl) rfl ?_
    refine p_on rfl (by rw [hops34]; rfl) ?_
    refine p_run _ (x_loads (.int .u32 1 :: .bool false :: .int .u32 0 :: .int .u32 0 :: .int .i64 (-1) :: .int .u32 0 :: .int .u32 0 :: .slice none 0 0 :: .int .u64 0 :: .int .u32 0 :: .int .u32 0 :: .int .u32 0 :: .int .u32 0 :: .int .i64 0 :: .int .i64 0 :: .int .i64 (-1) :: []) 16 rfl rfl (bkCells (HS.get (.tail _ (.tail _ (.tail _ (.head _))))) 0 _ rfl) (by rfl) (by kernel_rfl) rfl) rfl ?_
    refine p_on rfl (by rw [hops34]; rfl) ?_
    refine w_call [rcV (rkM (bB aRc)) A25 c26, .agg ((.int .u32 1 :: .bool false :: .int .u32 0 :: .int .u32 0 :: .int .i64 (-1) :: .int .u32 0 :: .int .u32 0 :: .slice none 0 0 :: .int .u64 0 :: .int .u32 0 :: .int .u32 0 :: .int .u32 0 :: .int .u32 0 :: .int .i64 0 :: .int .i64 0 :: .int .i64 (-1) :: []) : List Value).toArray] Try.func15 (by kernel_rfl) (by rfl) rfl ?_
    refine (rsame_any _ (rkM (bB aRc)) A25 c26 (row_C (HS.get (.tail _ (.head _)))).2.2 (Nat.le_trans (rkM_sn _) (by decide)) aRc none 0 (Kd.C_nil kSn _) (Nat.zero_le _)).mono ?_
    rintro e w36 ⟨he_, hb_⟩
    rw [(by rw [aRc_back.1]; exact rcS_self _ : rcS (rkM (bB aRc)) aRc = true)] at he_
    subst he_
    replace HS := HS.here hb_
    clear hb_
    refine ⟨_, rfl, ?_⟩
    refine p_run (l' := (.bool false :: .pointer (some ⟨g10, 0, none⟩) :: .slice A18 ((bB aRc).length) c19 :: .int .i64 (bE aRc) :: .pointer (some ⟨g28, 0, none⟩) :: .int .i64 (rkE (bB aRc)) :: .agg ([.int .u64 0, .int .u32 0, .int .u32 0, .int .u32 0, .int .u32 0, .int .i64 0, .int .i64 0, .int .i64 (-1)] : List Value).toArray :: .agg ((.int .u32 1 :: .bool false :: .int .u32 0 :: .int .u32 0 :: .int .i64 (-1) :: .int .u32 0 :: .int .u32 0 :: .slice none 0 0 :: .int .u64 0 :: .int .u32 0 :: .int .u32 0 :: .int .u32 0 :: .int .u32 0 :: .int .i64 0 :: .int .i64 0 :: .int .i64 (-1) :: []) : List Value).toArray :: .tuple [.slice A18 ((bB aRc).length) c19, .int .i64 (bE aRc)].toArray :: .agg ((.int .u32 1 :: .bool false :: .int .u32 0 :: .int .u32 0 :: .int .i64 (-1) :: .int .u32 0 :: .int .u32 0 :: .slice none 0 0 :: .int .u64 0 :: .int .u32 0 :: .int .u32 0 :: .int .u32 0 :: .int .u32 0 :: .int .i64 0 :: .int .i64 0 :: .int .i64 (-1) :: []) : List Value).toArray :: .tuple [.slice A18 ((bB aRc).length) c19, .int .i64 (bE aRc)].toArray :: .slice A18 ((bB aRc).length) c19 :: .int .i64 (bE aRc) :: .tuple [rcV (rkM (bB aRc)) A25 c26, .int .i64 (rkE (bB aRc))].toArray :: .slice A18 ((bB aRc).length) c19 :: .tuple [rcV (rkM (bB aRc)) A25 c26, .int .i64 (rkE (bB aRc))].toArray :: rcV (rkM (bB aRc)) A25 c26 :: .int .i64 (rkE (bB aRc)) :: .int .i64 (bE aRc) :: .bool true :: .bool true :: .int .i64 (rkE (bB aRc)) :: .bool true :: .bool true :: .bool true :: .slice A18 ((bB aRc).length) c19 :: .int .i64 ((bB aRc).length : Int) :: .bool true :: .bool true :: .bool true :: rcV (rkM (bB aRc)) A25 c26 :: .agg ((.int .u32 1 :: .bool false :: .int .u32 0 :: .int .u32 0 :: .int .i64 (-1) :: .int .u32 0 :: .int .u32 0 :: .slice none 0 0 :: .int .u64 0 :: .int .u32 0 :: .int .u32 0 :: .int .u32 0 :: .int .u32 0 :: .int .i64 0 :: .int .i64 0 :: .int .i64 (-1) :: []) : List Value).toArray :: .bool true :: .bool true :: U4la ([]))) _ (x_pick true (.bool true) (.bool false) (.bool true) rfl rfl rfl rfl rfl) rfl ?_
    refine p_run _ (x_move (.bool true) rfl rfl) rfl ?_
    refine p_on rfl (by rw [hops34]; rfl) ?_
    refine p_run _ (x_loads (.int .u32 1 :: .bool false :: .int .u32 0 :: .int .u32 0 :: .int .i64 (-1) :: .int .u32 0 :: .int .u32 0 :: .slice none 0 0 :: .int .u64 0 :: .int .u32 0 :: .int .u32 0 :: .int .u32 0 :: .int .u32 0 :: .int .i64 0 :: .int .i64 0 :: .int .i64 (-1) :: []) 16 rfl rfl (bkCells (HS.get (.tail _ (.tail _ (.tail _ (.head _))))) 0 _ rfl) (by rfl) (by kernel_rfl) rfl) rfl ?_
    refine p_on rfl (by rw [hops34]; rfl) ?_
    refine w_call [.agg ((.int .u32 1 :: .bool false :: .int .u32 0 :: .int .u32 0 :: .int .i64 (-1) :: .int .u32 0 :: .int .u32 0 :: .slice none 0 0 :: .int .u64 0 :: .int .u32 0 :: .int .u32 0 :: .int .u32 0 :: .int .u32 0 :: .int .i64 0 :: .int .i64 0 :: .int .i64 (-1) :: []) : List Value).toArray] Try.func14 (by kernel_rfl) (by rfl) rfl ?_
    refine (rright_any _ aRc none 0 (Kd.C_nil kSn _) (Nat.zero_le _)).mono ?_
    rintro e w37 ⟨he_, hb_⟩
    rw [aRc_ok] at he_
    subst he_
    replace HS := HS.here hb_
    clear hb_
    refine ⟨_, rfl, ?_⟩
    refine p_run _ (x_pick true (.bool true) (.bool false) (.bool true) rfl rfl rfl rfl rfl) rfl ?_
    refine p_run _ (x_assign (.bool true) rfl rfl) rfl ?_
    clear hops34
    refine wpList_nil ?_
    obtain ⟨qz38, hqz38⟩ : ∃ q_ : V8, q_ = ⟨.tuple [.slice A18 ((bB aRc).length) c19, .int .i64 (bE aRc)].toArray, .agg ((.int .u32 1 :: .bool false :: .int .u32 0 :: .int .u32 0 :: .int .i64 (-1) :: .int .u32 0 :: .int .u32 0 :: .slice none 0 0 :: .int .u64 0 :: .int .u32 0 :: .int .u32 0 :: .int .u32 0 :: .int .u32 0 :: .int .i64 0 :: .int .i64 0 :: .int .i64 (-1) :: []) : List Value).toArray, .tuple [.slice A18 ((bB aRc).length) c19, .int .i64 (bE aRc)].toArray, .slice A18 ((bB aRc).length) c19, .int .i64 (bE aRc), .tuple [rcV (rkM (bB aRc)) A25 c26, .int .i64 (rkE (bB aRc))].toArray, .slice A18 ((bB aRc).length) c19, .tuple [rcV (rkM (bB aRc)) A25 c26, .int .i64 (rkE (bB aRc))].toArray⟩ := ⟨_, rfl⟩
    obtain ⟨qz39, hqz39⟩ : ∃ q_ : V8, q_ = ⟨rcV (rkM (bB aRc)) A25 c26, .int .i64 (rkE (bB aRc)), .int .i64 (bE aRc), .bool true, .bool true, .int .i64 (rkE (bB aRc)), .bool true, .bool true⟩ := ⟨_, rfl⟩
    obtain ⟨qz40, hqz40⟩ : ∃ q_ : V8, q_ = ⟨.bool true, .slice A18 ((bB aRc).length) c19, .int .i64 ((bB aRc).length : Int), .bool true, .bool true, .bool true, rcV (rkM (bB aRc)) A25 c26, .agg ((.int .u32 1 :: .bool false :: .int .u32 0 :: .int .u32 0 :: .int .i64 (-1) :: .int .u32 0 :: .int .u32 0 :: .slice none 0 0 :: .int .u64 0 :: .int .u32 0 :: .int .u32 0 :: .int .u32 0 :: .int .u32 0 :: .int .i64 0 :: .int .i64 0 :: .int .i64 (-1) :: []) : List Value).toArray⟩ := ⟨_, rfl⟩
    refine fr_at (l' := (.bool true :: .pointer (some ⟨g10, 0, none⟩) :: .slice A18 ((bB aRc).length) c19 :: .int .i64 (bE aRc) :: .pointer (some ⟨g28, 0, none⟩) :: .int .i64 (rkE (bB aRc)) :: .agg ([.int .u64 0, .int .u32 0, .int .u32 0, .int .u32 0, .int .u32 0, .int .i64 0, .int .i64 0, .int .i64 (-1)] : List Value).toArray :: .agg ((.int .u32 1 :: .bool false :: .int .u32 0 :: .int .u32 0 :: .int .i64 (-1) :: .int .u32 0 :: .int .u32 0 :: .slice none 0 0 :: .int .u64 0 :: .int .u32 0 :: .int .u32 0 :: .int .u32 0 :: .int .u32 0 :: .int .i64 0 :: .int .i64 0 :: .int .i64 (-1) :: []) : List Value).toArray :: V8.l qz38 (V8.l qz39 (V8.l qz40 (.bool true :: .bool true :: .bool true :: .agg ((.int .u32 1 :: .bool false :: .int .u32 0 :: .int .u32 0 :: .int .i64 (-1) :: .int .u32 0 :: .int .u32 0 :: .slice none 0 0 :: .int .u64 0 :: .int .u32 0 :: .int .u32 0 :: .int .u32 0 :: .int .u32 0 :: .int .i64 0 :: .int .i64 0 :: .int .i64 (-1) :: []) : List Value).toArray :: .bool true :: .bool true :: []))))) (by subst hqz38 hqz39 hqz40; rfl) ?_
    refine hK33 _ _ ?_
    refine wp_ret ?_
    try simp only [Exit.inBlock, Exit.then]
    refine c_ret (.bool true) (r_tmp rfl rfl) ?_
    exact ⟨rfl, HS.belowOf⟩
end Go.Proofs.Ytkiiangookibnaa
