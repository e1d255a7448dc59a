/- FrameBack. -/
import Derived.Test.YtmachdikonelbaaZFrameBackL18a
import Derived.Test.YtmachdikonelbaaZFrameBackWkSS
set_option linter.unusedVariables false
set_option linter.unusedSimpArgs false
namespace Go.Proofs.Ytmachdikonelbaa
open Go.RowKit Go.Proofs.YtmachdikonelbaaW.PrintWords Go.Proofs.YtmachdikonelbaaW.PrintLast Crc
abbrev U4lb (l : List Value) : List Value := undef :: undef :: undef :: undef :: l
abbrev U8lb (l : List Value) : List Value := U4lb (U4lb l)
abbrev U16lb (l : List Value) : List Value := U8lb (U8lb l)
abbrev U32lb (l : List Value) : List Value := U16lb (U16lb l)
abbrev U64lb (l : List Value) : List Value := U32lb (U32lb l)
theorem mo4 (m n : Mg) : mgOk m = false ∨ (mgOk m = true ∧ mgOk n = false) ∨ (mgOk m = true ∧ mgOk n = true ∧ smB m n = true) ∨ (mgOk m = true ∧ mgOk n = true ∧ smB m n = false) := by
  cases mgOk m <;> cases mgOk n <;> cases smB m n <;> simp
theorem seq_eq {a b : List UInt8} {z : Bool} (h : decide (a = b) = z) : ((strB a).toList == (strB b).toList) = z := by
  rw [strB_list, strB_list, ← h]
  by_cases e : a = b
  · rw [e]; simp
  · simp [e]
set_option maxRecDepth 10000 in
set_option maxHeartbeats 4000000 in
theorem fback_law (w : World) (m : Mg) (hw : m.wf) (A : Option Addr) (c : Nat) (hA : kIt.C w A m.its.length m.its) (B : Option Addr) (d : Nat) (hB : kHv.C w B m.hvs.length m.hvs) (n : Mg) (hv : n.wf) (A2 : Option Addr) (c2 : Nat) (hA2 : kIt.C w A2 n.its.length n.its) (B2 : Option Addr) (d2 : Nat) (hB2 : kHv.C w B2 n.hvs.length n.hvs) (C : Option Addr) (cc : Nat) (xs : List UInt8) (hC : Sl w C cc xs) : Calls Try.prog 6 #[mgV m A c B d, mgV n A2 c2 B2 d2, .slice C xs.length cc] w fun e w' => e = .returned (.bool true) ∧ Below w.heap.size w w' := by
  have HS := St.empty w
  rcases hg : grB m with _ | _
  · skip
    obtain ⟨hg1, hg1'⟩ := great_no hg
    rcases hg2 : grB n with _ | _
    · skip
      obtain ⟨hg3, hg3'⟩ := great_no hg2
      by_cases hl : 600 < xs.length
      · skip
        refine c_enter Try.func6 rfl 93 rfl (mgV m A c B d :: mgV n A2 c2 B2 d2 :: .slice C xs.length cc :: U64lb (U16lb (U8lb (undef :: undef :: [])))) rfl ?_
        refine wp_seq_k (fun K1 hK2 => ?_)
        refine c_region (fun ops4 hops3 => ?_)
        clear hops3
        refine St.wBox HS (cs := [.int .i64 m.k, .int .u32 m.e, .int .u64 m.s, .int .u32 m.te, .int .u32 m.ts, .int .u32 m.be, .int .u32 m.bs, .int .i64 m.ix, .int .i64 m.tt, .int .u32 m.tk, .slice A m.its.length c, .slice B m.hvs.length d]) (mgV m A c B d) rfl rfl ?_
        clear HS
        intro g5 w6 hg7 HS
        refine St.wBox HS (cs := [.int .i64 n.k, .int .u32 n.e, .int .u64 n.s, .int .u32 n.te, .int .u32 n.ts, .int .u32 n.be, .int .u32 n.bs, .int .i64 n.ix, .int .i64 n.tt, .int .u32 n.tk, .slice A2 n.its.length c2, .slice B2 n.hvs.length d2]) (mgV n A2 c2 B2 d2) rfl rfl ?_
        clear HS
        intro g8 w9 hg10 HS
        refine p_run _ (x_assign (.bool false) rfl rfl) rfl ?_
        refine wpList_nil ?_
        refine hK2 _ _ ?_
        refine wp_seq_k (fun K11 hK12 => ?_)
        refine wp_seq_k (fun K13 hK14 => ?_)
        refine c_region (fun ops16 hops15 => ?_)
        clear hops15
        refine w_call [] Try.func11 (by kernel_rfl) (by rfl) rfl ?_
        refine (falive_any _).mono ?_
        rintro e w17 ⟨rfl, hb_⟩
        replace HS := HS.here hb_
        clear hb_
        refine ⟨_, rfl, ?_⟩
        refine p_run _ (x_not true rfl rfl) rfl ?_
        refine wpList_nil ?_
        refine fr_at (l' := (mgV m A c B d :: mgV n A2 c2 B2 d2 :: .slice C xs.length cc :: .pointer (some ⟨g5, 0, none⟩) :: .pointer (some ⟨g8, 0, none⟩) :: undef :: .bool false :: U8lb (undef :: undef :: .bool true :: .bool false :: U64lb (U8lb (undef :: undef :: []))))) rfl ?_
        refine hK14 _ _ ?_
        refine c_false rfl ?_
        refine wp_skip ?_
        refine hK12 _ _ ?_
        refine wp_seq_k (fun K18 hK19 => ?_)
        refine wp_seq_k (fun K20 hK21 => ?_)
        refine c_region (fun ops23 hops22 => ?_)
        refine p_run _ (x_loads [.int .i64 m.k, .int .u32 m.e, .int .u64 m.s, .int .u32 m.te, .int .u32 m.ts, .int .u32 m.be, .int .u32 m.bs, .int .i64 m.ix, .int .i64 m.tt, .int .u32 m.tk, .slice A m.its.length c, .slice B m.hvs.length d] 12 rfl rfl (bkCells (HS.get (.tail _ (.head _))) 0 _ rfl) (by rfl) (by kernel_rfl) rfl) rfl ?_
        refine w_call [mgV m A c B d] Try.func12 (by kernel_rfl) (by rfl) rfl ?_
        refine (fgreat_any _ m A c B d).mono ?_
        rintro e w24 ⟨he_, hb_⟩
        rw [hg] at he_
        subst he_
        replace HS := HS.here hb_
        clear hb_
        refine ⟨_, rfl, ?_⟩
        refine p_run _ (x_move (.bool false) rfl rfl) rfl ?_
        refine p_on rfl (by rw [hops22]; rfl) ?_
        refine p_run _ (x_loads [.int .i64 n.k, .int .u32 n.e, .int .u64 n.s, .int .u32 n.te, .int .u32 n.ts, .int .u32 n.be, .int .u32 n.bs, .int .i64 n.ix, .int .i64 n.tt, .int .u32 n.tk, .slice A2 n.its.length c2, .slice B2 n.hvs.length d2] 12 rfl rfl (bkCells (HS.get (.head _)) 0 _ rfl) (by rfl) (by kernel_rfl) rfl) rfl ?_
        refine p_on rfl (by rw [hops22]; rfl) ?_
        refine w_call [mgV n A2 c2 B2 d2] Try.func12 (by kernel_rfl) (by rfl) rfl ?_
        refine (fgreat_any _ n A2 c2 B2 d2).mono ?_
        rintro e w25 ⟨he_, hb_⟩
        rw [hg2] at he_
        subst he_
        replace HS := HS.here hb_
        clear hb_
        refine ⟨_, rfl, ?_⟩
        refine p_run _ (x_pick false (.bool true) (.bool false) (.bool false) rfl rfl rfl rfl rfl) rfl ?_
        refine p_run (l' := (mgV m A c B d :: mgV n A2 c2 B2 d2 :: .slice C xs.length cc :: .pointer (some ⟨g5, 0, none⟩) :: .pointer (some ⟨g8, 0, none⟩) :: undef :: .bool false :: U8lb (undef :: undef :: .bool true :: .bool false :: mgV m A c B d :: .bool false :: .bool false :: mgV n A2 c2 B2 d2 :: .bool false :: .bool false :: .bool false :: U64lb (undef :: undef :: undef :: [])))) _ (x_move (.bool false) rfl rfl) rfl ?_
        refine p_on rfl (by rw [hops22]; rfl) ?_
        refine p_run _ (x_move (.slice C xs.length cc) rfl rfl) rfl ?_
        refine p_on rfl (by rw [hops22]; rfl) ?_
        refine p_run _ (x_len rfl rfl Try.underlying22) rfl ?_
        refine p_on rfl (by rw [hops22]; rfl) ?_
        refine p_run _ (x_cmp (k := .i64) (m := (xs.length : Int)) (n := 600) .gtr true rfl rfl rfl (show decide _ = true from decide_eq_true (by omega)) rfl) rfl ?_
        refine p_run _ (x_pick false (.bool true) (.bool true) (.bool true) rfl rfl rfl rfl rfl) rfl ?_
        clear hops22
        refine wpList_nil ?_
        refine hK21 _ _ ?_
        refine c_true rfl ?_
        refine wp_seq_k (fun K26 hK27 => ?_)
        refine c_region (fun ops29 hops28 => ?_)
        clear hops28
        refine p_run _ (x_assign (.bool true) rfl rfl) rfl ?_
        refine wpList_nil ?_
        refine fr_at (l' := (mgV m A c B d :: mgV n A2 c2 B2 d2 :: .slice C xs.length cc :: .pointer (some ⟨g5, 0, none⟩) :: .pointer (some ⟨g8, 0, none⟩) :: undef :: .bool true :: U8lb (undef :: undef :: .bool true :: .bool false :: mgV m A c B d :: .bool false :: .bool false :: mgV n A2 c2 B2 d2 :: .bool false :: .bool false :: .bool false :: .slice C xs.length cc :: .int .i64 (xs.length : Int) :: .bool true :: .bool true :: U32lb (U16lb (U8lb (U4lb (undef :: undef :: undef :: []))))))) rfl ?_
        refine hK27 _ _ ?_
        refine wp_ret ?_
        try simp only [Exit.inBlock, Exit.then]
        refine c_ret (.bool true) (r_tmp rfl rfl) ?_
        exact ⟨rfl, HS.belowOf⟩
      · skip
        refine c_enter Try.func6 rfl 93 rfl (mgV m A c B d :: mgV n A2 c2 B2 d2 :: .slice C xs.length cc :: U64lb (U16lb (U8lb (undef :: undef :: [])))) rfl ?_
        refine wp_seq_k (fun K1 hK2 => ?_)
        refine c_region (fun ops4 hops3 => ?_)
        clear hops3
        refine St.wBox HS (cs := [.int .i64 m.k, .int .u32 m.e, .int .u64 m.s, .int .u32 m.te, .int .u32 m.ts, .int .u32 m.be, .int .u32 m.bs, .int .i64 m.ix, .int .i64 m.tt, .int .u32 m.tk, .slice A m.its.length c, .slice B m.hvs.length d]) (mgV m A c B d) rfl rfl ?_
        clear HS
        intro g5 w6 hg7 HS
        refine St.wBox HS (cs := [.int .i64 n.k, .int .u32 n.e, .int .u64 n.s, .int .u32 n.te, .int .u32 n.ts, .int .u32 n.be, .int .u32 n.bs, .int .i64 n.ix, .int .i64 n.tt, .int .u32 n.tk, .slice A2 n.its.length c2, .slice B2 n.hvs.length d2]) (mgV n A2 c2 B2 d2) rfl rfl ?_
        clear HS
        intro g8 w9 hg10 HS
        refine p_run _ (x_assign (.bool false) rfl rfl) rfl ?_
        refine wpList_nil ?_
        refine hK2 _ _ ?_
        refine wp_seq_k (fun K11 hK12 => ?_)
        refine wp_seq_k (fun K13 hK14 => ?_)
        refine c_region (fun ops16 hops15 => ?_)
        clear hops15
        refine w_call [] Try.func11 (by kernel_rfl) (by rfl) rfl ?_
        refine (falive_any _).mono ?_
        rintro e w17 ⟨rfl, hb_⟩
        replace HS := HS.here hb_
        clear hb_
        refine ⟨_, rfl, ?_⟩
        refine p_run _ (x_not true rfl rfl) rfl ?_
        refine wpList_nil ?_
        refine fr_at (l' := (mgV m A c B d :: mgV n A2 c2 B2 d2 :: .slice C xs.length cc :: .pointer (some ⟨g5, 0, none⟩) :: .pointer (some ⟨g8, 0, none⟩) :: undef :: .bool false :: U8lb (undef :: undef :: .bool true :: .bool false :: U64lb (U8lb (undef :: undef :: []))))) rfl ?_
        refine hK14 _ _ ?_
        refine c_false rfl ?_
        refine wp_skip ?_
        refine hK12 _ _ ?_
        refine wp_seq_k (fun K18 hK19 => ?_)
        refine wp_seq_k (fun K20 hK21 => ?_)
        refine c_region (fun ops23 hops22 => ?_)
        refine p_run _ (x_loads [.int .i64 m.k, .int .u32 m.e, .int .u64 m.s, .int .u32 m.te, .int .u32 m.ts, .int .u32 m.be, .int .u32 m.bs, .int .i64 m.ix, .int .i64 m.tt, .int .u32 m.tk, .slice A m.its.length c, .slice B m.hvs.length d] 12 rfl rfl (bkCells (HS.get (.tail _ (.head _))) 0 _ rfl) (by rfl) (by kernel_rfl) rfl) rfl ?_
        refine w_call [mgV m A c B d] Try.func12 (by kernel_rfl) (by rfl) rfl ?_
        refine (fgreat_any _ m A c B d).mono ?_
        rintro e w24 ⟨he_, hb_⟩
        rw [hg] at he_
        subst he_
        replace HS := HS.here hb_
        clear hb_
        refine ⟨_, rfl, ?_⟩
        refine p_run _ (x_move (.bool false) rfl rfl) rfl ?_
        refine p_on rfl (by rw [hops22]; rfl) ?_
        refine p_run _ (x_loads [.int .i64 n.k, .int .u32 n.e, .int .u64 n.s, .int .u32 n.te, .int .u32 n.ts, .int .u32 n.be, .int .u32 n.bs, .int .i64 n.ix, .int .i64 n.tt, .int .u32 n.tk, .slice A2 n.its.length c2, .slice B2 n.hvs.length d2] 12 rfl rfl (bkCells (HS.get (.head _)) 0 _ rfl) (by rfl) (by kernel_rfl) rfl) rfl ?_
        refine p_on rfl (by rw [hops22]; rfl) ?_
        refine w_call [mgV n A2 c2 B2 d2] Try.func12 (by kernel_rfl) (by rfl) rfl ?_
        refine (fgreat_any _ n A2 c2 B2 d2).mono ?_
        rintro e w25 ⟨he_, hb_⟩
        rw [hg2] at he_
        subst he_
        replace HS := HS.here hb_
        clear hb_
        refine ⟨_, rfl, ?_⟩
        refine p_run _ (x_pick false (.bool true) (.bool false) (.bool false) rfl rfl rfl rfl rfl) rfl ?_
        refine p_run (l' := (mgV m A c B d :: mgV n A2 c2 B2 d2 :: .slice C xs.length cc :: .pointer (some ⟨g5, 0, none⟩) :: .pointer (some ⟨g8, 0, none⟩) :: undef :: .bool false :: U8lb (undef :: undef :: .bool true :: .bool false :: mgV m A c B d :: .bool false :: .bool false :: mgV n A2 c2 B2 d2 :: .bool false :: .bool false :: .bool false :: U64lb (undef :: undef :: undef :: [])))) _ (x_move (.bool false) rfl rfl) rfl ?_
        refine p_on rfl (by rw [hops22]; rfl) ?_
        refine p_run _ (x_move (.slice C xs.length cc) rfl rfl) rfl ?_
        refine p_on rfl (by rw [hops22]; rfl) ?_
        refine p_run _ (x_len rfl rfl Try.underlying22) rfl ?_
        refine p_on rfl (by rw [hops22]; rfl) ?_
        refine p_run _ (x_cmp (k := .i64) (m := (xs.length : Int)) (n := 600) .gtr false rfl rfl rfl (show decide _ = false from decide_eq_false (by omega)) rfl) rfl ?_
        refine p_run _ (x_pick false (.bool true) (.bool false) (.bool false) rfl rfl rfl rfl rfl) rfl ?_
        clear hops22
        refine wpList_nil ?_
        refine hK21 _ _ ?_
        refine c_false rfl ?_
        refine wp_skip ?_
        refine hK19 _ _ ?_
        refine wp_seq_k (fun K26 hK27 => ?_)
        refine c_region (fun ops29 hops28 => ?_)
        clear hops28
        refine p_run _ (x_loads [.int .i64 m.k, .int .u32 m.e, .int .u64 m.s, .int .u32 m.te, .int .u32 m.ts, .int .u32 m.be, .int .u32 m.bs, .int .i64 m.ix, .int .i64 m.tt, .int .u32 m.tk, .slice A m.its.length c, .slice B m.hvs.length d] 12 rfl rfl (bkCells (HS.get (.tail _ (.head _))) 0 _ rfl) (by rfl) (by kernel_rfl) rfl) rfl ?_
        refine w_call [mgV m A c B d] Try.func9 (by kernel_rfl) (by rfl) rfl ?_
        refine (fbytes_any _ m A c (Kd.C_below hA HS.belowOf) B d (Kd.C_below hB HS.belowOf) (by omega) (by omega) hw).mono ?_
        rintro e w32 ⟨A30, c31, rfl, hk_⟩
        replace HS := HS.more hk_
        clear hk_
        refine ⟨_, rfl, ?_⟩
        refine p_run (l' := (mgV m A c B d :: mgV n A2 c2 B2 d2 :: .slice C xs.length cc :: .pointer (some ⟨g5, 0, none⟩) :: .pointer (some ⟨g8, 0, none⟩) :: undef :: .bool false :: U8lb (undef :: undef :: .bool true :: .bool false :: mgV m A c B d :: .bool false :: .bool false :: mgV n A2 c2 B2 d2 :: .bool false :: .bool false :: .bool false :: .slice C xs.length cc :: .int .i64 (xs.length : Int) :: .bool false :: .bool false :: .tuple [.slice A30 ((fbB m).length) c31, .int .i64 (fbE m)].toArray :: mgV m A c B d :: .tuple [.slice A30 ((fbB m).length) c31, .int .i64 (fbE m)].toArray :: U32lb (U16lb (U8lb (U4lb ([]))))))) _ (x_move (.tuple [.slice A30 ((fbB m).length) c31, .int .i64 (fbE m)].toArray) rfl rfl) rfl ?_
        refine p_run _ (x_extract (vs := [.slice A30 ((fbB m).length) c31, .int .i64 (fbE m)]) 0 (.slice A30 ((fbB m).length) c31) rfl rfl rfl) rfl ?_
        refine p_run _ (x_extract (vs := [.slice A30 ((fbB m).length) c31, .int .i64 (fbE m)]) 1 (.int .i64 (fbE m)) rfl rfl rfl) rfl ?_
        refine p_run _ (x_assign (.slice A30 ((fbB m).length) c31) rfl rfl) rfl ?_
        refine p_run _ (x_assign (.int .i64 (fbE m)) rfl rfl) rfl ?_
        refine wpList_nil ?_
        refine hK27 _ _ ?_
        refine wp_seq_k (fun K33 hK34 => ?_)
        refine c_region (fun ops36 hops35 => ?_)
        clear hops35
        refine p_run _ (x_loads [.int .i64 n.k, .int .u32 n.e, .int .u64 n.s, .int .u32 n.te, .int .u32 n.ts, .int .u32 n.be, .int .u32 n.bs, .int .i64 n.ix, .int .i64 n.tt, .int .u32 n.tk, .slice A2 n.its.length c2, .slice B2 n.hvs.length d2] 12 rfl rfl (bkCells (HS.get (.tail _ (.head _))) 0 _ rfl) (by rfl) (by kernel_rfl) rfl) rfl ?_
        refine w_call [mgV n A2 c2 B2 d2] Try.func9 (by kernel_rfl) (by rfl) rfl ?_
        refine (fbytes_any _ n A2 c2 (Kd.C_below hA2 HS.belowOf) B2 d2 (Kd.C_below hB2 HS.belowOf) (by omega) (by omega) hv).mono ?_
        rintro e w39 ⟨A37, c38, rfl, hk_⟩
        replace HS := HS.more hk_
        clear hk_
        refine ⟨_, rfl, ?_⟩
        refine p_run (l' := (mgV m A c B d :: mgV n A2 c2 B2 d2 :: .slice C xs.length cc :: .pointer (some ⟨g5, 0, none⟩) :: .pointer (some ⟨g8, 0, none⟩) :: undef :: .bool false :: .slice A30 ((fbB m).length) c31 :: .int .i64 (fbE m) :: U8lb (.bool true :: .bool false :: mgV m A c B d :: .bool false :: .bool false :: mgV n A2 c2 B2 d2 :: .bool false :: .bool false :: .bool false :: .slice C xs.length cc :: .int .i64 (xs.length : Int) :: .bool false :: .bool false :: .tuple [.slice A30 ((fbB m).length) c31, .int .i64 (fbE m)].toArray :: mgV m A c B d :: .tuple [.slice A30 ((fbB m).length) c31, .int .i64 (fbE m)].toArray :: .slice A30 ((fbB m).length) c31 :: .int .i64 (fbE m) :: .tuple [.slice A37 ((fbB n).length) c38, .int .i64 (fbE n)].toArray :: mgV n A2 c2 B2 d2 :: .tuple [.slice A37 ((fbB n).length) c38, .int .i64 (fbE n)].toArray :: U32lb (U16lb (U4lb (undef :: undef :: undef :: [])))))) _ (x_move (.tuple [.slice A37 ((fbB n).length) c38, .int .i64 (fbE n)].toArray) rfl rfl) rfl ?_
        refine p_run _ (x_extract (vs := [.slice A37 ((fbB n).length) c38, .int .i64 (fbE n)]) 0 (.slice A37 ((fbB n).length) c38) rfl rfl rfl) rfl ?_
        refine p_run _ (x_extract (vs := [.slice A37 ((fbB n).length) c38, .int .i64 (fbE n)]) 1 (.int .i64 (fbE n)) rfl rfl rfl) rfl ?_
        refine p_run _ (x_assign (.slice A37 ((fbB n).length) c38) rfl rfl) rfl ?_
        refine p_run _ (x_assign (.int .i64 (fbE n)) rfl rfl) rfl ?_
        refine wpList_nil ?_
        refine hK34 _ _ ?_
        refine wp_seq_k (fun K40 hK41 => ?_)
        have hT42 : ∀ (q43 : V8) (q44 : V8) (q45 : V8) (q46 : V8) (q47 : V8) (w48 : World), St w (fun _ => False) w48 ([]) → (True) → K40 (fr (mgV m A c B d :: mgV n A2 c2 B2 d2 :: .slice C xs.length cc :: .pointer (some ⟨g5, 0, none⟩) :: .pointer (some ⟨g8, 0, none⟩) :: undef :: q43.a :: .slice A30 ((fbB m).length) c31 :: .int .i64 (fbE m) :: .slice A37 ((fbB n).length) c38 :: .int .i64 (fbE n) :: q43.b :: q43.c :: U4lb (.bool true :: .bool false :: mgV m A c B d :: .bool false :: .bool false :: mgV n A2 c2 B2 d2 :: .bool false :: .bool false :: .bool false :: .slice C xs.length cc :: .int .i64 (xs.length : Int) :: .bool false :: .bool false :: .tuple [.slice A30 ((fbB m).length) c31, .int .i64 (fbE m)].toArray :: mgV m A c B d :: .tuple [.slice A30 ((fbB m).length) c31, .int .i64 (fbE m)].toArray :: .slice A30 ((fbB m).length) c31 :: .int .i64 (fbE m) :: .tuple [.slice A37 ((fbB n).length) c38, .int .i64 (fbE n)].toArray :: mgV n A2 c2 B2 d2 :: .tuple [.slice A37 ((fbB n).length) c38, .int .i64 (fbE n)].toArray :: .slice A37 ((fbB n).length) c38 :: .int .i64 (fbE n) :: q43.d :: q43.e :: q43.f :: q43.g :: q43.h :: V8.l q44 (V8.l q45 (V8.l q46 (q47.a :: U16lb (U4lb (undef :: undef :: undef :: [])))))))) w48 := by
          clear HS
          intro q43 q44 q45 q46 q47 w48 HS hJ
          refine hK41 _ _ ?_
          refine wp_seq_k (fun K49 hK50 => ?_)
          refine c_region (fun ops52 hops51 => ?_)
          clear hops51
          refine p_run _ (x_move (.slice C xs.length cc) rfl rfl) rfl ?_
          refine w_call [.slice C xs.length cc] Try.func10 (by kernel_rfl) (by rfl) rfl ?_
          refine (fread_any _ C cc xs (hC.below HS.belowOf) (by omega)).mono ?_
          rintro e w57 ⟨A53, c54, B55, d56, rfl, hk_⟩
          replace HS := HS.more hk_
          clear hk_
          refine ⟨_, rfl, ?_⟩
          refine p_run (l' := (mgV m A c B d :: mgV n A2 c2 B2 d2 :: .slice C xs.length cc :: .pointer (some ⟨g5, 0, none⟩) :: .pointer (some ⟨g8, 0, none⟩) :: undef :: q43.a :: .slice A30 ((fbB m).length) c31 :: .int .i64 (fbE m) :: .slice A37 ((fbB n).length) c38 :: .int .i64 (fbE n) :: q43.b :: q43.c :: U4lb (.bool true :: .bool false :: mgV m A c B d :: .bool false :: .bool false :: mgV n A2 c2 B2 d2 :: .bool false :: .bool false :: .bool false :: .slice C xs.length cc :: .int .i64 (xs.length : Int) :: .bool false :: .bool false :: .tuple [.slice A30 ((fbB m).length) c31, .int .i64 (fbE m)].toArray :: mgV m A c B d :: .tuple [.slice A30 ((fbB m).length) c31, .int .i64 (fbE m)].toArray :: .slice A30 ((fbB m).length) c31 :: .int .i64 (fbE m) :: .tuple [.slice A37 ((fbB n).length) c38, .int .i64 (fbE n)].toArray :: mgV n A2 c2 B2 d2 :: .tuple [.slice A37 ((fbB n).length) c38, .int .i64 (fbE n)].toArray :: .slice A37 ((fbB n).length) c38 :: .int .i64 (fbE n) :: q43.d :: q43.e :: q43.f :: q43.g :: q43.h :: V8.l q44 (V8.l q45 (V8.l q46 (q47.a :: .tuple [mgV (frM xs) A53 c54 B55 d56, .int .i64 (frE xs)].toArray :: .slice C xs.length cc :: .tuple [mgV (frM xs) A53 c54 B55 d56, .int .i64 (frE xs)].toArray :: U16lb (U4lb ([])))))))) _ (x_move (.tuple [mgV (frM xs) A53 c54 B55 d56, .int .i64 (frE xs)].toArray) rfl rfl) rfl ?_
          refine p_run _ (x_extract (vs := [mgV (frM xs) A53 c54 B55 d56, .int .i64 (frE xs)]) 0 (mgV (frM xs) A53 c54 B55 d56) rfl rfl rfl) rfl ?_
          refine p_run _ (x_extract (vs := [mgV (frM xs) A53 c54 B55 d56, .int .i64 (frE xs)]) 1 (.int .i64 (frE xs)) rfl rfl rfl) rfl ?_
          refine St.wAlloc HS (cs := [.int .i64 0, .int .u32 0, .int .u64 0, .int .u32 0, .int .u32 0, .int .u32 0, .int .u32 0, .int .i64 0, .int .i64 0, .int .u32 0, .slice none 0 0, .slice none 0 0]) (.agg [.int .i64 0, .int .u32 0, .int .u64 0, .int .u32 0, .int .u32 0, .int .u32 0, .int .u32 0, .int .i64 0, .int .i64 0, .int .u32 0, .slice none 0 0, .slice none 0 0].toArray) (by kernel_rfl) rfl ?_
          clear HS
          intro g58 w59 hg60 HS
          refine St.stores (cs' := [.int .i64 ((frM xs).k), .int .u32 ((frM xs).e), .int .u64 ((frM xs).s), .int .u32 ((frM xs).te), .int .u32 ((frM xs).ts), .int .u32 ((frM xs).be), .int .u32 ((frM xs).bs), .int .i64 ((frM xs).ix), .int .i64 ((frM xs).tt), .int .u32 ((frM xs).tk), .slice A53 ((frM xs).its.length) c54, .slice B55 ((frM xs).hvs.length) d56]) HS [.int .i64 ((frM xs).k), .int .u32 ((frM xs).e), .int .u64 ((frM xs).s), .int .u32 ((frM xs).te), .int .u32 ((frM xs).ts), .int .u32 ((frM xs).be), .int .u32 ((frM xs).bs), .int .i64 ((frM xs).ix), .int .i64 ((frM xs).tt), .int .u32 ((frM xs).tk), .slice A53 ((frM xs).its.length) c54, .slice B55 ((frM xs).hvs.length) d56] 12 rfl rfl (by rfl) (by kernel_rfl) rfl (by simp) rfl ?_
          clear HS
          intro w61 HS
          refine p_run _ (x_assign (.int .i64 (frE xs)) rfl rfl) rfl ?_
          refine wpList_nil ?_
          refine hK50 _ _ ?_
          refine wp_seq_k (fun K62 hK63 => ?_)
          refine c_region (fun ops65 hops64 => ?_)
          clear hops64
          refine p_run _ (x_loads [.int .i64 ((frM xs).k), .int .u32 ((frM xs).e), .int .u64 ((frM xs).s), .int .u32 ((frM xs).te), .int .u32 ((frM xs).ts), .int .u32 ((frM xs).be), .int .u32 ((frM xs).bs), .int .i64 ((frM xs).ix), .int .i64 ((frM xs).tt), .int .u32 ((frM xs).tk), .slice A53 ((frM xs).its.length) c54, .slice B55 ((frM xs).hvs.length) d56] 12 rfl rfl (bkCells (HS.get (.head _)) 0 _ rfl) (by rfl) (by kernel_rfl) rfl) rfl ?_
          refine w_call [mgV (frM xs) A53 c54 B55 d56] Try.func9 (by kernel_rfl) (by rfl) rfl ?_
          refine (fbytes_any _ (frM xs) A53 c54 (row_C (HS.get (.tail _ (.head _)))).2.2 B55 d56 (row_C (HS.get (.tail _ (.tail _ (.head _))))).2.2 (Nat.le_trans (frM_its _) (by decide)) (Nat.le_trans (frM_hvs _) (by decide)) (frM_wf _)).mono ?_
          rintro e w68 ⟨A66, c67, rfl, hk_⟩
          replace HS := HS.more hk_
          clear hk_
          refine ⟨_, rfl, ?_⟩
          refine p_run (l' := (mgV m A c B d :: mgV n A2 c2 B2 d2 :: .slice C xs.length cc :: .pointer (some ⟨g5, 0, none⟩) :: .pointer (some ⟨g8, 0, none⟩) :: undef :: q43.a :: .slice A30 ((fbB m).length) c31 :: .int .i64 (fbE m) :: .slice A37 ((fbB n).length) c38 :: .int .i64 (fbE n) :: q43.b :: q43.c :: .pointer (some ⟨g58, 0, none⟩) :: .int .i64 (frE xs) :: undef :: undef :: .bool true :: .bool false :: mgV m A c B d :: .bool false :: .bool false :: mgV n A2 c2 B2 d2 :: .bool false :: .bool false :: .bool false :: .slice C xs.length cc :: .int .i64 (xs.length : Int) :: .bool false :: .bool false :: .tuple [.slice A30 ((fbB m).length) c31, .int .i64 (fbE m)].toArray :: mgV m A c B d :: .tuple [.slice A30 ((fbB m).length) c31, .int .i64 (fbE m)].toArray :: .slice A30 ((fbB m).length) c31 :: .int .i64 (fbE m) :: .tuple [.slice A37 ((fbB n).length) c38, .int .i64 (fbE n)].toArray :: mgV n A2 c2 B2 d2 :: .tuple [.slice A37 ((fbB n).length) c38, .int .i64 (fbE n)].toArray :: .slice A37 ((fbB n).length) c38 :: .int .i64 (fbE n) :: q43.d :: q43.e :: q43.f :: q43.g :: q43.h :: V8.l q44 (V8.l q45 (V8.l q46 (q47.a :: .tuple [mgV (frM xs) A53 c54 B55 d56, .int .i64 (frE xs)].toArray :: .slice C xs.length cc :: .tuple [mgV (frM xs) A53 c54 B55 d56, .int .i64 (frE xs)].toArray :: mgV (frM xs) A53 c54 B55 d56 :: .int .i64 (frE xs) :: .tuple [.slice A66 ((fbB (frM xs)).length) c67, .int .i64 (fbE (frM xs))].toArray :: mgV (frM xs) A53 c54 B55 d56 :: .tuple [.slice A66 ((fbB (frM xs)).length) c67, .int .i64 (fbE (frM xs))].toArray :: U8lb (U4lb (undef :: undef :: undef :: []))))))) _ (x_move (.tuple [.slice A66 ((fbB (frM xs)).length) c67, .int .i64 (fbE (frM xs))].toArray) rfl rfl) rfl ?_
          refine p_run _ (x_extract (vs := [.slice A66 ((fbB (frM xs)).length) c67, .int .i64 (fbE (frM xs))]) 0 (.slice A66 ((fbB (frM xs)).length) c67) rfl rfl rfl) rfl ?_
          refine p_run _ (x_extract (vs := [.slice A66 ((fbB (frM xs)).length) c67, .int .i64 (fbE (frM xs))]) 1 (.int .i64 (fbE (frM xs))) rfl rfl rfl) rfl ?_
          refine p_run _ (x_assign (.slice A66 ((fbB (frM xs)).length) c67) rfl rfl) rfl ?_
          refine p_run _ (x_assign (.int .i64 (fbE (frM xs))) rfl rfl) rfl ?_
          refine wpList_nil ?_
          refine hK63 _ _ ?_
          refine wp_seq_k (fun K69 hK70 => ?_)
          rcases hc : fOk xs with _ | _
          · skip
            refine c_region (fun ops72 hops71 => ?_)
            refine p_run _ (x_move (.int .i64 (frE xs)) rfl rfl) rfl ?_
            refine p_run _ (x_cmp (k := .i64) (m := (frE xs)) (n := 0) .neq true rfl rfl rfl (by rw [(fr_no hc).2]; rfl) rfl) rfl ?_
            refine p_run (l' := (mgV m A c B d :: mgV n A2 c2 B2 d2 :: .slice C xs.length cc :: .pointer (some ⟨g5, 0, none⟩) :: .pointer (some ⟨g8, 0, none⟩) :: undef :: q43.a :: .slice A30 ((fbB m).length) c31 :: .int .i64 (fbE m) :: .slice A37 ((fbB n).length) c38 :: .int .i64 (fbE n) :: q43.b :: q43.c :: .pointer (some ⟨g58, 0, none⟩) :: .int .i64 (frE xs) :: .slice A66 ((fbB (frM xs)).length) c67 :: .int .i64 (fbE (frM xs)) :: .bool true :: .bool false :: mgV m A c B d :: .bool false :: .bool false :: mgV n A2 c2 B2 d2 :: .bool false :: .bool false :: .bool false :: .slice C xs.length cc :: .int .i64 (xs.length : Int) :: .bool false :: .bool false :: .tuple [.slice A30 ((fbB m).length) c31, .int .i64 (fbE m)].toArray :: mgV m A c B d :: .tuple [.slice A30 ((fbB m).length) c31, .int .i64 (fbE m)].toArray :: .slice A30 ((fbB m).length) c31 :: .int .i64 (fbE m) :: .tuple [.slice A37 ((fbB n).length) c38, .int .i64 (fbE n)].toArray :: mgV n A2 c2 B2 d2 :: .tuple [.slice A37 ((fbB n).length) c38, .int .i64 (fbE n)].toArray :: .slice A37 ((fbB n).length) c38 :: .int .i64 (fbE n) :: q43.d :: q43.e :: q43.f :: q43.g :: q43.h :: V8.l q44 (V8.l q45 (V8.l q46 (q47.a :: .tuple [mgV (frM xs) A53 c54 B55 d56, .int .i64 (frE xs)].toArray :: .slice C xs.length cc :: .tuple [mgV (frM xs) A53 c54 B55 d56, .int .i64 (frE xs)].toArray :: mgV (frM xs) A53 c54 B55 d56 :: .int .i64 (frE xs) :: .tuple [.slice A66 ((fbB (frM xs)).length) c67, .int .i64 (fbE (frM xs))].toArray :: mgV (frM xs) A53 c54 B55 d56 :: .tuple [.slice A66 ((fbB (frM xs)).length) c67, .int .i64 (fbE (frM xs))].toArray :: .slice A66 ((fbB (frM xs)).length) c67 :: .int .i64 (fbE (frM xs)) :: .int .i64 (frE xs) :: .bool true :: .bool true :: U8lb (undef :: undef :: [])))))) _ (x_move (.bool true) rfl rfl) rfl ?_
            refine p_off (by rw [hops71]; rfl) rfl ?_
            refine p_off (by rw [hops71]; rfl) rfl ?_
            refine p_off (by rw [hops71]; rfl) rfl ?_
            refine p_off (by rw [hops71]; rfl) rfl ?_
            refine p_off (by rw [hops71]; rfl) rfl ?_
            refine p_off (by rw [hops71]; rfl) rfl ?_
            refine p_off (l' := (mgV m A c B d :: mgV n A2 c2 B2 d2 :: .slice C xs.length cc :: .pointer (some ⟨g5, 0, none⟩) :: .pointer (some ⟨g8, 0, none⟩) :: undef :: q43.a :: .slice A30 ((fbB m).length) c31 :: .int .i64 (fbE m) :: .slice A37 ((fbB n).length) c38 :: .int .i64 (fbE n) :: q43.b :: q43.c :: .pointer (some ⟨g58, 0, none⟩) :: .int .i64 (frE xs) :: .slice A66 ((fbB (frM xs)).length) c67 :: .int .i64 (fbE (frM xs)) :: .bool true :: .bool false :: mgV m A c B d :: .bool false :: .bool false :: mgV n A2 c2 B2 d2 :: .bool false :: .bool false :: .bool false :: .slice C xs.length cc :: .int .i64 (xs.length : Int) :: .bool false :: .bool false :: .tuple [.slice A30 ((fbB m).length) c31, .int .i64 (fbE m)].toArray :: mgV m A c B d :: .tuple [.slice A30 ((fbB m).length) c31, .int .i64 (fbE m)].toArray :: .slice A30 ((fbB m).length) c31 :: .int .i64 (fbE m) :: .tuple [.slice A37 ((fbB n).length) c38, .int .i64 (fbE n)].toArray :: mgV n A2 c2 B2 d2 :: .tuple [.slice A37 ((fbB n).length) c38, .int .i64 (fbE n)].toArray :: .slice A37 ((fbB n).length) c38 :: .int .i64 (fbE n) :: q43.d :: q43.e :: q43.f :: q43.g :: q43.h :: V8.l q44 (V8.l q45 (V8.l q46 (q47.a :: .tuple [mgV (frM xs) A53 c54 B55 d56, .int .i64 (frE xs)].toArray :: .slice C xs.length cc :: .tuple [mgV (frM xs) A53 c54 B55 d56, .int .i64 (frE xs)].toArray :: mgV (frM xs) A53 c54 B55 d56 :: .int .i64 (frE xs) :: .tuple [.slice A66 ((fbB (frM xs)).length) c67, .int .i64 (fbE (frM xs))].toArray :: mgV (frM xs) A53 c54 B55 d56 :: .tuple [.slice A66 ((fbB (frM xs)).length) c67, .int .i64 (fbE (frM xs))].toArray :: .slice A66 ((fbB (frM xs)).length) c67 :: .int .i64 (fbE (frM xs)) :: .int .i64 (frE xs) :: .bool true :: .bool true :: U8lb (undef :: undef :: [])))))) (by rw [hops71]; rfl) rfl ?_
            refine p_off (by rw [hops71]; rfl) rfl ?_
            refine p_off (by rw [hops71]; rfl) rfl ?_
            refine p_run _ (x_pick true (.bool true) (undef) (.bool true) rfl rfl rfl rfl rfl) rfl ?_
            refine p_run _ (x_assign (.bool true) rfl rfl) rfl ?_
            clear hops71
            refine wpList_nil ?_
            refine hK70 _ _ ?_
            refine wp_ret ?_
            try simp only [Exit.inBlock, Exit.then]
            refine c_ret (.bool true) (r_tmp rfl rfl) ?_
            exact ⟨rfl, HS.belowOf⟩
          · skip
            refine c_region (fun ops74 hops73 => ?_)
            refine p_run _ (x_move (.int .i64 (frE xs)) rfl rfl) rfl ?_
            refine p_run _ (x_cmp (k := .i64) (m := (frE xs)) (n := 0) .neq false rfl rfl rfl (by rw [(fr_yes hc).2]; rfl) rfl) rfl ?_
            refine p_run (l' := (mgV m A c B d :: mgV n A2 c2 B2 d2 :: .slice C xs.length cc :: .pointer (some ⟨g5, 0, none⟩) :: .pointer (some ⟨g8, 0, none⟩) :: undef :: q43.a :: .slice A30 ((fbB m).length) c31 :: .int .i64 (fbE m) :: .slice A37 ((fbB n).length) c38 :: .int .i64 (fbE n) :: q43.b :: q43.c :: .pointer (some ⟨g58, 0, none⟩) :: .int .i64 (frE xs) :: .slice A66 ((fbB (frM xs)).length) c67 :: .int .i64 (fbE (frM xs)) :: .bool true :: .bool false :: mgV m A c B d :: .bool false :: .bool false :: mgV n A2 c2 B2 d2 :: .bool false :: .bool false :: .bool false :: .slice C xs.length cc :: .int .i64 (xs.length : Int) :: .bool false :: .bool false :: .tuple [.slice A30 ((fbB m).length) c31, .int .i64 (fbE m)].toArray :: mgV m A c B d :: .tuple [.slice A30 ((fbB m).length) c31, .int .i64 (fbE m)].toArray :: .slice A30 ((fbB m).length) c31 :: .int .i64 (fbE m) :: .tuple [.slice A37 ((fbB n).length) c38, .int .i64 (fbE n)].toArray :: mgV n A2 c2 B2 d2 :: .tuple [.slice A37 ((fbB n).length) c38, .int .i64 (fbE n)].toArray :: .slice A37 ((fbB n).length) c38 :: .int .i64 (fbE n) :: q43.d :: q43.e :: q43.f :: q43.g :: q43.h :: V8.l q44 (V8.l q45 (V8.l q46 (q47.a :: .tuple [mgV (frM xs) A53 c54 B55 d56, .int .i64 (frE xs)].toArray :: .slice C xs.length cc :: .tuple [mgV (frM xs) A53 c54 B55 d56, .int .i64 (frE xs)].toArray :: mgV (frM xs) A53 c54 B55 d56 :: .int .i64 (frE xs) :: .tuple [.slice A66 ((fbB (frM xs)).length) c67, .int .i64 (fbE (frM xs))].toArray :: mgV (frM xs) A53 c54 B55 d56 :: .tuple [.slice A66 ((fbB (frM xs)).length) c67, .int .i64 (fbE (frM xs))].toArray :: .slice A66 ((fbB (frM xs)).length) c67 :: .int .i64 (fbE (frM xs)) :: .int .i64 (frE xs) :: .bool false :: .bool false :: U8lb (undef :: undef :: [])))))) _ (x_move (.bool false) rfl rfl) rfl ?_
            refine p_on rfl (by rw [hops73]; rfl) ?_
            refine p_run _ (x_move (.int .i64 (fbE (frM xs))) rfl rfl) rfl ?_
            refine p_on rfl (by rw [hops73]; rfl) ?_
            refine p_run _ (x_cmp (k := .i64) (m := (fbE (frM xs))) (n := 0) .eql true rfl rfl rfl (by rw [(fr_ok hc).2.2]; rfl) rfl) rfl ?_
            refine p_on rfl (by rw [hops73]; rfl) ?_
            refine p_run _ (x_move (.bool true) rfl rfl) rfl ?_
            refine p_on rfl (by rw [hops73]; rfl) ?_
            refine p_run _ (x_move (.slice A66 ((fbB (frM xs)).length) c67) rfl rfl) rfl ?_
            refine p_on rfl (by rw [hops73]; rfl) ?_
            refine p_run _ (x_str (xs := (fbB (frM xs))) (row_rd (HS.get (.head _))).2.2 (by first | rfl | simp) rfl rfl) rfl ?_
            refine p_on rfl (by rw [hops73]; rfl) ?_
            refine p_run _ (x_move (.slice C xs.length cc) rfl rfl) rfl ?_
            refine p_on rfl (by rw [hops73]; rfl) ?_
            refine p_run (l' := (mgV m A c B d :: mgV n A2 c2 B2 d2 :: .slice C xs.length cc :: .pointer (some ⟨g5, 0, none⟩) :: .pointer (some ⟨g8, 0, none⟩) :: undef :: q43.a :: .slice A30 ((fbB m).length) c31 :: .int .i64 (fbE m) :: .slice A37 ((fbB n).length) c38 :: .int .i64 (fbE n) :: q43.b :: q43.c :: .pointer (some ⟨g58, 0, none⟩) :: .int .i64 (frE xs) :: .slice A66 ((fbB (frM xs)).length) c67 :: .int .i64 (fbE (frM xs)) :: .bool true :: .bool false :: mgV m A c B d :: .bool false :: .bool false :: mgV n A2 c2 B2 d2 :: .bool false :: .bool false :: .bool false :: .slice C xs.length cc :: .int .i64 (xs.length : Int) :: .bool false :: .bool false :: .tuple [.slice A30 ((fbB m).length) c31, .int .i64 (fbE m)].toArray :: mgV m A c B d :: .tuple [.slice A30 ((fbB m).length) c31, .int .i64 (fbE m)].toArray :: .slice A30 ((fbB m).length) c31 :: .int .i64 (fbE m) :: .tuple [.slice A37 ((fbB n).length) c38, .int .i64 (fbE n)].toArray :: mgV n A2 c2 B2 d2 :: .tuple [.slice A37 ((fbB n).length) c38, .int .i64 (fbE n)].toArray :: .slice A37 ((fbB n).length) c38 :: .int .i64 (fbE n) :: q43.d :: q43.e :: q43.f :: q43.g :: q43.h :: V8.l q44 (V8.l q45 (V8.l q46 (q47.a :: .tuple [mgV (frM xs) A53 c54 B55 d56, .int .i64 (frE xs)].toArray :: .slice C xs.length cc :: .tuple [mgV (frM xs) A53 c54 B55 d56, .int .i64 (frE xs)].toArray :: mgV (frM xs) A53 c54 B55 d56 :: .int .i64 (frE xs) :: .tuple [.slice A66 ((fbB (frM xs)).length) c67, .int .i64 (fbE (frM xs))].toArray :: mgV (frM xs) A53 c54 B55 d56 :: .tuple [.slice A66 ((fbB (frM xs)).length) c67, .int .i64 (fbE (frM xs))].toArray :: .slice A66 ((fbB (frM xs)).length) c67 :: .int .i64 (fbE (frM xs)) :: .int .i64 (frE xs) :: .bool false :: .bool false :: .int .i64 (fbE (frM xs)) :: .bool true :: .bool true :: .slice A66 ((fbB (frM xs)).length) c67 :: .string (strB (fbB (frM xs))) :: .slice C xs.length cc :: .string (strB xs) :: undef :: undef :: undef :: []))))) _ (x_str (xs := xs) (hC.below HS.belowOf).rd (by first | rfl | simp) rfl rfl) rfl ?_
            refine p_on rfl (by rw [hops73]; rfl) ?_
            refine p_run _ (x_streq .eql (strB (fbB (frM xs))) (strB xs) true rfl rfl rfl (seq_eq (decide_eq_true (fr_ok hc).2.1)) rfl) rfl ?_
            refine p_on rfl (by rw [hops73]; rfl) ?_
            refine p_run _ (x_pick true (.bool true) (.bool false) (.bool true) rfl rfl rfl rfl rfl) rfl ?_
            refine p_run _ (x_pick false (.bool true) (.bool true) (.bool true) rfl rfl rfl rfl rfl) rfl ?_
            refine p_run _ (x_assign (.bool true) rfl rfl) rfl ?_
            clear hops73
            refine wpList_nil ?_
            refine hK70 _ _ ?_
            refine wp_ret ?_
            try simp only [Exit.inBlock, Exit.then]
            refine c_ret (.bool true) (r_tmp rfl rfl) ?_
            exact ⟨rfl, HS.belowOf⟩
        clear hK41
        refine wp_seq_k (fun K75 hK76 => ?_)
        rcases mo4 m n with h1 | ⟨h1, h2⟩ | ⟨h1, h2, h3⟩ | ⟨h1, h2, h3⟩
        · skip
          refine c_region (fun ops78 hops77 => ?_)
          clear hops77
          refine p_run _ (x_move (.int .i64 (fbE m)) rfl rfl) rfl ?_
          refine p_run _ (x_cmp (k := .i64) (m := (fbE m)) (n := 0) .eql false rfl rfl rfl (by rw [(fb_no h1).2]; rfl) rfl) rfl ?_
          refine wpList_nil ?_
          refine fr_at (l' := (mgV m A c B d :: mgV n A2 c2 B2 d2 :: .slice C xs.length cc :: .pointer (some ⟨g5, 0, none⟩) :: .pointer (some ⟨g8, 0, none⟩) :: undef :: .bool false :: .slice A30 ((fbB m).length) c31 :: .int .i64 (fbE m) :: .slice A37 ((fbB n).length) c38 :: .int .i64 (fbE n) :: U4lb (undef :: undef :: .bool true :: .bool false :: mgV m A c B d :: .bool false :: .bool false :: mgV n A2 c2 B2 d2 :: .bool false :: .bool false :: .bool false :: .slice C xs.length cc :: .int .i64 (xs.length : Int) :: .bool false :: .bool false :: .tuple [.slice A30 ((fbB m).length) c31, .int .i64 (fbE m)].toArray :: mgV m A c B d :: .tuple [.slice A30 ((fbB m).length) c31, .int .i64 (fbE m)].toArray :: .slice A30 ((fbB m).length) c31 :: .int .i64 (fbE m) :: .tuple [.slice A37 ((fbB n).length) c38, .int .i64 (fbE n)].toArray :: mgV n A2 c2 B2 d2 :: .tuple [.slice A37 ((fbB n).length) c38, .int .i64 (fbE n)].toArray :: .slice A37 ((fbB n).length) c38 :: .int .i64 (fbE n) :: .int .i64 (fbE m) :: .bool false :: U32lb (U16lb (undef :: undef :: undef :: []))))) rfl ?_
          refine hK76 _ _ ?_
          refine c_false rfl ?_
          refine wp_skip ?_
          exact hT42 ⟨.bool false, undef, undef, .int .i64 (fbE m), .bool false, undef, undef, undef⟩ ⟨undef, undef, undef, undef, undef, undef, undef, undef⟩ ⟨undef, undef, undef, undef, undef, undef, undef, undef⟩ ⟨undef, undef, undef, undef, undef, undef, undef, undef⟩ ⟨undef, undef, undef, undef, undef, undef, undef, undef⟩ _ HS.drop.drop.drop.drop trivial
        · skip
          refine c_region (fun ops80 hops79 => ?_)
          clear hops79
          refine p_run _ (x_move (.int .i64 (fbE m)) rfl rfl) rfl ?_
          refine p_run _ (x_cmp (k := .i64) (m := (fbE m)) (n := 0) .eql true rfl rfl rfl (by rw [(fb_yes h1).2]; rfl) rfl) rfl ?_
          refine wpList_nil ?_
          refine hK76 _ _ ?_
          refine c_true rfl ?_
          refine wp_seq_k (fun K81 hK82 => ?_)
          refine c_region (fun ops84 hops83 => ?_)
          clear hops83
          refine p_run _ (x_move (.slice A30 ((fbB m).length) c31) rfl rfl) rfl ?_
          refine w_call [.slice A30 ((fbB m).length) c31] Try.func10 (by kernel_rfl) (by rfl) rfl ?_
          refine (fread_any _ A30 c31 (fbB m) (rowsl (HS.get (.tail _ (.head _)))) (by have := fb_le (m := m) hw; omega)).mono ?_
          rintro e w89 ⟨A85, c86, B87, d88, rfl, hk_⟩
          replace HS := HS.more hk_
          clear hk_
          refine ⟨_, rfl, ?_⟩
          refine p_run _ (x_move (.tuple [mgV (frM (fbB m)) A85 c86 B87 d88, .int .i64 (frE (fbB m))].toArray) rfl rfl) rfl ?_
          refine p_run _ (x_extract (vs := [mgV (frM (fbB m)) A85 c86 B87 d88, .int .i64 (frE (fbB m))]) 0 (mgV (frM (fbB m)) A85 c86 B87 d88) rfl rfl rfl) rfl ?_
          refine p_run (l' := (mgV m A c B d :: mgV n A2 c2 B2 d2 :: .slice C xs.length cc :: .pointer (some ⟨g5, 0, none⟩) :: .pointer (some ⟨g8, 0, none⟩) :: undef :: .bool false :: .slice A30 ((fbB m).length) c31 :: .int .i64 (fbE m) :: .slice A37 ((fbB n).length) c38 :: .int .i64 (fbE n) :: U4lb (undef :: undef :: .bool true :: .bool false :: mgV m A c B d :: .bool false :: .bool false :: mgV n A2 c2 B2 d2 :: .bool false :: .bool false :: .bool false :: .slice C xs.length cc :: .int .i64 (xs.length : Int) :: .bool false :: .bool false :: .tuple [.slice A30 ((fbB m).length) c31, .int .i64 (fbE m)].toArray :: mgV m A c B d :: .tuple [.slice A30 ((fbB m).length) c31, .int .i64 (fbE m)].toArray :: .slice A30 ((fbB m).length) c31 :: .int .i64 (fbE m) :: .tuple [.slice A37 ((fbB n).length) c38, .int .i64 (fbE n)].toArray :: mgV n A2 c2 B2 d2 :: .tuple [.slice A37 ((fbB n).length) c38, .int .i64 (fbE n)].toArray :: .slice A37 ((fbB n).length) c38 :: .int .i64 (fbE n) :: .int .i64 (fbE m) :: .bool true :: .tuple [mgV (frM (fbB m)) A85 c86 B87 d88, .int .i64 (frE (fbB m))].toArray :: .slice A30 ((fbB m).length) c31 :: .tuple [mgV (frM (fbB m)) A85 c86 B87 d88, .int .i64 (frE (fbB m))].toArray :: mgV (frM (fbB m)) A85 c86 B87 d88 :: .int .i64 (frE (fbB m)) :: U32lb (U8lb (U4lb (undef :: undef :: [])))))) _ (x_extract (vs := [mgV (frM (fbB m)) A85 c86 B87 d88, .int .i64 (frE (fbB m))]) 1 (.int .i64 (frE (fbB m))) rfl rfl rfl) rfl ?_
          refine St.wAlloc HS (cs := [.int .i64 0, .int .u32 0, .int .u64 0, .int .u32 0, .int .u32 0, .int .u32 0, .int .u32 0, .int .i64 0, .int .i64 0, .int .u32 0, .slice none 0 0, .slice none 0 0]) (.agg [.int .i64 0, .int .u32 0, .int .u64 0, .int .u32 0, .int .u32 0, .int .u32 0, .int .u32 0, .int .i64 0, .int .i64 0, .int .u32 0, .slice none 0 0, .slice none 0 0].toArray) (by kernel_rfl) rfl ?_
          clear HS
          intro g90 w91 hg92 HS
          refine St.stores (cs' := [.int .i64 ((frM (fbB m)).k), .int .u32 ((frM (fbB m)).e), .int .u64 ((frM (fbB m)).s), .int .u32 ((frM (fbB m)).te), .int .u32 ((frM (fbB m)).ts), .int .u32 ((frM (fbB m)).be), .int .u32 ((frM (fbB m)).bs), .int .i64 ((frM (fbB m)).ix), .int .i64 ((frM (fbB m)).tt), .int .u32 ((frM (fbB m)).tk), .slice A85 ((frM (fbB m)).its.length) c86, .slice B87 ((frM (fbB m)).hvs.length) d88]) HS [.int .i64 ((frM (fbB m)).k), .int .u32 ((frM (fbB m)).e), .int .u64 ((frM (fbB m)).s), .int .u32 ((frM (fbB m)).te), .int .u32 ((frM (fbB m)).ts), .int .u32 ((frM (fbB m)).be), .int .u32 ((frM (fbB m)).bs), .int .i64 ((frM (fbB m)).ix), .int .i64 ((frM (fbB m)).tt), .int .u32 ((frM (fbB m)).tk), .slice A85 ((frM (fbB m)).its.length) c86, .slice B87 ((frM (fbB m)).hvs.length) d88] 12 rfl rfl (by rfl) (by kernel_rfl) rfl (by simp) rfl ?_
          clear HS
          intro w93 HS
          refine p_run _ (x_assign (.int .i64 (frE (fbB m))) rfl rfl) rfl ?_
          refine wpList_nil ?_
          refine hK82 _ _ ?_
          refine wp_seq_k (fun K94 hK95 => ?_)
          refine free_frame (n := 23) (T := _) [0, 1, 3, 7, 7, 31, 63, 127, 255, 511, 1023, 2047, 4095, 8191, 4095, 20479, 65535, 4095, 4095, 397311, 1048575, 2097151, 4194303] [(0, 47), (1, 48), (2, 49), (3, 50), (4, 51), (5, 52), (6, 53), (7, 54), (8, 55), (9, 56), (10, 57), (11, 58), (12, 59), (13, 60), (14, 61), (15, 62), (16, 63), (17, 64), (18, 65), (19, 66), (20, 67), (21, 68), (22, 69)] (fun bq_ vq_ w_ => qv ((fun i_ => match i_ with | 0 => some (.int .i64 (frE (fbB m))) | 1 => some (.bool false) | 2 => some (.bool false) | 3 => some (mgV m A c B d) | 4 => some (mgV (frM (fbB m)) A85 c86 B87 d88) | 6 => some (.bool false) | 7 => some (.bool false) | 8 => some (.bool false) | 9 => some (.int .i64 (fbE n)) | 10 => some (.bool false) | 11 => some (.bool false) | 12 => some (undef) | 13 => some (undef) | 14 => some (undef) | 15 => some (undef) | 16 => some (undef) | 17 => some (undef) | 18 => some (undef) | 19 => some (undef) | 20 => some (undef) | 21 => some (.bool false) | 22 => some (.bool false) | _ => none) : Nat → Option Value) bq_ vq_ ∧ cond (bq_ 5) (vq_ 5 = .bool true ∧ St w (fun _ => False) w_ ([blk g90 [.int .i64 ((frM (fbB m)).k), .int .u32 ((frM (fbB m)).e), .int .u64 ((frM (fbB m)).s), .int .u32 ((frM (fbB m)).te), .int .u32 ((frM (fbB m)).ts), .int .u32 ((frM (fbB m)).be), .int .u32 ((frM (fbB m)).bs), .int .i64 ((frM (fbB m)).ix), .int .i64 ((frM (fbB m)).tt), .int .u32 ((frM (fbB m)).tk), .slice A85 ((frM (fbB m)).its.length) c86, .slice B87 ((frM (fbB m)).hvs.length) d88] 33, row kIt rfl 53 (.slice A85 ((frM (fbB m)).its.length) c86) ((frM (fbB m)).its), row kHv rfl 55 (.slice B87 ((frM (fbB m)).hvs.length) d88) ((frM (fbB m)).hvs), row kByte rfl 5 (.slice A37 ((fbB n).length) c38) (fbB n), row kByte rfl 5 (.slice A30 ((fbB m).length) c31) (fbB m), blk g8 [.int .i64 n.k, .int .u32 n.e, .int .u64 n.s, .int .u32 n.te, .int .u32 n.ts, .int .u32 n.be, .int .u32 n.bs, .int .i64 n.ix, .int .i64 n.tt, .int .u32 n.tk, .slice A2 n.its.length c2, .slice B2 n.hvs.length d2] 33, blk g5 [.int .i64 m.k, .int .u32 m.e, .int .u64 m.s, .int .u32 m.te, .int .u32 m.ts, .int .u32 m.be, .int .u32 m.bs, .int .i64 m.ix, .int .i64 m.tt, .int .u32 m.tk, .slice A m.its.length c, .slice B m.hvs.length d] 33])) ((St w (fun _ => False) w_ ([blk g90 [.int .i64 ((frM (fbB m)).k), .int .u32 ((frM (fbB m)).e), .int .u64 ((frM (fbB m)).s), .int .u32 ((frM (fbB m)).te), .int .u32 ((frM (fbB m)).ts), .int .u32 ((frM (fbB m)).be), .int .u32 ((frM (fbB m)).bs), .int .i64 ((frM (fbB m)).ix), .int .i64 ((frM (fbB m)).tt), .int .u32 ((frM (fbB m)).tk), .slice A85 ((frM (fbB m)).its.length) c86, .slice B87 ((frM (fbB m)).hvs.length) d88] 33, row kIt rfl 53 (.slice A85 ((frM (fbB m)).its.length) c86) ((frM (fbB m)).its), row kHv rfl 55 (.slice B87 ((frM (fbB m)).hvs.length) d88) ((frM (fbB m)).hvs), row kByte rfl 5 (.slice A37 ((fbB n).length) c38) (fbB n), row kByte rfl 5 (.slice A30 ((fbB m).length) c31) (fbB m), blk g8 [.int .i64 n.k, .int .u32 n.e, .int .u64 n.s, .int .u32 n.te, .int .u32 n.ts, .int .u32 n.be, .int .u32 n.bs, .int .i64 n.ix, .int .i64 n.tt, .int .u32 n.tk, .slice A2 n.its.length c2, .slice B2 n.hvs.length d2] 33, blk g5 [.int .i64 m.k, .int .u32 m.e, .int .u64 m.s, .int .u32 m.te, .int .u32 m.ts, .int .u32 m.be, .int .u32 m.bs, .int .i64 m.ix, .int .i64 m.tt, .int .u32 m.tk, .slice A m.its.length c, .slice B m.hvs.length d] 33])))) (by kernel_rfl) rfl rfl (by kernel_rfl) (by kernel_rfl) rfl (by kernel_rfl) (by kernel_rfl) ⟨qv_none, HS.draw⟩ ?_ ?_
          · clear HS
            intro i_ hi_ bq_ vq_ a_ w_ hG hb_ hon hoff hfr hel hval
            obtain ⟨hV, hE⟩ := hG
            have hi_ := List.mem_range.1 hi_
            obtain ⟨l_, rfl⟩ := hfr
            have hv_ := fun (j t : Nat) (v : Value) (h1 : (j, t) ∈ [(0, 47), (1, 48), (2, 49), (3, 50), (4, 51), (5, 52), (6, 53), (7, 54), (8, 55), (9, 56), (10, 57), (11, 58), (12, 59), (13, 60), (14, 61), (15, 62), (16, 63), (17, 64), (18, 65), (19, 66), (20, 67), (21, 68), (22, 69)]) h2 h3 => (hval (j, t) h1 h3).trans (congrArg some (hV j v h2 h3))
            have hcs : i_ = 0 ∨ i_ = 1 ∨ i_ = 2 ∨ i_ = 3 ∨ i_ = 4 ∨ i_ = 5 ∨ i_ = 6 ∨ i_ = 7 ∨ i_ = 8 ∨ i_ = 9 ∨ i_ = 10 ∨ i_ = 11 ∨ i_ = 12 ∨ i_ = 13 ∨ i_ = 14 ∨ i_ = 15 ∨ i_ = 16 ∨ i_ = 17 ∨ i_ = 18 ∨ i_ = 19 ∨ i_ = 20 ∨ i_ = 21 ∨ i_ = 22 := by omega
            rcases hcs with rfl | rfl | rfl | rfl | rfl | rfl | rfl | rfl | rfl | rfl | rfl | rfl | rfl | rfl | rfl | rfl | rfl | rfl | rfl | rfl | rfl | rfl | rfl
            · have e12 : evl l_ (.tmp 12) = .int .i64 (frE (fbB m)) := evl_of ((hel 12 (by decide)).trans rfl)
              exact ⟨_, rfl, fun K_ hK_ => q_op _ (x_move (.int .i64 (frE (fbB m))) rfl e12) (hK_ _ _ ⟨qv_up hV (fun _ h => Option.some.inj h), hE⟩)⟩
            · have e47 : evl l_ (.tmp 47) = .int .i64 (frE (fbB m)) := evl_of (hv_ 0 47 _ (by decide) rfl (hon 0 (by decide)))
              exact ⟨_, rfl, fun K_ hK_ => q_op _ (x_cmp (k := .i64) (m := (frE (fbB m))) (n := 0) .neq false rfl e47 rfl (by rw [(fr_back hw h1).2.2]; rfl) rfl) (hK_ _ _ ⟨qv_up hV (fun _ h => Option.some.inj h), hE⟩)⟩
            · have e48 : evl l_ (.tmp 48) = .bool false := evl_of (hv_ 1 48 _ (by decide) rfl (hon 1 (by decide)))
              exact ⟨_, rfl, fun K_ hK_ => q_op _ (x_move (.bool false) rfl e48) (hK_ _ _ ⟨qv_up hV (fun _ h => Option.some.inj h), hE⟩)⟩
            · have h49 : (fr l_).tmps[49]? = some (.bool false) := hv_ 2 49 _ (by decide) rfl (hon 2 (by decide))
              have hE0 := hE
              rw [show bq_ 5 = false from (hoff 5 (by decide))] at hE0
              simp only [cond_true, cond_false] at hE0
              have HS := hE0
              have e3 : evl l_ (.tmp 3) = .pointer (some ⟨g5, 0, none⟩) := evl_of ((hel 3 (by decide)).trans rfl)
              have e49 : evl l_ (.tmp 49) = .bool false := evl_of h49
              exact ⟨_, rfl, fun K_ hK_ => q_opG (wanted_on (t := 49) rfl rfl rfl h49) _ (x_loads [.int .i64 m.k, .int .u32 m.e, .int .u64 m.s, .int .u32 m.te, .int .u32 m.ts, .int .u32 m.be, .int .u32 m.bs, .int .i64 m.ix, .int .i64 m.tt, .int .u32 m.tk, .slice A m.its.length c, .slice B m.hvs.length d] 12 rfl e3 (bkCells (HS.get (.tail _ (.tail _ (.tail _ (.tail _ (.tail _ (.tail _ (.head _)))))))) 0 _ rfl) (by rfl) (by kernel_rfl) rfl) (hK_ _ _ ⟨qv_up hV (fun _ h => Option.some.inj h), hE⟩)⟩
            · have h49 : (fr l_).tmps[49]? = some (.bool false) := hv_ 2 49 _ (by decide) rfl (hon 2 (by decide))
              have hE0 := hE
              rw [show bq_ 5 = false from (hoff 5 (by decide))] at hE0
              simp only [cond_true, cond_false] at hE0
              have HS := hE0
              have e11 : evl l_ (.tmp 11) = .pointer (some ⟨g90, 0, none⟩) := evl_of ((hel 11 (by decide)).trans rfl)
              have e49 : evl l_ (.tmp 49) = .bool false := evl_of h49
              exact ⟨_, rfl, fun K_ hK_ => q_opG (wanted_on (t := 49) rfl rfl rfl h49) _ (x_loads [.int .i64 ((frM (fbB m)).k), .int .u32 ((frM (fbB m)).e), .int .u64 ((frM (fbB m)).s), .int .u32 ((frM (fbB m)).te), .int .u32 ((frM (fbB m)).ts), .int .u32 ((frM (fbB m)).be), .int .u32 ((frM (fbB m)).bs), .int .i64 ((frM (fbB m)).ix), .int .i64 ((frM (fbB m)).tt), .int .u32 ((frM (fbB m)).tk), .slice A85 ((frM (fbB m)).its.length) c86, .slice B87 ((frM (fbB m)).hvs.length) d88] 12 rfl e11 (bkCells (HS.get (.head _)) 0 _ rfl) (by rfl) (by kernel_rfl) rfl) (hK_ _ _ ⟨qv_up hV (fun _ h => Option.some.inj h), hE⟩)⟩
            · have h49 : (fr l_).tmps[49]? = some (.bool false) := hv_ 2 49 _ (by decide) rfl (hon 2 (by decide))
              have h50 : (fr l_).tmps[50]? = some (mgV m A c B d) := hv_ 3 50 _ (by decide) rfl (hon 3 (by decide))
              have h51 : (fr l_).tmps[51]? = some (mgV (frM (fbB m)) A85 c86 B87 d88) := hv_ 4 51 _ (by decide) rfl (hon 4 (by decide))
              have hE0 := hE
              rw [show bq_ 5 = false from hb_] at hE0
              simp only [cond_true, cond_false] at hE0
              have HS := hE0
              have e49 : evl l_ (.tmp 49) = .bool false := evl_of h49
              have e50 : evl l_ (.tmp 50) = mgV m A c B d := evl_of h50
              have e51 : evl l_ (.tmp 51) = mgV (frM (fbB m)) A85 c86 B87 d88 := evl_of h51
              refine ⟨_, rfl, fun K_ hK_ => wp_of_listG rfl (wanted_on (t := 49) rfl rfl rfl h49) ?_⟩
              intro ops_
              refine w_call [mgV m A c B d, mgV (frM (fbB m)) A85 c86 B87 d88] Try.func16 (by kernel_rfl) (by rfl) (by simp only [List.map_cons, List.map_nil, e50, e51] <;> rfl) ?_
              refine (fsame_any _ m A c (Kd.C_below hA HS.belowOf) B d (Kd.C_below hB HS.belowOf) (by omega) (by omega) (frM (fbB m)) A85 c86 (row_C (HS.get (.tail _ (.head _)))).2.2 B87 d88 (row_C (HS.get (.tail _ (.tail _ (.head _))))).2.2 (Nat.le_trans (frM_its _) (by decide)) (Nat.le_trans (frM_hvs _) (by decide))).mono ?_
              rintro e w900501 ⟨he_, hb_⟩
              rw [(by rw [(fr_back hw h1).2.1]; exact smB_self _ : smB m (frM (fbB m)) = true)] at he_
              subst he_
              replace HS := HS.here hb_
              clear hb_
              refine ⟨_, rfl, ?_⟩
              refine wpList_nil ?_
              refine norm_put (hK_ (.bool true) _ ⟨qv_up hV (by intro _ h; cases h), ?_⟩)
              show cond true _ _
              rw [cond_true]
              exact ⟨rfl, (((((((HS.front 6 rfl).front 6 rfl).front 6 rfl).front 6 rfl).front 6 rfl).front 6 rfl).front 6 rfl)⟩
            · have h49 : (fr l_).tmps[49]? = some (.bool false) := hv_ 2 49 _ (by decide) rfl (hon 2 (by decide))
              have h52 := hval (5, 52) (by decide) (hon 5 (by decide))
              have hE0 := hE
              rw [show bq_ 5 = true from (hon 5 (by decide))] at hE0
              simp only [cond_true, cond_false] at hE0
              obtain ⟨hv5, HS⟩ := hE0
              rw [hv5] at h52
              have e49 : evl l_ (.tmp 49) = .bool false := evl_of h49
              have e52 : evl l_ (.tmp 52) = .bool true := evl_of h52
              exact ⟨_, rfl, fun K_ hK_ => q_opG (wanted_on (t := 49) rfl rfl rfl h49) _ (x_not true rfl e52) (hK_ _ _ ⟨qv_up hV (fun _ h => Option.some.inj h), hE⟩)⟩
            · have e49 : evl l_ (.tmp 49) = .bool false := evl_of (hv_ 2 49 _ (by decide) rfl (hon 2 (by decide)))
              have e53 : evl l_ (.tmp 53) = .bool false := evl_of (hv_ 6 53 _ (by decide) rfl (hon 6 (by decide)))
              exact ⟨_, rfl, fun K_ hK_ => q_op _ (x_pick false (.bool true) (.bool false) (.bool false) rfl e49 rfl e53 rfl) (hK_ _ _ ⟨qv_up hV (fun _ h => Option.some.inj h), hE⟩)⟩
            · have e54 : evl l_ (.tmp 54) = .bool false := evl_of (hv_ 7 54 _ (by decide) rfl (hon 7 (by decide)))
              exact ⟨_, rfl, fun K_ hK_ => q_op _ (x_move (.bool false) rfl e54) (hK_ _ _ ⟨qv_up hV (fun _ h => Option.some.inj h), hE⟩)⟩
            · have h55 : (fr l_).tmps[55]? = some (.bool false) := hv_ 8 55 _ (by decide) rfl (hon 8 (by decide))
              have e10 : evl l_ (.tmp 10) = .int .i64 (fbE n) := evl_of ((hel 10 (by decide)).trans rfl)
              have e55 : evl l_ (.tmp 55) = .bool false := evl_of h55
              exact ⟨_, rfl, fun K_ hK_ => q_opG (wanted_on (t := 55) rfl rfl rfl h55) _ (x_move (.int .i64 (fbE n)) rfl e10) (hK_ _ _ ⟨qv_up hV (fun _ h => Option.some.inj h), hE⟩)⟩
            · have h55 : (fr l_).tmps[55]? = some (.bool false) := hv_ 8 55 _ (by decide) rfl (hon 8 (by decide))
              have e55 : evl l_ (.tmp 55) = .bool false := evl_of h55
              have e56 : evl l_ (.tmp 56) = .int .i64 (fbE n) := evl_of (hv_ 9 56 _ (by decide) rfl (hon 9 (by decide)))
              exact ⟨_, rfl, fun K_ hK_ => q_opG (wanted_on (t := 55) rfl rfl rfl h55) _ (x_cmp (k := .i64) (m := (fbE n)) (n := 0) .eql false rfl e56 rfl (by rw [(fb_no h2).2]; rfl) rfl) (hK_ _ _ ⟨qv_up hV (fun _ h => Option.some.inj h), hE⟩)⟩
            · have h55 : (fr l_).tmps[55]? = some (.bool false) := hv_ 8 55 _ (by decide) rfl (hon 8 (by decide))
              have e55 : evl l_ (.tmp 55) = .bool false := evl_of h55
              have e57 : evl l_ (.tmp 57) = .bool false := evl_of (hv_ 10 57 _ (by decide) rfl (hon 10 (by decide)))
              exact ⟨_, rfl, fun K_ hK_ => q_opG (wanted_on (t := 55) rfl rfl rfl h55) _ (x_move (.bool false) rfl e57) (hK_ _ _ ⟨qv_up hV (fun _ h => Option.some.inj h), hE⟩)⟩
            · have h58 : (fr l_).tmps[58]? = some (.bool false) := hv_ 11 58 _ (by decide) rfl (hon 11 (by decide))
              exact ⟨_, rfl, fun K_ hK_ => wp_offG (wanted_off (t := 58) rfl rfl rfl h58) (hK_ undef _ ⟨qv_up hV (fun _ h => Option.some.inj h), hE⟩)⟩
            · have h58 : (fr l_).tmps[58]? = some (.bool false) := hv_ 11 58 _ (by decide) rfl (hon 11 (by decide))
              exact ⟨_, rfl, fun K_ hK_ => wp_offG (wanted_off (t := 58) rfl rfl rfl h58) (hK_ undef _ ⟨qv_up hV (fun _ h => Option.some.inj h), hE⟩)⟩
            · have h58 : (fr l_).tmps[58]? = some (.bool false) := hv_ 11 58 _ (by decide) rfl (hon 11 (by decide))
              exact ⟨_, rfl, fun K_ hK_ => wp_offG (wanted_off (t := 58) rfl rfl rfl h58) (hK_ undef _ ⟨qv_up hV (fun _ h => Option.some.inj h), hE⟩)⟩
            · have h58 : (fr l_).tmps[58]? = some (.bool false) := hv_ 11 58 _ (by decide) rfl (hon 11 (by decide))
              exact ⟨_, rfl, fun K_ hK_ => wp_offG (wanted_off (t := 58) rfl rfl rfl h58) (hK_ undef _ ⟨qv_up hV (fun _ h => Option.some.inj h), hE⟩)⟩
            · have h58 : (fr l_).tmps[58]? = some (.bool false) := hv_ 11 58 _ (by decide) rfl (hon 11 (by decide))
              exact ⟨_, rfl, fun K_ hK_ => wp_offG (wanted_off (t := 58) rfl rfl rfl h58) (hK_ undef _ ⟨qv_up hV (fun _ h => Option.some.inj h), hE⟩)⟩
            · have h58 : (fr l_).tmps[58]? = some (.bool false) := hv_ 11 58 _ (by decide) rfl (hon 11 (by decide))
              exact ⟨_, rfl, fun K_ hK_ => wp_offG (wanted_off (t := 58) rfl rfl rfl h58) (hK_ undef _ ⟨qv_up hV (fun _ h => Option.some.inj h), hE⟩)⟩
            · have h58 : (fr l_).tmps[58]? = some (.bool false) := hv_ 11 58 _ (by decide) rfl (hon 11 (by decide))
              exact ⟨_, rfl, fun K_ hK_ => wp_offG (wanted_off (t := 58) rfl rfl rfl h58) (hK_ undef _ ⟨qv_up hV (fun _ h => Option.some.inj h), hE⟩)⟩
            · have h58 : (fr l_).tmps[58]? = some (.bool false) := hv_ 11 58 _ (by decide) rfl (hon 11 (by decide))
              exact ⟨_, rfl, fun K_ hK_ => wp_offG (wanted_off (t := 58) rfl rfl rfl h58) (hK_ undef _ ⟨qv_up hV (fun _ h => Option.some.inj h), hE⟩)⟩
            · have h58 : (fr l_).tmps[58]? = some (.bool false) := hv_ 11 58 _ (by decide) rfl (hon 11 (by decide))
              exact ⟨_, rfl, fun K_ hK_ => wp_offG (wanted_off (t := 58) rfl rfl rfl h58) (hK_ undef _ ⟨qv_up hV (fun _ h => Option.some.inj h), hE⟩)⟩
            · have h55 : (fr l_).tmps[55]? = some (.bool false) := hv_ 8 55 _ (by decide) rfl (hon 8 (by decide))
              have e55 : evl l_ (.tmp 55) = .bool false := evl_of h55
              have e58 : evl l_ (.tmp 58) = .bool false := evl_of (hv_ 11 58 _ (by decide) rfl (hon 11 (by decide)))
              have e67 : evl l_ (.tmp 67) = undef := evl_of (hv_ 20 67 _ (by decide) rfl (hon 20 (by decide)))
              exact ⟨_, rfl, fun K_ hK_ => q_opG (wanted_on (t := 55) rfl rfl rfl h55) _ (x_pick false (undef) (.bool false) (.bool false) rfl e58 e67 rfl rfl) (hK_ _ _ ⟨qv_up hV (fun _ h => Option.some.inj h), hE⟩)⟩
            · have e55 : evl l_ (.tmp 55) = .bool false := evl_of (hv_ 8 55 _ (by decide) rfl (hon 8 (by decide)))
              have e68 : evl l_ (.tmp 68) = .bool false := evl_of (hv_ 21 68 _ (by decide) rfl (hon 21 (by decide)))
              exact ⟨_, rfl, fun K_ hK_ => q_op _ (x_pick false (.bool true) (.bool false) (.bool false) rfl e55 rfl e68 rfl) (hK_ _ _ ⟨qv_up hV (fun _ h => Option.some.inj h), hE⟩)⟩
          intro bq_ vq_ w_ hall hG
          obtain ⟨hV, hE⟩ := hG
          clear HS
          rw [show bq_ 5 = true from hall 5 (by decide)] at hE
          simp only [cond_true] at hE
          obtain ⟨hv5, HS⟩ := hE
          have hv0 := hV 0 _ rfl (hall 0 (by decide))
          have hv1 := hV 1 _ rfl (hall 1 (by decide))
          have hv2 := hV 2 _ rfl (hall 2 (by decide))
          have hv3 := hV 3 _ rfl (hall 3 (by decide))
          have hv4 := hV 4 _ rfl (hall 4 (by decide))
          have hv6 := hV 6 _ rfl (hall 6 (by decide))
          have hv7 := hV 7 _ rfl (hall 7 (by decide))
          have hv8 := hV 8 _ rfl (hall 8 (by decide))
          have hv9 := hV 9 _ rfl (hall 9 (by decide))
          have hv10 := hV 10 _ rfl (hall 10 (by decide))
          have hv11 := hV 11 _ rfl (hall 11 (by decide))
          have hv12 := hV 12 _ rfl (hall 12 (by decide))
          have hv13 := hV 13 _ rfl (hall 13 (by decide))
          have hv14 := hV 14 _ rfl (hall 14 (by decide))
          have hv15 := hV 15 _ rfl (hall 15 (by decide))
          have hv16 := hV 16 _ rfl (hall 16 (by decide))
          have hv17 := hV 17 _ rfl (hall 17 (by decide))
          have hv18 := hV 18 _ rfl (hall 18 (by decide))
          have hv19 := hV 19 _ rfl (hall 19 (by decide))
          have hv20 := hV 20 _ rfl (hall 20 (by decide))
          have hv21 := hV 21 _ rfl (hall 21 (by decide))
          have hv22 := hV 22 _ rfl (hall 22 (by decide))
          clear hV hall
          rw [putSel_fr]
          simp only [tells, List.map_cons, List.map_nil, setAll, List.set_cons_succ, List.set_cons_zero, hv0, hv1, hv2, hv3, hv4, hv5, hv6, hv7, hv8, hv9, hv10, hv11, hv12, hv13, hv14, hv15, hv16, hv17, hv18, hv19, hv20, hv21, hv22]
          clear hv0 hv1 hv2 hv3 hv4 hv5 hv6 hv7 hv8 hv9 hv10 hv11 hv12 hv13 hv14 hv15 hv16 hv17 hv18 hv19 hv20 hv21 hv22
          generalize w_ = w900601 at HS ⊢
          refine fr_at (l' := (mgV m A c B d :: mgV n A2 c2 B2 d2 :: .slice C xs.length cc :: .pointer (some ⟨g5, 0, none⟩) :: .pointer (some ⟨g8, 0, none⟩) :: undef :: .bool false :: .slice A30 ((fbB m).length) c31 :: .int .i64 (fbE m) :: .slice A37 ((fbB n).length) c38 :: .int .i64 (fbE n) :: .pointer (some ⟨g90, 0, none⟩) :: .int .i64 (frE (fbB m)) :: U4lb (.bool true :: .bool false :: mgV m A c B d :: .bool false :: .bool false :: mgV n A2 c2 B2 d2 :: .bool false :: .bool false :: .bool false :: .slice C xs.length cc :: .int .i64 (xs.length : Int) :: .bool false :: .bool false :: .tuple [.slice A30 ((fbB m).length) c31, .int .i64 (fbE m)].toArray :: mgV m A c B d :: .tuple [.slice A30 ((fbB m).length) c31, .int .i64 (fbE m)].toArray :: .slice A30 ((fbB m).length) c31 :: .int .i64 (fbE m) :: .tuple [.slice A37 ((fbB n).length) c38, .int .i64 (fbE n)].toArray :: mgV n A2 c2 B2 d2 :: .tuple [.slice A37 ((fbB n).length) c38, .int .i64 (fbE n)].toArray :: .slice A37 ((fbB n).length) c38 :: .int .i64 (fbE n) :: .int .i64 (fbE m) :: .bool true :: .tuple [mgV (frM (fbB m)) A85 c86 B87 d88, .int .i64 (frE (fbB m))].toArray :: .slice A30 ((fbB m).length) c31 :: .tuple [mgV (frM (fbB m)) A85 c86 B87 d88, .int .i64 (frE (fbB m))].toArray :: mgV (frM (fbB m)) A85 c86 B87 d88 :: .int .i64 (frE (fbB m)) :: .int .i64 (frE (fbB m)) :: .bool false :: .bool false :: mgV m A c B d :: mgV (frM (fbB m)) A85 c86 B87 d88 :: .bool true :: .bool false :: .bool false :: .bool false :: .int .i64 (fbE n) :: .bool false :: .bool false :: U8lb (undef :: .bool false :: .bool false :: U16lb (U4lb (undef :: undef :: undef :: [])))))) rfl ?_
          refine hK95 _ _ ?_
          refine c_false rfl ?_
          refine wp_skip ?_
          exact hT42 ⟨.bool false, .pointer (some ⟨g90, 0, none⟩), .int .i64 (frE (fbB m)), .int .i64 (fbE m), .bool true, .tuple [mgV (frM (fbB m)) A85 c86 B87 d88, .int .i64 (frE (fbB m))].toArray, .slice A30 ((fbB m).length) c31, .tuple [mgV (frM (fbB m)) A85 c86 B87 d88, .int .i64 (frE (fbB m))].toArray⟩ ⟨mgV (frM (fbB m)) A85 c86 B87 d88, .int .i64 (frE (fbB m)), .int .i64 (frE (fbB m)), .bool false, .bool false, mgV m A c B d, mgV (frM (fbB m)) A85 c86 B87 d88, .bool true⟩ ⟨.bool false, .bool false, .bool false, .int .i64 (fbE n), .bool false, .bool false, undef, undef⟩ ⟨undef, undef, undef, undef, undef, undef, undef, .bool false⟩ ⟨.bool false, undef, undef, undef, undef, undef, undef, undef⟩ _ HS.drop.drop.drop.drop.drop.drop.drop trivial
        · skip
          refine c_region (fun ops900603 hops900602 => ?_)
          clear hops900602
          refine p_run _ (x_move (.int .i64 (fbE m)) rfl rfl) rfl ?_
          refine p_run _ (x_cmp (k := .i64) (m := (fbE m)) (n := 0) .eql true rfl rfl rfl (by rw [(fb_yes h1).2]; rfl) rfl) rfl ?_
          refine wpList_nil ?_
          refine hK76 _ _ ?_
          refine c_true rfl ?_
          refine wp_seq_k (fun K900604 hK900605 => ?_)
          refine c_region (fun ops900607 hops900606 => ?_)
          clear hops900606
          refine p_run _ (x_move (.slice A30 ((fbB m).length) c31) rfl rfl) rfl ?_
          refine w_call [.slice A30 ((fbB m).length) c31] Try.func10 (by kernel_rfl) (by rfl) rfl ?_
          refine (fread_any _ A30 c31 (fbB m) (rowsl (HS.get (.tail _ (.head _)))) (by have := fb_le (m := m) hw; omega)).mono ?_
          rintro e w900612 ⟨A900608, c900609, B900610, d900611, rfl, hk_⟩
          replace HS := HS.more hk_
          clear hk_
          refine ⟨_, rfl, ?_⟩
          refine p_run _ (x_move (.tuple [mgV (frM (fbB m)) A900608 c900609 B900610 d900611, .int .i64 (frE (fbB m))].toArray) rfl rfl) rfl ?_
          refine p_run _ (x_extract (vs := [mgV (frM (fbB m)) A900608 c900609 B900610 d900611, .int .i64 (frE (fbB m))]) 0 (mgV (frM (fbB m)) A900608 c900609 B900610 d900611) rfl rfl rfl) rfl ?_
          refine p_run (l' := (mgV m A c B d :: mgV n A2 c2 B2 d2 :: .slice C xs.length cc :: .pointer (some ⟨g5, 0, none⟩) :: .pointer (some ⟨g8, 0, none⟩) :: undef :: .bool false :: .slice A30 ((fbB m).length) c31 :: .int .i64 (fbE m) :: .slice A37 ((fbB n).length) c38 :: .int .i64 (fbE n) :: U4lb (undef :: undef :: .bool true :: .bool false :: mgV m A c B d :: .bool false :: .bool false :: mgV n A2 c2 B2 d2 :: .bool false :: .bool false :: .bool false :: .slice C xs.length cc :: .int .i64 (xs.length : Int) :: .bool false :: .bool false :: .tuple [.slice A30 ((fbB m).length) c31, .int .i64 (fbE m)].toArray :: mgV m A c B d :: .tuple [.slice A30 ((fbB m).length) c31, .int .i64 (fbE m)].toArray :: .slice A30 ((fbB m).length) c31 :: .int .i64 (fbE m) :: .tuple [.slice A37 ((fbB n).length) c38, .int .i64 (fbE n)].toArray :: mgV n A2 c2 B2 d2 :: .tuple [.slice A37 ((fbB n).length) c38, .int .i64 (fbE n)].toArray :: .slice A37 ((fbB n).length) c38 :: .int .i64 (fbE n) :: .int .i64 (fbE m) :: .bool true :: .tuple [mgV (frM (fbB m)) A900608 c900609 B900610 d900611, .int .i64 (frE (fbB m))].toArray :: .slice A30 ((fbB m).length) c31 :: .tuple [mgV (frM (fbB m)) A900608 c900609 B900610 d900611, .int .i64 (frE (fbB m))].toArray :: mgV (frM (fbB m)) A900608 c900609 B900610 d900611 :: .int .i64 (frE (fbB m)) :: U32lb (U8lb (U4lb (undef :: undef :: [])))))) _ (x_extract (vs := [mgV (frM (fbB m)) A900608 c900609 B900610 d900611, .int .i64 (frE (fbB m))]) 1 (.int .i64 (frE (fbB m))) rfl rfl rfl) rfl ?_
          refine St.wAlloc HS (cs := [.int .i64 0, .int .u32 0, .int .u64 0, .int .u32 0, .int .u32 0, .int .u32 0, .int .u32 0, .int .i64 0, .int .i64 0, .int .u32 0, .slice none 0 0, .slice none 0 0]) (.agg [.int .i64 0, .int .u32 0, .int .u64 0, .int .u32 0, .int .u32 0, .int .u32 0, .int .u32 0, .int .i64 0, .int .i64 0, .int .u32 0, .slice none 0 0, .slice none 0 0].toArray) (by kernel_rfl) rfl ?_
          clear HS
          intro g900613 w900614 hg900615 HS
          refine St.stores (cs' := [.int .i64 ((frM (fbB m)).k), .int .u32 ((frM (fbB m)).e), .int .u64 ((frM (fbB m)).s), .int .u32 ((frM (fbB m)).te), .int .u32 ((frM (fbB m)).ts), .int .u32 ((frM (fbB m)).be), .int .u32 ((frM (fbB m)).bs), .int .i64 ((frM (fbB m)).ix), .int .i64 ((frM (fbB m)).tt), .int .u32 ((frM (fbB m)).tk), .slice A900608 ((frM (fbB m)).its.length) c900609, .slice B900610 ((frM (fbB m)).hvs.length) d900611]) HS [.int .i64 ((frM (fbB m)).k), .int .u32 ((frM (fbB m)).e), .int .u64 ((frM (fbB m)).s), .int .u32 ((frM (fbB m)).te), .int .u32 ((frM (fbB m)).ts), .int .u32 ((frM (fbB m)).be), .int .u32 ((frM (fbB m)).bs), .int .i64 ((frM (fbB m)).ix), .int .i64 ((frM (fbB m)).tt), .int .u32 ((frM (fbB m)).tk), .slice A900608 ((frM (fbB m)).its.length) c900609, .slice B900610 ((frM (fbB m)).hvs.length) d900611] 12 rfl rfl (by rfl) (by kernel_rfl) rfl (by simp) rfl ?_
          clear HS
          intro w900616 HS
          refine p_run _ (x_assign (.int .i64 (frE (fbB m))) rfl rfl) rfl ?_
          refine wpList_nil ?_
          refine hK900605 _ _ ?_
          refine wp_seq_k (fun K900617 hK900618 => ?_)
          refine free_frame (n := 23) (T := _) [0, 1, 3, 7, 7, 31, 63, 127, 255, 511, 1023, 2047, 4095, 8191, 4095, 20479, 65535, 4095, 4095, 397311, 1048575, 2097151, 4194303] [(0, 47), (1, 48), (2, 49), (3, 50), (4, 51), (5, 52), (6, 53), (7, 54), (8, 55), (9, 56), (10, 57), (11, 58), (12, 59), (13, 60), (14, 61), (15, 62), (16, 63), (17, 64), (18, 65), (19, 66), (20, 67), (21, 68), (22, 69)] (fun bq_ vq_ w_ => qv ((fun i_ => match i_ with | 0 => some (.int .i64 (frE (fbB m))) | 1 => some (.bool false) | 2 => some (.bool false) | 3 => some (mgV m A c B d) | 4 => some (mgV (frM (fbB m)) A900608 c900609 B900610 d900611) | 6 => some (.bool false) | 7 => some (.bool false) | 8 => some (.bool false) | 9 => some (.int .i64 (fbE n)) | 10 => some (.bool true) | 11 => some (.bool true) | 12 => some (.slice A30 ((fbB m).length) c31) | 13 => some (.string (strB (fbB m))) | 14 => some (.slice A37 ((fbB n).length) c38) | 15 => some (.string (strB (fbB n))) | 16 => some (.bool true) | 17 => some (mgV m A c B d) | 18 => some (mgV n A2 c2 B2 d2) | 20 => some (.bool false) | 21 => some (.bool false) | 22 => some (.bool false) | _ => none) : Nat → Option Value) bq_ vq_ ∧ cond (bq_ 19) (vq_ 5 = .bool true ∧ vq_ 19 = .bool true ∧ St w (fun _ => False) w_ ([blk g900613 [.int .i64 ((frM (fbB m)).k), .int .u32 ((frM (fbB m)).e), .int .u64 ((frM (fbB m)).s), .int .u32 ((frM (fbB m)).te), .int .u32 ((frM (fbB m)).ts), .int .u32 ((frM (fbB m)).be), .int .u32 ((frM (fbB m)).bs), .int .i64 ((frM (fbB m)).ix), .int .i64 ((frM (fbB m)).tt), .int .u32 ((frM (fbB m)).tk), .slice A900608 ((frM (fbB m)).its.length) c900609, .slice B900610 ((frM (fbB m)).hvs.length) d900611] 33, row kIt rfl 53 (.slice A900608 ((frM (fbB m)).its.length) c900609) ((frM (fbB m)).its), row kHv rfl 55 (.slice B900610 ((frM (fbB m)).hvs.length) d900611) ((frM (fbB m)).hvs), row kByte rfl 5 (.slice A37 ((fbB n).length) c38) (fbB n), row kByte rfl 5 (.slice A30 ((fbB m).length) c31) (fbB m), blk g8 [.int .i64 n.k, .int .u32 n.e, .int .u64 n.s, .int .u32 n.te, .int .u32 n.ts, .int .u32 n.be, .int .u32 n.bs, .int .i64 n.ix, .int .i64 n.tt, .int .u32 n.tk, .slice A2 n.its.length c2, .slice B2 n.hvs.length d2] 33, blk g5 [.int .i64 m.k, .int .u32 m.e, .int .u64 m.s, .int .u32 m.te, .int .u32 m.ts, .int .u32 m.be, .int .u32 m.bs, .int .i64 m.ix, .int .i64 m.tt, .int .u32 m.tk, .slice A m.its.length c, .slice B m.hvs.length d] 33])) (cond (bq_ 5) (vq_ 5 = .bool true ∧ St w (fun _ => False) w_ ([blk g900613 [.int .i64 ((frM (fbB m)).k), .int .u32 ((frM (fbB m)).e), .int .u64 ((frM (fbB m)).s), .int .u32 ((frM (fbB m)).te), .int .u32 ((frM (fbB m)).ts), .int .u32 ((frM (fbB m)).be), .int .u32 ((frM (fbB m)).bs), .int .i64 ((frM (fbB m)).ix), .int .i64 ((frM (fbB m)).tt), .int .u32 ((frM (fbB m)).tk), .slice A900608 ((frM (fbB m)).its.length) c900609, .slice B900610 ((frM (fbB m)).hvs.length) d900611] 33, row kIt rfl 53 (.slice A900608 ((frM (fbB m)).its.length) c900609) ((frM (fbB m)).its), row kHv rfl 55 (.slice B900610 ((frM (fbB m)).hvs.length) d900611) ((frM (fbB m)).hvs), row kByte rfl 5 (.slice A37 ((fbB n).length) c38) (fbB n), row kByte rfl 5 (.slice A30 ((fbB m).length) c31) (fbB m), blk g8 [.int .i64 n.k, .int .u32 n.e, .int .u64 n.s, .int .u32 n.te, .int .u32 n.ts, .int .u32 n.be, .int .u32 n.bs, .int .i64 n.ix, .int .i64 n.tt, .int .u32 n.tk, .slice A2 n.its.length c2, .slice B2 n.hvs.length d2] 33, blk g5 [.int .i64 m.k, .int .u32 m.e, .int .u64 m.s, .int .u32 m.te, .int .u32 m.ts, .int .u32 m.be, .int .u32 m.bs, .int .i64 m.ix, .int .i64 m.tt, .int .u32 m.tk, .slice A m.its.length c, .slice B m.hvs.length d] 33])) ((St w (fun _ => False) w_ ([blk g900613 [.int .i64 ((frM (fbB m)).k), .int .u32 ((frM (fbB m)).e), .int .u64 ((frM (fbB m)).s), .int .u32 ((frM (fbB m)).te), .int .u32 ((frM (fbB m)).ts), .int .u32 ((frM (fbB m)).be), .int .u32 ((frM (fbB m)).bs), .int .i64 ((frM (fbB m)).ix), .int .i64 ((frM (fbB m)).tt), .int .u32 ((frM (fbB m)).tk), .slice A900608 ((frM (fbB m)).its.length) c900609, .slice B900610 ((frM (fbB m)).hvs.length) d900611] 33, row kIt rfl 53 (.slice A900608 ((frM (fbB m)).its.length) c900609) ((frM (fbB m)).its), row kHv rfl 55 (.slice B900610 ((frM (fbB m)).hvs.length) d900611) ((frM (fbB m)).hvs), row kByte rfl 5 (.slice A37 ((fbB n).length) c38) (fbB n), row kByte rfl 5 (.slice A30 ((fbB m).length) c31) (fbB m), blk g8 [.int .i64 n.k, .int .u32 n.e, .int .u64 n.s, .int .u32 n.te, .int .u32 n.ts, .int .u32 n.be, .int .u32 n.bs, .int .i64 n.ix, .int .i64 n.tt, .int .u32 n.tk, .slice A2 n.its.length c2, .slice B2 n.hvs.length d2] 33, blk g5 [.int .i64 m.k, .int .u32 m.e, .int .u64 m.s, .int .u32 m.te, .int .u32 m.ts, .int .u32 m.be, .int .u32 m.bs, .int .i64 m.ix, .int .i64 m.tt, .int .u32 m.tk, .slice A m.its.length c, .slice B m.hvs.length d] 33]))))) (by kernel_rfl) rfl rfl (by kernel_rfl) (by kernel_rfl) rfl (by kernel_rfl) (by kernel_rfl) ⟨qv_none, HS.draw⟩ ?_ ?_
          · clear HS
            intro i_ hi_ bq_ vq_ a_ w_ hG hb_ hon hoff hfr hel hval
            obtain ⟨hV, hE⟩ := hG
            have hi_ := List.mem_range.1 hi_
            obtain ⟨l_, rfl⟩ := hfr
            have hv_ := fun (j t : Nat) (v : Value) (h1 : (j, t) ∈ [(0, 47), (1, 48), (2, 49), (3, 50), (4, 51), (5, 52), (6, 53), (7, 54), (8, 55), (9, 56), (10, 57), (11, 58), (12, 59), (13, 60), (14, 61), (15, 62), (16, 63), (17, 64), (18, 65), (19, 66), (20, 67), (21, 68), (22, 69)]) h2 h3 => (hval (j, t) h1 h3).trans (congrArg some (hV j v h2 h3))
            have hcs : i_ = 0 ∨ i_ = 1 ∨ i_ = 2 ∨ i_ = 3 ∨ i_ = 4 ∨ i_ = 5 ∨ i_ = 6 ∨ i_ = 7 ∨ i_ = 8 ∨ i_ = 9 ∨ i_ = 10 ∨ i_ = 11 ∨ i_ = 12 ∨ i_ = 13 ∨ i_ = 14 ∨ i_ = 15 ∨ i_ = 16 ∨ i_ = 17 ∨ i_ = 18 ∨ i_ = 19 ∨ i_ = 20 ∨ i_ = 21 ∨ i_ = 22 := by omega
            rcases hcs with rfl | rfl | rfl | rfl | rfl | rfl | rfl | rfl | rfl | rfl | rfl | rfl | rfl | rfl | rfl | rfl | rfl | rfl | rfl | rfl | rfl | rfl | rfl
            · have e12 : evl l_ (.tmp 12) = .int .i64 (frE (fbB m)) := evl_of ((hel 12 (by decide)).trans rfl)
              exact ⟨_, rfl, fun K_ hK_ => q_op _ (x_move (.int .i64 (frE (fbB m))) rfl e12) (hK_ _ _ ⟨qv_up hV (fun _ h => Option.some.inj h), hE⟩)⟩
            · have e47 : evl l_ (.tmp 47) = .int .i64 (frE (fbB m)) := evl_of (hv_ 0 47 _ (by decide) rfl (hon 0 (by decide)))
              exact ⟨_, rfl, fun K_ hK_ => q_op _ (x_cmp (k := .i64) (m := (frE (fbB m))) (n := 0) .neq false rfl e47 rfl (by rw [(fr_back hw h1).2.2]; rfl) rfl) (hK_ _ _ ⟨qv_up hV (fun _ h => Option.some.inj h), hE⟩)⟩
            · have e48 : evl l_ (.tmp 48) = .bool false := evl_of (hv_ 1 48 _ (by decide) rfl (hon 1 (by decide)))
              exact ⟨_, rfl, fun K_ hK_ => q_op _ (x_move (.bool false) rfl e48) (hK_ _ _ ⟨qv_up hV (fun _ h => Option.some.inj h), hE⟩)⟩
            · have h49 : (fr l_).tmps[49]? = some (.bool false) := hv_ 2 49 _ (by decide) rfl (hon 2 (by decide))
              have hE0 := hE
              rw [show bq_ 19 = false from (hoff 19 (by decide))] at hE0
              rw [show bq_ 5 = false from (hoff 5 (by decide))] at hE0
              simp only [cond_true, cond_false] at hE0
              have HS := hE0
              have e3 : evl l_ (.tmp 3) = .pointer (some ⟨g5, 0, none⟩) := evl_of ((hel 3 (by decide)).trans rfl)
              have e49 : evl l_ (.tmp 49) = .bool false := evl_of h49
              exact ⟨_, rfl, fun K_ hK_ => q_opG (wanted_on (t := 49) rfl rfl rfl h49) _ (x_loads [.int .i64 m.k, .int .u32 m.e, .int .u64 m.s, .int .u32 m.te, .int .u32 m.ts, .int .u32 m.be, .int .u32 m.bs, .int .i64 m.ix, .int .i64 m.tt, .int .u32 m.tk, .slice A m.its.length c, .slice B m.hvs.length d] 12 rfl e3 (bkCells (HS.get (.tail _ (.tail _ (.tail _ (.tail _ (.tail _ (.tail _ (.head _)))))))) 0 _ rfl) (by rfl) (by kernel_rfl) rfl) (hK_ _ _ ⟨qv_up hV (fun _ h => Option.some.inj h), hE⟩)⟩
            · have h49 : (fr l_).tmps[49]? = some (.bool false) := hv_ 2 49 _ (by decide) rfl (hon 2 (by decide))
              have hE0 := hE
              rw [show bq_ 19 = false from (hoff 19 (by decide))] at hE0
              rw [show bq_ 5 = false from (hoff 5 (by decide))] at hE0
              simp only [cond_true, cond_false] at hE0
              have HS := hE0
              have e11 : evl l_ (.tmp 11) = .pointer (some ⟨g900613, 0, none⟩) := evl_of ((hel 11 (by decide)).trans rfl)
              have e49 : evl l_ (.tmp 49) = .bool false := evl_of h49
              exact ⟨_, rfl, fun K_ hK_ => q_opG (wanted_on (t := 49) rfl rfl rfl h49) _ (x_loads [.int .i64 ((frM (fbB m)).k), .int .u32 ((frM (fbB m)).e), .int .u64 ((frM (fbB m)).s), .int .u32 ((frM (fbB m)).te), .int .u32 ((frM (fbB m)).ts), .int .u32 ((frM (fbB m)).be), .int .u32 ((frM (fbB m)).bs), .int .i64 ((frM (fbB m)).ix), .int .i64 ((frM (fbB m)).tt), .int .u32 ((frM (fbB m)).tk), .slice A900608 ((frM (fbB m)).its.length) c900609, .slice B900610 ((frM (fbB m)).hvs.length) d900611] 12 rfl e11 (bkCells (HS.get (.head _)) 0 _ rfl) (by rfl) (by kernel_rfl) rfl) (hK_ _ _ ⟨qv_up hV (fun _ h => Option.some.inj h), hE⟩)⟩
            · have h49 : (fr l_).tmps[49]? = some (.bool false) := hv_ 2 49 _ (by decide) rfl (hon 2 (by decide))
              have h50 : (fr l_).tmps[50]? = some (mgV m A c B d) := hv_ 3 50 _ (by decide) rfl (hon 3 (by decide))
              have h51 : (fr l_).tmps[51]? = some (mgV (frM (fbB m)) A900608 c900609 B900610 d900611) := hv_ 4 51 _ (by decide) rfl (hon 4 (by decide))
              have hE0 := hE
              rw [show bq_ 19 = false from (hoff 19 (by decide))] at hE0
              rw [show bq_ 5 = false from hb_] at hE0
              simp only [cond_true, cond_false] at hE0
              have HS := hE0
              have e49 : evl l_ (.tmp 49) = .bool false := evl_of h49
              have e50 : evl l_ (.tmp 50) = mgV m A c B d := evl_of h50
              have e51 : evl l_ (.tmp 51) = mgV (frM (fbB m)) A900608 c900609 B900610 d900611 := evl_of h51
              refine ⟨_, rfl, fun K_ hK_ => wp_of_listG rfl (wanted_on (t := 49) rfl rfl rfl h49) ?_⟩
              intro ops_
              refine w_call [mgV m A c B d, mgV (frM (fbB m)) A900608 c900609 B900610 d900611] Try.func16 (by kernel_rfl) (by rfl) (by simp only [List.map_cons, List.map_nil, e50, e51] <;> rfl) ?_
              refine (fsame_any _ m A c (Kd.C_below hA HS.belowOf) B d (Kd.C_below hB HS.belowOf) (by omega) (by omega) (frM (fbB m)) A900608 c900609 (row_C (HS.get (.tail _ (.head _)))).2.2 B900610 d900611 (row_C (HS.get (.tail _ (.tail _ (.head _))))).2.2 (Nat.le_trans (frM_its _) (by decide)) (Nat.le_trans (frM_hvs _) (by decide))).mono ?_
              rintro e w900501 ⟨he_, hb_⟩
              rw [(by rw [(fr_back hw h1).2.1]; exact smB_self _ : smB m (frM (fbB m)) = true)] at he_
              subst he_
              replace HS := HS.here hb_
              clear hb_
              refine ⟨_, rfl, ?_⟩
              refine wpList_nil ?_
              refine norm_put (hK_ (.bool true) _ ⟨qv_up hV (by intro _ h; cases h), ?_⟩)
              show cond (bq_ 19) _ _
              rw [show bq_ 19 = false from hoff 19 (by decide), cond_false]
              show cond true _ _
              rw [cond_true]
              exact ⟨rfl, (((((((HS.front 6 rfl).front 6 rfl).front 6 rfl).front 6 rfl).front 6 rfl).front 6 rfl).front 6 rfl)⟩
            · have h49 : (fr l_).tmps[49]? = some (.bool false) := hv_ 2 49 _ (by decide) rfl (hon 2 (by decide))
              have h52 := hval (5, 52) (by decide) (hon 5 (by decide))
              have hE0 := hE
              rw [show bq_ 19 = false from (hoff 19 (by decide))] at hE0
              rw [show bq_ 5 = true from (hon 5 (by decide))] at hE0
              simp only [cond_true, cond_false] at hE0
              obtain ⟨hv5, HS⟩ := hE0
              rw [hv5] at h52
              have e49 : evl l_ (.tmp 49) = .bool false := evl_of h49
              have e52 : evl l_ (.tmp 52) = .bool true := evl_of h52
              exact ⟨_, rfl, fun K_ hK_ => q_opG (wanted_on (t := 49) rfl rfl rfl h49) _ (x_not true rfl e52) (hK_ _ _ ⟨qv_up hV (fun _ h => Option.some.inj h), hE⟩)⟩
            · have e49 : evl l_ (.tmp 49) = .bool false := evl_of (hv_ 2 49 _ (by decide) rfl (hon 2 (by decide)))
              have e53 : evl l_ (.tmp 53) = .bool false := evl_of (hv_ 6 53 _ (by decide) rfl (hon 6 (by decide)))
              exact ⟨_, rfl, fun K_ hK_ => q_op _ (x_pick false (.bool true) (.bool false) (.bool false) rfl e49 rfl e53 rfl) (hK_ _ _ ⟨qv_up hV (fun _ h => Option.some.inj h), hE⟩)⟩
            · have e54 : evl l_ (.tmp 54) = .bool false := evl_of (hv_ 7 54 _ (by decide) rfl (hon 7 (by decide)))
              exact ⟨_, rfl, fun K_ hK_ => q_op _ (x_move (.bool false) rfl e54) (hK_ _ _ ⟨qv_up hV (fun _ h => Option.some.inj h), hE⟩)⟩
            · have h55 : (fr l_).tmps[55]? = some (.bool false) := hv_ 8 55 _ (by decide) rfl (hon 8 (by decide))
              have e10 : evl l_ (.tmp 10) = .int .i64 (fbE n) := evl_of ((hel 10 (by decide)).trans rfl)
              have e55 : evl l_ (.tmp 55) = .bool false := evl_of h55
              exact ⟨_, rfl, fun K_ hK_ => q_opG (wanted_on (t := 55) rfl rfl rfl h55) _ (x_move (.int .i64 (fbE n)) rfl e10) (hK_ _ _ ⟨qv_up hV (fun _ h => Option.some.inj h), hE⟩)⟩
            · have h55 : (fr l_).tmps[55]? = some (.bool false) := hv_ 8 55 _ (by decide) rfl (hon 8 (by decide))
              have e55 : evl l_ (.tmp 55) = .bool false := evl_of h55
              have e56 : evl l_ (.tmp 56) = .int .i64 (fbE n) := evl_of (hv_ 9 56 _ (by decide) rfl (hon 9 (by decide)))
              exact ⟨_, rfl, fun K_ hK_ => q_opG (wanted_on (t := 55) rfl rfl rfl h55) _ (x_cmp (k := .i64) (m := (fbE n)) (n := 0) .eql true rfl e56 rfl (by rw [(fb_yes h2).2]; rfl) rfl) (hK_ _ _ ⟨qv_up hV (fun _ h => Option.some.inj h), hE⟩)⟩
            · have h55 : (fr l_).tmps[55]? = some (.bool false) := hv_ 8 55 _ (by decide) rfl (hon 8 (by decide))
              have e55 : evl l_ (.tmp 55) = .bool false := evl_of h55
              have e57 : evl l_ (.tmp 57) = .bool true := evl_of (hv_ 10 57 _ (by decide) rfl (hon 10 (by decide)))
              exact ⟨_, rfl, fun K_ hK_ => q_opG (wanted_on (t := 55) rfl rfl rfl h55) _ (x_move (.bool true) rfl e57) (hK_ _ _ ⟨qv_up hV (fun _ h => Option.some.inj h), hE⟩)⟩
            · have h58 : (fr l_).tmps[58]? = some (.bool true) := hv_ 11 58 _ (by decide) rfl (hon 11 (by decide))
              have e7 : evl l_ (.tmp 7) = .slice A30 ((fbB m).length) c31 := evl_of ((hel 7 (by decide)).trans rfl)
              have e58 : evl l_ (.tmp 58) = .bool true := evl_of h58
              exact ⟨_, rfl, fun K_ hK_ => q_opG (wanted_on (t := 58) rfl rfl rfl h58) _ (x_move (.slice A30 ((fbB m).length) c31) rfl e7) (hK_ _ _ ⟨qv_up hV (fun _ h => Option.some.inj h), hE⟩)⟩
            · have h58 : (fr l_).tmps[58]? = some (.bool true) := hv_ 11 58 _ (by decide) rfl (hon 11 (by decide))
              rcases hq19 : bq_ 19 with _ | _
              · skip
                have hE0 := hE
                rw [show bq_ 19 = false from hq19] at hE0
                rw [show bq_ 5 = true from (hon 5 (by decide))] at hE0
                simp only [cond_true, cond_false] at hE0
                obtain ⟨hv5, HS⟩ := hE0
                have e58 : evl l_ (.tmp 58) = .bool true := evl_of h58
                have e59 : evl l_ (.tmp 59) = .slice A30 ((fbB m).length) c31 := evl_of (hv_ 12 59 _ (by decide) rfl (hon 12 (by decide)))
                exact ⟨_, rfl, fun K_ hK_ => q_opG (wanted_on (t := 58) rfl rfl rfl h58) _ (x_str (xs := (fbB m)) (row_rd (HS.get (.tail _ (.tail _ (.tail _ (.tail _ (.head _))))))).2.2 (by first | rfl | simp) rfl e59) (hK_ _ _ ⟨qv_up hV (fun _ h => Option.some.inj h), hE⟩)⟩
              · have hE0 := hE
                rw [show bq_ 19 = true from hq19] at hE0
                simp only [cond_true, cond_false] at hE0
                obtain ⟨hv5, hv19, HS⟩ := hE0
                have e58 : evl l_ (.tmp 58) = .bool true := evl_of h58
                have e59 : evl l_ (.tmp 59) = .slice A30 ((fbB m).length) c31 := evl_of (hv_ 12 59 _ (by decide) rfl (hon 12 (by decide)))
                exact ⟨_, rfl, fun K_ hK_ => q_opG (wanted_on (t := 58) rfl rfl rfl h58) _ (x_str (xs := (fbB m)) (row_rd (HS.get (.tail _ (.tail _ (.tail _ (.tail _ (.head _))))))).2.2 (by first | rfl | simp) rfl e59) (hK_ _ _ ⟨qv_up hV (fun _ h => Option.some.inj h), hE⟩)⟩
            · have h58 : (fr l_).tmps[58]? = some (.bool true) := hv_ 11 58 _ (by decide) rfl (hon 11 (by decide))
              have e9 : evl l_ (.tmp 9) = .slice A37 ((fbB n).length) c38 := evl_of ((hel 9 (by decide)).trans rfl)
              have e58 : evl l_ (.tmp 58) = .bool true := evl_of h58
              exact ⟨_, rfl, fun K_ hK_ => q_opG (wanted_on (t := 58) rfl rfl rfl h58) _ (x_move (.slice A37 ((fbB n).length) c38) rfl e9) (hK_ _ _ ⟨qv_up hV (fun _ h => Option.some.inj h), hE⟩)⟩
            · have h58 : (fr l_).tmps[58]? = some (.bool true) := hv_ 11 58 _ (by decide) rfl (hon 11 (by decide))
              rcases hq19 : bq_ 19 with _ | _
              · skip
                have hE0 := hE
                rw [show bq_ 19 = false from hq19] at hE0
                rw [show bq_ 5 = true from (hon 5 (by decide))] at hE0
                simp only [cond_true, cond_false] at hE0
                obtain ⟨hv5, HS⟩ := hE0
                have e58 : evl l_ (.tmp 58) = .bool true := evl_of h58
                have e61 : evl l_ (.tmp 61) = .slice A37 ((fbB n).length) c38 := evl_of (hv_ 14 61 _ (by decide) rfl (hon 14 (by decide)))
                exact ⟨_, rfl, fun K_ hK_ => q_opG (wanted_on (t := 58) rfl rfl rfl h58) _ (x_str (xs := (fbB n)) (row_rd (HS.get (.tail _ (.tail _ (.tail _ (.head _)))))).2.2 (by first | rfl | simp) rfl e61) (hK_ _ _ ⟨qv_up hV (fun _ h => Option.some.inj h), hE⟩)⟩
              · have hE0 := hE
                rw [show bq_ 19 = true from hq19] at hE0
                simp only [cond_true, cond_false] at hE0
                obtain ⟨hv5, hv19, HS⟩ := hE0
                have e58 : evl l_ (.tmp 58) = .bool true := evl_of h58
                have e61 : evl l_ (.tmp 61) = .slice A37 ((fbB n).length) c38 := evl_of (hv_ 14 61 _ (by decide) rfl (hon 14 (by decide)))
                exact ⟨_, rfl, fun K_ hK_ => q_opG (wanted_on (t := 58) rfl rfl rfl h58) _ (x_str (xs := (fbB n)) (row_rd (HS.get (.tail _ (.tail _ (.tail _ (.head _)))))).2.2 (by first | rfl | simp) rfl e61) (hK_ _ _ ⟨qv_up hV (fun _ h => Option.some.inj h), hE⟩)⟩
            · have h58 : (fr l_).tmps[58]? = some (.bool true) := hv_ 11 58 _ (by decide) rfl (hon 11 (by decide))
              have e58 : evl l_ (.tmp 58) = .bool true := evl_of h58
              have e60 : evl l_ (.tmp 60) = .string (strB (fbB m)) := evl_of (hv_ 13 60 _ (by decide) rfl (hon 13 (by decide)))
              have e62 : evl l_ (.tmp 62) = .string (strB (fbB n)) := evl_of (hv_ 15 62 _ (by decide) rfl (hon 15 (by decide)))
              exact ⟨_, rfl, fun K_ hK_ => q_opG (wanted_on (t := 58) rfl rfl rfl h58) _ (x_streq .eql (strB (fbB m)) (strB (fbB n)) true rfl e60 e62 (seq_eq ((fb_same hw hv h1 h2).trans h3)) rfl) (hK_ _ _ ⟨qv_up hV (fun _ h => Option.some.inj h), hE⟩)⟩
            · have h58 : (fr l_).tmps[58]? = some (.bool true) := hv_ 11 58 _ (by decide) rfl (hon 11 (by decide))
              have hE0 := hE
              rw [show bq_ 19 = false from (hoff 19 (by decide))] at hE0
              rw [show bq_ 5 = true from (hon 5 (by decide))] at hE0
              simp only [cond_true, cond_false] at hE0
              obtain ⟨hv5, HS⟩ := hE0
              have e3 : evl l_ (.tmp 3) = .pointer (some ⟨g5, 0, none⟩) := evl_of ((hel 3 (by decide)).trans rfl)
              have e58 : evl l_ (.tmp 58) = .bool true := evl_of h58
              exact ⟨_, rfl, fun K_ hK_ => q_opG (wanted_on (t := 58) rfl rfl rfl h58) _ (x_loads [.int .i64 m.k, .int .u32 m.e, .int .u64 m.s, .int .u32 m.te, .int .u32 m.ts, .int .u32 m.be, .int .u32 m.bs, .int .i64 m.ix, .int .i64 m.tt, .int .u32 m.tk, .slice A m.its.length c, .slice B m.hvs.length d] 12 rfl e3 (bkCells (HS.get (.tail _ (.tail _ (.tail _ (.tail _ (.tail _ (.tail _ (.head _)))))))) 0 _ rfl) (by rfl) (by kernel_rfl) rfl) (hK_ _ _ ⟨qv_up hV (fun _ h => Option.some.inj h), hE⟩)⟩
            · have h58 : (fr l_).tmps[58]? = some (.bool true) := hv_ 11 58 _ (by decide) rfl (hon 11 (by decide))
              have hE0 := hE
              rw [show bq_ 19 = false from (hoff 19 (by decide))] at hE0
              rw [show bq_ 5 = true from (hon 5 (by decide))] at hE0
              simp only [cond_true, cond_false] at hE0
              obtain ⟨hv5, HS⟩ := hE0
              have e4 : evl l_ (.tmp 4) = .pointer (some ⟨g8, 0, none⟩) := evl_of ((hel 4 (by decide)).trans rfl)
              have e58 : evl l_ (.tmp 58) = .bool true := evl_of h58
              exact ⟨_, rfl, fun K_ hK_ => q_opG (wanted_on (t := 58) rfl rfl rfl h58) _ (x_loads [.int .i64 n.k, .int .u32 n.e, .int .u64 n.s, .int .u32 n.te, .int .u32 n.ts, .int .u32 n.be, .int .u32 n.bs, .int .i64 n.ix, .int .i64 n.tt, .int .u32 n.tk, .slice A2 n.its.length c2, .slice B2 n.hvs.length d2] 12 rfl e4 (bkCells (HS.get (.tail _ (.tail _ (.tail _ (.tail _ (.tail _ (.head _))))))) 0 _ rfl) (by rfl) (by kernel_rfl) rfl) (hK_ _ _ ⟨qv_up hV (fun _ h => Option.some.inj h), hE⟩)⟩
            · have h58 : (fr l_).tmps[58]? = some (.bool true) := hv_ 11 58 _ (by decide) rfl (hon 11 (by decide))
              have h64 : (fr l_).tmps[64]? = some (mgV m A c B d) := hv_ 17 64 _ (by decide) rfl (hon 17 (by decide))
              have h65 : (fr l_).tmps[65]? = some (mgV n A2 c2 B2 d2) := hv_ 18 65 _ (by decide) rfl (hon 18 (by decide))
              have hE0 := hE
              rw [show bq_ 19 = false from hb_] at hE0
              rw [show bq_ 5 = true from (hon 5 (by decide))] at hE0
              simp only [cond_true, cond_false] at hE0
              obtain ⟨hv5, HS⟩ := hE0
              have e58 : evl l_ (.tmp 58) = .bool true := evl_of h58
              have e64 : evl l_ (.tmp 64) = mgV m A c B d := evl_of h64
              have e65 : evl l_ (.tmp 65) = mgV n A2 c2 B2 d2 := evl_of h65
              refine ⟨_, rfl, fun K_ hK_ => wp_of_listG rfl (wanted_on (t := 58) rfl rfl rfl h58) ?_⟩
              intro ops_
              refine w_call [mgV m A c B d, mgV n A2 c2 B2 d2] Try.func16 (by kernel_rfl) (by rfl) (by simp only [List.map_cons, List.map_nil, e64, e65] <;> rfl) ?_
              refine (fsame_any _ m A c (Kd.C_below hA HS.belowOf) B d (Kd.C_below hB HS.belowOf) (by omega) (by omega) n A2 c2 (Kd.C_below hA2 HS.belowOf) B2 d2 (Kd.C_below hB2 HS.belowOf) (by omega) (by omega)).mono ?_
              rintro e w901901 ⟨he_, hb_⟩
              rw [h3] at he_
              subst he_
              replace HS := HS.here hb_
              clear hb_
              refine ⟨_, rfl, ?_⟩
              refine wpList_nil ?_
              refine norm_put (hK_ (.bool true) _ ⟨qv_up hV (by intro _ h; cases h), ?_⟩)
              show cond true _ _
              rw [cond_true]
              exact ⟨hv5, rfl, (((((((HS.front 6 rfl).front 6 rfl).front 6 rfl).front 6 rfl).front 6 rfl).front 6 rfl).front 6 rfl)⟩
            · have h58 : (fr l_).tmps[58]? = some (.bool true) := hv_ 11 58 _ (by decide) rfl (hon 11 (by decide))
              have h66 := hval (19, 66) (by decide) (hon 19 (by decide))
              have hE0 := hE
              rw [show bq_ 19 = true from (hon 19 (by decide))] at hE0
              simp only [cond_true, cond_false] at hE0
              obtain ⟨hv5, hv19, HS⟩ := hE0
              rw [hv19] at h66
              have e58 : evl l_ (.tmp 58) = .bool true := evl_of h58
              have e63 : evl l_ (.tmp 63) = .bool true := evl_of (hv_ 16 63 _ (by decide) rfl (hon 16 (by decide)))
              have e66 : evl l_ (.tmp 66) = .bool true := evl_of h66
              exact ⟨_, rfl, fun K_ hK_ => q_opG (wanted_on (t := 58) rfl rfl rfl h58) _ (x_boolcmp .neq true true false rfl e63 e66 Try.underlying4 rfl rfl) (hK_ _ _ ⟨qv_up hV (fun _ h => Option.some.inj h), hE⟩)⟩
            · have h55 : (fr l_).tmps[55]? = some (.bool false) := hv_ 8 55 _ (by decide) rfl (hon 8 (by decide))
              have e55 : evl l_ (.tmp 55) = .bool false := evl_of h55
              have e58 : evl l_ (.tmp 58) = .bool true := evl_of (hv_ 11 58 _ (by decide) rfl (hon 11 (by decide)))
              have e67 : evl l_ (.tmp 67) = .bool false := evl_of (hv_ 20 67 _ (by decide) rfl (hon 20 (by decide)))
              exact ⟨_, rfl, fun K_ hK_ => q_opG (wanted_on (t := 55) rfl rfl rfl h55) _ (x_pick true (.bool false) (.bool false) (.bool false) rfl e58 e67 rfl rfl) (hK_ _ _ ⟨qv_up hV (fun _ h => Option.some.inj h), hE⟩)⟩
            · have e55 : evl l_ (.tmp 55) = .bool false := evl_of (hv_ 8 55 _ (by decide) rfl (hon 8 (by decide)))
              have e68 : evl l_ (.tmp 68) = .bool false := evl_of (hv_ 21 68 _ (by decide) rfl (hon 21 (by decide)))
              exact ⟨_, rfl, fun K_ hK_ => q_op _ (x_pick false (.bool true) (.bool false) (.bool false) rfl e55 rfl e68 rfl) (hK_ _ _ ⟨qv_up hV (fun _ h => Option.some.inj h), hE⟩)⟩
          intro bq_ vq_ w_ hall hG
          obtain ⟨hV, hE⟩ := hG
          clear HS
          rw [show bq_ 19 = true from hall 19 (by decide)] at hE
          simp only [cond_true] at hE
          obtain ⟨hv5, hv19, HS⟩ := hE
          have hv0 := hV 0 _ rfl (hall 0 (by decide))
          have hv1 := hV 1 _ rfl (hall 1 (by decide))
          have hv2 := hV 2 _ rfl (hall 2 (by decide))
          have hv3 := hV 3 _ rfl (hall 3 (by decide))
          have hv4 := hV 4 _ rfl (hall 4 (by decide))
          have hv6 := hV 6 _ rfl (hall 6 (by decide))
          have hv7 := hV 7 _ rfl (hall 7 (by decide))
          have hv8 := hV 8 _ rfl (hall 8 (by decide))
          have hv9 := hV 9 _ rfl (hall 9 (by decide))
          have hv10 := hV 10 _ rfl (hall 10 (by decide))
          have hv11 := hV 11 _ rfl (hall 11 (by decide))
          have hv12 := hV 12 _ rfl (hall 12 (by decide))
          have hv13 := hV 13 _ rfl (hall 13 (by decide))
          have hv14 := hV 14 _ rfl (hall 14 (by decide))
          have hv15 := hV 15 _ rfl (hall 15 (by decide))
          have hv16 := hV 16 _ rfl (hall 16 (by decide))
          have hv17 := hV 17 _ rfl (hall 17 (by decide))
          have hv18 := hV 18 _ rfl (hall 18 (by decide))
          have hv20 := hV 20 _ rfl (hall 20 (by decide))
          have hv21 := hV 21 _ rfl (hall 21 (by decide))
          have hv22 := hV 22 _ rfl (hall 22 (by decide))
          clear hV hall
          rw [putSel_fr]
          simp only [tells, List.map_cons, List.map_nil, setAll, List.set_cons_succ, List.set_cons_zero, hv0, hv1, hv2, hv3, hv4, hv5, hv6, hv7, hv8, hv9, hv10, hv11, hv12, hv13, hv14, hv15, hv16, hv17, hv18, hv19, hv20, hv21, hv22]
          clear hv0 hv1 hv2 hv3 hv4 hv5 hv6 hv7 hv8 hv9 hv10 hv11 hv12 hv13 hv14 hv15 hv16 hv17 hv18 hv19 hv20 hv21 hv22
          generalize w_ = w902001 at HS ⊢
          refine fr_at (l' := (mgV m A c B d :: mgV n A2 c2 B2 d2 :: .slice C xs.length cc :: .pointer (some ⟨g5, 0, none⟩) :: .pointer (some ⟨g8, 0, none⟩) :: undef :: .bool false :: .slice A30 ((fbB m).length) c31 :: .int .i64 (fbE m) :: .slice A37 ((fbB n).length) c38 :: .int .i64 (fbE n) :: .pointer (some ⟨g900613, 0, none⟩) :: .int .i64 (frE (fbB m)) :: U4lb (.bool true :: .bool false :: mgV m A c B d :: .bool false :: .bool false :: mgV n A2 c2 B2 d2 :: .bool false :: .bool false :: .bool false :: .slice C xs.length cc :: .int .i64 (xs.length : Int) :: .bool false :: .bool false :: .tuple [.slice A30 ((fbB m).length) c31, .int .i64 (fbE m)].toArray :: mgV m A c B d :: .tuple [.slice A30 ((fbB m).length) c31, .int .i64 (fbE m)].toArray :: .slice A30 ((fbB m).length) c31 :: .int .i64 (fbE m) :: .tuple [.slice A37 ((fbB n).length) c38, .int .i64 (fbE n)].toArray :: mgV n A2 c2 B2 d2 :: .tuple [.slice A37 ((fbB n).length) c38, .int .i64 (fbE n)].toArray :: .slice A37 ((fbB n).length) c38 :: .int .i64 (fbE n) :: .int .i64 (fbE m) :: .bool true :: .tuple [mgV (frM (fbB m)) A900608 c900609 B900610 d900611, .int .i64 (frE (fbB m))].toArray :: .slice A30 ((fbB m).length) c31 :: .tuple [mgV (frM (fbB m)) A900608 c900609 B900610 d900611, .int .i64 (frE (fbB m))].toArray :: mgV (frM (fbB m)) A900608 c900609 B900610 d900611 :: .int .i64 (frE (fbB m)) :: .int .i64 (frE (fbB m)) :: .bool false :: .bool false :: mgV m A c B d :: mgV (frM (fbB m)) A900608 c900609 B900610 d900611 :: .bool true :: .bool false :: .bool false :: .bool false :: .int .i64 (fbE n) :: .bool true :: .bool true :: .slice A30 ((fbB m).length) c31 :: .string (strB (fbB m)) :: .slice A37 ((fbB n).length) c38 :: .string (strB (fbB n)) :: .bool true :: mgV m A c B d :: mgV n A2 c2 B2 d2 :: .bool true :: .bool false :: .bool false :: .bool false :: U16lb (U4lb (undef :: undef :: undef :: []))))) rfl ?_
          refine hK900618 _ _ ?_
          refine c_false rfl ?_
          refine wp_skip ?_
          exact hT42 ⟨.bool false, .pointer (some ⟨g900613, 0, none⟩), .int .i64 (frE (fbB m)), .int .i64 (fbE m), .bool true, .tuple [mgV (frM (fbB m)) A900608 c900609 B900610 d900611, .int .i64 (frE (fbB m))].toArray, .slice A30 ((fbB m).length) c31, .tuple [mgV (frM (fbB m)) A900608 c900609 B900610 d900611, .int .i64 (frE (fbB m))].toArray⟩ ⟨mgV (frM (fbB m)) A900608 c900609 B900610 d900611, .int .i64 (frE (fbB m)), .int .i64 (frE (fbB m)), .bool false, .bool false, mgV m A c B d, mgV (frM (fbB m)) A900608 c900609 B900610 d900611, .bool true⟩ ⟨.bool false, .bool false, .bool false, .int .i64 (fbE n), .bool true, .bool true, .slice A30 ((fbB m).length) c31, .string (strB (fbB m))⟩ ⟨.slice A37 ((fbB n).length) c38, .string (strB (fbB n)), .bool true, mgV m A c B d, mgV n A2 c2 B2 d2, .bool true, .bool false, .bool false⟩ ⟨.bool false, undef, undef, undef, undef, undef, undef, undef⟩ _ HS.drop.drop.drop.drop.drop.drop.drop trivial
        · skip
          refine c_region (fun ops902003 hops902002 => ?_)
          clear hops902002
          refine p_run _ (x_move (.int .i64 (fbE m)) rfl rfl) rfl ?_
          refine p_run _ (x_cmp (k := .i64) (m := (fbE m)) (n := 0) .eql true rfl rfl rfl (by rw [(fb_yes h1).2]; rfl) rfl) rfl ?_
          refine wpList_nil ?_
          refine hK76 _ _ ?_
          refine c_true rfl ?_
          refine wp_seq_k (fun K902004 hK902005 => ?_)
          refine c_region (fun ops902007 hops902006 => ?_)
          clear hops902006
          refine p_run _ (x_move (.slice A30 ((fbB m).length) c31) rfl rfl) rfl ?_
          refine w_call [.slice A30 ((fbB m).length) c31] Try.func10 (by kernel_rfl) (by rfl) rfl ?_
          refine (fread_any _ A30 c31 (fbB m) (rowsl (HS.get (.tail _ (.head _)))) (by have := fb_le (m := m) hw; omega)).mono ?_
          rintro e w902012 ⟨A902008, c902009, B902010, d902011, rfl, hk_⟩
          replace HS := HS.more hk_
          clear hk_
          refine ⟨_, rfl, ?_⟩
          refine p_run _ (x_move (.tuple [mgV (frM (fbB m)) A902008 c902009 B902010 d902011, .int .i64 (frE (fbB m))].toArray) rfl rfl) rfl ?_
          refine p_run _ (x_extract (vs := [mgV (frM (fbB m)) A902008 c902009 B902010 d902011, .int .i64 (frE (fbB m))]) 0 (mgV (frM (fbB m)) A902008 c902009 B902010 d902011) rfl rfl rfl) rfl ?_
          refine p_run (l' := (mgV m A c B d :: mgV n A2 c2 B2 d2 :: .slice C xs.length cc :: .pointer (some ⟨g5, 0, none⟩) :: .pointer (some ⟨g8, 0, none⟩) :: undef :: .bool false :: .slice A30 ((fbB m).length) c31 :: .int .i64 (fbE m) :: .slice A37 ((fbB n).length) c38 :: .int .i64 (fbE n) :: U4lb (undef :: undef :: .bool true :: .bool false :: mgV m A c B d :: .bool false :: .bool false :: mgV n A2 c2 B2 d2 :: .bool false :: .bool false :: .bool false :: .slice C xs.length cc :: .int .i64 (xs.length : Int) :: .bool false :: .bool false :: .tuple [.slice A30 ((fbB m).length) c31, .int .i64 (fbE m)].toArray :: mgV m A c B d :: .tuple [.slice A30 ((fbB m).length) c31, .int .i64 (fbE m)].toArray :: .slice A30 ((fbB m).length) c31 :: .int .i64 (fbE m) :: .tuple [.slice A37 ((fbB n).length) c38, .int .i64 (fbE n)].toArray :: mgV n A2 c2 B2 d2 :: .tuple [.slice A37 ((fbB n).length) c38, .int .i64 (fbE n)].toArray :: .slice A37 ((fbB n).length) c38 :: .int .i64 (fbE n) :: .int .i64 (fbE m) :: .bool true :: .tuple [mgV (frM (fbB m)) A902008 c902009 B902010 d902011, .int .i64 (frE (fbB m))].toArray :: .slice A30 ((fbB m).length) c31 :: .tuple [mgV (frM (fbB m)) A902008 c902009 B902010 d902011, .int .i64 (frE (fbB m))].toArray :: mgV (frM (fbB m)) A902008 c902009 B902010 d902011 :: .int .i64 (frE (fbB m)) :: U32lb (U8lb (U4lb (undef :: undef :: [])))))) _ (x_extract (vs := [mgV (frM (fbB m)) A902008 c902009 B902010 d902011, .int .i64 (frE (fbB m))]) 1 (.int .i64 (frE (fbB m))) rfl rfl rfl) rfl ?_
          refine St.wAlloc HS (cs := [.int .i64 0, .int .u32 0, .int .u64 0, .int .u32 0, .int .u32 0, .int .u32 0, .int .u32 0, .int .i64 0, .int .i64 0, .int .u32 0, .slice none 0 0, .slice none 0 0]) (.agg [.int .i64 0, .int .u32 0, .int .u64 0, .int .u32 0, .int .u32 0, .int .u32 0, .int .u32 0, .int .i64 0, .int .i64 0, .int .u32 0, .slice none 0 0, .slice none 0 0].toArray) (by kernel_rfl) rfl ?_
          clear HS
          intro g902013 w902014 hg902015 HS
          refine St.stores (cs' := [.int .i64 ((frM (fbB m)).k), .int .u32 ((frM (fbB m)).e), .int .u64 ((frM (fbB m)).s), .int .u32 ((frM (fbB m)).te), .int .u32 ((frM (fbB m)).ts), .int .u32 ((frM (fbB m)).be), .int .u32 ((frM (fbB m)).bs), .int .i64 ((frM (fbB m)).ix), .int .i64 ((frM (fbB m)).tt), .int .u32 ((frM (fbB m)).tk), .slice A902008 ((frM (fbB m)).its.length) c902009, .slice B902010 ((frM (fbB m)).hvs.length) d902011]) HS [.int .i64 ((frM (fbB m)).k), .int .u32 ((frM (fbB m)).e), .int .u64 ((frM (fbB m)).s), .int .u32 ((frM (fbB m)).te), .int .u32 ((frM (fbB m)).ts), .int .u32 ((frM (fbB m)).be), .int .u32 ((frM (fbB m)).bs), .int .i64 ((frM (fbB m)).ix), .int .i64 ((frM (fbB m)).tt), .int .u32 ((frM (fbB m)).tk), .slice A902008 ((frM (fbB m)).its.length) c902009, .slice B902010 ((frM (fbB m)).hvs.length) d902011] 12 rfl rfl (by rfl) (by kernel_rfl) rfl (by simp) rfl ?_
          clear HS
          intro w902016 HS
          refine p_run _ (x_assign (.int .i64 (frE (fbB m))) rfl rfl) rfl ?_
          refine wpList_nil ?_
          refine hK902005 _ _ ?_
          refine wp_seq_k (fun K902017 hK902018 => ?_)
          refine free_frame (n := 23) (T := _) [0, 1, 3, 7, 7, 31, 63, 127, 255, 511, 1023, 2047, 4095, 8191, 4095, 20479, 65535, 4095, 4095, 397311, 1048575, 2097151, 4194303] [(0, 47), (1, 48), (2, 49), (3, 50), (4, 51), (5, 52), (6, 53), (7, 54), (8, 55), (9, 56), (10, 57), (11, 58), (12, 59), (13, 60), (14, 61), (15, 62), (16, 63), (17, 64), (18, 65), (19, 66), (20, 67), (21, 68), (22, 69)] (fun bq_ vq_ w_ => qv ((fun i_ => match i_ with | 0 => some (.int .i64 (frE (fbB m))) | 1 => some (.bool false) | 2 => some (.bool false) | 3 => some (mgV m A c B d) | 4 => some (mgV (frM (fbB m)) A902008 c902009 B902010 d902011) | 6 => some (.bool false) | 7 => some (.bool false) | 8 => some (.bool false) | 9 => some (.int .i64 (fbE n)) | 10 => some (.bool true) | 11 => some (.bool true) | 12 => some (.slice A30 ((fbB m).length) c31) | 13 => some (.string (strB (fbB m))) | 14 => some (.slice A37 ((fbB n).length) c38) | 15 => some (.string (strB (fbB n))) | 16 => some (.bool false) | 17 => some (mgV m A c B d) | 18 => some (mgV n A2 c2 B2 d2) | 20 => some (.bool false) | 21 => some (.bool false) | 22 => some (.bool false) | _ => none) : Nat → Option Value) bq_ vq_ ∧ cond (bq_ 19) (vq_ 5 = .bool true ∧ vq_ 19 = .bool false ∧ St w (fun _ => False) w_ ([blk g902013 [.int .i64 ((frM (fbB m)).k), .int .u32 ((frM (fbB m)).e), .int .u64 ((frM (fbB m)).s), .int .u32 ((frM (fbB m)).te), .int .u32 ((frM (fbB m)).ts), .int .u32 ((frM (fbB m)).be), .int .u32 ((frM (fbB m)).bs), .int .i64 ((frM (fbB m)).ix), .int .i64 ((frM (fbB m)).tt), .int .u32 ((frM (fbB m)).tk), .slice A902008 ((frM (fbB m)).its.length) c902009, .slice B902010 ((frM (fbB m)).hvs.length) d902011] 33, row kIt rfl 53 (.slice A902008 ((frM (fbB m)).its.length) c902009) ((frM (fbB m)).its), row kHv rfl 55 (.slice B902010 ((frM (fbB m)).hvs.length) d902011) ((frM (fbB m)).hvs), row kByte rfl 5 (.slice A37 ((fbB n).length) c38) (fbB n), row kByte rfl 5 (.slice A30 ((fbB m).length) c31) (fbB m), blk g8 [.int .i64 n.k, .int .u32 n.e, .int .u64 n.s, .int .u32 n.te, .int .u32 n.ts, .int .u32 n.be, .int .u32 n.bs, .int .i64 n.ix, .int .i64 n.tt, .int .u32 n.tk, .slice A2 n.its.length c2, .slice B2 n.hvs.length d2] 33, blk g5 [.int .i64 m.k, .int .u32 m.e, .int .u64 m.s, .int .u32 m.te, .int .u32 m.ts, .int .u32 m.be, .int .u32 m.bs, .int .i64 m.ix, .int .i64 m.tt, .int .u32 m.tk, .slice A m.its.length c, .slice B m.hvs.length d] 33])) (cond (bq_ 5) (vq_ 5 = .bool true ∧ St w (fun _ => False) w_ ([blk g902013 [.int .i64 ((frM (fbB m)).k), .int .u32 ((frM (fbB m)).e), .int .u64 ((frM (fbB m)).s), .int .u32 ((frM (fbB m)).te), .int .u32 ((frM (fbB m)).ts), .int .u32 ((frM (fbB m)).be), .int .u32 ((frM (fbB m)).bs), .int .i64 ((frM (fbB m)).ix), .int .i64 ((frM (fbB m)).tt), .int .u32 ((frM (fbB m)).tk), .slice A902008 ((frM (fbB m)).its.length) c902009, .slice B902010 ((frM (fbB m)).hvs.length) d902011] 33, row kIt rfl 53 (.slice A902008 ((frM (fbB m)).its.length) c902009) ((frM (fbB m)).its), row kHv rfl 55 (.slice B902010 ((frM (fbB m)).hvs.length) d902011) ((frM (fbB m)).hvs), row kByte rfl 5 (.slice A37 ((fbB n).length) c38) (fbB n), row kByte rfl 5 (.slice A30 ((fbB m).length) c31) (fbB m), blk g8 [.int .i64 n.k, .int .u32 n.e, .int .u64 n.s, .int .u32 n.te, .int .u32 n.ts, .int .u32 n.be, .int .u32 n.bs, .int .i64 n.ix, .int .i64 n.tt, .int .u32 n.tk, .slice A2 n.its.length c2, .slice B2 n.hvs.length d2] 33, blk g5 [.int .i64 m.k, .int .u32 m.e, .int .u64 m.s, .int .u32 m.te, .int .u32 m.ts, .int .u32 m.be, .int .u32 m.bs, .int .i64 m.ix, .int .i64 m.tt, .int .u32 m.tk, .slice A m.its.length c, .slice B m.hvs.length d] 33])) ((St w (fun _ => False) w_ ([blk g902013 [.int .i64 ((frM (fbB m)).k), .int .u32 ((frM (fbB m)).e), .int .u64 ((frM (fbB m)).s), .int .u32 ((frM (fbB m)).te), .int .u32 ((frM (fbB m)).ts), .int .u32 ((frM (fbB m)).be), .int .u32 ((frM (fbB m)).bs), .int .i64 ((frM (fbB m)).ix), .int .i64 ((frM (fbB m)).tt), .int .u32 ((frM (fbB m)).tk), .slice A902008 ((frM (fbB m)).its.length) c902009, .slice B902010 ((frM (fbB m)).hvs.length) d902011] 33, row kIt rfl 53 (.slice A902008 ((frM (fbB m)).its.length) c902009) ((frM (fbB m)).its), row kHv rfl 55 (.slice B902010 ((frM (fbB m)).hvs.length) d902011) ((frM (fbB m)).hvs), row kByte rfl 5 (.slice A37 ((fbB n).length) c38) (fbB n), row kByte rfl 5 (.slice A30 ((fbB m).length) c31) (fbB m), blk g8 [.int .i64 n.k, .int .u32 n.e, .int .u64 n.s, .int .u32 n.te, .int .u32 n.ts, .int .u32 n.be, .int .u32 n.bs, .int .i64 n.ix, .int .i64 n.tt, .int .u32 n.tk, .slice A2 n.its.length c2, .slice B2 n.hvs.length d2] 33, blk g5 [.int .i64 m.k, .int .u32 m.e, .int .u64 m.s, .int .u32 m.te, .int .u32 m.ts, .int .u32 m.be, .int .u32 m.bs, .int .i64 m.ix, .int .i64 m.tt, .int .u32 m.tk, .slice A m.its.length c, .slice B m.hvs.length d] 33]))))) (by kernel_rfl) rfl rfl (by kernel_rfl) (by kernel_rfl) rfl (by kernel_rfl) (by kernel_rfl) ⟨qv_none, HS.draw⟩ ?_ ?_
          · clear HS
            intro i_ hi_ bq_ vq_ a_ w_ hG hb_ hon hoff hfr hel hval
            obtain ⟨hV, hE⟩ := hG
            have hi_ := List.mem_range.1 hi_
            obtain ⟨l_, rfl⟩ := hfr
            have hv_ := fun (j t : Nat) (v : Value) (h1 : (j, t) ∈ [(0, 47), (1, 48), (2, 49), (3, 50), (4, 51), (5, 52), (6, 53), (7, 54), (8, 55), (9, 56), (10, 57), (11, 58), (12, 59), (13, 60), (14, 61), (15, 62), (16, 63), (17, 64), (18, 65), (19, 66), (20, 67), (21, 68), (22, 69)]) h2 h3 => (hval (j, t) h1 h3).trans (congrArg some (hV j v h2 h3))
            have hcs : i_ = 0 ∨ i_ = 1 ∨ i_ = 2 ∨ i_ = 3 ∨ i_ = 4 ∨ i_ = 5 ∨ i_ = 6 ∨ i_ = 7 ∨ i_ = 8 ∨ i_ = 9 ∨ i_ = 10 ∨ i_ = 11 ∨ i_ = 12 ∨ i_ = 13 ∨ i_ = 14 ∨ i_ = 15 ∨ i_ = 16 ∨ i_ = 17 ∨ i_ = 18 ∨ i_ = 19 ∨ i_ = 20 ∨ i_ = 21 ∨ i_ = 22 := by omega
            rcases hcs with rfl | rfl | rfl | rfl | rfl | rfl | rfl | rfl | rfl | rfl | rfl | rfl | rfl | rfl | rfl | rfl | rfl | rfl | rfl | rfl | rfl | rfl | rfl
            · have e12 : evl l_ (.tmp 12) = .int .i64 (frE (fbB m)) := evl_of ((hel 12 (by decide)).trans rfl)
              exact ⟨_, rfl, fun K_ hK_ => q_op _ (x_move (.int .i64 (frE (fbB m))) rfl e12) (hK_ _ _ ⟨qv_up hV (fun _ h => Option.some.inj h), hE⟩)⟩
            · have e47 : evl l_ (.tmp 47) = .int .i64 (frE (fbB m)) := evl_of (hv_ 0 47 _ (by decide) rfl (hon 0 (by decide)))
              exact ⟨_, rfl, fun K_ hK_ => q_op _ (x_cmp (k := .i64) (m := (frE (fbB m))) (n := 0) .neq false rfl e47 rfl (by rw [(fr_back hw h1).2.2]; rfl) rfl) (hK_ _ _ ⟨qv_up hV (fun _ h => Option.some.inj h), hE⟩)⟩
            · have e48 : evl l_ (.tmp 48) = .bool false := evl_of (hv_ 1 48 _ (by decide) rfl (hon 1 (by decide)))
              exact ⟨_, rfl, fun K_ hK_ => q_op _ (x_move (.bool false) rfl e48) (hK_ _ _ ⟨qv_up hV (fun _ h => Option.some.inj h), hE⟩)⟩
            · have h49 : (fr l_).tmps[49]? = some (.bool false) := hv_ 2 49 _ (by decide) rfl (hon 2 (by decide))
              have hE0 := hE
              rw [show bq_ 19 = false from (hoff 19 (by decide))] at hE0
              rw [show bq_ 5 = false from (hoff 5 (by decide))] at hE0
              simp only [cond_true, cond_false] at hE0
              have HS := hE0
              have e3 : evl l_ (.tmp 3) = .pointer (some ⟨g5, 0, none⟩) := evl_of ((hel 3 (by decide)).trans rfl)
              have e49 : evl l_ (.tmp 49) = .bool false := evl_of h49
              exact ⟨_, rfl, fun K_ hK_ => q_opG (wanted_on (t := 49) rfl rfl rfl h49) _ (x_loads [.int .i64 m.k, .int .u32 m.e, .int .u64 m.s, .int .u32 m.te, .int .u32 m.ts, .int .u32 m.be, .int .u32 m.bs, .int .i64 m.ix, .int .i64 m.tt, .int .u32 m.tk, .slice A m.its.length c, .slice B m.hvs.length d] 12 rfl e3 (bkCells (HS.get (.tail _ (.tail _ (.tail _ (.tail _ (.tail _ (.tail _ (.head _)))))))) 0 _ rfl) (by rfl) (by kernel_rfl) rfl) (hK_ _ _ ⟨qv_up hV (fun _ h => Option.some.inj h), hE⟩)⟩
            · have h49 : (fr l_).tmps[49]? = some (.bool false) := hv_ 2 49 _ (by decide) rfl (hon 2 (by decide))
              have hE0 := hE
              rw [show bq_ 19 = false from (hoff 19 (by decide))] at hE0
              rw [show bq_ 5 = false from (hoff 5 (by decide))] at hE0
              simp only [cond_true, cond_false] at hE0
              have HS := hE0
              have e11 : evl l_ (.tmp 11) = .pointer (some ⟨g902013, 0, none⟩) := evl_of ((hel 11 (by decide)).trans rfl)
              have e49 : evl l_ (.tmp 49) = .bool false := evl_of h49
              exact ⟨_, rfl, fun K_ hK_ => q_opG (wanted_on (t := 49) rfl rfl rfl h49) _ (x_loads [.int .i64 ((frM (fbB m)).k), .int .u32 ((frM (fbB m)).e), .int .u64 ((frM (fbB m)).s), .int .u32 ((frM (fbB m)).te), .int .u32 ((frM (fbB m)).ts), .int .u32 ((frM (fbB m)).be), .int .u32 ((frM (fbB m)).bs), .int .i64 ((frM (fbB m)).ix), .int .i64 ((frM (fbB m)).tt), .int .u32 ((frM (fbB m)).tk), .slice A902008 ((frM (fbB m)).its.length) c902009, .slice B902010 ((frM (fbB m)).hvs.length) d902011] 12 rfl e11 (bkCells (HS.get (.head _)) 0 _ rfl) (by rfl) (by kernel_rfl) rfl) (hK_ _ _ ⟨qv_up hV (fun _ h => Option.some.inj h), hE⟩)⟩
            · have h49 : (fr l_).tmps[49]? = some (.bool false) := hv_ 2 49 _ (by decide) rfl (hon 2 (by decide))
              have h50 : (fr l_).tmps[50]? = some (mgV m A c B d) := hv_ 3 50 _ (by decide) rfl (hon 3 (by decide))
              have h51 : (fr l_).tmps[51]? = some (mgV (frM (fbB m)) A902008 c902009 B902010 d902011) := hv_ 4 51 _ (by decide) rfl (hon 4 (by decide))
              have hE0 := hE
              rw [show bq_ 19 = false from (hoff 19 (by decide))] at hE0
              rw [show bq_ 5 = false from hb_] at hE0
              simp only [cond_true, cond_false] at hE0
              have HS := hE0
              have e49 : evl l_ (.tmp 49) = .bool false := evl_of h49
              have e50 : evl l_ (.tmp 50) = mgV m A c B d := evl_of h50
              have e51 : evl l_ (.tmp 51) = mgV (frM (fbB m)) A902008 c902009 B902010 d902011 := evl_of h51
              refine ⟨_, rfl, fun K_ hK_ => wp_of_listG rfl (wanted_on (t := 49) rfl rfl rfl h49) ?_⟩
              intro ops_
              refine w_call [mgV m A c B d, mgV (frM (fbB m)) A902008 c902009 B902010 d902011] Try.func16 (by kernel_rfl) (by rfl) (by simp only [List.map_cons, List.map_nil, e50, e51] <;> rfl) ?_
              refine (fsame_any _ m A c (Kd.C_below hA HS.belowOf) B d (Kd.C_below hB HS.belowOf) (by omega) (by omega) (frM (fbB m)) A902008 c902009 (row_C (HS.get (.tail _ (.head _)))).2.2 B902010 d902011 (row_C (HS.get (.tail _ (.tail _ (.head _))))).2.2 (Nat.le_trans (frM_its _) (by decide)) (Nat.le_trans (frM_hvs _) (by decide))).mono ?_
              rintro e w900501 ⟨he_, hb_⟩
              rw [(by rw [(fr_back hw h1).2.1]; exact smB_self _ : smB m (frM (fbB m)) = true)] at he_
              subst he_
              replace HS := HS.here hb_
              clear hb_
              refine ⟨_, rfl, ?_⟩
              refine wpList_nil ?_
              refine norm_put (hK_ (.bool true) _ ⟨qv_up hV (by intro _ h; cases h), ?_⟩)
              show cond (bq_ 19) _ _
              rw [show bq_ 19 = false from hoff 19 (by decide), cond_false]
              show cond true _ _
              rw [cond_true]
              exact ⟨rfl, (((((((HS.front 6 rfl).front 6 rfl).front 6 rfl).front 6 rfl).front 6 rfl).front 6 rfl).front 6 rfl)⟩
            · have h49 : (fr l_).tmps[49]? = some (.bool false) := hv_ 2 49 _ (by decide) rfl (hon 2 (by decide))
              have h52 := hval (5, 52) (by decide) (hon 5 (by decide))
              have hE0 := hE
              rw [show bq_ 19 = false from (hoff 19 (by decide))] at hE0
              rw [show bq_ 5 = true from (hon 5 (by decide))] at hE0
              simp only [cond_true, cond_false] at hE0
              obtain ⟨hv5, HS⟩ := hE0
              rw [hv5] at h52
              have e49 : evl l_ (.tmp 49) = .bool false := evl_of h49
              have e52 : evl l_ (.tmp 52) = .bool true := evl_of h52
              exact ⟨_, rfl, fun K_ hK_ => q_opG (wanted_on (t := 49) rfl rfl rfl h49) _ (x_not true rfl e52) (hK_ _ _ ⟨qv_up hV (fun _ h => Option.some.inj h), hE⟩)⟩
            · have e49 : evl l_ (.tmp 49) = .bool false := evl_of (hv_ 2 49 _ (by decide) rfl (hon 2 (by decide)))
              have e53 : evl l_ (.tmp 53) = .bool false := evl_of (hv_ 6 53 _ (by decide) rfl (hon 6 (by decide)))
              exact ⟨_, rfl, fun K_ hK_ => q_op _ (x_pick false (.bool true) (.bool false) (.bool false) rfl e49 rfl e53 rfl) (hK_ _ _ ⟨qv_up hV (fun _ h => Option.some.inj h), hE⟩)⟩
            · have e54 : evl l_ (.tmp 54) = .bool false := evl_of (hv_ 7 54 _ (by decide) rfl (hon 7 (by decide)))
              exact ⟨_, rfl, fun K_ hK_ => q_op _ (x_move (.bool false) rfl e54) (hK_ _ _ ⟨qv_up hV (fun _ h => Option.some.inj h), hE⟩)⟩
            · have h55 : (fr l_).tmps[55]? = some (.bool false) := hv_ 8 55 _ (by decide) rfl (hon 8 (by decide))
              have e10 : evl l_ (.tmp 10) = .int .i64 (fbE n) := evl_of ((hel 10 (by decide)).trans rfl)
              have e55 : evl l_ (.tmp 55) = .bool false := evl_of h55
              exact ⟨_, rfl, fun K_ hK_ => q_opG (wanted_on (t := 55) rfl rfl rfl h55) _ (x_move (.int .i64 (fbE n)) rfl e10) (hK_ _ _ ⟨qv_up hV (fun _ h => Option.some.inj h), hE⟩)⟩
            · have h55 : (fr l_).tmps[55]? = some (.bool false) := hv_ 8 55 _ (by decide) rfl (hon 8 (by decide))
              have e55 : evl l_ (.tmp 55) = .bool false := evl_of h55
              have e56 : evl l_ (.tmp 56) = .int .i64 (fbE n) := evl_of (hv_ 9 56 _ (by decide) rfl (hon 9 (by decide)))
              exact ⟨_, rfl, fun K_ hK_ => q_opG (wanted_on (t := 55) rfl rfl rfl h55) _ (x_cmp (k := .i64) (m := (fbE n)) (n := 0) .eql true rfl e56 rfl (by rw [(fb_yes h2).2]; rfl) rfl) (hK_ _ _ ⟨qv_up hV (fun _ h => Option.some.inj h), hE⟩)⟩
            · have h55 : (fr l_).tmps[55]? = some (.bool false) := hv_ 8 55 _ (by decide) rfl (hon 8 (by decide))
              have e55 : evl l_ (.tmp 55) = .bool false := evl_of h55
              have e57 : evl l_ (.tmp 57) = .bool true := evl_of (hv_ 10 57 _ (by decide) rfl (hon 10 (by decide)))
              exact ⟨_, rfl, fun K_ hK_ => q_opG (wanted_on (t := 55) rfl rfl rfl h55) _ (x_move (.bool true) rfl e57) (hK_ _ _ ⟨qv_up hV (fun _ h => Option.some.inj h), hE⟩)⟩
            · have h58 : (fr l_).tmps[58]? = some (.bool true) := hv_ 11 58 _ (by decide) rfl (hon 11 (by decide))
              have e7 : evl l_ (.tmp 7) = .slice A30 ((fbB m).length) c31 := evl_of ((hel 7 (by decide)).trans rfl)
              have e58 : evl l_ (.tmp 58) = .bool true := evl_of h58
              exact ⟨_, rfl, fun K_ hK_ => q_opG (wanted_on (t := 58) rfl rfl rfl h58) _ (x_move (.slice A30 ((fbB m).length) c31) rfl e7) (hK_ _ _ ⟨qv_up hV (fun _ h => Option.some.inj h), hE⟩)⟩
            · have h58 : (fr l_).tmps[58]? = some (.bool true) := hv_ 11 58 _ (by decide) rfl (hon 11 (by decide))
              rcases hq19 : bq_ 19 with _ | _
              · skip
                have hE0 := hE
                rw [show bq_ 19 = false from hq19] at hE0
                rw [show bq_ 5 = true from (hon 5 (by decide))] at hE0
                simp only [cond_true, cond_false] at hE0
                obtain ⟨hv5, HS⟩ := hE0
                have e58 : evl l_ (.tmp 58) = .bool true := evl_of h58
                have e59 : evl l_ (.tmp 59) = .slice A30 ((fbB m).length) c31 := evl_of (hv_ 12 59 _ (by decide) rfl (hon 12 (by decide)))
                exact ⟨_, rfl, fun K_ hK_ => q_opG (wanted_on (t := 58) rfl rfl rfl h58) _ (x_str (xs := (fbB m)) (row_rd (HS.get (.tail _ (.tail _ (.tail _ (.tail _ (.head _))))))).2.2 (by first | rfl | simp) rfl e59) (hK_ _ _ ⟨qv_up hV (fun _ h => Option.some.inj h), hE⟩)⟩
              · have hE0 := hE
                rw [show bq_ 19 = true from hq19] at hE0
                simp only [cond_true, cond_false] at hE0
                obtain ⟨hv5, hv19, HS⟩ := hE0
                have e58 : evl l_ (.tmp 58) = .bool true := evl_of h58
                have e59 : evl l_ (.tmp 59) = .slice A30 ((fbB m).length) c31 := evl_of (hv_ 12 59 _ (by decide) rfl (hon 12 (by decide)))
                exact ⟨_, rfl, fun K_ hK_ => q_opG (wanted_on (t := 58) rfl rfl rfl h58) _ (x_str (xs := (fbB m)) (row_rd (HS.get (.tail _ (.tail _ (.tail _ (.tail _ (.head _))))))).2.2 (by first | rfl | simp) rfl e59) (hK_ _ _ ⟨qv_up hV (fun _ h => Option.some.inj h), hE⟩)⟩
            · have h58 : (fr l_).tmps[58]? = some (.bool true) := hv_ 11 58 _ (by decide) rfl (hon 11 (by decide))
              have e9 : evl l_ (.tmp 9) = .slice A37 ((fbB n).length) c38 := evl_of ((hel 9 (by decide)).trans rfl)
              have e58 : evl l_ (.tmp 58) = .bool true := evl_of h58
              exact ⟨_, rfl, fun K_ hK_ => q_opG (wanted_on (t := 58) rfl rfl rfl h58) _ (x_move (.slice A37 ((fbB n).length) c38) rfl e9) (hK_ _ _ ⟨qv_up hV (fun _ h => Option.some.inj h), hE⟩)⟩
            · have h58 : (fr l_).tmps[58]? = some (.bool true) := hv_ 11 58 _ (by decide) rfl (hon 11 (by decide))
              rcases hq19 : bq_ 19 with _ | _
              · skip
                have hE0 := hE
                rw [show bq_ 19 = false from hq19] at hE0
                rw [show bq_ 5 = true from (hon 5 (by decide))] at hE0
                simp only [cond_true, cond_false] at hE0
                obtain ⟨hv5, HS⟩ := hE0
                have e58 : evl l_ (.tmp 58) = .bool true := evl_of h58
                have e61 : evl l_ (.tmp 61) = .slice A37 ((fbB n).length) c38 := evl_of (hv_ 14 61 _ (by decide) rfl (hon 14 (by decide)))
                exact ⟨_, rfl, fun K_ hK_ => q_opG (wanted_on (t := 58) rfl rfl rfl h58) _ (x_str (xs := (fbB n)) (row_rd (HS.get (.tail _ (.tail _ (.tail _ (.head _)))))).2.2 (by first | rfl | simp) rfl e61) (hK_ _ _ ⟨qv_up hV (fun _ h => Option.some.inj h), hE⟩)⟩
              · have hE0 := hE
                rw [show bq_ 19 = true from hq19] at hE0
                simp only [cond_true, cond_false] at hE0
                obtain ⟨hv5, hv19, HS⟩ := hE0
                have e58 : evl l_ (.tmp 58) = .bool true := evl_of h58
                have e61 : evl l_ (.tmp 61) = .slice A37 ((fbB n).length) c38 := evl_of (hv_ 14 61 _ (by decide) rfl (hon 14 (by decide)))
                exact ⟨_, rfl, fun K_ hK_ => q_opG (wanted_on (t := 58) rfl rfl rfl h58) _ (x_str (xs := (fbB n)) (row_rd (HS.get (.tail _ (.tail _ (.tail _ (.head _)))))).2.2 (by first | rfl | simp) rfl e61) (hK_ _ _ ⟨qv_up hV (fun _ h => Option.some.inj h), hE⟩)⟩
            · have h58 : (fr l_).tmps[58]? = some (.bool true) := hv_ 11 58 _ (by decide) rfl (hon 11 (by decide))
              have e58 : evl l_ (.tmp 58) = .bool true := evl_of h58
              have e60 : evl l_ (.tmp 60) = .string (strB (fbB m)) := evl_of (hv_ 13 60 _ (by decide) rfl (hon 13 (by decide)))
              have e62 : evl l_ (.tmp 62) = .string (strB (fbB n)) := evl_of (hv_ 15 62 _ (by decide) rfl (hon 15 (by decide)))
              exact ⟨_, rfl, fun K_ hK_ => q_opG (wanted_on (t := 58) rfl rfl rfl h58) _ (x_streq .eql (strB (fbB m)) (strB (fbB n)) false rfl e60 e62 (seq_eq ((fb_same hw hv h1 h2).trans h3)) rfl) (hK_ _ _ ⟨qv_up hV (fun _ h => Option.some.inj h), hE⟩)⟩
            · have h58 : (fr l_).tmps[58]? = some (.bool true) := hv_ 11 58 _ (by decide) rfl (hon 11 (by decide))
              have hE0 := hE
              rw [show bq_ 19 = false from (hoff 19 (by decide))] at hE0
              rw [show bq_ 5 = true from (hon 5 (by decide))] at hE0
              simp only [cond_true, cond_false] at hE0
              obtain ⟨hv5, HS⟩ := hE0
              have e3 : evl l_ (.tmp 3) = .pointer (some ⟨g5, 0, none⟩) := evl_of ((hel 3 (by decide)).trans rfl)
              have e58 : evl l_ (.tmp 58) = .bool true := evl_of h58
              exact ⟨_, rfl, fun K_ hK_ => q_opG (wanted_on (t := 58) rfl rfl rfl h58) _ (x_loads [.int .i64 m.k, .int .u32 m.e, .int .u64 m.s, .int .u32 m.te, .int .u32 m.ts, .int .u32 m.be, .int .u32 m.bs, .int .i64 m.ix, .int .i64 m.tt, .int .u32 m.tk, .slice A m.its.length c, .slice B m.hvs.length d] 12 rfl e3 (bkCells (HS.get (.tail _ (.tail _ (.tail _ (.tail _ (.tail _ (.tail _ (.head _)))))))) 0 _ rfl) (by rfl) (by kernel_rfl) rfl) (hK_ _ _ ⟨qv_up hV (fun _ h => Option.some.inj h), hE⟩)⟩
            · have h58 : (fr l_).tmps[58]? = some (.bool true) := hv_ 11 58 _ (by decide) rfl (hon 11 (by decide))
              have hE0 := hE
              rw [show bq_ 19 = false from (hoff 19 (by decide))] at hE0
              rw [show bq_ 5 = true from (hon 5 (by decide))] at hE0
              simp only [cond_true, cond_false] at hE0
              obtain ⟨hv5, HS⟩ := hE0
              have e4 : evl l_ (.tmp 4) = .pointer (some ⟨g8, 0, none⟩) := evl_of ((hel 4 (by decide)).trans rfl)
              have e58 : evl l_ (.tmp 58) = .bool true := evl_of h58
              exact ⟨_, rfl, fun K_ hK_ => q_opG (wanted_on (t := 58) rfl rfl rfl h58) _ (x_loads [.int .i64 n.k, .int .u32 n.e, .int .u64 n.s, .int .u32 n.te, .int .u32 n.ts, .int .u32 n.be, .int .u32 n.bs, .int .i64 n.ix, .int .i64 n.tt, .int .u32 n.tk, .slice A2 n.its.length c2, .slice B2 n.hvs.length d2] 12 rfl e4 (bkCells (HS.get (.tail _ (.tail _ (.tail _ (.tail _ (.tail _ (.head _))))))) 0 _ rfl) (by rfl) (by kernel_rfl) rfl) (hK_ _ _ ⟨qv_up hV (fun _ h => Option.some.inj h), hE⟩)⟩
            · have h58 : (fr l_).tmps[58]? = some (.bool true) := hv_ 11 58 _ (by decide) rfl (hon 11 (by decide))
              have h64 : (fr l_).tmps[64]? = some (mgV m A c B d) := hv_ 17 64 _ (by decide) rfl (hon 17 (by decide))
              have h65 : (fr l_).tmps[65]? = some (mgV n A2 c2 B2 d2) := hv_ 18 65 _ (by decide) rfl (hon 18 (by decide))
              have hE0 := hE
              rw [show bq_ 19 = false from hb_] at hE0
              rw [show bq_ 5 = true from (hon 5 (by decide))] at hE0
              simp only [cond_true, cond_false] at hE0
              obtain ⟨hv5, HS⟩ := hE0
              have e58 : evl l_ (.tmp 58) = .bool true := evl_of h58
              have e64 : evl l_ (.tmp 64) = mgV m A c B d := evl_of h64
              have e65 : evl l_ (.tmp 65) = mgV n A2 c2 B2 d2 := evl_of h65
              refine ⟨_, rfl, fun K_ hK_ => wp_of_listG rfl (wanted_on (t := 58) rfl rfl rfl h58) ?_⟩
              intro ops_
              refine w_call [mgV m A c B d, mgV n A2 c2 B2 d2] Try.func16 (by kernel_rfl) (by rfl) (by simp only [List.map_cons, List.map_nil, e64, e65] <;> rfl) ?_
              refine (fsame_any _ m A c (Kd.C_below hA HS.belowOf) B d (Kd.C_below hB HS.belowOf) (by omega) (by omega) n A2 c2 (Kd.C_below hA2 HS.belowOf) B2 d2 (Kd.C_below hB2 HS.belowOf) (by omega) (by omega)).mono ?_
              rintro e w901901 ⟨he_, hb_⟩
              rw [h3] at he_
              subst he_
              replace HS := HS.here hb_
              clear hb_
              refine ⟨_, rfl, ?_⟩
              refine wpList_nil ?_
              refine norm_put (hK_ (.bool false) _ ⟨qv_up hV (by intro _ h; cases h), ?_⟩)
              show cond true _ _
              rw [cond_true]
              exact ⟨hv5, rfl, (((((((HS.front 6 rfl).front 6 rfl).front 6 rfl).front 6 rfl).front 6 rfl).front 6 rfl).front 6 rfl)⟩
            · have h58 : (fr l_).tmps[58]? = some (.bool true) := hv_ 11 58 _ (by decide) rfl (hon 11 (by decide))
              have h66 := hval (19, 66) (by decide) (hon 19 (by decide))
              have hE0 := hE
              rw [show bq_ 19 = true from (hon 19 (by decide))] at hE0
              simp only [cond_true, cond_false] at hE0
              obtain ⟨hv5, hv19, HS⟩ := hE0
              rw [hv19] at h66
              have e58 : evl l_ (.tmp 58) = .bool true := evl_of h58
              have e63 : evl l_ (.tmp 63) = .bool false := evl_of (hv_ 16 63 _ (by decide) rfl (hon 16 (by decide)))
              have e66 : evl l_ (.tmp 66) = .bool false := evl_of h66
              exact ⟨_, rfl, fun K_ hK_ => q_opG (wanted_on (t := 58) rfl rfl rfl h58) _ (x_boolcmp .neq false false false rfl e63 e66 Try.underlying4 rfl rfl) (hK_ _ _ ⟨qv_up hV (fun _ h => Option.some.inj h), hE⟩)⟩
            · have h55 : (fr l_).tmps[55]? = some (.bool false) := hv_ 8 55 _ (by decide) rfl (hon 8 (by decide))
              have e55 : evl l_ (.tmp 55) = .bool false := evl_of h55
              have e58 : evl l_ (.tmp 58) = .bool true := evl_of (hv_ 11 58 _ (by decide) rfl (hon 11 (by decide)))
              have e67 : evl l_ (.tmp 67) = .bool false := evl_of (hv_ 20 67 _ (by decide) rfl (hon 20 (by decide)))
              exact ⟨_, rfl, fun K_ hK_ => q_opG (wanted_on (t := 55) rfl rfl rfl h55) _ (x_pick true (.bool false) (.bool false) (.bool false) rfl e58 e67 rfl rfl) (hK_ _ _ ⟨qv_up hV (fun _ h => Option.some.inj h), hE⟩)⟩
            · have e55 : evl l_ (.tmp 55) = .bool false := evl_of (hv_ 8 55 _ (by decide) rfl (hon 8 (by decide)))
              have e68 : evl l_ (.tmp 68) = .bool false := evl_of (hv_ 21 68 _ (by decide) rfl (hon 21 (by decide)))
              exact ⟨_, rfl, fun K_ hK_ => q_op _ (x_pick false (.bool true) (.bool false) (.bool false) rfl e55 rfl e68 rfl) (hK_ _ _ ⟨qv_up hV (fun _ h => Option.some.inj h), hE⟩)⟩
          intro bq_ vq_ w_ hall hG
          obtain ⟨hV, hE⟩ := hG
          clear HS
          rw [show bq_ 19 = true from hall 19 (by decide)] at hE
          simp only [cond_true] at hE
          obtain ⟨hv5, hv19, HS⟩ := hE
          have hv0 := hV 0 _ rfl (hall 0 (by decide))
          have hv1 := hV 1 _ rfl (hall 1 (by decide))
          have hv2 := hV 2 _ rfl (hall 2 (by decide))
          have hv3 := hV 3 _ rfl (hall 3 (by decide))
          have hv4 := hV 4 _ rfl (hall 4 (by decide))
          have hv6 := hV 6 _ rfl (hall 6 (by decide))
          have hv7 := hV 7 _ rfl (hall 7 (by decide))
          have hv8 := hV 8 _ rfl (hall 8 (by decide))
          have hv9 := hV 9 _ rfl (hall 9 (by decide))
          have hv10 := hV 10 _ rfl (hall 10 (by decide))
          have hv11 := hV 11 _ rfl (hall 11 (by decide))
          have hv12 := hV 12 _ rfl (hall 12 (by decide))
          have hv13 := hV 13 _ rfl (hall 13 (by decide))
          have hv14 := hV 14 _ rfl (hall 14 (by decide))
          have hv15 := hV 15 _ rfl (hall 15 (by decide))
          have hv16 := hV 16 _ rfl (hall 16 (by decide))
          have hv17 := hV 17 _ rfl (hall 17 (by decide))
          have hv18 := hV 18 _ rfl (hall 18 (by decide))
          have hv20 := hV 20 _ rfl (hall 20 (by decide))
          have hv21 := hV 21 _ rfl (hall 21 (by decide))
          have hv22 := hV 22 _ rfl (hall 22 (by decide))
          clear hV hall
          rw [putSel_fr]
          simp only [tells, List.map_cons, List.map_nil, setAll, List.set_cons_succ, List.set_cons_zero, hv0, hv1, hv2, hv3, hv4, hv5, hv6, hv7, hv8, hv9, hv10, hv11, hv12, hv13, hv14, hv15, hv16, hv17, hv18, hv19, hv20, hv21, hv22]
          clear hv0 hv1 hv2 hv3 hv4 hv5 hv6 hv7 hv8 hv9 hv10 hv11 hv12 hv13 hv14 hv15 hv16 hv17 hv18 hv19 hv20 hv21 hv22
          generalize w_ = w902001 at HS ⊢
          refine fr_at (l' := (mgV m A c B d :: mgV n A2 c2 B2 d2 :: .slice C xs.length cc :: .pointer (some ⟨g5, 0, none⟩) :: .pointer (some ⟨g8, 0, none⟩) :: undef :: .bool false :: .slice A30 ((fbB m).length) c31 :: .int .i64 (fbE m) :: .slice A37 ((fbB n).length) c38 :: .int .i64 (fbE n) :: .pointer (some ⟨g902013, 0, none⟩) :: .int .i64 (frE (fbB m)) :: U4lb (.bool true :: .bool false :: mgV m A c B d :: .bool false :: .bool false :: mgV n A2 c2 B2 d2 :: .bool false :: .bool false :: .bool false :: .slice C xs.length cc :: .int .i64 (xs.length : Int) :: .bool false :: .bool false :: .tuple [.slice A30 ((fbB m).length) c31, .int .i64 (fbE m)].toArray :: mgV m A c B d :: .tuple [.slice A30 ((fbB m).length) c31, .int .i64 (fbE m)].toArray :: .slice A30 ((fbB m).length) c31 :: .int .i64 (fbE m) :: .tuple [.slice A37 ((fbB n).length) c38, .int .i64 (fbE n)].toArray :: mgV n A2 c2 B2 d2 :: .tuple [.slice A37 ((fbB n).length) c38, .int .i64 (fbE n)].toArray :: .slice A37 ((fbB n).length) c38 :: .int .i64 (fbE n) :: .int .i64 (fbE m) :: .bool true :: .tuple [mgV (frM (fbB m)) A902008 c902009 B902010 d902011, .int .i64 (frE (fbB m))].toArray :: .slice A30 ((fbB m).length) c31 :: .tuple [mgV (frM (fbB m)) A902008 c902009 B902010 d902011, .int .i64 (frE (fbB m))].toArray :: mgV (frM (fbB m)) A902008 c902009 B902010 d902011 :: .int .i64 (frE (fbB m)) :: .int .i64 (frE (fbB m)) :: .bool false :: .bool false :: mgV m A c B d :: mgV (frM (fbB m)) A902008 c902009 B902010 d902011 :: .bool true :: .bool false :: .bool false :: .bool false :: .int .i64 (fbE n) :: .bool true :: .bool true :: .slice A30 ((fbB m).length) c31 :: .string (strB (fbB m)) :: .slice A37 ((fbB n).length) c38 :: .string (strB (fbB n)) :: .bool false :: mgV m A c B d :: mgV n A2 c2 B2 d2 :: .bool false :: .bool false :: .bool false :: .bool false :: U16lb (U4lb (undef :: undef :: undef :: []))))) rfl ?_
          refine hK902018 _ _ ?_
          refine c_false rfl ?_
          refine wp_skip ?_
          exact hT42 ⟨.bool false, .pointer (some ⟨g902013, 0, none⟩), .int .i64 (frE (fbB m)), .int .i64 (fbE m), .bool true, .tuple [mgV (frM (fbB m)) A902008 c902009 B902010 d902011, .int .i64 (frE (fbB m))].toArray, .slice A30 ((fbB m).length) c31, .tuple [mgV (frM (fbB m)) A902008 c902009 B902010 d902011, .int .i64 (frE (fbB m))].toArray⟩ ⟨mgV (frM (fbB m)) A902008 c902009 B902010 d902011, .int .i64 (frE (fbB m)), .int .i64 (frE (fbB m)), .bool false, .bool false, mgV m A c B d, mgV (frM (fbB m)) A902008 c902009 B902010 d902011, .bool true⟩ ⟨.bool false, .bool false, .bool false, .int .i64 (fbE n), .bool true, .bool true, .slice A30 ((fbB m).length) c31, .string (strB (fbB m))⟩ ⟨.slice A37 ((fbB n).length) c38, .string (strB (fbB n)), .bool false, mgV m A c B d, mgV n A2 c2 B2 d2, .bool false, .bool false, .bool false⟩ ⟨.bool false, undef, undef, undef, undef, undef, undef, undef⟩ _ HS.drop.drop.drop.drop.drop.drop.drop trivial
    · skip
      refine c_enter Try.func6 rfl 93 rfl (mgV m A c B d :: mgV n A2 c2 B2 d2 :: .slice C xs.length cc :: U64lb (U16lb (U8lb (undef :: undef :: [])))) rfl ?_
      refine wp_seq_k (fun K1 hK2 => ?_)
      refine c_region (fun ops4 hops3 => ?_)
      clear hops3
      refine St.wBox HS (cs := [.int .i64 m.k, .int .u32 m.e, .int .u64 m.s, .int .u32 m.te, .int .u32 m.ts, .int .u32 m.be, .int .u32 m.bs, .int .i64 m.ix, .int .i64 m.tt, .int .u32 m.tk, .slice A m.its.length c, .slice B m.hvs.length d]) (mgV m A c B d) rfl rfl ?_
      clear HS
      intro g5 w6 hg7 HS
      refine St.wBox HS (cs := [.int .i64 n.k, .int .u32 n.e, .int .u64 n.s, .int .u32 n.te, .int .u32 n.ts, .int .u32 n.be, .int .u32 n.bs, .int .i64 n.ix, .int .i64 n.tt, .int .u32 n.tk, .slice A2 n.its.length c2, .slice B2 n.hvs.length d2]) (mgV n A2 c2 B2 d2) rfl rfl ?_
      clear HS
      intro g8 w9 hg10 HS
      refine p_run _ (x_assign (.bool false) rfl rfl) rfl ?_
      refine wpList_nil ?_
      refine hK2 _ _ ?_
      refine wp_seq_k (fun K11 hK12 => ?_)
      refine wp_seq_k (fun K13 hK14 => ?_)
      refine c_region (fun ops16 hops15 => ?_)
      clear hops15
      refine w_call [] Try.func11 (by kernel_rfl) (by rfl) rfl ?_
      refine (falive_any _).mono ?_
      rintro e w17 ⟨rfl, hb_⟩
      replace HS := HS.here hb_
      clear hb_
      refine ⟨_, rfl, ?_⟩
      refine p_run _ (x_not true rfl rfl) rfl ?_
      refine wpList_nil ?_
      refine fr_at (l' := (mgV m A c B d :: mgV n A2 c2 B2 d2 :: .slice C xs.length cc :: .pointer (some ⟨g5, 0, none⟩) :: .pointer (some ⟨g8, 0, none⟩) :: undef :: .bool false :: U8lb (undef :: undef :: .bool true :: .bool false :: U64lb (U8lb (undef :: undef :: []))))) rfl ?_
      refine hK14 _ _ ?_
      refine c_false rfl ?_
      refine wp_skip ?_
      refine hK12 _ _ ?_
      refine wp_seq_k (fun K18 hK19 => ?_)
      refine wp_seq_k (fun K20 hK21 => ?_)
      refine c_region (fun ops23 hops22 => ?_)
      refine p_run _ (x_loads [.int .i64 m.k, .int .u32 m.e, .int .u64 m.s, .int .u32 m.te, .int .u32 m.ts, .int .u32 m.be, .int .u32 m.bs, .int .i64 m.ix, .int .i64 m.tt, .int .u32 m.tk, .slice A m.its.length c, .slice B m.hvs.length d] 12 rfl rfl (bkCells (HS.get (.tail _ (.head _))) 0 _ rfl) (by rfl) (by kernel_rfl) rfl) rfl ?_
      refine w_call [mgV m A c B d] Try.func12 (by kernel_rfl) (by rfl) rfl ?_
      refine (fgreat_any _ m A c B d).mono ?_
      rintro e w24 ⟨he_, hb_⟩
      rw [hg] at he_
      subst he_
      replace HS := HS.here hb_
      clear hb_
      refine ⟨_, rfl, ?_⟩
      refine p_run _ (x_move (.bool false) rfl rfl) rfl ?_
      refine p_on rfl (by rw [hops22]; rfl) ?_
      refine p_run _ (x_loads [.int .i64 n.k, .int .u32 n.e, .int .u64 n.s, .int .u32 n.te, .int .u32 n.ts, .int .u32 n.be, .int .u32 n.bs, .int .i64 n.ix, .int .i64 n.tt, .int .u32 n.tk, .slice A2 n.its.length c2, .slice B2 n.hvs.length d2] 12 rfl rfl (bkCells (HS.get (.head _)) 0 _ rfl) (by rfl) (by kernel_rfl) rfl) rfl ?_
      refine p_on rfl (by rw [hops22]; rfl) ?_
      refine w_call [mgV n A2 c2 B2 d2] Try.func12 (by kernel_rfl) (by rfl) rfl ?_
      refine (fgreat_any _ n A2 c2 B2 d2).mono ?_
      rintro e w25 ⟨he_, hb_⟩
      rw [hg2] at he_
      subst he_
      replace HS := HS.here hb_
      clear hb_
      refine ⟨_, rfl, ?_⟩
      refine p_run _ (x_pick false (.bool true) (.bool true) (.bool true) rfl rfl rfl rfl rfl) rfl ?_
      refine p_run (l' := (mgV m A c B d :: mgV n A2 c2 B2 d2 :: .slice C xs.length cc :: .pointer (some ⟨g5, 0, none⟩) :: .pointer (some ⟨g8, 0, none⟩) :: undef :: .bool false :: U8lb (undef :: undef :: .bool true :: .bool false :: mgV m A c B d :: .bool false :: .bool false :: mgV n A2 c2 B2 d2 :: .bool true :: .bool true :: .bool true :: U64lb (undef :: undef :: undef :: [])))) _ (x_move (.bool true) rfl rfl) rfl ?_
      refine p_off (by rw [hops22]; rfl) rfl ?_
      refine p_off (by rw [hops22]; rfl) rfl ?_
      refine p_off (by rw [hops22]; rfl) rfl ?_
      refine p_run _ (x_pick true (.bool true) (undef) (.bool true) rfl rfl rfl rfl rfl) rfl ?_
      clear hops22
      refine wpList_nil ?_
      refine hK21 _ _ ?_
      refine c_true rfl ?_
      refine wp_seq_k (fun K26 hK27 => ?_)
      refine c_region (fun ops29 hops28 => ?_)
      clear hops28
      refine p_run _ (x_assign (.bool true) rfl rfl) rfl ?_
      refine wpList_nil ?_
      refine fr_at (l' := (mgV m A c B d :: mgV n A2 c2 B2 d2 :: .slice C xs.length cc :: .pointer (some ⟨g5, 0, none⟩) :: .pointer (some ⟨g8, 0, none⟩) :: undef :: .bool true :: U8lb (undef :: undef :: .bool true :: .bool false :: mgV m A c B d :: .bool false :: .bool false :: mgV n A2 c2 B2 d2 :: .bool true :: .bool true :: .bool true :: undef :: undef :: undef :: .bool true :: U32lb (U16lb (U8lb (U4lb (undef :: undef :: undef :: []))))))) rfl ?_
      refine hK27 _ _ ?_
      refine wp_ret ?_
      try simp only [Exit.inBlock, Exit.then]
      refine c_ret (.bool true) (r_tmp rfl rfl) ?_
      exact ⟨rfl, HS.belowOf⟩
  · skip
    refine c_enter Try.func6 rfl 93 rfl (mgV m A c B d :: mgV n A2 c2 B2 d2 :: .slice C xs.length cc :: U64lb (U16lb (U8lb (undef :: undef :: [])))) rfl ?_
    refine wp_seq_k (fun K1 hK2 => ?_)
    refine c_region (fun ops4 hops3 => ?_)
    clear hops3
    refine St.wBox HS (cs := [.int .i64 m.k, .int .u32 m.e, .int .u64 m.s, .int .u32 m.te, .int .u32 m.ts, .int .u32 m.be, .int .u32 m.bs, .int .i64 m.ix, .int .i64 m.tt, .int .u32 m.tk, .slice A m.its.length c, .slice B m.hvs.length d]) (mgV m A c B d) rfl rfl ?_
    clear HS
    intro g5 w6 hg7 HS
    refine St.wBox HS (cs := [.int .i64 n.k, .int .u32 n.e, .int .u64 n.s, .int .u32 n.te, .int .u32 n.ts, .int .u32 n.be, .int .u32 n.bs, .int .i64 n.ix, .int .i64 n.tt, .int .u32 n.tk, .slice A2 n.its.length c2, .slice B2 n.hvs.length d2]) (mgV n A2 c2 B2 d2) rfl rfl ?_
    clear HS
    intro g8 w9 hg10 HS
    refine p_run _ (x_assign (.bool false) rfl rfl) rfl ?_
    refine wpList_nil ?_
    refine hK2 _ _ ?_
    refine wp_seq_k (fun K11 hK12 => ?_)
    refine wp_seq_k (fun K13 hK14 => ?_)
    refine c_region (fun ops16 hops15 => ?_)
    clear hops15
    refine w_call [] Try.func11 (by kernel_rfl) (by rfl) rfl ?_
    refine (falive_any _).mono ?_
    rintro e w17 ⟨rfl, hb_⟩
    replace HS := HS.here hb_
    clear hb_
    refine ⟨_, rfl, ?_⟩
    refine p_run _ (x_not true rfl rfl) rfl ?_
    refine wpList_nil ?_
    refine fr_at (l' := (mgV m A c B d :: mgV n A2 c2 B2 d2 :: .slice C xs.length cc :: .pointer (some ⟨g5, 0, none⟩) :: .pointer (some ⟨g8, 0, none⟩) :: undef :: .bool false :: U8lb (undef :: undef :: .bool true :: .bool false :: U64lb (U8lb (undef :: undef :: []))))) rfl ?_
    refine hK14 _ _ ?_
    refine c_false rfl ?_
    refine wp_skip ?_
    refine hK12 _ _ ?_
    refine wp_seq_k (fun K18 hK19 => ?_)
    refine wp_seq_k (fun K20 hK21 => ?_)
    refine c_region (fun ops23 hops22 => ?_)
    refine p_run _ (x_loads [.int .i64 m.k, .int .u32 m.e, .int .u64 m.s, .int .u32 m.te, .int .u32 m.ts, .int .u32 m.be, .int .u32 m.bs, .int .i64 m.ix, .int .i64 m.tt, .int .u32 m.tk, .slice A m.its.length c, .slice B m.hvs.length d] 12 rfl rfl (bkCells (HS.get (.tail _ (.head _))) 0 _ rfl) (by rfl) (by kernel_rfl) rfl) rfl ?_
    refine w_call [mgV m A c B d] Try.func12 (by kernel_rfl) (by rfl) rfl ?_
    refine (fgreat_any _ m A c B d).mono ?_
    rintro e w24 ⟨he_, hb_⟩
    rw [hg] at he_
    subst he_
    replace HS := HS.here hb_
    clear hb_
    refine ⟨_, rfl, ?_⟩
    refine p_run _ (x_move (.bool true) rfl rfl) rfl ?_
    refine p_off (by rw [hops22]; rfl) rfl ?_
    refine p_off (by rw [hops22]; rfl) rfl ?_
    refine p_run _ (x_pick true (.bool true) (undef) (.bool true) rfl rfl rfl rfl rfl) rfl ?_
    refine p_run (l' := (mgV m A c B d :: mgV n A2 c2 B2 d2 :: .slice C xs.length cc :: .pointer (some ⟨g5, 0, none⟩) :: .pointer (some ⟨g8, 0, none⟩) :: undef :: .bool false :: U8lb (undef :: undef :: .bool true :: .bool false :: mgV m A c B d :: .bool true :: .bool true :: undef :: undef :: .bool true :: .bool true :: U64lb (undef :: undef :: undef :: [])))) _ (x_move (.bool true) rfl rfl) rfl ?_
    refine p_off (by rw [hops22]; rfl) rfl ?_
    refine p_off (by rw [hops22]; rfl) rfl ?_
    refine p_off (by rw [hops22]; rfl) rfl ?_
    refine p_run _ (x_pick true (.bool true) (undef) (.bool true) rfl rfl rfl rfl rfl) rfl ?_
    clear hops22
    refine wpList_nil ?_
    refine hK21 _ _ ?_
    refine c_true rfl ?_
    refine wp_seq_k (fun K25 hK26 => ?_)
    refine c_region (fun ops28 hops27 => ?_)
    clear hops27
    refine p_run _ (x_assign (.bool true) rfl rfl) rfl ?_
    refine wpList_nil ?_
    refine fr_at (l' := (mgV m A c B d :: mgV n A2 c2 B2 d2 :: .slice C xs.length cc :: .pointer (some ⟨g5, 0, none⟩) :: .pointer (some ⟨g8, 0, none⟩) :: undef :: .bool true :: U8lb (undef :: undef :: .bool true :: .bool false :: mgV m A c B d :: .bool true :: .bool true :: undef :: undef :: .bool true :: .bool true :: undef :: undef :: undef :: .bool true :: U32lb (U16lb (U8lb (U4lb (undef :: undef :: undef :: []))))))) rfl ?_
    refine hK26 _ _ ?_
    refine wp_ret ?_
    try simp only [Exit.inBlock, Exit.then]
    refine c_ret (.bool true) (r_tmp rfl rfl) ?_
    exact ⟨rfl, HS.belowOf⟩
theorem fback_any (m : Mg) (A : Option Addr) (c : Nat) (B : Option Addr) (d : Nat) (n : Mg) (A2 : Option Addr) (c2 : Nat) (B2 : Option Addr) (d2 : Nat) (C : Option Addr) (cc : Nat) (xs : List UInt8) (w : World) (hw : m.wf) (hA : kIt.C w A m.its.length m.its) (hB : kHv.C w B m.hvs.length m.hvs) (hv : n.wf) (hA2 : kIt.C w A2 n.its.length n.its) (hB2 : kHv.C w B2 n.hvs.length n.hvs) (hC : Sl w C cc xs) : Calls Try.prog 6 #[mgV m A c B d, mgV n A2 c2 B2 d2, .slice C xs.length cc] w fun e w' => e = .returned (.bool true) ∧ Below w.heap.size w w' := fback_law w m hw A c hA B d hB n hv A2 c2 hA2 B2 d2 hB2 C cc xs hC
end Go.Proofs.Ytmachdikonelbaa
