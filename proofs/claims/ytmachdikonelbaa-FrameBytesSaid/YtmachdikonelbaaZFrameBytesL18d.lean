/- FrameBytes, FrameReads. -/
import Derived.Test.YtmachdikonelbaaZFrameBytesL18a
import Derived.Test.YtmachdikonelbaaZFrameBytesRg2
import Derived.Test.YtmachdikonelbaaZFrameBytesFr8
import Derived.Test.YtmachdikonelbaaZFrameBytesWkSS
import Derived.Test.YtmachdikonelbaaZFrameBytesFrL
set_option linter.unusedVariables false
set_option linter.unusedSimpArgs false
namespace Go.Proofs.Ytmachdikonelbaa
open Go.RowKit Go.Proofs.YtmachdikonelbaaW.PrintWords Go.Proofs.YtmachdikonelbaaW.PrintLast Crc
abbrev U4ld (l : List Value) : List Value := undef :: undef :: undef :: undef :: l
abbrev U8ld (l : List Value) : List Value := U4ld (U4ld l)
abbrev U16ld (l : List Value) : List Value := U8ld (U8ld l)
abbrev U32ld (l : List Value) : List Value := U16ld (U16ld l)
set_option maxRecDepth 10000 in
set_option maxHeartbeats 4000000 in
theorem fmbytes_law (w : World) (m : Mg) (hw : m.wf) (A : Option Addr) (c : Nat) (hA : kIt.C w A m.its.length m.its) (B : Option Addr) (d : Nat) (hB : kHv.C w B m.hvs.length m.hvs) (n : Mg) (hv : n.wf) (A2 : Option Addr) (c2 : Nat) (hA2 : kIt.C w A2 n.its.length n.its) (B2 : Option Addr) (d2 : Nat) (hB2 : kHv.C w B2 n.hvs.length n.hvs) : Calls Try.prog 4 #[mgV m A c B d, mgV n A2 c2 B2 d2] w fun e w' => e = .returned (.bool true) ∧ Below w.heap.size w w' := by
  have HS := St.empty w
  rcases hg : grB m with _ | _
  · skip
    obtain ⟨hg1, hg1'⟩ := great_no hg
    rcases hg2 : grB n with _ | _
    · skip
      obtain ⟨hg3, hg3'⟩ := great_no hg2
      refine c_enter Try.func4 rfl 53 rfl (mgV m A c B d :: mgV n A2 c2 B2 d2 :: U32ld (U16ld (undef :: undef :: undef :: []))) rfl ?_
      refine wp_seq_k (fun K1 hK2 => ?_)
      refine c_region (fun ops4 hops3 => ?_)
      clear hops3
      refine St.wBox HS (cs := [.int .i64 m.k, .int .u32 m.e, .int .u64 m.s, .int .u32 m.te, .int .u32 m.ts, .int .u32 m.be, .int .u32 m.bs, .int .i64 m.ix, .int .i64 m.tt, .int .u32 m.tk, .slice A m.its.length c, .slice B m.hvs.length d]) (mgV m A c B d) rfl rfl ?_
      clear HS
      intro g5 w6 hg7 HS
      refine St.wBox HS (cs := [.int .i64 n.k, .int .u32 n.e, .int .u64 n.s, .int .u32 n.te, .int .u32 n.ts, .int .u32 n.be, .int .u32 n.bs, .int .i64 n.ix, .int .i64 n.tt, .int .u32 n.tk, .slice A2 n.its.length c2, .slice B2 n.hvs.length d2]) (mgV n A2 c2 B2 d2) rfl rfl ?_
      clear HS
      intro g8 w9 hg10 HS
      refine p_run _ (x_assign (.bool false) rfl rfl) rfl ?_
      refine wpList_nil ?_
      refine hK2 _ _ ?_
      refine wp_seq_k (fun K11 hK12 => ?_)
      refine wp_seq_k (fun K13 hK14 => ?_)
      refine c_region (fun ops16 hops15 => ?_)
      clear hops15
      refine w_call [] Try.func11 (by kernel_rfl) (by rfl) rfl ?_
      refine (falive_any _).mono ?_
      rintro e w17 ⟨rfl, hb_⟩
      replace HS := HS.here hb_
      clear hb_
      refine ⟨_, rfl, ?_⟩
      refine p_run _ (x_not true rfl rfl) rfl ?_
      refine wpList_nil ?_
      refine fr_at (l' := (mgV m A c B d :: mgV n A2 c2 B2 d2 :: .pointer (some ⟨g5, 0, none⟩) :: .pointer (some ⟨g8, 0, none⟩) :: .bool false :: U4ld (.bool true :: .bool false :: U32ld (U8ld (undef :: undef :: []))))) rfl ?_
      refine hK14 _ _ ?_
      refine c_false rfl ?_
      refine wp_skip ?_
      refine hK12 _ _ ?_
      refine wp_seq_k (fun K18 hK19 => ?_)
      refine wp_seq_k (fun K20 hK21 => ?_)
      refine c_region (fun ops23 hops22 => ?_)
      refine p_run _ (x_loads [.int .i64 m.k, .int .u32 m.e, .int .u64 m.s, .int .u32 m.te, .int .u32 m.ts, .int .u32 m.be, .int .u32 m.bs, .int .i64 m.ix, .int .i64 m.tt, .int .u32 m.tk, .slice A m.its.length c, .slice B m.hvs.length d] 12 rfl rfl (bkCells (HS.get (.tail _ (.head _))) 0 _ rfl) (by rfl) (by kernel_rfl) rfl) rfl ?_
      refine w_call [mgV m A c B d] Try.func12 (by kernel_rfl) (by rfl) rfl ?_
      refine (fgreat_any _ m A c B d).mono ?_
      rintro e w24 ⟨he_, hb_⟩
      rw [hg] at he_
      subst he_
      replace HS := HS.here hb_
      clear hb_
      refine ⟨_, rfl, ?_⟩
      refine p_run _ (x_move (.bool false) rfl rfl) rfl ?_
      refine p_on rfl (by rw [hops22]; rfl) ?_
      refine p_run _ (x_loads [.int .i64 n.k, .int .u32 n.e, .int .u64 n.s, .int .u32 n.te, .int .u32 n.ts, .int .u32 n.be, .int .u32 n.bs, .int .i64 n.ix, .int .i64 n.tt, .int .u32 n.tk, .slice A2 n.its.length c2, .slice B2 n.hvs.length d2] 12 rfl rfl (bkCells (HS.get (.head _)) 0 _ rfl) (by rfl) (by kernel_rfl) rfl) rfl ?_
      refine p_on rfl (by rw [hops22]; rfl) ?_
      refine w_call [mgV n A2 c2 B2 d2] Try.func12 (by kernel_rfl) (by rfl) rfl ?_
      refine (fgreat_any _ n A2 c2 B2 d2).mono ?_
      rintro e w25 ⟨he_, hb_⟩
      rw [hg2] at he_
      subst he_
      replace HS := HS.here hb_
      clear hb_
      refine ⟨_, rfl, ?_⟩
      refine p_run (l' := (mgV m A c B d :: mgV n A2 c2 B2 d2 :: .pointer (some ⟨g5, 0, none⟩) :: .pointer (some ⟨g8, 0, none⟩) :: .bool false :: U4ld (.bool true :: .bool false :: mgV m A c B d :: .bool false :: .bool false :: mgV n A2 c2 B2 d2 :: .bool false :: .bool false :: U32ld (U4ld ([]))))) _ (x_pick false (.bool true) (.bool false) (.bool false) rfl rfl rfl rfl rfl) rfl ?_
      clear hops22
      refine wpList_nil ?_
      refine hK21 _ _ ?_
      refine c_false rfl ?_
      refine wp_skip ?_
      refine hK19 _ _ ?_
      refine wp_seq_k (fun K26 hK27 => ?_)
      refine c_region (fun ops29 hops28 => ?_)
      clear hops28
      refine p_run _ (x_loads [.int .i64 m.k, .int .u32 m.e, .int .u64 m.s, .int .u32 m.te, .int .u32 m.ts, .int .u32 m.be, .int .u32 m.bs, .int .i64 m.ix, .int .i64 m.tt, .int .u32 m.tk, .slice A m.its.length c, .slice B m.hvs.length d] 12 rfl rfl (bkCells (HS.get (.tail _ (.head _))) 0 _ rfl) (by rfl) (by kernel_rfl) rfl) rfl ?_
      refine w_call [mgV m A c B d] Try.func9 (by kernel_rfl) (by rfl) rfl ?_
      refine (fbytes_any _ m A c (Kd.C_below hA HS.belowOf) B d (Kd.C_below hB HS.belowOf) (by omega) (by omega) hw).mono ?_
      rintro e w32 ⟨A30, c31, rfl, hk_⟩
      replace HS := HS.more hk_
      clear hk_
      refine ⟨_, rfl, ?_⟩
      refine p_run _ (x_move (.tuple [.slice A30 ((fbB m).length) c31, .int .i64 (fbE m)].toArray) rfl rfl) rfl ?_
      refine p_run _ (x_extract (vs := [.slice A30 ((fbB m).length) c31, .int .i64 (fbE m)]) 0 (.slice A30 ((fbB m).length) c31) rfl rfl rfl) rfl ?_
      refine p_run _ (x_extract (vs := [.slice A30 ((fbB m).length) c31, .int .i64 (fbE m)]) 1 (.int .i64 (fbE m)) rfl rfl rfl) rfl ?_
      refine p_run (l' := (mgV m A c B d :: mgV n A2 c2 B2 d2 :: .pointer (some ⟨g5, 0, none⟩) :: .pointer (some ⟨g8, 0, none⟩) :: .bool false :: .slice A30 ((fbB m).length) c31 :: undef :: undef :: undef :: .bool true :: .bool false :: mgV m A c B d :: .bool false :: .bool false :: mgV n A2 c2 B2 d2 :: .bool false :: .bool false :: .tuple [.slice A30 ((fbB m).length) c31, .int .i64 (fbE m)].toArray :: mgV m A c B d :: .tuple [.slice A30 ((fbB m).length) c31, .int .i64 (fbE m)].toArray :: .slice A30 ((fbB m).length) c31 :: .int .i64 (fbE m) :: U16ld (U8ld (U4ld (undef :: undef :: undef :: []))))) _ (x_assign (.slice A30 ((fbB m).length) c31) rfl rfl) rfl ?_
      refine p_run _ (x_assign (.int .i64 (fbE m)) rfl rfl) rfl ?_
      refine wpList_nil ?_
      refine hK27 _ _ ?_
      refine wp_seq_k (fun K33 hK34 => ?_)
      refine c_region (fun ops36 hops35 => ?_)
      clear hops35
      refine p_run _ (x_loads [.int .i64 m.k, .int .u32 m.e, .int .u64 m.s, .int .u32 m.te, .int .u32 m.ts, .int .u32 m.be, .int .u32 m.bs, .int .i64 m.ix, .int .i64 m.tt, .int .u32 m.tk, .slice A m.its.length c, .slice B m.hvs.length d] 12 rfl rfl (bkCells (HS.get (.tail _ (.tail _ (.head _)))) 0 _ rfl) (by rfl) (by kernel_rfl) rfl) rfl ?_
      refine w_call [mgV m A c B d] Try.func13 (by kernel_rfl) (by rfl) rfl ?_
      refine (r18bytes_any _ m A c (Kd.C_below hA HS.belowOf) B d (Kd.C_below hB HS.belowOf) (by omega) (by omega) hw).mono ?_
      rintro e w39 ⟨A37, c38, rfl, hk_⟩
      replace HS := HS.more hk_
      clear hk_
      refine ⟨_, rfl, ?_⟩
      refine p_run _ (x_move (.tuple [.slice A37 ((fbB m).length) c38, .int .i64 (fbE m)].toArray) rfl rfl) rfl ?_
      refine p_run _ (x_extract (vs := [.slice A37 ((fbB m).length) c38, .int .i64 (fbE m)]) 0 (.slice A37 ((fbB m).length) c38) rfl rfl rfl) rfl ?_
      refine p_run (l' := (mgV m A c B d :: mgV n A2 c2 B2 d2 :: .pointer (some ⟨g5, 0, none⟩) :: .pointer (some ⟨g8, 0, none⟩) :: .bool false :: .slice A30 ((fbB m).length) c31 :: .int .i64 (fbE m) :: undef :: undef :: .bool true :: .bool false :: mgV m A c B d :: .bool false :: .bool false :: mgV n A2 c2 B2 d2 :: .bool false :: .bool false :: .tuple [.slice A30 ((fbB m).length) c31, .int .i64 (fbE m)].toArray :: mgV m A c B d :: .tuple [.slice A30 ((fbB m).length) c31, .int .i64 (fbE m)].toArray :: .slice A30 ((fbB m).length) c31 :: .int .i64 (fbE m) :: .tuple [.slice A37 ((fbB m).length) c38, .int .i64 (fbE m)].toArray :: mgV m A c B d :: .tuple [.slice A37 ((fbB m).length) c38, .int .i64 (fbE m)].toArray :: .slice A37 ((fbB m).length) c38 :: .int .i64 (fbE m) :: U16ld (U8ld (undef :: undef :: [])))) _ (x_extract (vs := [.slice A37 ((fbB m).length) c38, .int .i64 (fbE m)]) 1 (.int .i64 (fbE m)) rfl rfl rfl) rfl ?_
      refine p_run _ (x_assign (.slice A37 ((fbB m).length) c38) rfl rfl) rfl ?_
      refine p_run _ (x_assign (.int .i64 (fbE m)) rfl rfl) rfl ?_
      refine wpList_nil ?_
      refine hK34 _ _ ?_
      refine wp_seq_k (fun K40 hK41 => ?_)
      refine free_frame (n := 27) (T := _) [0, 1, 0, 7, 15, 31, 63, 63, 255, 63, 63, 2047, 4095, 8191, 16383, 32767, 65535, 32767, 163839, 524287, 1048575, 2097151, 4194303, 4194303, 16777215, 33554431, 67108863] [(0, 27), (1, 28), (2, 29), (3, 30), (4, 31), (5, 32), (6, 33), (7, 34), (8, 35), (9, 36), (10, 37), (11, 38), (12, 39), (13, 40), (14, 41), (15, 42), (16, 43), (17, 44), (18, 45), (19, 46), (20, 47), (21, 48), (22, 49), (23, 50), (24, 51), (25, 52), (26, 4)] (fun bq_ vq_ w_ => qv ((fun i_ => match i_ with | 0 => some (mgV m A c B d) | 2 => some (mgV m A c B d) | 4 => some (.bool true) | 5 => some (.bool true) | 6 => some (mgV m A c B d) | 7 => some (mgV n A2 c2 B2 d2) | 9 => some (mgV m A c B d) | 10 => some (mgV n A2 c2 B2 d2) | 12 => some (.bool true) | 13 => some (.bool true) | 14 => some (.bool true) | 15 => some (.slice A30 ((fbB m).length) c31) | 16 => some (.string (strB (fbB m))) | 17 => some (.slice A37 ((fbB m).length) c38) | 18 => some (.string (strB (fbB m))) | 19 => some (.bool true) | 20 => some (.bool true) | 21 => some (.bool true) | 22 => some (.int .i64 (fbE m)) | 23 => some (.int .i64 (fbE m)) | 24 => some (.bool true) | 25 => some (.bool true) | 26 => some (.bool true) | _ => none) : Nat → Option Value) bq_ vq_ ∧ cond (bq_ 11) (vq_ 1 = .bool (mgOk m) ∧ vq_ 3 = .bool (mgOk m) ∧ vq_ 8 = .bool (smB m n) ∧ vq_ 11 = .bool (smB m n) ∧ St w (fun _ => False) w_ ([row kByte rfl 5 (.slice A37 ((fbB m).length) c38) (fbB m), row kByte rfl 5 (.slice A30 ((fbB m).length) c31) (fbB m), blk g8 [.int .i64 n.k, .int .u32 n.e, .int .u64 n.s, .int .u32 n.te, .int .u32 n.ts, .int .u32 n.be, .int .u32 n.bs, .int .i64 n.ix, .int .i64 n.tt, .int .u32 n.tk, .slice A2 n.its.length c2, .slice B2 n.hvs.length d2] 33, blk g5 [.int .i64 m.k, .int .u32 m.e, .int .u64 m.s, .int .u32 m.te, .int .u32 m.ts, .int .u32 m.be, .int .u32 m.bs, .int .i64 m.ix, .int .i64 m.tt, .int .u32 m.tk, .slice A m.its.length c, .slice B m.hvs.length d] 33])) (cond (bq_ 8) (vq_ 1 = .bool (mgOk m) ∧ vq_ 3 = .bool (mgOk m) ∧ vq_ 8 = .bool (smB m n) ∧ St w (fun _ => False) w_ ([row kByte rfl 5 (.slice A37 ((fbB m).length) c38) (fbB m), row kByte rfl 5 (.slice A30 ((fbB m).length) c31) (fbB m), blk g8 [.int .i64 n.k, .int .u32 n.e, .int .u64 n.s, .int .u32 n.te, .int .u32 n.ts, .int .u32 n.be, .int .u32 n.bs, .int .i64 n.ix, .int .i64 n.tt, .int .u32 n.tk, .slice A2 n.its.length c2, .slice B2 n.hvs.length d2] 33, blk g5 [.int .i64 m.k, .int .u32 m.e, .int .u64 m.s, .int .u32 m.te, .int .u32 m.ts, .int .u32 m.be, .int .u32 m.bs, .int .i64 m.ix, .int .i64 m.tt, .int .u32 m.tk, .slice A m.its.length c, .slice B m.hvs.length d] 33])) (cond (bq_ 3) (vq_ 1 = .bool (mgOk m) ∧ vq_ 3 = .bool (mgOk m) ∧ St w (fun _ => False) w_ ([row kByte rfl 5 (.slice A37 ((fbB m).length) c38) (fbB m), row kByte rfl 5 (.slice A30 ((fbB m).length) c31) (fbB m), blk g8 [.int .i64 n.k, .int .u32 n.e, .int .u64 n.s, .int .u32 n.te, .int .u32 n.ts, .int .u32 n.be, .int .u32 n.bs, .int .i64 n.ix, .int .i64 n.tt, .int .u32 n.tk, .slice A2 n.its.length c2, .slice B2 n.hvs.length d2] 33, blk g5 [.int .i64 m.k, .int .u32 m.e, .int .u64 m.s, .int .u32 m.te, .int .u32 m.ts, .int .u32 m.be, .int .u32 m.bs, .int .i64 m.ix, .int .i64 m.tt, .int .u32 m.tk, .slice A m.its.length c, .slice B m.hvs.length d] 33])) (cond (bq_ 1) (vq_ 1 = .bool (mgOk m) ∧ St w (fun _ => False) w_ ([row kByte rfl 5 (.slice A37 ((fbB m).length) c38) (fbB m), row kByte rfl 5 (.slice A30 ((fbB m).length) c31) (fbB m), blk g8 [.int .i64 n.k, .int .u32 n.e, .int .u64 n.s, .int .u32 n.te, .int .u32 n.ts, .int .u32 n.be, .int .u32 n.bs, .int .i64 n.ix, .int .i64 n.tt, .int .u32 n.tk, .slice A2 n.its.length c2, .slice B2 n.hvs.length d2] 33, blk g5 [.int .i64 m.k, .int .u32 m.e, .int .u64 m.s, .int .u32 m.te, .int .u32 m.ts, .int .u32 m.be, .int .u32 m.bs, .int .i64 m.ix, .int .i64 m.tt, .int .u32 m.tk, .slice A m.its.length c, .slice B m.hvs.length d] 33])) ((St w (fun _ => False) w_ ([row kByte rfl 5 (.slice A37 ((fbB m).length) c38) (fbB m), row kByte rfl 5 (.slice A30 ((fbB m).length) c31) (fbB m), blk g8 [.int .i64 n.k, .int .u32 n.e, .int .u64 n.s, .int .u32 n.te, .int .u32 n.ts, .int .u32 n.be, .int .u32 n.bs, .int .i64 n.ix, .int .i64 n.tt, .int .u32 n.tk, .slice A2 n.its.length c2, .slice B2 n.hvs.length d2] 33, blk g5 [.int .i64 m.k, .int .u32 m.e, .int .u64 m.s, .int .u32 m.te, .int .u32 m.ts, .int .u32 m.be, .int .u32 m.bs, .int .i64 m.ix, .int .i64 m.tt, .int .u32 m.tk, .slice A m.its.length c, .slice B m.hvs.length d] 33]))))))) (by kernel_rfl) rfl rfl (by kernel_rfl) (by kernel_rfl) rfl (by kernel_rfl) (by kernel_rfl) ⟨qv_none, HS.draw⟩ ?_ ?_
      · clear HS
        intro i_ hi_ bq_ vq_ a_ w_ hG hb_ hon hoff hfr hel hval
        obtain ⟨hV, hE⟩ := hG
        have hi_ := List.mem_range.1 hi_
        obtain ⟨l_, rfl⟩ := hfr
        have hv_ := fun (j t : Nat) (v : Value) (h1 : (j, t) ∈ [(0, 27), (1, 28), (2, 29), (3, 30), (4, 31), (5, 32), (6, 33), (7, 34), (8, 35), (9, 36), (10, 37), (11, 38), (12, 39), (13, 40), (14, 41), (15, 42), (16, 43), (17, 44), (18, 45), (19, 46), (20, 47), (21, 48), (22, 49), (23, 50), (24, 51), (25, 52), (26, 4)]) h2 h3 => (hval (j, t) h1 h3).trans (congrArg some (hV j v h2 h3))
        have hcs : i_ = 0 ∨ i_ = 1 ∨ i_ = 2 ∨ i_ = 3 ∨ i_ = 4 ∨ i_ = 5 ∨ i_ = 6 ∨ i_ = 7 ∨ i_ = 8 ∨ i_ = 9 ∨ i_ = 10 ∨ i_ = 11 ∨ i_ = 12 ∨ i_ = 13 ∨ i_ = 14 ∨ i_ = 15 ∨ i_ = 16 ∨ i_ = 17 ∨ i_ = 18 ∨ i_ = 19 ∨ i_ = 20 ∨ i_ = 21 ∨ i_ = 22 ∨ i_ = 23 ∨ i_ = 24 ∨ i_ = 25 ∨ i_ = 26 := by omega
        rcases hcs with rfl | rfl | rfl | rfl | rfl | rfl | rfl | rfl | rfl | rfl | rfl | rfl | rfl | rfl | rfl | rfl | rfl | rfl | rfl | rfl | rfl | rfl | rfl | rfl | rfl | rfl | rfl
        · have hE0 := hE
          rw [show bq_ 11 = false from (hoff 11 (by decide))] at hE0
          rw [show bq_ 8 = false from (hoff 8 (by decide))] at hE0
          rw [show bq_ 3 = false from (hoff 3 (by decide))] at hE0
          rw [show bq_ 1 = false from (hoff 1 (by decide))] at hE0
          simp only [cond_true, cond_false] at hE0
          have HS := hE0
          have e2 : evl l_ (.tmp 2) = .pointer (some ⟨g5, 0, none⟩) := evl_of ((hel 2 (by decide)).trans rfl)
          exact ⟨_, rfl, fun K_ hK_ => q_op _ (x_loads [.int .i64 m.k, .int .u32 m.e, .int .u64 m.s, .int .u32 m.te, .int .u32 m.ts, .int .u32 m.be, .int .u32 m.bs, .int .i64 m.ix, .int .i64 m.tt, .int .u32 m.tk, .slice A m.its.length c, .slice B m.hvs.length d] 12 rfl e2 (bkCells (HS.get (.tail _ (.tail _ (.tail _ (.head _))))) 0 _ rfl) (by rfl) (by kernel_rfl) rfl) (hK_ _ _ ⟨qv_up hV (fun _ h => Option.some.inj h), hE⟩)⟩
        · have h27 : (fr l_).tmps[27]? = some (mgV m A c B d) := hv_ 0 27 _ (by decide) rfl (hon 0 (by decide))
          have hE0 := hE
          rw [show bq_ 11 = false from (hoff 11 (by decide))] at hE0
          rw [show bq_ 8 = false from (hoff 8 (by decide))] at hE0
          rw [show bq_ 3 = false from (hoff 3 (by decide))] at hE0
          rw [show bq_ 1 = false from hb_] at hE0
          simp only [cond_true, cond_false] at hE0
          have HS := hE0
          have e27 : evl l_ (.tmp 27) = mgV m A c B d := evl_of h27
          refine ⟨_, rfl, fun K_ hK_ => wp_of_list rfl ?_⟩
          intro ops_
          refine w_call [mgV m A c B d] Try.func14 (by kernel_rfl) (by rfl) (by simp only [List.map_cons, List.map_nil, e27] <;> rfl) ?_
          refine (fright_any _ m A c (Kd.C_below hA HS.belowOf) B d (Kd.C_below hB HS.belowOf) (by omega) (by omega)).mono ?_
          rintro e w900101 ⟨rfl, hb_⟩
          replace HS := HS.here hb_
          clear hb_
          refine ⟨_, rfl, ?_⟩
          refine wpList_nil ?_
          refine norm_put (hK_ (.bool (mgOk m)) _ ⟨qv_up hV (by intro _ h; cases h), ?_⟩)
          show cond (bq_ 11) _ _
          rw [show bq_ 11 = false from hoff 11 (by decide), cond_false]
          show cond (bq_ 8) _ _
          rw [show bq_ 8 = false from hoff 8 (by decide), cond_false]
          show cond (bq_ 3) _ _
          rw [show bq_ 3 = false from hoff 3 (by decide), cond_false]
          show cond true _ _
          rw [cond_true]
          exact ⟨rfl, ((((HS.front 3 rfl).front 3 rfl).front 3 rfl).front 3 rfl)⟩
        · rcases hq1 : bq_ 1 with _ | _
          · skip
            have hE0 := hE
            rw [show bq_ 11 = false from (hoff 11 (by decide))] at hE0
            rw [show bq_ 8 = false from (hoff 8 (by decide))] at hE0
            rw [show bq_ 3 = false from (hoff 3 (by decide))] at hE0
            rw [show bq_ 1 = false from hq1] at hE0
            simp only [cond_true, cond_false] at hE0
            have HS := hE0
            have e2 : evl l_ (.tmp 2) = .pointer (some ⟨g5, 0, none⟩) := evl_of ((hel 2 (by decide)).trans rfl)
            exact ⟨_, rfl, fun K_ hK_ => q_op _ (x_loads [.int .i64 m.k, .int .u32 m.e, .int .u64 m.s, .int .u32 m.te, .int .u32 m.ts, .int .u32 m.be, .int .u32 m.bs, .int .i64 m.ix, .int .i64 m.tt, .int .u32 m.tk, .slice A m.its.length c, .slice B m.hvs.length d] 12 rfl e2 (bkCells (HS.get (.tail _ (.tail _ (.tail _ (.head _))))) 0 _ rfl) (by rfl) (by kernel_rfl) rfl) (hK_ _ _ ⟨qv_up hV (fun _ h => Option.some.inj h), hE⟩)⟩
          · have hE0 := hE
            rw [show bq_ 11 = false from (hoff 11 (by decide))] at hE0
            rw [show bq_ 8 = false from (hoff 8 (by decide))] at hE0
            rw [show bq_ 3 = false from (hoff 3 (by decide))] at hE0
            rw [show bq_ 1 = true from hq1] at hE0
            simp only [cond_true, cond_false] at hE0
            obtain ⟨hv1, HS⟩ := hE0
            have e2 : evl l_ (.tmp 2) = .pointer (some ⟨g5, 0, none⟩) := evl_of ((hel 2 (by decide)).trans rfl)
            exact ⟨_, rfl, fun K_ hK_ => q_op _ (x_loads [.int .i64 m.k, .int .u32 m.e, .int .u64 m.s, .int .u32 m.te, .int .u32 m.ts, .int .u32 m.be, .int .u32 m.bs, .int .i64 m.ix, .int .i64 m.tt, .int .u32 m.tk, .slice A m.its.length c, .slice B m.hvs.length d] 12 rfl e2 (bkCells (HS.get (.tail _ (.tail _ (.tail _ (.head _))))) 0 _ rfl) (by rfl) (by kernel_rfl) rfl) (hK_ _ _ ⟨qv_up hV (fun _ h => Option.some.inj h), hE⟩)⟩
        · have h29 : (fr l_).tmps[29]? = some (mgV m A c B d) := hv_ 2 29 _ (by decide) rfl (hon 2 (by decide))
          have hE0 := hE
          rw [show bq_ 11 = false from (hoff 11 (by decide))] at hE0
          rw [show bq_ 8 = false from (hoff 8 (by decide))] at hE0
          rw [show bq_ 3 = false from hb_] at hE0
          rw [show bq_ 1 = true from (hon 1 (by decide))] at hE0
          simp only [cond_true, cond_false] at hE0
          obtain ⟨hv1, HS⟩ := hE0
          have e29 : evl l_ (.tmp 29) = mgV m A c B d := evl_of h29
          refine ⟨_, rfl, fun K_ hK_ => wp_of_list rfl ?_⟩
          intro ops_
          refine w_call [mgV m A c B d] Try.func15 (by kernel_rfl) (by rfl) (by simp only [List.map_cons, List.map_nil, e29] <;> rfl) ?_
          refine (r18right_any _ m A c (Kd.C_below hA HS.belowOf) B d (Kd.C_below hB HS.belowOf) (by omega) (by omega)).mono ?_
          rintro e w900301 ⟨rfl, hb_⟩
          replace HS := HS.here hb_
          clear hb_
          refine ⟨_, rfl, ?_⟩
          refine wpList_nil ?_
          refine norm_put (hK_ (.bool (mgOk m)) _ ⟨qv_up hV (by intro _ h; cases h), ?_⟩)
          show cond (bq_ 11) _ _
          rw [show bq_ 11 = false from hoff 11 (by decide), cond_false]
          show cond (bq_ 8) _ _
          rw [show bq_ 8 = false from hoff 8 (by decide), cond_false]
          show cond true _ _
          rw [cond_true]
          exact ⟨hv1, rfl, ((((HS.front 3 rfl).front 3 rfl).front 3 rfl).front 3 rfl)⟩
        · have h28 := hval (1, 28) (by decide) (hon 1 (by decide))
          have h30 := hval (3, 30) (by decide) (hon 3 (by decide))
          have hE0 := hE
          rw [show bq_ 11 = false from (hoff 11 (by decide))] at hE0
          rw [show bq_ 8 = false from (hoff 8 (by decide))] at hE0
          rw [show bq_ 3 = true from (hon 3 (by decide))] at hE0
          simp only [cond_true, cond_false] at hE0
          obtain ⟨hv1, hv3, HS⟩ := hE0
          rw [hv1] at h28
          rw [hv3] at h30
          have e28 : evl l_ (.tmp 28) = .bool (mgOk m) := evl_of h28
          have e30 : evl l_ (.tmp 30) = .bool (mgOk m) := evl_of h30
          exact ⟨_, rfl, fun K_ hK_ => q_op _ (x_boolcmp .eql (mgOk m) (mgOk m) true rfl e28 e30 Try.underlying4 (beq_self_eq_true _) rfl) (hK_ _ _ ⟨qv_up hV (fun _ h => Option.some.inj h), hE⟩)⟩
        · have e31 : evl l_ (.tmp 31) = .bool true := evl_of (hv_ 4 31 _ (by decide) rfl (hon 4 (by decide)))
          exact ⟨_, rfl, fun K_ hK_ => q_op _ (x_move (.bool true) rfl e31) (hK_ _ _ ⟨qv_up hV (fun _ h => Option.some.inj h), hE⟩)⟩
        · have h32 : (fr l_).tmps[32]? = some (.bool true) := hv_ 5 32 _ (by decide) rfl (hon 5 (by decide))
          have hE0 := hE
          rw [show bq_ 11 = false from (hoff 11 (by decide))] at hE0
          rw [show bq_ 8 = false from (hoff 8 (by decide))] at hE0
          rw [show bq_ 3 = true from (hon 3 (by decide))] at hE0
          simp only [cond_true, cond_false] at hE0
          obtain ⟨hv1, hv3, HS⟩ := hE0
          have e2 : evl l_ (.tmp 2) = .pointer (some ⟨g5, 0, none⟩) := evl_of ((hel 2 (by decide)).trans rfl)
          have e32 : evl l_ (.tmp 32) = .bool true := evl_of h32
          exact ⟨_, rfl, fun K_ hK_ => q_opG (wanted_on (t := 32) rfl rfl rfl h32) _ (x_loads [.int .i64 m.k, .int .u32 m.e, .int .u64 m.s, .int .u32 m.te, .int .u32 m.ts, .int .u32 m.be, .int .u32 m.bs, .int .i64 m.ix, .int .i64 m.tt, .int .u32 m.tk, .slice A m.its.length c, .slice B m.hvs.length d] 12 rfl e2 (bkCells (HS.get (.tail _ (.tail _ (.tail _ (.head _))))) 0 _ rfl) (by rfl) (by kernel_rfl) rfl) (hK_ _ _ ⟨qv_up hV (fun _ h => Option.some.inj h), hE⟩)⟩
        · have h32 : (fr l_).tmps[32]? = some (.bool true) := hv_ 5 32 _ (by decide) rfl (hon 5 (by decide))
          have hE0 := hE
          rw [show bq_ 11 = false from (hoff 11 (by decide))] at hE0
          rw [show bq_ 8 = false from (hoff 8 (by decide))] at hE0
          rw [show bq_ 3 = true from (hon 3 (by decide))] at hE0
          simp only [cond_true, cond_false] at hE0
          obtain ⟨hv1, hv3, HS⟩ := hE0
          have e3 : evl l_ (.tmp 3) = .pointer (some ⟨g8, 0, none⟩) := evl_of ((hel 3 (by decide)).trans rfl)
          have e32 : evl l_ (.tmp 32) = .bool true := evl_of h32
          exact ⟨_, rfl, fun K_ hK_ => q_opG (wanted_on (t := 32) rfl rfl rfl h32) _ (x_loads [.int .i64 n.k, .int .u32 n.e, .int .u64 n.s, .int .u32 n.te, .int .u32 n.ts, .int .u32 n.be, .int .u32 n.bs, .int .i64 n.ix, .int .i64 n.tt, .int .u32 n.tk, .slice A2 n.its.length c2, .slice B2 n.hvs.length d2] 12 rfl e3 (bkCells (HS.get (.tail _ (.tail _ (.head _)))) 0 _ rfl) (by rfl) (by kernel_rfl) rfl) (hK_ _ _ ⟨qv_up hV (fun _ h => Option.some.inj h), hE⟩)⟩
        · have h32 : (fr l_).tmps[32]? = some (.bool true) := hv_ 5 32 _ (by decide) rfl (hon 5 (by decide))
          have h33 : (fr l_).tmps[33]? = some (mgV m A c B d) := hv_ 6 33 _ (by decide) rfl (hon 6 (by decide))
          have h34 : (fr l_).tmps[34]? = some (mgV n A2 c2 B2 d2) := hv_ 7 34 _ (by decide) rfl (hon 7 (by decide))
          have hE0 := hE
          rw [show bq_ 11 = false from (hoff 11 (by decide))] at hE0
          rw [show bq_ 8 = false from hb_] at hE0
          rw [show bq_ 3 = true from (hon 3 (by decide))] at hE0
          simp only [cond_true, cond_false] at hE0
          obtain ⟨hv1, hv3, HS⟩ := hE0
          have e32 : evl l_ (.tmp 32) = .bool true := evl_of h32
          have e33 : evl l_ (.tmp 33) = mgV m A c B d := evl_of h33
          have e34 : evl l_ (.tmp 34) = mgV n A2 c2 B2 d2 := evl_of h34
          refine ⟨_, rfl, fun K_ hK_ => wp_of_listG rfl (wanted_on (t := 32) rfl rfl rfl h32) ?_⟩
          intro ops_
          refine w_call [mgV m A c B d, mgV n A2 c2 B2 d2] Try.func16 (by kernel_rfl) (by rfl) (by simp only [List.map_cons, List.map_nil, e33, e34] <;> rfl) ?_
          refine (fsame_any _ m A c (Kd.C_below hA HS.belowOf) B d (Kd.C_below hB HS.belowOf) (by omega) (by omega) n A2 c2 (Kd.C_below hA2 HS.belowOf) B2 d2 (Kd.C_below hB2 HS.belowOf) (by omega) (by omega)).mono ?_
          rintro e w900801 ⟨rfl, hb_⟩
          replace HS := HS.here hb_
          clear hb_
          refine ⟨_, rfl, ?_⟩
          refine wpList_nil ?_
          refine norm_put (hK_ (.bool (smB m n)) _ ⟨qv_up hV (by intro _ h; cases h), ?_⟩)
          show cond (bq_ 11) _ _
          rw [show bq_ 11 = false from hoff 11 (by decide), cond_false]
          show cond true _ _
          rw [cond_true]
          exact ⟨hv1, hv3, rfl, ((((HS.front 3 rfl).front 3 rfl).front 3 rfl).front 3 rfl)⟩
        · have h32 : (fr l_).tmps[32]? = some (.bool true) := hv_ 5 32 _ (by decide) rfl (hon 5 (by decide))
          rcases hq8 : bq_ 8 with _ | _
          · skip
            have hE0 := hE
            rw [show bq_ 11 = false from (hoff 11 (by decide))] at hE0
            rw [show bq_ 8 = false from hq8] at hE0
            rw [show bq_ 3 = true from (hon 3 (by decide))] at hE0
            simp only [cond_true, cond_false] at hE0
            obtain ⟨hv1, hv3, HS⟩ := hE0
            have e2 : evl l_ (.tmp 2) = .pointer (some ⟨g5, 0, none⟩) := evl_of ((hel 2 (by decide)).trans rfl)
            have e32 : evl l_ (.tmp 32) = .bool true := evl_of h32
            exact ⟨_, rfl, fun K_ hK_ => q_opG (wanted_on (t := 32) rfl rfl rfl h32) _ (x_loads [.int .i64 m.k, .int .u32 m.e, .int .u64 m.s, .int .u32 m.te, .int .u32 m.ts, .int .u32 m.be, .int .u32 m.bs, .int .i64 m.ix, .int .i64 m.tt, .int .u32 m.tk, .slice A m.its.length c, .slice B m.hvs.length d] 12 rfl e2 (bkCells (HS.get (.tail _ (.tail _ (.tail _ (.head _))))) 0 _ rfl) (by rfl) (by kernel_rfl) rfl) (hK_ _ _ ⟨qv_up hV (fun _ h => Option.some.inj h), hE⟩)⟩
          · have hE0 := hE
            rw [show bq_ 11 = false from (hoff 11 (by decide))] at hE0
            rw [show bq_ 8 = true from hq8] at hE0
            simp only [cond_true, cond_false] at hE0
            obtain ⟨hv1, hv3, hv8, HS⟩ := hE0
            have e2 : evl l_ (.tmp 2) = .pointer (some ⟨g5, 0, none⟩) := evl_of ((hel 2 (by decide)).trans rfl)
            have e32 : evl l_ (.tmp 32) = .bool true := evl_of h32
            exact ⟨_, rfl, fun K_ hK_ => q_opG (wanted_on (t := 32) rfl rfl rfl h32) _ (x_loads [.int .i64 m.k, .int .u32 m.e, .int .u64 m.s, .int .u32 m.te, .int .u32 m.ts, .int .u32 m.be, .int .u32 m.bs, .int .i64 m.ix, .int .i64 m.tt, .int .u32 m.tk, .slice A m.its.length c, .slice B m.hvs.length d] 12 rfl e2 (bkCells (HS.get (.tail _ (.tail _ (.tail _ (.head _))))) 0 _ rfl) (by rfl) (by kernel_rfl) rfl) (hK_ _ _ ⟨qv_up hV (fun _ h => Option.some.inj h), hE⟩)⟩
        · have h32 : (fr l_).tmps[32]? = some (.bool true) := hv_ 5 32 _ (by decide) rfl (hon 5 (by decide))
          rcases hq8 : bq_ 8 with _ | _
          · skip
            have hE0 := hE
            rw [show bq_ 11 = false from (hoff 11 (by decide))] at hE0
            rw [show bq_ 8 = false from hq8] at hE0
            rw [show bq_ 3 = true from (hon 3 (by decide))] at hE0
            simp only [cond_true, cond_false] at hE0
            obtain ⟨hv1, hv3, HS⟩ := hE0
            have e3 : evl l_ (.tmp 3) = .pointer (some ⟨g8, 0, none⟩) := evl_of ((hel 3 (by decide)).trans rfl)
            have e32 : evl l_ (.tmp 32) = .bool true := evl_of h32
            exact ⟨_, rfl, fun K_ hK_ => q_opG (wanted_on (t := 32) rfl rfl rfl h32) _ (x_loads [.int .i64 n.k, .int .u32 n.e, .int .u64 n.s, .int .u32 n.te, .int .u32 n.ts, .int .u32 n.be, .int .u32 n.bs, .int .i64 n.ix, .int .i64 n.tt, .int .u32 n.tk, .slice A2 n.its.length c2, .slice B2 n.hvs.length d2] 12 rfl e3 (bkCells (HS.get (.tail _ (.tail _ (.head _)))) 0 _ rfl) (by rfl) (by kernel_rfl) rfl) (hK_ _ _ ⟨qv_up hV (fun _ h => Option.some.inj h), hE⟩)⟩
          · have hE0 := hE
            rw [show bq_ 11 = false from (hoff 11 (by decide))] at hE0
            rw [show bq_ 8 = true from hq8] at hE0
            simp only [cond_true, cond_false] at hE0
            obtain ⟨hv1, hv3, hv8, HS⟩ := hE0
            have e3 : evl l_ (.tmp 3) = .pointer (some ⟨g8, 0, none⟩) := evl_of ((hel 3 (by decide)).trans rfl)
            have e32 : evl l_ (.tmp 32) = .bool true := evl_of h32
            exact ⟨_, rfl, fun K_ hK_ => q_opG (wanted_on (t := 32) rfl rfl rfl h32) _ (x_loads [.int .i64 n.k, .int .u32 n.e, .int .u64 n.s, .int .u32 n.te, .int .u32 n.ts, .int .u32 n.be, .int .u32 n.bs, .int .i64 n.ix, .int .i64 n.tt, .int .u32 n.tk, .slice A2 n.its.length c2, .slice B2 n.hvs.length d2] 12 rfl e3 (bkCells (HS.get (.tail _ (.tail _ (.head _)))) 0 _ rfl) (by rfl) (by kernel_rfl) rfl) (hK_ _ _ ⟨qv_up hV (fun _ h => Option.some.inj h), hE⟩)⟩
        · have h32 : (fr l_).tmps[32]? = some (.bool true) := hv_ 5 32 _ (by decide) rfl (hon 5 (by decide))
          have h36 : (fr l_).tmps[36]? = some (mgV m A c B d) := hv_ 9 36 _ (by decide) rfl (hon 9 (by decide))
          have h37 : (fr l_).tmps[37]? = some (mgV n A2 c2 B2 d2) := hv_ 10 37 _ (by decide) rfl (hon 10 (by decide))
          have hE0 := hE
          rw [show bq_ 11 = false from hb_] at hE0
          rw [show bq_ 8 = true from (hon 8 (by decide))] at hE0
          simp only [cond_true, cond_false] at hE0
          obtain ⟨hv1, hv3, hv8, HS⟩ := hE0
          have e32 : evl l_ (.tmp 32) = .bool true := evl_of h32
          have e36 : evl l_ (.tmp 36) = mgV m A c B d := evl_of h36
          have e37 : evl l_ (.tmp 37) = mgV n A2 c2 B2 d2 := evl_of h37
          refine ⟨_, rfl, fun K_ hK_ => wp_of_listG rfl (wanted_on (t := 32) rfl rfl rfl h32) ?_⟩
          intro ops_
          refine w_call [mgV m A c B d, mgV n A2 c2 B2 d2] Try.func17 (by kernel_rfl) (by rfl) (by simp only [List.map_cons, List.map_nil, e36, e37] <;> rfl) ?_
          refine (r18same_any _ m A c (Kd.C_below hA HS.belowOf) B d (Kd.C_below hB HS.belowOf) (by omega) (by omega) n A2 c2 (Kd.C_below hA2 HS.belowOf) B2 d2 (Kd.C_below hB2 HS.belowOf) (by omega) (by omega)).mono ?_
          rintro e w901101 ⟨rfl, hb_⟩
          replace HS := HS.here hb_
          clear hb_
          refine ⟨_, rfl, ?_⟩
          refine wpList_nil ?_
          refine norm_put (hK_ (.bool (smB m n)) _ ⟨qv_up hV (by intro _ h; cases h), ?_⟩)
          show cond true _ _
          rw [cond_true]
          exact ⟨hv1, hv3, hv8, rfl, ((((HS.front 3 rfl).front 3 rfl).front 3 rfl).front 3 rfl)⟩
        · have h32 : (fr l_).tmps[32]? = some (.bool true) := hv_ 5 32 _ (by decide) rfl (hon 5 (by decide))
          have h35 := hval (8, 35) (by decide) (hon 8 (by decide))
          have h38 := hval (11, 38) (by decide) (hon 11 (by decide))
          have hE0 := hE
          rw [show bq_ 11 = true from (hon 11 (by decide))] at hE0
          simp only [cond_true, cond_false] at hE0
          obtain ⟨hv1, hv3, hv8, hv11, HS⟩ := hE0
          rw [hv8] at h35
          rw [hv11] at h38
          have e32 : evl l_ (.tmp 32) = .bool true := evl_of h32
          have e35 : evl l_ (.tmp 35) = .bool (smB m n) := evl_of h35
          have e38 : evl l_ (.tmp 38) = .bool (smB m n) := evl_of h38
          exact ⟨_, rfl, fun K_ hK_ => q_opG (wanted_on (t := 32) rfl rfl rfl h32) _ (x_boolcmp .eql (smB m n) (smB m n) true rfl e35 e38 Try.underlying4 (beq_self_eq_true _) rfl) (hK_ _ _ ⟨qv_up hV (fun _ h => Option.some.inj h), hE⟩)⟩
        · have e32 : evl l_ (.tmp 32) = .bool true := evl_of (hv_ 5 32 _ (by decide) rfl (hon 5 (by decide)))
          have e39 : evl l_ (.tmp 39) = .bool true := evl_of (hv_ 12 39 _ (by decide) rfl (hon 12 (by decide)))
          exact ⟨_, rfl, fun K_ hK_ => q_op _ (x_pick true (.bool true) (.bool false) (.bool true) rfl e32 e39 rfl rfl) (hK_ _ _ ⟨qv_up hV (fun _ h => Option.some.inj h), hE⟩)⟩
        · have e40 : evl l_ (.tmp 40) = .bool true := evl_of (hv_ 13 40 _ (by decide) rfl (hon 13 (by decide)))
          exact ⟨_, rfl, fun K_ hK_ => q_op _ (x_move (.bool true) rfl e40) (hK_ _ _ ⟨qv_up hV (fun _ h => Option.some.inj h), hE⟩)⟩
        · have h41 : (fr l_).tmps[41]? = some (.bool true) := hv_ 14 41 _ (by decide) rfl (hon 14 (by decide))
          have e5 : evl l_ (.tmp 5) = .slice A30 ((fbB m).length) c31 := evl_of ((hel 5 (by decide)).trans rfl)
          have e41 : evl l_ (.tmp 41) = .bool true := evl_of h41
          exact ⟨_, rfl, fun K_ hK_ => q_opG (wanted_on (t := 41) rfl rfl rfl h41) _ (x_move (.slice A30 ((fbB m).length) c31) rfl e5) (hK_ _ _ ⟨qv_up hV (fun _ h => Option.some.inj h), hE⟩)⟩
        · have h41 : (fr l_).tmps[41]? = some (.bool true) := hv_ 14 41 _ (by decide) rfl (hon 14 (by decide))
          have hE0 := hE
          rw [show bq_ 11 = true from (hon 11 (by decide))] at hE0
          simp only [cond_true, cond_false] at hE0
          obtain ⟨hv1, hv3, hv8, hv11, HS⟩ := hE0
          have e41 : evl l_ (.tmp 41) = .bool true := evl_of h41
          have e42 : evl l_ (.tmp 42) = .slice A30 ((fbB m).length) c31 := evl_of (hv_ 15 42 _ (by decide) rfl (hon 15 (by decide)))
          exact ⟨_, rfl, fun K_ hK_ => q_opG (wanted_on (t := 41) rfl rfl rfl h41) _ (x_str (xs := (fbB m)) (row_rd (HS.get (.tail _ (.head _)))).2.2 (by first | rfl | simp) rfl e42) (hK_ _ _ ⟨qv_up hV (fun _ h => Option.some.inj h), hE⟩)⟩
        · have h41 : (fr l_).tmps[41]? = some (.bool true) := hv_ 14 41 _ (by decide) rfl (hon 14 (by decide))
          have e7 : evl l_ (.tmp 7) = .slice A37 ((fbB m).length) c38 := evl_of ((hel 7 (by decide)).trans rfl)
          have e41 : evl l_ (.tmp 41) = .bool true := evl_of h41
          exact ⟨_, rfl, fun K_ hK_ => q_opG (wanted_on (t := 41) rfl rfl rfl h41) _ (x_move (.slice A37 ((fbB m).length) c38) rfl e7) (hK_ _ _ ⟨qv_up hV (fun _ h => Option.some.inj h), hE⟩)⟩
        · have h41 : (fr l_).tmps[41]? = some (.bool true) := hv_ 14 41 _ (by decide) rfl (hon 14 (by decide))
          have hE0 := hE
          rw [show bq_ 11 = true from (hon 11 (by decide))] at hE0
          simp only [cond_true, cond_false] at hE0
          obtain ⟨hv1, hv3, hv8, hv11, HS⟩ := hE0
          have e41 : evl l_ (.tmp 41) = .bool true := evl_of h41
          have e44 : evl l_ (.tmp 44) = .slice A37 ((fbB m).length) c38 := evl_of (hv_ 17 44 _ (by decide) rfl (hon 17 (by decide)))
          exact ⟨_, rfl, fun K_ hK_ => q_opG (wanted_on (t := 41) rfl rfl rfl h41) _ (x_str (xs := (fbB m)) (row_rd (HS.get (.head _))).2.2 (by first | rfl | simp) rfl e44) (hK_ _ _ ⟨qv_up hV (fun _ h => Option.some.inj h), hE⟩)⟩
        · have h41 : (fr l_).tmps[41]? = some (.bool true) := hv_ 14 41 _ (by decide) rfl (hon 14 (by decide))
          have e41 : evl l_ (.tmp 41) = .bool true := evl_of h41
          have e43 : evl l_ (.tmp 43) = .string (strB (fbB m)) := evl_of (hv_ 16 43 _ (by decide) rfl (hon 16 (by decide)))
          have e45 : evl l_ (.tmp 45) = .string (strB (fbB m)) := evl_of (hv_ 18 45 _ (by decide) rfl (hon 18 (by decide)))
          exact ⟨_, rfl, fun K_ hK_ => q_opG (wanted_on (t := 41) rfl rfl rfl h41) _ (x_streq .eql (strB (fbB m)) (strB (fbB m)) true rfl e43 e45 (beq_self_eq_true _) rfl) (hK_ _ _ ⟨qv_up hV (fun _ h => Option.some.inj h), hE⟩)⟩
        · have e41 : evl l_ (.tmp 41) = .bool true := evl_of (hv_ 14 41 _ (by decide) rfl (hon 14 (by decide)))
          have e46 : evl l_ (.tmp 46) = .bool true := evl_of (hv_ 19 46 _ (by decide) rfl (hon 19 (by decide)))
          exact ⟨_, rfl, fun K_ hK_ => q_op _ (x_pick true (.bool true) (.bool false) (.bool true) rfl e41 e46 rfl rfl) (hK_ _ _ ⟨qv_up hV (fun _ h => Option.some.inj h), hE⟩)⟩
        · have e47 : evl l_ (.tmp 47) = .bool true := evl_of (hv_ 20 47 _ (by decide) rfl (hon 20 (by decide)))
          exact ⟨_, rfl, fun K_ hK_ => q_op _ (x_move (.bool true) rfl e47) (hK_ _ _ ⟨qv_up hV (fun _ h => Option.some.inj h), hE⟩)⟩
        · have h48 : (fr l_).tmps[48]? = some (.bool true) := hv_ 21 48 _ (by decide) rfl (hon 21 (by decide))
          have e6 : evl l_ (.tmp 6) = .int .i64 (fbE m) := evl_of ((hel 6 (by decide)).trans rfl)
          have e48 : evl l_ (.tmp 48) = .bool true := evl_of h48
          exact ⟨_, rfl, fun K_ hK_ => q_opG (wanted_on (t := 48) rfl rfl rfl h48) _ (x_move (.int .i64 (fbE m)) rfl e6) (hK_ _ _ ⟨qv_up hV (fun _ h => Option.some.inj h), hE⟩)⟩
        · have h48 : (fr l_).tmps[48]? = some (.bool true) := hv_ 21 48 _ (by decide) rfl (hon 21 (by decide))
          have e8 : evl l_ (.tmp 8) = .int .i64 (fbE m) := evl_of ((hel 8 (by decide)).trans rfl)
          have e48 : evl l_ (.tmp 48) = .bool true := evl_of h48
          exact ⟨_, rfl, fun K_ hK_ => q_opG (wanted_on (t := 48) rfl rfl rfl h48) _ (x_move (.int .i64 (fbE m)) rfl e8) (hK_ _ _ ⟨qv_up hV (fun _ h => Option.some.inj h), hE⟩)⟩
        · have h48 : (fr l_).tmps[48]? = some (.bool true) := hv_ 21 48 _ (by decide) rfl (hon 21 (by decide))
          have e48 : evl l_ (.tmp 48) = .bool true := evl_of h48
          have e49 : evl l_ (.tmp 49) = .int .i64 (fbE m) := evl_of (hv_ 22 49 _ (by decide) rfl (hon 22 (by decide)))
          have e50 : evl l_ (.tmp 50) = .int .i64 (fbE m) := evl_of (hv_ 23 50 _ (by decide) rfl (hon 23 (by decide)))
          exact ⟨_, rfl, fun K_ hK_ => q_opG (wanted_on (t := 48) rfl rfl rfl h48) _ (x_cmp (k := .i64) (m := (fbE m)) (n := (fbE m)) .eql true rfl e49 e50 (by simp [cmpB]) rfl) (hK_ _ _ ⟨qv_up hV (fun _ h => Option.some.inj h), hE⟩)⟩
        · have e48 : evl l_ (.tmp 48) = .bool true := evl_of (hv_ 21 48 _ (by decide) rfl (hon 21 (by decide)))
          have e51 : evl l_ (.tmp 51) = .bool true := evl_of (hv_ 24 51 _ (by decide) rfl (hon 24 (by decide)))
          exact ⟨_, rfl, fun K_ hK_ => q_op _ (x_pick true (.bool true) (.bool false) (.bool true) rfl e48 e51 rfl rfl) (hK_ _ _ ⟨qv_up hV (fun _ h => Option.some.inj h), hE⟩)⟩
        · have e52 : evl l_ (.tmp 52) = .bool true := evl_of (hv_ 25 52 _ (by decide) rfl (hon 25 (by decide)))
          exact ⟨_, rfl, fun K_ hK_ => q_op _ (x_assign (.bool true) rfl e52) (hK_ _ _ ⟨qv_up hV (fun _ h => Option.some.inj h), hE⟩)⟩
      intro bq_ vq_ w_ hall hG
      obtain ⟨hV, hE⟩ := hG
      clear HS
      rw [show bq_ 11 = true from hall 11 (by decide)] at hE
      simp only [cond_true] at hE
      obtain ⟨hv1, hv3, hv8, hv11, HS⟩ := hE
      have hv0 := hV 0 _ rfl (hall 0 (by decide))
      have hv2 := hV 2 _ rfl (hall 2 (by decide))
      have hv4 := hV 4 _ rfl (hall 4 (by decide))
      have hv5 := hV 5 _ rfl (hall 5 (by decide))
      have hv6 := hV 6 _ rfl (hall 6 (by decide))
      have hv7 := hV 7 _ rfl (hall 7 (by decide))
      have hv9 := hV 9 _ rfl (hall 9 (by decide))
      have hv10 := hV 10 _ rfl (hall 10 (by decide))
      have hv12 := hV 12 _ rfl (hall 12 (by decide))
      have hv13 := hV 13 _ rfl (hall 13 (by decide))
      have hv14 := hV 14 _ rfl (hall 14 (by decide))
      have hv15 := hV 15 _ rfl (hall 15 (by decide))
      have hv16 := hV 16 _ rfl (hall 16 (by decide))
      have hv17 := hV 17 _ rfl (hall 17 (by decide))
      have hv18 := hV 18 _ rfl (hall 18 (by decide))
      have hv19 := hV 19 _ rfl (hall 19 (by decide))
      have hv20 := hV 20 _ rfl (hall 20 (by decide))
      have hv21 := hV 21 _ rfl (hall 21 (by decide))
      have hv22 := hV 22 _ rfl (hall 22 (by decide))
      have hv23 := hV 23 _ rfl (hall 23 (by decide))
      have hv24 := hV 24 _ rfl (hall 24 (by decide))
      have hv25 := hV 25 _ rfl (hall 25 (by decide))
      have hv26 := hV 26 _ rfl (hall 26 (by decide))
      clear hV hall
      rw [putSel_fr]
      simp only [tells, List.map_cons, List.map_nil, setAll, List.set_cons_succ, List.set_cons_zero, hv0, hv1, hv2, hv3, hv4, hv5, hv6, hv7, hv8, hv9, hv10, hv11, hv12, hv13, hv14, hv15, hv16, hv17, hv18, hv19, hv20, hv21, hv22, hv23, hv24, hv25, hv26]
      clear hv0 hv1 hv2 hv3 hv4 hv5 hv6 hv7 hv8 hv9 hv10 hv11 hv12 hv13 hv14 hv15 hv16 hv17 hv18 hv19 hv20 hv21 hv22 hv23 hv24 hv25 hv26
      generalize w_ = w901801 at HS ⊢
      refine fr_at (l' := (mgV m A c B d :: mgV n A2 c2 B2 d2 :: .pointer (some ⟨g5, 0, none⟩) :: .pointer (some ⟨g8, 0, none⟩) :: .bool true :: .slice A30 ((fbB m).length) c31 :: .int .i64 (fbE m) :: .slice A37 ((fbB m).length) c38 :: .int .i64 (fbE m) :: .bool true :: .bool false :: mgV m A c B d :: .bool false :: .bool false :: mgV n A2 c2 B2 d2 :: .bool false :: .bool false :: .tuple [.slice A30 ((fbB m).length) c31, .int .i64 (fbE m)].toArray :: mgV m A c B d :: .tuple [.slice A30 ((fbB m).length) c31, .int .i64 (fbE m)].toArray :: .slice A30 ((fbB m).length) c31 :: .int .i64 (fbE m) :: .tuple [.slice A37 ((fbB m).length) c38, .int .i64 (fbE m)].toArray :: mgV m A c B d :: .tuple [.slice A37 ((fbB m).length) c38, .int .i64 (fbE m)].toArray :: .slice A37 ((fbB m).length) c38 :: .int .i64 (fbE m) :: mgV m A c B d :: .bool (mgOk m) :: mgV m A c B d :: .bool (mgOk m) :: .bool true :: .bool true :: mgV m A c B d :: mgV n A2 c2 B2 d2 :: .bool (smB m n) :: mgV m A c B d :: mgV n A2 c2 B2 d2 :: .bool (smB m n) :: .bool true :: .bool true :: .bool true :: .slice A30 ((fbB m).length) c31 :: .string (strB (fbB m)) :: .slice A37 ((fbB m).length) c38 :: .string (strB (fbB m)) :: .bool true :: .bool true :: .bool true :: .int .i64 (fbE m) :: .int .i64 (fbE m) :: .bool true :: .bool true :: [])) rfl ?_
      refine hK41 _ _ ?_
      refine wp_ret ?_
      try simp only [Exit.inBlock, Exit.then]
      refine c_ret (.bool true) (r_tmp rfl rfl) ?_
      exact ⟨rfl, HS.belowOf⟩
    · skip
      refine c_enter Try.func4 rfl 53 rfl (mgV m A c B d :: mgV n A2 c2 B2 d2 :: U32ld (U16ld (undef :: undef :: undef :: []))) rfl ?_
      refine wp_seq_k (fun K1 hK2 => ?_)
      refine c_region (fun ops4 hops3 => ?_)
      clear hops3
      refine St.wBox HS (cs := [.int .i64 m.k, .int .u32 m.e, .int .u64 m.s, .int .u32 m.te, .int .u32 m.ts, .int .u32 m.be, .int .u32 m.bs, .int .i64 m.ix, .int .i64 m.tt, .int .u32 m.tk, .slice A m.its.length c, .slice B m.hvs.length d]) (mgV m A c B d) rfl rfl ?_
      clear HS
      intro g5 w6 hg7 HS
      refine St.wBox HS (cs := [.int .i64 n.k, .int .u32 n.e, .int .u64 n.s, .int .u32 n.te, .int .u32 n.ts, .int .u32 n.be, .int .u32 n.bs, .int .i64 n.ix, .int .i64 n.tt, .int .u32 n.tk, .slice A2 n.its.length c2, .slice B2 n.hvs.length d2]) (mgV n A2 c2 B2 d2) rfl rfl ?_
      clear HS
      intro g8 w9 hg10 HS
      refine p_run _ (x_assign (.bool false) rfl rfl) rfl ?_
      refine wpList_nil ?_
      refine hK2 _ _ ?_
      refine wp_seq_k (fun K11 hK12 => ?_)
      refine wp_seq_k (fun K13 hK14 => ?_)
      refine c_region (fun ops16 hops15 => ?_)
      clear hops15
      refine w_call [] Try.func11 (by kernel_rfl) (by rfl) rfl ?_
      refine (falive_any _).mono ?_
      rintro e w17 ⟨rfl, hb_⟩
      replace HS := HS.here hb_
      clear hb_
      refine ⟨_, rfl, ?_⟩
      refine p_run _ (x_not true rfl rfl) rfl ?_
      refine wpList_nil ?_
      refine fr_at (l' := (mgV m A c B d :: mgV n A2 c2 B2 d2 :: .pointer (some ⟨g5, 0, none⟩) :: .pointer (some ⟨g8, 0, none⟩) :: .bool false :: U4ld (.bool true :: .bool false :: U32ld (U8ld (undef :: undef :: []))))) rfl ?_
      refine hK14 _ _ ?_
      refine c_false rfl ?_
      refine wp_skip ?_
      refine hK12 _ _ ?_
      refine wp_seq_k (fun K18 hK19 => ?_)
      refine wp_seq_k (fun K20 hK21 => ?_)
      refine c_region (fun ops23 hops22 => ?_)
      refine p_run _ (x_loads [.int .i64 m.k, .int .u32 m.e, .int .u64 m.s, .int .u32 m.te, .int .u32 m.ts, .int .u32 m.be, .int .u32 m.bs, .int .i64 m.ix, .int .i64 m.tt, .int .u32 m.tk, .slice A m.its.length c, .slice B m.hvs.length d] 12 rfl rfl (bkCells (HS.get (.tail _ (.head _))) 0 _ rfl) (by rfl) (by kernel_rfl) rfl) rfl ?_
      refine w_call [mgV m A c B d] Try.func12 (by kernel_rfl) (by rfl) rfl ?_
      refine (fgreat_any _ m A c B d).mono ?_
      rintro e w24 ⟨he_, hb_⟩
      rw [hg] at he_
      subst he_
      replace HS := HS.here hb_
      clear hb_
      refine ⟨_, rfl, ?_⟩
      refine p_run _ (x_move (.bool false) rfl rfl) rfl ?_
      refine p_on rfl (by rw [hops22]; rfl) ?_
      refine p_run _ (x_loads [.int .i64 n.k, .int .u32 n.e, .int .u64 n.s, .int .u32 n.te, .int .u32 n.ts, .int .u32 n.be, .int .u32 n.bs, .int .i64 n.ix, .int .i64 n.tt, .int .u32 n.tk, .slice A2 n.its.length c2, .slice B2 n.hvs.length d2] 12 rfl rfl (bkCells (HS.get (.head _)) 0 _ rfl) (by rfl) (by kernel_rfl) rfl) rfl ?_
      refine p_on rfl (by rw [hops22]; rfl) ?_
      refine w_call [mgV n A2 c2 B2 d2] Try.func12 (by kernel_rfl) (by rfl) rfl ?_
      refine (fgreat_any _ n A2 c2 B2 d2).mono ?_
      rintro e w25 ⟨he_, hb_⟩
      rw [hg2] at he_
      subst he_
      replace HS := HS.here hb_
      clear hb_
      refine ⟨_, rfl, ?_⟩
      refine p_run (l' := (mgV m A c B d :: mgV n A2 c2 B2 d2 :: .pointer (some ⟨g5, 0, none⟩) :: .pointer (some ⟨g8, 0, none⟩) :: .bool false :: U4ld (.bool true :: .bool false :: mgV m A c B d :: .bool false :: .bool false :: mgV n A2 c2 B2 d2 :: .bool true :: .bool true :: U32ld (U4ld ([]))))) _ (x_pick false (.bool true) (.bool true) (.bool true) rfl rfl rfl rfl rfl) rfl ?_
      clear hops22
      refine wpList_nil ?_
      refine hK21 _ _ ?_
      refine c_true rfl ?_
      refine wp_seq_k (fun K26 hK27 => ?_)
      refine c_region (fun ops29 hops28 => ?_)
      clear hops28
      refine p_run _ (x_assign (.bool true) rfl rfl) rfl ?_
      refine wpList_nil ?_
      refine hK27 _ _ ?_
      refine wp_ret ?_
      try simp only [Exit.inBlock, Exit.then]
      refine c_ret (.bool true) (r_tmp rfl rfl) ?_
      exact ⟨rfl, HS.belowOf⟩
  · skip
    refine c_enter Try.func4 rfl 53 rfl (mgV m A c B d :: mgV n A2 c2 B2 d2 :: U32ld (U16ld (undef :: undef :: undef :: []))) rfl ?_
    refine wp_seq_k (fun K1 hK2 => ?_)
    refine c_region (fun ops4 hops3 => ?_)
    clear hops3
    refine St.wBox HS (cs := [.int .i64 m.k, .int .u32 m.e, .int .u64 m.s, .int .u32 m.te, .int .u32 m.ts, .int .u32 m.be, .int .u32 m.bs, .int .i64 m.ix, .int .i64 m.tt, .int .u32 m.tk, .slice A m.its.length c, .slice B m.hvs.length d]) (mgV m A c B d) rfl rfl ?_
    clear HS
    intro g5 w6 hg7 HS
    refine St.wBox HS (cs := [.int .i64 n.k, .int .u32 n.e, .int .u64 n.s, .int .u32 n.te, .int .u32 n.ts, .int .u32 n.be, .int .u32 n.bs, .int .i64 n.ix, .int .i64 n.tt, .int .u32 n.tk, .slice A2 n.its.length c2, .slice B2 n.hvs.length d2]) (mgV n A2 c2 B2 d2) rfl rfl ?_
    clear HS
    intro g8 w9 hg10 HS
    refine p_run _ (x_assign (.bool false) rfl rfl) rfl ?_
    refine wpList_nil ?_
    refine hK2 _ _ ?_
    refine wp_seq_k (fun K11 hK12 => ?_)
    refine wp_seq_k (fun K13 hK14 => ?_)
    refine c_region (fun ops16 hops15 => ?_)
    clear hops15
    refine w_call [] Try.func11 (by kernel_rfl) (by rfl) rfl ?_
    refine (falive_any _).mono ?_
    rintro e w17 ⟨rfl, hb_⟩
    replace HS := HS.here hb_
    clear hb_
    refine ⟨_, rfl, ?_⟩
    refine p_run _ (x_not true rfl rfl) rfl ?_
    refine wpList_nil ?_
    refine fr_at (l' := (mgV m A c B d :: mgV n A2 c2 B2 d2 :: .pointer (some ⟨g5, 0, none⟩) :: .pointer (some ⟨g8, 0, none⟩) :: .bool false :: U4ld (.bool true :: .bool false :: U32ld (U8ld (undef :: undef :: []))))) rfl ?_
    refine hK14 _ _ ?_
    refine c_false rfl ?_
    refine wp_skip ?_
    refine hK12 _ _ ?_
    refine wp_seq_k (fun K18 hK19 => ?_)
    refine wp_seq_k (fun K20 hK21 => ?_)
    refine c_region (fun ops23 hops22 => ?_)
    refine p_run _ (x_loads [.int .i64 m.k, .int .u32 m.e, .int .u64 m.s, .int .u32 m.te, .int .u32 m.ts, .int .u32 m.be, .int .u32 m.bs, .int .i64 m.ix, .int .i64 m.tt, .int .u32 m.tk, .slice A m.its.length c, .slice B m.hvs.length d] 12 rfl rfl (bkCells (HS.get (.tail _ (.head _))) 0 _ rfl) (by rfl) (by kernel_rfl) rfl) rfl ?_
    refine w_call [mgV m A c B d] Try.func12 (by kernel_rfl) (by rfl) rfl ?_
    refine (fgreat_any _ m A c B d).mono ?_
    rintro e w24 ⟨he_, hb_⟩
    rw [hg] at he_
    subst he_
    replace HS := HS.here hb_
    clear hb_
    refine ⟨_, rfl, ?_⟩
    refine p_run _ (x_move (.bool true) rfl rfl) rfl ?_
    refine p_off (by rw [hops22]; rfl) rfl ?_
    refine p_off (by rw [hops22]; rfl) rfl ?_
    refine p_run (l' := (mgV m A c B d :: mgV n A2 c2 B2 d2 :: .pointer (some ⟨g5, 0, none⟩) :: .pointer (some ⟨g8, 0, none⟩) :: .bool false :: U4ld (.bool true :: .bool false :: mgV m A c B d :: .bool true :: .bool true :: undef :: undef :: .bool true :: U32ld (U4ld ([]))))) _ (x_pick true (.bool true) (undef) (.bool true) rfl rfl rfl rfl rfl) rfl ?_
    clear hops22
    refine wpList_nil ?_
    refine hK21 _ _ ?_
    refine c_true rfl ?_
    refine wp_seq_k (fun K25 hK26 => ?_)
    refine c_region (fun ops28 hops27 => ?_)
    clear hops27
    refine p_run _ (x_assign (.bool true) rfl rfl) rfl ?_
    refine wpList_nil ?_
    refine hK26 _ _ ?_
    refine wp_ret ?_
    try simp only [Exit.inBlock, Exit.then]
    refine c_ret (.bool true) (r_tmp rfl rfl) ?_
    exact ⟨rfl, HS.belowOf⟩
theorem fmbytes_any (m : Mg) (A : Option Addr) (c : Nat) (B : Option Addr) (d : Nat) (n : Mg) (A2 : Option Addr) (c2 : Nat) (B2 : Option Addr) (d2 : Nat) (w : World) (hw : m.wf) (hA : kIt.C w A m.its.length m.its) (hB : kHv.C w B m.hvs.length m.hvs) (hv : n.wf) (hA2 : kIt.C w A2 n.its.length n.its) (hB2 : kHv.C w B2 n.hvs.length n.hvs) : Calls Try.prog 4 #[mgV m A c B d, mgV n A2 c2 B2 d2] w fun e w' => e = .returned (.bool true) ∧ Below w.heap.size w w' := fmbytes_law w m hw A c hA B d hB n hv A2 c2 hA2 B2 d2 hB2
end Go.Proofs.Ytmachdikonelbaa
