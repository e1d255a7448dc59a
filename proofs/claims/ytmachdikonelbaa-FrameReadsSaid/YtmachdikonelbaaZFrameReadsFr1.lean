/- What frame.Right calls. -/
import Derived.Test.YtmachdikonelbaaZFrameReadsFrK
import Derived.Test.YtmachdikonelbaaZFrameReadsByWO
import Derived.Test.YtmachdikonelbaaZFrameReadsFlat
set_option linter.unusedVariables false
set_option linter.unusedSimpArgs false
namespace Go.Proofs.Ytmachdikonelbaa
open Go.RowKit Go.Proofs.YtmachdikonelbaaW.PrintWords Go.Proofs.YtmachdikonelbaaW.PrintLast Crc
abbrev U4f1 (l : List Value) : List Value := undef :: undef :: undef :: undef :: l
abbrev U8f1 (l : List Value) : List Value := U4f1 (U4f1 l)
abbrev U16f1 (l : List Value) : List Value := U8f1 (U8f1 l)
theorem wr64' {x : Int} (h : -9223372036854775808 ≤ x ∧ x < 9223372036854775808) : IntKind.i64.wrap x = x := by rw [IntKind.wrap_i64]; omega
theorem zB16_len : zB16.length = 16 := List.length_replicate
theorem map_bv_inj {a b : List UInt8} : (a.map bv = b.map bv) ↔ a = b := List.map_inj_right (fun x y h => bv_inj h)
theorem eq_map (a b : List UInt8) : decide (a.map bv = b.map bv) = decide (a = b) := by rw [decide_eq_decide]; exact map_bv_inj
set_option maxRecDepth 10000 in
theorem lright_any (w : World) (a b : Int) : Calls Try.prog 35 #[.agg ([.int .u32 a, .int .u32 b] : List Value).toArray] w fun e w' => e = .returned (.bool (lbOk a b)) ∧ Below w.heap.size w w' := by
  have HS := St.empty w
  by_cases ha : a ≤ 1048576
  · skip
    refine c_enter Try.func35 rfl 11 rfl [.agg ([.int .u32 a, .int .u32 b] : List Value).toArray, undef, undef, undef, undef, undef, undef, undef, undef, undef, undef] rfl ?_
    refine wp_seq_k (fun K1 hK2 => ?_)
    refine c_region (fun ops4 hops3 => ?_)
    clear hops3
    refine St.wBox HS (cs := [.int .u32 a, .int .u32 b]) (.agg ([.int .u32 a, .int .u32 b] : List Value).toArray) rfl rfl ?_
    clear HS
    intro g5 w6 hg7 HS
    refine p_run _ (x_assign (.bool false) rfl rfl) rfl ?_
    refine wpList_nil ?_
    refine hK2 _ _ ?_
    refine wp_seq_k (fun K8 hK9 => ?_)
    refine c_region (fun ops11 hops10 => ?_)
    refine p_run _ (x_field (j := 0) _ _ rfl rfl Try.underlying29 rfl (by rfl) rfl) rfl ?_
    refine p_run _ (x_load (.int .u32 a) rfl rfl (bkCell (HS.get (.head _)) 0 _ rfl) (by rfl)) rfl ?_
    refine p_run _ (x_cmp (k := .u32) (m := a) (n := 1048576) .leq true rfl rfl rfl (show decide _ = true from decide_eq_true ha) rfl) rfl ?_
    refine p_run _ (x_move (.bool true) rfl rfl) rfl ?_
    refine p_on rfl (by rw [hops10]; rfl) ?_
    refine p_run (l' := [.agg ([.int .u32 a, .int .u32 b] : List Value).toArray, .pointer (some ⟨g5, 0, none⟩), .bool false, .pointer (some ⟨g5, 0, none⟩), .int .u32 a, .bool true, .bool true, .pointer (some ⟨g5, 1, none⟩), undef, undef, undef]) _ (x_field (j := 1) _ _ rfl rfl Try.underlying29 rfl (by rfl) rfl) rfl ?_
    refine p_on rfl (by rw [hops10]; rfl) ?_
    refine p_run _ (x_load (.int .u32 b) rfl rfl (bkCell (HS.get (.head _)) 1 _ rfl) (by rfl)) rfl ?_
    refine p_on rfl (by rw [hops10]; rfl) ?_
    refine p_run _ (x_cmp (k := .u32) (m := b) (n := 1048576) .leq (decide (b ≤ 1048576)) rfl rfl rfl rfl rfl) rfl ?_
    refine p_run _ (x_pick true (.bool (decide (b ≤ 1048576))) (.bool false) (.bool (decide (b ≤ 1048576))) rfl rfl rfl rfl rfl) rfl ?_
    refine p_run _ (x_assign (.bool (decide (b ≤ 1048576))) rfl rfl) rfl ?_
    clear hops10
    refine wpList_nil ?_
    refine hK9 _ _ ?_
    refine wp_ret ?_
    try simp only [Exit.inBlock, Exit.then]
    refine c_ret (.bool (decide (b ≤ 1048576))) (r_tmp rfl rfl) ?_
    rw [show lbOk a b = decide (b ≤ 1048576) from by unfold lbOk; rw [decide_eq_true ha]; rfl]
    exact ⟨rfl, HS.belowOf⟩
  · skip
    refine c_enter Try.func35 rfl 11 rfl [.agg ([.int .u32 a, .int .u32 b] : List Value).toArray, undef, undef, undef, undef, undef, undef, undef, undef, undef, undef] rfl ?_
    refine wp_seq_k (fun K1 hK2 => ?_)
    refine c_region (fun ops4 hops3 => ?_)
    clear hops3
    refine St.wBox HS (cs := [.int .u32 a, .int .u32 b]) (.agg ([.int .u32 a, .int .u32 b] : List Value).toArray) rfl rfl ?_
    clear HS
    intro g5 w6 hg7 HS
    refine p_run _ (x_assign (.bool false) rfl rfl) rfl ?_
    refine wpList_nil ?_
    refine hK2 _ _ ?_
    refine wp_seq_k (fun K8 hK9 => ?_)
    refine c_region (fun ops11 hops10 => ?_)
    refine p_run _ (x_field (j := 0) _ _ rfl rfl Try.underlying29 rfl (by rfl) rfl) rfl ?_
    refine p_run _ (x_load (.int .u32 a) rfl rfl (bkCell (HS.get (.head _)) 0 _ rfl) (by rfl)) rfl ?_
    refine p_run _ (x_cmp (k := .u32) (m := a) (n := 1048576) .leq false rfl rfl rfl (show decide _ = false from decide_eq_false ha) rfl) rfl ?_
    refine p_run _ (x_move (.bool false) rfl rfl) rfl ?_
    refine p_off (l' := [.agg ([.int .u32 a, .int .u32 b] : List Value).toArray, .pointer (some ⟨g5, 0, none⟩), .bool false, .pointer (some ⟨g5, 0, none⟩), .int .u32 a, .bool false, .bool false, undef, undef, undef, undef]) (by rw [hops10]; rfl) rfl ?_
    refine p_off (by rw [hops10]; rfl) rfl ?_
    refine p_off (by rw [hops10]; rfl) rfl ?_
    refine p_run _ (x_pick false (undef) (.bool false) (.bool false) rfl rfl rfl rfl rfl) rfl ?_
    refine p_run _ (x_assign (.bool false) rfl rfl) rfl ?_
    clear hops10
    refine wpList_nil ?_
    refine hK9 _ _ ?_
    refine wp_ret ?_
    try simp only [Exit.inBlock, Exit.then]
    refine c_ret (.bool false) (r_tmp rfl rfl) ?_
    rw [show lbOk a b = false from by unfold lbOk; rw [decide_eq_false ha]; rfl]
    exact ⟨rfl, HS.belowOf⟩
set_option maxRecDepth 10000 in
theorem iright_any (w : World) (x1 : Int) (h : Bool) (b : List UInt8) (hb : b.length = 16) : Calls Try.prog 32 #[.agg (Value.int .i64 x1 :: Value.bool h :: (nums .u8 (b.map bv))).toArray] w fun e w' => e = .returned (.bool (itOk (x1, h, b))) ∧ Below w.heap.size w w' := by
  have HS := St.empty w
  rcases (by omega : x1 < 0 ∨ 64 ≤ x1 ∨ (0 ≤ x1 ∧ x1 < 64)) with hk | hk | hk
  · skip
    refine c_enter Try.func32 rfl 21 rfl (.agg (Value.int .i64 x1 :: Value.bool h :: (nums .u8 (b.map bv))).toArray :: U16f1 (U4f1 ([]))) rfl ?_
    refine wp_seq_k (fun K1 hK2 => ?_)
    refine c_region (fun ops4 hops3 => ?_)
    clear hops3
    refine St.wBox HS (cs := (Value.int .i64 x1 :: Value.bool h :: (nums .u8 (b.map bv)))) (.agg (Value.int .i64 x1 :: Value.bool h :: (nums .u8 (b.map bv))).toArray) rfl rfl ?_
    clear HS
    intro g5 w6 hg7 HS
    refine p_run _ (x_assign (.bool false) rfl rfl) rfl ?_
    refine wpList_nil ?_
    refine hK2 _ _ ?_
    refine wp_seq_k (fun K8 hK9 => ?_)
    refine c_region (fun ops11 hops10 => ?_)
    refine p_run _ (x_field (j := 0) _ _ rfl rfl Try.underlying53 rfl (by rfl) rfl) rfl ?_
    refine p_run _ (x_load (.int .i64 x1) rfl rfl (bkCell (HS.get (.head _)) 0 _ rfl) (by rfl)) rfl ?_
    refine p_run _ (x_cmp (k := .i64) (m := x1) (n := 0) .geq false rfl rfl rfl (show decide _ = false from decide_eq_false (by omega)) rfl) rfl ?_
    refine p_run _ (x_move (.bool false) rfl rfl) rfl ?_
    refine p_off (l' := (.agg (Value.int .i64 x1 :: Value.bool h :: (nums .u8 (b.map bv))).toArray :: .pointer (some ⟨g5, 0, none⟩) :: .bool false :: .pointer (some ⟨g5, 0, none⟩) :: .int .i64 x1 :: .bool false :: .bool false :: U8f1 (U4f1 (undef :: undef :: [])))) (by rw [hops10]; rfl) rfl ?_
    refine p_off (by rw [hops10]; rfl) rfl ?_
    refine p_off (by rw [hops10]; rfl) rfl ?_
    refine p_run _ (x_pick false (undef) (.bool false) (.bool false) rfl rfl rfl rfl rfl) rfl ?_
    refine p_run _ (x_move (.bool false) rfl rfl) rfl ?_
    refine p_off (by rw [hops10]; rfl) rfl ?_
    refine p_off (by rw [hops10]; rfl) rfl ?_
    refine p_off (l' := (.agg (Value.int .i64 x1 :: Value.bool h :: (nums .u8 (b.map bv))).toArray :: .pointer (some ⟨g5, 0, none⟩) :: .bool false :: .pointer (some ⟨g5, 0, none⟩) :: .int .i64 x1 :: .bool false :: .bool false :: undef :: undef :: undef :: .bool false :: .bool false :: U8f1 (undef :: []))) (by rw [hops10]; rfl) rfl ?_
    refine p_off (by rw [hops10]; rfl) rfl ?_
    refine p_off (by rw [hops10]; rfl) rfl ?_
    refine p_off (by rw [hops10]; rfl) rfl ?_
    refine p_off (by rw [hops10]; rfl) rfl ?_
    refine p_off (by rw [hops10]; rfl) rfl ?_
    refine p_run _ (x_pick false (undef) (.bool false) (.bool false) rfl rfl rfl rfl rfl) rfl ?_
    refine p_run (l' := (.agg (Value.int .i64 x1 :: Value.bool h :: (nums .u8 (b.map bv))).toArray :: .pointer (some ⟨g5, 0, none⟩) :: .bool false :: .pointer (some ⟨g5, 0, none⟩) :: .int .i64 x1 :: .bool false :: .bool false :: undef :: undef :: undef :: .bool false :: .bool false :: U8f1 (.bool false :: []))) _ (x_assign (.bool false) rfl rfl) rfl ?_
    clear hops10
    refine wpList_nil ?_
    refine hK9 _ _ ?_
    refine wp_ret ?_
    try simp only [Exit.inBlock, Exit.then]
    refine c_ret (.bool false) (r_tmp rfl rfl) ?_
    have e1 : itOk (x1, h, b) = false := by
      unfold itOk
      dsimp only
      rw [decide_eq_false (show ¬ 0 ≤ x1 by omega)]; rfl
    rw [e1]
    exact ⟨rfl, HS.belowOf⟩
  · skip
    refine c_enter Try.func32 rfl 21 rfl (.agg (Value.int .i64 x1 :: Value.bool h :: (nums .u8 (b.map bv))).toArray :: U16f1 (U4f1 ([]))) rfl ?_
    refine wp_seq_k (fun K1 hK2 => ?_)
    refine c_region (fun ops4 hops3 => ?_)
    clear hops3
    refine St.wBox HS (cs := (Value.int .i64 x1 :: Value.bool h :: (nums .u8 (b.map bv)))) (.agg (Value.int .i64 x1 :: Value.bool h :: (nums .u8 (b.map bv))).toArray) rfl rfl ?_
    clear HS
    intro g5 w6 hg7 HS
    refine p_run _ (x_assign (.bool false) rfl rfl) rfl ?_
    refine wpList_nil ?_
    refine hK2 _ _ ?_
    refine wp_seq_k (fun K8 hK9 => ?_)
    refine c_region (fun ops11 hops10 => ?_)
    refine p_run _ (x_field (j := 0) _ _ rfl rfl Try.underlying53 rfl (by rfl) rfl) rfl ?_
    refine p_run _ (x_load (.int .i64 x1) rfl rfl (bkCell (HS.get (.head _)) 0 _ rfl) (by rfl)) rfl ?_
    refine p_run _ (x_cmp (k := .i64) (m := x1) (n := 0) .geq true rfl rfl rfl (show decide _ = true from decide_eq_true (by omega)) rfl) rfl ?_
    refine p_run _ (x_move (.bool true) rfl rfl) rfl ?_
    refine p_on rfl (by rw [hops10]; rfl) ?_
    refine p_run (l' := (.agg (Value.int .i64 x1 :: Value.bool h :: (nums .u8 (b.map bv))).toArray :: .pointer (some ⟨g5, 0, none⟩) :: .bool false :: .pointer (some ⟨g5, 0, none⟩) :: .int .i64 x1 :: .bool true :: .bool true :: .pointer (some ⟨g5, 0, none⟩) :: U8f1 (U4f1 (undef :: [])))) _ (x_field (j := 0) _ _ rfl rfl Try.underlying53 rfl (by rfl) rfl) rfl ?_
    refine p_on rfl (by rw [hops10]; rfl) ?_
    refine p_run _ (x_load (.int .i64 x1) rfl rfl (bkCell (HS.get (.head _)) 0 _ rfl) (by rfl)) rfl ?_
    refine p_on rfl (by rw [hops10]; rfl) ?_
    refine p_run _ (x_cmp (k := .i64) (m := x1) (n := 64) .lss false rfl rfl rfl (show decide _ = false from decide_eq_false (by omega)) rfl) rfl ?_
    refine p_run _ (x_pick true (.bool false) (.bool false) (.bool false) rfl rfl rfl rfl rfl) rfl ?_
    refine p_run _ (x_move (.bool false) rfl rfl) rfl ?_
    refine p_off (by rw [hops10]; rfl) rfl ?_
    refine p_off (by rw [hops10]; rfl) rfl ?_
    refine p_off (l' := (.agg (Value.int .i64 x1 :: Value.bool h :: (nums .u8 (b.map bv))).toArray :: .pointer (some ⟨g5, 0, none⟩) :: .bool false :: .pointer (some ⟨g5, 0, none⟩) :: .int .i64 x1 :: .bool true :: .bool true :: .pointer (some ⟨g5, 0, none⟩) :: .int .i64 x1 :: .bool false :: .bool false :: .bool false :: U8f1 (undef :: []))) (by rw [hops10]; rfl) rfl ?_
    refine p_off (by rw [hops10]; rfl) rfl ?_
    refine p_off (by rw [hops10]; rfl) rfl ?_
    refine p_off (by rw [hops10]; rfl) rfl ?_
    refine p_off (by rw [hops10]; rfl) rfl ?_
    refine p_off (by rw [hops10]; rfl) rfl ?_
    refine p_run _ (x_pick false (undef) (.bool false) (.bool false) rfl rfl rfl rfl rfl) rfl ?_
    refine p_run (l' := (.agg (Value.int .i64 x1 :: Value.bool h :: (nums .u8 (b.map bv))).toArray :: .pointer (some ⟨g5, 0, none⟩) :: .bool false :: .pointer (some ⟨g5, 0, none⟩) :: .int .i64 x1 :: .bool true :: .bool true :: .pointer (some ⟨g5, 0, none⟩) :: .int .i64 x1 :: .bool false :: .bool false :: .bool false :: U8f1 (.bool false :: []))) _ (x_assign (.bool false) rfl rfl) rfl ?_
    clear hops10
    refine wpList_nil ?_
    refine hK9 _ _ ?_
    refine wp_ret ?_
    try simp only [Exit.inBlock, Exit.then]
    refine c_ret (.bool false) (r_tmp rfl rfl) ?_
    have e1 : itOk (x1, h, b) = false := by
      unfold itOk
      dsimp only
      rw [decide_eq_false (show ¬ x1 < 64 by omega), Bool.and_false]; rfl
    rw [e1]
    exact ⟨rfl, HS.belowOf⟩
  · skip
    rcases h with _ | _
    · skip
      refine c_enter Try.func32 rfl 21 rfl (.agg (Value.int .i64 x1 :: Value.bool false :: (nums .u8 (b.map bv))).toArray :: U16f1 (U4f1 ([]))) rfl ?_
      refine wp_seq_k (fun K1 hK2 => ?_)
      refine c_region (fun ops4 hops3 => ?_)
      clear hops3
      refine St.wBox HS (cs := (Value.int .i64 x1 :: Value.bool false :: (nums .u8 (b.map bv)))) (.agg (Value.int .i64 x1 :: Value.bool false :: (nums .u8 (b.map bv))).toArray) rfl rfl ?_
      clear HS
      intro g5 w6 hg7 HS
      refine p_run _ (x_assign (.bool false) rfl rfl) rfl ?_
      refine wpList_nil ?_
      refine hK2 _ _ ?_
      refine wp_seq_k (fun K8 hK9 => ?_)
      refine c_region (fun ops11 hops10 => ?_)
      refine p_run _ (x_field (j := 0) _ _ rfl rfl Try.underlying53 rfl (by rfl) rfl) rfl ?_
      refine p_run _ (x_load (.int .i64 x1) rfl rfl (bkCell (HS.get (.head _)) 0 _ rfl) (by rfl)) rfl ?_
      refine p_run _ (x_cmp (k := .i64) (m := x1) (n := 0) .geq true rfl rfl rfl (show decide _ = true from decide_eq_true (by omega)) rfl) rfl ?_
      refine p_run _ (x_move (.bool true) rfl rfl) rfl ?_
      refine p_on rfl (by rw [hops10]; rfl) ?_
      refine p_run (l' := (.agg (Value.int .i64 x1 :: Value.bool false :: (nums .u8 (b.map bv))).toArray :: .pointer (some ⟨g5, 0, none⟩) :: .bool false :: .pointer (some ⟨g5, 0, none⟩) :: .int .i64 x1 :: .bool true :: .bool true :: .pointer (some ⟨g5, 0, none⟩) :: U8f1 (U4f1 (undef :: [])))) _ (x_field (j := 0) _ _ rfl rfl Try.underlying53 rfl (by rfl) rfl) rfl ?_
      refine p_on rfl (by rw [hops10]; rfl) ?_
      refine p_run _ (x_load (.int .i64 x1) rfl rfl (bkCell (HS.get (.head _)) 0 _ rfl) (by rfl)) rfl ?_
      refine p_on rfl (by rw [hops10]; rfl) ?_
      refine p_run _ (x_cmp (k := .i64) (m := x1) (n := 64) .lss true rfl rfl rfl (show decide _ = true from decide_eq_true (by omega)) rfl) rfl ?_
      refine p_run _ (x_pick true (.bool true) (.bool false) (.bool true) rfl rfl rfl rfl rfl) rfl ?_
      refine p_run _ (x_move (.bool true) rfl rfl) rfl ?_
      refine p_on rfl (by rw [hops10]; rfl) ?_
      refine p_run _ (x_field (j := 1) _ _ rfl rfl Try.underlying53 rfl (by rfl) rfl) rfl ?_
      refine p_on rfl (by rw [hops10]; rfl) ?_
      refine p_run _ (x_load (.bool false) rfl rfl (bkCell (HS.get (.head _)) 1 _ rfl) (by rfl)) rfl ?_
      refine p_on rfl (by rw [hops10]; rfl) ?_
      refine p_run (l' := (.agg (Value.int .i64 x1 :: Value.bool false :: (nums .u8 (b.map bv))).toArray :: .pointer (some ⟨g5, 0, none⟩) :: .bool false :: .pointer (some ⟨g5, 0, none⟩) :: .int .i64 x1 :: .bool true :: .bool true :: .pointer (some ⟨g5, 0, none⟩) :: .int .i64 x1 :: .bool true :: .bool true :: .bool true :: .pointer (some ⟨g5, 1, none⟩) :: .bool false :: .bool false :: U4f1 (undef :: undef :: []))) _ (x_move (.bool false) rfl rfl) rfl ?_
      refine p_on rfl (by rw [hops10]; rfl) ?_
      refine p_run _ (x_field (j := 2) _ _ rfl rfl Try.underlying53 rfl (by rfl) rfl) rfl ?_
      refine p_on rfl (by rw [hops10]; rfl) ?_
      refine p_run _ (x_loads ((nums .u8 (b.map bv))) 16 rfl rfl (bkCells (HS.get (.head _)) 2 _ (by simp)) (by rfl) (by kernel_rfl) (by simp [List.length_map, hb, nums_length])) rfl ?_
      refine p_on rfl (by rw [hops10]; rfl) ?_
      refine p_run _ (x_build ((nums .u8 (zB16.map bv))) rfl (by kernel_rfl)) rfl ?_
      refine p_on rfl (by rw [hops10]; rfl) ?_
      refine p_run _ (x_eq .eql (.agg ((nums .u8 (b.map bv))).toArray) (.agg ((nums .u8 (zB16.map bv))).toArray) (decide ((b.map bv) = (zB16.map bv))) (decide (b = zB16)) rfl rfl rfl (equal_nums Try.underlying51 Try.underlying5 (by kernel_rfl) (by kernel_rfl) _ _ (by simp [List.length_map, hb]) (by simp [List.length_map, zB16_len])) (eq_map b zB16) rfl (guard_agg (by kernel_rfl)) (guard_agg (by kernel_rfl))) rfl ?_
      refine p_on rfl (by rw [hops10]; rfl) ?_
      refine p_run _ (x_pick false (.bool true) (.bool (decide (b = zB16))) (.bool (decide (b = zB16))) rfl rfl rfl rfl rfl) rfl ?_
      refine p_run _ (x_pick true (.bool (decide (b = zB16))) (.bool false) (.bool (decide (b = zB16))) rfl rfl rfl rfl rfl) rfl ?_
      refine p_run (l' := (.agg (Value.int .i64 x1 :: Value.bool false :: (nums .u8 (b.map bv))).toArray :: .pointer (some ⟨g5, 0, none⟩) :: .bool (decide (b = zB16)) :: .pointer (some ⟨g5, 0, none⟩) :: .int .i64 x1 :: .bool true :: .bool true :: .pointer (some ⟨g5, 0, none⟩) :: .int .i64 x1 :: .bool true :: .bool true :: .bool true :: .pointer (some ⟨g5, 1, none⟩) :: .bool false :: .bool false :: .pointer (some ⟨g5, 2, none⟩) :: .agg ((nums .u8 (b.map bv))).toArray :: .agg ((nums .u8 (zB16.map bv))).toArray :: .bool (decide (b = zB16)) :: .bool (decide (b = zB16)) :: .bool (decide (b = zB16)) :: [])) _ (x_assign (.bool (decide (b = zB16))) rfl rfl) rfl ?_
      clear hops10
      refine wpList_nil ?_
      refine hK9 _ _ ?_
      refine wp_ret ?_
      try simp only [Exit.inBlock, Exit.then]
      refine c_ret (.bool (decide (b = zB16))) (r_tmp rfl rfl) ?_
      have e1 : itOk (x1, false, b) = decide (b = zB16) := by
        unfold itOk
        dsimp only
        rw [decide_eq_true (show 0 ≤ x1 by omega), decide_eq_true (show x1 < 64 by omega)]; rfl
      rw [e1]
      exact ⟨rfl, HS.belowOf⟩
    · skip
      refine c_enter Try.func32 rfl 21 rfl (.agg (Value.int .i64 x1 :: Value.bool true :: (nums .u8 (b.map bv))).toArray :: U16f1 (U4f1 ([]))) rfl ?_
      refine wp_seq_k (fun K1 hK2 => ?_)
      refine c_region (fun ops4 hops3 => ?_)
      clear hops3
      refine St.wBox HS (cs := (Value.int .i64 x1 :: Value.bool true :: (nums .u8 (b.map bv)))) (.agg (Value.int .i64 x1 :: Value.bool true :: (nums .u8 (b.map bv))).toArray) rfl rfl ?_
      clear HS
      intro g5 w6 hg7 HS
      refine p_run _ (x_assign (.bool false) rfl rfl) rfl ?_
      refine wpList_nil ?_
      refine hK2 _ _ ?_
      refine wp_seq_k (fun K8 hK9 => ?_)
      refine c_region (fun ops11 hops10 => ?_)
      refine p_run _ (x_field (j := 0) _ _ rfl rfl Try.underlying53 rfl (by rfl) rfl) rfl ?_
      refine p_run _ (x_load (.int .i64 x1) rfl rfl (bkCell (HS.get (.head _)) 0 _ rfl) (by rfl)) rfl ?_
      refine p_run _ (x_cmp (k := .i64) (m := x1) (n := 0) .geq true rfl rfl rfl (show decide _ = true from decide_eq_true (by omega)) rfl) rfl ?_
      refine p_run _ (x_move (.bool true) rfl rfl) rfl ?_
      refine p_on rfl (by rw [hops10]; rfl) ?_
      refine p_run (l' := (.agg (Value.int .i64 x1 :: Value.bool true :: (nums .u8 (b.map bv))).toArray :: .pointer (some ⟨g5, 0, none⟩) :: .bool false :: .pointer (some ⟨g5, 0, none⟩) :: .int .i64 x1 :: .bool true :: .bool true :: .pointer (some ⟨g5, 0, none⟩) :: U8f1 (U4f1 (undef :: [])))) _ (x_field (j := 0) _ _ rfl rfl Try.underlying53 rfl (by rfl) rfl) rfl ?_
      refine p_on rfl (by rw [hops10]; rfl) ?_
      refine p_run _ (x_load (.int .i64 x1) rfl rfl (bkCell (HS.get (.head _)) 0 _ rfl) (by rfl)) rfl ?_
      refine p_on rfl (by rw [hops10]; rfl) ?_
      refine p_run _ (x_cmp (k := .i64) (m := x1) (n := 64) .lss true rfl rfl rfl (show decide _ = true from decide_eq_true (by omega)) rfl) rfl ?_
      refine p_run _ (x_pick true (.bool true) (.bool false) (.bool true) rfl rfl rfl rfl rfl) rfl ?_
      refine p_run _ (x_move (.bool true) rfl rfl) rfl ?_
      refine p_on rfl (by rw [hops10]; rfl) ?_
      refine p_run _ (x_field (j := 1) _ _ rfl rfl Try.underlying53 rfl (by rfl) rfl) rfl ?_
      refine p_on rfl (by rw [hops10]; rfl) ?_
      refine p_run _ (x_load (.bool true) rfl rfl (bkCell (HS.get (.head _)) 1 _ rfl) (by rfl)) rfl ?_
      refine p_on rfl (by rw [hops10]; rfl) ?_
      refine p_run (l' := (.agg (Value.int .i64 x1 :: Value.bool true :: (nums .u8 (b.map bv))).toArray :: .pointer (some ⟨g5, 0, none⟩) :: .bool false :: .pointer (some ⟨g5, 0, none⟩) :: .int .i64 x1 :: .bool true :: .bool true :: .pointer (some ⟨g5, 0, none⟩) :: .int .i64 x1 :: .bool true :: .bool true :: .bool true :: .pointer (some ⟨g5, 1, none⟩) :: .bool true :: .bool true :: U4f1 (undef :: undef :: []))) _ (x_move (.bool true) rfl rfl) rfl ?_
      refine p_off (by rw [hops10]; rfl) rfl ?_
      refine p_off (by rw [hops10]; rfl) rfl ?_
      refine p_off (by rw [hops10]; rfl) rfl ?_
      refine p_off (by rw [hops10]; rfl) rfl ?_
      refine p_on rfl (by rw [hops10]; rfl) ?_
      refine p_run _ (x_pick true (.bool true) (undef) (.bool true) rfl rfl rfl rfl rfl) rfl ?_
      refine p_run _ (x_pick true (.bool true) (.bool false) (.bool true) rfl rfl rfl rfl rfl) rfl ?_
      refine p_run (l' := (.agg (Value.int .i64 x1 :: Value.bool true :: (nums .u8 (b.map bv))).toArray :: .pointer (some ⟨g5, 0, none⟩) :: .bool true :: .pointer (some ⟨g5, 0, none⟩) :: .int .i64 x1 :: .bool true :: .bool true :: .pointer (some ⟨g5, 0, none⟩) :: .int .i64 x1 :: .bool true :: .bool true :: .bool true :: .pointer (some ⟨g5, 1, none⟩) :: .bool true :: .bool true :: U4f1 (.bool true :: .bool true :: []))) _ (x_assign (.bool true) rfl rfl) rfl ?_
      clear hops10
      refine wpList_nil ?_
      refine hK9 _ _ ?_
      refine wp_ret ?_
      try simp only [Exit.inBlock, Exit.then]
      refine c_ret (.bool true) (r_tmp rfl rfl) ?_
      have e1 : itOk (x1, true, b) = true := by
        unfold itOk
        dsimp only
        rw [decide_eq_true (show 0 ≤ x1 by omega), decide_eq_true (show x1 < 64 by omega)]; rfl
      rw [e1]
      exact ⟨rfl, HS.belowOf⟩
set_option maxRecDepth 10000 in
theorem cloI_any (w : World) (x1 : Int) (h : Bool) (b : List UInt8) (hb : b.length = 16) : Calls Try.prog 31 #[.agg (Value.int .i64 x1 :: Value.bool h :: (nums .u8 (b.map bv))).toArray] w fun e w' => e = .returned (.bool (!(itOk (x1, h, b)))) ∧ Below w.heap.size w w' := by
  have HS := St.empty w
  · skip
    refine c_enter Try.func31 rfl 6 rfl [.agg (Value.int .i64 x1 :: Value.bool h :: (nums .u8 (b.map bv))).toArray, undef, undef, undef, undef, undef] rfl ?_
    refine wp_seq_k (fun K1 hK2 => ?_)
    refine c_region (fun ops4 hops3 => ?_)
    clear hops3
    refine St.wBox HS (cs := (Value.int .i64 x1 :: Value.bool h :: (nums .u8 (b.map bv)))) (.agg (Value.int .i64 x1 :: Value.bool h :: (nums .u8 (b.map bv))).toArray) rfl rfl ?_
    clear HS
    intro g5 w6 hg7 HS
    refine p_run _ (x_assign (.bool false) rfl rfl) rfl ?_
    refine wpList_nil ?_
    refine hK2 _ _ ?_
    refine wp_seq_k (fun K8 hK9 => ?_)
    refine c_region (fun ops11 hops10 => ?_)
    clear hops10
    refine p_run _ (x_loads (Value.int .i64 x1 :: Value.bool h :: (nums .u8 (b.map bv))) 18 rfl rfl (bkCells (HS.get (.head _)) 0 _ (whole _)) (by rfl) (by kernel_rfl) (by simp [List.length_map, hb, nums_length])) rfl ?_
    refine w_call [.agg (Value.int .i64 x1 :: Value.bool h :: (nums .u8 (b.map bv))).toArray] Try.func32 (by kernel_rfl) (by rfl) rfl ?_
    refine (iright_any _ x1 h b hb).mono ?_
    rintro e w12 ⟨rfl, hb_⟩
    replace HS := HS.here hb_
    clear hb_
    refine ⟨_, rfl, ?_⟩
    refine p_run _ (x_not (itOk (x1, h, b)) rfl rfl) rfl ?_
    refine p_run _ (x_assign (.bool (!(itOk (x1, h, b)))) rfl rfl) rfl ?_
    refine wpList_nil ?_
    refine fr_at (l' := [.agg (Value.int .i64 x1 :: Value.bool h :: (nums .u8 (b.map bv))).toArray, .pointer (some ⟨g5, 0, none⟩), .bool (!(itOk (x1, h, b))), .agg (Value.int .i64 x1 :: Value.bool h :: (nums .u8 (b.map bv))).toArray, .bool (itOk (x1, h, b)), .bool (!(itOk (x1, h, b)))]) rfl ?_
    refine hK9 _ _ ?_
    refine wp_ret ?_
    try simp only [Exit.inBlock, Exit.then]
    refine c_ret (.bool (!(itOk (x1, h, b)))) (r_tmp rfl rfl) ?_
    exact ⟨rfl, HS.belowOf⟩
set_option maxRecDepth 10000 in
theorem cloH_any (w : World) (x1 x2 x3 : Int) : Calls Try.prog 34 #[.agg ([.int .u32 x1, .int .u32 x2, .int .u32 x3] : List Value).toArray] w fun e w' => e = .returned (.bool (!(lbOk x1 x2))) ∧ Below w.heap.size w w' := by
  have HS := St.empty w
  · skip
    refine c_enter Try.func34 rfl 7 rfl [.agg ([.int .u32 x1, .int .u32 x2, .int .u32 x3] : List Value).toArray, undef, undef, undef, undef, undef, undef] rfl ?_
    refine wp_seq_k (fun K1 hK2 => ?_)
    refine c_region (fun ops4 hops3 => ?_)
    clear hops3
    refine St.wBox HS (cs := [.int .u32 x1, .int .u32 x2, .int .u32 x3]) (.agg ([.int .u32 x1, .int .u32 x2, .int .u32 x3] : List Value).toArray) rfl rfl ?_
    clear HS
    intro g5 w6 hg7 HS
    refine p_run _ (x_assign (.bool false) rfl rfl) rfl ?_
    refine wpList_nil ?_
    refine hK2 _ _ ?_
    refine wp_seq_k (fun K8 hK9 => ?_)
    refine c_region (fun ops11 hops10 => ?_)
    clear hops10
    refine p_run _ (x_field (j := 0) _ _ rfl rfl Try.underlying55 rfl (by rfl) rfl) rfl ?_
    refine p_run _ (x_loads [.int .u32 x1, .int .u32 x2] 2 rfl rfl (bkCells (HS.get (.head _)) 0 _ rfl) (by rfl) (by kernel_rfl) rfl) rfl ?_
    refine w_call [.agg ([.int .u32 x1, .int .u32 x2] : List Value).toArray] Try.func35 (by kernel_rfl) (by rfl) rfl ?_
    refine (lright_any _ x1 x2).mono ?_
    rintro e w12 ⟨rfl, hb_⟩
    replace HS := HS.here hb_
    clear hb_
    refine ⟨_, rfl, ?_⟩
    refine p_run _ (x_not (lbOk x1 x2) rfl rfl) rfl ?_
    refine p_run (l' := [.agg ([.int .u32 x1, .int .u32 x2, .int .u32 x3] : List Value).toArray, .pointer (some ⟨g5, 0, none⟩), .bool (!(lbOk x1 x2)), .pointer (some ⟨g5, 0, none⟩), .agg ([.int .u32 x1, .int .u32 x2] : List Value).toArray, .bool (lbOk x1 x2), .bool (!(lbOk x1 x2))]) _ (x_assign (.bool (!(lbOk x1 x2))) rfl rfl) rfl ?_
    refine wpList_nil ?_
    refine hK9 _ _ ?_
    refine wp_ret ?_
    try simp only [Exit.inBlock, Exit.then]
    refine c_ret (.bool (!(lbOk x1 x2))) (r_tmp rfl rfl) ?_
    exact ⟨rfl, HS.belowOf⟩
theorem all_bad {α : Type} {f : α → Bool} {l : List α} {j : Nat} {x : α} (hx : l[j]? = some x) (h : f x = false) : l.all f = false := by
  rw [List.all_eq_false]
  exact ⟨x, List.mem_of_getElem? hx, by rw [h]; decide⟩
theorem all_ok {α : Type} {f : α → Bool} {l : List α} (h : ∀ (i : Nat) (y : α), i < l.length → l[i]? = some y → f y = true) : l.all f = true := by
  rw [List.all_eq_true]
  intro x hx
  obtain ⟨i, hi⟩ := List.getElem?_of_mem hx
  exact h i x (List.getElem?_eq_some_iff.1 hi).1 hi
set_option maxRecDepth 10000 in
set_option maxHeartbeats 1000000 in
theorem idxI_any (w : World) (A : Option Addr) (c : Nat) (l : List It) (hr : kIt.C w A l.length l) (hl : l.length ≤ 1000) : Calls Try.prog 55 #[.slice A l.length c, .func (.func 31) #[] [].toArray] w fun e w' => ∃ r : Int, e = .returned (.int .i64 r) ∧ (0 ≤ r ↔ l.all itOk = false) ∧ Below w.heap.size w w' := by
  have HS := St.empty w
  · skip
    refine c_enter Try.func55 rfl 19 rfl (.slice A l.length c :: .func (.func 31) #[] [].toArray :: U16f1 (undef :: [])) rfl ?_
    refine wp_seq_k (fun K1 hK2 => ?_)
    refine c_region (fun ops4 hops3 => ?_)
    clear hops3
    refine p_run _ (x_assign (.int .i64 0) rfl rfl) rfl ?_
    refine wpList_nil ?_
    refine hK2 _ _ ?_
    refine wp_seq_k (fun K5 hK6 => ?_)
    refine wp_seq_k (fun K7 hK8 => ?_)
    refine c_region (fun ops10 hops9 => ?_)
    clear hops9
    refine p_run _ (x_move (.slice A l.length c) rfl rfl) rfl ?_
    refine p_run _ (x_len rfl rfl Try.underlying30) rfl ?_
    refine p_run _ (x_move (.int .i64 0) rfl rfl) rfl ?_
    refine wpList_nil ?_
    refine fr_at (l' := (.slice A l.length c :: .func (.func 31) #[] [].toArray :: undef :: undef :: .int .i64 0 :: undef :: .slice A l.length c :: .int .i64 (l.length : Int) :: .int .i64 0 :: U8f1 (undef :: undef :: []))) rfl ?_
    refine hK8 _ _ ?_
    refine wp_block ?_
    refine c_loop (ι := Nat) (fun i_ a_ w_ => match i_ with | j => ∃ (u4 : Value) (u5 : Value) (u9 : Value) (u10 : Value) (u11 : Value) (u12 : Value) (u13 : Value) (u14 : Value) (u15 : Value) (u16 : Value) (u17 : Value) (u18 : Value), a_ = fr (.slice A l.length c :: .func (.func 31) #[] [].toArray :: undef :: undef :: u4 :: u5 :: .slice A l.length c :: .int .i64 (l.length : Int) :: .int .i64 (j : Int) :: u9 :: u10 :: u11 :: u12 :: u13 :: u14 :: u15 :: u16 :: u17 :: u18 :: []) ∧ St w (fun _ => False) w_ ([]) ∧ (j ≤ l.length ∧ ∀ (i : Nat) (y : It), i < j → l[i]? = some y → itOk y = true)) (fun i_ => match i_ with | j => l.length - j) 0 ?_ ?_
    · exact ⟨_, _, _, _, _, _, _, _, _, _, _, _, rfl, HS, ⟨Nat.zero_le _, fun i y h => absurd h (by omega)⟩⟩
    · clear HS
      rintro j a_ w13 ⟨u4, u5, u9, u10, u11, u12, u13, u14, u15, u16, u17, u18, rfl, HS, hI⟩ J11 hJ12
      obtain ⟨hjl, hall⟩ := hI
      refine wp_seq_k (fun K14 hK15 => ?_)
      refine c_region (fun ops17 hops16 => ?_)
      clear hops16
      refine p_run _ (x_cmp (k := .i64) (m := (j : Int)) (n := (l.length : Int)) .lss (decide ((j : Int) < (l.length : Int))) rfl rfl rfl rfl rfl) rfl ?_
      refine wpList_nil ?_
      refine hK15 _ _ ?_
      refine wp_seq_k (fun K18 hK19 => ?_)
      refine c_cond (t := decide ((j : Int) < (l.length : Int))) rfl (fun hc20 => ?_) (fun hc20 => ?_)
      · have hlt : j < l.length := by have := of_decide_eq_true hc20; omega
        obtain ⟨ad, x, rfl, hx, hx16, -⟩ := it_get (Kd.C_below hr HS.belowOf) j hlt
        refine wp_skip ?_
        refine hK19 _ _ ?_
        refine wp_seq_k (fun K21 hK22 => ?_)
        refine wp_block ?_
        refine wp_seq_k (fun K23 hK24 => ?_)
        refine c_region (fun ops26 hops25 => ?_)
        clear hops25
        refine p_run _ (x_move (.int .i64 (j : Int)) rfl rfl) rfl ?_
        refine p_run _ (x_assign (.int .i64 (j : Int)) rfl rfl) rfl ?_
        refine wpList_nil ?_
        refine hK24 _ _ ?_
        refine wp_seq_k (fun K27 hK28 => ?_)
        refine c_region (fun ops30 hops29 => ?_)
        clear hops29
        refine p_run _ (x_move (.func (.func 31) #[] [].toArray) rfl rfl) rfl ?_
        refine p_run _ (x_move (.slice (some ad) l.length c) rfl rfl) rfl ?_
        refine p_run _ (x_move (.int .i64 (j : Int)) rfl rfl) rfl ?_
        refine p_run (l' := (.slice (some ad) l.length c :: .func (.func 31) #[] [].toArray :: undef :: undef :: u4 :: .int .i64 (j : Int) :: .slice (some ad) l.length c :: .int .i64 (l.length : Int) :: .int .i64 (j : Int) :: .bool (decide ((j : Int) < (l.length : Int))) :: .int .i64 (j : Int) :: .func (.func 31) #[] [].toArray :: .slice (some ad) l.length c :: .int .i64 (j : Int) :: .pointer (some ((ad).add (j * 18))) :: u15 :: u16 :: u17 :: u18 :: [])) _ (x_index (A := ad) (j := j * 18) (sz := 18) rfl rfl rfl Try.underlying30 (by kernel_rfl) (by omega) rfl) rfl ?_
        refine p_run _ (x_loads (Value.int .i64 x.1 :: Value.bool x.2.1 :: (nums .u8 (x.2.2.map bv))) 18 rfl rfl (it_cells (Kd.C_below hr HS.belowOf) hx) (by rfl) (by kernel_rfl) (by simp [List.length_map, hx16, nums_length])) rfl ?_
        refine w_callv [.agg (Value.int .i64 x.1 :: Value.bool x.2.1 :: (nums .u8 (x.2.2.map bv))).toArray] [] rfl Try.func31 (by kernel_rfl) (by rfl) rfl ?_
        refine (cloI_any _ x.1 x.2.1 x.2.2 hx16).mono ?_
        rintro e w31 ⟨rfl, hb_⟩
        replace HS := HS.here hb_
        clear hb_
        refine ⟨_, rfl, ?_⟩
        refine wpList_nil ?_
        refine hK28 _ _ ?_
        refine c_cond (t := !(itOk x)) rfl (fun hc32 => ?_) (fun hc32 => ?_)
        · have hbad : itOk x = false := by have := hc32; simpa using this
          refine wp_seq_k (fun K33 hK34 => ?_)
          refine c_region (fun ops36 hops35 => ?_)
          clear hops35
          refine p_run _ (x_move (.int .i64 (j : Int)) rfl rfl) rfl ?_
          refine p_run _ (x_assign (.int .i64 (j : Int)) rfl rfl) rfl ?_
          refine wpList_nil ?_
          refine hK34 _ _ ?_
          refine wp_ret ?_
          try simp only [Exit.inBlock, Exit.then]
          refine c_ret (.int .i64 (j : Int)) (r_tmp rfl rfl) ?_
          exact ⟨_, rfl, ⟨fun _ => all_bad hx hbad, fun _ => by omega⟩, HS.belowOf⟩
        · have hbad : itOk x = true := by have := hc32; simpa using this
          refine wp_skip ?_
          refine hK22 _ _ ?_
          refine c_region (fun ops38 hops37 => ?_)
          clear hops37
          refine p_run _ (x_arith (k := .i64) (m := (j : Int)) (n := 1) .add (((j + 1 : Nat) : Int)) rfl rfl rfl (show IntKind.i64.wrap ((j : Int) + 1) = ((j + 1 : Nat) : Int) from ((wr64' (by omega)).trans (by omega))) rfl) rfl ?_
          refine p_run _ (x_move (.int .i64 ((j + 1 : Nat) : Int)) rfl rfl) rfl ?_
          refine wpList_nil ?_
          refine fr_at (l' := (.slice (some ad) l.length c :: .func (.func 31) #[] [].toArray :: undef :: undef :: u4 :: .int .i64 (j : Int) :: .slice (some ad) l.length c :: .int .i64 (l.length : Int) :: .int .i64 ((j + 1 : Nat) : Int) :: .bool (decide ((j : Int) < (l.length : Int))) :: .int .i64 (j : Int) :: .func (.func 31) #[] [].toArray :: .slice (some ad) l.length c :: .int .i64 (j : Int) :: .pointer (some ((ad).add (j * 18))) :: .agg (Value.int .i64 x.1 :: Value.bool x.2.1 :: (nums .u8 (x.2.2.map bv))).toArray :: .bool (!(itOk x)) :: u17 :: .int .i64 ((j + 1 : Nat) : Int) :: [])) rfl ?_
          refine hJ12 (j + 1) _ _ ?_ ?_
          · show l.length - (j + 1) < l.length - j; omega
          · exact ⟨_, _, _, _, _, _, _, _, _, _, _, _, rfl, HS, ⟨by omega, fun i y hi hy => (Nat.lt_or_ge i j).elim (fun h => hall i y h hy) (fun h => by obtain rfl : i = j := (by omega); rw [hx] at hy; obtain rfl := Option.some.inj hy; exact hbad)⟩⟩
      · have hlt : j = l.length := by have := of_decide_eq_false hc20; omega
        subst hlt
        refine wp_exit ?_
        refine hK6 _ _ ?_
        refine wp_seq_k (fun K39 hK40 => ?_)
        refine c_region (fun ops42 hops41 => ?_)
        clear hops41
        refine p_run _ (x_assign (.int .i64 (-1)) rfl rfl) rfl ?_
        refine wpList_nil ?_
        refine hK40 _ _ ?_
        refine wp_ret ?_
        try simp only [Exit.inBlock, Exit.then]
        refine c_ret (.int .i64 (-1)) (r_tmp rfl rfl) ?_
        exact ⟨_, rfl, ⟨fun h => absurd h (by decide), fun h => absurd (all_ok hall) (by rw [h]; decide)⟩, HS.belowOf⟩
theorem ge_all {r : Int} {b : Bool} (h : 0 ≤ r ↔ b = false) : decide (r ≥ 0) = !b := by
  cases b
  · exact decide_eq_true (h.2 rfl)
  · exact decide_eq_false (fun hr => by have := h.1 hr; cases this)
set_option maxRecDepth 10000 in
theorem conI_any (w : World) (A : Option Addr) (c : Nat) (l : List It) (hr : kIt.C w A l.length l) (hl : l.length ≤ 1000) : Calls Try.prog 30 #[.slice A l.length c, .func (.func 31) #[] [].toArray] w fun e w' => e = .returned (.bool (!(l.all itOk))) ∧ Below w.heap.size w w' := by
  have HS := St.empty w
  · skip
    refine c_enter Try.func30 rfl 9 rfl [.slice A l.length c, .func (.func 31) #[] [].toArray, undef, undef, undef, undef, undef, undef, undef] rfl ?_
    refine wp_seq_k (fun K1 hK2 => ?_)
    refine c_region (fun ops4 hops3 => ?_)
    clear hops3
    refine p_run _ (x_assign (.bool false) rfl rfl) rfl ?_
    refine wpList_nil ?_
    refine hK2 _ _ ?_
    refine wp_seq_k (fun K5 hK6 => ?_)
    refine c_region (fun ops8 hops7 => ?_)
    clear hops7
    refine p_run _ (x_move (.slice A l.length c) rfl rfl) rfl ?_
    refine p_run _ (x_move (.func (.func 31) #[] [].toArray) rfl rfl) rfl ?_
    refine w_call [.slice A l.length c, .func (.func 31) #[] [].toArray] Try.func55 (by kernel_rfl) (by rfl) rfl ?_
    refine (idxI_any _ A c l (Kd.C_below hr HS.belowOf) hl).mono ?_
    rintro e w9 ⟨r, rfl, hri, hb_⟩
    replace HS := HS.here hb_
    clear hb_
    refine ⟨_, rfl, ?_⟩
    refine p_run _ (x_cmp (k := .i64) (m := r) (n := 0) .geq (!(l.all itOk)) rfl rfl rfl (show decide (r ≥ 0) = _ from ge_all hri) rfl) rfl ?_
    refine p_run _ (x_assign (.bool (!(l.all itOk))) rfl rfl) rfl ?_
    refine wpList_nil ?_
    refine fr_at (l' := [.slice A l.length c, .func (.func 31) #[] [].toArray, undef, undef, .bool (!(l.all itOk)), .slice A l.length c, .func (.func 31) #[] [].toArray, .int .i64 r, .bool (!(l.all itOk))]) rfl ?_
    refine hK6 _ _ ?_
    refine wp_ret ?_
    try simp only [Exit.inBlock, Exit.then]
    refine c_ret (.bool (!(l.all itOk))) (r_tmp rfl rfl) ?_
    exact ⟨rfl, HS.belowOf⟩
set_option maxRecDepth 10000 in
set_option maxHeartbeats 1000000 in
theorem idxH_any (w : World) (A : Option Addr) (c : Nat) (l : List Hv) (hr : kHv.C w A l.length l) (hl : l.length ≤ 1000) : Calls Try.prog 56 #[.slice A l.length c, .func (.func 34) #[] [].toArray] w fun e w' => ∃ r : Int, e = .returned (.int .i64 r) ∧ (0 ≤ r ↔ l.all hvOk = false) ∧ Below w.heap.size w w' := by
  have HS := St.empty w
  · skip
    refine c_enter Try.func56 rfl 19 rfl (.slice A l.length c :: .func (.func 34) #[] [].toArray :: U16f1 (undef :: [])) rfl ?_
    refine wp_seq_k (fun K1 hK2 => ?_)
    refine c_region (fun ops4 hops3 => ?_)
    clear hops3
    refine p_run _ (x_assign (.int .i64 0) rfl rfl) rfl ?_
    refine wpList_nil ?_
    refine hK2 _ _ ?_
    refine wp_seq_k (fun K5 hK6 => ?_)
    refine wp_seq_k (fun K7 hK8 => ?_)
    refine c_region (fun ops10 hops9 => ?_)
    clear hops9
    refine p_run _ (x_move (.slice A l.length c) rfl rfl) rfl ?_
    refine p_run _ (x_len rfl rfl Try.underlying31) rfl ?_
    refine p_run _ (x_move (.int .i64 0) rfl rfl) rfl ?_
    refine wpList_nil ?_
    refine fr_at (l' := (.slice A l.length c :: .func (.func 34) #[] [].toArray :: undef :: undef :: .int .i64 0 :: undef :: .slice A l.length c :: .int .i64 (l.length : Int) :: .int .i64 0 :: U8f1 (undef :: undef :: []))) rfl ?_
    refine hK8 _ _ ?_
    refine wp_block ?_
    refine c_loop (ι := Nat) (fun i_ a_ w_ => match i_ with | j => ∃ (u4 : Value) (u5 : Value) (u9 : Value) (u10 : Value) (u11 : Value) (u12 : Value) (u13 : Value) (u14 : Value) (u15 : Value) (u16 : Value) (u17 : Value) (u18 : Value), a_ = fr (.slice A l.length c :: .func (.func 34) #[] [].toArray :: undef :: undef :: u4 :: u5 :: .slice A l.length c :: .int .i64 (l.length : Int) :: .int .i64 (j : Int) :: u9 :: u10 :: u11 :: u12 :: u13 :: u14 :: u15 :: u16 :: u17 :: u18 :: []) ∧ St w (fun _ => False) w_ ([]) ∧ (j ≤ l.length ∧ ∀ (i : Nat) (y : Hv), i < j → l[i]? = some y → hvOk y = true)) (fun i_ => match i_ with | j => l.length - j) 0 ?_ ?_
    · exact ⟨_, _, _, _, _, _, _, _, _, _, _, _, rfl, HS, ⟨Nat.zero_le _, fun i y h => absurd h (by omega)⟩⟩
    · clear HS
      rintro j a_ w13 ⟨u4, u5, u9, u10, u11, u12, u13, u14, u15, u16, u17, u18, rfl, HS, hI⟩ J11 hJ12
      obtain ⟨hjl, hall⟩ := hI
      refine wp_seq_k (fun K14 hK15 => ?_)
      refine c_region (fun ops17 hops16 => ?_)
      clear hops16
      refine p_run _ (x_cmp (k := .i64) (m := (j : Int)) (n := (l.length : Int)) .lss (decide ((j : Int) < (l.length : Int))) rfl rfl rfl rfl rfl) rfl ?_
      refine wpList_nil ?_
      refine hK15 _ _ ?_
      refine wp_seq_k (fun K18 hK19 => ?_)
      refine c_cond (t := decide ((j : Int) < (l.length : Int))) rfl (fun hc20 => ?_) (fun hc20 => ?_)
      · have hlt : j < l.length := by have := of_decide_eq_true hc20; omega
        obtain ⟨ad, x, rfl, hx, -⟩ := hv_get (Kd.C_below hr HS.belowOf) j hlt
        refine wp_skip ?_
        refine hK19 _ _ ?_
        refine wp_seq_k (fun K21 hK22 => ?_)
        refine wp_block ?_
        refine wp_seq_k (fun K23 hK24 => ?_)
        refine c_region (fun ops26 hops25 => ?_)
        clear hops25
        refine p_run _ (x_move (.int .i64 (j : Int)) rfl rfl) rfl ?_
        refine p_run _ (x_assign (.int .i64 (j : Int)) rfl rfl) rfl ?_
        refine wpList_nil ?_
        refine hK24 _ _ ?_
        refine wp_seq_k (fun K27 hK28 => ?_)
        refine c_region (fun ops30 hops29 => ?_)
        clear hops29
        refine p_run _ (x_move (.func (.func 34) #[] [].toArray) rfl rfl) rfl ?_
        refine p_run _ (x_move (.slice (some ad) l.length c) rfl rfl) rfl ?_
        refine p_run _ (x_move (.int .i64 (j : Int)) rfl rfl) rfl ?_
        refine p_run (l' := (.slice (some ad) l.length c :: .func (.func 34) #[] [].toArray :: undef :: undef :: u4 :: .int .i64 (j : Int) :: .slice (some ad) l.length c :: .int .i64 (l.length : Int) :: .int .i64 (j : Int) :: .bool (decide ((j : Int) < (l.length : Int))) :: .int .i64 (j : Int) :: .func (.func 34) #[] [].toArray :: .slice (some ad) l.length c :: .int .i64 (j : Int) :: .pointer (some ((ad).add (j * 3))) :: u15 :: u16 :: u17 :: u18 :: [])) _ (x_index (A := ad) (j := j * 3) (sz := 3) rfl rfl rfl Try.underlying31 (by kernel_rfl) (by omega) rfl) rfl ?_
        refine p_run _ (x_loads [.int .u32 x.1, .int .u32 x.2.1, .int .u32 x.2.2] 3 rfl rfl (hv_cells (Kd.C_below hr HS.belowOf) hx) (by rfl) (by kernel_rfl) rfl) rfl ?_
        refine w_callv [.agg ([.int .u32 x.1, .int .u32 x.2.1, .int .u32 x.2.2] : List Value).toArray] [] rfl Try.func34 (by kernel_rfl) (by rfl) rfl ?_
        refine (cloH_any _ x.1 x.2.1 x.2.2).mono ?_
        rintro e w31 ⟨rfl, hb_⟩
        replace HS := HS.here hb_
        clear hb_
        refine ⟨_, rfl, ?_⟩
        refine wpList_nil ?_
        refine hK28 _ _ ?_
        refine c_cond (t := !(hvOk x)) rfl (fun hc32 => ?_) (fun hc32 => ?_)
        · have hbad : hvOk x = false := by have := hc32; simpa using this
          refine wp_seq_k (fun K33 hK34 => ?_)
          refine c_region (fun ops36 hops35 => ?_)
          clear hops35
          refine p_run _ (x_move (.int .i64 (j : Int)) rfl rfl) rfl ?_
          refine p_run _ (x_assign (.int .i64 (j : Int)) rfl rfl) rfl ?_
          refine wpList_nil ?_
          refine hK34 _ _ ?_
          refine wp_ret ?_
          try simp only [Exit.inBlock, Exit.then]
          refine c_ret (.int .i64 (j : Int)) (r_tmp rfl rfl) ?_
          exact ⟨_, rfl, ⟨fun _ => all_bad hx hbad, fun _ => by omega⟩, HS.belowOf⟩
        · have hbad : hvOk x = true := by have := hc32; simpa using this
          refine wp_skip ?_
          refine hK22 _ _ ?_
          refine c_region (fun ops38 hops37 => ?_)
          clear hops37
          refine p_run _ (x_arith (k := .i64) (m := (j : Int)) (n := 1) .add (((j + 1 : Nat) : Int)) rfl rfl rfl (show IntKind.i64.wrap ((j : Int) + 1) = ((j + 1 : Nat) : Int) from ((wr64' (by omega)).trans (by omega))) rfl) rfl ?_
          refine p_run _ (x_move (.int .i64 ((j + 1 : Nat) : Int)) rfl rfl) rfl ?_
          refine wpList_nil ?_
          refine fr_at (l' := (.slice (some ad) l.length c :: .func (.func 34) #[] [].toArray :: undef :: undef :: u4 :: .int .i64 (j : Int) :: .slice (some ad) l.length c :: .int .i64 (l.length : Int) :: .int .i64 ((j + 1 : Nat) : Int) :: .bool (decide ((j : Int) < (l.length : Int))) :: .int .i64 (j : Int) :: .func (.func 34) #[] [].toArray :: .slice (some ad) l.length c :: .int .i64 (j : Int) :: .pointer (some ((ad).add (j * 3))) :: .agg ([.int .u32 x.1, .int .u32 x.2.1, .int .u32 x.2.2] : List Value).toArray :: .bool (!(hvOk x)) :: u17 :: .int .i64 ((j + 1 : Nat) : Int) :: [])) rfl ?_
          refine hJ12 (j + 1) _ _ ?_ ?_
          · show l.length - (j + 1) < l.length - j; omega
          · exact ⟨_, _, _, _, _, _, _, _, _, _, _, _, rfl, HS, ⟨by omega, fun i y hi hy => (Nat.lt_or_ge i j).elim (fun h => hall i y h hy) (fun h => by obtain rfl : i = j := (by omega); rw [hx] at hy; obtain rfl := Option.some.inj hy; exact hbad)⟩⟩
      · have hlt : j = l.length := by have := of_decide_eq_false hc20; omega
        subst hlt
        refine wp_exit ?_
        refine hK6 _ _ ?_
        refine wp_seq_k (fun K39 hK40 => ?_)
        refine c_region (fun ops42 hops41 => ?_)
        clear hops41
        refine p_run _ (x_assign (.int .i64 (-1)) rfl rfl) rfl ?_
        refine wpList_nil ?_
        refine hK40 _ _ ?_
        refine wp_ret ?_
        try simp only [Exit.inBlock, Exit.then]
        refine c_ret (.int .i64 (-1)) (r_tmp rfl rfl) ?_
        exact ⟨_, rfl, ⟨fun h => absurd h (by decide), fun h => absurd (all_ok hall) (by rw [h]; decide)⟩, HS.belowOf⟩
set_option maxRecDepth 10000 in
theorem conH_any (w : World) (A : Option Addr) (c : Nat) (l : List Hv) (hr : kHv.C w A l.length l) (hl : l.length ≤ 1000) : Calls Try.prog 33 #[.slice A l.length c, .func (.func 34) #[] [].toArray] w fun e w' => e = .returned (.bool (!(l.all hvOk))) ∧ Below w.heap.size w w' := by
  have HS := St.empty w
  · skip
    refine c_enter Try.func33 rfl 9 rfl [.slice A l.length c, .func (.func 34) #[] [].toArray, undef, undef, undef, undef, undef, undef, undef] rfl ?_
    refine wp_seq_k (fun K1 hK2 => ?_)
    refine c_region (fun ops4 hops3 => ?_)
    clear hops3
    refine p_run _ (x_assign (.bool false) rfl rfl) rfl ?_
    refine wpList_nil ?_
    refine hK2 _ _ ?_
    refine wp_seq_k (fun K5 hK6 => ?_)
    refine c_region (fun ops8 hops7 => ?_)
    clear hops7
    refine p_run _ (x_move (.slice A l.length c) rfl rfl) rfl ?_
    refine p_run _ (x_move (.func (.func 34) #[] [].toArray) rfl rfl) rfl ?_
    refine w_call [.slice A l.length c, .func (.func 34) #[] [].toArray] Try.func56 (by kernel_rfl) (by rfl) rfl ?_
    refine (idxH_any _ A c l (Kd.C_below hr HS.belowOf) hl).mono ?_
    rintro e w9 ⟨r, rfl, hri, hb_⟩
    replace HS := HS.here hb_
    clear hb_
    refine ⟨_, rfl, ?_⟩
    refine p_run _ (x_cmp (k := .i64) (m := r) (n := 0) .geq (!(l.all hvOk)) rfl rfl rfl (show decide (r ≥ 0) = _ from ge_all hri) rfl) rfl ?_
    refine p_run _ (x_assign (.bool (!(l.all hvOk))) rfl rfl) rfl ?_
    refine wpList_nil ?_
    refine fr_at (l' := [.slice A l.length c, .func (.func 34) #[] [].toArray, undef, undef, .bool (!(l.all hvOk)), .slice A l.length c, .func (.func 34) #[] [].toArray, .int .i64 r, .bool (!(l.all hvOk))]) rfl ?_
    refine hK6 _ _ ?_
    refine wp_ret ?_
    try simp only [Exit.inBlock, Exit.then]
    refine c_ret (.bool (!(l.all hvOk))) (r_tmp rfl rfl) ?_
    exact ⟨rfl, HS.belowOf⟩
theorem ii_get {w : World} {A : Option Addr} {n : Nat} {ps : List Int} (h : (Kd.int .i64).C w A n ps) (j : Nat) (hj : j < ps.length) : ∃ ad x, A = some ad ∧ ps[j]? = some x ∧ w.cell? (ad.add (j * 1)) = some (.int .i64 x) := by
  obtain ⟨ad, e, hc⟩ := h.2.2 (by have := h.1; omega)
  obtain ⟨c, hs, hr, hcell⟩ := hc j _ (List.getElem?_eq_getElem hj)
  refine ⟨ad, ps[j], e, List.getElem?_eq_getElem hj, ?_⟩
  exact hcell 0 (.int .i64 ps[j]) (by rw [show c = [.int .i64 ps[j]] from hr]; rfl)
set_option maxRecDepth 10000 in
set_option maxHeartbeats 1000000 in
theorem idxN_any (w : World) (A : Option Addr) (c : Nat) (l : List Int) (hr : (Kd.int .i64).C w A l.length l) (hl : l.length ≤ 1000) (k : Int) : Calls Try.prog 66 #[.slice A l.length c, .int .i64 k] w fun e w' => ∃ r : Int, e = .returned (.int .i64 r) ∧ (0 ≤ r ↔ k ∈ l) ∧ Below w.heap.size w w' := by
  have HS := St.empty w
  · skip
    refine c_enter Try.func66 rfl 19 rfl (.slice A l.length c :: .int .i64 k :: U16f1 (undef :: [])) rfl ?_
    refine wp_seq_k (fun K1 hK2 => ?_)
    refine c_region (fun ops4 hops3 => ?_)
    clear hops3
    refine p_run _ (x_assign (.int .i64 0) rfl rfl) rfl ?_
    refine wpList_nil ?_
    refine hK2 _ _ ?_
    refine wp_seq_k (fun K5 hK6 => ?_)
    refine wp_seq_k (fun K7 hK8 => ?_)
    refine c_region (fun ops10 hops9 => ?_)
    clear hops9
    refine p_run _ (x_move (.slice A l.length c) rfl rfl) rfl ?_
    refine p_run _ (x_len rfl rfl Try.underlying100) rfl ?_
    refine p_run _ (x_move (.int .i64 0) rfl rfl) rfl ?_
    refine wpList_nil ?_
    refine fr_at (l' := (.slice A l.length c :: .int .i64 k :: undef :: undef :: .int .i64 0 :: undef :: .slice A l.length c :: .int .i64 (l.length : Int) :: .int .i64 0 :: U8f1 (undef :: undef :: []))) rfl ?_
    refine hK8 _ _ ?_
    refine wp_block ?_
    refine c_loop (ι := Nat) (fun i_ a_ w_ => match i_ with | j => ∃ (u4 : Value) (u5 : Value) (u9 : Value) (u10 : Value) (u11 : Value) (u12 : Value) (u13 : Value) (u14 : Value) (u15 : Value) (u16 : Value) (u17 : Value) (u18 : Value), a_ = fr (.slice A l.length c :: .int .i64 k :: undef :: undef :: u4 :: u5 :: .slice A l.length c :: .int .i64 (l.length : Int) :: .int .i64 (j : Int) :: u9 :: u10 :: u11 :: u12 :: u13 :: u14 :: u15 :: u16 :: u17 :: u18 :: []) ∧ St w (fun _ => False) w_ ([]) ∧ (j ≤ l.length ∧ ∀ (i : Nat) (y : Int), i < j → l[i]? = some y → ¬ k = y)) (fun i_ => match i_ with | j => l.length - j) 0 ?_ ?_
    · exact ⟨_, _, _, _, _, _, _, _, _, _, _, _, rfl, HS, ⟨Nat.zero_le _, fun i y h => absurd h (by omega)⟩⟩
    · clear HS
      rintro j a_ w13 ⟨u4, u5, u9, u10, u11, u12, u13, u14, u15, u16, u17, u18, rfl, HS, hI⟩ J11 hJ12
      obtain ⟨hjl, hall⟩ := hI
      refine wp_seq_k (fun K14 hK15 => ?_)
      refine c_region (fun ops17 hops16 => ?_)
      clear hops16
      refine p_run _ (x_cmp (k := .i64) (m := (j : Int)) (n := (l.length : Int)) .lss (decide ((j : Int) < (l.length : Int))) rfl rfl rfl rfl rfl) rfl ?_
      refine wpList_nil ?_
      refine hK15 _ _ ?_
      refine wp_seq_k (fun K18 hK19 => ?_)
      refine c_cond (t := decide ((j : Int) < (l.length : Int))) rfl (fun hc20 => ?_) (fun hc20 => ?_)
      · have hlt : j < l.length := by have := of_decide_eq_true hc20; omega
        obtain ⟨ad, x, rfl, hx, hcell⟩ := ii_get (Kd.C_below hr HS.belowOf) j hlt
        refine wp_skip ?_
        refine hK19 _ _ ?_
        refine wp_seq_k (fun K21 hK22 => ?_)
        refine wp_block ?_
        refine wp_seq_k (fun K23 hK24 => ?_)
        refine c_region (fun ops26 hops25 => ?_)
        clear hops25
        refine p_run _ (x_move (.int .i64 (j : Int)) rfl rfl) rfl ?_
        refine p_run _ (x_assign (.int .i64 (j : Int)) rfl rfl) rfl ?_
        refine wpList_nil ?_
        refine hK24 _ _ ?_
        refine wp_seq_k (fun K27 hK28 => ?_)
        refine c_region (fun ops30 hops29 => ?_)
        clear hops29
        refine p_run _ (x_move (.int .i64 k) rfl rfl) rfl ?_
        refine p_run _ (x_move (.slice (some ad) l.length c) rfl rfl) rfl ?_
        refine p_run _ (x_move (.int .i64 (j : Int)) rfl rfl) rfl ?_
        refine p_run (l' := (.slice (some ad) l.length c :: .int .i64 k :: undef :: undef :: u4 :: .int .i64 (j : Int) :: .slice (some ad) l.length c :: .int .i64 (l.length : Int) :: .int .i64 (j : Int) :: .bool (decide ((j : Int) < (l.length : Int))) :: .int .i64 (j : Int) :: .int .i64 k :: .slice (some ad) l.length c :: .int .i64 (j : Int) :: .pointer (some ((ad).add (j * 1))) :: u15 :: u16 :: u17 :: u18 :: [])) _ (x_index (A := ad) (j := j * 1) (sz := 1) rfl rfl rfl Try.underlying100 (by kernel_rfl) (by omega) rfl) rfl ?_
        refine p_run _ (x_load (.int .i64 x) rfl rfl hcell (by rfl)) rfl ?_
        refine p_run _ (x_cmp (k := .i64) (m := k) (n := x) .eql (k == x) rfl rfl rfl rfl rfl) rfl ?_
        refine wpList_nil ?_
        refine hK28 _ _ ?_
        refine c_cond (t := (k == x)) rfl (fun hc31 => ?_) (fun hc31 => ?_)
        · have heq : k = x := by have := hc31; simpa [cmpB] using this
          refine wp_seq_k (fun K32 hK33 => ?_)
          refine c_region (fun ops35 hops34 => ?_)
          clear hops34
          refine p_run _ (x_move (.int .i64 (j : Int)) rfl rfl) rfl ?_
          refine p_run _ (x_assign (.int .i64 (j : Int)) rfl rfl) rfl ?_
          refine wpList_nil ?_
          refine hK33 _ _ ?_
          refine wp_ret ?_
          try simp only [Exit.inBlock, Exit.then]
          refine c_ret (.int .i64 (j : Int)) (r_tmp rfl rfl) ?_
          exact ⟨_, rfl, ⟨fun _ => by rw [heq]; exact List.mem_of_getElem? hx, fun _ => by omega⟩, HS.belowOf⟩
        · have heq : ¬ k = x := by have := hc31; simpa [cmpB] using this
          refine wp_skip ?_
          refine hK22 _ _ ?_
          refine c_region (fun ops37 hops36 => ?_)
          clear hops36
          refine p_run _ (x_arith (k := .i64) (m := (j : Int)) (n := 1) .add (((j + 1 : Nat) : Int)) rfl rfl rfl (show IntKind.i64.wrap ((j : Int) + 1) = ((j + 1 : Nat) : Int) from ((wr64' (by omega)).trans (by omega))) rfl) rfl ?_
          refine p_run _ (x_move (.int .i64 ((j + 1 : Nat) : Int)) rfl rfl) rfl ?_
          refine wpList_nil ?_
          refine fr_at (l' := (.slice (some ad) l.length c :: .int .i64 k :: undef :: undef :: u4 :: .int .i64 (j : Int) :: .slice (some ad) l.length c :: .int .i64 (l.length : Int) :: .int .i64 ((j + 1 : Nat) : Int) :: .bool (decide ((j : Int) < (l.length : Int))) :: .int .i64 (j : Int) :: .int .i64 k :: .slice (some ad) l.length c :: .int .i64 (j : Int) :: .pointer (some ((ad).add (j * 1))) :: .int .i64 x :: .bool (k == x) :: u17 :: .int .i64 ((j + 1 : Nat) : Int) :: [])) rfl ?_
          refine hJ12 (j + 1) _ _ ?_ ?_
          · show l.length - (j + 1) < l.length - j; omega
          · exact ⟨_, _, _, _, _, _, _, _, _, _, _, _, rfl, HS, ⟨by omega, fun i y hi hy => (Nat.lt_or_ge i j).elim (fun h => hall i y h hy) (fun h => by obtain rfl : i = j := (by omega); rw [hx] at hy; obtain rfl := Option.some.inj hy; exact heq)⟩⟩
      · have hlt : j = l.length := by have := of_decide_eq_false hc20; omega
        subst hlt
        refine wp_exit ?_
        refine hK6 _ _ ?_
        refine wp_seq_k (fun K38 hK39 => ?_)
        refine c_region (fun ops41 hops40 => ?_)
        clear hops40
        refine p_run _ (x_assign (.int .i64 (-1)) rfl rfl) rfl ?_
        refine wpList_nil ?_
        refine hK39 _ _ ?_
        refine wp_ret ?_
        try simp only [Exit.inBlock, Exit.then]
        refine c_ret (.int .i64 (-1)) (r_tmp rfl rfl) ?_
        exact ⟨_, rfl, ⟨fun h => absurd h (by decide), fun h => by obtain ⟨i, hi⟩ := List.getElem?_of_mem h; exact absurd rfl (hall i k (List.getElem?_eq_some_iff.1 hi).1 hi)⟩, HS.belowOf⟩
set_option maxRecDepth 10000 in
theorem conN_any (w : World) (A : Option Addr) (c : Nat) (l : List Int) (hr : (Kd.int .i64).C w A l.length l) (hl : l.length ≤ 1000) (k : Int) : Calls Try.prog 54 #[.slice A l.length c, .int .i64 k] w fun e w' => e = .returned (.bool (decide (k ∈ l))) ∧ Below w.heap.size w w' := by
  have HS := St.empty w
  · skip
    refine c_enter Try.func54 rfl 9 rfl [.slice A l.length c, .int .i64 k, undef, undef, undef, undef, undef, undef, undef] rfl ?_
    refine wp_seq_k (fun K1 hK2 => ?_)
    refine c_region (fun ops4 hops3 => ?_)
    clear hops3
    refine p_run _ (x_assign (.bool false) rfl rfl) rfl ?_
    refine wpList_nil ?_
    refine hK2 _ _ ?_
    refine wp_seq_k (fun K5 hK6 => ?_)
    refine c_region (fun ops8 hops7 => ?_)
    clear hops7
    refine p_run _ (x_move (.slice A l.length c) rfl rfl) rfl ?_
    refine p_run _ (x_move (.int .i64 k) rfl rfl) rfl ?_
    refine w_call [.slice A l.length c, .int .i64 k] Try.func66 (by kernel_rfl) (by rfl) rfl ?_
    refine (idxN_any _ A c l (Kd.C_below hr HS.belowOf) hl k).mono ?_
    rintro e w9 ⟨r, rfl, hri, hb_⟩
    replace HS := HS.here hb_
    clear hb_
    refine ⟨_, rfl, ?_⟩
    refine p_run _ (x_cmp (k := .i64) (m := r) (n := 0) .geq (decide (k ∈ l)) rfl rfl rfl (show decide (r ≥ 0) = _ from decide_eq_decide.2 hri) rfl) rfl ?_
    refine p_run _ (x_assign (.bool (decide (k ∈ l))) rfl rfl) rfl ?_
    refine wpList_nil ?_
    refine fr_at (l' := [.slice A l.length c, .int .i64 k, undef, undef, .bool (decide (k ∈ l)), .slice A l.length c, .int .i64 k, .int .i64 r, .bool (decide (k ∈ l))]) rfl ?_
    refine hK6 _ _ ?_
    refine wp_ret ?_
    try simp only [Exit.inBlock, Exit.then]
    refine c_ret (.bool (decide (k ∈ l))) (r_tmp rfl rfl) ?_
    exact ⟨rfl, HS.belowOf⟩
end Go.Proofs.Ytmachdikonelbaa
