/- Package leaf: Right, bytes, Page. -/
import Derived.Test.YtiokdpnhaemciaaLeaf1
set_option linter.unusedVariables false
set_option linter.unusedSimpArgs false
namespace Go.Proofs.Ytiokdpnhaemciaa
open Go.RowKit Go.Proofs.YtiokdpnhaemciaaW.PrintWords Go.Proofs.YtiokdpnhaemciaaW.PrintLast Crc
abbrev U4l2 (l : List Value) : List Value := undef :: undef :: undef :: undef :: l
abbrev U8l2 (l : List Value) : List Value := U4l2 (U4l2 l)
abbrev U16l2 (l : List Value) : List Value := U8l2 (U8l2 l)
abbrev U32l2 (l : List Value) : List Value := U16l2 (U16l2 l)
abbrev U64l2 (l : List Value) : List Value := U32l2 (U32l2 l)
def zK : List UInt8 := List.replicate 16 0
theorem zK_len : zK.length = 16 := List.length_replicate
theorem map_bv_inj {a b : List UInt8} : (a.map bv = b.map bv) ↔ a = b := List.map_inj_right (fun x y h => bv_inj h)
theorem eq_map (a b : List UInt8) : decide (a.map bv = b.map bv) = decide (a = b) := by rw [decide_eq_decide]; exact map_bv_inj
theorem cmp_yes {a b : Int} (h : a = b) : cmpB .eql a b = true := by subst h; simp [cmpB]
theorem cmp_not {a b : Int} (h : ¬ a = b) : cmpB .eql a b = false := by simp [cmpB, h]
theorem eq_yes {a b : List UInt8} (h : a = b) : decide (a.map bv = b.map bv) = true := by rw [h]; exact decide_eq_true rfl
theorem len_zero (n : Nat) : cmpB .eql (n : Int) 0 = decide (n = 0) := by
  by_cases h : n = 0
  · rw [cmp_yes (by omega), decide_eq_true h]
  · rw [cmp_not (by omega), decide_eq_false h]
/-- Can it be? -/
def ndOk (k : Int) (b : List UInt8) (es : List (Int × Int)) : Bool := if k = 1 then decide (es.length = 0) else if k = 2 ∨ k = 3 then (decide (b = zK) && decide (es.length ≤ 6)) && riseB es else false

set_option maxRecDepth 10000 in
set_option maxHeartbeats 2000000 in
theorem right_node (w : World) (k : Int) (b : List UInt8) (hb : b.length = 16) (A : Option Addr) (c : Nat) (es : List (Int × Int)) (hr : kEn.C w A es.length es) (hl : es.length ≤ 1000) : Calls Try.prog 28 #[.agg (Value.int .i64 k :: ((nums .u8 (b.map bv)) ++ ([Value.slice A es.length c]))).toArray] w fun e w' => e = .returned (.bool (ndOk k b es)) ∧ Below w.heap.size w w' := by
  have HS := St.empty w
  by_cases hk : k = 1
  · skip
    refine c_enter Try.func28 rfl 29 rfl (.agg (Value.int .i64 k :: ((nums .u8 (b.map bv)) ++ ([Value.slice A es.length c]))).toArray :: U16l2 (U8l2 (U4l2 ([])))) rfl ?_
    refine wp_seq_k (fun K1 hK2 => ?_)
    refine c_region (fun ops4 hops3 => ?_)
    clear hops3
    refine St.wBox HS (cs := (Value.int .i64 k :: ((nums .u8 (b.map bv)) ++ ([Value.slice A es.length c])))) (.agg (Value.int .i64 k :: ((nums .u8 (b.map bv)) ++ ([Value.slice A es.length c]))).toArray) rfl rfl ?_
    clear HS
    intro g5 w6 hg7 HS
    refine p_run (l' := _) _ (x_assign (.bool false) rfl rfl) rfl ?_
    refine wpList_nil ?_
    refine hK2 _ _ ?_
    refine wp_seq_k (fun K8 hK9 => ?_)
    refine wp_seq_k (fun K10 hK11 => ?_)
    refine c_region (fun ops13 hops12 => ?_)
    clear hops12
    refine p_run (l' := _) _ (x_field (j := 0) _ _ rfl rfl Try.underlying52 rfl (by rfl) rfl) rfl ?_
    refine p_run (l' := _) _ (x_load (.int .i64 k) rfl rfl (bkCell (HS.get (.head _)) 0 _ rfl) (by rfl)) rfl ?_
    refine wpList_nil ?_
    refine hK11 _ _ ?_
    refine wp_block ?_
    refine wp_seq_k (fun K14 hK15 => ?_)
    refine c_region (fun ops17 hops16 => ?_)
    clear hops16
    refine p_run (l' := _) _ (x_cmp (k := .i64) (m := k) (n := 1) .eql true rfl rfl rfl (cmp_yes hk) rfl) rfl ?_
    refine p_run (l' := _) _ (x_assign (.bool true) rfl rfl) rfl ?_
    refine wpList_nil ?_
    refine hK15 _ _ ?_
    refine c_true rfl ?_
    refine wp_seq_k (fun K18 hK19 => ?_)
    refine c_region (fun ops21 hops20 => ?_)
    clear hops20
    refine p_run (l' := _) _ (x_field (j := 17) _ _ rfl rfl Try.underlying52 rfl (by rfl) rfl) rfl ?_
    refine p_run (l' := _) _ (x_load (.slice A es.length c) rfl rfl (bkCell (HS.get (.head _)) 17 _ (by simp [List.getElem?_append, List.length_map, hb, nums_length])) (by rfl)) rfl ?_
    refine p_run (l' := _) _ (x_len rfl rfl Try.underlying50) rfl ?_
    refine p_run (l' := _) _ (x_cmp (k := .i64) (m := (es.length : Int)) (n := 0) .eql (decide (es.length = 0)) rfl rfl rfl (len_zero _) rfl) rfl ?_
    refine p_run (l' := _) _ (x_assign (.bool (decide (es.length = 0))) rfl rfl) rfl ?_
    refine wpList_nil ?_
    refine fr_at (l' := (.agg (Value.int .i64 k :: ((nums .u8 (b.map bv)) ++ ([Value.slice A es.length c]))).toArray :: .pointer (some ⟨g5, 0, none⟩) :: .bool (decide (es.length = 0)) :: .pointer (some ⟨g5, 0, none⟩) :: .int .i64 k :: .bool true :: .bool true :: .pointer (some ⟨g5, 17, none⟩) :: .slice A es.length c :: .int .i64 (es.length : Int) :: .bool (decide (es.length = 0)) :: U16l2 (undef :: undef :: []))) rfl ?_
    refine hK19 _ _ ?_
    refine wp_ret ?_
    try simp only [Exit.inBlock, Exit.then]
    refine c_ret (.bool (decide (es.length = 0))) (r_tmp rfl rfl) ?_
    have e1 : ndOk k b es = (decide (es.length = 0)) := by unfold ndOk; rw [if_pos hk]
    rw [e1]
    exact ⟨rfl, HS.belowOf⟩
  · skip
    have hk1 := hk
    clear hk
    by_cases hk : k = 2
    skip
    · skip
      by_cases hz : b = zK
      · skip
        by_cases h6 : es.length ≤ 6
        · skip
          refine c_enter Try.func28 rfl 29 rfl (.agg (Value.int .i64 k :: ((nums .u8 (b.map bv)) ++ ([Value.slice A es.length c]))).toArray :: U16l2 (U8l2 (U4l2 ([])))) rfl ?_
          refine wp_seq_k (fun K1 hK2 => ?_)
          refine c_region (fun ops4 hops3 => ?_)
          clear hops3
          refine St.wBox HS (cs := (Value.int .i64 k :: ((nums .u8 (b.map bv)) ++ ([Value.slice A es.length c])))) (.agg (Value.int .i64 k :: ((nums .u8 (b.map bv)) ++ ([Value.slice A es.length c]))).toArray) rfl rfl ?_
          clear HS
          intro g5 w6 hg7 HS
          refine p_run (l' := _) _ (x_assign (.bool false) rfl rfl) rfl ?_
          refine wpList_nil ?_
          refine hK2 _ _ ?_
          refine wp_seq_k (fun K8 hK9 => ?_)
          refine wp_seq_k (fun K10 hK11 => ?_)
          refine c_region (fun ops13 hops12 => ?_)
          clear hops12
          refine p_run (l' := _) _ (x_field (j := 0) _ _ rfl rfl Try.underlying52 rfl (by rfl) rfl) rfl ?_
          refine p_run (l' := _) _ (x_load (.int .i64 k) rfl rfl (bkCell (HS.get (.head _)) 0 _ rfl) (by rfl)) rfl ?_
          refine wpList_nil ?_
          refine hK11 _ _ ?_
          refine wp_block ?_
          refine wp_seq_k (fun K14 hK15 => ?_)
          refine c_region (fun ops17 hops16 => ?_)
          clear hops16
          refine p_run (l' := _) _ (x_cmp (k := .i64) (m := k) (n := 1) .eql false rfl rfl rfl (cmp_not hk1) rfl) rfl ?_
          refine p_run (l' := _) _ (x_assign (.bool false) rfl rfl) rfl ?_
          refine wpList_nil ?_
          refine hK15 _ _ ?_
          refine c_false rfl ?_
          refine wp_seq_k (fun K18 hK19 => ?_)
          refine wp_seq_k (fun K20 hK21 => ?_)
          refine c_region (fun ops23 hops22 => ?_)
          clear hops22
          refine p_run (l' := _) _ (x_cmp (k := .i64) (m := k) (n := 2) .eql true rfl rfl rfl (cmp_yes hk) rfl) rfl ?_
          refine p_run (l' := _) _ (x_assign (.bool true) rfl rfl) rfl ?_
          refine wpList_nil ?_
          refine hK21 _ _ ?_
          refine c_true rfl ?_
          refine wp_skip ?_
          refine hK19 _ _ ?_
          refine c_true rfl ?_
          refine wp_seq_k (fun K24 hK25 => ?_)
          refine c_region (fun ops27 hops26 => ?_)
          refine p_run (l' := _) _ (x_field (j := 1) _ _ rfl rfl Try.underlying52 rfl (by rfl) rfl) rfl ?_
          refine p_run (l' := _) _ (x_loads ((nums .u8 (b.map bv))) 16 rfl rfl (bkCells (HS.get (.head _)) 1 _ (by simp)) (by rfl) (by kernel_rfl) (by simp [List.length_map, hb, nums_length])) rfl ?_
          refine p_run (l' := _) _ (x_build ((nums .u8 (zK.map bv))) rfl (by kernel_rfl)) rfl ?_
          refine p_run (l' := (.agg (Value.int .i64 k :: ((nums .u8 (b.map bv)) ++ ([Value.slice A es.length c]))).toArray :: .pointer (some ⟨g5, 0, none⟩) :: .bool false :: .pointer (some ⟨g5, 0, none⟩) :: .int .i64 k :: .bool false :: .bool false :: U4l2 (.bool true :: .bool true :: undef :: .pointer (some ⟨g5, 1, none⟩) :: .agg ((nums .u8 (b.map bv))).toArray :: .agg ((nums .u8 (zK.map bv))).toArray :: .bool true :: U8l2 (undef :: undef :: undef :: [])))) _ (x_eq .eql (.agg ((nums .u8 (b.map bv))).toArray) (.agg ((nums .u8 (zK.map bv))).toArray) (decide ((b.map bv) = (zK.map bv))) true rfl rfl rfl (equal_nums Try.underlying49 Try.underlying5 (by kernel_rfl) (by kernel_rfl) _ _ (by simp [List.length_map, hb]) (by simp [List.length_map, zK_len])) ((eq_map b zK).trans (decide_eq_true hz)) rfl (guard_agg (by kernel_rfl)) (guard_agg (by kernel_rfl))) rfl ?_
          refine p_run (l' := _) _ (x_move (.bool true) rfl rfl) rfl ?_
          refine p_on rfl (by rw [hops26]; rfl) ?_
          refine p_run (l' := _) _ (x_field (j := 17) _ _ rfl rfl Try.underlying52 rfl (by rfl) rfl) rfl ?_
          refine p_on rfl (by rw [hops26]; rfl) ?_
          refine p_run (l' := _) _ (x_load (.slice A es.length c) rfl rfl (bkCell (HS.get (.head _)) 17 _ (by simp [List.getElem?_append, List.length_map, hb, nums_length])) (by rfl)) rfl ?_
          refine p_on rfl (by rw [hops26]; rfl) ?_
          refine p_run (l' := _) _ (x_len rfl rfl Try.underlying50) rfl ?_
          refine p_on rfl (by rw [hops26]; rfl) ?_
          refine p_run (l' := _) _ (x_cmp (k := .i64) (m := (es.length : Int)) (n := 6) .leq true rfl rfl rfl (show decide _ = true from decide_eq_true (by omega)) rfl) rfl ?_
          refine p_run (l' := _) _ (x_pick true (.bool true) (.bool false) (.bool true) rfl rfl rfl rfl rfl) rfl ?_
          refine p_run (l' := _) _ (x_move (.bool true) rfl rfl) rfl ?_
          refine p_on rfl (by rw [hops26]; rfl) ?_
          refine p_run (l' := _) _ (x_field (j := 17) _ _ rfl rfl Try.underlying52 rfl (by rfl) rfl) rfl ?_
          refine p_on rfl (by rw [hops26]; rfl) ?_
          refine p_run (l' := _) _ (x_load (.slice A es.length c) rfl rfl (bkCell (HS.get (.head _)) 17 _ (by simp [List.getElem?_append, List.length_map, hb, nums_length])) (by rfl)) rfl ?_
          refine p_on rfl (by rw [hops26]; rfl) ?_
          refine w_call [.slice A es.length c] Try.func41 (by kernel_rfl) (by rfl) rfl ?_
          refine (rises_any _ A c es (Kd.C_below hr HS.belowOf) (by omega)).mono ?_
          rintro e w28 ⟨rfl, hb_⟩
          replace HS := HS.here hb_
          clear hb_
          refine ⟨_, rfl, ?_⟩
          refine p_run (l' := _) _ (x_pick true (.bool (riseB es)) (.bool false) (.bool (riseB es)) rfl rfl rfl rfl rfl) rfl ?_
          refine p_run (l' := (.agg (Value.int .i64 k :: ((nums .u8 (b.map bv)) ++ ([Value.slice A es.length c]))).toArray :: .pointer (some ⟨g5, 0, none⟩) :: .bool (riseB es) :: .pointer (some ⟨g5, 0, none⟩) :: .int .i64 k :: .bool false :: .bool false :: U4l2 (.bool true :: .bool true :: undef :: .pointer (some ⟨g5, 1, none⟩) :: .agg ((nums .u8 (b.map bv))).toArray :: .agg ((nums .u8 (zK.map bv))).toArray :: .bool true :: .bool true :: .pointer (some ⟨g5, 17, none⟩) :: .slice A es.length c :: .int .i64 (es.length : Int) :: .bool true :: .bool true :: .bool true :: .pointer (some ⟨g5, 17, none⟩) :: .slice A es.length c :: .bool (riseB es) :: .bool (riseB es) :: []))) _ (x_assign (.bool (riseB es)) rfl rfl) rfl ?_
          clear hops26
          refine wpList_nil ?_
          refine hK25 _ _ ?_
          refine wp_ret ?_
          try simp only [Exit.inBlock, Exit.then]
          refine c_ret (.bool (riseB es)) (r_tmp rfl rfl) ?_
          have e1 : ndOk k b es = (riseB es) := by unfold ndOk; rw [if_neg hk1, if_pos (.inl hk)]; simp [hz, h6]
          rw [e1]
          exact ⟨rfl, HS.belowOf⟩
        · skip
          refine c_enter Try.func28 rfl 29 rfl (.agg (Value.int .i64 k :: ((nums .u8 (b.map bv)) ++ ([Value.slice A es.length c]))).toArray :: U16l2 (U8l2 (U4l2 ([])))) rfl ?_
          refine wp_seq_k (fun K1 hK2 => ?_)
          refine c_region (fun ops4 hops3 => ?_)
          clear hops3
          refine St.wBox HS (cs := (Value.int .i64 k :: ((nums .u8 (b.map bv)) ++ ([Value.slice A es.length c])))) (.agg (Value.int .i64 k :: ((nums .u8 (b.map bv)) ++ ([Value.slice A es.length c]))).toArray) rfl rfl ?_
          clear HS
          intro g5 w6 hg7 HS
          refine p_run (l' := _) _ (x_assign (.bool false) rfl rfl) rfl ?_
          refine wpList_nil ?_
          refine hK2 _ _ ?_
          refine wp_seq_k (fun K8 hK9 => ?_)
          refine wp_seq_k (fun K10 hK11 => ?_)
          refine c_region (fun ops13 hops12 => ?_)
          clear hops12
          refine p_run (l' := _) _ (x_field (j := 0) _ _ rfl rfl Try.underlying52 rfl (by rfl) rfl) rfl ?_
          refine p_run (l' := _) _ (x_load (.int .i64 k) rfl rfl (bkCell (HS.get (.head _)) 0 _ rfl) (by rfl)) rfl ?_
          refine wpList_nil ?_
          refine hK11 _ _ ?_
          refine wp_block ?_
          refine wp_seq_k (fun K14 hK15 => ?_)
          refine c_region (fun ops17 hops16 => ?_)
          clear hops16
          refine p_run (l' := _) _ (x_cmp (k := .i64) (m := k) (n := 1) .eql false rfl rfl rfl (cmp_not hk1) rfl) rfl ?_
          refine p_run (l' := _) _ (x_assign (.bool false) rfl rfl) rfl ?_
          refine wpList_nil ?_
          refine hK15 _ _ ?_
          refine c_false rfl ?_
          refine wp_seq_k (fun K18 hK19 => ?_)
          refine wp_seq_k (fun K20 hK21 => ?_)
          refine c_region (fun ops23 hops22 => ?_)
          clear hops22
          refine p_run (l' := _) _ (x_cmp (k := .i64) (m := k) (n := 2) .eql true rfl rfl rfl (cmp_yes hk) rfl) rfl ?_
          refine p_run (l' := _) _ (x_assign (.bool true) rfl rfl) rfl ?_
          refine wpList_nil ?_
          refine hK21 _ _ ?_
          refine c_true rfl ?_
          refine wp_skip ?_
          refine hK19 _ _ ?_
          refine c_true rfl ?_
          refine wp_seq_k (fun K24 hK25 => ?_)
          refine c_region (fun ops27 hops26 => ?_)
          refine p_run (l' := _) _ (x_field (j := 1) _ _ rfl rfl Try.underlying52 rfl (by rfl) rfl) rfl ?_
          refine p_run (l' := _) _ (x_loads ((nums .u8 (b.map bv))) 16 rfl rfl (bkCells (HS.get (.head _)) 1 _ (by simp)) (by rfl) (by kernel_rfl) (by simp [List.length_map, hb, nums_length])) rfl ?_
          refine p_run (l' := _) _ (x_build ((nums .u8 (zK.map bv))) rfl (by kernel_rfl)) rfl ?_
          refine p_run (l' := (.agg (Value.int .i64 k :: ((nums .u8 (b.map bv)) ++ ([Value.slice A es.length c]))).toArray :: .pointer (some ⟨g5, 0, none⟩) :: .bool false :: .pointer (some ⟨g5, 0, none⟩) :: .int .i64 k :: .bool false :: .bool false :: U4l2 (.bool true :: .bool true :: undef :: .pointer (some ⟨g5, 1, none⟩) :: .agg ((nums .u8 (b.map bv))).toArray :: .agg ((nums .u8 (zK.map bv))).toArray :: .bool true :: U8l2 (undef :: undef :: undef :: [])))) _ (x_eq .eql (.agg ((nums .u8 (b.map bv))).toArray) (.agg ((nums .u8 (zK.map bv))).toArray) (decide ((b.map bv) = (zK.map bv))) true rfl rfl rfl (equal_nums Try.underlying49 Try.underlying5 (by kernel_rfl) (by kernel_rfl) _ _ (by simp [List.length_map, hb]) (by simp [List.length_map, zK_len])) ((eq_map b zK).trans (decide_eq_true hz)) rfl (guard_agg (by kernel_rfl)) (guard_agg (by kernel_rfl))) rfl ?_
          refine p_run (l' := _) _ (x_move (.bool true) rfl rfl) rfl ?_
          refine p_on rfl (by rw [hops26]; rfl) ?_
          refine p_run (l' := _) _ (x_field (j := 17) _ _ rfl rfl Try.underlying52 rfl (by rfl) rfl) rfl ?_
          refine p_on rfl (by rw [hops26]; rfl) ?_
          refine p_run (l' := _) _ (x_load (.slice A es.length c) rfl rfl (bkCell (HS.get (.head _)) 17 _ (by simp [List.getElem?_append, List.length_map, hb, nums_length])) (by rfl)) rfl ?_
          refine p_on rfl (by rw [hops26]; rfl) ?_
          refine p_run (l' := _) _ (x_len rfl rfl Try.underlying50) rfl ?_
          refine p_on rfl (by rw [hops26]; rfl) ?_
          refine p_run (l' := _) _ (x_cmp (k := .i64) (m := (es.length : Int)) (n := 6) .leq false rfl rfl rfl (show decide _ = false from decide_eq_false (by omega)) rfl) rfl ?_
          refine p_run (l' := _) _ (x_pick true (.bool false) (.bool false) (.bool false) rfl rfl rfl rfl rfl) rfl ?_
          refine p_run (l' := _) _ (x_move (.bool false) rfl rfl) rfl ?_
          refine p_off (l' := _) (by rw [hops26]; rfl) rfl ?_
          refine p_off (l' := _) (by rw [hops26]; rfl) rfl ?_
          refine p_off (l' := _) (by rw [hops26]; rfl) rfl ?_
          refine p_run (l' := _) _ (x_pick false (undef) (.bool false) (.bool false) rfl rfl rfl rfl rfl) rfl ?_
          refine p_run (l' := (.agg (Value.int .i64 k :: ((nums .u8 (b.map bv)) ++ ([Value.slice A es.length c]))).toArray :: .pointer (some ⟨g5, 0, none⟩) :: .bool false :: .pointer (some ⟨g5, 0, none⟩) :: .int .i64 k :: .bool false :: .bool false :: U4l2 (.bool true :: .bool true :: undef :: .pointer (some ⟨g5, 1, none⟩) :: .agg ((nums .u8 (b.map bv))).toArray :: .agg ((nums .u8 (zK.map bv))).toArray :: .bool true :: .bool true :: .pointer (some ⟨g5, 17, none⟩) :: .slice A es.length c :: .int .i64 (es.length : Int) :: .bool false :: .bool false :: .bool false :: undef :: undef :: undef :: .bool false :: []))) _ (x_assign (.bool false) rfl rfl) rfl ?_
          clear hops26
          refine wpList_nil ?_
          refine hK25 _ _ ?_
          refine wp_ret ?_
          try simp only [Exit.inBlock, Exit.then]
          refine c_ret (.bool false) (r_tmp rfl rfl) ?_
          have e1 : ndOk k b es = false := by unfold ndOk; rw [if_neg hk1, if_pos (.inl hk)]; simp [hz, h6]
          rw [e1]
          exact ⟨rfl, HS.belowOf⟩
      · skip
        refine c_enter Try.func28 rfl 29 rfl (.agg (Value.int .i64 k :: ((nums .u8 (b.map bv)) ++ ([Value.slice A es.length c]))).toArray :: U16l2 (U8l2 (U4l2 ([])))) rfl ?_
        refine wp_seq_k (fun K1 hK2 => ?_)
        refine c_region (fun ops4 hops3 => ?_)
        clear hops3
        refine St.wBox HS (cs := (Value.int .i64 k :: ((nums .u8 (b.map bv)) ++ ([Value.slice A es.length c])))) (.agg (Value.int .i64 k :: ((nums .u8 (b.map bv)) ++ ([Value.slice A es.length c]))).toArray) rfl rfl ?_
        clear HS
        intro g5 w6 hg7 HS
        refine p_run (l' := _) _ (x_assign (.bool false) rfl rfl) rfl ?_
        refine wpList_nil ?_
        refine hK2 _ _ ?_
        refine wp_seq_k (fun K8 hK9 => ?_)
        refine wp_seq_k (fun K10 hK11 => ?_)
        refine c_region (fun ops13 hops12 => ?_)
        clear hops12
        refine p_run (l' := _) _ (x_field (j := 0) _ _ rfl rfl Try.underlying52 rfl (by rfl) rfl) rfl ?_
        refine p_run (l' := _) _ (x_load (.int .i64 k) rfl rfl (bkCell (HS.get (.head _)) 0 _ rfl) (by rfl)) rfl ?_
        refine wpList_nil ?_
        refine hK11 _ _ ?_
        refine wp_block ?_
        refine wp_seq_k (fun K14 hK15 => ?_)
        refine c_region (fun ops17 hops16 => ?_)
        clear hops16
        refine p_run (l' := _) _ (x_cmp (k := .i64) (m := k) (n := 1) .eql false rfl rfl rfl (cmp_not hk1) rfl) rfl ?_
        refine p_run (l' := _) _ (x_assign (.bool false) rfl rfl) rfl ?_
        refine wpList_nil ?_
        refine hK15 _ _ ?_
        refine c_false rfl ?_
        refine wp_seq_k (fun K18 hK19 => ?_)
        refine wp_seq_k (fun K20 hK21 => ?_)
        refine c_region (fun ops23 hops22 => ?_)
        clear hops22
        refine p_run (l' := _) _ (x_cmp (k := .i64) (m := k) (n := 2) .eql true rfl rfl rfl (cmp_yes hk) rfl) rfl ?_
        refine p_run (l' := _) _ (x_assign (.bool true) rfl rfl) rfl ?_
        refine wpList_nil ?_
        refine hK21 _ _ ?_
        refine c_true rfl ?_
        refine wp_skip ?_
        refine hK19 _ _ ?_
        refine c_true rfl ?_
        refine wp_seq_k (fun K24 hK25 => ?_)
        refine c_region (fun ops27 hops26 => ?_)
        refine p_run (l' := _) _ (x_field (j := 1) _ _ rfl rfl Try.underlying52 rfl (by rfl) rfl) rfl ?_
        refine p_run (l' := _) _ (x_loads ((nums .u8 (b.map bv))) 16 rfl rfl (bkCells (HS.get (.head _)) 1 _ (by simp)) (by rfl) (by kernel_rfl) (by simp [List.length_map, hb, nums_length])) rfl ?_
        refine p_run (l' := _) _ (x_build ((nums .u8 (zK.map bv))) rfl (by kernel_rfl)) rfl ?_
        refine p_run (l' := (.agg (Value.int .i64 k :: ((nums .u8 (b.map bv)) ++ ([Value.slice A es.length c]))).toArray :: .pointer (some ⟨g5, 0, none⟩) :: .bool false :: .pointer (some ⟨g5, 0, none⟩) :: .int .i64 k :: .bool false :: .bool false :: U4l2 (.bool true :: .bool true :: undef :: .pointer (some ⟨g5, 1, none⟩) :: .agg ((nums .u8 (b.map bv))).toArray :: .agg ((nums .u8 (zK.map bv))).toArray :: .bool false :: U8l2 (undef :: undef :: undef :: [])))) _ (x_eq .eql (.agg ((nums .u8 (b.map bv))).toArray) (.agg ((nums .u8 (zK.map bv))).toArray) (decide ((b.map bv) = (zK.map bv))) false rfl rfl rfl (equal_nums Try.underlying49 Try.underlying5 (by kernel_rfl) (by kernel_rfl) _ _ (by simp [List.length_map, hb]) (by simp [List.length_map, zK_len])) ((eq_map b zK).trans (decide_eq_false hz)) rfl (guard_agg (by kernel_rfl)) (guard_agg (by kernel_rfl))) rfl ?_
        refine p_run (l' := _) _ (x_move (.bool false) rfl rfl) rfl ?_
        refine p_off (l' := _) (by rw [hops26]; rfl) rfl ?_
        refine p_off (l' := _) (by rw [hops26]; rfl) rfl ?_
        refine p_off (l' := _) (by rw [hops26]; rfl) rfl ?_
        refine p_off (l' := _) (by rw [hops26]; rfl) rfl ?_
        refine p_run (l' := _) _ (x_pick false (undef) (.bool false) (.bool false) rfl rfl rfl rfl rfl) rfl ?_
        refine p_run (l' := _) _ (x_move (.bool false) rfl rfl) rfl ?_
        refine p_off (l' := _) (by rw [hops26]; rfl) rfl ?_
        refine p_off (l' := _) (by rw [hops26]; rfl) rfl ?_
        refine p_off (l' := _) (by rw [hops26]; rfl) rfl ?_
        refine p_run (l' := _) _ (x_pick false (undef) (.bool false) (.bool false) rfl rfl rfl rfl rfl) rfl ?_
        refine p_run (l' := (.agg (Value.int .i64 k :: ((nums .u8 (b.map bv)) ++ ([Value.slice A es.length c]))).toArray :: .pointer (some ⟨g5, 0, none⟩) :: .bool false :: .pointer (some ⟨g5, 0, none⟩) :: .int .i64 k :: .bool false :: .bool false :: U4l2 (.bool true :: .bool true :: undef :: .pointer (some ⟨g5, 1, none⟩) :: .agg ((nums .u8 (b.map bv))).toArray :: .agg ((nums .u8 (zK.map bv))).toArray :: .bool false :: .bool false :: U4l2 (.bool false :: .bool false :: undef :: undef :: undef :: .bool false :: [])))) _ (x_assign (.bool false) rfl rfl) rfl ?_
        clear hops26
        refine wpList_nil ?_
        refine hK25 _ _ ?_
        refine wp_ret ?_
        try simp only [Exit.inBlock, Exit.then]
        refine c_ret (.bool false) (r_tmp rfl rfl) ?_
        have e1 : ndOk k b es = false := by unfold ndOk; rw [if_neg hk1, if_pos (.inl hk)]; simp [hz]
        rw [e1]
        exact ⟨rfl, HS.belowOf⟩
    · skip
      have hk2 := hk
      clear hk
      by_cases hk : k = 3
      skip
      · skip
        have hk2' := hk1
        by_cases hz : b = zK
        · skip
          by_cases h6 : es.length ≤ 6
          · skip
            refine c_enter Try.func28 rfl 29 rfl (.agg (Value.int .i64 k :: ((nums .u8 (b.map bv)) ++ ([Value.slice A es.length c]))).toArray :: U16l2 (U8l2 (U4l2 ([])))) rfl ?_
            refine wp_seq_k (fun K1 hK2 => ?_)
            refine c_region (fun ops4 hops3 => ?_)
            clear hops3
            refine St.wBox HS (cs := (Value.int .i64 k :: ((nums .u8 (b.map bv)) ++ ([Value.slice A es.length c])))) (.agg (Value.int .i64 k :: ((nums .u8 (b.map bv)) ++ ([Value.slice A es.length c]))).toArray) rfl rfl ?_
            clear HS
            intro g5 w6 hg7 HS
            refine p_run (l' := _) _ (x_assign (.bool false) rfl rfl) rfl ?_
            refine wpList_nil ?_
            refine hK2 _ _ ?_
            refine wp_seq_k (fun K8 hK9 => ?_)
            refine wp_seq_k (fun K10 hK11 => ?_)
            refine c_region (fun ops13 hops12 => ?_)
            clear hops12
            refine p_run (l' := _) _ (x_field (j := 0) _ _ rfl rfl Try.underlying52 rfl (by rfl) rfl) rfl ?_
            refine p_run (l' := _) _ (x_load (.int .i64 k) rfl rfl (bkCell (HS.get (.head _)) 0 _ rfl) (by rfl)) rfl ?_
            refine wpList_nil ?_
            refine hK11 _ _ ?_
            refine wp_block ?_
            refine wp_seq_k (fun K14 hK15 => ?_)
            refine c_region (fun ops17 hops16 => ?_)
            clear hops16
            refine p_run (l' := _) _ (x_cmp (k := .i64) (m := k) (n := 1) .eql false rfl rfl rfl (cmp_not hk1) rfl) rfl ?_
            refine p_run (l' := _) _ (x_assign (.bool false) rfl rfl) rfl ?_
            refine wpList_nil ?_
            refine hK15 _ _ ?_
            refine c_false rfl ?_
            refine wp_seq_k (fun K18 hK19 => ?_)
            refine wp_seq_k (fun K20 hK21 => ?_)
            refine c_region (fun ops23 hops22 => ?_)
            clear hops22
            refine p_run (l' := _) _ (x_cmp (k := .i64) (m := k) (n := 2) .eql false rfl rfl rfl (cmp_not hk2) rfl) rfl ?_
            refine p_run (l' := _) _ (x_assign (.bool false) rfl rfl) rfl ?_
            refine wpList_nil ?_
            refine hK21 _ _ ?_
            refine c_false rfl ?_
            refine c_region (fun ops25 hops24 => ?_)
            clear hops24
            refine p_run (l' := _) _ (x_cmp (k := .i64) (m := k) (n := 3) .eql true rfl rfl rfl (cmp_yes hk) rfl) rfl ?_
            refine p_run (l' := _) _ (x_assign (.bool true) rfl rfl) rfl ?_
            refine wpList_nil ?_
            refine fr_at (l' := (.agg (Value.int .i64 k :: ((nums .u8 (b.map bv)) ++ ([Value.slice A es.length c]))).toArray :: .pointer (some ⟨g5, 0, none⟩) :: .bool false :: .pointer (some ⟨g5, 0, none⟩) :: .int .i64 k :: .bool false :: .bool false :: U4l2 (.bool true :: .bool false :: .bool true :: U8l2 (U4l2 (undef :: undef :: undef :: []))))) rfl ?_
            refine hK19 _ _ ?_
            refine c_true rfl ?_
            refine wp_seq_k (fun K26 hK27 => ?_)
            refine c_region (fun ops29 hops28 => ?_)
            refine p_run (l' := _) _ (x_field (j := 1) _ _ rfl rfl Try.underlying52 rfl (by rfl) rfl) rfl ?_
            refine p_run (l' := _) _ (x_loads ((nums .u8 (b.map bv))) 16 rfl rfl (bkCells (HS.get (.head _)) 1 _ (by simp)) (by rfl) (by kernel_rfl) (by simp [List.length_map, hb, nums_length])) rfl ?_
            refine p_run (l' := _) _ (x_build ((nums .u8 (zK.map bv))) rfl (by kernel_rfl)) rfl ?_
            refine p_run (l' := _) _ (x_eq .eql (.agg ((nums .u8 (b.map bv))).toArray) (.agg ((nums .u8 (zK.map bv))).toArray) (decide ((b.map bv) = (zK.map bv))) true rfl rfl rfl (equal_nums Try.underlying49 Try.underlying5 (by kernel_rfl) (by kernel_rfl) _ _ (by simp [List.length_map, hb]) (by simp [List.length_map, zK_len])) ((eq_map b zK).trans (decide_eq_true hz)) rfl (guard_agg (by kernel_rfl)) (guard_agg (by kernel_rfl))) rfl ?_
            refine p_run (l' := _) _ (x_move (.bool true) rfl rfl) rfl ?_
            refine p_on rfl (by rw [hops28]; rfl) ?_
            refine p_run (l' := _) _ (x_field (j := 17) _ _ rfl rfl Try.underlying52 rfl (by rfl) rfl) rfl ?_
            refine p_on rfl (by rw [hops28]; rfl) ?_
            refine p_run (l' := _) _ (x_load (.slice A es.length c) rfl rfl (bkCell (HS.get (.head _)) 17 _ (by simp [List.getElem?_append, List.length_map, hb, nums_length])) (by rfl)) rfl ?_
            refine p_on rfl (by rw [hops28]; rfl) ?_
            refine p_run (l' := _) _ (x_len rfl rfl Try.underlying50) rfl ?_
            refine p_on rfl (by rw [hops28]; rfl) ?_
            refine p_run (l' := _) _ (x_cmp (k := .i64) (m := (es.length : Int)) (n := 6) .leq true rfl rfl rfl (show decide _ = true from decide_eq_true (by omega)) rfl) rfl ?_
            refine p_run (l' := _) _ (x_pick true (.bool true) (.bool false) (.bool true) rfl rfl rfl rfl rfl) rfl ?_
            refine p_run (l' := _) _ (x_move (.bool true) rfl rfl) rfl ?_
            refine p_on rfl (by rw [hops28]; rfl) ?_
            refine p_run (l' := (.agg (Value.int .i64 k :: ((nums .u8 (b.map bv)) ++ ([Value.slice A es.length c]))).toArray :: .pointer (some ⟨g5, 0, none⟩) :: .bool false :: .pointer (some ⟨g5, 0, none⟩) :: .int .i64 k :: .bool false :: .bool false :: U4l2 (.bool true :: .bool false :: .bool true :: .pointer (some ⟨g5, 1, none⟩) :: .agg ((nums .u8 (b.map bv))).toArray :: .agg ((nums .u8 (zK.map bv))).toArray :: .bool true :: .bool true :: .pointer (some ⟨g5, 17, none⟩) :: .slice A es.length c :: .int .i64 (es.length : Int) :: .bool true :: .bool true :: .bool true :: .pointer (some ⟨g5, 17, none⟩) :: undef :: undef :: undef :: []))) _ (x_field (j := 17) _ _ rfl rfl Try.underlying52 rfl (by rfl) rfl) rfl ?_
            refine p_on rfl (by rw [hops28]; rfl) ?_
            refine p_run (l' := _) _ (x_load (.slice A es.length c) rfl rfl (bkCell (HS.get (.head _)) 17 _ (by simp [List.getElem?_append, List.length_map, hb, nums_length])) (by rfl)) rfl ?_
            refine p_on rfl (by rw [hops28]; rfl) ?_
            refine w_call [.slice A es.length c] Try.func41 (by kernel_rfl) (by rfl) rfl ?_
            refine (rises_any _ A c es (Kd.C_below hr HS.belowOf) (by omega)).mono ?_
            rintro e w30 ⟨rfl, hb_⟩
            replace HS := HS.here hb_
            clear hb_
            refine ⟨_, rfl, ?_⟩
            refine p_run (l' := _) _ (x_pick true (.bool (riseB es)) (.bool false) (.bool (riseB es)) rfl rfl rfl rfl rfl) rfl ?_
            refine p_run (l' := _) _ (x_assign (.bool (riseB es)) rfl rfl) rfl ?_
            clear hops28
            refine wpList_nil ?_
            refine hK27 _ _ ?_
            refine wp_ret ?_
            try simp only [Exit.inBlock, Exit.then]
            refine c_ret (.bool (riseB es)) (r_tmp rfl rfl) ?_
            have e1 : ndOk k b es = (riseB es) := by unfold ndOk; rw [if_neg hk1, if_pos (.inr hk)]; simp [hz, h6]
            rw [e1]
            exact ⟨rfl, HS.belowOf⟩
          · skip
            refine c_enter Try.func28 rfl 29 rfl (.agg (Value.int .i64 k :: ((nums .u8 (b.map bv)) ++ ([Value.slice A es.length c]))).toArray :: U16l2 (U8l2 (U4l2 ([])))) rfl ?_
            refine wp_seq_k (fun K1 hK2 => ?_)
            refine c_region (fun ops4 hops3 => ?_)
            clear hops3
            refine St.wBox HS (cs := (Value.int .i64 k :: ((nums .u8 (b.map bv)) ++ ([Value.slice A es.length c])))) (.agg (Value.int .i64 k :: ((nums .u8 (b.map bv)) ++ ([Value.slice A es.length c]))).toArray) rfl rfl ?_
            clear HS
            intro g5 w6 hg7 HS
            refine p_run (l' := _) _ (x_assign (.bool false) rfl rfl) rfl ?_
            refine wpList_nil ?_
            refine hK2 _ _ ?_
            refine wp_seq_k (fun K8 hK9 => ?_)
            refine wp_seq_k (fun K10 hK11 => ?_)
            refine c_region (fun ops13 hops12 => ?_)
            clear hops12
            refine p_run (l' := _) _ (x_field (j := 0) _ _ rfl rfl Try.underlying52 rfl (by rfl) rfl) rfl ?_
            refine p_run (l' := _) _ (x_load (.int .i64 k) rfl rfl (bkCell (HS.get (.head _)) 0 _ rfl) (by rfl)) rfl ?_
            refine wpList_nil ?_
            refine hK11 _ _ ?_
            refine wp_block ?_
            refine wp_seq_k (fun K14 hK15 => ?_)
            refine c_region (fun ops17 hops16 => ?_)
            clear hops16
            refine p_run (l' := _) _ (x_cmp (k := .i64) (m := k) (n := 1) .eql false rfl rfl rfl (cmp_not hk1) rfl) rfl ?_
            refine p_run (l' := _) _ (x_assign (.bool false) rfl rfl) rfl ?_
            refine wpList_nil ?_
            refine hK15 _ _ ?_
            refine c_false rfl ?_
            refine wp_seq_k (fun K18 hK19 => ?_)
            refine wp_seq_k (fun K20 hK21 => ?_)
            refine c_region (fun ops23 hops22 => ?_)
            clear hops22
            refine p_run (l' := _) _ (x_cmp (k := .i64) (m := k) (n := 2) .eql false rfl rfl rfl (cmp_not hk2) rfl) rfl ?_
            refine p_run (l' := _) _ (x_assign (.bool false) rfl rfl) rfl ?_
            refine wpList_nil ?_
            refine hK21 _ _ ?_
            refine c_false rfl ?_
            refine c_region (fun ops25 hops24 => ?_)
            clear hops24
            refine p_run (l' := _) _ (x_cmp (k := .i64) (m := k) (n := 3) .eql true rfl rfl rfl (cmp_yes hk) rfl) rfl ?_
            refine p_run (l' := _) _ (x_assign (.bool true) rfl rfl) rfl ?_
            refine wpList_nil ?_
            refine fr_at (l' := (.agg (Value.int .i64 k :: ((nums .u8 (b.map bv)) ++ ([Value.slice A es.length c]))).toArray :: .pointer (some ⟨g5, 0, none⟩) :: .bool false :: .pointer (some ⟨g5, 0, none⟩) :: .int .i64 k :: .bool false :: .bool false :: U4l2 (.bool true :: .bool false :: .bool true :: U8l2 (U4l2 (undef :: undef :: undef :: []))))) rfl ?_
            refine hK19 _ _ ?_
            refine c_true rfl ?_
            refine wp_seq_k (fun K26 hK27 => ?_)
            refine c_region (fun ops29 hops28 => ?_)
            refine p_run (l' := _) _ (x_field (j := 1) _ _ rfl rfl Try.underlying52 rfl (by rfl) rfl) rfl ?_
            refine p_run (l' := _) _ (x_loads ((nums .u8 (b.map bv))) 16 rfl rfl (bkCells (HS.get (.head _)) 1 _ (by simp)) (by rfl) (by kernel_rfl) (by simp [List.length_map, hb, nums_length])) rfl ?_
            refine p_run (l' := _) _ (x_build ((nums .u8 (zK.map bv))) rfl (by kernel_rfl)) rfl ?_
            refine p_run (l' := _) _ (x_eq .eql (.agg ((nums .u8 (b.map bv))).toArray) (.agg ((nums .u8 (zK.map bv))).toArray) (decide ((b.map bv) = (zK.map bv))) true rfl rfl rfl (equal_nums Try.underlying49 Try.underlying5 (by kernel_rfl) (by kernel_rfl) _ _ (by simp [List.length_map, hb]) (by simp [List.length_map, zK_len])) ((eq_map b zK).trans (decide_eq_true hz)) rfl (guard_agg (by kernel_rfl)) (guard_agg (by kernel_rfl))) rfl ?_
            refine p_run (l' := _) _ (x_move (.bool true) rfl rfl) rfl ?_
            refine p_on rfl (by rw [hops28]; rfl) ?_
            refine p_run (l' := _) _ (x_field (j := 17) _ _ rfl rfl Try.underlying52 rfl (by rfl) rfl) rfl ?_
            refine p_on rfl (by rw [hops28]; rfl) ?_
            refine p_run (l' := _) _ (x_load (.slice A es.length c) rfl rfl (bkCell (HS.get (.head _)) 17 _ (by simp [List.getElem?_append, List.length_map, hb, nums_length])) (by rfl)) rfl ?_
            refine p_on rfl (by rw [hops28]; rfl) ?_
            refine p_run (l' := _) _ (x_len rfl rfl Try.underlying50) rfl ?_
            refine p_on rfl (by rw [hops28]; rfl) ?_
            refine p_run (l' := _) _ (x_cmp (k := .i64) (m := (es.length : Int)) (n := 6) .leq false rfl rfl rfl (show decide _ = false from decide_eq_false (by omega)) rfl) rfl ?_
            refine p_run (l' := _) _ (x_pick true (.bool false) (.bool false) (.bool false) rfl rfl rfl rfl rfl) rfl ?_
            refine p_run (l' := _) _ (x_move (.bool false) rfl rfl) rfl ?_
            refine p_off (l' := (.agg (Value.int .i64 k :: ((nums .u8 (b.map bv)) ++ ([Value.slice A es.length c]))).toArray :: .pointer (some ⟨g5, 0, none⟩) :: .bool false :: .pointer (some ⟨g5, 0, none⟩) :: .int .i64 k :: .bool false :: .bool false :: U4l2 (.bool true :: .bool false :: .bool true :: .pointer (some ⟨g5, 1, none⟩) :: .agg ((nums .u8 (b.map bv))).toArray :: .agg ((nums .u8 (zK.map bv))).toArray :: .bool true :: .bool true :: .pointer (some ⟨g5, 17, none⟩) :: .slice A es.length c :: .int .i64 (es.length : Int) :: .bool false :: .bool false :: .bool false :: U4l2 ([])))) (by rw [hops28]; rfl) rfl ?_
            refine p_off (l' := _) (by rw [hops28]; rfl) rfl ?_
            refine p_off (l' := _) (by rw [hops28]; rfl) rfl ?_
            refine p_run (l' := _) _ (x_pick false (undef) (.bool false) (.bool false) rfl rfl rfl rfl rfl) rfl ?_
            refine p_run (l' := _) _ (x_assign (.bool false) rfl rfl) rfl ?_
            clear hops28
            refine wpList_nil ?_
            refine hK27 _ _ ?_
            refine wp_ret ?_
            try simp only [Exit.inBlock, Exit.then]
            refine c_ret (.bool false) (r_tmp rfl rfl) ?_
            have e1 : ndOk k b es = false := by unfold ndOk; rw [if_neg hk1, if_pos (.inr hk)]; simp [hz, h6]
            rw [e1]
            exact ⟨rfl, HS.belowOf⟩
        · skip
          refine c_enter Try.func28 rfl 29 rfl (.agg (Value.int .i64 k :: ((nums .u8 (b.map bv)) ++ ([Value.slice A es.length c]))).toArray :: U16l2 (U8l2 (U4l2 ([])))) rfl ?_
          refine wp_seq_k (fun K1 hK2 => ?_)
          refine c_region (fun ops4 hops3 => ?_)
          clear hops3
          refine St.wBox HS (cs := (Value.int .i64 k :: ((nums .u8 (b.map bv)) ++ ([Value.slice A es.length c])))) (.agg (Value.int .i64 k :: ((nums .u8 (b.map bv)) ++ ([Value.slice A es.length c]))).toArray) rfl rfl ?_
          clear HS
          intro g5 w6 hg7 HS
          refine p_run (l' := _) _ (x_assign (.bool false) rfl rfl) rfl ?_
          refine wpList_nil ?_
          refine hK2 _ _ ?_
          refine wp_seq_k (fun K8 hK9 => ?_)
          refine wp_seq_k (fun K10 hK11 => ?_)
          refine c_region (fun ops13 hops12 => ?_)
          clear hops12
          refine p_run (l' := _) _ (x_field (j := 0) _ _ rfl rfl Try.underlying52 rfl (by rfl) rfl) rfl ?_
          refine p_run (l' := _) _ (x_load (.int .i64 k) rfl rfl (bkCell (HS.get (.head _)) 0 _ rfl) (by rfl)) rfl ?_
          refine wpList_nil ?_
          refine hK11 _ _ ?_
          refine wp_block ?_
          refine wp_seq_k (fun K14 hK15 => ?_)
          refine c_region (fun ops17 hops16 => ?_)
          clear hops16
          refine p_run (l' := _) _ (x_cmp (k := .i64) (m := k) (n := 1) .eql false rfl rfl rfl (cmp_not hk1) rfl) rfl ?_
          refine p_run (l' := _) _ (x_assign (.bool false) rfl rfl) rfl ?_
          refine wpList_nil ?_
          refine hK15 _ _ ?_
          refine c_false rfl ?_
          refine wp_seq_k (fun K18 hK19 => ?_)
          refine wp_seq_k (fun K20 hK21 => ?_)
          refine c_region (fun ops23 hops22 => ?_)
          clear hops22
          refine p_run (l' := _) _ (x_cmp (k := .i64) (m := k) (n := 2) .eql false rfl rfl rfl (cmp_not hk2) rfl) rfl ?_
          refine p_run (l' := _) _ (x_assign (.bool false) rfl rfl) rfl ?_
          refine wpList_nil ?_
          refine hK21 _ _ ?_
          refine c_false rfl ?_
          refine c_region (fun ops25 hops24 => ?_)
          clear hops24
          refine p_run (l' := _) _ (x_cmp (k := .i64) (m := k) (n := 3) .eql true rfl rfl rfl (cmp_yes hk) rfl) rfl ?_
          refine p_run (l' := _) _ (x_assign (.bool true) rfl rfl) rfl ?_
          refine wpList_nil ?_
          refine fr_at (l' := (.agg (Value.int .i64 k :: ((nums .u8 (b.map bv)) ++ ([Value.slice A es.length c]))).toArray :: .pointer (some ⟨g5, 0, none⟩) :: .bool false :: .pointer (some ⟨g5, 0, none⟩) :: .int .i64 k :: .bool false :: .bool false :: U4l2 (.bool true :: .bool false :: .bool true :: U8l2 (U4l2 (undef :: undef :: undef :: []))))) rfl ?_
          refine hK19 _ _ ?_
          refine c_true rfl ?_
          refine wp_seq_k (fun K26 hK27 => ?_)
          refine c_region (fun ops29 hops28 => ?_)
          refine p_run (l' := _) _ (x_field (j := 1) _ _ rfl rfl Try.underlying52 rfl (by rfl) rfl) rfl ?_
          refine p_run (l' := _) _ (x_loads ((nums .u8 (b.map bv))) 16 rfl rfl (bkCells (HS.get (.head _)) 1 _ (by simp)) (by rfl) (by kernel_rfl) (by simp [List.length_map, hb, nums_length])) rfl ?_
          refine p_run (l' := _) _ (x_build ((nums .u8 (zK.map bv))) rfl (by kernel_rfl)) rfl ?_
          refine p_run (l' := _) _ (x_eq .eql (.agg ((nums .u8 (b.map bv))).toArray) (.agg ((nums .u8 (zK.map bv))).toArray) (decide ((b.map bv) = (zK.map bv))) false rfl rfl rfl (equal_nums Try.underlying49 Try.underlying5 (by kernel_rfl) (by kernel_rfl) _ _ (by simp [List.length_map, hb]) (by simp [List.length_map, zK_len])) ((eq_map b zK).trans (decide_eq_false hz)) rfl (guard_agg (by kernel_rfl)) (guard_agg (by kernel_rfl))) rfl ?_
          refine p_run (l' := _) _ (x_move (.bool false) rfl rfl) rfl ?_
          refine p_off (l' := _) (by rw [hops28]; rfl) rfl ?_
          refine p_off (l' := _) (by rw [hops28]; rfl) rfl ?_
          refine p_off (l' := _) (by rw [hops28]; rfl) rfl ?_
          refine p_off (l' := _) (by rw [hops28]; rfl) rfl ?_
          refine p_run (l' := _) _ (x_pick false (undef) (.bool false) (.bool false) rfl rfl rfl rfl rfl) rfl ?_
          refine p_run (l' := _) _ (x_move (.bool false) rfl rfl) rfl ?_
          refine p_off (l' := (.agg (Value.int .i64 k :: ((nums .u8 (b.map bv)) ++ ([Value.slice A es.length c]))).toArray :: .pointer (some ⟨g5, 0, none⟩) :: .bool false :: .pointer (some ⟨g5, 0, none⟩) :: .int .i64 k :: .bool false :: .bool false :: U4l2 (.bool true :: .bool false :: .bool true :: .pointer (some ⟨g5, 1, none⟩) :: .agg ((nums .u8 (b.map bv))).toArray :: .agg ((nums .u8 (zK.map bv))).toArray :: .bool false :: .bool false :: U4l2 (.bool false :: .bool false :: U4l2 ([]))))) (by rw [hops28]; rfl) rfl ?_
          refine p_off (l' := _) (by rw [hops28]; rfl) rfl ?_
          refine p_off (l' := _) (by rw [hops28]; rfl) rfl ?_
          refine p_run (l' := _) _ (x_pick false (undef) (.bool false) (.bool false) rfl rfl rfl rfl rfl) rfl ?_
          refine p_run (l' := _) _ (x_assign (.bool false) rfl rfl) rfl ?_
          clear hops28
          refine wpList_nil ?_
          refine hK27 _ _ ?_
          refine wp_ret ?_
          try simp only [Exit.inBlock, Exit.then]
          refine c_ret (.bool false) (r_tmp rfl rfl) ?_
          have e1 : ndOk k b es = false := by unfold ndOk; rw [if_neg hk1, if_pos (.inr hk)]; simp [hz]
          rw [e1]
          exact ⟨rfl, HS.belowOf⟩
      · skip
        have hk3 := hk
        refine c_enter Try.func28 rfl 29 rfl (.agg (Value.int .i64 k :: ((nums .u8 (b.map bv)) ++ ([Value.slice A es.length c]))).toArray :: U16l2 (U8l2 (U4l2 ([])))) rfl ?_
        refine wp_seq_k (fun K1 hK2 => ?_)
        refine c_region (fun ops4 hops3 => ?_)
        clear hops3
        refine St.wBox HS (cs := (Value.int .i64 k :: ((nums .u8 (b.map bv)) ++ ([Value.slice A es.length c])))) (.agg (Value.int .i64 k :: ((nums .u8 (b.map bv)) ++ ([Value.slice A es.length c]))).toArray) rfl rfl ?_
        clear HS
        intro g5 w6 hg7 HS
        refine p_run (l' := _) _ (x_assign (.bool false) rfl rfl) rfl ?_
        refine wpList_nil ?_
        refine hK2 _ _ ?_
        refine wp_seq_k (fun K8 hK9 => ?_)
        refine wp_seq_k (fun K10 hK11 => ?_)
        refine c_region (fun ops13 hops12 => ?_)
        clear hops12
        refine p_run (l' := _) _ (x_field (j := 0) _ _ rfl rfl Try.underlying52 rfl (by rfl) rfl) rfl ?_
        refine p_run (l' := _) _ (x_load (.int .i64 k) rfl rfl (bkCell (HS.get (.head _)) 0 _ rfl) (by rfl)) rfl ?_
        refine wpList_nil ?_
        refine hK11 _ _ ?_
        refine wp_block ?_
        refine wp_seq_k (fun K14 hK15 => ?_)
        refine c_region (fun ops17 hops16 => ?_)
        clear hops16
        refine p_run (l' := _) _ (x_cmp (k := .i64) (m := k) (n := 1) .eql false rfl rfl rfl (cmp_not hk1) rfl) rfl ?_
        refine p_run (l' := _) _ (x_assign (.bool false) rfl rfl) rfl ?_
        refine wpList_nil ?_
        refine hK15 _ _ ?_
        refine c_false rfl ?_
        refine wp_seq_k (fun K18 hK19 => ?_)
        refine wp_seq_k (fun K20 hK21 => ?_)
        refine c_region (fun ops23 hops22 => ?_)
        clear hops22
        refine p_run (l' := _) _ (x_cmp (k := .i64) (m := k) (n := 2) .eql false rfl rfl rfl (cmp_not hk2) rfl) rfl ?_
        refine p_run (l' := _) _ (x_assign (.bool false) rfl rfl) rfl ?_
        refine wpList_nil ?_
        refine hK21 _ _ ?_
        refine c_false rfl ?_
        refine c_region (fun ops25 hops24 => ?_)
        clear hops24
        refine p_run (l' := _) _ (x_cmp (k := .i64) (m := k) (n := 3) .eql false rfl rfl rfl (cmp_not hk3) rfl) rfl ?_
        refine p_run (l' := _) _ (x_assign (.bool false) rfl rfl) rfl ?_
        refine wpList_nil ?_
        refine fr_at (l' := (.agg (Value.int .i64 k :: ((nums .u8 (b.map bv)) ++ ([Value.slice A es.length c]))).toArray :: .pointer (some ⟨g5, 0, none⟩) :: .bool false :: .pointer (some ⟨g5, 0, none⟩) :: .int .i64 k :: .bool false :: .bool false :: U4l2 (.bool false :: .bool false :: .bool false :: U8l2 (U4l2 (undef :: undef :: undef :: []))))) rfl ?_
        refine hK19 _ _ ?_
        refine c_false rfl ?_
        refine wp_skip ?_
        refine hK9 _ _ ?_
        refine wp_seq_k (fun K26 hK27 => ?_)
        refine c_region (fun ops29 hops28 => ?_)
        clear hops28
        refine p_run (l' := _) _ (x_assign (.bool false) rfl rfl) rfl ?_
        refine wpList_nil ?_
        refine hK27 _ _ ?_
        refine wp_ret ?_
        try simp only [Exit.inBlock, Exit.then]
        refine c_ret (.bool false) (r_tmp rfl rfl) ?_
        have e1 : ndOk k b es = false := by unfold ndOk; rw [if_neg hk1, if_neg (fun h => h.elim hk2 hk3)]
        rw [e1]
        exact ⟨rfl, HS.belowOf⟩

/-- Entries as bytes. -/
def esB (es : List (Int × Int)) : List UInt8 := es.flatMap fun x => [byt x.1, byt x.2]
/-- A node as bytes, unsealed. -/
def ndB (k : Int) (b : List UInt8) (es : List (Int × Int)) : List UInt8 := if k = 1 then [byt k] ++ b else [byt k, byt (es.length : Int)] ++ esB es
theorem es_snoc {es : List (Int × Int)} {j : Nat} {x : Int × Int} (h : es[j]? = some x) : esB (es.take (j + 1)) = esB (es.take j) ++ [byt x.1, byt x.2] := by
  obtain ⟨hj, rfl⟩ := List.getElem?_eq_some_iff.1 h
  unfold esB
  rw [List.take_succ_eq_append_getElem hj, List.flatMap_append]
  simp
theorem esB_length (es : List (Int × Int)) : (esB es).length = 2 * es.length := by
  unfold esB
  induction es with
  | nil => rfl
  | cons x es ih => rw [List.flatMap_cons, List.length_append, ih, List.length_cons]; simp; omega
theorem ndB_le (k : Int) {b : List UInt8} (hb : b.length = 16) (es : List (Int × Int)) : (ndB k b es).length ≤ 17 + 2 * es.length := by
  unfold ndB
  split
  · simp [hb]
  · simp [esB_length]
    omega
theorem ndB_pos (k : Int) (b : List UInt8) (es : List (Int × Int)) : 0 < (ndB k b es).length := by
  unfold ndB
  split <;> simp

set_option maxRecDepth 10000 in
set_option maxHeartbeats 2000000 in
theorem nbytes_any (w : World) (k : Int) (b : List UInt8) (hb : b.length = 16) (A : Option Addr) (c : Nat) (es : List (Int × Int)) (hr : kEn.C w A es.length es) (hl : es.length ≤ 1000) : Calls Try.prog 37 #[.agg (Value.int .i64 k :: ((nums .u8 (b.map bv)) ++ ([Value.slice A es.length c]))).toArray] w fun e w' => ∃ v, e = .returned v ∧ St w (fun _ => False) w' [row kByte rfl 5 v (ndB k b es)] := by
  have HS := St.empty w
  by_cases hk : k = 1
  · skip
    refine c_enter Try.func37 rfl 42 rfl (.agg (Value.int .i64 k :: ((nums .u8 (b.map bv)) ++ ([Value.slice A es.length c]))).toArray :: U32l2 (U8l2 (undef :: []))) rfl ?_
    refine wp_seq_k (fun K1 hK2 => ?_)
    refine c_region (fun ops4 hops3 => ?_)
    clear hops3
    refine St.wBox HS (cs := (Value.int .i64 k :: ((nums .u8 (b.map bv)) ++ ([Value.slice A es.length c])))) (.agg (Value.int .i64 k :: ((nums .u8 (b.map bv)) ++ ([Value.slice A es.length c]))).toArray) rfl rfl ?_
    clear HS
    intro g5 w6 hg7 HS
    refine p_run (l' := _) _ (x_assign (.slice none 0 0) rfl rfl) rfl ?_
    refine wpList_nil ?_
    refine hK2 _ _ ?_
    refine wp_seq_k (fun K8 hK9 => ?_)
    refine wp_seq_k (fun K10 hK11 => ?_)
    refine c_region (fun ops13 hops12 => ?_)
    clear hops12
    refine p_run (l' := _) _ (x_field (j := 0) _ _ rfl rfl Try.underlying52 rfl (by rfl) rfl) rfl ?_
    refine p_run (l' := _) _ (x_load (.int .i64 k) rfl rfl (bkCell (HS.get (.head _)) 0 _ rfl) (by rfl)) rfl ?_
    refine p_run (l' := _) _ (x_cmp (k := .i64) (m := k) (n := 1) .eql true rfl rfl rfl (cmp_yes hk) rfl) rfl ?_
    refine wpList_nil ?_
    refine hK11 _ _ ?_
    refine c_true rfl ?_
    refine wp_seq_k (fun K14 hK15 => ?_)
    skip
    · skip
      refine free_frame (n := 8) (T := _) [0, 1, 3, 7, 0, 16, 63, 127] [(0, 9), (1, 10), (2, 11), (3, 12), (4, 13), (5, 14), (6, 15), (7, 2)] (fun bq_ vq_ w_ => qv ((fun i_ => match i_ with | 0 => some (.pointer (some ⟨g5, 0, none⟩)) | 1 => some (.int .i64 k) | 2 => some (.int .u8 (bv (byt k))) | 4 => some (.pointer (some ⟨g5, 1, none⟩)) | 5 => some (.slice (some ⟨g5, 1, none⟩) 16 16) | _ => none) : Nat → Option Value) bq_ vq_ ∧ cond (bq_ 7) (∃ (v18 : Value) (v20 : Value), vq_ 3 = v18 ∧ vq_ 6 = v20 ∧ vq_ 7 = v20 ∧ St w (fun _ => False) w_ ([row kByte rfl 5 v20 ([(byt k)] ++ b), blk g5 (Value.int .i64 k :: ((nums .u8 (b.map bv)) ++ ([Value.slice A es.length c]))) 52])) (cond (bq_ 6) (∃ (v18 : Value) (v20 : Value), vq_ 3 = v18 ∧ vq_ 6 = v20 ∧ St w (fun _ => False) w_ ([row kByte rfl 5 v20 ([(byt k)] ++ b), blk g5 (Value.int .i64 k :: ((nums .u8 (b.map bv)) ++ ([Value.slice A es.length c]))) 52])) (cond (bq_ 3) (∃ (v18 : Value), vq_ 3 = v18 ∧ St w (fun _ => False) w_ ([row kByte rfl 5 v18 [(byt k)], blk g5 (Value.int .i64 k :: ((nums .u8 (b.map bv)) ++ ([Value.slice A es.length c]))) 52])) ((St w (fun _ => False) w_ ([blk g5 (Value.int .i64 k :: ((nums .u8 (b.map bv)) ++ ([Value.slice A es.length c]))) 52])))))) (by kernel_rfl) rfl rfl (by kernel_rfl) (by kernel_rfl) rfl (by kernel_rfl) (by kernel_rfl) ⟨qv_none, HS.draw⟩ ?_ ?_
      · clear HS
        intro i_ hi_ bq_ vq_ a_ w_ hG hb_ hon hoff hfr hel hval
        obtain ⟨hV, hE⟩ := hG
        have hi_ := List.mem_range.1 hi_
        obtain ⟨l_, rfl⟩ := hfr
        have hv_ := fun (j t : Nat) (v : Value) (h1 : (j, t) ∈ [(0, 9), (1, 10), (2, 11), (3, 12), (4, 13), (5, 14), (6, 15), (7, 2)]) h2 h3 => (hval (j, t) h1 h3).trans (congrArg some (hV j v h2 h3))
        have hcs : i_ = 0 ∨ i_ = 1 ∨ i_ = 2 ∨ i_ = 3 ∨ i_ = 4 ∨ i_ = 5 ∨ i_ = 6 ∨ i_ = 7 := by omega
        rcases hcs with rfl | rfl | rfl | rfl | rfl | rfl | rfl | rfl
        · have e1 : evl l_ (.tmp 1) = .pointer (some ⟨g5, 0, none⟩) := evl_of ((hel 1 (by decide)).trans rfl)
          exact ⟨_, rfl, fun K_ hK_ => q_op _ (x_field (j := 0) _ _ rfl e1 Try.underlying52 rfl (by rfl) rfl) (hK_ _ _ ⟨qv_up hV (fun _ h => Option.some.inj h), hE⟩)⟩
        · have hE0 := hE
          rw [show bq_ 7 = false from (hoff 7 (by decide))] at hE0
          rw [show bq_ 6 = false from (hoff 6 (by decide))] at hE0
          rw [show bq_ 3 = false from (hoff 3 (by decide))] at hE0
          simp only [cond_true, cond_false] at hE0
          have HS := hE0
          have e9 : evl l_ (.tmp 9) = .pointer (some ⟨g5, 0, none⟩) := evl_of (hv_ 0 9 _ (by decide) rfl (hon 0 (by decide)))
          exact ⟨_, rfl, fun K_ hK_ => q_op _ (x_load (.int .i64 k) rfl e9 (bkCell (HS.get (.head _)) 0 _ rfl) (by rfl)) (hK_ _ _ ⟨qv_up hV (fun _ h => Option.some.inj h), hE⟩)⟩
        · have e10 : evl l_ (.tmp 10) = .int .i64 k := evl_of (hv_ 1 10 _ (by decide) rfl (hon 1 (by decide)))
          exact ⟨_, rfl, fun K_ hK_ => q_op _ (x_conv (k := .i64) (m := k) .u8 ((bv (byt k))) rfl (by rw [Try.underlying3]; rfl) Try.underlying5 e10 (conv_byt _)) (hK_ _ _ ⟨qv_up hV (fun _ h => Option.some.inj h), hE⟩)⟩
        · have h11 : (fr l_).tmps[11]? = some (.int .u8 (bv (byt k))) := hv_ 2 11 _ (by decide) rfl (hon 2 (by decide))
          have hE0 := hE
          rw [show bq_ 7 = false from (hoff 7 (by decide))] at hE0
          rw [show bq_ 6 = false from (hoff 6 (by decide))] at hE0
          rw [show bq_ 3 = false from hb_] at hE0
          simp only [cond_true, cond_false] at hE0
          have HS := hE0
          have e11 : evl l_ (.tmp 11) = .int .u8 (bv (byt k)) := evl_of h11
          refine ⟨_, rfl, fun K_ hK_ => wp_of_list rfl ?_⟩
          intro ops_
          refine St.wLitB HS [(byt k)] rfl Try.underlying65 (by kernel_rfl) (by decide) (by show Instr.fill _ _ (Array.map (fun x : Nat × Operand => (x.1, evl l_ x.2)) #[(0, Operand.tmp 11)]).toList = _; rw [show (Array.map (fun x : Nat × Operand => (x.1, evl l_ x.2)) #[(0, Operand.tmp 11)]).toList = [(0, .int .u8 (bv (byt k)))] from by simp only [List.map_toArray, List.map_cons, List.map_nil, e11] <;> rfl]; kernel_rfl) ?_
          clear HS
          intro v900301 w900302 HS
          refine wpList_nil ?_
          refine norm_put (hK_ (v900301) _ ⟨qv_up hV (by intro _ h; cases h), ?_⟩)
          show cond (bq_ 7) _ _
          rw [show bq_ 7 = false from hoff 7 (by decide), cond_false]
          show cond (bq_ 6) _ _
          rw [show bq_ 6 = false from hoff 6 (by decide), cond_false]
          show cond true _ _
          rw [cond_true]
          exact ⟨v900301, rfl, ((HS.front 1 rfl).front 1 rfl)⟩
        · have e1 : evl l_ (.tmp 1) = .pointer (some ⟨g5, 0, none⟩) := evl_of ((hel 1 (by decide)).trans rfl)
          exact ⟨_, rfl, fun K_ hK_ => q_op _ (x_field (j := 1) _ _ rfl e1 Try.underlying52 rfl (by rfl) rfl) (hK_ _ _ ⟨qv_up hV (fun _ h => Option.some.inj h), hE⟩)⟩
        · have e13 : evl l_ (.tmp 13) = .pointer (some ⟨g5, 1, none⟩) := evl_of (hv_ 4 13 _ (by decide) rfl (hon 4 (by decide)))
          exact ⟨_, rfl, fun K_ hK_ => q_op (.slice (some ⟨g5, 1, none⟩) 16 16) ((x_sliceArr (sz := 1) (L := none) (H := none) (lo := 0) (hi := 16) ⟨g5, 1, none⟩ rfl e13 Try.underlying49 (by kernel_rfl) rfl rfl (by omega) (by omega) (by first | rfl | (rw [if_neg (by omega), add_mk]; rfl))).trans rfl) (hK_ _ _ ⟨qv_up hV (fun _ h => Option.some.inj h), hE⟩)⟩
        · have h12 := hval (3, 12) (by decide) (hon 3 (by decide))
          have h14 : (fr l_).tmps[14]? = some (.slice (some ⟨g5, 1, none⟩) 16 16) := hv_ 5 14 _ (by decide) rfl (hon 5 (by decide))
          have hE0 := hE
          rw [show bq_ 7 = false from (hoff 7 (by decide))] at hE0
          rw [show bq_ 6 = false from hb_] at hE0
          rw [show bq_ 3 = true from (hon 3 (by decide))] at hE0
          simp only [cond_true, cond_false] at hE0
          obtain ⟨v18, hv3, HS⟩ := hE0
          rw [hv3] at h12
          have e12 : evl l_ (.tmp 12) = v18 := evl_of h12
          have e14 : evl l_ (.tmp 14) = .slice (some ⟨g5, 1, none⟩) 16 16 := evl_of h14
          refine ⟨_, rfl, fun K_ hK_ => wp_of_list rfl ?_⟩
          intro ops_
          refine St.wAppend HS (.int .u8 0) 1 Try.underlying65 (by kernel_rfl) rfl (by decide) (by decide) b _ _ _ e12 e14 (hb ▸ rd_sub (HS.get (.tail _ (.head _))) 1 (by simp [nums_length]) (by omega)) (fun _ _ h => h) (by simp <;> omega) ?_
          clear HS
          intro v900601 w900602 HS
          refine wpList_nil ?_
          refine norm_put (hK_ (v900601) _ ⟨qv_up hV (by intro _ h; cases h), ?_⟩)
          show cond (bq_ 7) _ _
          rw [show bq_ 7 = false from hoff 7 (by decide), cond_false]
          show cond true _ _
          rw [cond_true]
          exact ⟨v18, v900601, hv3, rfl, ((HS.front 1 rfl).front 1 rfl)⟩
        · have h15 := hval (6, 15) (by decide) (hon 6 (by decide))
          have hE0 := hE
          rw [show bq_ 7 = false from hb_] at hE0
          rw [show bq_ 6 = true from (hon 6 (by decide))] at hE0
          simp only [cond_true, cond_false] at hE0
          obtain ⟨v18, v20, hv3, hv6, HS⟩ := hE0
          rw [hv6] at h15
          have e15 : evl l_ (.tmp 15) = v20 := evl_of h15
          refine ⟨_, rfl, fun K_ hK_ => wp_of_list rfl ?_⟩
          intro ops_
          refine p_run (l' := _) _ (x_assign (v20) rfl e15) rfl ?_
          refine wpList_nil ?_
          refine norm_put (hK_ (v20) _ ⟨qv_up hV (by intro _ h; cases h), ?_⟩)
          show cond true _ _
          rw [cond_true]
          exact ⟨v18, v20, hv3, hv6, rfl, ((HS.front 1 rfl).front 1 rfl)⟩
      intro bq_ vq_ w_ hall hG
      obtain ⟨hV, hE⟩ := hG
      clear HS
      rw [show bq_ 7 = true from hall 7 (by decide)] at hE
      simp only [cond_true] at hE
      obtain ⟨v18, v20, hv3, hv6, hv7, HS⟩ := hE
      have hv0 := hV 0 _ rfl (hall 0 (by decide))
      have hv1 := hV 1 _ rfl (hall 1 (by decide))
      have hv2 := hV 2 _ rfl (hall 2 (by decide))
      have hv4 := hV 4 _ rfl (hall 4 (by decide))
      have hv5 := hV 5 _ rfl (hall 5 (by decide))
      clear hV hall
      rw [putSel_fr]
      simp only [tells, List.map_cons, List.map_nil, setAll, List.set_cons_succ, List.set_cons_zero, hv0, hv1, hv2, hv3, hv4, hv5, hv6, hv7]
      clear hv0 hv1 hv2 hv3 hv4 hv5 hv6 hv7
      generalize w_ = w900701 at HS ⊢
      refine fr_at (l' := (.agg (Value.int .i64 k :: ((nums .u8 (b.map bv)) ++ ([Value.slice A es.length c]))).toArray :: .pointer (some ⟨g5, 0, none⟩) :: v20 :: undef :: undef :: undef :: .pointer (some ⟨g5, 0, none⟩) :: .int .i64 k :: .bool true :: .pointer (some ⟨g5, 0, none⟩) :: .int .i64 k :: .int .u8 (bv (byt k)) :: v18 :: .pointer (some ⟨g5, 1, none⟩) :: .slice (some ⟨g5, 1, none⟩) 16 16 :: v20 :: U16l2 (U8l2 (undef :: undef :: [])))) rfl ?_
      refine hK15 _ _ ?_
      refine wp_ret ?_
      try simp only [Exit.inBlock, Exit.then]
      refine c_ret (v20) (r_tmp rfl rfl) ?_
      have e1 : ndB k b es = [(byt k)] ++ b := by unfold ndB; rw [if_pos hk]
      rw [e1]
      exact ⟨_, rfl, (HS.front 1 rfl).drop⟩
  · skip
    refine c_enter Try.func37 rfl 42 rfl (.agg (Value.int .i64 k :: ((nums .u8 (b.map bv)) ++ ([Value.slice A es.length c]))).toArray :: U32l2 (U8l2 (undef :: []))) rfl ?_
    refine wp_seq_k (fun K1 hK2 => ?_)
    refine c_region (fun ops4 hops3 => ?_)
    clear hops3
    refine St.wBox HS (cs := (Value.int .i64 k :: ((nums .u8 (b.map bv)) ++ ([Value.slice A es.length c])))) (.agg (Value.int .i64 k :: ((nums .u8 (b.map bv)) ++ ([Value.slice A es.length c]))).toArray) rfl rfl ?_
    clear HS
    intro g5 w6 hg7 HS
    refine p_run (l' := _) _ (x_assign (.slice none 0 0) rfl rfl) rfl ?_
    refine wpList_nil ?_
    refine hK2 _ _ ?_
    refine wp_seq_k (fun K8 hK9 => ?_)
    refine wp_seq_k (fun K10 hK11 => ?_)
    refine c_region (fun ops13 hops12 => ?_)
    clear hops12
    refine p_run (l' := _) _ (x_field (j := 0) _ _ rfl rfl Try.underlying52 rfl (by rfl) rfl) rfl ?_
    refine p_run (l' := _) _ (x_load (.int .i64 k) rfl rfl (bkCell (HS.get (.head _)) 0 _ rfl) (by rfl)) rfl ?_
    refine p_run (l' := _) _ (x_cmp (k := .i64) (m := k) (n := 1) .eql false rfl rfl rfl (cmp_not hk) rfl) rfl ?_
    refine wpList_nil ?_
    refine hK11 _ _ ?_
    refine c_false rfl ?_
    refine wp_skip ?_
    refine hK9 _ _ ?_
    refine wp_seq_k (fun K14 hK15 => ?_)
    refine c_region (fun ops17 hops16 => ?_)
    clear hops16
    refine p_run (l' := _) _ (x_field (j := 0) _ _ rfl rfl Try.underlying52 rfl (by rfl) rfl) rfl ?_
    refine p_run (l' := _) _ (x_load (.int .i64 k) rfl rfl (bkCell (HS.get (.head _)) 0 _ rfl) (by rfl)) rfl ?_
    refine p_run (l' := _) _ (x_conv (k := .i64) (m := k) .u8 ((bv (byt k))) rfl (by rw [Try.underlying3]; rfl) Try.underlying5 rfl (conv_byt _)) rfl ?_
    refine p_run (l' := _) _ (x_field (j := 17) _ _ rfl rfl Try.underlying52 rfl (by rfl) rfl) rfl ?_
    refine p_run (l' := _) _ (x_load (.slice A es.length c) rfl rfl (bkCell (HS.get (.head _)) 17 _ (by simp [List.getElem?_append, List.length_map, hb, nums_length])) (by rfl)) rfl ?_
    refine p_run (l' := _) _ (x_len rfl rfl Try.underlying50) rfl ?_
    refine p_run (l' := (.agg (Value.int .i64 k :: ((nums .u8 (b.map bv)) ++ ([Value.slice A es.length c]))).toArray :: .pointer (some ⟨g5, 0, none⟩) :: .slice none 0 0 :: undef :: undef :: undef :: .pointer (some ⟨g5, 0, none⟩) :: .int .i64 k :: .bool false :: U4l2 (undef :: undef :: undef :: .pointer (some ⟨g5, 0, none⟩) :: .int .i64 k :: .int .u8 (bv (byt k)) :: .pointer (some ⟨g5, 17, none⟩) :: .slice A es.length c :: .int .i64 (es.length : Int) :: .int .u8 (bv (byt (es.length : Int))) :: U16l2 (undef :: undef :: undef :: [])))) _ (x_conv (k := .i64) (m := (es.length : Int)) .u8 ((bv (byt (es.length : Int)))) rfl (by rw [Try.underlying3]; rfl) Try.underlying5 rfl (conv_byt _)) rfl ?_
    refine St.wLitB HS [(byt k), (byt (es.length : Int))] rfl Try.underlying65 (by kernel_rfl) (by decide) (by kernel_rfl) ?_
    clear HS
    intro v18 w19 HS
    refine p_run (l' := _) _ (x_assign (v18) rfl rfl) rfl ?_
    refine wpList_nil ?_
    refine hK15 _ _ ?_
    refine wp_seq_k (fun K20 hK21 => ?_)
    refine wp_seq_k (fun K22 hK23 => ?_)
    refine c_region (fun ops25 hops24 => ?_)
    clear hops24
    refine p_run (l' := _) _ (x_field (j := 17) _ _ rfl rfl Try.underlying52 rfl (by rfl) rfl) rfl ?_
    refine p_run (l' := _) _ (x_load (.slice A es.length c) rfl rfl (bkCell (HS.get (.tail _ (.head _))) 17 _ (by simp [List.getElem?_append, List.length_map, hb, nums_length])) (by rfl)) rfl ?_
    refine p_run (l' := _) _ (x_len rfl rfl Try.underlying50) rfl ?_
    refine p_run (l' := _) _ (x_move (.int .i64 0) rfl rfl) rfl ?_
    refine wpList_nil ?_
    refine fr_at (l' := (.agg (Value.int .i64 k :: ((nums .u8 (b.map bv)) ++ ([Value.slice A es.length c]))).toArray :: .pointer (some ⟨g5, 0, none⟩) :: .slice none 0 0 :: v18 :: undef :: undef :: .pointer (some ⟨g5, 0, none⟩) :: .int .i64 k :: .bool false :: U4l2 (undef :: undef :: undef :: .pointer (some ⟨g5, 0, none⟩) :: .int .i64 k :: .int .u8 (bv (byt k)) :: .pointer (some ⟨g5, 17, none⟩) :: .slice A es.length c :: .int .i64 (es.length : Int) :: .int .u8 (bv (byt (es.length : Int))) :: v18 :: .pointer (some ⟨g5, 17, none⟩) :: .slice A es.length c :: .int .i64 (es.length : Int) :: .int .i64 0 :: U8l2 (U4l2 (undef :: undef :: []))))) rfl ?_
    refine hK23 _ _ ?_
    refine wp_block ?_
    refine c_loop (ι := Nat) (fun i_ a_ w_ => match i_ with | j => ∃ (u3 : Value) (u5 : Value) (u28 : Value) (u29 : Value) (u30 : Value) (u31 : Value) (u32 : Value) (u33 : Value) (u34 : Value) (u35 : Value) (u36 : Value) (u37 : Value) (u38 : Value) (u39 : Value) (u40 : Value), a_ = fr (.agg (Value.int .i64 k :: ((nums .u8 (b.map bv)) ++ ([Value.slice A es.length c]))).toArray :: .pointer (some ⟨g5, 0, none⟩) :: .slice none 0 0 :: u3 :: undef :: u5 :: .pointer (some ⟨g5, 0, none⟩) :: .int .i64 k :: .bool false :: U4l2 (undef :: undef :: undef :: .pointer (some ⟨g5, 0, none⟩) :: .int .i64 k :: .int .u8 (bv (byt k)) :: .pointer (some ⟨g5, 17, none⟩) :: .slice A es.length c :: .int .i64 (es.length : Int) :: .int .u8 (bv (byt (es.length : Int))) :: v18 :: .pointer (some ⟨g5, 17, none⟩) :: .slice A es.length c :: .int .i64 (es.length : Int) :: .int .i64 (j : Int) :: u28 :: u29 :: u30 :: u31 :: u32 :: u33 :: u34 :: u35 :: u36 :: u37 :: u38 :: u39 :: u40 :: undef :: [])) ∧ St w (fun _ => False) w_ ([row kByte rfl 5 u3 ([byt k, byt (es.length : Int)] ++ esB (es.take j)), blk g5 (Value.int .i64 k :: ((nums .u8 (b.map bv)) ++ ([Value.slice A es.length c]))) 52]) ∧ (j ≤ es.length)) (fun i_ => match i_ with | j => es.length - j) 0 ?_ ?_
    · exact ⟨_, _, _, _, _, _, _, _, _, _, _, _, _, _, _, rfl, ((HS.front 1 rfl).front 1 rfl), (by omega)⟩
    · clear HS
      rintro j a_ w28 ⟨u3, u5, u28, u29, u30, u31, u32, u33, u34, u35, u36, u37, u38, u39, u40, rfl, HS, hI⟩ J26 hJ27
      refine wp_seq_k (fun K29 hK30 => ?_)
      refine c_region (fun ops32 hops31 => ?_)
      clear hops31
      refine p_run (l' := _) _ (x_cmp (k := .i64) (m := (j : Int)) (n := (es.length : Int)) .lss (decide ((j : Int) < (es.length : Int))) rfl rfl rfl rfl rfl) rfl ?_
      refine wpList_nil ?_
      refine hK30 _ _ ?_
      refine wp_seq_k (fun K33 hK34 => ?_)
      refine c_cond (t := decide ((j : Int) < (es.length : Int))) rfl (fun hc35 => ?_) (fun hc35 => ?_)
      · have hlt : j < es.length := by have := of_decide_eq_true hc35; omega
        obtain ⟨ad, x, rfl, hx, hcell⟩ := en_get (Kd.C_below hr HS.belowOf) j hlt
        refine wp_skip ?_
        refine hK34 _ _ ?_
        refine wp_seq_k (fun K36 hK37 => ?_)
        refine wp_block ?_
        refine wp_seq_k (fun K38 hK39 => ?_)
        refine c_region (fun ops41 hops40 => ?_)
        clear hops40
        refine p_run (l' := _) _ (x_index (A := ad) (j := j * 2) (sz := 2) rfl rfl rfl Try.underlying50 (by kernel_rfl) (by omega) rfl) rfl ?_
        refine p_run (l' := _) _ (x_loads [.int .i64 x.1, .int .i64 x.2] 2 rfl rfl hcell (by rfl) (by kernel_rfl) rfl) rfl ?_
        refine St.wAlloc HS (cs := [.int .i64 0, .int .i64 0]) (.agg [.int .i64 0, .int .i64 0].toArray) (by kernel_rfl) rfl ?_
        clear HS
        intro g42 w43 hg44 HS
        refine St.stores (cs' := [.int .i64 x.1, .int .i64 x.2]) HS [.int .i64 x.1, .int .i64 x.2] 2 rfl rfl (by rfl) (by kernel_rfl) rfl (by simp) rfl ?_
        clear HS
        intro w45 HS
        refine wpList_nil ?_
        refine hK39 _ _ ?_
        refine c_region (fun ops47 hops46 => ?_)
        clear hops46
        refine p_run (l' := _) _ (x_move (u3) rfl rfl) rfl ?_
        refine p_run (l' := _) _ (x_field (j := 0) _ _ rfl rfl Try.underlying62 rfl (by rfl) rfl) rfl ?_
        refine p_run (l' := _) _ (x_load (.int .i64 x.1) rfl rfl (bkCell (HS.get (.head _)) 0 _ rfl) (by rfl)) rfl ?_
        refine p_run (l' := _) _ (x_conv (k := .i64) (m := x.1) .u8 ((bv (byt x.1))) rfl (by rw [Try.underlying3]; rfl) Try.underlying5 rfl (conv_byt _)) rfl ?_
        refine p_run (l' := _) _ (x_field (j := 1) _ _ rfl rfl Try.underlying62 rfl (by rfl) rfl) rfl ?_
        refine p_run (l' := _) _ (x_load (.int .i64 x.2) rfl rfl (bkCell (HS.get (.head _)) 1 _ rfl) (by rfl)) rfl ?_
        refine p_run (l' := _) _ (x_conv (k := .i64) (m := x.2) .u8 ((bv (byt x.2))) rfl (by rw [Try.underlying3]; rfl) Try.underlying5 rfl (conv_byt _)) rfl ?_
        refine St.wLit HS (cs := [.int .u8 (bv (byt x.1)), .int .u8 (bv (byt x.2))]) 1 (.int .u8 0) Try.underlying65 (by kernel_rfl) (by decide) (by kernel_rfl) ?_
        clear HS
        intro g48 w49 hg50 HS
        refine fr_to (l' := (.agg (Value.int .i64 k :: ((nums .u8 (b.map bv)) ++ ([Value.slice (some ad) es.length c]))).toArray :: .pointer (some ⟨g5, 0, none⟩) :: .slice none 0 0 :: u3 :: undef :: .pointer (some ⟨g42, 0, none⟩) :: .pointer (some ⟨g5, 0, none⟩) :: .int .i64 k :: .bool false :: U4l2 (undef :: undef :: undef :: .pointer (some ⟨g5, 0, none⟩) :: .int .i64 k :: .int .u8 (bv (byt k)) :: .pointer (some ⟨g5, 17, none⟩) :: .slice (some ad) es.length c :: .int .i64 (es.length : Int) :: .int .u8 (bv (byt (es.length : Int))) :: v18 :: .pointer (some ⟨g5, 17, none⟩) :: .slice (some ad) es.length c :: .int .i64 (es.length : Int) :: .int .i64 (j : Int) :: .bool (decide ((j : Int) < (es.length : Int))) :: .pointer (some ((ad).add (j * 2))) :: .agg ([.int .i64 x.1, .int .i64 x.2] : List Value).toArray :: u3 :: .pointer (some ⟨g42, 0, none⟩) :: .int .i64 x.1 :: .int .u8 (bv (byt x.1)) :: .pointer (some ⟨g42, 1, none⟩) :: .int .i64 x.2 :: .int .u8 (bv (byt x.2)) :: .slice (some ⟨g48, 0, none⟩) 2 2 :: u39 :: u40 :: undef :: []))) rfl ?_
        replace HS := (HS.front 2 rfl)
        refine St.wAppend HS (.int .u8 0) 1 Try.underlying65 (by kernel_rfl) rfl (by decide) (by decide) [byt x.1, byt x.2] _ _ _ rfl rfl (rd_blkn (xs := [byt x.1, byt x.2]) (HS.get (.tail _ (.head _))) rfl (by omega)) (fun _ _ h => h) (by rw [List.length_append, esB_length, List.length_take]; simp; omega) ?_
        clear HS
        intro v51 w52 HS
        refine p_run (l' := _) _ (x_assign (v51) rfl rfl) rfl ?_
        refine wpList_nil ?_
        refine hK37 _ _ ?_
        refine c_region (fun ops54 hops53 => ?_)
        clear hops53
        refine p_run (l' := _) _ (x_arith (k := .i64) (m := (j : Int)) (n := 1) .add (((j + 1 : Nat) : Int)) rfl rfl rfl (show IntKind.i64.wrap ((j : Int) + 1) = ((j + 1 : Nat) : Int) from ((wr64' (by omega)).trans (by omega))) rfl) rfl ?_
        refine p_run (l' := _) _ (x_move (.int .i64 ((j + 1 : Nat) : Int)) rfl rfl) rfl ?_
        refine wpList_nil ?_
        refine fr_at (l' := (.agg (Value.int .i64 k :: ((nums .u8 (b.map bv)) ++ ([Value.slice (some ad) es.length c]))).toArray :: .pointer (some ⟨g5, 0, none⟩) :: .slice none 0 0 :: v51 :: undef :: .pointer (some ⟨g42, 0, none⟩) :: .pointer (some ⟨g5, 0, none⟩) :: .int .i64 k :: .bool false :: U4l2 (undef :: undef :: undef :: .pointer (some ⟨g5, 0, none⟩) :: .int .i64 k :: .int .u8 (bv (byt k)) :: .pointer (some ⟨g5, 17, none⟩) :: .slice (some ad) es.length c :: .int .i64 (es.length : Int) :: .int .u8 (bv (byt (es.length : Int))) :: v18 :: .pointer (some ⟨g5, 17, none⟩) :: .slice (some ad) es.length c :: .int .i64 (es.length : Int) :: .int .i64 ((j + 1 : Nat) : Int) :: .bool (decide ((j : Int) < (es.length : Int))) :: .pointer (some ((ad).add (j * 2))) :: .agg ([.int .i64 x.1, .int .i64 x.2] : List Value).toArray :: u3 :: .pointer (some ⟨g42, 0, none⟩) :: .int .i64 x.1 :: .int .u8 (bv (byt x.1)) :: .pointer (some ⟨g42, 1, none⟩) :: .int .i64 x.2 :: .int .u8 (bv (byt x.2)) :: .slice (some ⟨g48, 0, none⟩) 2 2 :: v51 :: .int .i64 ((j + 1 : Nat) : Int) :: undef :: []))) rfl ?_
        rw [List.append_assoc, ← es_snoc hx] at HS
        refine hJ27 (j + 1) _ _ ?_ ?_
        · show es.length - (j + 1) < es.length - j; omega
        · exact ⟨_, _, _, _, _, _, _, _, _, _, _, _, _, _, _, rfl, ((((HS.front 1 rfl).drop.front 1 rfl).drop.front 1 rfl).front 1 rfl), (by omega)⟩
      · have hlt : j = es.length := by have := of_decide_eq_false hc35; omega
        subst hlt
        rw [List.take_length] at HS
        refine wp_exit ?_
        refine hK21 _ _ ?_
        refine wp_seq_k (fun K55 hK56 => ?_)
        refine c_region (fun ops58 hops57 => ?_)
        clear hops57
        refine p_run (l' := _) _ (x_move (u3) rfl rfl) rfl ?_
        refine p_run (l' := _) _ (x_assign (u3) rfl rfl) rfl ?_
        refine wpList_nil ?_
        refine hK56 _ _ ?_
        refine wp_ret ?_
        try simp only [Exit.inBlock, Exit.then]
        refine c_ret (u3) (r_tmp rfl rfl) ?_
        have e1 : ndB k b es = ([byt k, byt (es.length : Int)] ++ esB es) := by unfold ndB; rw [if_neg hk]
        rw [e1]
        exact ⟨_, rfl, (HS.front 1 rfl).drop⟩
end Go.Proofs.Ytiokdpnhaemciaa
