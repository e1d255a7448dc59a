/- The document's states: Right, Same. -/
import Derived.Test.YtkiiangookibnaaZRecordTellsRk1
set_option linter.unusedVariables false
set_option linter.unusedSimpArgs false
namespace Go.Proofs.Ytkiiangookibnaa
open Go.RowKit Go.Proofs.YtkiiangookibnaaW.PrintWords Go.Proofs.YtkiiangookibnaaW.PrintLast
abbrev U4n1 (l : List Value) : List Value := undef :: undef :: undef :: undef :: l
abbrev U8n1 (l : List Value) : List Value := U4n1 (U4n1 l)
abbrev U16n1 (l : List Value) : List Value := U8n1 (U8n1 l)
abbrev U32n1 (l : List Value) : List Value := U16n1 (U16n1 l)
abbrev U64n1 (l : List Value) : List Value := U32n1 (U32n1 l)
set_option maxRecDepth 10000 in
theorem r3right_any (w : World) (a b : Int) : Calls Try.prog 42 #[.agg ([.int .u32 a, .int .u32 b] : List Value).toArray] w fun e w' => e = .returned (.bool (lbOk a b)) ∧ Below w.heap.size w w' := by
  have HS := St.empty w
  · skip
    refine c_enter Try.func42 rfl 11 rfl [.agg ([.int .u32 a, .int .u32 b] : List Value).toArray, undef, undef, undef, undef, undef, undef, undef, undef, undef, undef] rfl ?_
    refine wp_seq_k (fun K1 hK2 => ?_)
    refine c_region (fun ops4 hops3 => ?_)
    clear hops3
    refine St.wBox HS (cs := [.int .u32 a, .int .u32 b]) (.agg ([.int .u32 a, .int .u32 b] : List Value).toArray) rfl rfl ?_
    clear HS
    intro g5 w6 hg7 HS
    refine p_run _ (x_assign (.bool false) rfl rfl) rfl ?_
    refine wpList_nil ?_
    refine hK2 _ _ ?_
    refine wp_seq_k (fun K8 hK9 => ?_)
    refine c_region (fun ops11 hops10 => ?_)
    refine p_run _ (x_field (j := 0) _ _ rfl rfl Try.underlying28 rfl (by rfl) rfl) rfl ?_
    refine p_run _ (x_load (.int .u32 a) rfl rfl (bkCell (HS.get (.head _)) 0 _ rfl) (by rfl)) rfl ?_
    refine p_run _ (x_cmp (k := .u32) (m := a) (n := 1048576) .leq (decide (a ≤ 1048576)) rfl rfl rfl rfl rfl) rfl ?_
    refine p_run _ (x_move (.bool (decide (a ≤ 1048576))) rfl rfl) rfl ?_
    obtain ⟨bz12, hbz12⟩ : ∃ b_, b_ = (decide (a ≤ 1048576)) := ⟨_, rfl⟩
    rw [← hbz12]
    refine p_tail 4 (fun a_ w_ => ∃ (uz7 uz8 uz9 : Value) (bz13 : Bool), a_ = fr [.agg ([.int .u32 a, .int .u32 b] : List Value).toArray, .pointer (some ⟨g5, 0, none⟩), .bool false, .pointer (some ⟨g5, 0, none⟩), .int .u32 a, .bool bz12, .bool bz12, uz7, uz8, uz9, .bool bz13] ∧ bz13 = (bz12 && (decide (b ≤ 1048576))) ∧ St w (fun _ => False) w_ ([blk g5 [.int .u32 a, .int .u32 b] 28])) (fun T14 => ?_) ?_
    · cases bz12
      · skip
        refine p_off (by rw [hops10]; rfl) rfl ?_
        refine p_off (by rw [hops10]; rfl) rfl ?_
        refine p_off (by rw [hops10]; rfl) rfl ?_
        refine p_run _ (x_pick false (undef) (.bool false) (.bool false) rfl rfl rfl rfl rfl) rfl ?_
        exact T14 _ _ ⟨undef, undef, undef, false, rfl, rfl, HS⟩
      · skip
        refine p_on rfl (by rw [hops10]; rfl) ?_
        refine p_run _ (x_field (j := 1) _ _ rfl rfl Try.underlying28 rfl (by rfl) rfl) rfl ?_
        refine p_on rfl (by rw [hops10]; rfl) ?_
        refine p_run _ (x_load (.int .u32 b) rfl rfl (bkCell (HS.get (.head _)) 1 _ rfl) (by rfl)) rfl ?_
        refine p_on rfl (by rw [hops10]; rfl) ?_
        refine p_run _ (x_cmp (k := .u32) (m := b) (n := 1048576) .leq (decide (b ≤ 1048576)) rfl rfl rfl rfl rfl) rfl ?_
        refine p_run _ (x_pick true (.bool (decide (b ≤ 1048576))) (.bool false) (.bool (decide (b ≤ 1048576))) rfl rfl rfl rfl rfl) rfl ?_
        exact T14 _ _ ⟨(.pointer (some ⟨g5, 1, none⟩)), (.int .u32 b), (.bool (decide (b ≤ 1048576))), (decide (b ≤ 1048576)), rfl, rfl, HS⟩
    clear HS
    rintro _ w_ ⟨uz7, uz8, uz9, bz13, rfl, hbz13, HS⟩
    skip
    refine p_run _ (x_assign (.bool bz13) rfl rfl) rfl ?_
    clear hops10
    refine wpList_nil ?_
    refine hK9 _ _ ?_
    refine wp_ret ?_
    try simp only [Exit.inBlock, Exit.then]
    refine c_ret (.bool bz13) (r_tmp rfl rfl) ?_
    have e1 : lbOk a b = bz13 := by unfold lbOk; rw [hbz13, hbz12]
    rw [e1]
    exact ⟨rfl, HS.belowOf⟩
set_option maxRecDepth 10000 in
theorem r14page_any (w : World) (x : Int) : Calls Try.prog 41 #[.int .i64 x] w fun e w' => e = .returned (.bool (rtOk x)) ∧ Below w.heap.size w w' := by
  have HS := St.empty w
  · skip
    refine c_enter Try.func41 rfl 9 rfl [.int .i64 x, undef, undef, undef, undef, undef, undef, undef, undef] rfl ?_
    refine wp_seq_k (fun K1 hK2 => ?_)
    refine c_region (fun ops4 hops3 => ?_)
    clear hops3
    refine p_run _ (x_assign (.bool false) rfl rfl) rfl ?_
    refine wpList_nil ?_
    refine hK2 _ _ ?_
    refine wp_seq_k (fun K5 hK6 => ?_)
    refine c_region (fun ops8 hops7 => ?_)
    refine p_run _ (x_move (.int .i64 x) rfl rfl) rfl ?_
    refine p_run _ (x_cmp (k := .i64) (m := x) (n := -1) .geq (decide (x ≥ (-1))) rfl rfl rfl rfl rfl) rfl ?_
    refine p_run _ (x_move (.bool (decide (x ≥ (-1)))) rfl rfl) rfl ?_
    obtain ⟨bz9, hbz9⟩ : ∃ b_, b_ = (decide (x ≥ (-1))) := ⟨_, rfl⟩
    rw [← hbz9]
    refine p_tail 3 (fun a_ w_ => ∃ (uz6 uz7 : Value) (bz10 : Bool), a_ = fr [.int .i64 x, undef, .bool false, .int .i64 x, .bool bz9, .bool bz9, uz6, uz7, .bool bz10] ∧ bz10 = (bz9 && (decide (x ≤ 239))) ∧ St w (fun _ => False) w_ ([])) (fun T11 => ?_) ?_
    · cases bz9
      · skip
        refine p_off (by rw [hops7]; rfl) rfl ?_
        refine p_off (by rw [hops7]; rfl) rfl ?_
        refine p_run _ (x_pick false (undef) (.bool false) (.bool false) rfl rfl rfl rfl rfl) rfl ?_
        exact T11 _ _ ⟨undef, undef, false, rfl, rfl, HS⟩
      · skip
        refine p_on rfl (by rw [hops7]; rfl) ?_
        refine p_run _ (x_move (.int .i64 x) rfl rfl) rfl ?_
        refine p_on rfl (by rw [hops7]; rfl) ?_
        refine p_run _ (x_cmp (k := .i64) (m := x) (n := 239) .leq (decide (x ≤ 239)) rfl rfl rfl rfl rfl) rfl ?_
        refine p_run _ (x_pick true (.bool (decide (x ≤ 239))) (.bool false) (.bool (decide (x ≤ 239))) rfl rfl rfl rfl rfl) rfl ?_
        exact T11 _ _ ⟨(.int .i64 x), (.bool (decide (x ≤ 239))), (decide (x ≤ 239)), rfl, rfl, HS⟩
    clear HS
    rintro _ w_ ⟨uz6, uz7, bz10, rfl, hbz10, HS⟩
    skip
    refine p_run _ (x_assign (.bool bz10) rfl rfl) rfl ?_
    clear hops7
    refine wpList_nil ?_
    refine hK6 _ _ ?_
    refine wp_ret ?_
    try simp only [Exit.inBlock, Exit.then]
    refine c_ret (.bool bz10) (r_tmp rfl rfl) ?_
    have e1 : rtOk x = bz10 := by unfold rtOk; rw [hbz10, hbz9, show decide (x ≤ 239) = decide (x < 240) from decide_eq_decide.2 (by omega)]
    rw [e1]
    exact ⟨rfl, HS.belowOf⟩
set_option maxRecDepth 10000 in
theorem r14empty_any (w : World) : Calls Try.prog 44 #[] w fun e w' => e = .returned (.agg #[.int .u64 0, .int .u32 0, .int .u32 0, .int .u32 0, .int .u32 0, .int .i64 0, .int .i64 0, .int .i64 (-1)]) ∧ Below w.heap.size w w' := by
  have HS := St.empty w
  · skip
    refine c_enter Try.func44 rfl 2 rfl [undef, undef] rfl ?_
    refine wp_seq_k (fun K1 hK2 => ?_)
    refine c_region (fun ops4 hops3 => ?_)
    clear hops3
    refine St.wAlloc HS (cs := [.int .u64 0, .int .u32 0, .int .u32 0, .int .u32 0, .int .u32 0, .int .i64 0, .int .i64 0, .int .i64 0]) (.agg [.int .u64 0, .int .u32 0, .int .u32 0, .int .u32 0, .int .u32 0, .int .i64 0, .int .i64 0, .int .i64 0].toArray) (by kernel_rfl) rfl ?_
    clear HS
    intro g5 w6 hg7 HS
    refine wpList_nil ?_
    refine hK2 _ _ ?_
    refine wp_seq_k (fun K8 hK9 => ?_)
    refine c_region (fun ops11 hops10 => ?_)
    clear hops10
    refine p_run _ (x_build [.int .u64 0, .int .u32 0, .int .u32 0, .int .u32 0, .int .u32 0, .int .i64 0, .int .i64 0, .int .i64 (-1)] rfl (by kernel_rfl)) rfl ?_
    refine St.stores (cs' := [.int .u64 0, .int .u32 0, .int .u32 0, .int .u32 0, .int .u32 0, .int .i64 0, .int .i64 0, .int .i64 (-1)]) HS [.int .u64 0, .int .u32 0, .int .u32 0, .int .u32 0, .int .u32 0, .int .i64 0, .int .i64 0, .int .i64 (-1)] 8 rfl rfl (by rfl) (by kernel_rfl) rfl (by simp) rfl ?_
    clear HS
    intro w12 HS
    refine wpList_nil ?_
    refine hK9 _ _ ?_
    refine wp_ret ?_
    try simp only [Exit.inBlock, Exit.then]
    refine c_ret (.agg ([.int .u64 0, .int .u32 0, .int .u32 0, .int .u32 0, .int .u32 0, .int .i64 0, .int .i64 0, .int .i64 (-1)] : List Value).toArray) (r_c rfl rfl (run_loadVar_aggn (by rfl) [.int .u64 0, .int .u32 0, .int .u32 0, .int .u32 0, .int .u32 0, .int .i64 0, .int .i64 0, .int .i64 (-1)] 8 (by kernel_rfl) rfl (bkCells (HS.get (.head _)) 0 _ (whole _)))) ?_
    exact ⟨rfl, HS.belowOf⟩
set_option maxRecDepth 10000 in
set_option maxHeartbeats 2000000 in
theorem r3less_any (w : World) (a b c d : Int) : Calls Try.prog 43 #[.agg ([.int .u32 a, .int .u32 b] : List Value).toArray, .agg ([.int .u32 c, .int .u32 d] : List Value).toArray] w fun e w' => e = .returned (.bool (ltL a b c d)) ∧ Below w.heap.size w w' := by
  have HS := St.empty w
  · skip
    refine c_enter Try.func43 rfl 24 rfl (.agg ([.int .u32 a, .int .u32 b] : List Value).toArray :: .agg ([.int .u32 c, .int .u32 d] : List Value).toArray :: U16n1 (U4n1 (undef :: undef :: []))) rfl ?_
    refine wp_seq_k (fun K1 hK2 => ?_)
    refine c_region (fun ops4 hops3 => ?_)
    clear hops3
    refine St.wBox HS (cs := [.int .u32 a, .int .u32 b]) (.agg ([.int .u32 a, .int .u32 b] : List Value).toArray) rfl rfl ?_
    clear HS
    intro g5 w6 hg7 HS
    refine St.wBox HS (cs := [.int .u32 c, .int .u32 d]) (.agg ([.int .u32 c, .int .u32 d] : List Value).toArray) rfl rfl ?_
    clear HS
    intro g8 w9 hg10 HS
    refine p_run _ (x_assign (.bool false) rfl rfl) rfl ?_
    refine wpList_nil ?_
    refine hK2 _ _ ?_
    refine wp_seq_k (fun K11 hK12 => ?_)
    refine c_region (fun ops14 hops13 => ?_)
    refine p_run _ (x_field (j := 0) _ _ rfl rfl Try.underlying28 rfl (by rfl) rfl) rfl ?_
    refine p_run _ (x_load (.int .u32 a) rfl rfl (bkCell (HS.get (.tail _ (.head _))) 0 _ rfl) (by rfl)) rfl ?_
    refine p_run _ (x_field (j := 0) _ _ rfl rfl Try.underlying28 rfl (by rfl) rfl) rfl ?_
    refine p_run (l' := (.agg ([.int .u32 a, .int .u32 b] : List Value).toArray :: .agg ([.int .u32 c, .int .u32 d] : List Value).toArray :: .pointer (some ⟨g5, 0, none⟩) :: .pointer (some ⟨g8, 0, none⟩) :: .bool false :: .pointer (some ⟨g5, 0, none⟩) :: .int .u32 a :: .pointer (some ⟨g8, 0, none⟩) :: .int .u32 c :: U8n1 (U4n1 (undef :: undef :: undef :: [])))) _ (x_load (.int .u32 c) rfl rfl (bkCell (HS.get (.head _)) 0 _ rfl) (by rfl)) rfl ?_
    refine p_run _ (x_cmp (k := .u32) (m := a) (n := c) .lss (decide (a < c)) rfl rfl rfl rfl rfl) rfl ?_
    refine p_run _ (x_move (.bool (decide (a < c))) rfl rfl) rfl ?_
    obtain ⟨bz15, hbz15⟩ : ∃ b_, b_ = (decide (a < c)) := ⟨_, rfl⟩
    rw [← hbz15]
    refine p_tail 13 (fun a_ w_ => ∃ (uz16 uz17 uz18 uz19 uz20 uz21 uz22 : Value) (qz17 : V8) (bz16 : Bool), a_ = fr (.agg ([.int .u32 a, .int .u32 b] : List Value).toArray :: .agg ([.int .u32 c, .int .u32 d] : List Value).toArray :: .pointer (some ⟨g5, 0, none⟩) :: .pointer (some ⟨g8, 0, none⟩) :: .bool false :: .pointer (some ⟨g5, 0, none⟩) :: .int .u32 a :: .pointer (some ⟨g8, 0, none⟩) :: V8.l qz17 (uz16 :: uz17 :: uz18 :: uz19 :: uz20 :: uz21 :: uz22 :: .bool bz16 :: [])) ∧ bz16 = (bz15 || (((a == c)) && (decide (b < d)))) ∧ St w (fun _ => False) w_ ([blk g8 [.int .u32 c, .int .u32 d] 28, blk g5 [.int .u32 a, .int .u32 b] 28])) (fun T18 => ?_) ?_
    · cases bz15
      · skip
        refine p_on rfl (by rw [hops13]; rfl) ?_
        refine p_run _ (x_field (j := 0) _ _ rfl rfl Try.underlying28 rfl (by rfl) rfl) rfl ?_
        refine p_on rfl (by rw [hops13]; rfl) ?_
        refine p_run _ (x_load (.int .u32 a) rfl rfl (bkCell (HS.get (.tail _ (.head _))) 0 _ rfl) (by rfl)) rfl ?_
        refine p_on rfl (by rw [hops13]; rfl) ?_
        refine p_run _ (x_field (j := 0) _ _ rfl rfl Try.underlying28 rfl (by rfl) rfl) rfl ?_
        refine p_on rfl (by rw [hops13]; rfl) ?_
        refine p_run _ (x_load (.int .u32 c) rfl rfl (bkCell (HS.get (.head _)) 0 _ rfl) (by rfl)) rfl ?_
        refine p_on rfl (by rw [hops13]; rfl) ?_
        refine p_run _ (x_cmp (k := .u32) (m := a) (n := c) .eql (a == c) rfl rfl rfl rfl rfl) rfl ?_
        refine p_on rfl (by rw [hops13]; rfl) ?_
        refine p_run _ (x_move (.bool (a == c)) rfl rfl) rfl ?_
        obtain ⟨bz19, hbz19⟩ : ∃ b_, b_ = ((a == c)) := ⟨_, rfl⟩
        rw [← hbz19]
        refine p_tail 6 (fun a_ w_ => ∃ (uz17 uz18 uz19 uz20 uz21 : Value) (bz20 : Bool), a_ = fr (.agg ([.int .u32 a, .int .u32 b] : List Value).toArray :: .agg ([.int .u32 c, .int .u32 d] : List Value).toArray :: .pointer (some ⟨g5, 0, none⟩) :: .pointer (some ⟨g8, 0, none⟩) :: .bool false :: .pointer (some ⟨g5, 0, none⟩) :: .int .u32 a :: .pointer (some ⟨g8, 0, none⟩) :: .int .u32 c :: .bool false :: .bool false :: .pointer (some ⟨g5, 0, none⟩) :: .int .u32 a :: .pointer (some ⟨g8, 0, none⟩) :: .int .u32 c :: .bool bz19 :: .bool bz19 :: uz17 :: uz18 :: uz19 :: uz20 :: uz21 :: .bool bz20 :: undef :: []) ∧ bz20 = (bz19 && (decide (b < d))) ∧ St w (fun _ => False) w_ ([blk g8 [.int .u32 c, .int .u32 d] 28, blk g5 [.int .u32 a, .int .u32 b] 28])) (fun T21 => ?_) ?_
        · cases bz19
          · skip
            refine p_off (by rw [hops13]; rfl) rfl ?_
            refine p_off (by rw [hops13]; rfl) rfl ?_
            refine p_off (by rw [hops13]; rfl) rfl ?_
            refine p_off (by rw [hops13]; rfl) rfl ?_
            refine p_off (by rw [hops13]; rfl) rfl ?_
            refine p_on rfl (by rw [hops13]; rfl) ?_
            refine p_run _ (x_pick false (undef) (.bool false) (.bool false) rfl rfl rfl rfl rfl) rfl ?_
            exact T21 _ _ ⟨undef, undef, undef, undef, undef, false, rfl, rfl, HS⟩
          · skip
            refine p_on rfl (by rw [hops13]; rfl) ?_
            refine p_run _ (x_field (j := 1) _ _ rfl rfl Try.underlying28 rfl (by rfl) rfl) rfl ?_
            refine p_on rfl (by rw [hops13]; rfl) ?_
            refine p_run _ (x_load (.int .u32 b) rfl rfl (bkCell (HS.get (.tail _ (.head _))) 1 _ rfl) (by rfl)) rfl ?_
            refine p_on rfl (by rw [hops13]; rfl) ?_
            refine p_run _ (x_field (j := 1) _ _ rfl rfl Try.underlying28 rfl (by rfl) rfl) rfl ?_
            refine p_on rfl (by rw [hops13]; rfl) ?_
            refine p_run _ (x_load (.int .u32 d) rfl rfl (bkCell (HS.get (.head _)) 1 _ rfl) (by rfl)) rfl ?_
            refine p_on rfl (by rw [hops13]; rfl) ?_
            refine p_run _ (x_cmp (k := .u32) (m := b) (n := d) .lss (decide (b < d)) rfl rfl rfl rfl rfl) rfl ?_
            refine p_on rfl (by rw [hops13]; rfl) ?_
            refine p_run _ (x_pick true (.bool (decide (b < d))) (.bool false) (.bool (decide (b < d))) rfl rfl rfl rfl rfl) rfl ?_
            exact T21 _ _ ⟨(.pointer (some ⟨g5, 1, none⟩)), (.int .u32 b), (.pointer (some ⟨g8, 1, none⟩)), (.int .u32 d), (.bool (decide (b < d))), (decide (b < d)), rfl, rfl, HS⟩
        clear HS
        rintro _ w_ ⟨uz17, uz18, uz19, uz20, uz21, bz20, rfl, hbz20, HS⟩
        skip
        refine p_run _ (x_pick false (.bool true) (.bool bz20) (.bool bz20) rfl rfl rfl rfl rfl) rfl ?_
        exact T18 _ _ ⟨(.bool bz19), uz17, uz18, uz19, uz20, uz21, (.bool bz20), ⟨.int .u32 c, .bool false, .bool false, .pointer (some ⟨g5, 0, none⟩), .int .u32 a, .pointer (some ⟨g8, 0, none⟩), .int .u32 c, .bool bz19⟩, bz20, rfl, (by rw [hbz20, hbz19] <;> rfl), HS⟩
      · skip
        refine p_off (by rw [hops13]; rfl) rfl ?_
        refine p_off (by rw [hops13]; rfl) rfl ?_
        refine p_off (by rw [hops13]; rfl) rfl ?_
        refine p_off (by rw [hops13]; rfl) rfl ?_
        refine p_off (by rw [hops13]; rfl) rfl ?_
        refine p_off (by rw [hops13]; rfl) rfl ?_
        refine p_off (l' := (.agg ([.int .u32 a, .int .u32 b] : List Value).toArray :: .agg ([.int .u32 c, .int .u32 d] : List Value).toArray :: .pointer (some ⟨g5, 0, none⟩) :: .pointer (some ⟨g8, 0, none⟩) :: .bool false :: .pointer (some ⟨g5, 0, none⟩) :: .int .u32 a :: .pointer (some ⟨g8, 0, none⟩) :: .int .u32 c :: .bool true :: .bool true :: U8n1 (U4n1 (undef :: [])))) (by rw [hops13]; rfl) rfl ?_
        refine p_off (by rw [hops13]; rfl) rfl ?_
        refine p_off (by rw [hops13]; rfl) rfl ?_
        refine p_off (by rw [hops13]; rfl) rfl ?_
        refine p_off (by rw [hops13]; rfl) rfl ?_
        refine p_off (by rw [hops13]; rfl) rfl ?_
        refine p_run _ (x_pick true (.bool true) (undef) (.bool true) rfl rfl rfl rfl rfl) rfl ?_
        exact T18 _ _ ⟨undef, undef, undef, undef, undef, undef, undef, ⟨.int .u32 c, .bool true, .bool true, undef, undef, undef, undef, undef⟩, true, rfl, rfl, HS⟩
    clear HS
    rintro _ w_ ⟨uz16, uz17, uz18, uz19, uz20, uz21, uz22, qz17, bz16, rfl, hbz16, HS⟩
    skip
    refine p_run _ (x_assign (.bool bz16) rfl rfl) rfl ?_
    clear hops13
    refine wpList_nil ?_
    refine hK12 _ _ ?_
    refine wp_ret ?_
    try simp only [Exit.inBlock, Exit.then]
    refine c_ret (.bool bz16) (r_tmp rfl rfl) ?_
    have e1 : ltL a b c d = bz16 := by
      unfold ltL
      rw [hbz16, hbz15]
      by_cases h1 : a < c <;> by_cases h2 : a = c <;> by_cases h3 : b < d <;> simp [h1, h2, h3]
    rw [e1]
    exact ⟨rfl, HS.belowOf⟩
theorem sn_lab {w : World} {ad : Addr} {n j : Nat} {ps : List Sn} {x : Sn} (h : kSn.C w (some ad) n ps) (hx : ps[j]? = some x) : ∀ i u, ([.int .u32 x.1, .int .u32 x.2.1] : List Value)[i]? = some u → w.cell? (((ad.add (j * 4)).add 0).add i) = some u := by
  intro i u hu
  have h2 := sn_cells h hx i u (by
    match i, hu with
    | 0, hu => exact hu
    | 1, hu => exact hu
    | n + 2, hu => simp at hu)
  rw [add_add] at h2
  rw [add_add, add_add, Nat.zero_add]
  exact h2
theorem sn_stop2 {a b : Int} {x : Sn} {l : List Sn} (ha : 0 ≤ a) (hb : 0 ≤ b) (h : ((!(lbOk x.1 x.2.1) || decide (x.1 = 0 ∧ x.2.1 = 0)) || !(rtOk x.2.2.1)) = true) : snOk a b (x :: l) = false := by
  show (lbOk x.1 x.2.1 && ltL a b x.1 x.2.1 && rtOk x.2.2.1 && snOk x.1 x.2.1 l) = false
  rw [Bool.or_eq_true, Bool.or_eq_true, Bool.not_eq_true', Bool.not_eq_true', decide_eq_true_eq] at h
  rcases h with (h | h) | h
  · rw [h]; rfl
  · have : ltL a b x.1 x.2.1 = false := by unfold ltL; exact decide_eq_false (by omega)
    rw [this, Bool.and_false]; rfl
  · rw [h, Bool.and_false]; rfl
theorem sn_ok2 {x : Sn} (h : ((!(lbOk x.1 x.2.1) || decide (x.1 = 0 ∧ x.2.1 = 0)) || !(rtOk x.2.2.1)) = false) : lbOk x.1 x.2.1 = true ∧ ¬ (x.1 = 0 ∧ x.2.1 = 0) ∧ rtOk x.2.2.1 = true := by
  rw [Bool.or_eq_false_iff, Bool.or_eq_false_iff] at h
  exact ⟨by simpa using h.1.1, of_decide_eq_false h.1.2, by simpa using h.2⟩
theorem sn_step {a b : Int} {x : Sn} {l : List Sn} (h1 : lbOk x.1 x.2.1 = true) (h2 : rtOk x.2.2.1 = true) (h3 : ltL a b x.1 x.2.1 = true) : snOk a b (x :: l) = snOk x.1 x.2.1 l := by
  show (lbOk x.1 x.2.1 && ltL a b x.1 x.2.1 && rtOk x.2.2.1 && snOk x.1 x.2.1 l) = _
  rw [h1, h2, h3]; rfl
theorem sn_halt {a b : Int} {x : Sn} {l : List Sn} (h3 : ltL a b x.1 x.2.1 = false) : snOk a b (x :: l) = false := by
  show (lbOk x.1 x.2.1 && ltL a b x.1 x.2.1 && rtOk x.2.2.1 && snOk x.1 x.2.1 l) = _
  rw [h3, Bool.and_false]; rfl
def prevL (sn : List Sn) (j : Nat) (la lq : Int) : Prop := (j = 0 ∧ la = 0 ∧ lq = 0) ∨ (0 < j ∧ ∃ x0, sn[j - 1]? = some x0 ∧ la = x0.1 ∧ lq = x0.2.1)
theorem rc_long {r : Rc} (h : snOk 0 0 r.sn = false) : rcOk r = false := by
  refine rc_no (fun hk => ?_)
  have := (rc_of hk).2.2.2.2.2.1
  rw [h] at this; cases this
theorem rc_fin {r : Rc} (h1 : nmRc r = true) (h2 : rtOk r.l = true) (h3 : r.sn.length ≤ 8) (h4 : snOk 0 0 r.sn = true) : rcOk r = ((decide (r.xe = 0 ∧ r.xq = 0) || snHas r.xe r.xq r.sn) && sgOk r.s r.te r.tq r.be r.bq r.nx r.tt r.rt) := by
  unfold rcOk snsOk
  rw [h1, h2, decide_eq_true h3, h4]
  simp only [Bool.true_and]
theorem has_snoc {a b : Int} {x : Sn} {l : List Sn} : snHas a b (x :: l) = (decide (x.1 = a ∧ x.2.1 = b) || snHas a b l) := rfl
set_option maxRecDepth 10000 in
set_option maxHeartbeats 8000000 in
theorem r14right_any (w : World) (r : Rc) (A : Option Addr) (c : Nat) (hA : kSn.C w A r.sn.length r.sn) (hl : r.sn.length ≤ 1000) (hw : r.wf) : Calls Try.prog 18 #[rcV r A c] w fun e w' => e = .returned (.bool (rcOk r)) ∧ Below w.heap.size w w' := by
  have HS := St.empty w
  · skip
    refine c_enter Try.func18 rfl 140 rfl (rcV r A c :: U64n1 (U64n1 (U8n1 (undef :: undef :: undef :: [])))) rfl ?_
    refine wp_seq_k (fun K1 hK2 => ?_)
    refine c_region (fun ops4 hops3 => ?_)
    clear hops3
    refine St.wBox HS (cs := (.int .u32 r.e :: .bool r.p :: .int .u32 r.b :: .int .u32 r.q :: .int .i64 r.l :: .int .u32 r.xe :: .int .u32 r.xq :: .slice A r.sn.length c :: .int .u64 r.s :: .int .u32 r.te :: .int .u32 r.tq :: .int .u32 r.be :: .int .u32 r.bq :: .int .i64 r.nx :: .int .i64 r.tt :: .int .i64 r.rt :: [])) (rcV r A c) rfl rfl ?_
    clear HS
    intro g5 w6 hg7 HS
    refine p_run _ (x_assign (.bool false) rfl rfl) rfl ?_
    refine wpList_nil ?_
    refine hK2 _ _ ?_
    refine wp_seq_k (fun K8 hK9 => ?_)
    refine wp_seq_k (fun K10 hK11 => ?_)
    refine c_region (fun ops13 hops12 => ?_)
    refine p_run _ (x_field (j := 0) _ _ rfl rfl Try.underlying34 rfl (by rfl) rfl) rfl ?_
    refine p_run _ (x_load (.int .u32 r.e) rfl rfl (bkCell (HS.get (.head _)) 0 _ rfl) (by rfl)) rfl ?_
    refine p_run _ (x_cmp (k := .u32) (m := r.e) (n := 1) .lss (decide (r.e < 1)) rfl rfl rfl rfl rfl) rfl ?_
    refine p_run _ (x_move (.bool (decide (r.e < 1))) rfl rfl) rfl ?_
    obtain ⟨bz14, hbz14⟩ : ∃ b_, b_ = (decide (r.e < 1)) := ⟨_, rfl⟩
    rw [← hbz14]
    refine p_tail 4 (fun a_ w_ => ∃ (uz11 uz12 uz13 : Value) (bz15 : Bool), a_ = fr (rcV r A c :: .pointer (some ⟨g5, 0, none⟩) :: .bool false :: U4n1 (.pointer (some ⟨g5, 0, none⟩) :: .int .u32 r.e :: .bool bz14 :: .bool bz14 :: uz11 :: uz12 :: uz13 :: .bool bz15 :: U64n1 (U32n1 (U16n1 (U8n1 (U4n1 (undef :: []))))))) ∧ bz15 = (bz14 || (decide (r.e > 1048576))) ∧ St w (fun _ => False) w_ ([blk g5 (.int .u32 r.e :: .bool r.p :: .int .u32 r.b :: .int .u32 r.q :: .int .i64 r.l :: .int .u32 r.xe :: .int .u32 r.xq :: .slice A r.sn.length c :: .int .u64 r.s :: .int .u32 r.te :: .int .u32 r.tq :: .int .u32 r.be :: .int .u32 r.bq :: .int .i64 r.nx :: .int .i64 r.tt :: .int .i64 r.rt :: []) 34])) (fun T16 => ?_) ?_
    · cases bz14
      · skip
        refine p_on rfl (by rw [hops12]; rfl) ?_
        refine p_run _ (x_field (j := 0) _ _ rfl rfl Try.underlying34 rfl (by rfl) rfl) rfl ?_
        refine p_on rfl (by rw [hops12]; rfl) ?_
        refine p_run _ (x_load (.int .u32 r.e) rfl rfl (bkCell (HS.get (.head _)) 0 _ rfl) (by rfl)) rfl ?_
        refine p_on rfl (by rw [hops12]; rfl) ?_
        refine p_run _ (x_cmp (k := .u32) (m := r.e) (n := 1048576) .gtr (decide (r.e > 1048576)) rfl rfl rfl rfl rfl) rfl ?_
        refine p_run _ (x_pick false (.bool true) (.bool (decide (r.e > 1048576))) (.bool (decide (r.e > 1048576))) rfl rfl rfl rfl rfl) rfl ?_
        exact T16 _ _ ⟨(.pointer (some ⟨g5, 0, none⟩)), (.int .u32 r.e), (.bool (decide (r.e > 1048576))), (decide (r.e > 1048576)), rfl, rfl, HS⟩
      · skip
        refine p_off (by rw [hops12]; rfl) rfl ?_
        refine p_off (by rw [hops12]; rfl) rfl ?_
        refine p_off (by rw [hops12]; rfl) rfl ?_
        refine p_run _ (x_pick true (.bool true) (undef) (.bool true) rfl rfl rfl rfl rfl) rfl ?_
        exact T16 _ _ ⟨undef, undef, undef, true, rfl, rfl, HS⟩
    clear HS
    rintro _ w_ ⟨uz11, uz12, uz13, bz15, rfl, hbz15, HS⟩
    skip
    refine p_run _ (x_move (.bool bz15) rfl rfl) rfl ?_
    refine p_tail 4 (fun a_ w_ => ∃ (uz16 uz17 uz18 : Value) (qz19 : V8) (bz18 : Bool), a_ = fr (rcV r A c :: .pointer (some ⟨g5, 0, none⟩) :: .bool false :: U4n1 (.pointer (some ⟨g5, 0, none⟩) :: V8.l qz19 (uz16 :: uz17 :: uz18 :: .bool bz18 :: U64n1 (U32n1 (U16n1 (U8n1 ([]))))))) ∧ bz18 = (bz15 || (decide (r.b > 1073741824))) ∧ St w (fun _ => False) w_ ([blk g5 (.int .u32 r.e :: .bool r.p :: .int .u32 r.b :: .int .u32 r.q :: .int .i64 r.l :: .int .u32 r.xe :: .int .u32 r.xq :: .slice A r.sn.length c :: .int .u64 r.s :: .int .u32 r.te :: .int .u32 r.tq :: .int .u32 r.be :: .int .u32 r.bq :: .int .i64 r.nx :: .int .i64 r.tt :: .int .i64 r.rt :: []) 34])) (fun T20 => ?_) ?_
    · cases bz15
      · skip
        refine p_on rfl (by rw [hops12]; rfl) ?_
        refine p_run _ (x_field (j := 2) _ _ rfl rfl Try.underlying34 rfl (by rfl) rfl) rfl ?_
        refine p_on rfl (by rw [hops12]; rfl) ?_
        refine p_run _ (x_load (.int .u32 r.b) rfl rfl (bkCell (HS.get (.head _)) 2 _ rfl) (by rfl)) rfl ?_
        refine p_on rfl (by rw [hops12]; rfl) ?_
        refine p_run _ (x_cmp (k := .u32) (m := r.b) (n := 1073741824) .gtr (decide (r.b > 1073741824)) rfl rfl rfl rfl rfl) rfl ?_
        refine p_run _ (x_pick false (.bool true) (.bool (decide (r.b > 1073741824))) (.bool (decide (r.b > 1073741824))) rfl rfl rfl rfl rfl) rfl ?_
        exact T20 _ _ ⟨(.pointer (some ⟨g5, 2, none⟩)), (.int .u32 r.b), (.bool (decide (r.b > 1073741824))), ⟨.int .u32 r.e, .bool bz14, .bool bz14, uz11, uz12, uz13, .bool false, .bool false⟩, (decide (r.b > 1073741824)), rfl, rfl, HS⟩
      · skip
        refine p_off (by rw [hops12]; rfl) rfl ?_
        refine p_off (by rw [hops12]; rfl) rfl ?_
        refine p_off (by rw [hops12]; rfl) rfl ?_
        refine p_run _ (x_pick true (.bool true) (undef) (.bool true) rfl rfl rfl rfl rfl) rfl ?_
        exact T20 _ _ ⟨undef, undef, undef, ⟨.int .u32 r.e, .bool bz14, .bool bz14, uz11, uz12, uz13, .bool true, .bool true⟩, true, rfl, rfl, HS⟩
    clear HS
    rintro _ w_ ⟨uz16, uz17, uz18, qz19, bz18, rfl, hbz18, HS⟩
    skip
    refine p_run _ (x_move (.bool bz18) rfl rfl) rfl ?_
    refine p_tail 4 (fun a_ w_ => ∃ (qz23 : V8) (bz22 : Bool), a_ = fr (rcV r A c :: .pointer (some ⟨g5, 0, none⟩) :: .bool false :: U4n1 (.pointer (some ⟨g5, 0, none⟩) :: V8.l qz19 (V8.l qz23 (.bool bz22 :: U64n1 (U32n1 (U16n1 (undef :: undef :: undef :: []))))))) ∧ bz22 = (bz18 || (decide (r.q > 1048576))) ∧ St w (fun _ => False) w_ ([blk g5 (.int .u32 r.e :: .bool r.p :: .int .u32 r.b :: .int .u32 r.q :: .int .i64 r.l :: .int .u32 r.xe :: .int .u32 r.xq :: .slice A r.sn.length c :: .int .u64 r.s :: .int .u32 r.te :: .int .u32 r.tq :: .int .u32 r.be :: .int .u32 r.bq :: .int .i64 r.nx :: .int .i64 r.tt :: .int .i64 r.rt :: []) 34])) (fun T24 => ?_) ?_
    · cases bz18
      · skip
        refine p_on rfl (by rw [hops12]; rfl) ?_
        refine p_run _ (x_field (j := 3) _ _ rfl rfl Try.underlying34 rfl (by rfl) rfl) rfl ?_
        refine p_on rfl (by rw [hops12]; rfl) ?_
        refine p_run _ (x_load (.int .u32 r.q) rfl rfl (bkCell (HS.get (.head _)) 3 _ rfl) (by rfl)) rfl ?_
        refine p_on rfl (by rw [hops12]; rfl) ?_
        refine p_run _ (x_cmp (k := .u32) (m := r.q) (n := 1048576) .gtr (decide (r.q > 1048576)) rfl rfl rfl rfl rfl) rfl ?_
        refine p_run _ (x_pick false (.bool true) (.bool (decide (r.q > 1048576))) (.bool (decide (r.q > 1048576))) rfl rfl rfl rfl rfl) rfl ?_
        exact T24 _ _ ⟨⟨uz16, uz17, uz18, .bool false, .bool false, .pointer (some ⟨g5, 3, none⟩), .int .u32 r.q, .bool (decide (r.q > 1048576))⟩, (decide (r.q > 1048576)), rfl, rfl, HS⟩
      · skip
        refine p_off (by rw [hops12]; rfl) rfl ?_
        refine p_off (by rw [hops12]; rfl) rfl ?_
        refine p_off (by rw [hops12]; rfl) rfl ?_
        refine p_run _ (x_pick true (.bool true) (undef) (.bool true) rfl rfl rfl rfl rfl) rfl ?_
        exact T24 _ _ ⟨⟨uz16, uz17, uz18, .bool true, .bool true, undef, undef, undef⟩, true, rfl, rfl, HS⟩
    clear HS
    rintro _ w_ ⟨qz23, bz22, rfl, hbz22, HS⟩
    skip
    refine p_run _ (x_move (.bool bz22) rfl rfl) rfl ?_
    refine p_tail 5 (fun a_ w_ => ∃ (uz26 uz27 uz28 uz29 : Value) (bz26 : Bool), a_ = fr (rcV r A c :: .pointer (some ⟨g5, 0, none⟩) :: .bool false :: U4n1 (.pointer (some ⟨g5, 0, none⟩) :: V8.l qz19 (V8.l qz23 (.bool bz22 :: .bool bz22 :: uz26 :: uz27 :: uz28 :: uz29 :: .bool bz26 :: U64n1 (U32n1 (U8n1 (U4n1 (undef :: [])))))))) ∧ bz26 = (bz22 || (!(rtOk r.l))) ∧ St w (fun _ => False) w_ ([blk g5 (.int .u32 r.e :: .bool r.p :: .int .u32 r.b :: .int .u32 r.q :: .int .i64 r.l :: .int .u32 r.xe :: .int .u32 r.xq :: .slice A r.sn.length c :: .int .u64 r.s :: .int .u32 r.te :: .int .u32 r.tq :: .int .u32 r.be :: .int .u32 r.bq :: .int .i64 r.nx :: .int .i64 r.tt :: .int .i64 r.rt :: []) 34])) (fun T27 => ?_) ?_
    · cases bz22
      · skip
        refine p_on rfl (by rw [hops12]; rfl) ?_
        refine p_run _ (x_field (j := 4) _ _ rfl rfl Try.underlying34 rfl (by rfl) rfl) rfl ?_
        refine p_on rfl (by rw [hops12]; rfl) ?_
        refine p_run _ (x_load (.int .i64 r.l) rfl rfl (bkCell (HS.get (.head _)) 4 _ rfl) (by rfl)) rfl ?_
        refine p_on rfl (by rw [hops12]; rfl) ?_
        refine w_call [.int .i64 r.l] Try.func41 (by kernel_rfl) (by rfl) rfl ?_
        refine (r14page_any _ r.l).mono ?_
        rintro e w28 ⟨rfl, hb_⟩
        replace HS := HS.here hb_
        clear hb_
        refine ⟨_, rfl, ?_⟩
        refine p_on rfl (by rw [hops12]; rfl) ?_
        refine p_run _ (x_not (rtOk r.l) rfl rfl) rfl ?_
        refine p_run _ (x_pick false (.bool true) (.bool (!(rtOk r.l))) (.bool (!(rtOk r.l))) rfl rfl rfl rfl rfl) rfl ?_
        exact T27 _ _ ⟨(.pointer (some ⟨g5, 4, none⟩)), (.int .i64 r.l), (.bool (rtOk r.l)), (.bool (!(rtOk r.l))), (!(rtOk r.l)), rfl, rfl, HS⟩
      · skip
        refine p_off (by rw [hops12]; rfl) rfl ?_
        refine p_off (by rw [hops12]; rfl) rfl ?_
        refine p_off (by rw [hops12]; rfl) rfl ?_
        refine p_off (by rw [hops12]; rfl) rfl ?_
        refine p_run _ (x_pick true (.bool true) (undef) (.bool true) rfl rfl rfl rfl rfl) rfl ?_
        exact T27 _ _ ⟨undef, undef, undef, undef, true, rfl, rfl, HS⟩
    clear HS
    rintro _ w_ ⟨uz26, uz27, uz28, uz29, bz26, rfl, hbz26, HS⟩
    skip
    refine p_run _ (x_move (.bool bz26) rfl rfl) rfl ?_
    refine p_tail 5 (fun a_ w_ => ∃ (uz32 uz33 uz34 uz35 : Value) (qz31 : V8) (bz30 : Bool), a_ = fr (rcV r A c :: .pointer (some ⟨g5, 0, none⟩) :: .bool false :: U4n1 (.pointer (some ⟨g5, 0, none⟩) :: V8.l qz19 (V8.l qz23 (V8.l qz31 (uz32 :: uz33 :: uz34 :: uz35 :: .bool bz30 :: U64n1 (U32n1 (U4n1 (undef :: undef :: undef :: [])))))))) ∧ bz30 = (bz26 || (decide ((r.sn.length : Int) > 8))) ∧ St w (fun _ => False) w_ ([blk g5 (.int .u32 r.e :: .bool r.p :: .int .u32 r.b :: .int .u32 r.q :: .int .i64 r.l :: .int .u32 r.xe :: .int .u32 r.xq :: .slice A r.sn.length c :: .int .u64 r.s :: .int .u32 r.te :: .int .u32 r.tq :: .int .u32 r.be :: .int .u32 r.bq :: .int .i64 r.nx :: .int .i64 r.tt :: .int .i64 r.rt :: []) 34])) (fun T32 => ?_) ?_
    · cases bz26
      · skip
        refine p_on rfl (by rw [hops12]; rfl) ?_
        refine p_run _ (x_field (j := 7) _ _ rfl rfl Try.underlying34 rfl (by rfl) rfl) rfl ?_
        refine p_on rfl (by rw [hops12]; rfl) ?_
        refine p_run _ (x_load (.slice A r.sn.length c) rfl rfl (bkCell (HS.get (.head _)) 7 _ rfl) (by rfl)) rfl ?_
        refine p_on rfl (by rw [hops12]; rfl) ?_
        refine p_run _ (x_len rfl rfl Try.underlying29) rfl ?_
        refine p_on rfl (by rw [hops12]; rfl) ?_
        refine p_run _ (x_cmp (k := .i64) (m := (r.sn.length : Int)) (n := 8) .gtr (decide ((r.sn.length : Int) > 8)) rfl rfl rfl rfl rfl) rfl ?_
        refine p_run _ (x_pick false (.bool true) (.bool (decide ((r.sn.length : Int) > 8))) (.bool (decide ((r.sn.length : Int) > 8))) rfl rfl rfl rfl rfl) rfl ?_
        exact T32 _ _ ⟨(.pointer (some ⟨g5, 7, none⟩)), (.slice A r.sn.length c), (.int .i64 (r.sn.length : Int)), (.bool (decide ((r.sn.length : Int) > 8))), ⟨.bool bz22, .bool bz22, uz26, uz27, uz28, uz29, .bool false, .bool false⟩, (decide ((r.sn.length : Int) > 8)), rfl, rfl, HS⟩
      · skip
        refine p_off (by rw [hops12]; rfl) rfl ?_
        refine p_off (by rw [hops12]; rfl) rfl ?_
        refine p_off (by rw [hops12]; rfl) rfl ?_
        refine p_off (by rw [hops12]; rfl) rfl ?_
        refine p_run _ (x_pick true (.bool true) (undef) (.bool true) rfl rfl rfl rfl rfl) rfl ?_
        exact T32 _ _ ⟨undef, undef, undef, undef, ⟨.bool bz22, .bool bz22, uz26, uz27, uz28, uz29, .bool true, .bool true⟩, true, rfl, rfl, HS⟩
    clear HS
    rintro _ w_ ⟨uz32, uz33, uz34, uz35, qz31, bz30, rfl, hbz30, HS⟩
    skip
    clear hops12
    refine wpList_nil ?_
    refine hK11 _ _ ?_
    refine c_cond (t := bz30) rfl (fun hc34 => ?_) (fun hc34 => ?_)
    · rw [hbz30, hbz26, hbz22, hbz18, hbz15, hbz14] at hc34
      have hno : rcOk r = false := rc_no (fun h => by
        obtain ⟨⟨g1, g2⟩, g3, g4, -, g5, -, -, -, -⟩ := rc_of h
        have g6 : rtOk r.l = true := by unfold rcOk at h; simp only [Bool.and_eq_true] at h; exact h.1.1.2
        simp only [Bool.or_eq_true, decide_eq_true_eq, Bool.not_eq_true', g6] at hc34
        simp at hc34
        omega)
      refine wp_seq_k (fun K35 hK36 => ?_)
      refine c_region (fun ops38 hops37 => ?_)
      clear hops37
      refine p_run _ (x_assign (.bool false) rfl rfl) rfl ?_
      refine wpList_nil ?_
      refine hK36 _ _ ?_
      refine wp_ret ?_
      try simp only [Exit.inBlock, Exit.then]
      refine c_ret (.bool false) (r_tmp rfl rfl) ?_
      rw [hno]
      exact ⟨rfl, HS.belowOf⟩
    · rw [hbz30, hbz26, hbz22, hbz18, hbz15, hbz14] at hc34
      simp only [Bool.or_eq_false_iff, decide_eq_false_iff_not, Bool.not_eq_false'] at hc34
      have bd : nmRc r = true ∧ rtOk r.l = true ∧ r.sn.length ≤ 8 := by
        obtain ⟨⟨⟨⟨⟨g1, g2⟩, g3⟩, g4⟩, g5⟩, g6⟩ := hc34
        refine ⟨?_, g5, by omega⟩
        unfold nmRc
        rw [decide_eq_true (show r.e ≥ 1 by omega), decide_eq_true (show r.e ≤ 1048576 by omega), decide_eq_true (show r.b ≤ 1073741824 by omega), decide_eq_true (show r.q ≤ 1048576 by omega)]
        rfl
      clear hc34
      refine wp_skip ?_
      refine hK9 _ _ ?_
      refine wp_seq_k (fun K39 hK40 => ?_)
      refine c_region (fun ops42 hops41 => ?_)
      clear hops41
      refine p_run _ (x_field (j := 5) _ _ rfl rfl Try.underlying34 rfl (by rfl) rfl) rfl ?_
      refine p_run _ (x_loads [.int .u32 r.xe, .int .u32 r.xq] 2 rfl rfl (bkCells (HS.get (.head _)) 5 _ rfl) (by rfl) (by kernel_rfl) rfl) rfl ?_
      refine p_run _ (x_build [.int .u32 0, .int .u32 0] rfl (by kernel_rfl)) rfl ?_
      refine p_run _ (x_eq .eql (.agg ([.int .u32 r.xe, .int .u32 r.xq] : List Value).toArray) (.agg ([.int .u32 0, .int .u32 0] : List Value).toArray) (decide (r.xe = 0 ∧ r.xq = 0)) ((decide (r.xe = 0 ∧ r.xq = 0))) rfl rfl rfl (equal_lb _ r.xe r.xq 0 0) rfl rfl (guard_agg (by kernel_rfl)) (guard_agg (by kernel_rfl))) rfl ?_
      refine p_run _ (x_assign (.bool (decide (r.xe = 0 ∧ r.xq = 0))) rfl rfl) rfl ?_
      refine wpList_nil ?_
      obtain ⟨qz43, hqz43⟩ : ∃ q_ : V8, q_ = ⟨uz32, uz33, uz34, uz35, .bool bz30, .pointer (some ⟨g5, 5, none⟩), .agg ([.int .u32 r.xe, .int .u32 r.xq] : List Value).toArray, .agg ([.int .u32 0, .int .u32 0] : List Value).toArray⟩ := ⟨_, rfl⟩
      refine fr_at (l' := (rcV r A c :: .pointer (some ⟨g5, 0, none⟩) :: .bool false :: .bool (decide (r.xe = 0 ∧ r.xq = 0)) :: undef :: undef :: undef :: .pointer (some ⟨g5, 0, none⟩) :: V8.l qz19 (V8.l qz23 (V8.l qz31 (V8.l qz43 (.bool (decide (r.xe = 0 ∧ r.xq = 0)) :: U64n1 (U32n1 (undef :: undef :: undef :: [])))))))) (by subst hqz43; rfl) ?_
      refine hK40 _ _ ?_
      refine wp_seq_k (fun K44 hK45 => ?_)
      refine wp_seq_k (fun K46 hK47 => ?_)
      refine c_region (fun ops49 hops48 => ?_)
      clear hops48
      refine p_run _ (x_field (j := 7) _ _ rfl rfl Try.underlying34 rfl (by rfl) rfl) rfl ?_
      refine p_run _ (x_load (.slice A r.sn.length c) rfl rfl (bkCell (HS.get (.head _)) 7 _ rfl) (by rfl)) rfl ?_
      refine p_run _ (x_len rfl rfl Try.underlying29) rfl ?_
      refine p_run _ (x_move (.int .i64 0) rfl rfl) rfl ?_
      refine wpList_nil ?_
      refine fr_at (l' := (rcV r A c :: .pointer (some ⟨g5, 0, none⟩) :: .bool false :: .bool (decide (r.xe = 0 ∧ r.xq = 0)) :: undef :: undef :: undef :: .pointer (some ⟨g5, 0, none⟩) :: V8.l qz19 (V8.l qz23 (V8.l qz31 (V8.l qz43 (.bool (decide (r.xe = 0 ∧ r.xq = 0)) :: .pointer (some ⟨g5, 7, none⟩) :: .slice A r.sn.length c :: .int .i64 (r.sn.length : Int) :: .int .i64 0 :: U64n1 (U16n1 (U8n1 (U4n1 (undef :: undef :: undef :: [])))))))))) rfl ?_
      refine hK47 _ _ ?_
      refine wp_block ?_
      refine c_loop (ι := Nat × Int × Int × Bool) (fun i_ a_ w_ => match i_ with | (j, la, lq, f) => ∃ (q50 : V8) (q51 : V8) (q52 : V8) (q53 : V8) (q54 : V8) (q55 : V8), a_ = fr (rcV r A c :: .pointer (some ⟨g5, 0, none⟩) :: q50.a :: .bool f :: q50.b :: q50.c :: undef :: .pointer (some ⟨g5, 0, none⟩) :: V8.l qz19 (V8.l qz23 (V8.l qz31 (V8.l qz43 (.bool (decide (r.xe = 0 ∧ r.xq = 0)) :: .pointer (some ⟨g5, 7, none⟩) :: .slice A r.sn.length c :: .int .i64 (r.sn.length : Int) :: .int .i64 (j : Int) :: q50.d :: q50.e :: q50.f :: q50.g :: q50.h :: V8.l q51 (V8.l q52 (V8.l q53 (V8.l q54 (q55.a :: q55.b :: q55.c :: q55.d :: q55.e :: q55.f :: q55.g :: U32n1 (U16n1 (undef :: undef :: undef :: []))))))))))) ∧ St w (fun _ => False) w_ ([blk g5 (.int .u32 r.e :: .bool r.p :: .int .u32 r.b :: .int .u32 r.q :: .int .i64 r.l :: .int .u32 r.xe :: .int .u32 r.xq :: .slice A r.sn.length c :: .int .u64 r.s :: .int .u32 r.te :: .int .u32 r.tq :: .int .u32 r.be :: .int .u32 r.bq :: .int .i64 r.nx :: .int .i64 r.tt :: .int .i64 r.rt :: []) 34]) ∧ (j ≤ r.sn.length ∧ prevL r.sn j la lq ∧ 0 ≤ la ∧ 0 ≤ lq ∧ snOk 0 0 r.sn = snOk la lq (r.sn.drop j) ∧ (decide (r.xe = 0 ∧ r.xq = 0) || snHas r.xe r.xq r.sn) = (f || snHas r.xe r.xq (r.sn.drop j)))) (fun i_ => match i_ with | (j, la, lq, f) => r.sn.length - j) (0, 0, 0, (decide (r.xe = 0 ∧ r.xq = 0))) ?_ ?_
      · exact ⟨⟨.bool false, undef, undef, undef, undef, undef, undef, undef⟩, ⟨undef, undef, undef, undef, undef, undef, undef, undef⟩, ⟨undef, undef, undef, undef, undef, undef, undef, undef⟩, ⟨undef, undef, undef, undef, undef, undef, undef, undef⟩, ⟨undef, undef, undef, undef, undef, undef, undef, undef⟩, ⟨undef, undef, undef, undef, undef, undef, undef, undef⟩, rfl, HS, ⟨Nat.zero_le _, .inl ⟨rfl, rfl, rfl⟩, Int.le_refl _, Int.le_refl _, rfl, rfl⟩⟩
      · clear HS
        rintro ⟨j, la, lq, f⟩ a_ w58 ⟨q50, q51, q52, q53, q54, q55, rfl, HS, hI⟩ J56 hJ57
        obtain ⟨hjl, hpv, hla, hlq, hI1, hI2⟩ := hI
        refine wp_seq_k (fun K59 hK60 => ?_)
        refine c_region (fun ops62 hops61 => ?_)
        clear hops61
        refine p_run _ (x_cmp (k := .i64) (m := (j : Int)) (n := (r.sn.length : Int)) .lss (decide ((j : Int) < (r.sn.length : Int))) rfl rfl rfl rfl rfl) rfl ?_
        refine wpList_nil ?_
        refine hK60 _ _ ?_
        refine wp_seq_k (fun K63 hK64 => ?_)
        refine c_cond (t := decide ((j : Int) < (r.sn.length : Int))) rfl (fun hc65 => ?_) (fun hc65 => ?_)
        · have hlt : j < r.sn.length := by have := of_decide_eq_true hc65; omega
          obtain ⟨ad, x, rfl, hx, -⟩ := sn_get (Kd.C_below hA HS.belowOf) j hlt
          have hwx := hw.sn x (List.mem_of_getElem? hx)
          obtain ⟨⟨y1, y2⟩, ⟨y3, y4⟩, -⟩ := hwx
          rw [drop_at hx] at hI1 hI2
          refine wp_skip ?_
          refine hK64 _ _ ?_
          refine wp_seq_k (fun K66 hK67 => ?_)
          refine wp_block ?_
          refine wp_seq_k (fun K68 hK69 => ?_)
          refine c_region (fun ops71 hops70 => ?_)
          clear hops70
          refine p_run _ (x_move (.int .i64 (j : Int)) rfl rfl) rfl ?_
          refine p_run _ (x_index (A := ad) (j := j * 4) (sz := 4) rfl rfl rfl Try.underlying29 (by kernel_rfl) (by omega) rfl) rfl ?_
          refine p_run _ (x_loads [.int .u32 x.1, .int .u32 x.2.1, .int .i64 x.2.2.1, .int .u32 x.2.2.2] 4 rfl rfl (sn_cells (Kd.C_below hA HS.belowOf) hx) (by rfl) (by kernel_rfl) rfl) rfl ?_
          refine St.wAlloc HS (cs := [.int .u32 0, .int .u32 0, .int .i64 0, .int .u32 0]) (.agg [.int .u32 0, .int .u32 0, .int .i64 0, .int .u32 0].toArray) (by kernel_rfl) rfl ?_
          clear HS
          intro g72 w73 hg74 HS
          refine p_run _ (x_assign (.int .i64 (j : Int)) rfl rfl) rfl ?_
          refine St.stores (cs' := [.int .u32 x.1, .int .u32 x.2.1, .int .i64 x.2.2.1, .int .u32 x.2.2.2]) HS [.int .u32 x.1, .int .u32 x.2.1, .int .i64 x.2.2.1, .int .u32 x.2.2.2] 4 rfl rfl (by rfl) (by kernel_rfl) rfl (by simp) rfl ?_
          clear HS
          intro w75 HS
          refine wpList_nil ?_
          refine fr_at (l' := (rcV r (some ad) c :: .pointer (some ⟨g5, 0, none⟩) :: q50.a :: .bool f :: .int .i64 (j : Int) :: .pointer (some ⟨g72, 0, none⟩) :: undef :: .pointer (some ⟨g5, 0, none⟩) :: V8.l qz19 (V8.l qz23 (V8.l qz31 (V8.l qz43 (.bool (decide (r.xe = 0 ∧ r.xq = 0)) :: .pointer (some ⟨g5, 7, none⟩) :: .slice (some ad) r.sn.length c :: .int .i64 (r.sn.length : Int) :: .int .i64 (j : Int) :: .bool (decide ((j : Int) < (r.sn.length : Int))) :: .int .i64 (j : Int) :: .pointer (some ((ad).add (j * 4))) :: .agg ([.int .u32 x.1, .int .u32 x.2.1, .int .i64 x.2.2.1, .int .u32 x.2.2.2] : List Value).toArray :: q50.h :: V8.l q51 (V8.l q52 (V8.l q53 (V8.l q54 (q55.a :: q55.b :: q55.c :: q55.d :: q55.e :: q55.f :: q55.g :: U32n1 (U16n1 (undef :: undef :: undef :: [])))))))))))) rfl ?_
          refine hK69 _ _ ?_
          refine wp_seq_k (fun K76 hK77 => ?_)
          refine wp_seq_k (fun K78 hK79 => ?_)
          refine c_region (fun ops81 hops80 => ?_)
          refine p_run _ (x_field (j := 0) _ _ rfl rfl Try.underlying48 rfl (by rfl) rfl) rfl ?_
          refine p_run _ (x_loads [.int .u32 x.1, .int .u32 x.2.1] 2 rfl rfl (bkCells (HS.get (.head _)) 0 _ rfl) (by rfl) (by kernel_rfl) rfl) rfl ?_
          refine w_call [.agg ([.int .u32 x.1, .int .u32 x.2.1] : List Value).toArray] Try.func42 (by kernel_rfl) (by rfl) rfl ?_
          refine (r3right_any _ x.1 x.2.1).mono ?_
          rintro e w82 ⟨rfl, hb_⟩
          replace HS := HS.here hb_
          clear hb_
          refine ⟨_, rfl, ?_⟩
          refine p_run _ (x_not (lbOk x.1 x.2.1) rfl rfl) rfl ?_
          refine p_run _ (x_move (.bool (!(lbOk x.1 x.2.1))) rfl rfl) rfl ?_
          obtain ⟨bz83, hbz83⟩ : ∃ b_, b_ = (!(lbOk x.1 x.2.1)) := ⟨_, rfl⟩
          rw [← hbz83]
          refine p_tail 5 (fun a_ w_ => ∃ (uz54 uz55 uz56 uz57 : Value) (bz84 : Bool), a_ = fr (rcV r (some ad) c :: .pointer (some ⟨g5, 0, none⟩) :: q50.a :: .bool f :: .int .i64 (j : Int) :: .pointer (some ⟨g72, 0, none⟩) :: undef :: .pointer (some ⟨g5, 0, none⟩) :: V8.l qz19 (V8.l qz23 (V8.l qz31 (V8.l qz43 (.bool (decide (r.xe = 0 ∧ r.xq = 0)) :: .pointer (some ⟨g5, 7, none⟩) :: .slice (some ad) r.sn.length c :: .int .i64 (r.sn.length : Int) :: .int .i64 (j : Int) :: .bool (decide ((j : Int) < (r.sn.length : Int))) :: .int .i64 (j : Int) :: .pointer (some ((ad).add (j * 4))) :: .agg ([.int .u32 x.1, .int .u32 x.2.1, .int .i64 x.2.2.1, .int .u32 x.2.2.2] : List Value).toArray :: .pointer (some ⟨g72, 0, none⟩) :: .agg ([.int .u32 x.1, .int .u32 x.2.1] : List Value).toArray :: .bool (lbOk x.1 x.2.1) :: .bool bz83 :: .bool bz83 :: uz54 :: uz55 :: uz56 :: uz57 :: .bool bz84 :: q52.b :: q52.c :: q52.d :: q52.e :: q52.f :: q52.g :: q52.h :: V8.l q53 (V8.l q54 (q55.a :: q55.b :: q55.c :: q55.d :: q55.e :: q55.f :: q55.g :: U32n1 (U16n1 (undef :: undef :: undef :: []))))))))) ∧ bz84 = (bz83 || (decide (x.1 = 0 ∧ x.2.1 = 0))) ∧ St w (fun _ => False) w_ ([blk g72 [.int .u32 x.1, .int .u32 x.2.1, .int .i64 x.2.2.1, .int .u32 x.2.2.2] 48, blk g5 (.int .u32 r.e :: .bool r.p :: .int .u32 r.b :: .int .u32 r.q :: .int .i64 r.l :: .int .u32 r.xe :: .int .u32 r.xq :: .slice (some ad) r.sn.length c :: .int .u64 r.s :: .int .u32 r.te :: .int .u32 r.tq :: .int .u32 r.be :: .int .u32 r.bq :: .int .i64 r.nx :: .int .i64 r.tt :: .int .i64 r.rt :: []) 34])) (fun T85 => ?_) ?_
          · cases bz83
            · skip
              refine p_on rfl (by rw [hops80]; rfl) ?_
              refine p_run _ (x_field (j := 0) _ _ rfl rfl Try.underlying48 rfl (by rfl) rfl) rfl ?_
              refine p_on rfl (by rw [hops80]; rfl) ?_
              refine p_run _ (x_loads [.int .u32 x.1, .int .u32 x.2.1] 2 rfl rfl (bkCells (HS.get (.head _)) 0 _ rfl) (by rfl) (by kernel_rfl) rfl) rfl ?_
              refine p_on rfl (by rw [hops80]; rfl) ?_
              refine p_run _ (x_build [.int .u32 0, .int .u32 0] rfl (by kernel_rfl)) rfl ?_
              refine p_on rfl (by rw [hops80]; rfl) ?_
              refine p_run _ (x_eq .eql (.agg ([.int .u32 x.1, .int .u32 x.2.1] : List Value).toArray) (.agg ([.int .u32 0, .int .u32 0] : List Value).toArray) (decide (x.1 = 0 ∧ x.2.1 = 0)) ((decide (x.1 = 0 ∧ x.2.1 = 0))) rfl rfl rfl (equal_lb _ x.1 x.2.1 0 0) rfl rfl (guard_agg (by kernel_rfl)) (guard_agg (by kernel_rfl))) rfl ?_
              refine p_run _ (x_pick false (.bool true) (.bool (decide (x.1 = 0 ∧ x.2.1 = 0))) (.bool (decide (x.1 = 0 ∧ x.2.1 = 0))) rfl rfl rfl rfl rfl) rfl ?_
              exact T85 _ _ ⟨(.pointer (some ⟨g72, 0, none⟩)), (.agg ([.int .u32 x.1, .int .u32 x.2.1] : List Value).toArray), (.agg ([.int .u32 0, .int .u32 0] : List Value).toArray), (.bool (decide (x.1 = 0 ∧ x.2.1 = 0))), (decide (x.1 = 0 ∧ x.2.1 = 0)), rfl, rfl, HS⟩
            · skip
              refine p_off (by rw [hops80]; rfl) rfl ?_
              refine p_off (by rw [hops80]; rfl) rfl ?_
              refine p_off (by rw [hops80]; rfl) rfl ?_
              refine p_off (by rw [hops80]; rfl) rfl ?_
              refine p_run _ (x_pick true (.bool true) (undef) (.bool true) rfl rfl rfl rfl rfl) rfl ?_
              exact T85 _ _ ⟨undef, undef, undef, undef, true, rfl, rfl, HS⟩
          clear HS
          rintro _ w_ ⟨uz54, uz55, uz56, uz57, bz84, rfl, hbz84, HS⟩
          skip
          refine p_run _ (x_move (.bool bz84) rfl rfl) rfl ?_
          refine p_tail 5 (fun a_ w_ => ∃ (uz60 uz61 uz62 uz63 : Value) (bz87 : Bool), a_ = fr (rcV r (some ad) c :: .pointer (some ⟨g5, 0, none⟩) :: q50.a :: .bool f :: .int .i64 (j : Int) :: .pointer (some ⟨g72, 0, none⟩) :: undef :: .pointer (some ⟨g5, 0, none⟩) :: V8.l qz19 (V8.l qz23 (V8.l qz31 (V8.l qz43 (.bool (decide (r.xe = 0 ∧ r.xq = 0)) :: .pointer (some ⟨g5, 7, none⟩) :: .slice (some ad) r.sn.length c :: .int .i64 (r.sn.length : Int) :: .int .i64 (j : Int) :: .bool (decide ((j : Int) < (r.sn.length : Int))) :: .int .i64 (j : Int) :: .pointer (some ((ad).add (j * 4))) :: .agg ([.int .u32 x.1, .int .u32 x.2.1, .int .i64 x.2.2.1, .int .u32 x.2.2.2] : List Value).toArray :: .pointer (some ⟨g72, 0, none⟩) :: .agg ([.int .u32 x.1, .int .u32 x.2.1] : List Value).toArray :: .bool (lbOk x.1 x.2.1) :: .bool bz83 :: .bool bz83 :: uz54 :: uz55 :: uz56 :: uz57 :: .bool bz84 :: .bool bz84 :: uz60 :: uz61 :: uz62 :: uz63 :: .bool bz87 :: q52.h :: V8.l q53 (V8.l q54 (q55.a :: q55.b :: q55.c :: q55.d :: q55.e :: q55.f :: q55.g :: U32n1 (U16n1 (undef :: undef :: undef :: []))))))))) ∧ bz87 = (bz84 || (!(rtOk x.2.2.1))) ∧ St w (fun _ => False) w_ ([blk g72 [.int .u32 x.1, .int .u32 x.2.1, .int .i64 x.2.2.1, .int .u32 x.2.2.2] 48, blk g5 (.int .u32 r.e :: .bool r.p :: .int .u32 r.b :: .int .u32 r.q :: .int .i64 r.l :: .int .u32 r.xe :: .int .u32 r.xq :: .slice (some ad) r.sn.length c :: .int .u64 r.s :: .int .u32 r.te :: .int .u32 r.tq :: .int .u32 r.be :: .int .u32 r.bq :: .int .i64 r.nx :: .int .i64 r.tt :: .int .i64 r.rt :: []) 34])) (fun T88 => ?_) ?_
          · cases bz84
            · skip
              refine p_on rfl (by rw [hops80]; rfl) ?_
              refine p_run _ (x_field (j := 2) _ _ rfl rfl Try.underlying48 rfl (by rfl) rfl) rfl ?_
              refine p_on rfl (by rw [hops80]; rfl) ?_
              refine p_run _ (x_load (.int .i64 x.2.2.1) rfl rfl (bkCell (HS.get (.head _)) 2 _ rfl) (by rfl)) rfl ?_
              refine p_on rfl (by rw [hops80]; rfl) ?_
              refine w_call [.int .i64 x.2.2.1] Try.func41 (by kernel_rfl) (by rfl) rfl ?_
              refine (r14page_any _ x.2.2.1).mono ?_
              rintro e w89 ⟨rfl, hb_⟩
              replace HS := HS.here hb_
              clear hb_
              refine ⟨_, rfl, ?_⟩
              refine p_on rfl (by rw [hops80]; rfl) ?_
              refine p_run _ (x_not (rtOk x.2.2.1) rfl rfl) rfl ?_
              refine p_run _ (x_pick false (.bool true) (.bool (!(rtOk x.2.2.1))) (.bool (!(rtOk x.2.2.1))) rfl rfl rfl rfl rfl) rfl ?_
              exact T88 _ _ ⟨(.pointer (some ⟨g72, 2, none⟩)), (.int .i64 x.2.2.1), (.bool (rtOk x.2.2.1)), (.bool (!(rtOk x.2.2.1))), (!(rtOk x.2.2.1)), rfl, rfl, HS⟩
            · skip
              refine p_off (by rw [hops80]; rfl) rfl ?_
              refine p_off (by rw [hops80]; rfl) rfl ?_
              refine p_off (by rw [hops80]; rfl) rfl ?_
              refine p_off (by rw [hops80]; rfl) rfl ?_
              refine p_run _ (x_pick true (.bool true) (undef) (.bool true) rfl rfl rfl rfl rfl) rfl ?_
              exact T88 _ _ ⟨undef, undef, undef, undef, true, rfl, rfl, HS⟩
          clear HS
          rintro _ w_ ⟨uz60, uz61, uz62, uz63, bz87, rfl, hbz87, HS⟩
          skip
          clear hops80
          refine wpList_nil ?_
          refine hK79 _ _ ?_
          refine c_cond (t := bz87) rfl (fun hc91 => ?_) (fun hc91 => ?_)
          · rw [hbz87, hbz84, hbz83] at hc91
            have hno : rcOk r = false := rc_long (hI1.trans (sn_stop2 hla hlq hc91))
            refine wp_seq_k (fun K92 hK93 => ?_)
            refine c_region (fun ops95 hops94 => ?_)
            clear hops94
            refine p_run _ (x_assign (.bool false) rfl rfl) rfl ?_
            refine wpList_nil ?_
            refine hK93 _ _ ?_
            refine wp_ret ?_
            try simp only [Exit.inBlock, Exit.then]
            refine c_ret (.bool false) (r_tmp rfl rfl) ?_
            rw [hno]
            exact ⟨rfl, HS.belowOf⟩
          · rw [hbz87, hbz84, hbz83] at hc91
            obtain ⟨h1_, h2_, h3_⟩ := sn_ok2 hc91
            refine wp_skip ?_
            refine hK77 _ _ ?_
            refine wp_seq_k (fun K96 hK97 => ?_)
            refine wp_seq_k (fun K98 hK99 => ?_)
            rcases hpv with ⟨hj0, hp1, hp2⟩ | ⟨hj0, x0, hx0, hp1, hp2⟩
            · skip
              have hlt_ : ltL la lq x.1 x.2.1 = true := by rw [hp1, hp2]; unfold ltL; exact decide_eq_true (by omega)
              rw [sn_step h1_ h3_ hlt_] at hI1
              refine free_frame (n := 15) (T := _) [0, 1, 3, 7, 15, 7, 39, 127, 255, 511, 7, 1031, 4095, 8191, 16383] [(0, 65), (1, 66), (2, 67), (3, 68), (4, 69), (5, 70), (6, 71), (7, 72), (8, 73), (9, 74), (10, 75), (11, 76), (12, 77), (13, 78), (14, 79)] (fun bq_ vq_ w_ => qv ((fun i_ => match i_ with | 0 => some (.int .i64 (j : Int)) | 1 => some (.bool false) | 2 => some (.bool false) | 3 => some (undef) | 4 => some (undef) | 5 => some (undef) | 6 => some (undef) | 7 => some (undef) | 8 => some (undef) | 9 => some (undef) | 10 => some (undef) | 11 => some (undef) | 12 => some (undef) | 13 => some (undef) | 14 => some (.bool false) | _ => none) : Nat → Option Value) bq_ vq_ ∧ (St w (fun _ => False) w_ ([blk g72 [.int .u32 x.1, .int .u32 x.2.1, .int .i64 x.2.2.1, .int .u32 x.2.2.2] 48, blk g5 (.int .u32 r.e :: .bool r.p :: .int .u32 r.b :: .int .u32 r.q :: .int .i64 r.l :: .int .u32 r.xe :: .int .u32 r.xq :: .slice (some ad) r.sn.length c :: .int .u64 r.s :: .int .u32 r.te :: .int .u32 r.tq :: .int .u32 r.be :: .int .u32 r.bq :: .int .i64 r.nx :: .int .i64 r.tt :: .int .i64 r.rt :: []) 34]))) (by kernel_rfl) rfl rfl (by kernel_rfl) (by kernel_rfl) rfl (by kernel_rfl) (by kernel_rfl) ⟨qv_none, HS.draw⟩ ?_ ?_
              · clear HS
                intro i_ hi_ bq_ vq_ a_ w_ hG hb_ hon hoff hfr hel hval
                obtain ⟨hV, hE⟩ := hG
                have hi_ := List.mem_range.1 hi_
                obtain ⟨l_, rfl⟩ := hfr
                have hv_ := fun (j t : Nat) (v : Value) (h1 : (j, t) ∈ [(0, 65), (1, 66), (2, 67), (3, 68), (4, 69), (5, 70), (6, 71), (7, 72), (8, 73), (9, 74), (10, 75), (11, 76), (12, 77), (13, 78), (14, 79)]) h2 h3 => (hval (j, t) h1 h3).trans (congrArg some (hV j v h2 h3))
                have hcs : i_ = 0 ∨ i_ = 1 ∨ i_ = 2 ∨ i_ = 3 ∨ i_ = 4 ∨ i_ = 5 ∨ i_ = 6 ∨ i_ = 7 ∨ i_ = 8 ∨ i_ = 9 ∨ i_ = 10 ∨ i_ = 11 ∨ i_ = 12 ∨ i_ = 13 ∨ i_ = 14 := by omega
                rcases hcs with rfl | rfl | rfl | rfl | rfl | rfl | rfl | rfl | rfl | rfl | rfl | rfl | rfl | rfl | rfl
                · have e4 : evl l_ (.tmp 4) = .int .i64 (j : Int) := evl_of ((hel 4 (by decide)).trans rfl)
                  exact ⟨_, rfl, fun K_ hK_ => q_op _ (x_move (.int .i64 (j : Int)) rfl e4) (hK_ _ _ ⟨qv_up hV (fun _ h => Option.some.inj h), hE⟩)⟩
                · have e65 : evl l_ (.tmp 65) = .int .i64 (j : Int) := evl_of (hv_ 0 65 _ (by decide) rfl (hon 0 (by decide)))
                  exact ⟨_, rfl, fun K_ hK_ => q_op _ (x_cmp (k := .i64) (m := (j : Int)) (n := 0) .gtr false rfl e65 rfl (show decide _ = false from decide_eq_false (by omega)) rfl) (hK_ _ _ ⟨qv_up hV (fun _ h => Option.some.inj h), hE⟩)⟩
                · have e66 : evl l_ (.tmp 66) = .bool false := evl_of (hv_ 1 66 _ (by decide) rfl (hon 1 (by decide)))
                  exact ⟨_, rfl, fun K_ hK_ => q_op _ (x_move (.bool false) rfl e66) (hK_ _ _ ⟨qv_up hV (fun _ h => Option.some.inj h), hE⟩)⟩
                · have h67 : (fr l_).tmps[67]? = some (.bool false) := hv_ 2 67 _ (by decide) rfl (hon 2 (by decide))
                  exact ⟨_, rfl, fun K_ hK_ => wp_offG (wanted_off (t := 67) rfl rfl rfl h67) (hK_ undef _ ⟨qv_up hV (fun _ h => Option.some.inj h), hE⟩)⟩
                · have h67 : (fr l_).tmps[67]? = some (.bool false) := hv_ 2 67 _ (by decide) rfl (hon 2 (by decide))
                  exact ⟨_, rfl, fun K_ hK_ => wp_offG (wanted_off (t := 67) rfl rfl rfl h67) (hK_ undef _ ⟨qv_up hV (fun _ h => Option.some.inj h), hE⟩)⟩
                · have h67 : (fr l_).tmps[67]? = some (.bool false) := hv_ 2 67 _ (by decide) rfl (hon 2 (by decide))
                  exact ⟨_, rfl, fun K_ hK_ => wp_offG (wanted_off (t := 67) rfl rfl rfl h67) (hK_ undef _ ⟨qv_up hV (fun _ h => Option.some.inj h), hE⟩)⟩
                · have h67 : (fr l_).tmps[67]? = some (.bool false) := hv_ 2 67 _ (by decide) rfl (hon 2 (by decide))
                  exact ⟨_, rfl, fun K_ hK_ => wp_offG (wanted_off (t := 67) rfl rfl rfl h67) (hK_ undef _ ⟨qv_up hV (fun _ h => Option.some.inj h), hE⟩)⟩
                · have h67 : (fr l_).tmps[67]? = some (.bool false) := hv_ 2 67 _ (by decide) rfl (hon 2 (by decide))
                  exact ⟨_, rfl, fun K_ hK_ => wp_offG (wanted_off (t := 67) rfl rfl rfl h67) (hK_ undef _ ⟨qv_up hV (fun _ h => Option.some.inj h), hE⟩)⟩
                · have h67 : (fr l_).tmps[67]? = some (.bool false) := hv_ 2 67 _ (by decide) rfl (hon 2 (by decide))
                  exact ⟨_, rfl, fun K_ hK_ => wp_offG (wanted_off (t := 67) rfl rfl rfl h67) (hK_ undef _ ⟨qv_up hV (fun _ h => Option.some.inj h), hE⟩)⟩
                · have h67 : (fr l_).tmps[67]? = some (.bool false) := hv_ 2 67 _ (by decide) rfl (hon 2 (by decide))
                  exact ⟨_, rfl, fun K_ hK_ => wp_offG (wanted_off (t := 67) rfl rfl rfl h67) (hK_ undef _ ⟨qv_up hV (fun _ h => Option.some.inj h), hE⟩)⟩
                · have h67 : (fr l_).tmps[67]? = some (.bool false) := hv_ 2 67 _ (by decide) rfl (hon 2 (by decide))
                  exact ⟨_, rfl, fun K_ hK_ => wp_offG (wanted_off (t := 67) rfl rfl rfl h67) (hK_ undef _ ⟨qv_up hV (fun _ h => Option.some.inj h), hE⟩)⟩
                · have h67 : (fr l_).tmps[67]? = some (.bool false) := hv_ 2 67 _ (by decide) rfl (hon 2 (by decide))
                  exact ⟨_, rfl, fun K_ hK_ => wp_offG (wanted_off (t := 67) rfl rfl rfl h67) (hK_ undef _ ⟨qv_up hV (fun _ h => Option.some.inj h), hE⟩)⟩
                · have h67 : (fr l_).tmps[67]? = some (.bool false) := hv_ 2 67 _ (by decide) rfl (hon 2 (by decide))
                  exact ⟨_, rfl, fun K_ hK_ => wp_offG (wanted_off (t := 67) rfl rfl rfl h67) (hK_ undef _ ⟨qv_up hV (fun _ h => Option.some.inj h), hE⟩)⟩
                · have h67 : (fr l_).tmps[67]? = some (.bool false) := hv_ 2 67 _ (by decide) rfl (hon 2 (by decide))
                  exact ⟨_, rfl, fun K_ hK_ => wp_offG (wanted_off (t := 67) rfl rfl rfl h67) (hK_ undef _ ⟨qv_up hV (fun _ h => Option.some.inj h), hE⟩)⟩
                · have e67 : evl l_ (.tmp 67) = .bool false := evl_of (hv_ 2 67 _ (by decide) rfl (hon 2 (by decide)))
                  have e78 : evl l_ (.tmp 78) = undef := evl_of (hv_ 13 78 _ (by decide) rfl (hon 13 (by decide)))
                  exact ⟨_, rfl, fun K_ hK_ => q_op _ (x_pick false (undef) (.bool false) (.bool false) rfl e67 e78 rfl rfl) (hK_ _ _ ⟨qv_up hV (fun _ h => Option.some.inj h), hE⟩)⟩
              intro bq_ vq_ w_ hall hG
              obtain ⟨hV, hE⟩ := hG
              clear HS
              have HS := hE
              have hv0 := hV 0 _ rfl (hall 0 (by decide))
              have hv1 := hV 1 _ rfl (hall 1 (by decide))
              have hv2 := hV 2 _ rfl (hall 2 (by decide))
              have hv3 := hV 3 _ rfl (hall 3 (by decide))
              have hv4 := hV 4 _ rfl (hall 4 (by decide))
              have hv5 := hV 5 _ rfl (hall 5 (by decide))
              have hv6 := hV 6 _ rfl (hall 6 (by decide))
              have hv7 := hV 7 _ rfl (hall 7 (by decide))
              have hv8 := hV 8 _ rfl (hall 8 (by decide))
              have hv9 := hV 9 _ rfl (hall 9 (by decide))
              have hv10 := hV 10 _ rfl (hall 10 (by decide))
              have hv11 := hV 11 _ rfl (hall 11 (by decide))
              have hv12 := hV 12 _ rfl (hall 12 (by decide))
              have hv13 := hV 13 _ rfl (hall 13 (by decide))
              have hv14 := hV 14 _ rfl (hall 14 (by decide))
              clear hV hall
              rw [putSel_fr]
              simp only [tells, List.map_cons, List.map_nil, setAll, List.set_cons_succ, List.set_cons_zero, hv0, hv1, hv2, hv3, hv4, hv5, hv6, hv7, hv8, hv9, hv10, hv11, hv12, hv13, hv14]
              clear hv0 hv1 hv2 hv3 hv4 hv5 hv6 hv7 hv8 hv9 hv10 hv11 hv12 hv13 hv14
              generalize w_ = w102 at HS ⊢
              refine fr_at (l' := (rcV r (some ad) c :: .pointer (some ⟨g5, 0, none⟩) :: q50.a :: .bool f :: .int .i64 (j : Int) :: .pointer (some ⟨g72, 0, none⟩) :: undef :: .pointer (some ⟨g5, 0, none⟩) :: V8.l qz19 (V8.l qz23 (V8.l qz31 (V8.l qz43 (.bool (decide (r.xe = 0 ∧ r.xq = 0)) :: .pointer (some ⟨g5, 7, none⟩) :: .slice (some ad) r.sn.length c :: .int .i64 (r.sn.length : Int) :: .int .i64 (j : Int) :: .bool (decide ((j : Int) < (r.sn.length : Int))) :: .int .i64 (j : Int) :: .pointer (some ((ad).add (j * 4))) :: .agg ([.int .u32 x.1, .int .u32 x.2.1, .int .i64 x.2.2.1, .int .u32 x.2.2.2] : List Value).toArray :: .pointer (some ⟨g72, 0, none⟩) :: .agg ([.int .u32 x.1, .int .u32 x.2.1] : List Value).toArray :: .bool (lbOk x.1 x.2.1) :: .bool bz83 :: .bool bz83 :: uz54 :: uz55 :: uz56 :: uz57 :: .bool bz84 :: .bool bz84 :: uz60 :: uz61 :: uz62 :: uz63 :: .bool bz87 :: .int .i64 (j : Int) :: .bool false :: .bool false :: U8n1 (undef :: undef :: undef :: .bool false :: q54.g :: q54.h :: q55.a :: q55.b :: q55.c :: q55.d :: q55.e :: q55.f :: q55.g :: U32n1 (U16n1 (undef :: undef :: undef :: []))))))))) rfl ?_
              refine hK99 _ _ ?_
              refine c_false rfl ?_
              refine wp_skip ?_
              refine hK97 _ _ ?_
              refine c_region (fun ops104 hops103 => ?_)
              refine p_run _ (x_move (.bool f) rfl rfl) rfl ?_
              refine p_run _ (x_move (.bool f) rfl rfl) rfl ?_
              refine p_tail 6 (fun a_ w_ => ∃ (uz82 uz83 uz84 uz85 uz86 : Value) (bz105 : Bool), a_ = fr (rcV r (some ad) c :: .pointer (some ⟨g5, 0, none⟩) :: q50.a :: .bool f :: .int .i64 (j : Int) :: .pointer (some ⟨g72, 0, none⟩) :: undef :: .pointer (some ⟨g5, 0, none⟩) :: V8.l qz19 (V8.l qz23 (V8.l qz31 (V8.l qz43 (.bool (decide (r.xe = 0 ∧ r.xq = 0)) :: .pointer (some ⟨g5, 7, none⟩) :: .slice (some ad) r.sn.length c :: .int .i64 (r.sn.length : Int) :: .int .i64 (j : Int) :: .bool (decide ((j : Int) < (r.sn.length : Int))) :: .int .i64 (j : Int) :: .pointer (some ((ad).add (j * 4))) :: .agg ([.int .u32 x.1, .int .u32 x.2.1, .int .i64 x.2.2.1, .int .u32 x.2.2.2] : List Value).toArray :: .pointer (some ⟨g72, 0, none⟩) :: .agg ([.int .u32 x.1, .int .u32 x.2.1] : List Value).toArray :: .bool (lbOk x.1 x.2.1) :: .bool bz83 :: .bool bz83 :: uz54 :: uz55 :: uz56 :: uz57 :: .bool bz84 :: .bool bz84 :: uz60 :: uz61 :: uz62 :: uz63 :: .bool bz87 :: .int .i64 (j : Int) :: .bool false :: .bool false :: U8n1 (undef :: undef :: undef :: .bool false :: .bool f :: .bool f :: uz82 :: uz83 :: uz84 :: uz85 :: uz86 :: .bool bz105 :: q55.g :: U32n1 (U16n1 (undef :: undef :: undef :: [])))))))) ∧ bz105 = (f || (decide (x.1 = r.xe ∧ x.2.1 = r.xq))) ∧ St w (fun _ => False) w_ ([blk g72 [.int .u32 x.1, .int .u32 x.2.1, .int .i64 x.2.2.1, .int .u32 x.2.2.2] 48, blk g5 (.int .u32 r.e :: .bool r.p :: .int .u32 r.b :: .int .u32 r.q :: .int .i64 r.l :: .int .u32 r.xe :: .int .u32 r.xq :: .slice (some ad) r.sn.length c :: .int .u64 r.s :: .int .u32 r.te :: .int .u32 r.tq :: .int .u32 r.be :: .int .u32 r.bq :: .int .i64 r.nx :: .int .i64 r.tt :: .int .i64 r.rt :: []) 34])) (fun T106 => ?_) ?_
              · cases f
                · skip
                  refine p_on rfl (by rw [hops103]; rfl) ?_
                  refine p_run _ (x_field (j := 0) _ _ rfl rfl Try.underlying48 rfl (by rfl) rfl) rfl ?_
                  refine p_on rfl (by rw [hops103]; rfl) ?_
                  refine p_run _ (x_loads [.int .u32 x.1, .int .u32 x.2.1] 2 rfl rfl (bkCells (HS.get (.head _)) 0 _ rfl) (by rfl) (by kernel_rfl) rfl) rfl ?_
                  refine p_on rfl (by rw [hops103]; rfl) ?_
                  refine p_run _ (x_field (j := 5) _ _ rfl rfl Try.underlying34 rfl (by rfl) rfl) rfl ?_
                  refine p_on rfl (by rw [hops103]; rfl) ?_
                  refine p_run _ (x_loads [.int .u32 r.xe, .int .u32 r.xq] 2 rfl rfl (bkCells (HS.get (.tail _ (.head _))) 5 _ rfl) (by rfl) (by kernel_rfl) rfl) rfl ?_
                  refine p_on rfl (by rw [hops103]; rfl) ?_
                  refine p_run _ (x_eq .eql (.agg ([.int .u32 x.1, .int .u32 x.2.1] : List Value).toArray) (.agg ([.int .u32 r.xe, .int .u32 r.xq] : List Value).toArray) (decide (x.1 = r.xe ∧ x.2.1 = r.xq)) ((decide (x.1 = r.xe ∧ x.2.1 = r.xq))) rfl rfl rfl (equal_lb _ x.1 x.2.1 r.xe r.xq) rfl rfl (guard_agg (by kernel_rfl)) (guard_agg (by kernel_rfl))) rfl ?_
                  refine p_run _ (x_pick false (.bool true) (.bool (decide (x.1 = r.xe ∧ x.2.1 = r.xq))) (.bool (decide (x.1 = r.xe ∧ x.2.1 = r.xq))) rfl rfl rfl rfl rfl) rfl ?_
                  exact T106 _ _ ⟨(.pointer (some ⟨g72, 0, none⟩)), (.agg ([.int .u32 x.1, .int .u32 x.2.1] : List Value).toArray), (.pointer (some ⟨g5, 5, none⟩)), (.agg ([.int .u32 r.xe, .int .u32 r.xq] : List Value).toArray), (.bool (decide (x.1 = r.xe ∧ x.2.1 = r.xq))), (decide (x.1 = r.xe ∧ x.2.1 = r.xq)), rfl, rfl, HS⟩
                · skip
                  refine p_off (by rw [hops103]; rfl) rfl ?_
                  refine p_off (by rw [hops103]; rfl) rfl ?_
                  refine p_off (by rw [hops103]; rfl) rfl ?_
                  refine p_off (by rw [hops103]; rfl) rfl ?_
                  refine p_off (by rw [hops103]; rfl) rfl ?_
                  refine p_run _ (x_pick true (.bool true) (undef) (.bool true) rfl rfl rfl rfl rfl) rfl ?_
                  exact T106 _ _ ⟨undef, undef, undef, undef, undef, true, rfl, rfl, HS⟩
              clear HS
              rintro _ w_ ⟨uz82, uz83, uz84, uz85, uz86, bz105, rfl, hbz105, HS⟩
              skip
              refine p_run _ (x_assign (.bool bz105) rfl rfl) rfl ?_
              clear hops103
              refine wpList_nil ?_
              refine hK67 _ _ ?_
              refine c_region (fun ops109 hops108 => ?_)
              clear hops108
              refine p_run _ (x_arith (k := .i64) (m := (j : Int)) (n := 1) .add (((j + 1 : Nat) : Int)) rfl rfl rfl (show IntKind.i64.wrap ((j : Int) + 1) = ((j + 1 : Nat) : Int) from ((wr64' (by omega)).trans (by omega))) rfl) rfl ?_
              refine p_run _ (x_move (.int .i64 ((j + 1 : Nat) : Int)) rfl rfl) rfl ?_
              refine wpList_nil ?_
              refine fr_at (l' := (rcV r (some ad) c :: .pointer (some ⟨g5, 0, none⟩) :: q50.a :: .bool bz105 :: .int .i64 (j : Int) :: .pointer (some ⟨g72, 0, none⟩) :: undef :: .pointer (some ⟨g5, 0, none⟩) :: V8.l qz19 (V8.l qz23 (V8.l qz31 (V8.l qz43 (.bool (decide (r.xe = 0 ∧ r.xq = 0)) :: .pointer (some ⟨g5, 7, none⟩) :: .slice (some ad) r.sn.length c :: .int .i64 (r.sn.length : Int) :: .int .i64 ((j + 1 : Nat) : Int) :: .bool (decide ((j : Int) < (r.sn.length : Int))) :: .int .i64 (j : Int) :: .pointer (some ((ad).add (j * 4))) :: .agg ([.int .u32 x.1, .int .u32 x.2.1, .int .i64 x.2.2.1, .int .u32 x.2.2.2] : List Value).toArray :: .pointer (some ⟨g72, 0, none⟩) :: .agg ([.int .u32 x.1, .int .u32 x.2.1] : List Value).toArray :: .bool (lbOk x.1 x.2.1) :: .bool bz83 :: .bool bz83 :: uz54 :: uz55 :: uz56 :: uz57 :: .bool bz84 :: .bool bz84 :: uz60 :: uz61 :: uz62 :: uz63 :: .bool bz87 :: .int .i64 (j : Int) :: .bool false :: .bool false :: U8n1 (undef :: undef :: undef :: .bool false :: .bool f :: .bool f :: uz82 :: uz83 :: uz84 :: uz85 :: uz86 :: .bool bz105 :: .int .i64 ((j + 1 : Nat) : Int) :: U32n1 (U16n1 (undef :: undef :: undef :: []))))))))) rfl ?_
              refine hJ57 (j + 1, x.1, x.2.1, bz105) _ _ ?_ ?_
              · show r.sn.length - (j + 1) < r.sn.length - j; omega
              · exact ⟨⟨q50.a, .int .i64 (j : Int), .pointer (some ⟨g72, 0, none⟩), .bool (decide ((j : Int) < (r.sn.length : Int))), .int .i64 (j : Int), .pointer (some ((ad).add (j * 4))), .agg ([.int .u32 x.1, .int .u32 x.2.1, .int .i64 x.2.2.1, .int .u32 x.2.2.2] : List Value).toArray, .pointer (some ⟨g72, 0, none⟩)⟩, ⟨.agg ([.int .u32 x.1, .int .u32 x.2.1] : List Value).toArray, .bool (lbOk x.1 x.2.1), .bool bz83, .bool bz83, uz54, uz55, uz56, uz57⟩, ⟨.bool bz84, .bool bz84, uz60, uz61, uz62, uz63, .bool bz87, .int .i64 (j : Int)⟩, ⟨.bool false, .bool false, undef, undef, undef, undef, undef, undef⟩, ⟨undef, undef, undef, undef, undef, .bool false, .bool f, .bool f⟩, ⟨uz82, uz83, uz84, uz85, uz86, .bool bz105, .int .i64 ((j + 1 : Nat) : Int), undef⟩, rfl, HS.drop, ⟨by omega, .inr ⟨by omega, x, hx, rfl, rfl⟩, y1, y3, hI1, by rw [hI2, hbz105, has_snoc]; exact (Bool.or_assoc _ _ _).symm⟩⟩
            · skip
              subst hp1 hp2
              refine free_frame (n := 15) (T := _) [0, 1, 3, 7, 15, 7, 39, 127, 255, 511, 7, 1031, 4095, 8191, 16383] [(0, 65), (1, 66), (2, 67), (3, 68), (4, 69), (5, 70), (6, 71), (7, 72), (8, 73), (9, 74), (10, 75), (11, 76), (12, 77), (13, 78), (14, 79)] (fun bq_ vq_ w_ => qv ((fun i_ => match i_ with | 0 => some (.int .i64 (j : Int)) | 1 => some (.bool true) | 2 => some (.bool true) | 3 => some (.pointer (some ⟨g5, 7, none⟩)) | 4 => some (.slice (some ad) r.sn.length c) | 5 => some (.int .i64 (j : Int)) | 6 => some (.int .i64 ((j - 1 : Nat) : Int)) | 7 => some (.pointer (some ((ad).add ((j - 1 : Nat) * 4)))) | 8 => some (.pointer (some (((ad).add ((j - 1 : Nat) * 4)).add 0))) | 9 => some (.agg ([.int .u32 x0.1, .int .u32 x0.2.1] : List Value).toArray) | 10 => some (.pointer (some ⟨g72, 0, none⟩)) | 11 => some (.agg ([.int .u32 x.1, .int .u32 x.2.1] : List Value).toArray) | 13 => some (.bool (!(ltL x0.1 x0.2.1 x.1 x.2.1))) | 14 => some (.bool (!(ltL x0.1 x0.2.1 x.1 x.2.1))) | _ => none) : Nat → Option Value) bq_ vq_ ∧ cond (bq_ 12) (vq_ 12 = .bool (ltL x0.1 x0.2.1 x.1 x.2.1) ∧ St w (fun _ => False) w_ ([blk g72 [.int .u32 x.1, .int .u32 x.2.1, .int .i64 x.2.2.1, .int .u32 x.2.2.2] 48, blk g5 (.int .u32 r.e :: .bool r.p :: .int .u32 r.b :: .int .u32 r.q :: .int .i64 r.l :: .int .u32 r.xe :: .int .u32 r.xq :: .slice (some ad) r.sn.length c :: .int .u64 r.s :: .int .u32 r.te :: .int .u32 r.tq :: .int .u32 r.be :: .int .u32 r.bq :: .int .i64 r.nx :: .int .i64 r.tt :: .int .i64 r.rt :: []) 34])) ((St w (fun _ => False) w_ ([blk g72 [.int .u32 x.1, .int .u32 x.2.1, .int .i64 x.2.2.1, .int .u32 x.2.2.2] 48, blk g5 (.int .u32 r.e :: .bool r.p :: .int .u32 r.b :: .int .u32 r.q :: .int .i64 r.l :: .int .u32 r.xe :: .int .u32 r.xq :: .slice (some ad) r.sn.length c :: .int .u64 r.s :: .int .u32 r.te :: .int .u32 r.tq :: .int .u32 r.be :: .int .u32 r.bq :: .int .i64 r.nx :: .int .i64 r.tt :: .int .i64 r.rt :: []) 34])))) (by kernel_rfl) rfl rfl (by kernel_rfl) (by kernel_rfl) rfl (by kernel_rfl) (by kernel_rfl) ⟨qv_none, HS.draw⟩ ?_ ?_
              · clear HS
                intro i_ hi_ bq_ vq_ a_ w_ hG hb_ hon hoff hfr hel hval
                obtain ⟨hV, hE⟩ := hG
                have hi_ := List.mem_range.1 hi_
                obtain ⟨l_, rfl⟩ := hfr
                have hv_ := fun (j t : Nat) (v : Value) (h1 : (j, t) ∈ [(0, 65), (1, 66), (2, 67), (3, 68), (4, 69), (5, 70), (6, 71), (7, 72), (8, 73), (9, 74), (10, 75), (11, 76), (12, 77), (13, 78), (14, 79)]) h2 h3 => (hval (j, t) h1 h3).trans (congrArg some (hV j v h2 h3))
                have hcs : i_ = 0 ∨ i_ = 1 ∨ i_ = 2 ∨ i_ = 3 ∨ i_ = 4 ∨ i_ = 5 ∨ i_ = 6 ∨ i_ = 7 ∨ i_ = 8 ∨ i_ = 9 ∨ i_ = 10 ∨ i_ = 11 ∨ i_ = 12 ∨ i_ = 13 ∨ i_ = 14 := by omega
                rcases hcs with rfl | rfl | rfl | rfl | rfl | rfl | rfl | rfl | rfl | rfl | rfl | rfl | rfl | rfl | rfl
                · have e4 : evl l_ (.tmp 4) = .int .i64 (j : Int) := evl_of ((hel 4 (by decide)).trans rfl)
                  exact ⟨_, rfl, fun K_ hK_ => q_op _ (x_move (.int .i64 (j : Int)) rfl e4) (hK_ _ _ ⟨qv_up hV (fun _ h => Option.some.inj h), hE⟩)⟩
                · have e65 : evl l_ (.tmp 65) = .int .i64 (j : Int) := evl_of (hv_ 0 65 _ (by decide) rfl (hon 0 (by decide)))
                  exact ⟨_, rfl, fun K_ hK_ => q_op _ (x_cmp (k := .i64) (m := (j : Int)) (n := 0) .gtr true rfl e65 rfl (show decide _ = true from decide_eq_true (by omega)) rfl) (hK_ _ _ ⟨qv_up hV (fun _ h => Option.some.inj h), hE⟩)⟩
                · have e66 : evl l_ (.tmp 66) = .bool true := evl_of (hv_ 1 66 _ (by decide) rfl (hon 1 (by decide)))
                  exact ⟨_, rfl, fun K_ hK_ => q_op _ (x_move (.bool true) rfl e66) (hK_ _ _ ⟨qv_up hV (fun _ h => Option.some.inj h), hE⟩)⟩
                · have h67 : (fr l_).tmps[67]? = some (.bool true) := hv_ 2 67 _ (by decide) rfl (hon 2 (by decide))
                  have e1 : evl l_ (.tmp 1) = .pointer (some ⟨g5, 0, none⟩) := evl_of ((hel 1 (by decide)).trans rfl)
                  have e67 : evl l_ (.tmp 67) = .bool true := evl_of h67
                  exact ⟨_, rfl, fun K_ hK_ => q_opG (wanted_on (t := 67) rfl rfl rfl h67) _ (x_field (j := 7) _ _ rfl e1 Try.underlying34 rfl (by rfl) rfl) (hK_ _ _ ⟨qv_up hV (fun _ h => Option.some.inj h), hE⟩)⟩
                · have h67 : (fr l_).tmps[67]? = some (.bool true) := hv_ 2 67 _ (by decide) rfl (hon 2 (by decide))
                  have hE0 := hE
                  rw [show bq_ 12 = false from (hoff 12 (by decide))] at hE0
                  simp only [cond_true, cond_false] at hE0
                  have HS := hE0
                  have e67 : evl l_ (.tmp 67) = .bool true := evl_of h67
                  have e68 : evl l_ (.tmp 68) = .pointer (some ⟨g5, 7, none⟩) := evl_of (hv_ 3 68 _ (by decide) rfl (hon 3 (by decide)))
                  exact ⟨_, rfl, fun K_ hK_ => q_opG (wanted_on (t := 67) rfl rfl rfl h67) _ (x_load (.slice (some ad) r.sn.length c) rfl e68 (bkCell (HS.get (.tail _ (.head _))) 7 _ rfl) (by rfl)) (hK_ _ _ ⟨qv_up hV (fun _ h => Option.some.inj h), hE⟩)⟩
                · have h67 : (fr l_).tmps[67]? = some (.bool true) := hv_ 2 67 _ (by decide) rfl (hon 2 (by decide))
                  have e4 : evl l_ (.tmp 4) = .int .i64 (j : Int) := evl_of ((hel 4 (by decide)).trans rfl)
                  have e67 : evl l_ (.tmp 67) = .bool true := evl_of h67
                  exact ⟨_, rfl, fun K_ hK_ => q_opG (wanted_on (t := 67) rfl rfl rfl h67) _ (x_move (.int .i64 (j : Int)) rfl e4) (hK_ _ _ ⟨qv_up hV (fun _ h => Option.some.inj h), hE⟩)⟩
                · have h67 : (fr l_).tmps[67]? = some (.bool true) := hv_ 2 67 _ (by decide) rfl (hon 2 (by decide))
                  have e67 : evl l_ (.tmp 67) = .bool true := evl_of h67
                  have e70 : evl l_ (.tmp 70) = .int .i64 (j : Int) := evl_of (hv_ 5 70 _ (by decide) rfl (hon 5 (by decide)))
                  exact ⟨_, rfl, fun K_ hK_ => q_opG (wanted_on (t := 67) rfl rfl rfl h67) _ (x_arith (k := .i64) (m := (j : Int)) (n := 1) .sub (((j - 1 : Nat) : Int)) rfl e70 rfl (show IntKind.i64.wrap ((j : Int) - 1) = ((j - 1 : Nat) : Int) from ((wr64' (by omega)).trans (by omega))) rfl) (hK_ _ _ ⟨qv_up hV (fun _ h => Option.some.inj h), hE⟩)⟩
                · have h67 : (fr l_).tmps[67]? = some (.bool true) := hv_ 2 67 _ (by decide) rfl (hon 2 (by decide))
                  have e67 : evl l_ (.tmp 67) = .bool true := evl_of h67
                  have e69 : evl l_ (.tmp 69) = .slice (some ad) r.sn.length c := evl_of (hv_ 4 69 _ (by decide) rfl (hon 4 (by decide)))
                  have e71 : evl l_ (.tmp 71) = .int .i64 ((j - 1 : Nat) : Int) := evl_of (hv_ 6 71 _ (by decide) rfl (hon 6 (by decide)))
                  exact ⟨_, rfl, fun K_ hK_ => q_opG (wanted_on (t := 67) rfl rfl rfl h67) _ (x_index (A := ad) (j := (j - 1 : Nat) * 4) (sz := 4) rfl e69 e71 Try.underlying29 (by kernel_rfl) (by omega) rfl) (hK_ _ _ ⟨qv_up hV (fun _ h => Option.some.inj h), hE⟩)⟩
                · have h67 : (fr l_).tmps[67]? = some (.bool true) := hv_ 2 67 _ (by decide) rfl (hon 2 (by decide))
                  have e67 : evl l_ (.tmp 67) = .bool true := evl_of h67
                  have e72 : evl l_ (.tmp 72) = .pointer (some ((ad).add ((j - 1 : Nat) * 4))) := evl_of (hv_ 7 72 _ (by decide) rfl (hon 7 (by decide)))
                  exact ⟨_, rfl, fun K_ hK_ => q_opG (wanted_on (t := 67) rfl rfl rfl h67) _ (x_fieldA _ _ rfl e72 Try.underlying48 rfl (by rfl)) (hK_ _ _ ⟨qv_up hV (fun _ h => Option.some.inj h), hE⟩)⟩
                · have h67 : (fr l_).tmps[67]? = some (.bool true) := hv_ 2 67 _ (by decide) rfl (hon 2 (by decide))
                  have hE0 := hE
                  rw [show bq_ 12 = false from (hoff 12 (by decide))] at hE0
                  simp only [cond_true, cond_false] at hE0
                  have HS := hE0
                  have e67 : evl l_ (.tmp 67) = .bool true := evl_of h67
                  have e73 : evl l_ (.tmp 73) = .pointer (some (((ad).add ((j - 1 : Nat) * 4)).add 0)) := evl_of (hv_ 8 73 _ (by decide) rfl (hon 8 (by decide)))
                  exact ⟨_, rfl, fun K_ hK_ => q_opG (wanted_on (t := 67) rfl rfl rfl h67) _ (x_loads [.int .u32 x0.1, .int .u32 x0.2.1] 2 rfl e73 (sn_lab (Kd.C_below hA HS.belowOf) hx0) (by rfl) (by kernel_rfl) rfl) (hK_ _ _ ⟨qv_up hV (fun _ h => Option.some.inj h), hE⟩)⟩
                · have h67 : (fr l_).tmps[67]? = some (.bool true) := hv_ 2 67 _ (by decide) rfl (hon 2 (by decide))
                  have e5 : evl l_ (.tmp 5) = .pointer (some ⟨g72, 0, none⟩) := evl_of ((hel 5 (by decide)).trans rfl)
                  have e67 : evl l_ (.tmp 67) = .bool true := evl_of h67
                  exact ⟨_, rfl, fun K_ hK_ => q_opG (wanted_on (t := 67) rfl rfl rfl h67) _ (x_field (j := 0) _ _ rfl e5 Try.underlying48 rfl (by rfl) rfl) (hK_ _ _ ⟨qv_up hV (fun _ h => Option.some.inj h), hE⟩)⟩
                · have h67 : (fr l_).tmps[67]? = some (.bool true) := hv_ 2 67 _ (by decide) rfl (hon 2 (by decide))
                  have hE0 := hE
                  rw [show bq_ 12 = false from (hoff 12 (by decide))] at hE0
                  simp only [cond_true, cond_false] at hE0
                  have HS := hE0
                  have e67 : evl l_ (.tmp 67) = .bool true := evl_of h67
                  have e75 : evl l_ (.tmp 75) = .pointer (some ⟨g72, 0, none⟩) := evl_of (hv_ 10 75 _ (by decide) rfl (hon 10 (by decide)))
                  exact ⟨_, rfl, fun K_ hK_ => q_opG (wanted_on (t := 67) rfl rfl rfl h67) _ (x_loads [.int .u32 x.1, .int .u32 x.2.1] 2 rfl e75 (bkCells (HS.get (.head _)) 0 _ rfl) (by rfl) (by kernel_rfl) rfl) (hK_ _ _ ⟨qv_up hV (fun _ h => Option.some.inj h), hE⟩)⟩
                · have h67 : (fr l_).tmps[67]? = some (.bool true) := hv_ 2 67 _ (by decide) rfl (hon 2 (by decide))
                  have h74 : (fr l_).tmps[74]? = some (.agg ([.int .u32 x0.1, .int .u32 x0.2.1] : List Value).toArray) := hv_ 9 74 _ (by decide) rfl (hon 9 (by decide))
                  have h76 : (fr l_).tmps[76]? = some (.agg ([.int .u32 x.1, .int .u32 x.2.1] : List Value).toArray) := hv_ 11 76 _ (by decide) rfl (hon 11 (by decide))
                  have hE0 := hE
                  rw [show bq_ 12 = false from hb_] at hE0
                  simp only [cond_true, cond_false] at hE0
                  have HS := hE0
                  have e67 : evl l_ (.tmp 67) = .bool true := evl_of h67
                  have e74 : evl l_ (.tmp 74) = .agg ([.int .u32 x0.1, .int .u32 x0.2.1] : List Value).toArray := evl_of h74
                  have e76 : evl l_ (.tmp 76) = .agg ([.int .u32 x.1, .int .u32 x.2.1] : List Value).toArray := evl_of h76
                  refine ⟨_, rfl, fun K_ hK_ => wp_of_listG rfl (wanted_on (t := 67) rfl rfl rfl h67) ?_⟩
                  intro ops_
                  refine w_call [.agg ([.int .u32 x0.1, .int .u32 x0.2.1] : List Value).toArray, .agg ([.int .u32 x.1, .int .u32 x.2.1] : List Value).toArray] Try.func43 (by kernel_rfl) (by rfl) (by simp only [List.map_cons, List.map_nil, e74, e76] <;> rfl) ?_
                  refine (r3less_any _ x0.1 x0.2.1 x.1 x.2.1).mono ?_
                  rintro e w901201 ⟨rfl, hb_⟩
                  replace HS := HS.here hb_
                  clear hb_
                  refine ⟨_, rfl, ?_⟩
                  refine wpList_nil ?_
                  refine norm_put (hK_ (.bool (ltL x0.1 x0.2.1 x.1 x.2.1)) _ ⟨qv_up hV (by intro _ h; cases h), ?_⟩)
                  show cond true _ _
                  rw [cond_true]
                  exact ⟨rfl, ((HS.front 1 rfl).front 1 rfl)⟩
                · have h67 : (fr l_).tmps[67]? = some (.bool true) := hv_ 2 67 _ (by decide) rfl (hon 2 (by decide))
                  have h77 := hval (12, 77) (by decide) (hon 12 (by decide))
                  have hE0 := hE
                  rw [show bq_ 12 = true from (hon 12 (by decide))] at hE0
                  simp only [cond_true, cond_false] at hE0
                  obtain ⟨hv12, HS⟩ := hE0
                  rw [hv12] at h77
                  have e67 : evl l_ (.tmp 67) = .bool true := evl_of h67
                  have e77 : evl l_ (.tmp 77) = .bool (ltL x0.1 x0.2.1 x.1 x.2.1) := evl_of h77
                  exact ⟨_, rfl, fun K_ hK_ => q_opG (wanted_on (t := 67) rfl rfl rfl h67) _ (x_not (ltL x0.1 x0.2.1 x.1 x.2.1) rfl e77) (hK_ _ _ ⟨qv_up hV (fun _ h => Option.some.inj h), hE⟩)⟩
                · have e67 : evl l_ (.tmp 67) = .bool true := evl_of (hv_ 2 67 _ (by decide) rfl (hon 2 (by decide)))
                  have e78 : evl l_ (.tmp 78) = .bool (!(ltL x0.1 x0.2.1 x.1 x.2.1)) := evl_of (hv_ 13 78 _ (by decide) rfl (hon 13 (by decide)))
                  exact ⟨_, rfl, fun K_ hK_ => q_op _ (x_pick true (.bool (!(ltL x0.1 x0.2.1 x.1 x.2.1))) (.bool false) (.bool (!(ltL x0.1 x0.2.1 x.1 x.2.1))) rfl e67 e78 rfl rfl) (hK_ _ _ ⟨qv_up hV (fun _ h => Option.some.inj h), hE⟩)⟩
              intro bq_ vq_ w_ hall hG
              obtain ⟨hV, hE⟩ := hG
              clear HS
              rw [show bq_ 12 = true from hall 12 (by decide)] at hE
              simp only [cond_true] at hE
              obtain ⟨hv12, HS⟩ := hE
              have hv0 := hV 0 _ rfl (hall 0 (by decide))
              have hv1 := hV 1 _ rfl (hall 1 (by decide))
              have hv2 := hV 2 _ rfl (hall 2 (by decide))
              have hv3 := hV 3 _ rfl (hall 3 (by decide))
              have hv4 := hV 4 _ rfl (hall 4 (by decide))
              have hv5 := hV 5 _ rfl (hall 5 (by decide))
              have hv6 := hV 6 _ rfl (hall 6 (by decide))
              have hv7 := hV 7 _ rfl (hall 7 (by decide))
              have hv8 := hV 8 _ rfl (hall 8 (by decide))
              have hv9 := hV 9 _ rfl (hall 9 (by decide))
              have hv10 := hV 10 _ rfl (hall 10 (by decide))
              have hv11 := hV 11 _ rfl (hall 11 (by decide))
              have hv13 := hV 13 _ rfl (hall 13 (by decide))
              have hv14 := hV 14 _ rfl (hall 14 (by decide))
              clear hV hall
              rw [putSel_fr]
              simp only [tells, List.map_cons, List.map_nil, setAll, List.set_cons_succ, List.set_cons_zero, hv0, hv1, hv2, hv3, hv4, hv5, hv6, hv7, hv8, hv9, hv10, hv11, hv12, hv13, hv14]
              clear hv0 hv1 hv2 hv3 hv4 hv5 hv6 hv7 hv8 hv9 hv10 hv11 hv12 hv13 hv14
              generalize w_ = w901301 at HS ⊢
              refine fr_at (l' := (rcV r (some ad) c :: .pointer (some ⟨g5, 0, none⟩) :: q50.a :: .bool f :: .int .i64 (j : Int) :: .pointer (some ⟨g72, 0, none⟩) :: undef :: .pointer (some ⟨g5, 0, none⟩) :: V8.l qz19 (V8.l qz23 (V8.l qz31 (V8.l qz43 (.bool (decide (r.xe = 0 ∧ r.xq = 0)) :: .pointer (some ⟨g5, 7, none⟩) :: .slice (some ad) r.sn.length c :: .int .i64 (r.sn.length : Int) :: .int .i64 (j : Int) :: .bool (decide ((j : Int) < (r.sn.length : Int))) :: .int .i64 (j : Int) :: .pointer (some ((ad).add (j * 4))) :: .agg ([.int .u32 x.1, .int .u32 x.2.1, .int .i64 x.2.2.1, .int .u32 x.2.2.2] : List Value).toArray :: .pointer (some ⟨g72, 0, none⟩) :: .agg ([.int .u32 x.1, .int .u32 x.2.1] : List Value).toArray :: .bool (lbOk x.1 x.2.1) :: .bool bz83 :: .bool bz83 :: uz54 :: uz55 :: uz56 :: uz57 :: .bool bz84 :: .bool bz84 :: uz60 :: uz61 :: uz62 :: uz63 :: .bool bz87 :: .int .i64 (j : Int) :: .bool true :: .bool true :: .pointer (some ⟨g5, 7, none⟩) :: .slice (some ad) r.sn.length c :: .int .i64 (j : Int) :: .int .i64 ((j - 1 : Nat) : Int) :: .pointer (some ((ad).add ((j - 1 : Nat) * 4))) :: .pointer (some (((ad).add ((j - 1 : Nat) * 4)).add 0)) :: .agg ([.int .u32 x0.1, .int .u32 x0.2.1] : List Value).toArray :: .pointer (some ⟨g72, 0, none⟩) :: .agg ([.int .u32 x.1, .int .u32 x.2.1] : List Value).toArray :: .bool (ltL x0.1 x0.2.1 x.1 x.2.1) :: .bool (!(ltL x0.1 x0.2.1 x.1 x.2.1)) :: .bool (!(ltL x0.1 x0.2.1 x.1 x.2.1)) :: q54.g :: q54.h :: q55.a :: q55.b :: q55.c :: q55.d :: q55.e :: q55.f :: q55.g :: U32n1 (U16n1 (undef :: undef :: undef :: [])))))))) rfl ?_
              refine hK99 _ _ ?_
              refine c_cond (t := !(ltL x0.1 x0.2.1 x.1 x.2.1)) rfl (fun hc901302 => ?_) (fun hc901302 => ?_)
              · have hlt_ : ltL x0.1 x0.2.1 x.1 x.2.1 = false := by simpa using hc901302
                have hno : rcOk r = false := rc_long (hI1.trans (sn_halt hlt_))
                refine wp_seq_k (fun K901303 hK901304 => ?_)
                refine c_region (fun ops901306 hops901305 => ?_)
                clear hops901305
                refine p_run _ (x_assign (.bool false) rfl rfl) rfl ?_
                refine wpList_nil ?_
                refine hK901304 _ _ ?_
                refine wp_ret ?_
                try simp only [Exit.inBlock, Exit.then]
                refine c_ret (.bool false) (r_tmp rfl rfl) ?_
                rw [hno]
                exact ⟨rfl, HS.belowOf⟩
              · have hlt_ : ltL x0.1 x0.2.1 x.1 x.2.1 = true := by simpa using hc901302
                rw [sn_step h1_ h3_ hlt_] at hI1
                refine wp_skip ?_
                refine hK97 _ _ ?_
                refine c_region (fun ops901308 hops901307 => ?_)
                refine p_run _ (x_move (.bool f) rfl rfl) rfl ?_
                refine p_run _ (x_move (.bool f) rfl rfl) rfl ?_
                refine p_tail 6 (fun a_ w_ => ∃ (uz82 uz83 uz84 uz85 uz86 : Value) (bz901309 : Bool), a_ = fr (rcV r (some ad) c :: .pointer (some ⟨g5, 0, none⟩) :: q50.a :: .bool f :: .int .i64 (j : Int) :: .pointer (some ⟨g72, 0, none⟩) :: undef :: .pointer (some ⟨g5, 0, none⟩) :: V8.l qz19 (V8.l qz23 (V8.l qz31 (V8.l qz43 (.bool (decide (r.xe = 0 ∧ r.xq = 0)) :: .pointer (some ⟨g5, 7, none⟩) :: .slice (some ad) r.sn.length c :: .int .i64 (r.sn.length : Int) :: .int .i64 (j : Int) :: .bool (decide ((j : Int) < (r.sn.length : Int))) :: .int .i64 (j : Int) :: .pointer (some ((ad).add (j * 4))) :: .agg ([.int .u32 x.1, .int .u32 x.2.1, .int .i64 x.2.2.1, .int .u32 x.2.2.2] : List Value).toArray :: .pointer (some ⟨g72, 0, none⟩) :: .agg ([.int .u32 x.1, .int .u32 x.2.1] : List Value).toArray :: .bool (lbOk x.1 x.2.1) :: .bool bz83 :: .bool bz83 :: uz54 :: uz55 :: uz56 :: uz57 :: .bool bz84 :: .bool bz84 :: uz60 :: uz61 :: uz62 :: uz63 :: .bool bz87 :: .int .i64 (j : Int) :: .bool true :: .bool true :: .pointer (some ⟨g5, 7, none⟩) :: .slice (some ad) r.sn.length c :: .int .i64 (j : Int) :: .int .i64 ((j - 1 : Nat) : Int) :: .pointer (some ((ad).add ((j - 1 : Nat) * 4))) :: .pointer (some (((ad).add ((j - 1 : Nat) * 4)).add 0)) :: .agg ([.int .u32 x0.1, .int .u32 x0.2.1] : List Value).toArray :: .pointer (some ⟨g72, 0, none⟩) :: .agg ([.int .u32 x.1, .int .u32 x.2.1] : List Value).toArray :: .bool (ltL x0.1 x0.2.1 x.1 x.2.1) :: .bool (!(ltL x0.1 x0.2.1 x.1 x.2.1)) :: .bool (!(ltL x0.1 x0.2.1 x.1 x.2.1)) :: .bool f :: .bool f :: uz82 :: uz83 :: uz84 :: uz85 :: uz86 :: .bool bz901309 :: q55.g :: U32n1 (U16n1 (undef :: undef :: undef :: []))))))) ∧ bz901309 = (f || (decide (x.1 = r.xe ∧ x.2.1 = r.xq))) ∧ St w (fun _ => False) w_ ([blk g72 [.int .u32 x.1, .int .u32 x.2.1, .int .i64 x.2.2.1, .int .u32 x.2.2.2] 48, blk g5 (.int .u32 r.e :: .bool r.p :: .int .u32 r.b :: .int .u32 r.q :: .int .i64 r.l :: .int .u32 r.xe :: .int .u32 r.xq :: .slice (some ad) r.sn.length c :: .int .u64 r.s :: .int .u32 r.te :: .int .u32 r.tq :: .int .u32 r.be :: .int .u32 r.bq :: .int .i64 r.nx :: .int .i64 r.tt :: .int .i64 r.rt :: []) 34])) (fun T901310 => ?_) ?_
                · cases f
                  · skip
                    refine p_on rfl (by rw [hops901307]; rfl) ?_
                    refine p_run _ (x_field (j := 0) _ _ rfl rfl Try.underlying48 rfl (by rfl) rfl) rfl ?_
                    refine p_on rfl (by rw [hops901307]; rfl) ?_
                    refine p_run _ (x_loads [.int .u32 x.1, .int .u32 x.2.1] 2 rfl rfl (bkCells (HS.get (.head _)) 0 _ rfl) (by rfl) (by kernel_rfl) rfl) rfl ?_
                    refine p_on rfl (by rw [hops901307]; rfl) ?_
                    refine p_run _ (x_field (j := 5) _ _ rfl rfl Try.underlying34 rfl (by rfl) rfl) rfl ?_
                    refine p_on rfl (by rw [hops901307]; rfl) ?_
                    refine p_run _ (x_loads [.int .u32 r.xe, .int .u32 r.xq] 2 rfl rfl (bkCells (HS.get (.tail _ (.head _))) 5 _ rfl) (by rfl) (by kernel_rfl) rfl) rfl ?_
                    refine p_on rfl (by rw [hops901307]; rfl) ?_
                    refine p_run _ (x_eq .eql (.agg ([.int .u32 x.1, .int .u32 x.2.1] : List Value).toArray) (.agg ([.int .u32 r.xe, .int .u32 r.xq] : List Value).toArray) (decide (x.1 = r.xe ∧ x.2.1 = r.xq)) ((decide (x.1 = r.xe ∧ x.2.1 = r.xq))) rfl rfl rfl (equal_lb _ x.1 x.2.1 r.xe r.xq) rfl rfl (guard_agg (by kernel_rfl)) (guard_agg (by kernel_rfl))) rfl ?_
                    refine p_run _ (x_pick false (.bool true) (.bool (decide (x.1 = r.xe ∧ x.2.1 = r.xq))) (.bool (decide (x.1 = r.xe ∧ x.2.1 = r.xq))) rfl rfl rfl rfl rfl) rfl ?_
                    exact T901310 _ _ ⟨(.pointer (some ⟨g72, 0, none⟩)), (.agg ([.int .u32 x.1, .int .u32 x.2.1] : List Value).toArray), (.pointer (some ⟨g5, 5, none⟩)), (.agg ([.int .u32 r.xe, .int .u32 r.xq] : List Value).toArray), (.bool (decide (x.1 = r.xe ∧ x.2.1 = r.xq))), (decide (x.1 = r.xe ∧ x.2.1 = r.xq)), rfl, rfl, HS⟩
                  · skip
                    refine p_off (by rw [hops901307]; rfl) rfl ?_
                    refine p_off (by rw [hops901307]; rfl) rfl ?_
                    refine p_off (by rw [hops901307]; rfl) rfl ?_
                    refine p_off (by rw [hops901307]; rfl) rfl ?_
                    refine p_off (by rw [hops901307]; rfl) rfl ?_
                    refine p_run _ (x_pick true (.bool true) (undef) (.bool true) rfl rfl rfl rfl rfl) rfl ?_
                    exact T901310 _ _ ⟨undef, undef, undef, undef, undef, true, rfl, rfl, HS⟩
                clear HS
                rintro _ w_ ⟨uz82, uz83, uz84, uz85, uz86, bz901309, rfl, hbz901309, HS⟩
                skip
                refine p_run _ (x_assign (.bool bz901309) rfl rfl) rfl ?_
                clear hops901307
                refine wpList_nil ?_
                refine hK67 _ _ ?_
                refine c_region (fun ops901313 hops901312 => ?_)
                clear hops901312
                refine p_run _ (x_arith (k := .i64) (m := (j : Int)) (n := 1) .add (((j + 1 : Nat) : Int)) rfl rfl rfl (show IntKind.i64.wrap ((j : Int) + 1) = ((j + 1 : Nat) : Int) from ((wr64' (by omega)).trans (by omega))) rfl) rfl ?_
                refine p_run _ (x_move (.int .i64 ((j + 1 : Nat) : Int)) rfl rfl) rfl ?_
                refine wpList_nil ?_
                refine fr_at (l' := (rcV r (some ad) c :: .pointer (some ⟨g5, 0, none⟩) :: q50.a :: .bool bz901309 :: .int .i64 (j : Int) :: .pointer (some ⟨g72, 0, none⟩) :: undef :: .pointer (some ⟨g5, 0, none⟩) :: V8.l qz19 (V8.l qz23 (V8.l qz31 (V8.l qz43 (.bool (decide (r.xe = 0 ∧ r.xq = 0)) :: .pointer (some ⟨g5, 7, none⟩) :: .slice (some ad) r.sn.length c :: .int .i64 (r.sn.length : Int) :: .int .i64 ((j + 1 : Nat) : Int) :: .bool (decide ((j : Int) < (r.sn.length : Int))) :: .int .i64 (j : Int) :: .pointer (some ((ad).add (j * 4))) :: .agg ([.int .u32 x.1, .int .u32 x.2.1, .int .i64 x.2.2.1, .int .u32 x.2.2.2] : List Value).toArray :: .pointer (some ⟨g72, 0, none⟩) :: .agg ([.int .u32 x.1, .int .u32 x.2.1] : List Value).toArray :: .bool (lbOk x.1 x.2.1) :: .bool bz83 :: .bool bz83 :: uz54 :: uz55 :: uz56 :: uz57 :: .bool bz84 :: .bool bz84 :: uz60 :: uz61 :: uz62 :: uz63 :: .bool bz87 :: .int .i64 (j : Int) :: .bool true :: .bool true :: .pointer (some ⟨g5, 7, none⟩) :: .slice (some ad) r.sn.length c :: .int .i64 (j : Int) :: .int .i64 ((j - 1 : Nat) : Int) :: .pointer (some ((ad).add ((j - 1 : Nat) * 4))) :: .pointer (some (((ad).add ((j - 1 : Nat) * 4)).add 0)) :: .agg ([.int .u32 x0.1, .int .u32 x0.2.1] : List Value).toArray :: .pointer (some ⟨g72, 0, none⟩) :: .agg ([.int .u32 x.1, .int .u32 x.2.1] : List Value).toArray :: .bool (ltL x0.1 x0.2.1 x.1 x.2.1) :: .bool (!(ltL x0.1 x0.2.1 x.1 x.2.1)) :: .bool (!(ltL x0.1 x0.2.1 x.1 x.2.1)) :: .bool f :: .bool f :: uz82 :: uz83 :: uz84 :: uz85 :: uz86 :: .bool bz901309 :: .int .i64 ((j + 1 : Nat) : Int) :: U32n1 (U16n1 (undef :: undef :: undef :: [])))))))) rfl ?_
                refine hJ57 (j + 1, x.1, x.2.1, bz901309) _ _ ?_ ?_
                · show r.sn.length - (j + 1) < r.sn.length - j; omega
                · exact ⟨⟨q50.a, .int .i64 (j : Int), .pointer (some ⟨g72, 0, none⟩), .bool (decide ((j : Int) < (r.sn.length : Int))), .int .i64 (j : Int), .pointer (some ((ad).add (j * 4))), .agg ([.int .u32 x.1, .int .u32 x.2.1, .int .i64 x.2.2.1, .int .u32 x.2.2.2] : List Value).toArray, .pointer (some ⟨g72, 0, none⟩)⟩, ⟨.agg ([.int .u32 x.1, .int .u32 x.2.1] : List Value).toArray, .bool (lbOk x.1 x.2.1), .bool bz83, .bool bz83, uz54, uz55, uz56, uz57⟩, ⟨.bool bz84, .bool bz84, uz60, uz61, uz62, uz63, .bool bz87, .int .i64 (j : Int)⟩, ⟨.bool true, .bool true, .pointer (some ⟨g5, 7, none⟩), .slice (some ad) r.sn.length c, .int .i64 (j : Int), .int .i64 ((j - 1 : Nat) : Int), .pointer (some ((ad).add ((j - 1 : Nat) * 4))), .pointer (some (((ad).add ((j - 1 : Nat) * 4)).add 0))⟩, ⟨.agg ([.int .u32 x0.1, .int .u32 x0.2.1] : List Value).toArray, .pointer (some ⟨g72, 0, none⟩), .agg ([.int .u32 x.1, .int .u32 x.2.1] : List Value).toArray, .bool (ltL x0.1 x0.2.1 x.1 x.2.1), .bool (!(ltL x0.1 x0.2.1 x.1 x.2.1)), .bool (!(ltL x0.1 x0.2.1 x.1 x.2.1)), .bool f, .bool f⟩, ⟨uz82, uz83, uz84, uz85, uz86, .bool bz901309, .int .i64 ((j + 1 : Nat) : Int), undef⟩, rfl, HS.drop, ⟨by omega, .inr ⟨by omega, x, hx, rfl, rfl⟩, y1, y3, hI1, by rw [hI2, hbz901309, has_snoc]; exact (Bool.or_assoc _ _ _).symm⟩⟩
        · have hlt : j = r.sn.length := by have := of_decide_eq_false hc65; omega
          subst hlt
          rw [List.drop_length] at hI1 hI2
          have hsn : snOk 0 0 r.sn = true := hI1
          have hfd : (decide (r.xe = 0 ∧ r.xq = 0) || snHas r.xe r.xq r.sn) = f := hI2.trans (Bool.or_false f)
          refine wp_exit ?_
          refine hK45 _ _ ?_
          refine wp_seq_k (fun K901314 hK901315 => ?_)
          refine c_region (fun ops901317 hops901316 => ?_)
          clear hops901316
          refine p_run _ (x_field (j := 8) _ _ rfl rfl Try.underlying34 rfl (by rfl) rfl) rfl ?_
          refine p_run _ (x_loads [.int .u64 r.s, .int .u32 r.te, .int .u32 r.tq, .int .u32 r.be, .int .u32 r.bq, .int .i64 r.nx, .int .i64 r.tt, .int .i64 r.rt] 8 rfl rfl (bkCells (HS.get (.head _)) 8 _ rfl) (by rfl) (by kernel_rfl) rfl) rfl ?_
          refine St.wAlloc HS (cs := [.int .u64 0, .int .u32 0, .int .u32 0, .int .u32 0, .int .u32 0, .int .i64 0, .int .i64 0, .int .i64 0]) (.agg [.int .u64 0, .int .u32 0, .int .u32 0, .int .u32 0, .int .u32 0, .int .i64 0, .int .i64 0, .int .i64 0].toArray) (by kernel_rfl) rfl ?_
          clear HS
          intro g901318 w901319 hg901320 HS
          refine St.stores (cs' := [.int .u64 r.s, .int .u32 r.te, .int .u32 r.tq, .int .u32 r.be, .int .u32 r.bq, .int .i64 r.nx, .int .i64 r.tt, .int .i64 r.rt]) HS [.int .u64 r.s, .int .u32 r.te, .int .u32 r.tq, .int .u32 r.be, .int .u32 r.bq, .int .i64 r.nx, .int .i64 r.tt, .int .i64 r.rt] 8 rfl rfl (by rfl) (by kernel_rfl) rfl (by simp) rfl ?_
          clear HS
          intro w901321 HS
          refine wpList_nil ?_
          refine hK901315 _ _ ?_
          refine wp_seq_k (fun K901322 hK901323 => ?_)
          refine wp_seq_k (fun K901324 hK901325 => ?_)
          rcases f with _ | _
          · skip
            refine free_frame (n := 7) (T := _) [0, 1, 3, 7, 7, 31, 63] [(0, 91), (1, 92), (2, 93), (3, 94), (4, 95), (5, 96), (6, 97)] (fun bq_ vq_ w_ => qv ((fun i_ => match i_ with | 0 => some (.bool false) | 1 => some (.bool true) | 2 => some (.bool true) | 3 => some (undef) | 4 => some (undef) | 5 => some (undef) | 6 => some (.bool true) | _ => none) : Nat → Option Value) bq_ vq_ ∧ (St w (fun _ => False) w_ ([blk g901318 [.int .u64 r.s, .int .u32 r.te, .int .u32 r.tq, .int .u32 r.be, .int .u32 r.bq, .int .i64 r.nx, .int .i64 r.tt, .int .i64 r.rt] 32, blk g5 (.int .u32 r.e :: .bool r.p :: .int .u32 r.b :: .int .u32 r.q :: .int .i64 r.l :: .int .u32 r.xe :: .int .u32 r.xq :: .slice A r.sn.length c :: .int .u64 r.s :: .int .u32 r.te :: .int .u32 r.tq :: .int .u32 r.be :: .int .u32 r.bq :: .int .i64 r.nx :: .int .i64 r.tt :: .int .i64 r.rt :: []) 34]))) (by kernel_rfl) rfl rfl (by kernel_rfl) (by kernel_rfl) rfl (by kernel_rfl) (by kernel_rfl) ⟨qv_none, HS.draw⟩ ?_ ?_
            · clear HS
              intro i_ hi_ bq_ vq_ a_ w_ hG hb_ hon hoff hfr hel hval
              obtain ⟨hV, hE⟩ := hG
              have hi_ := List.mem_range.1 hi_
              obtain ⟨l_, rfl⟩ := hfr
              have hv_ := fun (j t : Nat) (v : Value) (h1 : (j, t) ∈ [(0, 91), (1, 92), (2, 93), (3, 94), (4, 95), (5, 96), (6, 97)]) h2 h3 => (hval (j, t) h1 h3).trans (congrArg some (hV j v h2 h3))
              have hcs : i_ = 0 ∨ i_ = 1 ∨ i_ = 2 ∨ i_ = 3 ∨ i_ = 4 ∨ i_ = 5 ∨ i_ = 6 := by omega
              rcases hcs with rfl | rfl | rfl | rfl | rfl | rfl | rfl
              · have e3 : evl l_ (.tmp 3) = .bool false := evl_of ((hel 3 (by decide)).trans rfl)
                exact ⟨_, rfl, fun K_ hK_ => q_op _ (x_move (.bool false) rfl e3) (hK_ _ _ ⟨qv_up hV (fun _ h => Option.some.inj h), hE⟩)⟩
              · have e91 : evl l_ (.tmp 91) = .bool false := evl_of (hv_ 0 91 _ (by decide) rfl (hon 0 (by decide)))
                exact ⟨_, rfl, fun K_ hK_ => q_op _ (x_not false rfl e91) (hK_ _ _ ⟨qv_up hV (fun _ h => Option.some.inj h), hE⟩)⟩
              · have e92 : evl l_ (.tmp 92) = .bool true := evl_of (hv_ 1 92 _ (by decide) rfl (hon 1 (by decide)))
                exact ⟨_, rfl, fun K_ hK_ => q_op _ (x_move (.bool true) rfl e92) (hK_ _ _ ⟨qv_up hV (fun _ h => Option.some.inj h), hE⟩)⟩
              · have h93 : (fr l_).tmps[93]? = some (.bool true) := hv_ 2 93 _ (by decide) rfl (hon 2 (by decide))
                exact ⟨_, rfl, fun K_ hK_ => wp_offG (wanted_off (t := 93) rfl rfl rfl h93) (hK_ undef _ ⟨qv_up hV (fun _ h => Option.some.inj h), hE⟩)⟩
              · have h93 : (fr l_).tmps[93]? = some (.bool true) := hv_ 2 93 _ (by decide) rfl (hon 2 (by decide))
                exact ⟨_, rfl, fun K_ hK_ => wp_offG (wanted_off (t := 93) rfl rfl rfl h93) (hK_ undef _ ⟨qv_up hV (fun _ h => Option.some.inj h), hE⟩)⟩
              · have h93 : (fr l_).tmps[93]? = some (.bool true) := hv_ 2 93 _ (by decide) rfl (hon 2 (by decide))
                exact ⟨_, rfl, fun K_ hK_ => wp_offG (wanted_off (t := 93) rfl rfl rfl h93) (hK_ undef _ ⟨qv_up hV (fun _ h => Option.some.inj h), hE⟩)⟩
              · have e93 : evl l_ (.tmp 93) = .bool true := evl_of (hv_ 2 93 _ (by decide) rfl (hon 2 (by decide)))
                have e96 : evl l_ (.tmp 96) = undef := evl_of (hv_ 5 96 _ (by decide) rfl (hon 5 (by decide)))
                exact ⟨_, rfl, fun K_ hK_ => q_op _ (x_pick true (.bool true) (undef) (.bool true) rfl e93 rfl e96 rfl) (hK_ _ _ ⟨qv_up hV (fun _ h => Option.some.inj h), hE⟩)⟩
            intro bq_ vq_ w_ hall hG
            obtain ⟨hV, hE⟩ := hG
            clear HS
            have HS := hE
            have hv0 := hV 0 _ rfl (hall 0 (by decide))
            have hv1 := hV 1 _ rfl (hall 1 (by decide))
            have hv2 := hV 2 _ rfl (hall 2 (by decide))
            have hv3 := hV 3 _ rfl (hall 3 (by decide))
            have hv4 := hV 4 _ rfl (hall 4 (by decide))
            have hv5 := hV 5 _ rfl (hall 5 (by decide))
            have hv6 := hV 6 _ rfl (hall 6 (by decide))
            clear hV hall
            rw [putSel_fr]
            simp only [tells, List.map_cons, List.map_nil, setAll, List.set_cons_succ, List.set_cons_zero, hv0, hv1, hv2, hv3, hv4, hv5, hv6]
            clear hv0 hv1 hv2 hv3 hv4 hv5 hv6
            generalize w_ = w901328 at HS ⊢
            refine fr_at (l' := (rcV r A c :: .pointer (some ⟨g5, 0, none⟩) :: q50.a :: .bool false :: q50.b :: q50.c :: .pointer (some ⟨g901318, 0, none⟩) :: .pointer (some ⟨g5, 0, none⟩) :: V8.l qz19 (V8.l qz23 (V8.l qz31 (V8.l qz43 (.bool (decide (r.xe = 0 ∧ r.xq = 0)) :: .pointer (some ⟨g5, 7, none⟩) :: .slice A r.sn.length c :: .int .i64 (r.sn.length : Int) :: .int .i64 (r.sn.length : Int) :: .bool (decide ((r.sn.length : Int) < (r.sn.length : Int))) :: q50.e :: q50.f :: q50.g :: q50.h :: V8.l q51 (V8.l q52 (V8.l q53 (V8.l q54 (q55.a :: q55.b :: q55.c :: q55.d :: q55.e :: q55.f :: q55.g :: .pointer (some ⟨g5, 8, none⟩) :: .agg ([.int .u64 r.s, .int .u32 r.te, .int .u32 r.tq, .int .u32 r.be, .int .u32 r.bq, .int .i64 r.nx, .int .i64 r.tt, .int .i64 r.rt] : List Value).toArray :: .bool false :: .bool true :: .bool true :: undef :: undef :: undef :: .bool true :: U32n1 (U8n1 (undef :: undef :: [])))))))))))) rfl ?_
            refine hK901325 _ _ ?_
            refine c_true rfl ?_
            refine wp_seq_k (fun K901329 hK901330 => ?_)
            refine c_region (fun ops901332 hops901331 => ?_)
            clear hops901331
            refine p_run _ (x_move (.bool false) rfl rfl) rfl ?_
            refine p_run _ (x_assign (.bool false) rfl rfl) rfl ?_
            refine wpList_nil ?_
            refine hK901330 _ _ ?_
            refine wp_ret ?_
            try simp only [Exit.inBlock, Exit.then]
            refine c_ret (.bool false) (r_tmp rfl rfl) ?_
            have e1 : rcOk r = false := by rw [rc_fin bd.1 bd.2.1 bd.2.2 hsn, hfd]; rfl
            rw [e1]
            exact ⟨rfl, HS.belowOf⟩
          · skip
            refine free_frame (n := 7) (T := _) [0, 1, 3, 7, 7, 31, 63] [(0, 91), (1, 92), (2, 93), (3, 94), (4, 95), (5, 96), (6, 97)] (fun bq_ vq_ w_ => qv ((fun i_ => match i_ with | 0 => some (.bool true) | 1 => some (.bool false) | 2 => some (.bool false) | 3 => some (.agg ([.int .u64 r.s, .int .u32 r.te, .int .u32 r.tq, .int .u32 r.be, .int .u32 r.bq, .int .i64 r.nx, .int .i64 r.tt, .int .i64 r.rt] : List Value).toArray) | 5 => some (.bool (sgNone r.s r.te r.tq r.be r.bq r.nx r.tt r.rt)) | 6 => some (.bool (sgNone r.s r.te r.tq r.be r.bq r.nx r.tt r.rt)) | _ => none) : Nat → Option Value) bq_ vq_ ∧ cond (bq_ 4) (vq_ 4 = .agg ([.int .u64 0, .int .u32 0, .int .u32 0, .int .u32 0, .int .u32 0, .int .i64 0, .int .i64 0, .int .i64 (-1)] : List Value).toArray ∧ St w (fun _ => False) w_ ([blk g901318 [.int .u64 r.s, .int .u32 r.te, .int .u32 r.tq, .int .u32 r.be, .int .u32 r.bq, .int .i64 r.nx, .int .i64 r.tt, .int .i64 r.rt] 32, blk g5 (.int .u32 r.e :: .bool r.p :: .int .u32 r.b :: .int .u32 r.q :: .int .i64 r.l :: .int .u32 r.xe :: .int .u32 r.xq :: .slice A r.sn.length c :: .int .u64 r.s :: .int .u32 r.te :: .int .u32 r.tq :: .int .u32 r.be :: .int .u32 r.bq :: .int .i64 r.nx :: .int .i64 r.tt :: .int .i64 r.rt :: []) 34])) ((St w (fun _ => False) w_ ([blk g901318 [.int .u64 r.s, .int .u32 r.te, .int .u32 r.tq, .int .u32 r.be, .int .u32 r.bq, .int .i64 r.nx, .int .i64 r.tt, .int .i64 r.rt] 32, blk g5 (.int .u32 r.e :: .bool r.p :: .int .u32 r.b :: .int .u32 r.q :: .int .i64 r.l :: .int .u32 r.xe :: .int .u32 r.xq :: .slice A r.sn.length c :: .int .u64 r.s :: .int .u32 r.te :: .int .u32 r.tq :: .int .u32 r.be :: .int .u32 r.bq :: .int .i64 r.nx :: .int .i64 r.tt :: .int .i64 r.rt :: []) 34])))) (by kernel_rfl) rfl rfl (by kernel_rfl) (by kernel_rfl) rfl (by kernel_rfl) (by kernel_rfl) ⟨qv_none, HS.draw⟩ ?_ ?_
            · clear HS
              intro i_ hi_ bq_ vq_ a_ w_ hG hb_ hon hoff hfr hel hval
              obtain ⟨hV, hE⟩ := hG
              have hi_ := List.mem_range.1 hi_
              obtain ⟨l_, rfl⟩ := hfr
              have hv_ := fun (j t : Nat) (v : Value) (h1 : (j, t) ∈ [(0, 91), (1, 92), (2, 93), (3, 94), (4, 95), (5, 96), (6, 97)]) h2 h3 => (hval (j, t) h1 h3).trans (congrArg some (hV j v h2 h3))
              have hcs : i_ = 0 ∨ i_ = 1 ∨ i_ = 2 ∨ i_ = 3 ∨ i_ = 4 ∨ i_ = 5 ∨ i_ = 6 := by omega
              rcases hcs with rfl | rfl | rfl | rfl | rfl | rfl | rfl
              · have e3 : evl l_ (.tmp 3) = .bool true := evl_of ((hel 3 (by decide)).trans rfl)
                exact ⟨_, rfl, fun K_ hK_ => q_op _ (x_move (.bool true) rfl e3) (hK_ _ _ ⟨qv_up hV (fun _ h => Option.some.inj h), hE⟩)⟩
              · have e91 : evl l_ (.tmp 91) = .bool true := evl_of (hv_ 0 91 _ (by decide) rfl (hon 0 (by decide)))
                exact ⟨_, rfl, fun K_ hK_ => q_op _ (x_not true rfl e91) (hK_ _ _ ⟨qv_up hV (fun _ h => Option.some.inj h), hE⟩)⟩
              · have e92 : evl l_ (.tmp 92) = .bool false := evl_of (hv_ 1 92 _ (by decide) rfl (hon 1 (by decide)))
                exact ⟨_, rfl, fun K_ hK_ => q_op _ (x_move (.bool false) rfl e92) (hK_ _ _ ⟨qv_up hV (fun _ h => Option.some.inj h), hE⟩)⟩
              · have h93 : (fr l_).tmps[93]? = some (.bool false) := hv_ 2 93 _ (by decide) rfl (hon 2 (by decide))
                rcases hq4 : bq_ 4 with _ | _
                · skip
                  have hE0 := hE
                  rw [show bq_ 4 = false from hq4] at hE0
                  simp only [cond_true, cond_false] at hE0
                  have HS := hE0
                  have e6 : evl l_ (.tmp 6) = .pointer (some ⟨g901318, 0, none⟩) := evl_of ((hel 6 (by decide)).trans rfl)
                  have e93 : evl l_ (.tmp 93) = .bool false := evl_of h93
                  exact ⟨_, rfl, fun K_ hK_ => q_opG (wanted_on (t := 93) rfl rfl rfl h93) _ (x_loads [.int .u64 r.s, .int .u32 r.te, .int .u32 r.tq, .int .u32 r.be, .int .u32 r.bq, .int .i64 r.nx, .int .i64 r.tt, .int .i64 r.rt] 8 rfl e6 (bkCells (HS.get (.head _)) 0 _ rfl) (by rfl) (by kernel_rfl) rfl) (hK_ _ _ ⟨qv_up hV (fun _ h => Option.some.inj h), hE⟩)⟩
                · have hE0 := hE
                  rw [show bq_ 4 = true from hq4] at hE0
                  simp only [cond_true, cond_false] at hE0
                  obtain ⟨hv4, HS⟩ := hE0
                  have e6 : evl l_ (.tmp 6) = .pointer (some ⟨g901318, 0, none⟩) := evl_of ((hel 6 (by decide)).trans rfl)
                  have e93 : evl l_ (.tmp 93) = .bool false := evl_of h93
                  exact ⟨_, rfl, fun K_ hK_ => q_opG (wanted_on (t := 93) rfl rfl rfl h93) _ (x_loads [.int .u64 r.s, .int .u32 r.te, .int .u32 r.tq, .int .u32 r.be, .int .u32 r.bq, .int .i64 r.nx, .int .i64 r.tt, .int .i64 r.rt] 8 rfl e6 (bkCells (HS.get (.head _)) 0 _ rfl) (by rfl) (by kernel_rfl) rfl) (hK_ _ _ ⟨qv_up hV (fun _ h => Option.some.inj h), hE⟩)⟩
              · have h93 : (fr l_).tmps[93]? = some (.bool false) := hv_ 2 93 _ (by decide) rfl (hon 2 (by decide))
                have hE0 := hE
                rw [show bq_ 4 = false from hb_] at hE0
                simp only [cond_true, cond_false] at hE0
                have HS := hE0
                have e93 : evl l_ (.tmp 93) = .bool false := evl_of h93
                refine ⟨_, rfl, fun K_ hK_ => wp_of_listG rfl (wanted_on (t := 93) rfl rfl rfl h93) ?_⟩
                intro ops_
                refine w_call [] Try.func44 (by kernel_rfl) (by rfl) rfl ?_
                refine (r14empty_any _).mono ?_
                rintro e w900401 ⟨rfl, hb_⟩
                replace HS := HS.here hb_
                clear hb_
                refine ⟨_, rfl, ?_⟩
                refine wpList_nil ?_
                refine norm_put (hK_ (.agg ([.int .u64 0, .int .u32 0, .int .u32 0, .int .u32 0, .int .u32 0, .int .i64 0, .int .i64 0, .int .i64 (-1)] : List Value).toArray) _ ⟨qv_up hV (by intro _ h; cases h), ?_⟩)
                show cond true _ _
                rw [cond_true]
                exact ⟨rfl, ((HS.front 1 rfl).front 1 rfl)⟩
              · have h93 : (fr l_).tmps[93]? = some (.bool false) := hv_ 2 93 _ (by decide) rfl (hon 2 (by decide))
                have h95 := hval (4, 95) (by decide) (hon 4 (by decide))
                have hE0 := hE
                rw [show bq_ 4 = true from (hon 4 (by decide))] at hE0
                simp only [cond_true, cond_false] at hE0
                obtain ⟨hv4, HS⟩ := hE0
                rw [hv4] at h95
                have e93 : evl l_ (.tmp 93) = .bool false := evl_of h93
                have e94 : evl l_ (.tmp 94) = .agg ([.int .u64 r.s, .int .u32 r.te, .int .u32 r.tq, .int .u32 r.be, .int .u32 r.bq, .int .i64 r.nx, .int .i64 r.tt, .int .i64 r.rt] : List Value).toArray := evl_of (hv_ 3 94 _ (by decide) rfl (hon 3 (by decide)))
                have e95 : evl l_ (.tmp 95) = .agg ([.int .u64 0, .int .u32 0, .int .u32 0, .int .u32 0, .int .u32 0, .int .i64 0, .int .i64 0, .int .i64 (-1)] : List Value).toArray := evl_of h95
                exact ⟨_, rfl, fun K_ hK_ => q_opG (wanted_on (t := 93) rfl rfl rfl h93) _ (x_eq .eql (.agg ([.int .u64 r.s, .int .u32 r.te, .int .u32 r.tq, .int .u32 r.be, .int .u32 r.bq, .int .i64 r.nx, .int .i64 r.tt, .int .i64 r.rt] : List Value).toArray) (.agg ([.int .u64 0, .int .u32 0, .int .u32 0, .int .u32 0, .int .u32 0, .int .i64 0, .int .i64 0, .int .i64 (-1)] : List Value).toArray) (decide (r.s = 0 ∧ (r.te = 0 ∧ r.tq = 0) ∧ (r.be = 0 ∧ r.bq = 0) ∧ r.nx = 0 ∧ r.tt = 0 ∧ r.rt = (-1))) ((sgNone r.s r.te r.tq r.be r.bq r.nx r.tt r.rt)) rfl e94 e95 (equal_sg _ r.s r.te r.tq r.be r.bq r.nx r.tt r.rt 0 0 0 0 0 0 0 (-1)) rfl rfl (guard_agg (by kernel_rfl)) (guard_agg (by kernel_rfl))) (hK_ _ _ ⟨qv_up hV (fun _ h => Option.some.inj h), hE⟩)⟩
              · have e93 : evl l_ (.tmp 93) = .bool false := evl_of (hv_ 2 93 _ (by decide) rfl (hon 2 (by decide)))
                have e96 : evl l_ (.tmp 96) = .bool (sgNone r.s r.te r.tq r.be r.bq r.nx r.tt r.rt) := evl_of (hv_ 5 96 _ (by decide) rfl (hon 5 (by decide)))
                exact ⟨_, rfl, fun K_ hK_ => q_op _ (x_pick false (.bool true) (.bool (sgNone r.s r.te r.tq r.be r.bq r.nx r.tt r.rt)) (.bool (sgNone r.s r.te r.tq r.be r.bq r.nx r.tt r.rt)) rfl e93 rfl e96 rfl) (hK_ _ _ ⟨qv_up hV (fun _ h => Option.some.inj h), hE⟩)⟩
            intro bq_ vq_ w_ hall hG
            obtain ⟨hV, hE⟩ := hG
            clear HS
            rw [show bq_ 4 = true from hall 4 (by decide)] at hE
            simp only [cond_true] at hE
            obtain ⟨hv4, HS⟩ := hE
            have hv0 := hV 0 _ rfl (hall 0 (by decide))
            have hv1 := hV 1 _ rfl (hall 1 (by decide))
            have hv2 := hV 2 _ rfl (hall 2 (by decide))
            have hv3 := hV 3 _ rfl (hall 3 (by decide))
            have hv5 := hV 5 _ rfl (hall 5 (by decide))
            have hv6 := hV 6 _ rfl (hall 6 (by decide))
            clear hV hall
            rw [putSel_fr]
            simp only [tells, List.map_cons, List.map_nil, setAll, List.set_cons_succ, List.set_cons_zero, hv0, hv1, hv2, hv3, hv4, hv5, hv6]
            clear hv0 hv1 hv2 hv3 hv4 hv5 hv6
            generalize w_ = w900501 at HS ⊢
            refine fr_at (l' := (rcV r A c :: .pointer (some ⟨g5, 0, none⟩) :: q50.a :: .bool true :: q50.b :: q50.c :: .pointer (some ⟨g901318, 0, none⟩) :: .pointer (some ⟨g5, 0, none⟩) :: V8.l qz19 (V8.l qz23 (V8.l qz31 (V8.l qz43 (.bool (decide (r.xe = 0 ∧ r.xq = 0)) :: .pointer (some ⟨g5, 7, none⟩) :: .slice A r.sn.length c :: .int .i64 (r.sn.length : Int) :: .int .i64 (r.sn.length : Int) :: .bool (decide ((r.sn.length : Int) < (r.sn.length : Int))) :: q50.e :: q50.f :: q50.g :: q50.h :: V8.l q51 (V8.l q52 (V8.l q53 (V8.l q54 (q55.a :: q55.b :: q55.c :: q55.d :: q55.e :: q55.f :: q55.g :: .pointer (some ⟨g5, 8, none⟩) :: .agg ([.int .u64 r.s, .int .u32 r.te, .int .u32 r.tq, .int .u32 r.be, .int .u32 r.bq, .int .i64 r.nx, .int .i64 r.tt, .int .i64 r.rt] : List Value).toArray :: .bool true :: .bool false :: .bool false :: .agg ([.int .u64 r.s, .int .u32 r.te, .int .u32 r.tq, .int .u32 r.be, .int .u32 r.bq, .int .i64 r.nx, .int .i64 r.tt, .int .i64 r.rt] : List Value).toArray :: .agg ([.int .u64 0, .int .u32 0, .int .u32 0, .int .u32 0, .int .u32 0, .int .i64 0, .int .i64 0, .int .i64 (-1)] : List Value).toArray :: .bool (sgNone r.s r.te r.tq r.be r.bq r.nx r.tt r.rt) :: .bool (sgNone r.s r.te r.tq r.be r.bq r.nx r.tt r.rt) :: U32n1 (U8n1 (undef :: undef :: [])))))))))))) rfl ?_
            refine hK901325 _ _ ?_
            refine c_cond (t := (sgNone r.s r.te r.tq r.be r.bq r.nx r.tt r.rt)) rfl (fun hc900502 => ?_) (fun hc900502 => ?_)
            · have hnone := hc900502
              refine wp_seq_k (fun K900503 hK900504 => ?_)
              refine c_region (fun ops900506 hops900505 => ?_)
              clear hops900505
              refine p_run _ (x_move (.bool true) rfl rfl) rfl ?_
              refine p_run _ (x_assign (.bool true) rfl rfl) rfl ?_
              refine wpList_nil ?_
              refine hK900504 _ _ ?_
              refine wp_ret ?_
              try simp only [Exit.inBlock, Exit.then]
              refine c_ret (.bool true) (r_tmp rfl rfl) ?_
              have e1 : rcOk r = true := by rw [rc_fin bd.1 bd.2.1 bd.2.2 hsn, hfd]; unfold sgOk; rw [hnone]; rfl
              rw [e1]
              exact ⟨rfl, HS.belowOf⟩
            · have hnone := hc900502
              refine wp_skip ?_
              refine hK901323 _ _ ?_
              refine wp_seq_k (fun K900507 hK900508 => ?_)
              refine c_region (fun ops900510 hops900509 => ?_)
              refine p_run _ (x_field (j := 1) _ _ rfl rfl Try.underlying32 rfl (by rfl) rfl) rfl ?_
              refine p_run _ (x_loads [.int .u32 r.te, .int .u32 r.tq] 2 rfl rfl (bkCells (HS.get (.head _)) 1 _ rfl) (by rfl) (by kernel_rfl) rfl) rfl ?_
              refine w_call [.agg ([.int .u32 r.te, .int .u32 r.tq] : List Value).toArray] Try.func42 (by kernel_rfl) (by rfl) rfl ?_
              refine (r3right_any _ r.te r.tq).mono ?_
              rintro e w900511 ⟨rfl, hb_⟩
              replace HS := HS.here hb_
              clear hb_
              refine ⟨_, rfl, ?_⟩
              refine p_run _ (x_move (.bool (lbOk r.te r.tq)) rfl rfl) rfl ?_
              obtain ⟨bz900512, hbz900512⟩ : ∃ b_, b_ = ((lbOk r.te r.tq)) := ⟨_, rfl⟩
              rw [← hbz900512]
              refine p_tail 5 (fun a_ w_ => ∃ (uz104 uz105 uz106 : Value) (qz900514 qz900515 qz900516 qz900517 qz900518 qz900519 qz900520 qz900521 : V8) (bz900513 : Bool), a_ = fr (rcV r A c :: .pointer (some ⟨g5, 0, none⟩) :: q50.a :: .bool true :: q50.b :: q50.c :: .pointer (some ⟨g901318, 0, none⟩) :: .pointer (some ⟨g5, 0, none⟩) :: V8.l qz19 (V8.l qz23 (V8.l qz31 (V8.l qz43 (V8.l qz900514 (V8.l qz900515 (V8.l qz900516 (V8.l qz900517 (V8.l qz900518 (V8.l qz900519 (V8.l qz900520 (V8.l qz900521 (uz104 :: uz105 :: uz106 :: .bool bz900513 :: U32n1 ([])))))))))))))) ∧ bz900513 = (bz900512 && (!(decide (r.te = 0 ∧ r.tq = 0)))) ∧ St w (fun _ => False) w_ ([blk g901318 [.int .u64 r.s, .int .u32 r.te, .int .u32 r.tq, .int .u32 r.be, .int .u32 r.bq, .int .i64 r.nx, .int .i64 r.tt, .int .i64 r.rt] 32, blk g5 (.int .u32 r.e :: .bool r.p :: .int .u32 r.b :: .int .u32 r.q :: .int .i64 r.l :: .int .u32 r.xe :: .int .u32 r.xq :: .slice A r.sn.length c :: .int .u64 r.s :: .int .u32 r.te :: .int .u32 r.tq :: .int .u32 r.be :: .int .u32 r.bq :: .int .i64 r.nx :: .int .i64 r.tt :: .int .i64 r.rt :: []) 34])) (fun T900522 => ?_) ?_
              · cases bz900512
                · skip
                  refine p_off (by rw [hops900509]; rfl) rfl ?_
                  refine p_off (by rw [hops900509]; rfl) rfl ?_
                  refine p_off (by rw [hops900509]; rfl) rfl ?_
                  refine p_off (by rw [hops900509]; rfl) rfl ?_
                  refine p_run _ (x_pick false (undef) (.bool false) (.bool false) rfl rfl rfl rfl rfl) rfl ?_
                  exact T900522 _ _ ⟨undef, undef, undef, ⟨.bool (decide (r.xe = 0 ∧ r.xq = 0)), .pointer (some ⟨g5, 7, none⟩), .slice A r.sn.length c, .int .i64 (r.sn.length : Int), .int .i64 (r.sn.length : Int), .bool (decide ((r.sn.length : Int) < (r.sn.length : Int))), q50.e, q50.f⟩, ⟨q50.g, q50.h, q51.a, q51.b, q51.c, q51.d, q51.e, q51.f⟩, ⟨q51.g, q51.h, q52.a, q52.b, q52.c, q52.d, q52.e, q52.f⟩, ⟨q52.g, q52.h, q53.a, q53.b, q53.c, q53.d, q53.e, q53.f⟩, ⟨q53.g, q53.h, q54.a, q54.b, q54.c, q54.d, q54.e, q54.f⟩, ⟨q54.g, q54.h, q55.a, q55.b, q55.c, q55.d, q55.e, q55.f⟩, ⟨q55.g, .pointer (some ⟨g5, 8, none⟩), .agg ([.int .u64 r.s, .int .u32 r.te, .int .u32 r.tq, .int .u32 r.be, .int .u32 r.bq, .int .i64 r.nx, .int .i64 r.tt, .int .i64 r.rt] : List Value).toArray, .bool true, .bool false, .bool false, .agg ([.int .u64 r.s, .int .u32 r.te, .int .u32 r.tq, .int .u32 r.be, .int .u32 r.bq, .int .i64 r.nx, .int .i64 r.tt, .int .i64 r.rt] : List Value).toArray, .agg ([.int .u64 0, .int .u32 0, .int .u32 0, .int .u32 0, .int .u32 0, .int .i64 0, .int .i64 0, .int .i64 (-1)] : List Value).toArray⟩, ⟨.bool (sgNone r.s r.te r.tq r.be r.bq r.nx r.tt r.rt), .bool (sgNone r.s r.te r.tq r.be r.bq r.nx r.tt r.rt), undef, .pointer (some ⟨g901318, 1, none⟩), .agg ([.int .u32 r.te, .int .u32 r.tq] : List Value).toArray, .bool false, .bool false, undef⟩, false, rfl, rfl, HS⟩
                · skip
                  refine p_on rfl (by rw [hops900509]; rfl) ?_
                  refine p_run _ (x_field (j := 1) _ _ rfl rfl Try.underlying32 rfl (by rfl) rfl) rfl ?_
                  refine p_on rfl (by rw [hops900509]; rfl) ?_
                  refine p_run _ (x_loads [.int .u32 r.te, .int .u32 r.tq] 2 rfl rfl (bkCells (HS.get (.head _)) 1 _ rfl) (by rfl) (by kernel_rfl) rfl) rfl ?_
                  refine p_on rfl (by rw [hops900509]; rfl) ?_
                  refine p_run _ (x_build [.int .u32 0, .int .u32 0] rfl (by kernel_rfl)) rfl ?_
                  refine p_on rfl (by rw [hops900509]; rfl) ?_
                  refine p_run _ (x_eq .neq (.agg ([.int .u32 r.te, .int .u32 r.tq] : List Value).toArray) (.agg ([.int .u32 0, .int .u32 0] : List Value).toArray) (decide (r.te = 0 ∧ r.tq = 0)) (!(decide (r.te = 0 ∧ r.tq = 0))) rfl rfl rfl (equal_lb _ r.te r.tq 0 0) rfl rfl (guard_agg (by kernel_rfl)) (guard_agg (by kernel_rfl))) rfl ?_
                  refine p_run _ (x_pick true (.bool (!(decide (r.te = 0 ∧ r.tq = 0)))) (.bool false) (.bool (!(decide (r.te = 0 ∧ r.tq = 0)))) rfl rfl rfl rfl rfl) rfl ?_
                  exact T900522 _ _ ⟨(.agg ([.int .u32 r.te, .int .u32 r.tq] : List Value).toArray), (.agg ([.int .u32 0, .int .u32 0] : List Value).toArray), (.bool (!(decide (r.te = 0 ∧ r.tq = 0)))), ⟨.bool (decide (r.xe = 0 ∧ r.xq = 0)), .pointer (some ⟨g5, 7, none⟩), .slice A r.sn.length c, .int .i64 (r.sn.length : Int), .int .i64 (r.sn.length : Int), .bool (decide ((r.sn.length : Int) < (r.sn.length : Int))), q50.e, q50.f⟩, ⟨q50.g, q50.h, q51.a, q51.b, q51.c, q51.d, q51.e, q51.f⟩, ⟨q51.g, q51.h, q52.a, q52.b, q52.c, q52.d, q52.e, q52.f⟩, ⟨q52.g, q52.h, q53.a, q53.b, q53.c, q53.d, q53.e, q53.f⟩, ⟨q53.g, q53.h, q54.a, q54.b, q54.c, q54.d, q54.e, q54.f⟩, ⟨q54.g, q54.h, q55.a, q55.b, q55.c, q55.d, q55.e, q55.f⟩, ⟨q55.g, .pointer (some ⟨g5, 8, none⟩), .agg ([.int .u64 r.s, .int .u32 r.te, .int .u32 r.tq, .int .u32 r.be, .int .u32 r.bq, .int .i64 r.nx, .int .i64 r.tt, .int .i64 r.rt] : List Value).toArray, .bool true, .bool false, .bool false, .agg ([.int .u64 r.s, .int .u32 r.te, .int .u32 r.tq, .int .u32 r.be, .int .u32 r.bq, .int .i64 r.nx, .int .i64 r.tt, .int .i64 r.rt] : List Value).toArray, .agg ([.int .u64 0, .int .u32 0, .int .u32 0, .int .u32 0, .int .u32 0, .int .i64 0, .int .i64 0, .int .i64 (-1)] : List Value).toArray⟩, ⟨.bool (sgNone r.s r.te r.tq r.be r.bq r.nx r.tt r.rt), .bool (sgNone r.s r.te r.tq r.be r.bq r.nx r.tt r.rt), undef, .pointer (some ⟨g901318, 1, none⟩), .agg ([.int .u32 r.te, .int .u32 r.tq] : List Value).toArray, .bool true, .bool true, .pointer (some ⟨g901318, 1, none⟩)⟩, (!(decide (r.te = 0 ∧ r.tq = 0))), rfl, rfl, HS⟩
              clear HS
              rintro _ w_ ⟨uz104, uz105, uz106, qz900514, qz900515, qz900516, qz900517, qz900518, qz900519, qz900520, qz900521, bz900513, rfl, hbz900513, HS⟩
              skip
              refine p_run _ (x_move (.bool bz900513) rfl rfl) rfl ?_
              refine p_tail 4 (fun a_ w_ => ∃ (qz900525 : V8) (bz900524 : Bool), a_ = fr (rcV r A c :: .pointer (some ⟨g5, 0, none⟩) :: q50.a :: .bool true :: q50.b :: q50.c :: .pointer (some ⟨g901318, 0, none⟩) :: .pointer (some ⟨g5, 0, none⟩) :: V8.l qz19 (V8.l qz23 (V8.l qz31 (V8.l qz43 (V8.l qz900514 (V8.l qz900515 (V8.l qz900516 (V8.l qz900517 (V8.l qz900518 (V8.l qz900519 (V8.l qz900520 (V8.l qz900521 (V8.l qz900525 (.bool bz900524 :: U16n1 (U8n1 (undef :: undef :: undef :: [])))))))))))))))) ∧ bz900524 = (bz900513 && (lbOk r.be r.bq)) ∧ St w (fun _ => False) w_ ([blk g901318 [.int .u64 r.s, .int .u32 r.te, .int .u32 r.tq, .int .u32 r.be, .int .u32 r.bq, .int .i64 r.nx, .int .i64 r.tt, .int .i64 r.rt] 32, blk g5 (.int .u32 r.e :: .bool r.p :: .int .u32 r.b :: .int .u32 r.q :: .int .i64 r.l :: .int .u32 r.xe :: .int .u32 r.xq :: .slice A r.sn.length c :: .int .u64 r.s :: .int .u32 r.te :: .int .u32 r.tq :: .int .u32 r.be :: .int .u32 r.bq :: .int .i64 r.nx :: .int .i64 r.tt :: .int .i64 r.rt :: []) 34])) (fun T900526 => ?_) ?_
              · cases bz900513
                · skip
                  refine p_off (by rw [hops900509]; rfl) rfl ?_
                  refine p_off (by rw [hops900509]; rfl) rfl ?_
                  refine p_off (by rw [hops900509]; rfl) rfl ?_
                  refine p_run _ (x_pick false (undef) (.bool false) (.bool false) rfl rfl rfl rfl rfl) rfl ?_
                  exact T900526 _ _ ⟨⟨uz104, uz105, uz106, .bool false, .bool false, undef, undef, undef⟩, false, rfl, rfl, HS⟩
                · skip
                  refine p_on rfl (by rw [hops900509]; rfl) ?_
                  refine p_run _ (x_field (j := 3) _ _ rfl rfl Try.underlying32 rfl (by rfl) rfl) rfl ?_
                  refine p_on rfl (by rw [hops900509]; rfl) ?_
                  refine p_run _ (x_loads [.int .u32 r.be, .int .u32 r.bq] 2 rfl rfl (bkCells (HS.get (.head _)) 3 _ rfl) (by rfl) (by kernel_rfl) rfl) rfl ?_
                  refine p_on rfl (by rw [hops900509]; rfl) ?_
                  refine w_call [.agg ([.int .u32 r.be, .int .u32 r.bq] : List Value).toArray] Try.func42 (by kernel_rfl) (by rfl) rfl ?_
                  refine (r3right_any _ r.be r.bq).mono ?_
                  rintro e w900527 ⟨rfl, hb_⟩
                  replace HS := HS.here hb_
                  clear hb_
                  refine ⟨_, rfl, ?_⟩
                  refine p_run _ (x_pick true (.bool (lbOk r.be r.bq)) (.bool false) (.bool (lbOk r.be r.bq)) rfl rfl rfl rfl rfl) rfl ?_
                  exact T900526 _ _ ⟨⟨uz104, uz105, uz106, .bool true, .bool true, .pointer (some ⟨g901318, 3, none⟩), .agg ([.int .u32 r.be, .int .u32 r.bq] : List Value).toArray, .bool (lbOk r.be r.bq)⟩, (lbOk r.be r.bq), rfl, rfl, HS⟩
              clear HS
              rintro _ w_ ⟨qz900525, bz900524, rfl, hbz900524, HS⟩
              skip
              refine p_run _ (x_move (.bool bz900524) rfl rfl) rfl ?_
              refine p_tail 4 (fun a_ w_ => ∃ (uz114 uz115 uz116 : Value) (bz900529 : Bool), a_ = fr (rcV r A c :: .pointer (some ⟨g5, 0, none⟩) :: q50.a :: .bool true :: q50.b :: q50.c :: .pointer (some ⟨g901318, 0, none⟩) :: .pointer (some ⟨g5, 0, none⟩) :: V8.l qz19 (V8.l qz23 (V8.l qz31 (V8.l qz43 (V8.l qz900514 (V8.l qz900515 (V8.l qz900516 (V8.l qz900517 (V8.l qz900518 (V8.l qz900519 (V8.l qz900520 (V8.l qz900521 (V8.l qz900525 (.bool bz900524 :: .bool bz900524 :: uz114 :: uz115 :: uz116 :: .bool bz900529 :: U16n1 (U4n1 (undef :: undef :: [])))))))))))))))) ∧ bz900529 = (bz900524 && (decide (r.tt ≥ 1))) ∧ St w (fun _ => False) w_ ([blk g901318 [.int .u64 r.s, .int .u32 r.te, .int .u32 r.tq, .int .u32 r.be, .int .u32 r.bq, .int .i64 r.nx, .int .i64 r.tt, .int .i64 r.rt] 32, blk g5 (.int .u32 r.e :: .bool r.p :: .int .u32 r.b :: .int .u32 r.q :: .int .i64 r.l :: .int .u32 r.xe :: .int .u32 r.xq :: .slice A r.sn.length c :: .int .u64 r.s :: .int .u32 r.te :: .int .u32 r.tq :: .int .u32 r.be :: .int .u32 r.bq :: .int .i64 r.nx :: .int .i64 r.tt :: .int .i64 r.rt :: []) 34])) (fun T900530 => ?_) ?_
              · cases bz900524
                · skip
                  refine p_off (by rw [hops900509]; rfl) rfl ?_
                  refine p_off (by rw [hops900509]; rfl) rfl ?_
                  refine p_off (by rw [hops900509]; rfl) rfl ?_
                  refine p_run _ (x_pick false (undef) (.bool false) (.bool false) rfl rfl rfl rfl rfl) rfl ?_
                  exact T900530 _ _ ⟨undef, undef, undef, false, rfl, rfl, HS⟩
                · skip
                  refine p_on rfl (by rw [hops900509]; rfl) ?_
                  refine p_run _ (x_field (j := 6) _ _ rfl rfl Try.underlying32 rfl (by rfl) rfl) rfl ?_
                  refine p_on rfl (by rw [hops900509]; rfl) ?_
                  refine p_run _ (x_load (.int .i64 r.tt) rfl rfl (bkCell (HS.get (.head _)) 6 _ rfl) (by rfl)) rfl ?_
                  refine p_on rfl (by rw [hops900509]; rfl) ?_
                  refine p_run _ (x_cmp (k := .i64) (m := r.tt) (n := 1) .geq (decide (r.tt ≥ 1)) rfl rfl rfl rfl rfl) rfl ?_
                  refine p_run _ (x_pick true (.bool (decide (r.tt ≥ 1))) (.bool false) (.bool (decide (r.tt ≥ 1))) rfl rfl rfl rfl rfl) rfl ?_
                  exact T900530 _ _ ⟨(.pointer (some ⟨g901318, 6, none⟩)), (.int .i64 r.tt), (.bool (decide (r.tt ≥ 1))), (decide (r.tt ≥ 1)), rfl, rfl, HS⟩
              clear HS
              rintro _ w_ ⟨uz114, uz115, uz116, bz900529, rfl, hbz900529, HS⟩
              skip
              refine p_run _ (x_move (.bool bz900529) rfl rfl) rfl ?_
              refine p_tail 4 (fun a_ w_ => ∃ (uz120 uz121 : Value) (qz900533 : V8) (bz900532 : Bool), a_ = fr (rcV r A c :: .pointer (some ⟨g5, 0, none⟩) :: q50.a :: .bool true :: q50.b :: q50.c :: .pointer (some ⟨g901318, 0, none⟩) :: .pointer (some ⟨g5, 0, none⟩) :: V8.l qz19 (V8.l qz23 (V8.l qz31 (V8.l qz43 (V8.l qz900514 (V8.l qz900515 (V8.l qz900516 (V8.l qz900517 (V8.l qz900518 (V8.l qz900519 (V8.l qz900520 (V8.l qz900521 (V8.l qz900525 (V8.l qz900533 (uz120 :: uz121 :: .bool bz900532 :: U16n1 (undef :: [])))))))))))))))) ∧ bz900532 = (bz900529 && (decide (r.tt ≤ 64))) ∧ St w (fun _ => False) w_ ([blk g901318 [.int .u64 r.s, .int .u32 r.te, .int .u32 r.tq, .int .u32 r.be, .int .u32 r.bq, .int .i64 r.nx, .int .i64 r.tt, .int .i64 r.rt] 32, blk g5 (.int .u32 r.e :: .bool r.p :: .int .u32 r.b :: .int .u32 r.q :: .int .i64 r.l :: .int .u32 r.xe :: .int .u32 r.xq :: .slice A r.sn.length c :: .int .u64 r.s :: .int .u32 r.te :: .int .u32 r.tq :: .int .u32 r.be :: .int .u32 r.bq :: .int .i64 r.nx :: .int .i64 r.tt :: .int .i64 r.rt :: []) 34])) (fun T900534 => ?_) ?_
              · cases bz900529
                · skip
                  refine p_off (by rw [hops900509]; rfl) rfl ?_
                  refine p_off (by rw [hops900509]; rfl) rfl ?_
                  refine p_off (by rw [hops900509]; rfl) rfl ?_
                  refine p_run _ (x_pick false (undef) (.bool false) (.bool false) rfl rfl rfl rfl rfl) rfl ?_
                  exact T900534 _ _ ⟨undef, undef, ⟨.bool bz900524, .bool bz900524, uz114, uz115, uz116, .bool false, .bool false, undef⟩, false, rfl, rfl, HS⟩
                · skip
                  refine p_on rfl (by rw [hops900509]; rfl) ?_
                  refine p_run _ (x_field (j := 6) _ _ rfl rfl Try.underlying32 rfl (by rfl) rfl) rfl ?_
                  refine p_on rfl (by rw [hops900509]; rfl) ?_
                  refine p_run _ (x_load (.int .i64 r.tt) rfl rfl (bkCell (HS.get (.head _)) 6 _ rfl) (by rfl)) rfl ?_
                  refine p_on rfl (by rw [hops900509]; rfl) ?_
                  refine p_run _ (x_cmp (k := .i64) (m := r.tt) (n := 64) .leq (decide (r.tt ≤ 64)) rfl rfl rfl rfl rfl) rfl ?_
                  refine p_run _ (x_pick true (.bool (decide (r.tt ≤ 64))) (.bool false) (.bool (decide (r.tt ≤ 64))) rfl rfl rfl rfl rfl) rfl ?_
                  exact T900534 _ _ ⟨(.int .i64 r.tt), (.bool (decide (r.tt ≤ 64))), ⟨.bool bz900524, .bool bz900524, uz114, uz115, uz116, .bool true, .bool true, .pointer (some ⟨g901318, 6, none⟩)⟩, (decide (r.tt ≤ 64)), rfl, rfl, HS⟩
              clear HS
              rintro _ w_ ⟨uz120, uz121, qz900533, bz900532, rfl, hbz900532, HS⟩
              skip
              refine p_run _ (x_move (.bool bz900532) rfl rfl) rfl ?_
              refine p_tail 4 (fun a_ w_ => ∃ (uz124 uz125 uz126 : Value) (bz900536 : Bool), a_ = fr (rcV r A c :: .pointer (some ⟨g5, 0, none⟩) :: q50.a :: .bool true :: q50.b :: q50.c :: .pointer (some ⟨g901318, 0, none⟩) :: .pointer (some ⟨g5, 0, none⟩) :: V8.l qz19 (V8.l qz23 (V8.l qz31 (V8.l qz43 (V8.l qz900514 (V8.l qz900515 (V8.l qz900516 (V8.l qz900517 (V8.l qz900518 (V8.l qz900519 (V8.l qz900520 (V8.l qz900521 (V8.l qz900525 (V8.l qz900533 (uz120 :: uz121 :: .bool bz900532 :: .bool bz900532 :: uz124 :: uz125 :: uz126 :: .bool bz900536 :: U8n1 (U4n1 ([]))))))))))))))))) ∧ bz900536 = (bz900532 && (decide (r.nx ≥ 0))) ∧ St w (fun _ => False) w_ ([blk g901318 [.int .u64 r.s, .int .u32 r.te, .int .u32 r.tq, .int .u32 r.be, .int .u32 r.bq, .int .i64 r.nx, .int .i64 r.tt, .int .i64 r.rt] 32, blk g5 (.int .u32 r.e :: .bool r.p :: .int .u32 r.b :: .int .u32 r.q :: .int .i64 r.l :: .int .u32 r.xe :: .int .u32 r.xq :: .slice A r.sn.length c :: .int .u64 r.s :: .int .u32 r.te :: .int .u32 r.tq :: .int .u32 r.be :: .int .u32 r.bq :: .int .i64 r.nx :: .int .i64 r.tt :: .int .i64 r.rt :: []) 34])) (fun T900537 => ?_) ?_
              · cases bz900532
                · skip
                  refine p_off (by rw [hops900509]; rfl) rfl ?_
                  refine p_off (by rw [hops900509]; rfl) rfl ?_
                  refine p_off (by rw [hops900509]; rfl) rfl ?_
                  refine p_run _ (x_pick false (undef) (.bool false) (.bool false) rfl rfl rfl rfl rfl) rfl ?_
                  exact T900537 _ _ ⟨undef, undef, undef, false, rfl, rfl, HS⟩
                · skip
                  refine p_on rfl (by rw [hops900509]; rfl) ?_
                  refine p_run _ (x_field (j := 5) _ _ rfl rfl Try.underlying32 rfl (by rfl) rfl) rfl ?_
                  refine p_on rfl (by rw [hops900509]; rfl) ?_
                  refine p_run _ (x_load (.int .i64 r.nx) rfl rfl (bkCell (HS.get (.head _)) 5 _ rfl) (by rfl)) rfl ?_
                  refine p_on rfl (by rw [hops900509]; rfl) ?_
                  refine p_run _ (x_cmp (k := .i64) (m := r.nx) (n := 0) .geq (decide (r.nx ≥ 0)) rfl rfl rfl rfl rfl) rfl ?_
                  refine p_run _ (x_pick true (.bool (decide (r.nx ≥ 0))) (.bool false) (.bool (decide (r.nx ≥ 0))) rfl rfl rfl rfl rfl) rfl ?_
                  exact T900537 _ _ ⟨(.pointer (some ⟨g901318, 5, none⟩)), (.int .i64 r.nx), (.bool (decide (r.nx ≥ 0))), (decide (r.nx ≥ 0)), rfl, rfl, HS⟩
              clear HS
              rintro _ w_ ⟨uz124, uz125, uz126, bz900536, rfl, hbz900536, HS⟩
              skip
              refine p_run _ (x_move (.bool bz900536) rfl rfl) rfl ?_
              refine p_tail 6 (fun a_ w_ => ∃ (uz129 uz130 uz131 uz132 uz133 : Value) (qz900540 : V8) (bz900539 : Bool), a_ = fr (rcV r A c :: .pointer (some ⟨g5, 0, none⟩) :: q50.a :: .bool true :: q50.b :: q50.c :: .pointer (some ⟨g901318, 0, none⟩) :: .pointer (some ⟨g5, 0, none⟩) :: V8.l qz19 (V8.l qz23 (V8.l qz31 (V8.l qz43 (V8.l qz900514 (V8.l qz900515 (V8.l qz900516 (V8.l qz900517 (V8.l qz900518 (V8.l qz900519 (V8.l qz900520 (V8.l qz900521 (V8.l qz900525 (V8.l qz900533 (V8.l qz900540 (.bool bz900536 :: uz129 :: uz130 :: uz131 :: uz132 :: uz133 :: .bool bz900539 :: U4n1 (undef :: []))))))))))))))))) ∧ bz900539 = (bz900536 && (decide (r.nx < r.tt))) ∧ St w (fun _ => False) w_ ([blk g901318 [.int .u64 r.s, .int .u32 r.te, .int .u32 r.tq, .int .u32 r.be, .int .u32 r.bq, .int .i64 r.nx, .int .i64 r.tt, .int .i64 r.rt] 32, blk g5 (.int .u32 r.e :: .bool r.p :: .int .u32 r.b :: .int .u32 r.q :: .int .i64 r.l :: .int .u32 r.xe :: .int .u32 r.xq :: .slice A r.sn.length c :: .int .u64 r.s :: .int .u32 r.te :: .int .u32 r.tq :: .int .u32 r.be :: .int .u32 r.bq :: .int .i64 r.nx :: .int .i64 r.tt :: .int .i64 r.rt :: []) 34])) (fun T900541 => ?_) ?_
              · cases bz900536
                · skip
                  refine p_off (by rw [hops900509]; rfl) rfl ?_
                  refine p_off (by rw [hops900509]; rfl) rfl ?_
                  refine p_off (by rw [hops900509]; rfl) rfl ?_
                  refine p_off (by rw [hops900509]; rfl) rfl ?_
                  refine p_off (by rw [hops900509]; rfl) rfl ?_
                  refine p_run _ (x_pick false (undef) (.bool false) (.bool false) rfl rfl rfl rfl rfl) rfl ?_
                  exact T900541 _ _ ⟨undef, undef, undef, undef, undef, ⟨uz120, uz121, .bool bz900532, .bool bz900532, uz124, uz125, uz126, .bool false⟩, false, rfl, rfl, HS⟩
                · skip
                  refine p_on rfl (by rw [hops900509]; rfl) ?_
                  refine p_run _ (x_field (j := 5) _ _ rfl rfl Try.underlying32 rfl (by rfl) rfl) rfl ?_
                  refine p_on rfl (by rw [hops900509]; rfl) ?_
                  refine p_run _ (x_load (.int .i64 r.nx) rfl rfl (bkCell (HS.get (.head _)) 5 _ rfl) (by rfl)) rfl ?_
                  refine p_on rfl (by rw [hops900509]; rfl) ?_
                  refine p_run _ (x_field (j := 6) _ _ rfl rfl Try.underlying32 rfl (by rfl) rfl) rfl ?_
                  refine p_on rfl (by rw [hops900509]; rfl) ?_
                  refine p_run _ (x_load (.int .i64 r.tt) rfl rfl (bkCell (HS.get (.head _)) 6 _ rfl) (by rfl)) rfl ?_
                  refine p_on rfl (by rw [hops900509]; rfl) ?_
                  refine p_run _ (x_cmp (k := .i64) (m := r.nx) (n := r.tt) .lss (decide (r.nx < r.tt)) rfl rfl rfl rfl rfl) rfl ?_
                  refine p_run _ (x_pick true (.bool (decide (r.nx < r.tt))) (.bool false) (.bool (decide (r.nx < r.tt))) rfl rfl rfl rfl rfl) rfl ?_
                  exact T900541 _ _ ⟨(.pointer (some ⟨g901318, 5, none⟩)), (.int .i64 r.nx), (.pointer (some ⟨g901318, 6, none⟩)), (.int .i64 r.tt), (.bool (decide (r.nx < r.tt))), ⟨uz120, uz121, .bool bz900532, .bool bz900532, uz124, uz125, uz126, .bool true⟩, (decide (r.nx < r.tt)), rfl, rfl, HS⟩
              clear HS
              rintro _ w_ ⟨uz129, uz130, uz131, uz132, uz133, qz900540, bz900539, rfl, hbz900539, HS⟩
              skip
              refine p_run _ (x_move (.bool bz900539) rfl rfl) rfl ?_
              refine p_tail 4 (fun a_ w_ => ∃ (uz136 uz137 uz138 : Value) (qz900544 : V8) (bz900543 : Bool), a_ = fr (rcV r A c :: .pointer (some ⟨g5, 0, none⟩) :: q50.a :: .bool true :: q50.b :: q50.c :: .pointer (some ⟨g901318, 0, none⟩) :: .pointer (some ⟨g5, 0, none⟩) :: V8.l qz19 (V8.l qz23 (V8.l qz31 (V8.l qz43 (V8.l qz900514 (V8.l qz900515 (V8.l qz900516 (V8.l qz900517 (V8.l qz900518 (V8.l qz900519 (V8.l qz900520 (V8.l qz900521 (V8.l qz900525 (V8.l qz900533 (V8.l qz900540 (V8.l qz900544 (uz136 :: uz137 :: uz138 :: .bool bz900543 :: []))))))))))))))))) ∧ bz900543 = (bz900539 && (rtOk r.rt)) ∧ St w (fun _ => False) w_ ([blk g901318 [.int .u64 r.s, .int .u32 r.te, .int .u32 r.tq, .int .u32 r.be, .int .u32 r.bq, .int .i64 r.nx, .int .i64 r.tt, .int .i64 r.rt] 32, blk g5 (.int .u32 r.e :: .bool r.p :: .int .u32 r.b :: .int .u32 r.q :: .int .i64 r.l :: .int .u32 r.xe :: .int .u32 r.xq :: .slice A r.sn.length c :: .int .u64 r.s :: .int .u32 r.te :: .int .u32 r.tq :: .int .u32 r.be :: .int .u32 r.bq :: .int .i64 r.nx :: .int .i64 r.tt :: .int .i64 r.rt :: []) 34])) (fun T900545 => ?_) ?_
              · cases bz900539
                · skip
                  refine p_off (by rw [hops900509]; rfl) rfl ?_
                  refine p_off (by rw [hops900509]; rfl) rfl ?_
                  refine p_off (by rw [hops900509]; rfl) rfl ?_
                  refine p_run _ (x_pick false (undef) (.bool false) (.bool false) rfl rfl rfl rfl rfl) rfl ?_
                  exact T900545 _ _ ⟨undef, undef, undef, ⟨.bool bz900536, uz129, uz130, uz131, uz132, uz133, .bool false, .bool false⟩, false, rfl, rfl, HS⟩
                · skip
                  refine p_on rfl (by rw [hops900509]; rfl) ?_
                  refine p_run _ (x_field (j := 7) _ _ rfl rfl Try.underlying32 rfl (by rfl) rfl) rfl ?_
                  refine p_on rfl (by rw [hops900509]; rfl) ?_
                  refine p_run _ (x_load (.int .i64 r.rt) rfl rfl (bkCell (HS.get (.head _)) 7 _ rfl) (by rfl)) rfl ?_
                  refine p_on rfl (by rw [hops900509]; rfl) ?_
                  refine w_call [.int .i64 r.rt] Try.func41 (by kernel_rfl) (by rfl) rfl ?_
                  refine (r14page_any _ r.rt).mono ?_
                  rintro e w900546 ⟨rfl, hb_⟩
                  replace HS := HS.here hb_
                  clear hb_
                  refine ⟨_, rfl, ?_⟩
                  refine p_run _ (x_pick true (.bool (rtOk r.rt)) (.bool false) (.bool (rtOk r.rt)) rfl rfl rfl rfl rfl) rfl ?_
                  exact T900545 _ _ ⟨(.pointer (some ⟨g901318, 7, none⟩)), (.int .i64 r.rt), (.bool (rtOk r.rt)), ⟨.bool bz900536, uz129, uz130, uz131, uz132, uz133, .bool true, .bool true⟩, (rtOk r.rt), rfl, rfl, HS⟩
              clear HS
              rintro _ w_ ⟨uz136, uz137, uz138, qz900544, bz900543, rfl, hbz900543, HS⟩
              skip
              refine p_run _ (x_assign (.bool bz900543) rfl rfl) rfl ?_
              clear hops900509
              refine wpList_nil ?_
              refine hK900508 _ _ ?_
              refine wp_ret ?_
              try simp only [Exit.inBlock, Exit.then]
              refine c_ret (.bool bz900543) (r_tmp rfl rfl) ?_
              have e1 : rcOk r = bz900543 := by rw [rc_fin bd.1 bd.2.1 bd.2.2 hsn, hfd]; unfold sgOk; rw [hnone, Bool.false_or, Bool.true_and]; unfold sgGood; rw [hbz900543, hbz900539, hbz900536, hbz900532, hbz900529, hbz900524, hbz900513, hbz900512]
              rw [e1]
              exact ⟨rfl, HS.belowOf⟩
theorem rcS_fin {r n : Rc} (h : ((((((r.e = n.e ∧ r.p = n.p) ∧ r.b = n.b) ∧ r.q = n.q) ∧ r.l = n.l) ∧ (r.xe = n.xe ∧ r.xq = n.xq)) ∧ (r.s = n.s ∧ (r.te = n.te ∧ r.tq = n.tq) ∧ (r.be = n.be ∧ r.bq = n.bq) ∧ r.nx = n.nx ∧ r.tt = n.tt ∧ r.rt = n.rt)) ∧ (r.sn.length : Int) = n.sn.length) (hs : r.sn = n.sn) : rcS r n = true := by
  obtain ⟨⟨⟨⟨⟨⟨⟨a, b⟩, c⟩, d⟩, e⟩, f⟩, g⟩, -⟩ := h
  unfold rcS
  rw [decide_eq_true hs, a, b, c, d, e, decide_eq_true f, decide_eq_true g]
  simp
set_option maxRecDepth 10000 in
set_option maxHeartbeats 4000000 in
theorem r14same_any (w : World) (r : Rc) (A : Option Addr) (c : Nat) (hA : kSn.C w A r.sn.length r.sn) (hl : r.sn.length ≤ 1000) (n : Rc) (A2 : Option Addr) (c2 : Nat) (hA2 : kSn.C w A2 n.sn.length n.sn) (hl2 : n.sn.length ≤ 1000) : Calls Try.prog 13 #[rcV r A c, rcV n A2 c2] w fun e w' => e = .returned (.bool (rcS r n)) ∧ Below w.heap.size w w' := by
  have HS := St.empty w
  · skip
    refine c_enter Try.func13 rfl 80 rfl (rcV r A c :: rcV n A2 c2 :: U64n1 (U8n1 (U4n1 (undef :: undef :: [])))) rfl ?_
    refine wp_seq_k (fun K1 hK2 => ?_)
    refine c_region (fun ops4 hops3 => ?_)
    clear hops3
    refine St.wBox HS (cs := (.int .u32 r.e :: .bool r.p :: .int .u32 r.b :: .int .u32 r.q :: .int .i64 r.l :: .int .u32 r.xe :: .int .u32 r.xq :: .slice A r.sn.length c :: .int .u64 r.s :: .int .u32 r.te :: .int .u32 r.tq :: .int .u32 r.be :: .int .u32 r.bq :: .int .i64 r.nx :: .int .i64 r.tt :: .int .i64 r.rt :: [])) (rcV r A c) rfl rfl ?_
    clear HS
    intro g5 w6 hg7 HS
    refine St.wBox HS (cs := (.int .u32 n.e :: .bool n.p :: .int .u32 n.b :: .int .u32 n.q :: .int .i64 n.l :: .int .u32 n.xe :: .int .u32 n.xq :: .slice A2 n.sn.length c2 :: .int .u64 n.s :: .int .u32 n.te :: .int .u32 n.tq :: .int .u32 n.be :: .int .u32 n.bq :: .int .i64 n.nx :: .int .i64 n.tt :: .int .i64 n.rt :: [])) (rcV n A2 c2) rfl rfl ?_
    clear HS
    intro g8 w9 hg10 HS
    refine p_run _ (x_assign (.bool false) rfl rfl) rfl ?_
    refine wpList_nil ?_
    refine hK2 _ _ ?_
    refine wp_seq_k (fun K11 hK12 => ?_)
    refine wp_seq_k (fun K13 hK14 => ?_)
    refine c_region (fun ops16 hops15 => ?_)
    refine p_run _ (x_field (j := 0) _ _ rfl rfl Try.underlying34 rfl (by rfl) rfl) rfl ?_
    refine p_run _ (x_load (.int .u32 r.e) rfl rfl (bkCell (HS.get (.tail _ (.head _))) 0 _ rfl) (by rfl)) rfl ?_
    refine p_run _ (x_field (j := 0) _ _ rfl rfl Try.underlying34 rfl (by rfl) rfl) rfl ?_
    refine p_run (l' := (rcV r A c :: rcV n A2 c2 :: .pointer (some ⟨g5, 0, none⟩) :: .pointer (some ⟨g8, 0, none⟩) :: .bool false :: undef :: .pointer (some ⟨g5, 0, none⟩) :: .int .u32 r.e :: .pointer (some ⟨g8, 0, none⟩) :: .int .u32 n.e :: U64n1 (U4n1 (undef :: undef :: [])))) _ (x_load (.int .u32 n.e) rfl rfl (bkCell (HS.get (.head _)) 0 _ rfl) (by rfl)) rfl ?_
    refine p_run _ (x_cmp (k := .u32) (m := r.e) (n := n.e) .neq (r.e != n.e) rfl rfl rfl rfl rfl) rfl ?_
    refine p_run _ (x_move (.bool (r.e != n.e)) rfl rfl) rfl ?_
    obtain ⟨bz17, hbz17⟩ : ∃ b_, b_ = ((r.e != n.e)) := ⟨_, rfl⟩
    rw [← hbz17]
    refine p_tail 6 (fun a_ w_ => ∃ (uz16 : Value) (qz19 : V8) (bz18 : Bool), a_ = fr (rcV r A c :: rcV n A2 c2 :: .pointer (some ⟨g5, 0, none⟩) :: .pointer (some ⟨g8, 0, none⟩) :: .bool false :: undef :: .pointer (some ⟨g5, 0, none⟩) :: .int .u32 r.e :: V8.l qz19 (uz16 :: .bool bz18 :: U32n1 (U16n1 (U8n1 (U4n1 (undef :: undef :: [])))))) ∧ bz18 = (bz17 || (!(r.p == n.p))) ∧ St w (fun _ => False) w_ ([blk g8 (.int .u32 n.e :: .bool n.p :: .int .u32 n.b :: .int .u32 n.q :: .int .i64 n.l :: .int .u32 n.xe :: .int .u32 n.xq :: .slice A2 n.sn.length c2 :: .int .u64 n.s :: .int .u32 n.te :: .int .u32 n.tq :: .int .u32 n.be :: .int .u32 n.bq :: .int .i64 n.nx :: .int .i64 n.tt :: .int .i64 n.rt :: []) 34, blk g5 (.int .u32 r.e :: .bool r.p :: .int .u32 r.b :: .int .u32 r.q :: .int .i64 r.l :: .int .u32 r.xe :: .int .u32 r.xq :: .slice A r.sn.length c :: .int .u64 r.s :: .int .u32 r.te :: .int .u32 r.tq :: .int .u32 r.be :: .int .u32 r.bq :: .int .i64 r.nx :: .int .i64 r.tt :: .int .i64 r.rt :: []) 34])) (fun T20 => ?_) ?_
    · cases bz17
      · skip
        refine p_on rfl (by rw [hops15]; rfl) ?_
        refine p_run _ (x_field (j := 1) _ _ rfl rfl Try.underlying34 rfl (by rfl) rfl) rfl ?_
        refine p_on rfl (by rw [hops15]; rfl) ?_
        refine p_run _ (x_load (.bool r.p) rfl rfl (bkCell (HS.get (.tail _ (.head _))) 1 _ rfl) (by rfl)) rfl ?_
        refine p_on rfl (by rw [hops15]; rfl) ?_
        refine p_run _ (x_field (j := 1) _ _ rfl rfl Try.underlying34 rfl (by rfl) rfl) rfl ?_
        refine p_on rfl (by rw [hops15]; rfl) ?_
        refine p_run _ (x_load (.bool n.p) rfl rfl (bkCell (HS.get (.head _)) 1 _ rfl) (by rfl)) rfl ?_
        refine p_on rfl (by rw [hops15]; rfl) ?_
        refine p_run _ (x_boolcmp .neq r.p n.p (!(r.p == n.p)) rfl rfl rfl Try.underlying4 rfl rfl) rfl ?_
        refine p_run _ (x_pick false (.bool true) (.bool (!(r.p == n.p))) (.bool (!(r.p == n.p))) rfl rfl rfl rfl rfl) rfl ?_
        exact T20 _ _ ⟨(.bool (!(r.p == n.p))), ⟨.pointer (some ⟨g8, 0, none⟩), .int .u32 n.e, .bool false, .bool false, .pointer (some ⟨g5, 1, none⟩), .bool r.p, .pointer (some ⟨g8, 1, none⟩), .bool n.p⟩, (!(r.p == n.p)), rfl, rfl, HS⟩
      · skip
        refine p_off (by rw [hops15]; rfl) rfl ?_
        refine p_off (by rw [hops15]; rfl) rfl ?_
        refine p_off (by rw [hops15]; rfl) rfl ?_
        refine p_off (by rw [hops15]; rfl) rfl ?_
        refine p_off (by rw [hops15]; rfl) rfl ?_
        refine p_run _ (x_pick true (.bool true) (undef) (.bool true) rfl rfl rfl rfl rfl) rfl ?_
        exact T20 _ _ ⟨undef, ⟨.pointer (some ⟨g8, 0, none⟩), .int .u32 n.e, .bool true, .bool true, undef, undef, undef, undef⟩, true, rfl, rfl, HS⟩
    clear HS
    rintro _ w_ ⟨uz16, qz19, bz18, rfl, hbz18, HS⟩
    skip
    refine p_run _ (x_move (.bool bz18) rfl rfl) rfl ?_
    refine p_tail 6 (fun a_ w_ => ∃ (qz23 : V8) (bz22 : Bool), a_ = fr (rcV r A c :: rcV n A2 c2 :: .pointer (some ⟨g5, 0, none⟩) :: .pointer (some ⟨g8, 0, none⟩) :: .bool false :: undef :: .pointer (some ⟨g5, 0, none⟩) :: .int .u32 r.e :: V8.l qz19 (V8.l qz23 (.bool bz22 :: U32n1 (U16n1 (U4n1 (undef :: undef :: undef :: [])))))) ∧ bz22 = (bz18 || (r.b != n.b)) ∧ St w (fun _ => False) w_ ([blk g8 (.int .u32 n.e :: .bool n.p :: .int .u32 n.b :: .int .u32 n.q :: .int .i64 n.l :: .int .u32 n.xe :: .int .u32 n.xq :: .slice A2 n.sn.length c2 :: .int .u64 n.s :: .int .u32 n.te :: .int .u32 n.tq :: .int .u32 n.be :: .int .u32 n.bq :: .int .i64 n.nx :: .int .i64 n.tt :: .int .i64 n.rt :: []) 34, blk g5 (.int .u32 r.e :: .bool r.p :: .int .u32 r.b :: .int .u32 r.q :: .int .i64 r.l :: .int .u32 r.xe :: .int .u32 r.xq :: .slice A r.sn.length c :: .int .u64 r.s :: .int .u32 r.te :: .int .u32 r.tq :: .int .u32 r.be :: .int .u32 r.bq :: .int .i64 r.nx :: .int .i64 r.tt :: .int .i64 r.rt :: []) 34])) (fun T24 => ?_) ?_
    · cases bz18
      · skip
        refine p_on rfl (by rw [hops15]; rfl) ?_
        refine p_run _ (x_field (j := 2) _ _ rfl rfl Try.underlying34 rfl (by rfl) rfl) rfl ?_
        refine p_on rfl (by rw [hops15]; rfl) ?_
        refine p_run _ (x_load (.int .u32 r.b) rfl rfl (bkCell (HS.get (.tail _ (.head _))) 2 _ rfl) (by rfl)) rfl ?_
        refine p_on rfl (by rw [hops15]; rfl) ?_
        refine p_run _ (x_field (j := 2) _ _ rfl rfl Try.underlying34 rfl (by rfl) rfl) rfl ?_
        refine p_on rfl (by rw [hops15]; rfl) ?_
        refine p_run _ (x_load (.int .u32 n.b) rfl rfl (bkCell (HS.get (.head _)) 2 _ rfl) (by rfl)) rfl ?_
        refine p_on rfl (by rw [hops15]; rfl) ?_
        refine p_run _ (x_cmp (k := .u32) (m := r.b) (n := n.b) .neq (r.b != n.b) rfl rfl rfl rfl rfl) rfl ?_
        refine p_run _ (x_pick false (.bool true) (.bool (r.b != n.b)) (.bool (r.b != n.b)) rfl rfl rfl rfl rfl) rfl ?_
        exact T24 _ _ ⟨⟨uz16, .bool false, .bool false, .pointer (some ⟨g5, 2, none⟩), .int .u32 r.b, .pointer (some ⟨g8, 2, none⟩), .int .u32 n.b, .bool (r.b != n.b)⟩, (r.b != n.b), rfl, rfl, HS⟩
      · skip
        refine p_off (by rw [hops15]; rfl) rfl ?_
        refine p_off (by rw [hops15]; rfl) rfl ?_
        refine p_off (by rw [hops15]; rfl) rfl ?_
        refine p_off (by rw [hops15]; rfl) rfl ?_
        refine p_off (by rw [hops15]; rfl) rfl ?_
        refine p_run _ (x_pick true (.bool true) (undef) (.bool true) rfl rfl rfl rfl rfl) rfl ?_
        exact T24 _ _ ⟨⟨uz16, .bool true, .bool true, undef, undef, undef, undef, undef⟩, true, rfl, rfl, HS⟩
    clear HS
    rintro _ w_ ⟨qz23, bz22, rfl, hbz22, HS⟩
    skip
    refine p_run _ (x_move (.bool bz22) rfl rfl) rfl ?_
    refine p_tail 6 (fun a_ w_ => ∃ (uz26 uz27 uz28 uz29 uz30 : Value) (bz26 : Bool), a_ = fr (rcV r A c :: rcV n A2 c2 :: .pointer (some ⟨g5, 0, none⟩) :: .pointer (some ⟨g8, 0, none⟩) :: .bool false :: undef :: .pointer (some ⟨g5, 0, none⟩) :: .int .u32 r.e :: V8.l qz19 (V8.l qz23 (.bool bz22 :: .bool bz22 :: uz26 :: uz27 :: uz28 :: uz29 :: uz30 :: .bool bz26 :: U32n1 (U16n1 ([]))))) ∧ bz26 = (bz22 || (r.q != n.q)) ∧ St w (fun _ => False) w_ ([blk g8 (.int .u32 n.e :: .bool n.p :: .int .u32 n.b :: .int .u32 n.q :: .int .i64 n.l :: .int .u32 n.xe :: .int .u32 n.xq :: .slice A2 n.sn.length c2 :: .int .u64 n.s :: .int .u32 n.te :: .int .u32 n.tq :: .int .u32 n.be :: .int .u32 n.bq :: .int .i64 n.nx :: .int .i64 n.tt :: .int .i64 n.rt :: []) 34, blk g5 (.int .u32 r.e :: .bool r.p :: .int .u32 r.b :: .int .u32 r.q :: .int .i64 r.l :: .int .u32 r.xe :: .int .u32 r.xq :: .slice A r.sn.length c :: .int .u64 r.s :: .int .u32 r.te :: .int .u32 r.tq :: .int .u32 r.be :: .int .u32 r.bq :: .int .i64 r.nx :: .int .i64 r.tt :: .int .i64 r.rt :: []) 34])) (fun T27 => ?_) ?_
    · cases bz22
      · skip
        refine p_on rfl (by rw [hops15]; rfl) ?_
        refine p_run _ (x_field (j := 3) _ _ rfl rfl Try.underlying34 rfl (by rfl) rfl) rfl ?_
        refine p_on rfl (by rw [hops15]; rfl) ?_
        refine p_run _ (x_load (.int .u32 r.q) rfl rfl (bkCell (HS.get (.tail _ (.head _))) 3 _ rfl) (by rfl)) rfl ?_
        refine p_on rfl (by rw [hops15]; rfl) ?_
        refine p_run _ (x_field (j := 3) _ _ rfl rfl Try.underlying34 rfl (by rfl) rfl) rfl ?_
        refine p_on rfl (by rw [hops15]; rfl) ?_
        refine p_run _ (x_load (.int .u32 n.q) rfl rfl (bkCell (HS.get (.head _)) 3 _ rfl) (by rfl)) rfl ?_
        refine p_on rfl (by rw [hops15]; rfl) ?_
        refine p_run _ (x_cmp (k := .u32) (m := r.q) (n := n.q) .neq (r.q != n.q) rfl rfl rfl rfl rfl) rfl ?_
        refine p_run _ (x_pick false (.bool true) (.bool (r.q != n.q)) (.bool (r.q != n.q)) rfl rfl rfl rfl rfl) rfl ?_
        exact T27 _ _ ⟨(.pointer (some ⟨g5, 3, none⟩)), (.int .u32 r.q), (.pointer (some ⟨g8, 3, none⟩)), (.int .u32 n.q), (.bool (r.q != n.q)), (r.q != n.q), rfl, rfl, HS⟩
      · skip
        refine p_off (by rw [hops15]; rfl) rfl ?_
        refine p_off (by rw [hops15]; rfl) rfl ?_
        refine p_off (by rw [hops15]; rfl) rfl ?_
        refine p_off (by rw [hops15]; rfl) rfl ?_
        refine p_off (by rw [hops15]; rfl) rfl ?_
        refine p_run _ (x_pick true (.bool true) (undef) (.bool true) rfl rfl rfl rfl rfl) rfl ?_
        exact T27 _ _ ⟨undef, undef, undef, undef, undef, true, rfl, rfl, HS⟩
    clear HS
    rintro _ w_ ⟨uz26, uz27, uz28, uz29, uz30, bz26, rfl, hbz26, HS⟩
    skip
    refine p_run _ (x_move (.bool bz26) rfl rfl) rfl ?_
    refine p_tail 6 (fun a_ w_ => ∃ (uz33 uz34 uz35 uz36 uz37 : Value) (qz30 : V8) (bz29 : Bool), a_ = fr (rcV r A c :: rcV n A2 c2 :: .pointer (some ⟨g5, 0, none⟩) :: .pointer (some ⟨g8, 0, none⟩) :: .bool false :: undef :: .pointer (some ⟨g5, 0, none⟩) :: .int .u32 r.e :: V8.l qz19 (V8.l qz23 (V8.l qz30 (.bool bz26 :: uz33 :: uz34 :: uz35 :: uz36 :: uz37 :: .bool bz29 :: U32n1 (U8n1 (undef :: [])))))) ∧ bz29 = (bz26 || (r.l != n.l)) ∧ St w (fun _ => False) w_ ([blk g8 (.int .u32 n.e :: .bool n.p :: .int .u32 n.b :: .int .u32 n.q :: .int .i64 n.l :: .int .u32 n.xe :: .int .u32 n.xq :: .slice A2 n.sn.length c2 :: .int .u64 n.s :: .int .u32 n.te :: .int .u32 n.tq :: .int .u32 n.be :: .int .u32 n.bq :: .int .i64 n.nx :: .int .i64 n.tt :: .int .i64 n.rt :: []) 34, blk g5 (.int .u32 r.e :: .bool r.p :: .int .u32 r.b :: .int .u32 r.q :: .int .i64 r.l :: .int .u32 r.xe :: .int .u32 r.xq :: .slice A r.sn.length c :: .int .u64 r.s :: .int .u32 r.te :: .int .u32 r.tq :: .int .u32 r.be :: .int .u32 r.bq :: .int .i64 r.nx :: .int .i64 r.tt :: .int .i64 r.rt :: []) 34])) (fun T31 => ?_) ?_
    · cases bz26
      · skip
        refine p_on rfl (by rw [hops15]; rfl) ?_
        refine p_run _ (x_field (j := 4) _ _ rfl rfl Try.underlying34 rfl (by rfl) rfl) rfl ?_
        refine p_on rfl (by rw [hops15]; rfl) ?_
        refine p_run _ (x_load (.int .i64 r.l) rfl rfl (bkCell (HS.get (.tail _ (.head _))) 4 _ rfl) (by rfl)) rfl ?_
        refine p_on rfl (by rw [hops15]; rfl) ?_
        refine p_run _ (x_field (j := 4) _ _ rfl rfl Try.underlying34 rfl (by rfl) rfl) rfl ?_
        refine p_on rfl (by rw [hops15]; rfl) ?_
        refine p_run _ (x_load (.int .i64 n.l) rfl rfl (bkCell (HS.get (.head _)) 4 _ rfl) (by rfl)) rfl ?_
        refine p_on rfl (by rw [hops15]; rfl) ?_
        refine p_run _ (x_cmp (k := .i64) (m := r.l) (n := n.l) .neq (r.l != n.l) rfl rfl rfl rfl rfl) rfl ?_
        refine p_run _ (x_pick false (.bool true) (.bool (r.l != n.l)) (.bool (r.l != n.l)) rfl rfl rfl rfl rfl) rfl ?_
        exact T31 _ _ ⟨(.pointer (some ⟨g5, 4, none⟩)), (.int .i64 r.l), (.pointer (some ⟨g8, 4, none⟩)), (.int .i64 n.l), (.bool (r.l != n.l)), ⟨.bool bz22, .bool bz22, uz26, uz27, uz28, uz29, uz30, .bool false⟩, (r.l != n.l), rfl, rfl, HS⟩
      · skip
        refine p_off (by rw [hops15]; rfl) rfl ?_
        refine p_off (by rw [hops15]; rfl) rfl ?_
        refine p_off (by rw [hops15]; rfl) rfl ?_
        refine p_off (by rw [hops15]; rfl) rfl ?_
        refine p_off (by rw [hops15]; rfl) rfl ?_
        refine p_run _ (x_pick true (.bool true) (undef) (.bool true) rfl rfl rfl rfl rfl) rfl ?_
        exact T31 _ _ ⟨undef, undef, undef, undef, undef, ⟨.bool bz22, .bool bz22, uz26, uz27, uz28, uz29, uz30, .bool true⟩, true, rfl, rfl, HS⟩
    clear HS
    rintro _ w_ ⟨uz33, uz34, uz35, uz36, uz37, qz30, bz29, rfl, hbz29, HS⟩
    skip
    refine p_run _ (x_move (.bool bz29) rfl rfl) rfl ?_
    refine p_tail 6 (fun a_ w_ => ∃ (uz40 uz41 uz42 uz43 uz44 : Value) (qz34 : V8) (bz33 : Bool), a_ = fr (rcV r A c :: rcV n A2 c2 :: .pointer (some ⟨g5, 0, none⟩) :: .pointer (some ⟨g8, 0, none⟩) :: .bool false :: undef :: .pointer (some ⟨g5, 0, none⟩) :: .int .u32 r.e :: V8.l qz19 (V8.l qz23 (V8.l qz30 (V8.l qz34 (uz40 :: uz41 :: uz42 :: uz43 :: uz44 :: .bool bz33 :: U32n1 (undef :: undef :: [])))))) ∧ bz33 = (bz29 || (!(decide (r.xe = n.xe ∧ r.xq = n.xq)))) ∧ St w (fun _ => False) w_ ([blk g8 (.int .u32 n.e :: .bool n.p :: .int .u32 n.b :: .int .u32 n.q :: .int .i64 n.l :: .int .u32 n.xe :: .int .u32 n.xq :: .slice A2 n.sn.length c2 :: .int .u64 n.s :: .int .u32 n.te :: .int .u32 n.tq :: .int .u32 n.be :: .int .u32 n.bq :: .int .i64 n.nx :: .int .i64 n.tt :: .int .i64 n.rt :: []) 34, blk g5 (.int .u32 r.e :: .bool r.p :: .int .u32 r.b :: .int .u32 r.q :: .int .i64 r.l :: .int .u32 r.xe :: .int .u32 r.xq :: .slice A r.sn.length c :: .int .u64 r.s :: .int .u32 r.te :: .int .u32 r.tq :: .int .u32 r.be :: .int .u32 r.bq :: .int .i64 r.nx :: .int .i64 r.tt :: .int .i64 r.rt :: []) 34])) (fun T35 => ?_) ?_
    · cases bz29
      · skip
        refine p_on rfl (by rw [hops15]; rfl) ?_
        refine p_run _ (x_field (j := 5) _ _ rfl rfl Try.underlying34 rfl (by rfl) rfl) rfl ?_
        refine p_on rfl (by rw [hops15]; rfl) ?_
        refine p_run _ (x_loads [.int .u32 r.xe, .int .u32 r.xq] 2 rfl rfl (bkCells (HS.get (.tail _ (.head _))) 5 _ rfl) (by rfl) (by kernel_rfl) rfl) rfl ?_
        refine p_on rfl (by rw [hops15]; rfl) ?_
        refine p_run _ (x_field (j := 5) _ _ rfl rfl Try.underlying34 rfl (by rfl) rfl) rfl ?_
        refine p_on rfl (by rw [hops15]; rfl) ?_
        refine p_run _ (x_loads [.int .u32 n.xe, .int .u32 n.xq] 2 rfl rfl (bkCells (HS.get (.head _)) 5 _ rfl) (by rfl) (by kernel_rfl) rfl) rfl ?_
        refine p_on rfl (by rw [hops15]; rfl) ?_
        refine p_run _ (x_eq .neq (.agg ([.int .u32 r.xe, .int .u32 r.xq] : List Value).toArray) (.agg ([.int .u32 n.xe, .int .u32 n.xq] : List Value).toArray) (decide (r.xe = n.xe ∧ r.xq = n.xq)) (!(decide (r.xe = n.xe ∧ r.xq = n.xq))) rfl rfl rfl (equal_lb _ r.xe r.xq n.xe n.xq) rfl rfl (guard_agg (by kernel_rfl)) (guard_agg (by kernel_rfl))) rfl ?_
        refine p_run _ (x_pick false (.bool true) (.bool (!(decide (r.xe = n.xe ∧ r.xq = n.xq)))) (.bool (!(decide (r.xe = n.xe ∧ r.xq = n.xq)))) rfl rfl rfl rfl rfl) rfl ?_
        exact T35 _ _ ⟨(.pointer (some ⟨g5, 5, none⟩)), (.agg ([.int .u32 r.xe, .int .u32 r.xq] : List Value).toArray), (.pointer (some ⟨g8, 5, none⟩)), (.agg ([.int .u32 n.xe, .int .u32 n.xq] : List Value).toArray), (.bool (!(decide (r.xe = n.xe ∧ r.xq = n.xq)))), ⟨.bool bz26, uz33, uz34, uz35, uz36, uz37, .bool false, .bool false⟩, (!(decide (r.xe = n.xe ∧ r.xq = n.xq))), rfl, rfl, HS⟩
      · skip
        refine p_off (by rw [hops15]; rfl) rfl ?_
        refine p_off (by rw [hops15]; rfl) rfl ?_
        refine p_off (by rw [hops15]; rfl) rfl ?_
        refine p_off (by rw [hops15]; rfl) rfl ?_
        refine p_off (by rw [hops15]; rfl) rfl ?_
        refine p_run _ (x_pick true (.bool true) (undef) (.bool true) rfl rfl rfl rfl rfl) rfl ?_
        exact T35 _ _ ⟨undef, undef, undef, undef, undef, ⟨.bool bz26, uz33, uz34, uz35, uz36, uz37, .bool true, .bool true⟩, true, rfl, rfl, HS⟩
    clear HS
    rintro _ w_ ⟨uz40, uz41, uz42, uz43, uz44, qz34, bz33, rfl, hbz33, HS⟩
    skip
    refine p_run _ (x_move (.bool bz33) rfl rfl) rfl ?_
    refine p_tail 6 (fun a_ w_ => ∃ (uz48 uz49 uz50 uz51 : Value) (qz38 : V8) (bz37 : Bool), a_ = fr (rcV r A c :: rcV n A2 c2 :: .pointer (some ⟨g5, 0, none⟩) :: .pointer (some ⟨g8, 0, none⟩) :: .bool false :: undef :: .pointer (some ⟨g5, 0, none⟩) :: .int .u32 r.e :: V8.l qz19 (V8.l qz23 (V8.l qz30 (V8.l qz34 (V8.l qz38 (uz48 :: uz49 :: uz50 :: uz51 :: .bool bz37 :: U16n1 (U8n1 (undef :: undef :: undef :: [])))))))) ∧ bz37 = (bz33 || (!(decide (r.s = n.s ∧ (r.te = n.te ∧ r.tq = n.tq) ∧ (r.be = n.be ∧ r.bq = n.bq) ∧ r.nx = n.nx ∧ r.tt = n.tt ∧ r.rt = n.rt)))) ∧ St w (fun _ => False) w_ ([blk g8 (.int .u32 n.e :: .bool n.p :: .int .u32 n.b :: .int .u32 n.q :: .int .i64 n.l :: .int .u32 n.xe :: .int .u32 n.xq :: .slice A2 n.sn.length c2 :: .int .u64 n.s :: .int .u32 n.te :: .int .u32 n.tq :: .int .u32 n.be :: .int .u32 n.bq :: .int .i64 n.nx :: .int .i64 n.tt :: .int .i64 n.rt :: []) 34, blk g5 (.int .u32 r.e :: .bool r.p :: .int .u32 r.b :: .int .u32 r.q :: .int .i64 r.l :: .int .u32 r.xe :: .int .u32 r.xq :: .slice A r.sn.length c :: .int .u64 r.s :: .int .u32 r.te :: .int .u32 r.tq :: .int .u32 r.be :: .int .u32 r.bq :: .int .i64 r.nx :: .int .i64 r.tt :: .int .i64 r.rt :: []) 34])) (fun T39 => ?_) ?_
    · cases bz33
      · skip
        refine p_on rfl (by rw [hops15]; rfl) ?_
        refine p_run _ (x_field (j := 8) _ _ rfl rfl Try.underlying34 rfl (by rfl) rfl) rfl ?_
        refine p_on rfl (by rw [hops15]; rfl) ?_
        refine p_run _ (x_loads [.int .u64 r.s, .int .u32 r.te, .int .u32 r.tq, .int .u32 r.be, .int .u32 r.bq, .int .i64 r.nx, .int .i64 r.tt, .int .i64 r.rt] 8 rfl rfl (bkCells (HS.get (.tail _ (.head _))) 8 _ rfl) (by rfl) (by kernel_rfl) rfl) rfl ?_
        refine p_on rfl (by rw [hops15]; rfl) ?_
        refine p_run _ (x_field (j := 8) _ _ rfl rfl Try.underlying34 rfl (by rfl) rfl) rfl ?_
        refine p_on rfl (by rw [hops15]; rfl) ?_
        refine p_run _ (x_loads [.int .u64 n.s, .int .u32 n.te, .int .u32 n.tq, .int .u32 n.be, .int .u32 n.bq, .int .i64 n.nx, .int .i64 n.tt, .int .i64 n.rt] 8 rfl rfl (bkCells (HS.get (.head _)) 8 _ rfl) (by rfl) (by kernel_rfl) rfl) rfl ?_
        refine p_on rfl (by rw [hops15]; rfl) ?_
        refine p_run _ (x_eq .neq (.agg ([.int .u64 r.s, .int .u32 r.te, .int .u32 r.tq, .int .u32 r.be, .int .u32 r.bq, .int .i64 r.nx, .int .i64 r.tt, .int .i64 r.rt] : List Value).toArray) (.agg ([.int .u64 n.s, .int .u32 n.te, .int .u32 n.tq, .int .u32 n.be, .int .u32 n.bq, .int .i64 n.nx, .int .i64 n.tt, .int .i64 n.rt] : List Value).toArray) (decide (r.s = n.s ∧ (r.te = n.te ∧ r.tq = n.tq) ∧ (r.be = n.be ∧ r.bq = n.bq) ∧ r.nx = n.nx ∧ r.tt = n.tt ∧ r.rt = n.rt)) (!(decide (r.s = n.s ∧ (r.te = n.te ∧ r.tq = n.tq) ∧ (r.be = n.be ∧ r.bq = n.bq) ∧ r.nx = n.nx ∧ r.tt = n.tt ∧ r.rt = n.rt))) rfl rfl rfl (equal_sg _ r.s r.te r.tq r.be r.bq r.nx r.tt r.rt n.s n.te n.tq n.be n.bq n.nx n.tt n.rt) rfl rfl (guard_agg (by kernel_rfl)) (guard_agg (by kernel_rfl))) rfl ?_
        refine p_run _ (x_pick false (.bool true) (.bool (!(decide (r.s = n.s ∧ (r.te = n.te ∧ r.tq = n.tq) ∧ (r.be = n.be ∧ r.bq = n.bq) ∧ r.nx = n.nx ∧ r.tt = n.tt ∧ r.rt = n.rt)))) (.bool (!(decide (r.s = n.s ∧ (r.te = n.te ∧ r.tq = n.tq) ∧ (r.be = n.be ∧ r.bq = n.bq) ∧ r.nx = n.nx ∧ r.tt = n.tt ∧ r.rt = n.rt)))) rfl rfl rfl rfl rfl) rfl ?_
        exact T39 _ _ ⟨(.agg ([.int .u64 r.s, .int .u32 r.te, .int .u32 r.tq, .int .u32 r.be, .int .u32 r.bq, .int .i64 r.nx, .int .i64 r.tt, .int .i64 r.rt] : List Value).toArray), (.pointer (some ⟨g8, 8, none⟩)), (.agg ([.int .u64 n.s, .int .u32 n.te, .int .u32 n.tq, .int .u32 n.be, .int .u32 n.bq, .int .i64 n.nx, .int .i64 n.tt, .int .i64 n.rt] : List Value).toArray), (.bool (!(decide (r.s = n.s ∧ (r.te = n.te ∧ r.tq = n.tq) ∧ (r.be = n.be ∧ r.bq = n.bq) ∧ r.nx = n.nx ∧ r.tt = n.tt ∧ r.rt = n.rt)))), ⟨uz40, uz41, uz42, uz43, uz44, .bool false, .bool false, .pointer (some ⟨g5, 8, none⟩)⟩, (!(decide (r.s = n.s ∧ (r.te = n.te ∧ r.tq = n.tq) ∧ (r.be = n.be ∧ r.bq = n.bq) ∧ r.nx = n.nx ∧ r.tt = n.tt ∧ r.rt = n.rt))), rfl, rfl, HS⟩
      · skip
        refine p_off (by rw [hops15]; rfl) rfl ?_
        refine p_off (by rw [hops15]; rfl) rfl ?_
        refine p_off (by rw [hops15]; rfl) rfl ?_
        refine p_off (by rw [hops15]; rfl) rfl ?_
        refine p_off (by rw [hops15]; rfl) rfl ?_
        refine p_run _ (x_pick true (.bool true) (undef) (.bool true) rfl rfl rfl rfl rfl) rfl ?_
        exact T39 _ _ ⟨undef, undef, undef, undef, ⟨uz40, uz41, uz42, uz43, uz44, .bool true, .bool true, undef⟩, true, rfl, rfl, HS⟩
    clear HS
    rintro _ w_ ⟨uz48, uz49, uz50, uz51, qz38, bz37, rfl, hbz37, HS⟩
    skip
    refine p_run _ (x_move (.bool bz37) rfl rfl) rfl ?_
    refine p_tail 8 (fun a_ w_ => ∃ (uz56 uz57 uz58 uz59 uz60 : Value) (qz42 : V8) (bz41 : Bool), a_ = fr (rcV r A c :: rcV n A2 c2 :: .pointer (some ⟨g5, 0, none⟩) :: .pointer (some ⟨g8, 0, none⟩) :: .bool false :: undef :: .pointer (some ⟨g5, 0, none⟩) :: .int .u32 r.e :: V8.l qz19 (V8.l qz23 (V8.l qz30 (V8.l qz34 (V8.l qz38 (V8.l qz42 (uz56 :: uz57 :: uz58 :: uz59 :: uz60 :: .bool bz41 :: U16n1 (undef :: undef :: [])))))))) ∧ bz41 = (bz37 || ((r.sn.length : Int) != (n.sn.length : Int))) ∧ St w (fun _ => False) w_ ([blk g8 (.int .u32 n.e :: .bool n.p :: .int .u32 n.b :: .int .u32 n.q :: .int .i64 n.l :: .int .u32 n.xe :: .int .u32 n.xq :: .slice A2 n.sn.length c2 :: .int .u64 n.s :: .int .u32 n.te :: .int .u32 n.tq :: .int .u32 n.be :: .int .u32 n.bq :: .int .i64 n.nx :: .int .i64 n.tt :: .int .i64 n.rt :: []) 34, blk g5 (.int .u32 r.e :: .bool r.p :: .int .u32 r.b :: .int .u32 r.q :: .int .i64 r.l :: .int .u32 r.xe :: .int .u32 r.xq :: .slice A r.sn.length c :: .int .u64 r.s :: .int .u32 r.te :: .int .u32 r.tq :: .int .u32 r.be :: .int .u32 r.bq :: .int .i64 r.nx :: .int .i64 r.tt :: .int .i64 r.rt :: []) 34])) (fun T43 => ?_) ?_
    · cases bz37
      · skip
        refine p_on rfl (by rw [hops15]; rfl) ?_
        refine p_run _ (x_field (j := 7) _ _ rfl rfl Try.underlying34 rfl (by rfl) rfl) rfl ?_
        refine p_on rfl (by rw [hops15]; rfl) ?_
        refine p_run _ (x_load (.slice A r.sn.length c) rfl rfl (bkCell (HS.get (.tail _ (.head _))) 7 _ rfl) (by rfl)) rfl ?_
        refine p_on rfl (by rw [hops15]; rfl) ?_
        refine p_run _ (x_len rfl rfl Try.underlying29) rfl ?_
        refine p_on rfl (by rw [hops15]; rfl) ?_
        refine p_run _ (x_field (j := 7) _ _ rfl rfl Try.underlying34 rfl (by rfl) rfl) rfl ?_
        refine p_on rfl (by rw [hops15]; rfl) ?_
        refine p_run _ (x_load (.slice A2 n.sn.length c2) rfl rfl (bkCell (HS.get (.head _)) 7 _ rfl) (by rfl)) rfl ?_
        refine p_on rfl (by rw [hops15]; rfl) ?_
        refine p_run _ (x_len rfl rfl Try.underlying29) rfl ?_
        refine p_on rfl (by rw [hops15]; rfl) ?_
        refine p_run (l' := (rcV r A c :: rcV n A2 c2 :: .pointer (some ⟨g5, 0, none⟩) :: .pointer (some ⟨g8, 0, none⟩) :: .bool false :: undef :: .pointer (some ⟨g5, 0, none⟩) :: .int .u32 r.e :: V8.l qz19 (V8.l qz23 (V8.l qz30 (V8.l qz34 (V8.l qz38 (uz48 :: uz49 :: uz50 :: uz51 :: .bool false :: .bool false :: .pointer (some ⟨g5, 7, none⟩) :: .slice A r.sn.length c :: .int .i64 (r.sn.length : Int) :: .pointer (some ⟨g8, 7, none⟩) :: .slice A2 n.sn.length c2 :: .int .i64 (n.sn.length : Int) :: .bool ((r.sn.length : Int) != (n.sn.length : Int)) :: U16n1 (undef :: undef :: undef :: [])))))))) _ (x_cmp (k := .i64) (m := (r.sn.length : Int)) (n := (n.sn.length : Int)) .neq ((r.sn.length : Int) != (n.sn.length : Int)) rfl rfl rfl rfl rfl) rfl ?_
        refine p_run _ (x_pick false (.bool true) (.bool ((r.sn.length : Int) != (n.sn.length : Int))) (.bool ((r.sn.length : Int) != (n.sn.length : Int))) rfl rfl rfl rfl rfl) rfl ?_
        exact T43 _ _ ⟨(.int .i64 (r.sn.length : Int)), (.pointer (some ⟨g8, 7, none⟩)), (.slice A2 n.sn.length c2), (.int .i64 (n.sn.length : Int)), (.bool ((r.sn.length : Int) != (n.sn.length : Int))), ⟨uz48, uz49, uz50, uz51, .bool false, .bool false, .pointer (some ⟨g5, 7, none⟩), .slice A r.sn.length c⟩, ((r.sn.length : Int) != (n.sn.length : Int)), rfl, rfl, HS⟩
      · skip
        refine p_off (by rw [hops15]; rfl) rfl ?_
        refine p_off (by rw [hops15]; rfl) rfl ?_
        refine p_off (by rw [hops15]; rfl) rfl ?_
        refine p_off (by rw [hops15]; rfl) rfl ?_
        refine p_off (by rw [hops15]; rfl) rfl ?_
        refine p_off (by rw [hops15]; rfl) rfl ?_
        refine p_off (l' := (rcV r A c :: rcV n A2 c2 :: .pointer (some ⟨g5, 0, none⟩) :: .pointer (some ⟨g8, 0, none⟩) :: .bool false :: undef :: .pointer (some ⟨g5, 0, none⟩) :: .int .u32 r.e :: V8.l qz19 (V8.l qz23 (V8.l qz30 (V8.l qz34 (V8.l qz38 (uz48 :: uz49 :: uz50 :: uz51 :: .bool true :: .bool true :: U16n1 (U8n1 (undef :: undef :: []))))))))) (by rw [hops15]; rfl) rfl ?_
        refine p_run _ (x_pick true (.bool true) (undef) (.bool true) rfl rfl rfl rfl rfl) rfl ?_
        exact T43 _ _ ⟨undef, undef, undef, undef, undef, ⟨uz48, uz49, uz50, uz51, .bool true, .bool true, undef, undef⟩, true, rfl, rfl, HS⟩
    clear HS
    rintro _ w_ ⟨uz56, uz57, uz58, uz59, uz60, qz42, bz41, rfl, hbz41, HS⟩
    skip
    clear hops15
    refine wpList_nil ?_
    refine hK14 _ _ ?_
    refine c_cond (t := bz41) rfl (fun hc45 => ?_) (fun hc45 => ?_)
    · rw [hbz41, hbz37, hbz33, hbz29, hbz26, hbz22, hbz18, hbz17] at hc45
      have hno : rcS r n = false := rcS_no (fun h => by subst h; simp at hc45)
      refine wp_seq_k (fun K46 hK47 => ?_)
      refine c_region (fun ops49 hops48 => ?_)
      clear hops48
      refine p_run _ (x_assign (.bool false) rfl rfl) rfl ?_
      refine wpList_nil ?_
      refine hK47 _ _ ?_
      refine wp_ret ?_
      try simp only [Exit.inBlock, Exit.then]
      refine c_ret (.bool false) (r_tmp rfl rfl) ?_
      rw [hno]
      exact ⟨rfl, HS.belowOf⟩
    · rw [hbz41, hbz37, hbz33, hbz29, hbz26, hbz22, hbz18, hbz17] at hc45
      simp only [Bool.or_eq_false_iff, bne_eq_false_iff_eq, Bool.not_eq_eq_eq_not, Bool.not_false, decide_eq_true_eq, beq_iff_eq] at hc45
      have bd := hc45
      clear hc45
      have hln : r.sn.length = n.sn.length := by omega
      refine wp_skip ?_
      refine hK12 _ _ ?_
      refine wp_seq_k (fun K50 hK51 => ?_)
      refine wp_seq_k (fun K52 hK53 => ?_)
      refine c_region (fun ops55 hops54 => ?_)
      clear hops54
      refine p_run _ (x_field (j := 7) _ _ rfl rfl Try.underlying34 rfl (by rfl) rfl) rfl ?_
      refine p_run _ (x_load (.slice A r.sn.length c) rfl rfl (bkCell (HS.get (.tail _ (.head _))) 7 _ rfl) (by rfl)) rfl ?_
      refine p_run _ (x_len rfl rfl Try.underlying29) rfl ?_
      refine p_run _ (x_move (.int .i64 0) rfl rfl) rfl ?_
      refine wpList_nil ?_
      obtain ⟨qz56, hqz56⟩ : ∃ q_ : V8, q_ = ⟨uz56, uz57, uz58, uz59, uz60, .bool bz41, .pointer (some ⟨g5, 7, none⟩), .slice A r.sn.length c⟩ := ⟨_, rfl⟩
      refine fr_at (l' := (rcV r A c :: rcV n A2 c2 :: .pointer (some ⟨g5, 0, none⟩) :: .pointer (some ⟨g8, 0, none⟩) :: .bool false :: undef :: .pointer (some ⟨g5, 0, none⟩) :: .int .u32 r.e :: V8.l qz19 (V8.l qz23 (V8.l qz30 (V8.l qz34 (V8.l qz38 (V8.l qz42 (V8.l qz56 (.int .i64 (r.sn.length : Int) :: .int .i64 0 :: U8n1 (U4n1 (undef :: undef :: []))))))))))) (by subst hqz56; rfl) ?_
      refine hK53 _ _ ?_
      refine wp_block ?_
      refine c_loop (ι := Nat) (fun i_ a_ w_ => match i_ with | j => ∃ (u4 : Value) (u5 : Value) (u66 : Value) (u67 : Value) (u68 : Value) (u69 : Value) (u70 : Value) (u71 : Value) (u72 : Value) (u73 : Value) (u74 : Value) (u75 : Value) (u76 : Value) (u77 : Value) (u78 : Value) (u79 : Value), a_ = fr (rcV r A c :: rcV n A2 c2 :: .pointer (some ⟨g5, 0, none⟩) :: .pointer (some ⟨g8, 0, none⟩) :: u4 :: u5 :: .pointer (some ⟨g5, 0, none⟩) :: .int .u32 r.e :: V8.l qz19 (V8.l qz23 (V8.l qz30 (V8.l qz34 (V8.l qz38 (V8.l qz42 (V8.l qz56 (.int .i64 (r.sn.length : Int) :: .int .i64 (j : Int) :: u66 :: u67 :: u68 :: u69 :: u70 :: u71 :: u72 :: u73 :: u74 :: u75 :: u76 :: u77 :: u78 :: u79 :: [])))))))) ∧ St w (fun _ => False) w_ ([blk g5 (.int .u32 r.e :: .bool r.p :: .int .u32 r.b :: .int .u32 r.q :: .int .i64 r.l :: .int .u32 r.xe :: .int .u32 r.xq :: .slice A r.sn.length c :: .int .u64 r.s :: .int .u32 r.te :: .int .u32 r.tq :: .int .u32 r.be :: .int .u32 r.bq :: .int .i64 r.nx :: .int .i64 r.tt :: .int .i64 r.rt :: []) 34, blk g8 (.int .u32 n.e :: .bool n.p :: .int .u32 n.b :: .int .u32 n.q :: .int .i64 n.l :: .int .u32 n.xe :: .int .u32 n.xq :: .slice A2 n.sn.length c2 :: .int .u64 n.s :: .int .u32 n.te :: .int .u32 n.tq :: .int .u32 n.be :: .int .u32 n.bq :: .int .i64 n.nx :: .int .i64 n.tt :: .int .i64 n.rt :: []) 34]) ∧ (j ≤ r.sn.length ∧ r.sn.take j = n.sn.take j)) (fun i_ => match i_ with | j => r.sn.length - j) 0 ?_ ?_
      · exact ⟨_, _, _, _, _, _, _, _, _, _, _, _, _, _, _, _, rfl, (HS.front 1 rfl), ⟨by omega, rfl⟩⟩
      · clear HS
        rintro j a_ w59 ⟨u4, u5, u66, u67, u68, u69, u70, u71, u72, u73, u74, u75, u76, u77, u78, u79, rfl, HS, hI⟩ J57 hJ58
        have hjl := hI.1
        refine wp_seq_k (fun K60 hK61 => ?_)
        refine c_region (fun ops63 hops62 => ?_)
        clear hops62
        refine p_run _ (x_cmp (k := .i64) (m := (j : Int)) (n := (r.sn.length : Int)) .lss (decide ((j : Int) < (r.sn.length : Int))) rfl rfl rfl rfl rfl) rfl ?_
        refine wpList_nil ?_
        refine hK61 _ _ ?_
        refine wp_seq_k (fun K64 hK65 => ?_)
        refine c_cond (t := decide ((j : Int) < (r.sn.length : Int))) rfl (fun hc66 => ?_) (fun hc66 => ?_)
        · have hlt : j < r.sn.length := by have := of_decide_eq_true hc66; omega
          obtain ⟨ad, x, rfl, hx, -⟩ := sn_get (Kd.C_below hA HS.belowOf) j hlt
          obtain ⟨ae, y, rfl, hy, -⟩ := sn_get (Kd.C_below hA2 HS.belowOf) j (by omega)
          refine wp_skip ?_
          refine hK65 _ _ ?_
          refine wp_seq_k (fun K67 hK68 => ?_)
          refine wp_block ?_
          refine wp_seq_k (fun K69 hK70 => ?_)
          refine c_region (fun ops72 hops71 => ?_)
          clear hops71
          refine p_run _ (x_move (.int .i64 (j : Int)) rfl rfl) rfl ?_
          refine p_run _ (x_assign (.int .i64 (j : Int)) rfl rfl) rfl ?_
          refine wpList_nil ?_
          refine hK70 _ _ ?_
          refine wp_seq_k (fun K73 hK74 => ?_)
          by_cases hxy : x = y
          · skip
            refine free_frame (n := 11) (T := _) [0, 1, 0, 7, 15, 0, 32, 0, 224, 480, 1023] [(0, 68), (1, 69), (2, 70), (3, 71), (4, 72), (5, 73), (6, 74), (7, 75), (8, 76), (9, 77), (10, 78)] (fun bq_ vq_ w_ => qv ((fun i_ => match i_ with | 0 => some (.pointer (some ⟨g5, 7, none⟩)) | 1 => some (.slice (some ad) r.sn.length c) | 2 => some (.int .i64 (j : Int)) | 3 => some (.pointer (some ((ad).add (j * 4)))) | 4 => some (.agg ([.int .u32 x.1, .int .u32 x.2.1, .int .i64 x.2.2.1, .int .u32 x.2.2.2] : List Value).toArray) | 5 => some (.pointer (some ⟨g8, 7, none⟩)) | 6 => some (.slice (some ae) n.sn.length c2) | 7 => some (.int .i64 (j : Int)) | 8 => some (.pointer (some ((ae).add (j * 4)))) | 9 => some (.agg ([.int .u32 y.1, .int .u32 y.2.1, .int .i64 y.2.2.1, .int .u32 y.2.2.2] : List Value).toArray) | 10 => some (.bool false) | _ => none) : Nat → Option Value) bq_ vq_ ∧ (St w (fun _ => False) w_ ([blk g5 (.int .u32 r.e :: .bool r.p :: .int .u32 r.b :: .int .u32 r.q :: .int .i64 r.l :: .int .u32 r.xe :: .int .u32 r.xq :: .slice (some ad) r.sn.length c :: .int .u64 r.s :: .int .u32 r.te :: .int .u32 r.tq :: .int .u32 r.be :: .int .u32 r.bq :: .int .i64 r.nx :: .int .i64 r.tt :: .int .i64 r.rt :: []) 34, blk g8 (.int .u32 n.e :: .bool n.p :: .int .u32 n.b :: .int .u32 n.q :: .int .i64 n.l :: .int .u32 n.xe :: .int .u32 n.xq :: .slice (some ae) n.sn.length c2 :: .int .u64 n.s :: .int .u32 n.te :: .int .u32 n.tq :: .int .u32 n.be :: .int .u32 n.bq :: .int .i64 n.nx :: .int .i64 n.tt :: .int .i64 n.rt :: []) 34]))) (by kernel_rfl) rfl rfl (by kernel_rfl) (by kernel_rfl) rfl (by kernel_rfl) (by kernel_rfl) ⟨qv_none, HS.draw⟩ ?_ ?_
            · clear HS
              intro i_ hi_ bq_ vq_ a_ w_ hG hb_ hon hoff hfr hel hval
              obtain ⟨hV, hE⟩ := hG
              have hi_ := List.mem_range.1 hi_
              obtain ⟨l_, rfl⟩ := hfr
              have hv_ := fun (j t : Nat) (v : Value) (h1 : (j, t) ∈ [(0, 68), (1, 69), (2, 70), (3, 71), (4, 72), (5, 73), (6, 74), (7, 75), (8, 76), (9, 77), (10, 78)]) h2 h3 => (hval (j, t) h1 h3).trans (congrArg some (hV j v h2 h3))
              have hcs : i_ = 0 ∨ i_ = 1 ∨ i_ = 2 ∨ i_ = 3 ∨ i_ = 4 ∨ i_ = 5 ∨ i_ = 6 ∨ i_ = 7 ∨ i_ = 8 ∨ i_ = 9 ∨ i_ = 10 := by omega
              rcases hcs with rfl | rfl | rfl | rfl | rfl | rfl | rfl | rfl | rfl | rfl | rfl
              · have e2 : evl l_ (.tmp 2) = .pointer (some ⟨g5, 0, none⟩) := evl_of ((hel 2 (by decide)).trans rfl)
                exact ⟨_, rfl, fun K_ hK_ => q_op _ (x_field (j := 7) _ _ rfl e2 Try.underlying34 rfl (by rfl) rfl) (hK_ _ _ ⟨qv_up hV (fun _ h => Option.some.inj h), hE⟩)⟩
              · have hE0 := hE
                have HS := hE0
                have e68 : evl l_ (.tmp 68) = .pointer (some ⟨g5, 7, none⟩) := evl_of (hv_ 0 68 _ (by decide) rfl (hon 0 (by decide)))
                exact ⟨_, rfl, fun K_ hK_ => q_op _ (x_load (.slice (some ad) r.sn.length c) rfl e68 (bkCell (HS.get (.head _)) 7 _ rfl) (by rfl)) (hK_ _ _ ⟨qv_up hV (fun _ h => Option.some.inj h), hE⟩)⟩
              · have e5 : evl l_ (.tmp 5) = .int .i64 (j : Int) := evl_of ((hel 5 (by decide)).trans rfl)
                exact ⟨_, rfl, fun K_ hK_ => q_op _ (x_move (.int .i64 (j : Int)) rfl e5) (hK_ _ _ ⟨qv_up hV (fun _ h => Option.some.inj h), hE⟩)⟩
              · have e69 : evl l_ (.tmp 69) = .slice (some ad) r.sn.length c := evl_of (hv_ 1 69 _ (by decide) rfl (hon 1 (by decide)))
                have e70 : evl l_ (.tmp 70) = .int .i64 (j : Int) := evl_of (hv_ 2 70 _ (by decide) rfl (hon 2 (by decide)))
                exact ⟨_, rfl, fun K_ hK_ => q_op _ (x_index (A := ad) (j := j * 4) (sz := 4) rfl e69 e70 Try.underlying29 (by kernel_rfl) (by omega) rfl) (hK_ _ _ ⟨qv_up hV (fun _ h => Option.some.inj h), hE⟩)⟩
              · have hE0 := hE
                have HS := hE0
                have e71 : evl l_ (.tmp 71) = .pointer (some ((ad).add (j * 4))) := evl_of (hv_ 3 71 _ (by decide) rfl (hon 3 (by decide)))
                exact ⟨_, rfl, fun K_ hK_ => q_op _ (x_loads [.int .u32 x.1, .int .u32 x.2.1, .int .i64 x.2.2.1, .int .u32 x.2.2.2] 4 rfl e71 (sn_cells (Kd.C_below hA HS.belowOf) hx) (by rfl) (by kernel_rfl) rfl) (hK_ _ _ ⟨qv_up hV (fun _ h => Option.some.inj h), hE⟩)⟩
              · have e3 : evl l_ (.tmp 3) = .pointer (some ⟨g8, 0, none⟩) := evl_of ((hel 3 (by decide)).trans rfl)
                exact ⟨_, rfl, fun K_ hK_ => q_op _ (x_field (j := 7) _ _ rfl e3 Try.underlying34 rfl (by rfl) rfl) (hK_ _ _ ⟨qv_up hV (fun _ h => Option.some.inj h), hE⟩)⟩
              · have hE0 := hE
                have HS := hE0
                have e73 : evl l_ (.tmp 73) = .pointer (some ⟨g8, 7, none⟩) := evl_of (hv_ 5 73 _ (by decide) rfl (hon 5 (by decide)))
                exact ⟨_, rfl, fun K_ hK_ => q_op _ (x_load (.slice (some ae) n.sn.length c2) rfl e73 (bkCell (HS.get (.tail _ (.head _))) 7 _ rfl) (by rfl)) (hK_ _ _ ⟨qv_up hV (fun _ h => Option.some.inj h), hE⟩)⟩
              · have e5 : evl l_ (.tmp 5) = .int .i64 (j : Int) := evl_of ((hel 5 (by decide)).trans rfl)
                exact ⟨_, rfl, fun K_ hK_ => q_op _ (x_move (.int .i64 (j : Int)) rfl e5) (hK_ _ _ ⟨qv_up hV (fun _ h => Option.some.inj h), hE⟩)⟩
              · have e74 : evl l_ (.tmp 74) = .slice (some ae) n.sn.length c2 := evl_of (hv_ 6 74 _ (by decide) rfl (hon 6 (by decide)))
                have e75 : evl l_ (.tmp 75) = .int .i64 (j : Int) := evl_of (hv_ 7 75 _ (by decide) rfl (hon 7 (by decide)))
                exact ⟨_, rfl, fun K_ hK_ => q_op _ (x_index (A := ae) (j := j * 4) (sz := 4) rfl e74 e75 Try.underlying29 (by kernel_rfl) (by omega) rfl) (hK_ _ _ ⟨qv_up hV (fun _ h => Option.some.inj h), hE⟩)⟩
              · have hE0 := hE
                have HS := hE0
                have e76 : evl l_ (.tmp 76) = .pointer (some ((ae).add (j * 4))) := evl_of (hv_ 8 76 _ (by decide) rfl (hon 8 (by decide)))
                exact ⟨_, rfl, fun K_ hK_ => q_op _ (x_loads [.int .u32 y.1, .int .u32 y.2.1, .int .i64 y.2.2.1, .int .u32 y.2.2.2] 4 rfl e76 (sn_cells (Kd.C_below hA2 HS.belowOf) hy) (by rfl) (by kernel_rfl) rfl) (hK_ _ _ ⟨qv_up hV (fun _ h => Option.some.inj h), hE⟩)⟩
              · have hE0 := hE
                have HS := hE0
                have e72 : evl l_ (.tmp 72) = .agg ([.int .u32 x.1, .int .u32 x.2.1, .int .i64 x.2.2.1, .int .u32 x.2.2.2] : List Value).toArray := evl_of (hv_ 4 72 _ (by decide) rfl (hon 4 (by decide)))
                have e77 : evl l_ (.tmp 77) = .agg ([.int .u32 y.1, .int .u32 y.2.1, .int .i64 y.2.2.1, .int .u32 y.2.2.2] : List Value).toArray := evl_of (hv_ 9 77 _ (by decide) rfl (hon 9 (by decide)))
                exact ⟨_, rfl, fun K_ hK_ => q_op _ (x_eq .neq (.agg ([.int .u32 x.1, .int .u32 x.2.1, .int .i64 x.2.2.1, .int .u32 x.2.2.2] : List Value).toArray) (.agg ([.int .u32 y.1, .int .u32 y.2.1, .int .i64 y.2.2.1, .int .u32 y.2.2.2] : List Value).toArray) (decide (x = y)) false rfl e72 e77 (equal_sn _ x y) (by rw [decide_eq_true hxy]; rfl) rfl (guard_agg (by kernel_rfl)) (guard_agg (by kernel_rfl))) (hK_ _ _ ⟨qv_up hV (fun _ h => Option.some.inj h), hE⟩)⟩
            intro bq_ vq_ w_ hall hG
            obtain ⟨hV, hE⟩ := hG
            clear HS
            have HS := hE
            have hv0 := hV 0 _ rfl (hall 0 (by decide))
            have hv1 := hV 1 _ rfl (hall 1 (by decide))
            have hv2 := hV 2 _ rfl (hall 2 (by decide))
            have hv3 := hV 3 _ rfl (hall 3 (by decide))
            have hv4 := hV 4 _ rfl (hall 4 (by decide))
            have hv5 := hV 5 _ rfl (hall 5 (by decide))
            have hv6 := hV 6 _ rfl (hall 6 (by decide))
            have hv7 := hV 7 _ rfl (hall 7 (by decide))
            have hv8 := hV 8 _ rfl (hall 8 (by decide))
            have hv9 := hV 9 _ rfl (hall 9 (by decide))
            have hv10 := hV 10 _ rfl (hall 10 (by decide))
            clear hV hall
            rw [putSel_fr]
            simp only [tells, List.map_cons, List.map_nil, setAll, List.set_cons_succ, List.set_cons_zero, hv0, hv1, hv2, hv3, hv4, hv5, hv6, hv7, hv8, hv9, hv10]
            clear hv0 hv1 hv2 hv3 hv4 hv5 hv6 hv7 hv8 hv9 hv10
            generalize w_ = w901001 at HS ⊢
            refine fr_at (l' := (rcV r (some ad) c :: rcV n (some ae) c2 :: .pointer (some ⟨g5, 0, none⟩) :: .pointer (some ⟨g8, 0, none⟩) :: u4 :: .int .i64 (j : Int) :: .pointer (some ⟨g5, 0, none⟩) :: .int .u32 r.e :: V8.l qz19 (V8.l qz23 (V8.l qz30 (V8.l qz34 (V8.l qz38 (V8.l qz42 (V8.l qz56 (.int .i64 (r.sn.length : Int) :: .int .i64 (j : Int) :: .bool (decide ((j : Int) < (r.sn.length : Int))) :: .int .i64 (j : Int) :: .pointer (some ⟨g5, 7, none⟩) :: .slice (some ad) r.sn.length c :: .int .i64 (j : Int) :: .pointer (some ((ad).add (j * 4))) :: .agg ([.int .u32 x.1, .int .u32 x.2.1, .int .i64 x.2.2.1, .int .u32 x.2.2.2] : List Value).toArray :: .pointer (some ⟨g8, 7, none⟩) :: .slice (some ae) n.sn.length c2 :: .int .i64 (j : Int) :: .pointer (some ((ae).add (j * 4))) :: .agg ([.int .u32 y.1, .int .u32 y.2.1, .int .i64 y.2.2.1, .int .u32 y.2.2.2] : List Value).toArray :: .bool false :: u79 :: []))))))))) rfl ?_
            refine hK74 _ _ ?_
            refine c_false rfl ?_
            refine wp_skip ?_
            refine hK68 _ _ ?_
            refine c_region (fun ops901003 hops901002 => ?_)
            clear hops901002
            refine p_run _ (x_arith (k := .i64) (m := (j : Int)) (n := 1) .add (((j + 1 : Nat) : Int)) rfl rfl rfl (show IntKind.i64.wrap ((j : Int) + 1) = ((j + 1 : Nat) : Int) from ((wr64' (by omega)).trans (by omega))) rfl) rfl ?_
            refine p_run _ (x_move (.int .i64 ((j + 1 : Nat) : Int)) rfl rfl) rfl ?_
            refine wpList_nil ?_
            refine fr_at (l' := (rcV r (some ad) c :: rcV n (some ae) c2 :: .pointer (some ⟨g5, 0, none⟩) :: .pointer (some ⟨g8, 0, none⟩) :: u4 :: .int .i64 (j : Int) :: .pointer (some ⟨g5, 0, none⟩) :: .int .u32 r.e :: V8.l qz19 (V8.l qz23 (V8.l qz30 (V8.l qz34 (V8.l qz38 (V8.l qz42 (V8.l qz56 (.int .i64 (r.sn.length : Int) :: .int .i64 ((j + 1 : Nat) : Int) :: .bool (decide ((j : Int) < (r.sn.length : Int))) :: .int .i64 (j : Int) :: .pointer (some ⟨g5, 7, none⟩) :: .slice (some ad) r.sn.length c :: .int .i64 (j : Int) :: .pointer (some ((ad).add (j * 4))) :: .agg ([.int .u32 x.1, .int .u32 x.2.1, .int .i64 x.2.2.1, .int .u32 x.2.2.2] : List Value).toArray :: .pointer (some ⟨g8, 7, none⟩) :: .slice (some ae) n.sn.length c2 :: .int .i64 (j : Int) :: .pointer (some ((ae).add (j * 4))) :: .agg ([.int .u32 y.1, .int .u32 y.2.1, .int .i64 y.2.2.1, .int .u32 y.2.2.2] : List Value).toArray :: .bool false :: .int .i64 ((j + 1 : Nat) : Int) :: []))))))))) rfl ?_
            refine hJ58 (j + 1) _ _ ?_ ?_
            · show r.sn.length - (j + 1) < r.sn.length - j; omega
            · exact ⟨_, _, _, _, _, _, _, _, _, _, _, _, _, _, _, _, rfl, ((HS.front 1 rfl).front 1 rfl), ⟨(by omega), take_eq hI.2 hx hy hxy⟩⟩
          · skip
            refine free_frame (n := 11) (T := _) [0, 1, 0, 7, 15, 0, 32, 0, 224, 480, 1023] [(0, 68), (1, 69), (2, 70), (3, 71), (4, 72), (5, 73), (6, 74), (7, 75), (8, 76), (9, 77), (10, 78)] (fun bq_ vq_ w_ => qv ((fun i_ => match i_ with | 0 => some (.pointer (some ⟨g5, 7, none⟩)) | 1 => some (.slice (some ad) r.sn.length c) | 2 => some (.int .i64 (j : Int)) | 3 => some (.pointer (some ((ad).add (j * 4)))) | 4 => some (.agg ([.int .u32 x.1, .int .u32 x.2.1, .int .i64 x.2.2.1, .int .u32 x.2.2.2] : List Value).toArray) | 5 => some (.pointer (some ⟨g8, 7, none⟩)) | 6 => some (.slice (some ae) n.sn.length c2) | 7 => some (.int .i64 (j : Int)) | 8 => some (.pointer (some ((ae).add (j * 4)))) | 9 => some (.agg ([.int .u32 y.1, .int .u32 y.2.1, .int .i64 y.2.2.1, .int .u32 y.2.2.2] : List Value).toArray) | 10 => some (.bool true) | _ => none) : Nat → Option Value) bq_ vq_ ∧ (St w (fun _ => False) w_ ([blk g5 (.int .u32 r.e :: .bool r.p :: .int .u32 r.b :: .int .u32 r.q :: .int .i64 r.l :: .int .u32 r.xe :: .int .u32 r.xq :: .slice (some ad) r.sn.length c :: .int .u64 r.s :: .int .u32 r.te :: .int .u32 r.tq :: .int .u32 r.be :: .int .u32 r.bq :: .int .i64 r.nx :: .int .i64 r.tt :: .int .i64 r.rt :: []) 34, blk g8 (.int .u32 n.e :: .bool n.p :: .int .u32 n.b :: .int .u32 n.q :: .int .i64 n.l :: .int .u32 n.xe :: .int .u32 n.xq :: .slice (some ae) n.sn.length c2 :: .int .u64 n.s :: .int .u32 n.te :: .int .u32 n.tq :: .int .u32 n.be :: .int .u32 n.bq :: .int .i64 n.nx :: .int .i64 n.tt :: .int .i64 n.rt :: []) 34]))) (by kernel_rfl) rfl rfl (by kernel_rfl) (by kernel_rfl) rfl (by kernel_rfl) (by kernel_rfl) ⟨qv_none, HS.draw⟩ ?_ ?_
            · clear HS
              intro i_ hi_ bq_ vq_ a_ w_ hG hb_ hon hoff hfr hel hval
              obtain ⟨hV, hE⟩ := hG
              have hi_ := List.mem_range.1 hi_
              obtain ⟨l_, rfl⟩ := hfr
              have hv_ := fun (j t : Nat) (v : Value) (h1 : (j, t) ∈ [(0, 68), (1, 69), (2, 70), (3, 71), (4, 72), (5, 73), (6, 74), (7, 75), (8, 76), (9, 77), (10, 78)]) h2 h3 => (hval (j, t) h1 h3).trans (congrArg some (hV j v h2 h3))
              have hcs : i_ = 0 ∨ i_ = 1 ∨ i_ = 2 ∨ i_ = 3 ∨ i_ = 4 ∨ i_ = 5 ∨ i_ = 6 ∨ i_ = 7 ∨ i_ = 8 ∨ i_ = 9 ∨ i_ = 10 := by omega
              rcases hcs with rfl | rfl | rfl | rfl | rfl | rfl | rfl | rfl | rfl | rfl | rfl
              · have e2 : evl l_ (.tmp 2) = .pointer (some ⟨g5, 0, none⟩) := evl_of ((hel 2 (by decide)).trans rfl)
                exact ⟨_, rfl, fun K_ hK_ => q_op _ (x_field (j := 7) _ _ rfl e2 Try.underlying34 rfl (by rfl) rfl) (hK_ _ _ ⟨qv_up hV (fun _ h => Option.some.inj h), hE⟩)⟩
              · have hE0 := hE
                have HS := hE0
                have e68 : evl l_ (.tmp 68) = .pointer (some ⟨g5, 7, none⟩) := evl_of (hv_ 0 68 _ (by decide) rfl (hon 0 (by decide)))
                exact ⟨_, rfl, fun K_ hK_ => q_op _ (x_load (.slice (some ad) r.sn.length c) rfl e68 (bkCell (HS.get (.head _)) 7 _ rfl) (by rfl)) (hK_ _ _ ⟨qv_up hV (fun _ h => Option.some.inj h), hE⟩)⟩
              · have e5 : evl l_ (.tmp 5) = .int .i64 (j : Int) := evl_of ((hel 5 (by decide)).trans rfl)
                exact ⟨_, rfl, fun K_ hK_ => q_op _ (x_move (.int .i64 (j : Int)) rfl e5) (hK_ _ _ ⟨qv_up hV (fun _ h => Option.some.inj h), hE⟩)⟩
              · have e69 : evl l_ (.tmp 69) = .slice (some ad) r.sn.length c := evl_of (hv_ 1 69 _ (by decide) rfl (hon 1 (by decide)))
                have e70 : evl l_ (.tmp 70) = .int .i64 (j : Int) := evl_of (hv_ 2 70 _ (by decide) rfl (hon 2 (by decide)))
                exact ⟨_, rfl, fun K_ hK_ => q_op _ (x_index (A := ad) (j := j * 4) (sz := 4) rfl e69 e70 Try.underlying29 (by kernel_rfl) (by omega) rfl) (hK_ _ _ ⟨qv_up hV (fun _ h => Option.some.inj h), hE⟩)⟩
              · have hE0 := hE
                have HS := hE0
                have e71 : evl l_ (.tmp 71) = .pointer (some ((ad).add (j * 4))) := evl_of (hv_ 3 71 _ (by decide) rfl (hon 3 (by decide)))
                exact ⟨_, rfl, fun K_ hK_ => q_op _ (x_loads [.int .u32 x.1, .int .u32 x.2.1, .int .i64 x.2.2.1, .int .u32 x.2.2.2] 4 rfl e71 (sn_cells (Kd.C_below hA HS.belowOf) hx) (by rfl) (by kernel_rfl) rfl) (hK_ _ _ ⟨qv_up hV (fun _ h => Option.some.inj h), hE⟩)⟩
              · have e3 : evl l_ (.tmp 3) = .pointer (some ⟨g8, 0, none⟩) := evl_of ((hel 3 (by decide)).trans rfl)
                exact ⟨_, rfl, fun K_ hK_ => q_op _ (x_field (j := 7) _ _ rfl e3 Try.underlying34 rfl (by rfl) rfl) (hK_ _ _ ⟨qv_up hV (fun _ h => Option.some.inj h), hE⟩)⟩
              · have hE0 := hE
                have HS := hE0
                have e73 : evl l_ (.tmp 73) = .pointer (some ⟨g8, 7, none⟩) := evl_of (hv_ 5 73 _ (by decide) rfl (hon 5 (by decide)))
                exact ⟨_, rfl, fun K_ hK_ => q_op _ (x_load (.slice (some ae) n.sn.length c2) rfl e73 (bkCell (HS.get (.tail _ (.head _))) 7 _ rfl) (by rfl)) (hK_ _ _ ⟨qv_up hV (fun _ h => Option.some.inj h), hE⟩)⟩
              · have e5 : evl l_ (.tmp 5) = .int .i64 (j : Int) := evl_of ((hel 5 (by decide)).trans rfl)
                exact ⟨_, rfl, fun K_ hK_ => q_op _ (x_move (.int .i64 (j : Int)) rfl e5) (hK_ _ _ ⟨qv_up hV (fun _ h => Option.some.inj h), hE⟩)⟩
              · have e74 : evl l_ (.tmp 74) = .slice (some ae) n.sn.length c2 := evl_of (hv_ 6 74 _ (by decide) rfl (hon 6 (by decide)))
                have e75 : evl l_ (.tmp 75) = .int .i64 (j : Int) := evl_of (hv_ 7 75 _ (by decide) rfl (hon 7 (by decide)))
                exact ⟨_, rfl, fun K_ hK_ => q_op _ (x_index (A := ae) (j := j * 4) (sz := 4) rfl e74 e75 Try.underlying29 (by kernel_rfl) (by omega) rfl) (hK_ _ _ ⟨qv_up hV (fun _ h => Option.some.inj h), hE⟩)⟩
              · have hE0 := hE
                have HS := hE0
                have e76 : evl l_ (.tmp 76) = .pointer (some ((ae).add (j * 4))) := evl_of (hv_ 8 76 _ (by decide) rfl (hon 8 (by decide)))
                exact ⟨_, rfl, fun K_ hK_ => q_op _ (x_loads [.int .u32 y.1, .int .u32 y.2.1, .int .i64 y.2.2.1, .int .u32 y.2.2.2] 4 rfl e76 (sn_cells (Kd.C_below hA2 HS.belowOf) hy) (by rfl) (by kernel_rfl) rfl) (hK_ _ _ ⟨qv_up hV (fun _ h => Option.some.inj h), hE⟩)⟩
              · have hE0 := hE
                have HS := hE0
                have e72 : evl l_ (.tmp 72) = .agg ([.int .u32 x.1, .int .u32 x.2.1, .int .i64 x.2.2.1, .int .u32 x.2.2.2] : List Value).toArray := evl_of (hv_ 4 72 _ (by decide) rfl (hon 4 (by decide)))
                have e77 : evl l_ (.tmp 77) = .agg ([.int .u32 y.1, .int .u32 y.2.1, .int .i64 y.2.2.1, .int .u32 y.2.2.2] : List Value).toArray := evl_of (hv_ 9 77 _ (by decide) rfl (hon 9 (by decide)))
                exact ⟨_, rfl, fun K_ hK_ => q_op _ (x_eq .neq (.agg ([.int .u32 x.1, .int .u32 x.2.1, .int .i64 x.2.2.1, .int .u32 x.2.2.2] : List Value).toArray) (.agg ([.int .u32 y.1, .int .u32 y.2.1, .int .i64 y.2.2.1, .int .u32 y.2.2.2] : List Value).toArray) (decide (x = y)) true rfl e72 e77 (equal_sn _ x y) (by rw [decide_eq_false hxy]; rfl) rfl (guard_agg (by kernel_rfl)) (guard_agg (by kernel_rfl))) (hK_ _ _ ⟨qv_up hV (fun _ h => Option.some.inj h), hE⟩)⟩
            intro bq_ vq_ w_ hall hG
            obtain ⟨hV, hE⟩ := hG
            clear HS
            have HS := hE
            have hv0 := hV 0 _ rfl (hall 0 (by decide))
            have hv1 := hV 1 _ rfl (hall 1 (by decide))
            have hv2 := hV 2 _ rfl (hall 2 (by decide))
            have hv3 := hV 3 _ rfl (hall 3 (by decide))
            have hv4 := hV 4 _ rfl (hall 4 (by decide))
            have hv5 := hV 5 _ rfl (hall 5 (by decide))
            have hv6 := hV 6 _ rfl (hall 6 (by decide))
            have hv7 := hV 7 _ rfl (hall 7 (by decide))
            have hv8 := hV 8 _ rfl (hall 8 (by decide))
            have hv9 := hV 9 _ rfl (hall 9 (by decide))
            have hv10 := hV 10 _ rfl (hall 10 (by decide))
            clear hV hall
            rw [putSel_fr]
            simp only [tells, List.map_cons, List.map_nil, setAll, List.set_cons_succ, List.set_cons_zero, hv0, hv1, hv2, hv3, hv4, hv5, hv6, hv7, hv8, hv9, hv10]
            clear hv0 hv1 hv2 hv3 hv4 hv5 hv6 hv7 hv8 hv9 hv10
            generalize w_ = w901001 at HS ⊢
            refine fr_at (l' := (rcV r (some ad) c :: rcV n (some ae) c2 :: .pointer (some ⟨g5, 0, none⟩) :: .pointer (some ⟨g8, 0, none⟩) :: u4 :: .int .i64 (j : Int) :: .pointer (some ⟨g5, 0, none⟩) :: .int .u32 r.e :: V8.l qz19 (V8.l qz23 (V8.l qz30 (V8.l qz34 (V8.l qz38 (V8.l qz42 (V8.l qz56 (.int .i64 (r.sn.length : Int) :: .int .i64 (j : Int) :: .bool (decide ((j : Int) < (r.sn.length : Int))) :: .int .i64 (j : Int) :: .pointer (some ⟨g5, 7, none⟩) :: .slice (some ad) r.sn.length c :: .int .i64 (j : Int) :: .pointer (some ((ad).add (j * 4))) :: .agg ([.int .u32 x.1, .int .u32 x.2.1, .int .i64 x.2.2.1, .int .u32 x.2.2.2] : List Value).toArray :: .pointer (some ⟨g8, 7, none⟩) :: .slice (some ae) n.sn.length c2 :: .int .i64 (j : Int) :: .pointer (some ((ae).add (j * 4))) :: .agg ([.int .u32 y.1, .int .u32 y.2.1, .int .i64 y.2.2.1, .int .u32 y.2.2.2] : List Value).toArray :: .bool true :: u79 :: []))))))))) rfl ?_
            refine hK74 _ _ ?_
            refine c_true rfl ?_
            refine wp_seq_k (fun K901002 hK901003 => ?_)
            refine c_region (fun ops901005 hops901004 => ?_)
            clear hops901004
            refine p_run _ (x_assign (.bool false) rfl rfl) rfl ?_
            refine wpList_nil ?_
            refine hK901003 _ _ ?_
            refine wp_ret ?_
            try simp only [Exit.inBlock, Exit.then]
            refine c_ret (.bool false) (r_tmp rfl rfl) ?_
            have hno : rcS r n = false := rcS_no (fun h => by subst h; rw [hx] at hy; exact hxy (Option.some.inj hy))
            rw [hno]
            exact ⟨rfl, HS.belowOf⟩
        · have hlt : j = r.sn.length := by have := of_decide_eq_false hc66; omega
          subst hlt
          refine wp_exit ?_
          refine hK51 _ _ ?_
          refine wp_seq_k (fun K901006 hK901007 => ?_)
          refine c_region (fun ops901009 hops901008 => ?_)
          clear hops901008
          refine p_run _ (x_assign (.bool true) rfl rfl) rfl ?_
          refine wpList_nil ?_
          refine hK901007 _ _ ?_
          refine wp_ret ?_
          try simp only [Exit.inBlock, Exit.then]
          refine c_ret (.bool true) (r_tmp rfl rfl) ?_
          have e1 : rcS r n = true := rcS_fin bd (by have h := hI.2; rw [List.take_length, hln, List.take_length] at h; exact h)
          rw [e1]
          exact ⟨rfl, HS.belowOf⟩
end Go.Proofs.Ytkiiangookibnaa
