/- The document's messages: Right, Same. -/
import Derived.Test.YtmachdikonelbaaZFrameReadsWkG
import Derived.Test.YtmachdikonelbaaZFrameReadsFr7
set_option linter.unusedVariables false
set_option linter.unusedSimpArgs false
namespace Go.Proofs.Ytmachdikonelbaa
open Go.RowKit Go.Proofs.YtmachdikonelbaaW.PrintWords Go.Proofs.YtmachdikonelbaaW.PrintLast Crc
abbrev U4g1 (l : List Value) : List Value := undef :: undef :: undef :: undef :: l
abbrev U8g1 (l : List Value) : List Value := U4g1 (U4g1 l)
abbrev U16g1 (l : List Value) : List Value := U8g1 (U8g1 l)
abbrev U32g1 (l : List Value) : List Value := U16g1 (U16g1 l)
abbrev U64g1 (l : List Value) : List Value := U32g1 (U32g1 l)
theorem mg_fin {m : Mg} (h1 : 1 ≤ m.k ∧ m.k ≤ 5) (h2 : 1 ≤ m.e ∧ m.e ≤ 1048576) (h3 : 0 ≤ m.ix ∧ m.ix ≤ 64 ∧ 0 ≤ m.tt ∧ m.tt ≤ 64) (h4 : m.its.length ≤ 4) (h5 : m.hvs.length ≤ 8) (h6 : m.hvs.all hvOk = true) (h7 : m.hvs.length = 0 ∨ m.k = 2) :
    mgOk m = (((lbOk m.te m.ts && lbOk m.be m.bs) && m.its.all itOk) && (((m.its.length : Int) == 0) || (m.k == 3))) := by
  have e1 : ((m.its.length : Int) == 0) = decide (m.its.length = 0) := (show decide ((m.its.length : Int) = 0) = _ from decide_eq_decide.2 (by omega))
  have e2 : (m.k == 3) = decide (m.k = 3) := rfl
  have e3 : (decide (m.hvs.length = 0) || decide (m.k = 2)) = true := by
    rcases h7 with h | h
    · rw [decide_eq_true h]; rfl
    · rw [decide_eq_true h, Bool.or_true]
  unfold mgOk nmOk
  rw [e1, e2, e3, h6, decide_eq_true h1.1, decide_eq_true h1.2, decide_eq_true h2.1, decide_eq_true h2.2, decide_eq_true h3.1, decide_eq_true h3.2.1, decide_eq_true h3.2.2.1, decide_eq_true h3.2.2.2, decide_eq_true h4, decide_eq_true h5]
  simp only [Bool.true_and, Bool.and_true]
theorem mg_no {m : Mg} (h : mgOk m = true → False) : mgOk m = false := by
  rcases hb : mgOk m with _ | _
  · rfl
  · exact (h hb).elim
set_option maxRecDepth 10000 in
theorem r3right_any (w : World) (a b : Int) : Calls Try.prog 36 #[.agg ([.int .u32 a, .int .u32 b] : List Value).toArray] w fun e w' => e = .returned (.bool (lbOk a b)) ∧ Below w.heap.size w w' := by
  have HS := St.empty w
  · skip
    refine c_enter Try.func36 rfl 11 rfl [.agg ([.int .u32 a, .int .u32 b] : List Value).toArray, undef, undef, undef, undef, undef, undef, undef, undef, undef, undef] rfl ?_
    refine wp_seq_k (fun K1 hK2 => ?_)
    refine c_region (fun ops4 hops3 => ?_)
    clear hops3
    refine St.wBox HS (cs := [.int .u32 a, .int .u32 b]) (.agg ([.int .u32 a, .int .u32 b] : List Value).toArray) rfl rfl ?_
    clear HS
    intro g5 w6 hg7 HS
    refine p_run _ (x_assign (.bool false) rfl rfl) rfl ?_
    refine wpList_nil ?_
    refine hK2 _ _ ?_
    refine wp_seq_k (fun K8 hK9 => ?_)
    refine c_region (fun ops11 hops10 => ?_)
    refine p_run _ (x_field (j := 0) _ _ rfl rfl Try.underlying29 rfl (by rfl) rfl) rfl ?_
    refine p_run _ (x_load (.int .u32 a) rfl rfl (bkCell (HS.get (.head _)) 0 _ rfl) (by rfl)) rfl ?_
    refine p_run _ (x_cmp (k := .u32) (m := a) (n := 1048576) .leq (decide (a ≤ 1048576)) rfl rfl rfl rfl rfl) rfl ?_
    refine p_run _ (x_move (.bool (decide (a ≤ 1048576))) rfl rfl) rfl ?_
    obtain ⟨bz12, hbz12⟩ : ∃ b_, b_ = (decide (a ≤ 1048576)) := ⟨_, rfl⟩
    rw [← hbz12]
    refine p_tail 4 (fun a_ w_ => ∃ (uz7 uz8 uz9 : Value) (bz13 : Bool), a_ = fr [.agg ([.int .u32 a, .int .u32 b] : List Value).toArray, .pointer (some ⟨g5, 0, none⟩), .bool false, .pointer (some ⟨g5, 0, none⟩), .int .u32 a, .bool bz12, .bool bz12, uz7, uz8, uz9, .bool bz13] ∧ bz13 = (bz12 && (decide (b ≤ 1048576))) ∧ St w (fun _ => False) w_ ([blk g5 [.int .u32 a, .int .u32 b] 29])) (fun T14 => ?_) ?_
    · cases bz12
      · skip
        refine p_off (by rw [hops10]; rfl) rfl ?_
        refine p_off (by rw [hops10]; rfl) rfl ?_
        refine p_off (by rw [hops10]; rfl) rfl ?_
        refine p_run _ (x_pick false (undef) (.bool false) (.bool false) rfl rfl rfl rfl rfl) rfl ?_
        exact T14 _ _ ⟨undef, undef, undef, false, rfl, rfl, HS⟩
      · skip
        refine p_on rfl (by rw [hops10]; rfl) ?_
        refine p_run _ (x_field (j := 1) _ _ rfl rfl Try.underlying29 rfl (by rfl) rfl) rfl ?_
        refine p_on rfl (by rw [hops10]; rfl) ?_
        refine p_run _ (x_load (.int .u32 b) rfl rfl (bkCell (HS.get (.head _)) 1 _ rfl) (by rfl)) rfl ?_
        refine p_on rfl (by rw [hops10]; rfl) ?_
        refine p_run _ (x_cmp (k := .u32) (m := b) (n := 1048576) .leq (decide (b ≤ 1048576)) rfl rfl rfl rfl rfl) rfl ?_
        refine p_run _ (x_pick true (.bool (decide (b ≤ 1048576))) (.bool false) (.bool (decide (b ≤ 1048576))) rfl rfl rfl rfl rfl) rfl ?_
        exact T14 _ _ ⟨(.pointer (some ⟨g5, 1, none⟩)), (.int .u32 b), (.bool (decide (b ≤ 1048576))), (decide (b ≤ 1048576)), rfl, rfl, HS⟩
    clear HS
    rintro _ w_ ⟨uz7, uz8, uz9, bz13, rfl, hbz13, HS⟩
    skip
    refine p_run _ (x_assign (.bool bz13) rfl rfl) rfl ?_
    clear hops10
    refine wpList_nil ?_
    refine hK9 _ _ ?_
    refine wp_ret ?_
    try simp only [Exit.inBlock, Exit.then]
    refine c_ret (.bool bz13) (r_tmp rfl rfl) ?_
    have e1 : lbOk a b = bz13 := by unfold lbOk; rw [hbz13, hbz12]
    rw [e1]
    exact ⟨rfl, HS.belowOf⟩
set_option maxRecDepth 10000 in
set_option maxHeartbeats 1000000 in
theorem r17right_any (w : World) (x1 : Int) (h : Bool) (b : List UInt8) (hb : b.length = 16) : Calls Try.prog 57 #[.agg (Value.int .i64 x1 :: Value.bool h :: (nums .u8 (b.map bv))).toArray] w fun e w' => e = .returned (.bool (itOk (x1, h, b))) ∧ Below w.heap.size w w' := by
  have HS := St.empty w
  · skip
    refine c_enter Try.func57 rfl 21 rfl (.agg (Value.int .i64 x1 :: Value.bool h :: (nums .u8 (b.map bv))).toArray :: U16g1 (U4g1 ([]))) rfl ?_
    refine wp_seq_k (fun K1 hK2 => ?_)
    refine c_region (fun ops4 hops3 => ?_)
    clear hops3
    refine St.wBox HS (cs := (Value.int .i64 x1 :: Value.bool h :: (nums .u8 (b.map bv)))) (.agg (Value.int .i64 x1 :: Value.bool h :: (nums .u8 (b.map bv))).toArray) rfl rfl ?_
    clear HS
    intro g5 w6 hg7 HS
    refine p_run _ (x_assign (.bool false) rfl rfl) rfl ?_
    refine wpList_nil ?_
    refine hK2 _ _ ?_
    refine wp_seq_k (fun K8 hK9 => ?_)
    refine c_region (fun ops11 hops10 => ?_)
    refine p_run _ (x_field (j := 0) _ _ rfl rfl Try.underlying53 rfl (by rfl) rfl) rfl ?_
    refine p_run _ (x_load (.int .i64 x1) rfl rfl (bkCell (HS.get (.head _)) 0 _ rfl) (by rfl)) rfl ?_
    refine p_run _ (x_cmp (k := .i64) (m := x1) (n := 0) .geq (decide (x1 ≥ 0)) rfl rfl rfl rfl rfl) rfl ?_
    refine p_run _ (x_move (.bool (decide (x1 ≥ 0))) rfl rfl) rfl ?_
    obtain ⟨bz12, hbz12⟩ : ∃ b_, b_ = (decide (x1 ≥ 0)) := ⟨_, rfl⟩
    rw [← hbz12]
    refine p_tail 4 (fun a_ w_ => ∃ (uz7 uz8 uz9 : Value) (bz13 : Bool), a_ = fr (.agg (Value.int .i64 x1 :: Value.bool h :: (nums .u8 (b.map bv))).toArray :: .pointer (some ⟨g5, 0, none⟩) :: .bool false :: .pointer (some ⟨g5, 0, none⟩) :: .int .i64 x1 :: .bool bz12 :: .bool bz12 :: uz7 :: uz8 :: uz9 :: .bool bz13 :: U8g1 (undef :: undef :: [])) ∧ bz13 = (bz12 && (decide (x1 ≤ 63))) ∧ St w (fun _ => False) w_ ([blk g5 (Value.int .i64 x1 :: Value.bool h :: (nums .u8 (b.map bv))) 53])) (fun T14 => ?_) ?_
    · cases bz12
      · skip
        refine p_off (by rw [hops10]; rfl) rfl ?_
        refine p_off (by rw [hops10]; rfl) rfl ?_
        refine p_off (by rw [hops10]; rfl) rfl ?_
        refine p_run _ (x_pick false (undef) (.bool false) (.bool false) rfl rfl rfl rfl rfl) rfl ?_
        exact T14 _ _ ⟨undef, undef, undef, false, rfl, rfl, HS⟩
      · skip
        refine p_on rfl (by rw [hops10]; rfl) ?_
        refine p_run _ (x_field (j := 0) _ _ rfl rfl Try.underlying53 rfl (by rfl) rfl) rfl ?_
        refine p_on rfl (by rw [hops10]; rfl) ?_
        refine p_run _ (x_load (.int .i64 x1) rfl rfl (bkCell (HS.get (.head _)) 0 _ rfl) (by rfl)) rfl ?_
        refine p_on rfl (by rw [hops10]; rfl) ?_
        refine p_run _ (x_cmp (k := .i64) (m := x1) (n := 63) .leq (decide (x1 ≤ 63)) rfl rfl rfl rfl rfl) rfl ?_
        refine p_run _ (x_pick true (.bool (decide (x1 ≤ 63))) (.bool false) (.bool (decide (x1 ≤ 63))) rfl rfl rfl rfl rfl) rfl ?_
        exact T14 _ _ ⟨(.pointer (some ⟨g5, 0, none⟩)), (.int .i64 x1), (.bool (decide (x1 ≤ 63))), (decide (x1 ≤ 63)), rfl, rfl, HS⟩
    clear HS
    rintro _ w_ ⟨uz7, uz8, uz9, bz13, rfl, hbz13, HS⟩
    skip
    refine p_run _ (x_move (.bool bz13) rfl rfl) rfl ?_
    refine p_tail 9 (fun a_ w_ => ∃ (uz16 uz17 uz18 uz19 : Value) (qz17 : V8) (bz16 : Bool), a_ = fr (.agg (Value.int .i64 x1 :: Value.bool h :: (nums .u8 (b.map bv))).toArray :: .pointer (some ⟨g5, 0, none⟩) :: .bool false :: .pointer (some ⟨g5, 0, none⟩) :: .int .i64 x1 :: .bool bz12 :: .bool bz12 :: uz7 :: V8.l qz17 (uz16 :: uz17 :: uz18 :: uz19 :: .bool bz16 :: [])) ∧ bz16 = (bz13 && (h || (decide ((b.map bv) = (zB16.map bv))))) ∧ St w (fun _ => False) w_ ([blk g5 (Value.int .i64 x1 :: Value.bool h :: (nums .u8 (b.map bv))) 53])) (fun T18 => ?_) ?_
    · cases bz13
      · skip
        refine p_off (by rw [hops10]; rfl) rfl ?_
        refine p_off (by rw [hops10]; rfl) rfl ?_
        refine p_off (by rw [hops10]; rfl) rfl ?_
        refine p_off (by rw [hops10]; rfl) rfl ?_
        refine p_off (by rw [hops10]; rfl) rfl ?_
        refine p_off (by rw [hops10]; rfl) rfl ?_
        refine p_off (l' := (.agg (Value.int .i64 x1 :: Value.bool h :: (nums .u8 (b.map bv))).toArray :: .pointer (some ⟨g5, 0, none⟩) :: .bool false :: .pointer (some ⟨g5, 0, none⟩) :: .int .i64 x1 :: .bool bz12 :: .bool bz12 :: uz7 :: uz8 :: uz9 :: .bool false :: .bool false :: U8g1 (undef :: []))) (by rw [hops10]; rfl) rfl ?_
        refine p_off (by rw [hops10]; rfl) rfl ?_
        refine p_run _ (x_pick false (undef) (.bool false) (.bool false) rfl rfl rfl rfl rfl) rfl ?_
        exact T18 _ _ ⟨undef, undef, undef, undef, ⟨uz8, uz9, .bool false, .bool false, undef, undef, undef, undef⟩, false, rfl, rfl, HS⟩
      · skip
        refine p_on rfl (by rw [hops10]; rfl) ?_
        refine p_run _ (x_field (j := 1) _ _ rfl rfl Try.underlying53 rfl (by rfl) rfl) rfl ?_
        refine p_on rfl (by rw [hops10]; rfl) ?_
        refine p_run _ (x_load (.bool h) rfl rfl (bkCell (HS.get (.head _)) 1 _ rfl) (by rfl)) rfl ?_
        refine p_on rfl (by rw [hops10]; rfl) ?_
        refine p_run _ (x_move (.bool h) rfl rfl) rfl ?_
        refine p_tail 5 (fun a_ w_ => ∃ (uz15 uz16 uz17 uz18 : Value) (bz19 : Bool), a_ = fr (.agg (Value.int .i64 x1 :: Value.bool h :: (nums .u8 (b.map bv))).toArray :: .pointer (some ⟨g5, 0, none⟩) :: .bool false :: .pointer (some ⟨g5, 0, none⟩) :: .int .i64 x1 :: .bool bz12 :: .bool bz12 :: uz7 :: uz8 :: uz9 :: .bool true :: .bool true :: .pointer (some ⟨g5, 1, none⟩) :: .bool h :: .bool h :: uz15 :: uz16 :: uz17 :: uz18 :: .bool bz19 :: undef :: []) ∧ bz19 = (h || (decide ((b.map bv) = (zB16.map bv)))) ∧ St w (fun _ => False) w_ ([blk g5 (Value.int .i64 x1 :: Value.bool h :: (nums .u8 (b.map bv))) 53])) (fun T20 => ?_) ?_
        · cases h
          · skip
            refine p_on rfl (by rw [hops10]; rfl) ?_
            refine p_run _ (x_field (j := 2) _ _ rfl rfl Try.underlying53 rfl (by rfl) rfl) rfl ?_
            refine p_on rfl (by rw [hops10]; rfl) ?_
            refine p_run _ (x_loads ((nums .u8 (b.map bv))) 16 rfl rfl (bkCells (HS.get (.head _)) 2 _ (by simp)) (by rfl) (by kernel_rfl) (by simp [List.length_map, hb, nums_length])) rfl ?_
            refine p_on rfl (by rw [hops10]; rfl) ?_
            refine p_run _ (x_build ((nums .u8 (zB16.map bv))) rfl (by kernel_rfl)) rfl ?_
            refine p_on rfl (by rw [hops10]; rfl) ?_
            refine p_run _ (x_eq .eql (.agg ((nums .u8 (b.map bv))).toArray) (.agg ((nums .u8 (zB16.map bv))).toArray) (decide ((b.map bv) = (zB16.map bv))) (decide ((b.map bv) = (zB16.map bv))) rfl rfl rfl (equal_nums Try.underlying51 Try.underlying5 (by kernel_rfl) (by kernel_rfl) _ _ (by simp [List.length_map, hb]) (by simp [List.length_map, zB16_len])) rfl rfl (guard_agg (by kernel_rfl)) (guard_agg (by kernel_rfl))) rfl ?_
            refine p_on rfl (by rw [hops10]; rfl) ?_
            refine p_run _ (x_pick false (.bool true) (.bool (decide ((b.map bv) = (zB16.map bv)))) (.bool (decide ((b.map bv) = (zB16.map bv)))) rfl rfl rfl rfl rfl) rfl ?_
            exact T20 _ _ ⟨(.pointer (some ⟨g5, 2, none⟩)), (.agg ((nums .u8 (b.map bv))).toArray), (.agg ((nums .u8 (zB16.map bv))).toArray), (.bool (decide ((b.map bv) = (zB16.map bv)))), (decide ((b.map bv) = (zB16.map bv))), rfl, rfl, HS⟩
          · skip
            refine p_off (by rw [hops10]; rfl) rfl ?_
            refine p_off (by rw [hops10]; rfl) rfl ?_
            refine p_off (by rw [hops10]; rfl) rfl ?_
            refine p_off (by rw [hops10]; rfl) rfl ?_
            refine p_on rfl (by rw [hops10]; rfl) ?_
            refine p_run _ (x_pick true (.bool true) (undef) (.bool true) rfl rfl rfl rfl rfl) rfl ?_
            exact T20 _ _ ⟨undef, undef, undef, undef, true, rfl, rfl, HS⟩
        clear HS
        rintro _ w_ ⟨uz15, uz16, uz17, uz18, bz19, rfl, hbz19, HS⟩
        skip
        refine p_run _ (x_pick true (.bool bz19) (.bool false) (.bool bz19) rfl rfl rfl rfl rfl) rfl ?_
        exact T18 _ _ ⟨uz16, uz17, uz18, (.bool bz19), ⟨uz8, uz9, .bool true, .bool true, .pointer (some ⟨g5, 1, none⟩), .bool h, .bool h, uz15⟩, bz19, rfl, (by rw [hbz19] <;> rfl), HS⟩
    clear HS
    rintro _ w_ ⟨uz16, uz17, uz18, uz19, qz17, bz16, rfl, hbz16, HS⟩
    skip
    refine p_run _ (x_assign (.bool bz16) rfl rfl) rfl ?_
    clear hops10
    refine wpList_nil ?_
    refine hK9 _ _ ?_
    refine wp_ret ?_
    try simp only [Exit.inBlock, Exit.then]
    refine c_ret (.bool bz16) (r_tmp rfl rfl) ?_
    have e1 : itOk (x1, h, b) = bz16 := by
      unfold itOk
      dsimp only
      rw [hbz16, hbz13, hbz12, eq_map, show decide (x1 ≤ 63) = decide (x1 < 64) from decide_eq_decide.2 (by omega)]
    rw [e1]
    exact ⟨rfl, HS.belowOf⟩
set_option maxRecDepth 10000 in
set_option maxHeartbeats 1000000 in
theorem r17all_any (w : World) (A : Option Addr) (c : Nat) (l : List It) (hr : kIt.C w A l.length l) (hl : l.length ≤ 1000) : Calls Try.prog 37 #[.slice A l.length c] w fun e w' => e = .returned (.bool (l.all itOk)) ∧ Below w.heap.size w w' := by
  have HS := St.empty w
  · skip
    refine c_enter Try.func37 rfl 15 rfl (.slice A l.length c :: U8g1 (U4g1 (undef :: undef :: []))) rfl ?_
    refine wp_seq_k (fun K1 hK2 => ?_)
    refine c_region (fun ops4 hops3 => ?_)
    clear hops3
    refine p_run _ (x_assign (.bool false) rfl rfl) rfl ?_
    refine wpList_nil ?_
    refine hK2 _ _ ?_
    refine wp_seq_k (fun K5 hK6 => ?_)
    refine wp_seq_k (fun K7 hK8 => ?_)
    refine c_region (fun ops10 hops9 => ?_)
    clear hops9
    refine p_run _ (x_move (.slice A l.length c) rfl rfl) rfl ?_
    refine p_run _ (x_len rfl rfl Try.underlying30) rfl ?_
    refine p_run _ (x_move (.int .i64 0) rfl rfl) rfl ?_
    refine wpList_nil ?_
    refine fr_at (l' := (.slice A l.length c :: undef :: .bool false :: undef :: undef :: .slice A l.length c :: .int .i64 (l.length : Int) :: .int .i64 0 :: U4g1 (undef :: undef :: undef :: []))) rfl ?_
    refine hK8 _ _ ?_
    refine wp_block ?_
    refine c_loop (ι := Nat) (fun i_ a_ w_ => match i_ with | j => ∃ (u2 : Value) (u4 : Value) (u8 : Value) (u9 : Value) (u10 : Value) (u11 : Value) (u12 : Value) (u13 : Value) (u14 : Value), a_ = fr (.slice A l.length c :: undef :: u2 :: undef :: u4 :: .slice A l.length c :: .int .i64 (l.length : Int) :: .int .i64 (j : Int) :: u8 :: u9 :: u10 :: u11 :: u12 :: u13 :: u14 :: []) ∧ St w (fun _ => False) w_ ([]) ∧ (j ≤ l.length ∧ ∀ (i : Nat) (y : It), i < j → l[i]? = some y → itOk y = true)) (fun i_ => match i_ with | j => l.length - j) 0 ?_ ?_
    · exact ⟨_, _, _, _, _, _, _, _, _, rfl, HS, ⟨Nat.zero_le _, fun i y h => absurd h (by omega)⟩⟩
    · clear HS
      rintro j a_ w13 ⟨u2, u4, u8, u9, u10, u11, u12, u13, u14, rfl, HS, hI⟩ J11 hJ12
      obtain ⟨hjl, hall⟩ := hI
      refine wp_seq_k (fun K14 hK15 => ?_)
      refine c_region (fun ops17 hops16 => ?_)
      clear hops16
      refine p_run _ (x_cmp (k := .i64) (m := (j : Int)) (n := (l.length : Int)) .lss (decide ((j : Int) < (l.length : Int))) rfl rfl rfl rfl rfl) rfl ?_
      refine wpList_nil ?_
      refine hK15 _ _ ?_
      refine wp_seq_k (fun K18 hK19 => ?_)
      refine c_cond (t := decide ((j : Int) < (l.length : Int))) rfl (fun hc20 => ?_) (fun hc20 => ?_)
      · have hlt : j < l.length := by have := of_decide_eq_true hc20; omega
        obtain ⟨ad, x, rfl, hx, hx16, -⟩ := it_get (Kd.C_below hr HS.belowOf) j hlt
        refine wp_skip ?_
        refine hK19 _ _ ?_
        refine wp_seq_k (fun K21 hK22 => ?_)
        refine wp_block ?_
        refine wp_seq_k (fun K23 hK24 => ?_)
        refine c_region (fun ops26 hops25 => ?_)
        clear hops25
        refine p_run _ (x_index (A := ad) (j := j * 18) (sz := 18) rfl rfl rfl Try.underlying30 (by kernel_rfl) (by omega) rfl) rfl ?_
        refine p_run _ (x_loads (Value.int .i64 x.1 :: Value.bool x.2.1 :: (nums .u8 (x.2.2.map bv))) 18 rfl rfl (it_cells (Kd.C_below hr HS.belowOf) hx) (by rfl) (by kernel_rfl) (by simp [List.length_map, hx16, nums_length])) rfl ?_
        refine St.wAlloc HS (cs := (Value.int .i64 0 :: Value.bool false :: (nums .u8 (zB16.map bv)))) (.agg (Value.int .i64 0 :: Value.bool false :: (nums .u8 (zB16.map bv))).toArray) (by kernel_rfl) rfl ?_
        clear HS
        intro g27 w28 hg29 HS
        refine St.stores (cs' := (Value.int .i64 x.1 :: Value.bool x.2.1 :: (nums .u8 (x.2.2.map bv)))) HS (Value.int .i64 x.1 :: Value.bool x.2.1 :: (nums .u8 (x.2.2.map bv))) 18 rfl rfl (all1 rfl (all1 rfl (nums_one _ _))) (by kernel_rfl) (by simp [List.length_map, hx16, nums_length]) (by simp [List.length_map, hx16, nums_length, zB16_len]) (lay_all _ _ (by simp [List.length_map, hx16, nums_length, zB16_len])) ?_
        clear HS
        intro w30 HS
        refine wpList_nil ?_
        refine hK24 _ _ ?_
        refine wp_seq_k (fun K31 hK32 => ?_)
        refine c_region (fun ops34 hops33 => ?_)
        clear hops33
        refine p_run _ (x_loads (Value.int .i64 x.1 :: Value.bool x.2.1 :: (nums .u8 (x.2.2.map bv))) 18 rfl rfl (bkCells (HS.get (.head _)) 0 _ (whole _)) (by rfl) (by kernel_rfl) (by simp [List.length_map, hx16, nums_length])) rfl ?_
        refine w_call [.agg (Value.int .i64 x.1 :: Value.bool x.2.1 :: (nums .u8 (x.2.2.map bv))).toArray] Try.func57 (by kernel_rfl) (by rfl) rfl ?_
        refine (r17right_any _ x.1 x.2.1 x.2.2 hx16).mono ?_
        rintro e w35 ⟨rfl, hb_⟩
        replace HS := HS.here hb_
        clear hb_
        refine ⟨_, rfl, ?_⟩
        refine p_run (l' := (.slice (some ad) l.length c :: undef :: u2 :: undef :: .pointer (some ⟨g27, 0, none⟩) :: .slice (some ad) l.length c :: .int .i64 (l.length : Int) :: .int .i64 (j : Int) :: .bool (decide ((j : Int) < (l.length : Int))) :: .pointer (some ((ad).add (j * 18))) :: .agg (Value.int .i64 x.1 :: Value.bool x.2.1 :: (nums .u8 (x.2.2.map bv))).toArray :: .agg (Value.int .i64 x.1 :: Value.bool x.2.1 :: (nums .u8 (x.2.2.map bv))).toArray :: .bool (itOk x) :: .bool (!(itOk x)) :: u14 :: [])) _ (x_not (itOk x) rfl rfl) rfl ?_
        refine wpList_nil ?_
        refine hK32 _ _ ?_
        refine c_cond (t := !(itOk x)) rfl (fun hc36 => ?_) (fun hc36 => ?_)
        · have hbad : itOk x = false := by have := hc36; simpa using this
          refine wp_seq_k (fun K37 hK38 => ?_)
          refine c_region (fun ops40 hops39 => ?_)
          clear hops39
          refine p_run _ (x_assign (.bool false) rfl rfl) rfl ?_
          refine wpList_nil ?_
          refine hK38 _ _ ?_
          refine wp_ret ?_
          try simp only [Exit.inBlock, Exit.then]
          refine c_ret (.bool false) (r_tmp rfl rfl) ?_
          rw [all_bad hx hbad]
          exact ⟨rfl, HS.belowOf⟩
        · have hbad : itOk x = true := by have := hc36; simpa using this
          refine wp_skip ?_
          refine hK22 _ _ ?_
          refine c_region (fun ops42 hops41 => ?_)
          clear hops41
          refine p_run _ (x_arith (k := .i64) (m := (j : Int)) (n := 1) .add (((j + 1 : Nat) : Int)) rfl rfl rfl (show IntKind.i64.wrap ((j : Int) + 1) = ((j + 1 : Nat) : Int) from ((wr64' (by omega)).trans (by omega))) rfl) rfl ?_
          refine p_run _ (x_move (.int .i64 ((j + 1 : Nat) : Int)) rfl rfl) rfl ?_
          refine wpList_nil ?_
          refine fr_at (l' := (.slice (some ad) l.length c :: undef :: u2 :: undef :: .pointer (some ⟨g27, 0, none⟩) :: .slice (some ad) l.length c :: .int .i64 (l.length : Int) :: .int .i64 ((j + 1 : Nat) : Int) :: .bool (decide ((j : Int) < (l.length : Int))) :: .pointer (some ((ad).add (j * 18))) :: .agg (Value.int .i64 x.1 :: Value.bool x.2.1 :: (nums .u8 (x.2.2.map bv))).toArray :: .agg (Value.int .i64 x.1 :: Value.bool x.2.1 :: (nums .u8 (x.2.2.map bv))).toArray :: .bool (itOk x) :: .bool (!(itOk x)) :: .int .i64 ((j + 1 : Nat) : Int) :: [])) rfl ?_
          refine hJ12 (j + 1) _ _ ?_ ?_
          · show l.length - (j + 1) < l.length - j; omega
          · exact ⟨_, _, _, _, _, _, _, _, _, rfl, HS.drop, ⟨by omega, fun i y hi hy => (Nat.lt_or_ge i j).elim (fun h => hall i y h hy) (fun h => by obtain rfl : i = j := (by omega); rw [hx] at hy; obtain rfl := Option.some.inj hy; exact hbad)⟩⟩
      · have hlt : j = l.length := by have := of_decide_eq_false hc20; omega
        subst hlt
        refine wp_exit ?_
        refine hK6 _ _ ?_
        refine wp_seq_k (fun K43 hK44 => ?_)
        refine c_region (fun ops46 hops45 => ?_)
        clear hops45
        refine p_run _ (x_assign (.bool true) rfl rfl) rfl ?_
        refine wpList_nil ?_
        refine hK44 _ _ ?_
        refine wp_ret ?_
        try simp only [Exit.inBlock, Exit.then]
        refine c_ret (.bool true) (r_tmp rfl rfl) ?_
        rw [all_ok hall]
        exact ⟨rfl, HS.belowOf⟩
theorem hv_bad {m : Mg} {j : Nat} {x : Hv} (h : mgOk m = true) (hx : m.hvs[j]? = some x) (hc : (!lbOk x.1 x.2.1 || m.k != 2) = true) : False := by
  have hm := List.mem_of_getElem? hx
  unfold mgOk at h
  simp only [Bool.and_eq_true, List.all_eq_true, Bool.or_eq_true, decide_eq_true_eq] at h
  have h1 : lbOk x.1 x.2.1 = true := h.1.1.2 x hm
  have h2 : m.k = 2 := by
    rcases h.2 with h | h
    · rw [List.length_eq_zero_iff.1 h] at hm; cases hm
    · exact h
  rw [h1, h2] at hc
  cases hc
theorem hv_good {m : Mg} {x : Hv} (hc : (!lbOk x.1 x.2.1 || m.k != 2) = false) : hvOk x = true ∧ m.k = 2 := by
  rw [Bool.or_eq_false_iff] at hc
  exact ⟨by have := hc.1; unfold hvOk; simpa using this, by have := hc.2; simpa using this⟩
set_option maxRecDepth 10000 in
set_option maxHeartbeats 4000000 in
theorem r18right_any (w : World) (m : Mg) (A : Option Addr) (c : Nat) (hA : kIt.C w A m.its.length m.its) (B : Option Addr) (d : Nat) (hB : kHv.C w B m.hvs.length m.hvs) (hl : m.its.length ≤ 1000) (hl2 : m.hvs.length ≤ 1000) : Calls Try.prog 15 #[mgV m A c B d] w fun e w' => e = .returned (.bool (mgOk m)) ∧ Below w.heap.size w w' := by
  have HS := St.empty w
  · skip
    refine c_enter Try.func15 rfl 96 rfl (mgV m A c B d :: U64g1 (U16g1 (U8g1 (U4g1 (undef :: undef :: undef :: []))))) rfl ?_
    refine wp_seq_k (fun K1 hK2 => ?_)
    refine c_region (fun ops4 hops3 => ?_)
    clear hops3
    refine St.wBox HS (cs := [.int .i64 m.k, .int .u32 m.e, .int .u64 m.s, .int .u32 m.te, .int .u32 m.ts, .int .u32 m.be, .int .u32 m.bs, .int .i64 m.ix, .int .i64 m.tt, .int .u32 m.tk, .slice A m.its.length c, .slice B m.hvs.length d]) (mgV m A c B d) rfl rfl ?_
    clear HS
    intro g5 w6 hg7 HS
    refine p_run _ (x_assign (.bool false) rfl rfl) rfl ?_
    refine wpList_nil ?_
    refine hK2 _ _ ?_
    refine wp_seq_k (fun K8 hK9 => ?_)
    refine wp_seq_k (fun K10 hK11 => ?_)
    refine c_region (fun ops13 hops12 => ?_)
    refine p_run _ (x_field (j := 0) _ _ rfl rfl Try.underlying33 rfl (by rfl) rfl) rfl ?_
    refine p_run _ (x_load (.int .i64 m.k) rfl rfl (bkCell (HS.get (.head _)) 0 _ rfl) (by rfl)) rfl ?_
    refine p_run _ (x_cmp (k := .i64) (m := m.k) (n := 1) .lss (decide (m.k < 1)) rfl rfl rfl rfl rfl) rfl ?_
    refine p_run _ (x_move (.bool (decide (m.k < 1))) rfl rfl) rfl ?_
    obtain ⟨bz14, hbz14⟩ : ∃ b_, b_ = (decide (m.k < 1)) := ⟨_, rfl⟩
    rw [← hbz14]
    refine p_tail 4 (fun a_ w_ => ∃ (uz9 uz10 uz11 : Value) (bz15 : Bool), a_ = fr (mgV m A c B d :: .pointer (some ⟨g5, 0, none⟩) :: .bool false :: undef :: undef :: .pointer (some ⟨g5, 0, none⟩) :: .int .i64 m.k :: .bool bz14 :: .bool bz14 :: uz9 :: uz10 :: uz11 :: .bool bz15 :: U64g1 (U16g1 (undef :: undef :: undef :: []))) ∧ bz15 = (bz14 || (decide (m.k > 5))) ∧ St w (fun _ => False) w_ ([blk g5 [.int .i64 m.k, .int .u32 m.e, .int .u64 m.s, .int .u32 m.te, .int .u32 m.ts, .int .u32 m.be, .int .u32 m.bs, .int .i64 m.ix, .int .i64 m.tt, .int .u32 m.tk, .slice A m.its.length c, .slice B m.hvs.length d] 33])) (fun T16 => ?_) ?_
    · cases bz14
      · skip
        refine p_on rfl (by rw [hops12]; rfl) ?_
        refine p_run _ (x_field (j := 0) _ _ rfl rfl Try.underlying33 rfl (by rfl) rfl) rfl ?_
        refine p_on rfl (by rw [hops12]; rfl) ?_
        refine p_run _ (x_load (.int .i64 m.k) rfl rfl (bkCell (HS.get (.head _)) 0 _ rfl) (by rfl)) rfl ?_
        refine p_on rfl (by rw [hops12]; rfl) ?_
        refine p_run _ (x_cmp (k := .i64) (m := m.k) (n := 5) .gtr (decide (m.k > 5)) rfl rfl rfl rfl rfl) rfl ?_
        refine p_run _ (x_pick false (.bool true) (.bool (decide (m.k > 5))) (.bool (decide (m.k > 5))) rfl rfl rfl rfl rfl) rfl ?_
        exact T16 _ _ ⟨(.pointer (some ⟨g5, 0, none⟩)), (.int .i64 m.k), (.bool (decide (m.k > 5))), (decide (m.k > 5)), rfl, rfl, HS⟩
      · skip
        refine p_off (by rw [hops12]; rfl) rfl ?_
        refine p_off (by rw [hops12]; rfl) rfl ?_
        refine p_off (by rw [hops12]; rfl) rfl ?_
        refine p_run _ (x_pick true (.bool true) (undef) (.bool true) rfl rfl rfl rfl rfl) rfl ?_
        exact T16 _ _ ⟨undef, undef, undef, true, rfl, rfl, HS⟩
    clear HS
    rintro _ w_ ⟨uz9, uz10, uz11, bz15, rfl, hbz15, HS⟩
    skip
    refine p_run _ (x_move (.bool bz15) rfl rfl) rfl ?_
    refine p_tail 4 (fun a_ w_ => ∃ (uz16 : Value) (qz19 : V8) (bz18 : Bool), a_ = fr (mgV m A c B d :: .pointer (some ⟨g5, 0, none⟩) :: .bool false :: undef :: undef :: .pointer (some ⟨g5, 0, none⟩) :: .int .i64 m.k :: .bool bz14 :: V8.l qz19 (uz16 :: .bool bz18 :: U64g1 (U8g1 (U4g1 (undef :: undef :: []))))) ∧ bz18 = (bz15 || (decide (m.e < 1))) ∧ St w (fun _ => False) w_ ([blk g5 [.int .i64 m.k, .int .u32 m.e, .int .u64 m.s, .int .u32 m.te, .int .u32 m.ts, .int .u32 m.be, .int .u32 m.bs, .int .i64 m.ix, .int .i64 m.tt, .int .u32 m.tk, .slice A m.its.length c, .slice B m.hvs.length d] 33])) (fun T20 => ?_) ?_
    · cases bz15
      · skip
        refine p_on rfl (by rw [hops12]; rfl) ?_
        refine p_run _ (x_field (j := 1) _ _ rfl rfl Try.underlying33 rfl (by rfl) rfl) rfl ?_
        refine p_on rfl (by rw [hops12]; rfl) ?_
        refine p_run _ (x_load (.int .u32 m.e) rfl rfl (bkCell (HS.get (.head _)) 1 _ rfl) (by rfl)) rfl ?_
        refine p_on rfl (by rw [hops12]; rfl) ?_
        refine p_run _ (x_cmp (k := .u32) (m := m.e) (n := 1) .lss (decide (m.e < 1)) rfl rfl rfl rfl rfl) rfl ?_
        refine p_run _ (x_pick false (.bool true) (.bool (decide (m.e < 1))) (.bool (decide (m.e < 1))) rfl rfl rfl rfl rfl) rfl ?_
        exact T20 _ _ ⟨(.bool (decide (m.e < 1))), ⟨.bool bz14, uz9, uz10, uz11, .bool false, .bool false, .pointer (some ⟨g5, 1, none⟩), .int .u32 m.e⟩, (decide (m.e < 1)), rfl, rfl, HS⟩
      · skip
        refine p_off (by rw [hops12]; rfl) rfl ?_
        refine p_off (by rw [hops12]; rfl) rfl ?_
        refine p_off (by rw [hops12]; rfl) rfl ?_
        refine p_run _ (x_pick true (.bool true) (undef) (.bool true) rfl rfl rfl rfl rfl) rfl ?_
        exact T20 _ _ ⟨undef, ⟨.bool bz14, uz9, uz10, uz11, .bool true, .bool true, undef, undef⟩, true, rfl, rfl, HS⟩
    clear HS
    rintro _ w_ ⟨uz16, qz19, bz18, rfl, hbz18, HS⟩
    skip
    refine p_run _ (x_move (.bool bz18) rfl rfl) rfl ?_
    refine p_tail 4 (fun a_ w_ => ∃ (uz19 uz20 uz21 : Value) (bz22 : Bool), a_ = fr (mgV m A c B d :: .pointer (some ⟨g5, 0, none⟩) :: .bool false :: undef :: undef :: .pointer (some ⟨g5, 0, none⟩) :: .int .i64 m.k :: .bool bz14 :: V8.l qz19 (uz16 :: .bool bz18 :: .bool bz18 :: uz19 :: uz20 :: uz21 :: .bool bz22 :: U64g1 (U8g1 (undef :: [])))) ∧ bz22 = (bz18 || (decide (m.e > 1048576))) ∧ St w (fun _ => False) w_ ([blk g5 [.int .i64 m.k, .int .u32 m.e, .int .u64 m.s, .int .u32 m.te, .int .u32 m.ts, .int .u32 m.be, .int .u32 m.bs, .int .i64 m.ix, .int .i64 m.tt, .int .u32 m.tk, .slice A m.its.length c, .slice B m.hvs.length d] 33])) (fun T23 => ?_) ?_
    · cases bz18
      · skip
        refine p_on rfl (by rw [hops12]; rfl) ?_
        refine p_run _ (x_field (j := 1) _ _ rfl rfl Try.underlying33 rfl (by rfl) rfl) rfl ?_
        refine p_on rfl (by rw [hops12]; rfl) ?_
        refine p_run _ (x_load (.int .u32 m.e) rfl rfl (bkCell (HS.get (.head _)) 1 _ rfl) (by rfl)) rfl ?_
        refine p_on rfl (by rw [hops12]; rfl) ?_
        refine p_run _ (x_cmp (k := .u32) (m := m.e) (n := 1048576) .gtr (decide (m.e > 1048576)) rfl rfl rfl rfl rfl) rfl ?_
        refine p_run _ (x_pick false (.bool true) (.bool (decide (m.e > 1048576))) (.bool (decide (m.e > 1048576))) rfl rfl rfl rfl rfl) rfl ?_
        exact T23 _ _ ⟨(.pointer (some ⟨g5, 1, none⟩)), (.int .u32 m.e), (.bool (decide (m.e > 1048576))), (decide (m.e > 1048576)), rfl, rfl, HS⟩
      · skip
        refine p_off (by rw [hops12]; rfl) rfl ?_
        refine p_off (by rw [hops12]; rfl) rfl ?_
        refine p_off (by rw [hops12]; rfl) rfl ?_
        refine p_run _ (x_pick true (.bool true) (undef) (.bool true) rfl rfl rfl rfl rfl) rfl ?_
        exact T23 _ _ ⟨undef, undef, undef, true, rfl, rfl, HS⟩
    clear HS
    rintro _ w_ ⟨uz19, uz20, uz21, bz22, rfl, hbz22, HS⟩
    skip
    refine p_run _ (x_move (.bool bz22) rfl rfl) rfl ?_
    refine p_tail 4 (fun a_ w_ => ∃ (uz24 uz25 uz26 : Value) (qz26 : V8) (bz25 : Bool), a_ = fr (mgV m A c B d :: .pointer (some ⟨g5, 0, none⟩) :: .bool false :: undef :: undef :: .pointer (some ⟨g5, 0, none⟩) :: .int .i64 m.k :: .bool bz14 :: V8.l qz19 (V8.l qz26 (uz24 :: uz25 :: uz26 :: .bool bz25 :: U64g1 (U4g1 ([]))))) ∧ bz25 = (bz22 || (decide (m.ix < 0))) ∧ St w (fun _ => False) w_ ([blk g5 [.int .i64 m.k, .int .u32 m.e, .int .u64 m.s, .int .u32 m.te, .int .u32 m.ts, .int .u32 m.be, .int .u32 m.bs, .int .i64 m.ix, .int .i64 m.tt, .int .u32 m.tk, .slice A m.its.length c, .slice B m.hvs.length d] 33])) (fun T27 => ?_) ?_
    · cases bz22
      · skip
        refine p_on rfl (by rw [hops12]; rfl) ?_
        refine p_run _ (x_field (j := 7) _ _ rfl rfl Try.underlying33 rfl (by rfl) rfl) rfl ?_
        refine p_on rfl (by rw [hops12]; rfl) ?_
        refine p_run _ (x_load (.int .i64 m.ix) rfl rfl (bkCell (HS.get (.head _)) 7 _ rfl) (by rfl)) rfl ?_
        refine p_on rfl (by rw [hops12]; rfl) ?_
        refine p_run _ (x_cmp (k := .i64) (m := m.ix) (n := 0) .lss (decide (m.ix < 0)) rfl rfl rfl rfl rfl) rfl ?_
        refine p_run _ (x_pick false (.bool true) (.bool (decide (m.ix < 0))) (.bool (decide (m.ix < 0))) rfl rfl rfl rfl rfl) rfl ?_
        exact T27 _ _ ⟨(.pointer (some ⟨g5, 7, none⟩)), (.int .i64 m.ix), (.bool (decide (m.ix < 0))), ⟨uz16, .bool bz18, .bool bz18, uz19, uz20, uz21, .bool false, .bool false⟩, (decide (m.ix < 0)), rfl, rfl, HS⟩
      · skip
        refine p_off (by rw [hops12]; rfl) rfl ?_
        refine p_off (by rw [hops12]; rfl) rfl ?_
        refine p_off (by rw [hops12]; rfl) rfl ?_
        refine p_run _ (x_pick true (.bool true) (undef) (.bool true) rfl rfl rfl rfl rfl) rfl ?_
        exact T27 _ _ ⟨undef, undef, undef, ⟨uz16, .bool bz18, .bool bz18, uz19, uz20, uz21, .bool true, .bool true⟩, true, rfl, rfl, HS⟩
    clear HS
    rintro _ w_ ⟨uz24, uz25, uz26, qz26, bz25, rfl, hbz25, HS⟩
    skip
    refine p_run _ (x_move (.bool bz25) rfl rfl) rfl ?_
    refine p_tail 4 (fun a_ w_ => ∃ (qz30 : V8) (bz29 : Bool), a_ = fr (mgV m A c B d :: .pointer (some ⟨g5, 0, none⟩) :: .bool false :: undef :: undef :: .pointer (some ⟨g5, 0, none⟩) :: .int .i64 m.k :: .bool bz14 :: V8.l qz19 (V8.l qz26 (V8.l qz30 (.bool bz29 :: U32g1 (U16g1 (U8g1 (U4g1 (undef :: undef :: undef :: [])))))))) ∧ bz29 = (bz25 || (decide (m.ix > 64))) ∧ St w (fun _ => False) w_ ([blk g5 [.int .i64 m.k, .int .u32 m.e, .int .u64 m.s, .int .u32 m.te, .int .u32 m.ts, .int .u32 m.be, .int .u32 m.bs, .int .i64 m.ix, .int .i64 m.tt, .int .u32 m.tk, .slice A m.its.length c, .slice B m.hvs.length d] 33])) (fun T31 => ?_) ?_
    · cases bz25
      · skip
        refine p_on rfl (by rw [hops12]; rfl) ?_
        refine p_run _ (x_field (j := 7) _ _ rfl rfl Try.underlying33 rfl (by rfl) rfl) rfl ?_
        refine p_on rfl (by rw [hops12]; rfl) ?_
        refine p_run _ (x_load (.int .i64 m.ix) rfl rfl (bkCell (HS.get (.head _)) 7 _ rfl) (by rfl)) rfl ?_
        refine p_on rfl (by rw [hops12]; rfl) ?_
        refine p_run _ (x_cmp (k := .i64) (m := m.ix) (n := 64) .gtr (decide (m.ix > 64)) rfl rfl rfl rfl rfl) rfl ?_
        refine p_run _ (x_pick false (.bool true) (.bool (decide (m.ix > 64))) (.bool (decide (m.ix > 64))) rfl rfl rfl rfl rfl) rfl ?_
        exact T31 _ _ ⟨⟨uz24, uz25, uz26, .bool false, .bool false, .pointer (some ⟨g5, 7, none⟩), .int .i64 m.ix, .bool (decide (m.ix > 64))⟩, (decide (m.ix > 64)), rfl, rfl, HS⟩
      · skip
        refine p_off (by rw [hops12]; rfl) rfl ?_
        refine p_off (by rw [hops12]; rfl) rfl ?_
        refine p_off (by rw [hops12]; rfl) rfl ?_
        refine p_run _ (x_pick true (.bool true) (undef) (.bool true) rfl rfl rfl rfl rfl) rfl ?_
        exact T31 _ _ ⟨⟨uz24, uz25, uz26, .bool true, .bool true, undef, undef, undef⟩, true, rfl, rfl, HS⟩
    clear HS
    rintro _ w_ ⟨qz30, bz29, rfl, hbz29, HS⟩
    skip
    refine p_run _ (x_move (.bool bz29) rfl rfl) rfl ?_
    refine p_tail 4 (fun a_ w_ => ∃ (uz34 uz35 uz36 : Value) (bz33 : Bool), a_ = fr (mgV m A c B d :: .pointer (some ⟨g5, 0, none⟩) :: .bool false :: undef :: undef :: .pointer (some ⟨g5, 0, none⟩) :: .int .i64 m.k :: .bool bz14 :: V8.l qz19 (V8.l qz26 (V8.l qz30 (.bool bz29 :: .bool bz29 :: uz34 :: uz35 :: uz36 :: .bool bz33 :: U32g1 (U16g1 (U8g1 (undef :: undef :: []))))))) ∧ bz33 = (bz29 || (decide (m.tt < 0))) ∧ St w (fun _ => False) w_ ([blk g5 [.int .i64 m.k, .int .u32 m.e, .int .u64 m.s, .int .u32 m.te, .int .u32 m.ts, .int .u32 m.be, .int .u32 m.bs, .int .i64 m.ix, .int .i64 m.tt, .int .u32 m.tk, .slice A m.its.length c, .slice B m.hvs.length d] 33])) (fun T34 => ?_) ?_
    · cases bz29
      · skip
        refine p_on rfl (by rw [hops12]; rfl) ?_
        refine p_run _ (x_field (j := 8) _ _ rfl rfl Try.underlying33 rfl (by rfl) rfl) rfl ?_
        refine p_on rfl (by rw [hops12]; rfl) ?_
        refine p_run _ (x_load (.int .i64 m.tt) rfl rfl (bkCell (HS.get (.head _)) 8 _ rfl) (by rfl)) rfl ?_
        refine p_on rfl (by rw [hops12]; rfl) ?_
        refine p_run _ (x_cmp (k := .i64) (m := m.tt) (n := 0) .lss (decide (m.tt < 0)) rfl rfl rfl rfl rfl) rfl ?_
        refine p_run _ (x_pick false (.bool true) (.bool (decide (m.tt < 0))) (.bool (decide (m.tt < 0))) rfl rfl rfl rfl rfl) rfl ?_
        exact T34 _ _ ⟨(.pointer (some ⟨g5, 8, none⟩)), (.int .i64 m.tt), (.bool (decide (m.tt < 0))), (decide (m.tt < 0)), rfl, rfl, HS⟩
      · skip
        refine p_off (by rw [hops12]; rfl) rfl ?_
        refine p_off (by rw [hops12]; rfl) rfl ?_
        refine p_off (by rw [hops12]; rfl) rfl ?_
        refine p_run _ (x_pick true (.bool true) (undef) (.bool true) rfl rfl rfl rfl rfl) rfl ?_
        exact T34 _ _ ⟨undef, undef, undef, true, rfl, rfl, HS⟩
    clear HS
    rintro _ w_ ⟨uz34, uz35, uz36, bz33, rfl, hbz33, HS⟩
    skip
    refine p_run _ (x_move (.bool bz33) rfl rfl) rfl ?_
    refine p_tail 4 (fun a_ w_ => ∃ (uz40 uz41 : Value) (qz37 : V8) (bz36 : Bool), a_ = fr (mgV m A c B d :: .pointer (some ⟨g5, 0, none⟩) :: .bool false :: undef :: undef :: .pointer (some ⟨g5, 0, none⟩) :: .int .i64 m.k :: .bool bz14 :: V8.l qz19 (V8.l qz26 (V8.l qz30 (V8.l qz37 (uz40 :: uz41 :: .bool bz36 :: U32g1 (U16g1 (U4g1 (undef :: [])))))))) ∧ bz36 = (bz33 || (decide (m.tt > 64))) ∧ St w (fun _ => False) w_ ([blk g5 [.int .i64 m.k, .int .u32 m.e, .int .u64 m.s, .int .u32 m.te, .int .u32 m.ts, .int .u32 m.be, .int .u32 m.bs, .int .i64 m.ix, .int .i64 m.tt, .int .u32 m.tk, .slice A m.its.length c, .slice B m.hvs.length d] 33])) (fun T38 => ?_) ?_
    · cases bz33
      · skip
        refine p_on rfl (by rw [hops12]; rfl) ?_
        refine p_run _ (x_field (j := 8) _ _ rfl rfl Try.underlying33 rfl (by rfl) rfl) rfl ?_
        refine p_on rfl (by rw [hops12]; rfl) ?_
        refine p_run _ (x_load (.int .i64 m.tt) rfl rfl (bkCell (HS.get (.head _)) 8 _ rfl) (by rfl)) rfl ?_
        refine p_on rfl (by rw [hops12]; rfl) ?_
        refine p_run _ (x_cmp (k := .i64) (m := m.tt) (n := 64) .gtr (decide (m.tt > 64)) rfl rfl rfl rfl rfl) rfl ?_
        refine p_run _ (x_pick false (.bool true) (.bool (decide (m.tt > 64))) (.bool (decide (m.tt > 64))) rfl rfl rfl rfl rfl) rfl ?_
        exact T38 _ _ ⟨(.int .i64 m.tt), (.bool (decide (m.tt > 64))), ⟨.bool bz29, .bool bz29, uz34, uz35, uz36, .bool false, .bool false, .pointer (some ⟨g5, 8, none⟩)⟩, (decide (m.tt > 64)), rfl, rfl, HS⟩
      · skip
        refine p_off (by rw [hops12]; rfl) rfl ?_
        refine p_off (by rw [hops12]; rfl) rfl ?_
        refine p_off (by rw [hops12]; rfl) rfl ?_
        refine p_run _ (x_pick true (.bool true) (undef) (.bool true) rfl rfl rfl rfl rfl) rfl ?_
        exact T38 _ _ ⟨undef, undef, ⟨.bool bz29, .bool bz29, uz34, uz35, uz36, .bool true, .bool true, undef⟩, true, rfl, rfl, HS⟩
    clear HS
    rintro _ w_ ⟨uz40, uz41, qz37, bz36, rfl, hbz36, HS⟩
    skip
    refine p_run _ (x_move (.bool bz36) rfl rfl) rfl ?_
    refine p_tail 5 (fun a_ w_ => ∃ (qz41 : V8) (bz40 : Bool), a_ = fr (mgV m A c B d :: .pointer (some ⟨g5, 0, none⟩) :: .bool false :: undef :: undef :: .pointer (some ⟨g5, 0, none⟩) :: .int .i64 m.k :: .bool bz14 :: V8.l qz19 (V8.l qz26 (V8.l qz30 (V8.l qz37 (V8.l qz41 (.bool bz40 :: U32g1 (U8g1 (U4g1 (undef :: undef :: undef :: []))))))))) ∧ bz40 = (bz36 || (decide ((m.its.length : Int) > 4))) ∧ St w (fun _ => False) w_ ([blk g5 [.int .i64 m.k, .int .u32 m.e, .int .u64 m.s, .int .u32 m.te, .int .u32 m.ts, .int .u32 m.be, .int .u32 m.bs, .int .i64 m.ix, .int .i64 m.tt, .int .u32 m.tk, .slice A m.its.length c, .slice B m.hvs.length d] 33])) (fun T42 => ?_) ?_
    · cases bz36
      · skip
        refine p_on rfl (by rw [hops12]; rfl) ?_
        refine p_run _ (x_field (j := 10) _ _ rfl rfl Try.underlying33 rfl (by rfl) rfl) rfl ?_
        refine p_on rfl (by rw [hops12]; rfl) ?_
        refine p_run _ (x_load (.slice A m.its.length c) rfl rfl (bkCell (HS.get (.head _)) 10 _ rfl) (by rfl)) rfl ?_
        refine p_on rfl (by rw [hops12]; rfl) ?_
        refine p_run _ (x_len rfl rfl Try.underlying30) rfl ?_
        refine p_on rfl (by rw [hops12]; rfl) ?_
        refine p_run _ (x_cmp (k := .i64) (m := (m.its.length : Int)) (n := 4) .gtr (decide ((m.its.length : Int) > 4)) rfl rfl rfl rfl rfl) rfl ?_
        refine p_run _ (x_pick false (.bool true) (.bool (decide ((m.its.length : Int) > 4))) (.bool (decide ((m.its.length : Int) > 4))) rfl rfl rfl rfl rfl) rfl ?_
        exact T42 _ _ ⟨⟨uz40, uz41, .bool false, .bool false, .pointer (some ⟨g5, 10, none⟩), .slice A m.its.length c, .int .i64 (m.its.length : Int), .bool (decide ((m.its.length : Int) > 4))⟩, (decide ((m.its.length : Int) > 4)), rfl, rfl, HS⟩
      · skip
        refine p_off (by rw [hops12]; rfl) rfl ?_
        refine p_off (by rw [hops12]; rfl) rfl ?_
        refine p_off (by rw [hops12]; rfl) rfl ?_
        refine p_off (by rw [hops12]; rfl) rfl ?_
        refine p_run _ (x_pick true (.bool true) (undef) (.bool true) rfl rfl rfl rfl rfl) rfl ?_
        exact T42 _ _ ⟨⟨uz40, uz41, .bool true, .bool true, undef, undef, undef, undef⟩, true, rfl, rfl, HS⟩
    clear HS
    rintro _ w_ ⟨qz41, bz40, rfl, hbz40, HS⟩
    skip
    refine p_run _ (x_move (.bool bz40) rfl rfl) rfl ?_
    refine p_tail 5 (fun a_ w_ => ∃ (uz50 uz51 uz52 uz53 : Value) (bz44 : Bool), a_ = fr (mgV m A c B d :: .pointer (some ⟨g5, 0, none⟩) :: .bool false :: undef :: undef :: .pointer (some ⟨g5, 0, none⟩) :: .int .i64 m.k :: .bool bz14 :: V8.l qz19 (V8.l qz26 (V8.l qz30 (V8.l qz37 (V8.l qz41 (.bool bz40 :: .bool bz40 :: uz50 :: uz51 :: uz52 :: uz53 :: .bool bz44 :: U32g1 (U8g1 (undef :: [])))))))) ∧ bz44 = (bz40 || (decide ((m.hvs.length : Int) > 8))) ∧ St w (fun _ => False) w_ ([blk g5 [.int .i64 m.k, .int .u32 m.e, .int .u64 m.s, .int .u32 m.te, .int .u32 m.ts, .int .u32 m.be, .int .u32 m.bs, .int .i64 m.ix, .int .i64 m.tt, .int .u32 m.tk, .slice A m.its.length c, .slice B m.hvs.length d] 33])) (fun T45 => ?_) ?_
    · cases bz40
      · skip
        refine p_on rfl (by rw [hops12]; rfl) ?_
        refine p_run _ (x_field (j := 11) _ _ rfl rfl Try.underlying33 rfl (by rfl) rfl) rfl ?_
        refine p_on rfl (by rw [hops12]; rfl) ?_
        refine p_run _ (x_load (.slice B m.hvs.length d) rfl rfl (bkCell (HS.get (.head _)) 11 _ rfl) (by rfl)) rfl ?_
        refine p_on rfl (by rw [hops12]; rfl) ?_
        refine p_run _ (x_len rfl rfl Try.underlying31) rfl ?_
        refine p_on rfl (by rw [hops12]; rfl) ?_
        refine p_run _ (x_cmp (k := .i64) (m := (m.hvs.length : Int)) (n := 8) .gtr (decide ((m.hvs.length : Int) > 8)) rfl rfl rfl rfl rfl) rfl ?_
        refine p_run _ (x_pick false (.bool true) (.bool (decide ((m.hvs.length : Int) > 8))) (.bool (decide ((m.hvs.length : Int) > 8))) rfl rfl rfl rfl rfl) rfl ?_
        exact T45 _ _ ⟨(.pointer (some ⟨g5, 11, none⟩)), (.slice B m.hvs.length d), (.int .i64 (m.hvs.length : Int)), (.bool (decide ((m.hvs.length : Int) > 8))), (decide ((m.hvs.length : Int) > 8)), rfl, rfl, HS⟩
      · skip
        refine p_off (by rw [hops12]; rfl) rfl ?_
        refine p_off (by rw [hops12]; rfl) rfl ?_
        refine p_off (by rw [hops12]; rfl) rfl ?_
        refine p_off (by rw [hops12]; rfl) rfl ?_
        refine p_run _ (x_pick true (.bool true) (undef) (.bool true) rfl rfl rfl rfl rfl) rfl ?_
        exact T45 _ _ ⟨undef, undef, undef, undef, true, rfl, rfl, HS⟩
    clear HS
    rintro _ w_ ⟨uz50, uz51, uz52, uz53, bz44, rfl, hbz44, HS⟩
    skip
    clear hops12
    refine wpList_nil ?_
    refine hK11 _ _ ?_
    refine c_cond (t := bz44) rfl (fun hc47 => ?_) (fun hc47 => ?_)
    · rw [hbz44, hbz40, hbz36, hbz33, hbz29, hbz25, hbz22, hbz18, hbz15, hbz14] at hc47
      have hno : mgOk m = false := mg_no (fun h => by
        obtain ⟨⟨k1, k2⟩, ⟨e1, e2⟩, ⟨x1, x2, t1, t2⟩, hi, hh, -, -⟩ := nm_of h
        simp only [Bool.or_eq_true, decide_eq_true_eq] at hc47
        omega)
      refine wp_seq_k (fun K48 hK49 => ?_)
      refine c_region (fun ops51 hops50 => ?_)
      clear hops50
      refine p_run _ (x_assign (.bool false) rfl rfl) rfl ?_
      refine wpList_nil ?_
      refine hK49 _ _ ?_
      refine wp_ret ?_
      try simp only [Exit.inBlock, Exit.then]
      refine c_ret (.bool false) (r_tmp rfl rfl) ?_
      rw [hno]
      exact ⟨rfl, HS.belowOf⟩
    · rw [hbz44, hbz40, hbz36, hbz33, hbz29, hbz25, hbz22, hbz18, hbz15, hbz14] at hc47
      simp only [Bool.or_eq_false_iff, decide_eq_false_iff_not] at hc47
      have bd : (1 ≤ m.k ∧ m.k ≤ 5) ∧ (1 ≤ m.e ∧ m.e ≤ 1048576) ∧ (0 ≤ m.ix ∧ m.ix ≤ 64 ∧ 0 ≤ m.tt ∧ m.tt ≤ 64) ∧ m.its.length ≤ 4 ∧ m.hvs.length ≤ 8 := by omega
      clear hc47
      refine wp_skip ?_
      refine hK9 _ _ ?_
      refine wp_seq_k (fun K52 hK53 => ?_)
      refine wp_seq_k (fun K54 hK55 => ?_)
      refine c_region (fun ops57 hops56 => ?_)
      clear hops56
      refine p_run _ (x_field (j := 11) _ _ rfl rfl Try.underlying33 rfl (by rfl) rfl) rfl ?_
      refine p_run _ (x_load (.slice B m.hvs.length d) rfl rfl (bkCell (HS.get (.head _)) 11 _ rfl) (by rfl)) rfl ?_
      refine p_run _ (x_len rfl rfl Try.underlying31) rfl ?_
      refine p_run _ (x_move (.int .i64 0) rfl rfl) rfl ?_
      refine wpList_nil ?_
      obtain ⟨qz58, hqz58⟩ : ∃ q_ : V8, q_ = ⟨.bool bz40, .bool bz40, uz50, uz51, uz52, uz53, .bool bz44, .pointer (some ⟨g5, 11, none⟩)⟩ := ⟨_, rfl⟩
      refine fr_at (l' := (mgV m A c B d :: .pointer (some ⟨g5, 0, none⟩) :: .bool false :: undef :: undef :: .pointer (some ⟨g5, 0, none⟩) :: .int .i64 m.k :: .bool bz14 :: V8.l qz19 (V8.l qz26 (V8.l qz30 (V8.l qz37 (V8.l qz41 (V8.l qz58 (.slice B m.hvs.length d :: .int .i64 (m.hvs.length : Int) :: .int .i64 0 :: U32g1 (U4g1 (undef :: [])))))))))) (by subst hqz58; rfl) ?_
      refine hK55 _ _ ?_
      refine wp_block ?_
      refine c_loop (ι := Nat) (fun i_ a_ w_ => match i_ with | j => ∃ (u2 : Value) (u4 : Value) (u59 : Value) (u60 : Value) (u61 : Value) (u62 : Value) (u63 : Value) (u64 : Value) (u65 : Value) (u66 : Value) (u67 : Value) (u68 : Value) (u69 : Value) (u70 : Value) (u71 : Value), a_ = fr (mgV m A c B d :: .pointer (some ⟨g5, 0, none⟩) :: u2 :: undef :: u4 :: .pointer (some ⟨g5, 0, none⟩) :: .int .i64 m.k :: .bool bz14 :: V8.l qz19 (V8.l qz26 (V8.l qz30 (V8.l qz37 (V8.l qz41 (V8.l qz58 (.slice B m.hvs.length d :: .int .i64 (m.hvs.length : Int) :: .int .i64 (j : Int) :: u59 :: u60 :: u61 :: u62 :: u63 :: u64 :: u65 :: u66 :: u67 :: u68 :: u69 :: u70 :: u71 :: U16g1 (U8g1 ([]))))))))) ∧ St w (fun _ => False) w_ ([blk g5 [.int .i64 m.k, .int .u32 m.e, .int .u64 m.s, .int .u32 m.te, .int .u32 m.ts, .int .u32 m.be, .int .u32 m.bs, .int .i64 m.ix, .int .i64 m.tt, .int .u32 m.tk, .slice A m.its.length c, .slice B m.hvs.length d] 33]) ∧ (j ≤ m.hvs.length ∧ (j = 0 ∨ m.k = 2) ∧ ∀ (i : Nat) (y : Hv), i < j → m.hvs[i]? = some y → hvOk y = true)) (fun i_ => match i_ with | j => m.hvs.length - j) 0 ?_ ?_
      · exact ⟨_, _, _, _, _, _, _, _, _, _, _, _, _, _, _, rfl, HS, ⟨Nat.zero_le _, .inl rfl, fun i y h => absurd h (by omega)⟩⟩
      · clear HS
        rintro j a_ w61 ⟨u2, u4, u59, u60, u61, u62, u63, u64, u65, u66, u67, u68, u69, u70, u71, rfl, HS, hI⟩ J59 hJ60
        obtain ⟨hjl, hj2, hall⟩ := hI
        refine wp_seq_k (fun K62 hK63 => ?_)
        refine c_region (fun ops65 hops64 => ?_)
        clear hops64
        refine p_run _ (x_cmp (k := .i64) (m := (j : Int)) (n := (m.hvs.length : Int)) .lss (decide ((j : Int) < (m.hvs.length : Int))) rfl rfl rfl rfl rfl) rfl ?_
        refine wpList_nil ?_
        refine hK63 _ _ ?_
        refine wp_seq_k (fun K66 hK67 => ?_)
        refine c_cond (t := decide ((j : Int) < (m.hvs.length : Int))) rfl (fun hc68 => ?_) (fun hc68 => ?_)
        · have hlt : j < m.hvs.length := by have := of_decide_eq_true hc68; omega
          obtain ⟨ad, x, rfl, hx, -⟩ := hv_get (Kd.C_below hB HS.belowOf) j hlt
          refine wp_skip ?_
          refine hK67 _ _ ?_
          refine wp_seq_k (fun K69 hK70 => ?_)
          refine wp_block ?_
          refine wp_seq_k (fun K71 hK72 => ?_)
          refine c_region (fun ops74 hops73 => ?_)
          clear hops73
          refine p_run _ (x_index (A := ad) (j := j * 3) (sz := 3) rfl rfl rfl Try.underlying31 (by kernel_rfl) (by omega) rfl) rfl ?_
          refine p_run _ (x_loads [.int .u32 x.1, .int .u32 x.2.1, .int .u32 x.2.2] 3 rfl rfl (hv_cells (Kd.C_below hB HS.belowOf) hx) (by rfl) (by kernel_rfl) rfl) rfl ?_
          refine St.wAlloc HS (cs := [.int .u32 0, .int .u32 0, .int .u32 0]) (.agg [.int .u32 0, .int .u32 0, .int .u32 0].toArray) (by kernel_rfl) rfl ?_
          clear HS
          intro g75 w76 hg77 HS
          refine St.stores (cs' := [.int .u32 x.1, .int .u32 x.2.1, .int .u32 x.2.2]) HS [.int .u32 x.1, .int .u32 x.2.1, .int .u32 x.2.2] 3 rfl rfl (by rfl) (by kernel_rfl) rfl (by simp) rfl ?_
          clear HS
          intro w78 HS
          refine wpList_nil ?_
          refine hK72 _ _ ?_
          refine wp_seq_k (fun K79 hK80 => ?_)
          refine c_region (fun ops82 hops81 => ?_)
          refine p_run _ (x_field (j := 0) _ _ rfl rfl Try.underlying55 rfl (by rfl) rfl) rfl ?_
          refine p_run _ (x_loads [.int .u32 x.1, .int .u32 x.2.1] 2 rfl rfl (bkCells (HS.get (.head _)) 0 _ rfl) (by rfl) (by kernel_rfl) rfl) rfl ?_
          refine w_call [.agg ([.int .u32 x.1, .int .u32 x.2.1] : List Value).toArray] Try.func36 (by kernel_rfl) (by rfl) rfl ?_
          refine (r3right_any _ x.1 x.2.1).mono ?_
          rintro e w83 ⟨rfl, hb_⟩
          replace HS := HS.here hb_
          clear hb_
          refine ⟨_, rfl, ?_⟩
          refine fr_to (l' := (mgV m A c (some ad) d :: .pointer (some ⟨g5, 0, none⟩) :: u2 :: undef :: .pointer (some ⟨g75, 0, none⟩) :: .pointer (some ⟨g5, 0, none⟩) :: .int .i64 m.k :: .bool bz14 :: V8.l qz19 (V8.l qz26 (V8.l qz30 (V8.l qz37 (V8.l qz41 (V8.l qz58 (.slice (some ad) m.hvs.length d :: .int .i64 (m.hvs.length : Int) :: .int .i64 (j : Int) :: .bool (decide ((j : Int) < (m.hvs.length : Int))) :: .pointer (some ((ad).add (j * 3))) :: .agg ([.int .u32 x.1, .int .u32 x.2.1, .int .u32 x.2.2] : List Value).toArray :: .pointer (some ⟨g75, 0, none⟩) :: .agg ([.int .u32 x.1, .int .u32 x.2.1] : List Value).toArray :: .bool (lbOk x.1 x.2.1) :: u65 :: u66 :: u67 :: u68 :: u69 :: u70 :: u71 :: U16g1 (U8g1 ([])))))))))) rfl ?_
          refine p_run _ (x_not (lbOk x.1 x.2.1) rfl rfl) rfl ?_
          refine p_run _ (x_move (.bool (!(lbOk x.1 x.2.1))) rfl rfl) rfl ?_
          obtain ⟨bz84, hbz84⟩ : ∃ b_, b_ = (!(lbOk x.1 x.2.1)) := ⟨_, rfl⟩
          rw [← hbz84]
          refine p_tail 4 (fun a_ w_ => ∃ (uz67 uz68 uz69 : Value) (bz85 : Bool), a_ = fr (mgV m A c (some ad) d :: .pointer (some ⟨g5, 0, none⟩) :: u2 :: undef :: .pointer (some ⟨g75, 0, none⟩) :: .pointer (some ⟨g5, 0, none⟩) :: .int .i64 m.k :: .bool bz14 :: V8.l qz19 (V8.l qz26 (V8.l qz30 (V8.l qz37 (V8.l qz41 (V8.l qz58 (.slice (some ad) m.hvs.length d :: .int .i64 (m.hvs.length : Int) :: .int .i64 (j : Int) :: .bool (decide ((j : Int) < (m.hvs.length : Int))) :: .pointer (some ((ad).add (j * 3))) :: .agg ([.int .u32 x.1, .int .u32 x.2.1, .int .u32 x.2.2] : List Value).toArray :: .pointer (some ⟨g75, 0, none⟩) :: .agg ([.int .u32 x.1, .int .u32 x.2.1] : List Value).toArray :: .bool (lbOk x.1 x.2.1) :: .bool bz84 :: .bool bz84 :: uz67 :: uz68 :: uz69 :: .bool bz85 :: u71 :: U16g1 (U8g1 ([]))))))))) ∧ bz85 = (bz84 || (m.k != 2)) ∧ St w (fun _ => False) w_ ([blk g75 [.int .u32 x.1, .int .u32 x.2.1, .int .u32 x.2.2] 55, blk g5 [.int .i64 m.k, .int .u32 m.e, .int .u64 m.s, .int .u32 m.te, .int .u32 m.ts, .int .u32 m.be, .int .u32 m.bs, .int .i64 m.ix, .int .i64 m.tt, .int .u32 m.tk, .slice A m.its.length c, .slice (some ad) m.hvs.length d] 33])) (fun T86 => ?_) ?_
          · cases bz84
            · skip
              refine p_on rfl (by rw [hops81]; rfl) ?_
              refine p_run _ (x_field (j := 0) _ _ rfl rfl Try.underlying33 rfl (by rfl) rfl) rfl ?_
              refine p_on rfl (by rw [hops81]; rfl) ?_
              refine p_run _ (x_load (.int .i64 m.k) rfl rfl (bkCell (HS.get (.tail _ (.head _))) 0 _ rfl) (by rfl)) rfl ?_
              refine p_on rfl (by rw [hops81]; rfl) ?_
              refine p_run _ (x_cmp (k := .i64) (m := m.k) (n := 2) .neq (m.k != 2) rfl rfl rfl rfl rfl) rfl ?_
              refine p_run _ (x_pick false (.bool true) (.bool (m.k != 2)) (.bool (m.k != 2)) rfl rfl rfl rfl rfl) rfl ?_
              exact T86 _ _ ⟨(.pointer (some ⟨g5, 0, none⟩)), (.int .i64 m.k), (.bool (m.k != 2)), (m.k != 2), rfl, rfl, HS⟩
            · skip
              refine p_off (by rw [hops81]; rfl) rfl ?_
              refine p_off (by rw [hops81]; rfl) rfl ?_
              refine p_off (by rw [hops81]; rfl) rfl ?_
              refine p_run _ (x_pick true (.bool true) (undef) (.bool true) rfl rfl rfl rfl rfl) rfl ?_
              exact T86 _ _ ⟨undef, undef, undef, true, rfl, rfl, HS⟩
          clear HS
          rintro _ w_ ⟨uz67, uz68, uz69, bz85, rfl, hbz85, HS⟩
          skip
          clear hops81
          refine wpList_nil ?_
          refine hK80 _ _ ?_
          refine c_cond (t := bz85) rfl (fun hc88 => ?_) (fun hc88 => ?_)
          · rw [hbz85, hbz84] at hc88
            have hno : mgOk m = false := mg_no (fun h => hv_bad h hx hc88)
            refine wp_seq_k (fun K89 hK90 => ?_)
            refine c_region (fun ops92 hops91 => ?_)
            clear hops91
            refine p_run _ (x_assign (.bool false) rfl rfl) rfl ?_
            refine wpList_nil ?_
            refine hK90 _ _ ?_
            refine wp_ret ?_
            try simp only [Exit.inBlock, Exit.then]
            refine c_ret (.bool false) (r_tmp rfl rfl) ?_
            rw [hno]
            exact ⟨rfl, HS.belowOf⟩
          · rw [hbz85, hbz84] at hc88
            obtain ⟨hxo, hxk⟩ := hv_good hc88
            refine wp_skip ?_
            refine hK70 _ _ ?_
            refine c_region (fun ops94 hops93 => ?_)
            clear hops93
            refine p_run _ (x_arith (k := .i64) (m := (j : Int)) (n := 1) .add (((j + 1 : Nat) : Int)) rfl rfl rfl (show IntKind.i64.wrap ((j : Int) + 1) = ((j + 1 : Nat) : Int) from ((wr64' (by omega)).trans (by omega))) rfl) rfl ?_
            refine p_run _ (x_move (.int .i64 ((j + 1 : Nat) : Int)) rfl rfl) rfl ?_
            refine wpList_nil ?_
            refine fr_at (l' := (mgV m A c (some ad) d :: .pointer (some ⟨g5, 0, none⟩) :: u2 :: undef :: .pointer (some ⟨g75, 0, none⟩) :: .pointer (some ⟨g5, 0, none⟩) :: .int .i64 m.k :: .bool bz14 :: V8.l qz19 (V8.l qz26 (V8.l qz30 (V8.l qz37 (V8.l qz41 (V8.l qz58 (.slice (some ad) m.hvs.length d :: .int .i64 (m.hvs.length : Int) :: .int .i64 ((j + 1 : Nat) : Int) :: .bool (decide ((j : Int) < (m.hvs.length : Int))) :: .pointer (some ((ad).add (j * 3))) :: .agg ([.int .u32 x.1, .int .u32 x.2.1, .int .u32 x.2.2] : List Value).toArray :: .pointer (some ⟨g75, 0, none⟩) :: .agg ([.int .u32 x.1, .int .u32 x.2.1] : List Value).toArray :: .bool (lbOk x.1 x.2.1) :: .bool bz84 :: .bool bz84 :: uz67 :: uz68 :: uz69 :: .bool bz85 :: .int .i64 ((j + 1 : Nat) : Int) :: U16g1 (U8g1 ([])))))))))) rfl ?_
            refine hJ60 (j + 1) _ _ ?_ ?_
            · show m.hvs.length - (j + 1) < m.hvs.length - j; omega
            · exact ⟨_, _, _, _, _, _, _, _, _, _, _, _, _, _, _, rfl, HS.drop, ⟨by omega, .inr hxk, fun i y hi hy => (Nat.lt_or_ge i j).elim (fun h => hall i y h hy) (fun h => by obtain rfl : i = j := (by omega); rw [hx] at hy; obtain rfl := Option.some.inj hy; exact hxo)⟩⟩
        · have hlt : j = m.hvs.length := by have := of_decide_eq_false hc68; omega
          subst hlt
          refine wp_exit ?_
          refine hK53 _ _ ?_
          refine wp_seq_k (fun K95 hK96 => ?_)
          refine c_region (fun ops98 hops97 => ?_)
          refine p_run _ (x_field (j := 3) _ _ rfl rfl Try.underlying33 rfl (by rfl) rfl) rfl ?_
          refine p_run _ (x_loads [.int .u32 m.te, .int .u32 m.ts] 2 rfl rfl (bkCells (HS.get (.head _)) 3 _ rfl) (by rfl) (by kernel_rfl) rfl) rfl ?_
          refine w_call [.agg ([.int .u32 m.te, .int .u32 m.ts] : List Value).toArray] Try.func36 (by kernel_rfl) (by rfl) rfl ?_
          refine (r3right_any _ m.te m.ts).mono ?_
          rintro e w99 ⟨rfl, hb_⟩
          replace HS := HS.here hb_
          clear hb_
          refine ⟨_, rfl, ?_⟩
          refine p_run _ (x_move (.bool (lbOk m.te m.ts)) rfl rfl) rfl ?_
          obtain ⟨bz100, hbz100⟩ : ∃ b_, b_ = ((lbOk m.te m.ts)) := ⟨_, rfl⟩
          rw [← hbz100]
          refine p_tail 4 (fun a_ w_ => ∃ (uz76 uz77 uz78 : Value) (qz102 qz103 : V8) (bz101 : Bool), a_ = fr (mgV m A c B d :: .pointer (some ⟨g5, 0, none⟩) :: u2 :: undef :: u4 :: .pointer (some ⟨g5, 0, none⟩) :: .int .i64 m.k :: .bool bz14 :: V8.l qz19 (V8.l qz26 (V8.l qz30 (V8.l qz37 (V8.l qz41 (V8.l qz58 (V8.l qz102 (V8.l qz103 (.pointer (some ⟨g5, 3, none⟩) :: .agg ([.int .u32 m.te, .int .u32 m.ts] : List Value).toArray :: .bool bz100 :: .bool bz100 :: uz76 :: uz77 :: uz78 :: .bool bz101 :: U16g1 ([])))))))))) ∧ bz101 = (bz100 && (lbOk m.be m.bs)) ∧ St w (fun _ => False) w_ ([blk g5 [.int .i64 m.k, .int .u32 m.e, .int .u64 m.s, .int .u32 m.te, .int .u32 m.ts, .int .u32 m.be, .int .u32 m.bs, .int .i64 m.ix, .int .i64 m.tt, .int .u32 m.tk, .slice A m.its.length c, .slice B m.hvs.length d] 33])) (fun T104 => ?_) ?_
          · cases bz100
            · skip
              refine p_off (by rw [hops97]; rfl) rfl ?_
              refine p_off (by rw [hops97]; rfl) rfl ?_
              refine p_off (by rw [hops97]; rfl) rfl ?_
              refine p_run _ (x_pick false (undef) (.bool false) (.bool false) rfl rfl rfl rfl rfl) rfl ?_
              exact T104 _ _ ⟨undef, undef, undef, ⟨.slice B m.hvs.length d, .int .i64 (m.hvs.length : Int), .int .i64 (m.hvs.length : Int), .bool (decide ((m.hvs.length : Int) < (m.hvs.length : Int))), u60, u61, u62, u63⟩, ⟨u64, u65, u66, u67, u68, u69, u70, u71⟩, false, rfl, rfl, HS⟩
            · skip
              refine p_on rfl (by rw [hops97]; rfl) ?_
              refine p_run _ (x_field (j := 5) _ _ rfl rfl Try.underlying33 rfl (by rfl) rfl) rfl ?_
              refine p_on rfl (by rw [hops97]; rfl) ?_
              refine p_run _ (x_loads [.int .u32 m.be, .int .u32 m.bs] 2 rfl rfl (bkCells (HS.get (.head _)) 5 _ rfl) (by rfl) (by kernel_rfl) rfl) rfl ?_
              refine p_on rfl (by rw [hops97]; rfl) ?_
              refine w_call [.agg ([.int .u32 m.be, .int .u32 m.bs] : List Value).toArray] Try.func36 (by kernel_rfl) (by rfl) rfl ?_
              refine (r3right_any _ m.be m.bs).mono ?_
              rintro e w105 ⟨rfl, hb_⟩
              replace HS := HS.here hb_
              clear hb_
              refine ⟨_, rfl, ?_⟩
              refine p_run _ (x_pick true (.bool (lbOk m.be m.bs)) (.bool false) (.bool (lbOk m.be m.bs)) rfl rfl rfl rfl rfl) rfl ?_
              exact T104 _ _ ⟨(.pointer (some ⟨g5, 5, none⟩)), (.agg ([.int .u32 m.be, .int .u32 m.bs] : List Value).toArray), (.bool (lbOk m.be m.bs)), ⟨.slice B m.hvs.length d, .int .i64 (m.hvs.length : Int), .int .i64 (m.hvs.length : Int), .bool (decide ((m.hvs.length : Int) < (m.hvs.length : Int))), u60, u61, u62, u63⟩, ⟨u64, u65, u66, u67, u68, u69, u70, u71⟩, (lbOk m.be m.bs), rfl, rfl, HS⟩
          clear HS
          rintro _ w_ ⟨uz76, uz77, uz78, qz102, qz103, bz101, rfl, hbz101, HS⟩
          skip
          refine p_run _ (x_move (.bool bz101) rfl rfl) rfl ?_
          refine p_tail 4 (fun a_ w_ => ∃ (uz81 uz82 uz83 : Value) (qz108 : V8) (bz107 : Bool), a_ = fr (mgV m A c B d :: .pointer (some ⟨g5, 0, none⟩) :: u2 :: undef :: u4 :: .pointer (some ⟨g5, 0, none⟩) :: .int .i64 m.k :: .bool bz14 :: V8.l qz19 (V8.l qz26 (V8.l qz30 (V8.l qz37 (V8.l qz41 (V8.l qz58 (V8.l qz102 (V8.l qz103 (V8.l qz108 (.bool bz101 :: uz81 :: uz82 :: uz83 :: .bool bz107 :: U8g1 (undef :: undef :: undef :: []))))))))))) ∧ bz107 = (bz101 && (m.its.all itOk)) ∧ St w (fun _ => False) w_ ([blk g5 [.int .i64 m.k, .int .u32 m.e, .int .u64 m.s, .int .u32 m.te, .int .u32 m.ts, .int .u32 m.be, .int .u32 m.bs, .int .i64 m.ix, .int .i64 m.tt, .int .u32 m.tk, .slice A m.its.length c, .slice B m.hvs.length d] 33])) (fun T109 => ?_) ?_
          · cases bz101
            · skip
              refine p_off (by rw [hops97]; rfl) rfl ?_
              refine p_off (by rw [hops97]; rfl) rfl ?_
              refine p_off (by rw [hops97]; rfl) rfl ?_
              refine p_run _ (x_pick false (undef) (.bool false) (.bool false) rfl rfl rfl rfl rfl) rfl ?_
              exact T109 _ _ ⟨undef, undef, undef, ⟨.pointer (some ⟨g5, 3, none⟩), .agg ([.int .u32 m.te, .int .u32 m.ts] : List Value).toArray, .bool bz100, .bool bz100, uz76, uz77, uz78, .bool false⟩, false, rfl, rfl, HS⟩
            · skip
              refine p_on rfl (by rw [hops97]; rfl) ?_
              refine p_run _ (x_field (j := 10) _ _ rfl rfl Try.underlying33 rfl (by rfl) rfl) rfl ?_
              refine p_on rfl (by rw [hops97]; rfl) ?_
              refine p_run _ (x_load (.slice A m.its.length c) rfl rfl (bkCell (HS.get (.head _)) 10 _ rfl) (by rfl)) rfl ?_
              refine p_on rfl (by rw [hops97]; rfl) ?_
              refine w_call [.slice A m.its.length c] Try.func37 (by kernel_rfl) (by rfl) rfl ?_
              refine (r17all_any _ A c m.its (Kd.C_below hA HS.belowOf) hl).mono ?_
              rintro e w110 ⟨rfl, hb_⟩
              replace HS := HS.here hb_
              clear hb_
              refine ⟨_, rfl, ?_⟩
              refine p_run _ (x_pick true (.bool (m.its.all itOk)) (.bool false) (.bool (m.its.all itOk)) rfl rfl rfl rfl rfl) rfl ?_
              exact T109 _ _ ⟨(.pointer (some ⟨g5, 10, none⟩)), (.slice A m.its.length c), (.bool (m.its.all itOk)), ⟨.pointer (some ⟨g5, 3, none⟩), .agg ([.int .u32 m.te, .int .u32 m.ts] : List Value).toArray, .bool bz100, .bool bz100, uz76, uz77, uz78, .bool true⟩, (m.its.all itOk), rfl, rfl, HS⟩
          clear HS
          rintro _ w_ ⟨uz81, uz82, uz83, qz108, bz107, rfl, hbz107, HS⟩
          skip
          refine p_run _ (x_move (.bool bz107) rfl rfl) rfl ?_
          refine p_tail 10 (fun a_ w_ => ∃ (uz88 uz89 uz90 uz91 uz92 uz93 uz94 : Value) (qz113 : V8) (bz112 : Bool), a_ = fr (mgV m A c B d :: .pointer (some ⟨g5, 0, none⟩) :: u2 :: undef :: u4 :: .pointer (some ⟨g5, 0, none⟩) :: .int .i64 m.k :: .bool bz14 :: V8.l qz19 (V8.l qz26 (V8.l qz30 (V8.l qz37 (V8.l qz41 (V8.l qz58 (V8.l qz102 (V8.l qz103 (V8.l qz108 (V8.l qz113 (uz88 :: uz89 :: uz90 :: uz91 :: uz92 :: uz93 :: uz94 :: .bool bz112 :: []))))))))))) ∧ bz112 = (bz107 && ((((m.its.length : Int) == 0)) || (m.k == 3))) ∧ St w (fun _ => False) w_ ([blk g5 [.int .i64 m.k, .int .u32 m.e, .int .u64 m.s, .int .u32 m.te, .int .u32 m.ts, .int .u32 m.be, .int .u32 m.bs, .int .i64 m.ix, .int .i64 m.tt, .int .u32 m.tk, .slice A m.its.length c, .slice B m.hvs.length d] 33])) (fun T114 => ?_) ?_
          · cases bz107
            · skip
              refine p_off (by rw [hops97]; rfl) rfl ?_
              refine p_off (by rw [hops97]; rfl) rfl ?_
              refine p_off (by rw [hops97]; rfl) rfl ?_
              refine p_off (by rw [hops97]; rfl) rfl ?_
              refine p_off (by rw [hops97]; rfl) rfl ?_
              refine p_off (by rw [hops97]; rfl) rfl ?_
              refine p_off (l' := (mgV m A c B d :: .pointer (some ⟨g5, 0, none⟩) :: u2 :: undef :: u4 :: .pointer (some ⟨g5, 0, none⟩) :: .int .i64 m.k :: .bool bz14 :: V8.l qz19 (V8.l qz26 (V8.l qz30 (V8.l qz37 (V8.l qz41 (V8.l qz58 (V8.l qz102 (V8.l qz103 (V8.l qz108 (.bool bz101 :: uz81 :: uz82 :: uz83 :: .bool false :: .bool false :: U8g1 (undef :: undef :: [])))))))))))) (by rw [hops97]; rfl) rfl ?_
              refine p_off (by rw [hops97]; rfl) rfl ?_
              refine p_off (by rw [hops97]; rfl) rfl ?_
              refine p_run _ (x_pick false (undef) (.bool false) (.bool false) rfl rfl rfl rfl rfl) rfl ?_
              exact T114 _ _ ⟨undef, undef, undef, undef, undef, undef, undef, ⟨.bool bz101, uz81, uz82, uz83, .bool false, .bool false, undef, undef⟩, false, rfl, rfl, HS⟩
            · skip
              refine p_on rfl (by rw [hops97]; rfl) ?_
              refine p_run _ (x_field (j := 10) _ _ rfl rfl Try.underlying33 rfl (by rfl) rfl) rfl ?_
              refine p_on rfl (by rw [hops97]; rfl) ?_
              refine p_run _ (x_load (.slice A m.its.length c) rfl rfl (bkCell (HS.get (.head _)) 10 _ rfl) (by rfl)) rfl ?_
              refine p_on rfl (by rw [hops97]; rfl) ?_
              refine p_run _ (x_len rfl rfl Try.underlying30) rfl ?_
              refine p_on rfl (by rw [hops97]; rfl) ?_
              refine p_run _ (x_cmp (k := .i64) (m := (m.its.length : Int)) (n := 0) .eql ((m.its.length : Int) == 0) rfl rfl rfl rfl rfl) rfl ?_
              refine p_on rfl (by rw [hops97]; rfl) ?_
              refine p_run _ (x_move (.bool ((m.its.length : Int) == 0)) rfl rfl) rfl ?_
              obtain ⟨bz115, hbz115⟩ : ∃ b_, b_ = (((m.its.length : Int) == 0)) := ⟨_, rfl⟩
              rw [← hbz115]
              refine p_tail 4 (fun a_ w_ => ∃ (uz91 uz92 uz93 : Value) (bz116 : Bool), a_ = fr (mgV m A c B d :: .pointer (some ⟨g5, 0, none⟩) :: u2 :: undef :: u4 :: .pointer (some ⟨g5, 0, none⟩) :: .int .i64 m.k :: .bool bz14 :: V8.l qz19 (V8.l qz26 (V8.l qz30 (V8.l qz37 (V8.l qz41 (V8.l qz58 (V8.l qz102 (V8.l qz103 (V8.l qz108 (.bool bz101 :: uz81 :: uz82 :: uz83 :: .bool true :: .bool true :: .pointer (some ⟨g5, 10, none⟩) :: .slice A m.its.length c :: .int .i64 (m.its.length : Int) :: .bool bz115 :: .bool bz115 :: uz91 :: uz92 :: uz93 :: .bool bz116 :: undef :: [])))))))))) ∧ bz116 = (bz115 || (m.k == 3)) ∧ St w (fun _ => False) w_ ([blk g5 [.int .i64 m.k, .int .u32 m.e, .int .u64 m.s, .int .u32 m.te, .int .u32 m.ts, .int .u32 m.be, .int .u32 m.bs, .int .i64 m.ix, .int .i64 m.tt, .int .u32 m.tk, .slice A m.its.length c, .slice B m.hvs.length d] 33])) (fun T117 => ?_) ?_
              · cases bz115
                · skip
                  refine p_on rfl (by rw [hops97]; rfl) ?_
                  refine p_run _ (x_field (j := 0) _ _ rfl rfl Try.underlying33 rfl (by rfl) rfl) rfl ?_
                  refine p_on rfl (by rw [hops97]; rfl) ?_
                  refine p_run _ (x_load (.int .i64 m.k) rfl rfl (bkCell (HS.get (.head _)) 0 _ rfl) (by rfl)) rfl ?_
                  refine p_on rfl (by rw [hops97]; rfl) ?_
                  refine p_run _ (x_cmp (k := .i64) (m := m.k) (n := 3) .eql (m.k == 3) rfl rfl rfl rfl rfl) rfl ?_
                  refine p_on rfl (by rw [hops97]; rfl) ?_
                  refine p_run _ (x_pick false (.bool true) (.bool (m.k == 3)) (.bool (m.k == 3)) rfl rfl rfl rfl rfl) rfl ?_
                  exact T117 _ _ ⟨(.pointer (some ⟨g5, 0, none⟩)), (.int .i64 m.k), (.bool (m.k == 3)), (m.k == 3), rfl, rfl, HS⟩
                · skip
                  refine p_off (by rw [hops97]; rfl) rfl ?_
                  refine p_off (by rw [hops97]; rfl) rfl ?_
                  refine p_off (by rw [hops97]; rfl) rfl ?_
                  refine p_on rfl (by rw [hops97]; rfl) ?_
                  refine p_run _ (x_pick true (.bool true) (undef) (.bool true) rfl rfl rfl rfl rfl) rfl ?_
                  exact T117 _ _ ⟨undef, undef, undef, true, rfl, rfl, HS⟩
              clear HS
              rintro _ w_ ⟨uz91, uz92, uz93, bz116, rfl, hbz116, HS⟩
              skip
              refine p_run _ (x_pick true (.bool bz116) (.bool false) (.bool bz116) rfl rfl rfl rfl rfl) rfl ?_
              exact T114 _ _ ⟨(.int .i64 (m.its.length : Int)), (.bool bz115), (.bool bz115), uz91, uz92, uz93, (.bool bz116), ⟨.bool bz101, uz81, uz82, uz83, .bool true, .bool true, .pointer (some ⟨g5, 10, none⟩), .slice A m.its.length c⟩, bz116, rfl, (by rw [hbz116, hbz115] <;> rfl), HS⟩
          clear HS
          rintro _ w_ ⟨uz88, uz89, uz90, uz91, uz92, uz93, uz94, qz113, bz112, rfl, hbz112, HS⟩
          skip
          refine p_run _ (x_assign (.bool bz112) rfl rfl) rfl ?_
          clear hops97
          refine wpList_nil ?_
          refine hK96 _ _ ?_
          refine wp_ret ?_
          try simp only [Exit.inBlock, Exit.then]
          refine c_ret (.bool bz112) (r_tmp rfl rfl) ?_
          have e1 : mgOk m = bz112 := by
            rw [mg_fin bd.1 bd.2.1 bd.2.2.1 bd.2.2.2.1 bd.2.2.2.2 (all_ok hall) hj2, hbz112, hbz107, hbz101, hbz100]
          rw [e1]
          exact ⟨rfl, HS.belowOf⟩
set_option maxRecDepth 10000 in
set_option maxHeartbeats 1000000 in
theorem r17same_any (w : World) (A : Option Addr) (c : Nat) (es : List It) (hr : kIt.C w A es.length es) (B : Option Addr) (d : Nat) (fs : List It) (hr2 : kIt.C w B fs.length fs) (hl : es.length ≤ 1000) (hl2 : fs.length ≤ 1000) : Calls Try.prog 40 #[.slice A es.length c, .slice B fs.length d] w fun e w' => e = .returned (.bool (decide (es = fs))) ∧ Below w.heap.size w w' := by
  have HS := St.empty w
  by_cases hln : es.length = fs.length
  · skip
    refine c_enter Try.func40 rfl 26 rfl (.slice A es.length c :: .slice B fs.length d :: U16g1 (U8g1 ([]))) rfl ?_
    refine wp_seq_k (fun K1 hK2 => ?_)
    refine c_region (fun ops4 hops3 => ?_)
    clear hops3
    refine p_run _ (x_assign (.bool false) rfl rfl) rfl ?_
    refine wpList_nil ?_
    refine hK2 _ _ ?_
    refine wp_seq_k (fun K5 hK6 => ?_)
    refine wp_seq_k (fun K7 hK8 => ?_)
    refine c_region (fun ops10 hops9 => ?_)
    clear hops9
    refine p_run _ (x_move (.slice A es.length c) rfl rfl) rfl ?_
    refine p_run _ (x_len rfl rfl Try.underlying30) rfl ?_
    refine p_run _ (x_move (.slice B fs.length d) rfl rfl) rfl ?_
    refine p_run _ (x_len rfl rfl Try.underlying30) rfl ?_
    refine p_run _ (x_cmp (k := .i64) (m := (es.length : Int)) (n := (fs.length : Int)) .neq false rfl rfl rfl (eqI (by omega)) rfl) rfl ?_
    refine wpList_nil ?_
    refine fr_at (l' := (.slice A es.length c :: .slice B fs.length d :: undef :: undef :: .bool false :: undef :: .slice A es.length c :: .int .i64 (es.length : Int) :: .slice B fs.length d :: .int .i64 (fs.length : Int) :: .bool false :: U8g1 (U4g1 (undef :: undef :: undef :: [])))) rfl ?_
    refine hK8 _ _ ?_
    refine c_false rfl ?_
    refine wp_skip ?_
    refine hK6 _ _ ?_
    refine wp_seq_k (fun K11 hK12 => ?_)
    refine wp_seq_k (fun K13 hK14 => ?_)
    refine c_region (fun ops16 hops15 => ?_)
    clear hops15
    refine p_run _ (x_move (.slice A es.length c) rfl rfl) rfl ?_
    refine p_run _ (x_len rfl rfl Try.underlying30) rfl ?_
    refine p_run _ (x_move (.int .i64 0) rfl rfl) rfl ?_
    refine wpList_nil ?_
    refine fr_at (l' := (.slice A es.length c :: .slice B fs.length d :: undef :: undef :: .bool false :: undef :: .slice A es.length c :: .int .i64 (es.length : Int) :: .slice B fs.length d :: .int .i64 (fs.length : Int) :: .bool false :: .slice A es.length c :: .int .i64 (es.length : Int) :: .int .i64 0 :: U8g1 (U4g1 ([])))) rfl ?_
    refine hK14 _ _ ?_
    refine wp_block ?_
    refine c_loop (ι := Nat) (fun i_ a_ w_ => match i_ with | j => ∃ (u4 : Value) (u5 : Value) (u14 : Value) (u15 : Value) (u16 : Value) (u17 : Value) (u18 : Value) (u19 : Value) (u20 : Value) (u21 : Value) (u22 : Value) (u23 : Value) (u24 : Value) (u25 : Value), a_ = fr (.slice A es.length c :: .slice B fs.length d :: undef :: undef :: u4 :: u5 :: .slice A es.length c :: .int .i64 (es.length : Int) :: .slice B fs.length d :: .int .i64 (fs.length : Int) :: .bool false :: .slice A es.length c :: .int .i64 (es.length : Int) :: .int .i64 (j : Int) :: u14 :: u15 :: u16 :: u17 :: u18 :: u19 :: u20 :: u21 :: u22 :: u23 :: u24 :: u25 :: []) ∧ St w (fun _ => False) w_ ([]) ∧ (j ≤ es.length ∧ es.take j = fs.take j)) (fun i_ => match i_ with | j => es.length - j) 0 ?_ ?_
    · exact ⟨_, _, _, _, _, _, _, _, _, _, _, _, _, _, rfl, HS, ⟨by omega, rfl⟩⟩
    · clear HS
      rintro j a_ w19 ⟨u4, u5, u14, u15, u16, u17, u18, u19, u20, u21, u22, u23, u24, u25, rfl, HS, hI⟩ J17 hJ18
      have hjl := hI.1
      refine wp_seq_k (fun K20 hK21 => ?_)
      refine c_region (fun ops23 hops22 => ?_)
      clear hops22
      refine p_run _ (x_cmp (k := .i64) (m := (j : Int)) (n := (es.length : Int)) .lss (decide ((j : Int) < (es.length : Int))) rfl rfl rfl rfl rfl) rfl ?_
      refine wpList_nil ?_
      refine hK21 _ _ ?_
      refine wp_seq_k (fun K24 hK25 => ?_)
      refine c_cond (t := decide ((j : Int) < (es.length : Int))) rfl (fun hc26 => ?_) (fun hc26 => ?_)
      · have hlt : j < es.length := by have := of_decide_eq_true hc26; omega
        obtain ⟨ad, x, rfl, hx, hx16, -⟩ := it_get (Kd.C_below hr HS.belowOf) j hlt
        obtain ⟨ae, y, rfl, hy, hy16, -⟩ := it_get (Kd.C_below hr2 HS.belowOf) j (by omega)
        refine wp_skip ?_
        refine hK25 _ _ ?_
        refine wp_seq_k (fun K27 hK28 => ?_)
        refine wp_block ?_
        refine wp_seq_k (fun K29 hK30 => ?_)
        refine c_region (fun ops32 hops31 => ?_)
        clear hops31
        refine p_run _ (x_move (.int .i64 (j : Int)) rfl rfl) rfl ?_
        refine p_run _ (x_assign (.int .i64 (j : Int)) rfl rfl) rfl ?_
        refine wpList_nil ?_
        refine hK30 _ _ ?_
        refine wp_seq_k (fun K33 hK34 => ?_)
        by_cases hxy : x = y
        · skip
          refine free_frame (n := 9) (T := _) [0, 0, 3, 7, 0, 0, 48, 112, 255] [(0, 16), (1, 17), (2, 18), (3, 19), (4, 20), (5, 21), (6, 22), (7, 23), (8, 24)] (fun bq_ vq_ w_ => qv ((fun i_ => match i_ with | 0 => some (.slice (some ad) es.length c) | 1 => some (.int .i64 (j : Int)) | 2 => some (.pointer (some ((ad).add (j * 18)))) | 3 => some (.agg (Value.int .i64 x.1 :: Value.bool x.2.1 :: (nums .u8 (x.2.2.map bv))).toArray) | 4 => some (.slice (some ae) fs.length d) | 5 => some (.int .i64 (j : Int)) | 6 => some (.pointer (some ((ae).add (j * 18)))) | 7 => some (.agg (Value.int .i64 y.1 :: Value.bool y.2.1 :: (nums .u8 (y.2.2.map bv))).toArray) | 8 => some (.bool false) | _ => none) : Nat → Option Value) bq_ vq_ ∧ (St w (fun _ => False) w_ ([]))) (by kernel_rfl) rfl rfl (by kernel_rfl) (by kernel_rfl) rfl (by kernel_rfl) (by kernel_rfl) ⟨qv_none, HS.draw⟩ ?_ ?_
          · clear HS
            intro i_ hi_ bq_ vq_ a_ w_ hG hb_ hon hoff hfr hel hval
            obtain ⟨hV, hE⟩ := hG
            have hi_ := List.mem_range.1 hi_
            obtain ⟨l_, rfl⟩ := hfr
            have hv_ := fun (j t : Nat) (v : Value) (h1 : (j, t) ∈ [(0, 16), (1, 17), (2, 18), (3, 19), (4, 20), (5, 21), (6, 22), (7, 23), (8, 24)]) h2 h3 => (hval (j, t) h1 h3).trans (congrArg some (hV j v h2 h3))
            have hcs : i_ = 0 ∨ i_ = 1 ∨ i_ = 2 ∨ i_ = 3 ∨ i_ = 4 ∨ i_ = 5 ∨ i_ = 6 ∨ i_ = 7 ∨ i_ = 8 := by omega
            rcases hcs with rfl | rfl | rfl | rfl | rfl | rfl | rfl | rfl | rfl
            · have e0 : evl l_ (.tmp 0) = .slice (some ad) es.length c := evl_of ((hel 0 (by decide)).trans rfl)
              exact ⟨_, rfl, fun K_ hK_ => q_op _ (x_move (.slice (some ad) es.length c) rfl e0) (hK_ _ _ ⟨qv_up hV (fun _ h => Option.some.inj h), hE⟩)⟩
            · have e5 : evl l_ (.tmp 5) = .int .i64 (j : Int) := evl_of ((hel 5 (by decide)).trans rfl)
              exact ⟨_, rfl, fun K_ hK_ => q_op _ (x_move (.int .i64 (j : Int)) rfl e5) (hK_ _ _ ⟨qv_up hV (fun _ h => Option.some.inj h), hE⟩)⟩
            · have e16 : evl l_ (.tmp 16) = .slice (some ad) es.length c := evl_of (hv_ 0 16 _ (by decide) rfl (hon 0 (by decide)))
              have e17 : evl l_ (.tmp 17) = .int .i64 (j : Int) := evl_of (hv_ 1 17 _ (by decide) rfl (hon 1 (by decide)))
              exact ⟨_, rfl, fun K_ hK_ => q_op _ (x_index (A := ad) (j := j * 18) (sz := 18) rfl e16 e17 Try.underlying30 (by kernel_rfl) (by omega) rfl) (hK_ _ _ ⟨qv_up hV (fun _ h => Option.some.inj h), hE⟩)⟩
            · have hE0 := hE
              have HS := hE0
              have e18 : evl l_ (.tmp 18) = .pointer (some ((ad).add (j * 18))) := evl_of (hv_ 2 18 _ (by decide) rfl (hon 2 (by decide)))
              exact ⟨_, rfl, fun K_ hK_ => q_op _ (x_loads (Value.int .i64 x.1 :: Value.bool x.2.1 :: (nums .u8 (x.2.2.map bv))) 18 rfl e18 (it_cells (Kd.C_below hr HS.belowOf) hx) (by rfl) (by kernel_rfl) (by simp [List.length_map, hx16, nums_length])) (hK_ _ _ ⟨qv_up hV (fun _ h => Option.some.inj h), hE⟩)⟩
            · have e1 : evl l_ (.tmp 1) = .slice (some ae) fs.length d := evl_of ((hel 1 (by decide)).trans rfl)
              exact ⟨_, rfl, fun K_ hK_ => q_op _ (x_move (.slice (some ae) fs.length d) rfl e1) (hK_ _ _ ⟨qv_up hV (fun _ h => Option.some.inj h), hE⟩)⟩
            · have e5 : evl l_ (.tmp 5) = .int .i64 (j : Int) := evl_of ((hel 5 (by decide)).trans rfl)
              exact ⟨_, rfl, fun K_ hK_ => q_op _ (x_move (.int .i64 (j : Int)) rfl e5) (hK_ _ _ ⟨qv_up hV (fun _ h => Option.some.inj h), hE⟩)⟩
            · have e20 : evl l_ (.tmp 20) = .slice (some ae) fs.length d := evl_of (hv_ 4 20 _ (by decide) rfl (hon 4 (by decide)))
              have e21 : evl l_ (.tmp 21) = .int .i64 (j : Int) := evl_of (hv_ 5 21 _ (by decide) rfl (hon 5 (by decide)))
              exact ⟨_, rfl, fun K_ hK_ => q_op _ (x_index (A := ae) (j := j * 18) (sz := 18) rfl e20 e21 Try.underlying30 (by kernel_rfl) (by omega) rfl) (hK_ _ _ ⟨qv_up hV (fun _ h => Option.some.inj h), hE⟩)⟩
            · have hE0 := hE
              have HS := hE0
              have e22 : evl l_ (.tmp 22) = .pointer (some ((ae).add (j * 18))) := evl_of (hv_ 6 22 _ (by decide) rfl (hon 6 (by decide)))
              exact ⟨_, rfl, fun K_ hK_ => q_op _ (x_loads (Value.int .i64 y.1 :: Value.bool y.2.1 :: (nums .u8 (y.2.2.map bv))) 18 rfl e22 (it_cells (Kd.C_below hr2 HS.belowOf) hy) (by rfl) (by kernel_rfl) (by simp [List.length_map, hy16, nums_length])) (hK_ _ _ ⟨qv_up hV (fun _ h => Option.some.inj h), hE⟩)⟩
            · have hE0 := hE
              have HS := hE0
              have e19 : evl l_ (.tmp 19) = .agg (Value.int .i64 x.1 :: Value.bool x.2.1 :: (nums .u8 (x.2.2.map bv))).toArray := evl_of (hv_ 3 19 _ (by decide) rfl (hon 3 (by decide)))
              have e23 : evl l_ (.tmp 23) = .agg (Value.int .i64 y.1 :: Value.bool y.2.1 :: (nums .u8 (y.2.2.map bv))).toArray := evl_of (hv_ 7 23 _ (by decide) rfl (hon 7 (by decide)))
              exact ⟨_, rfl, fun K_ hK_ => q_op _ (x_eq .neq (.agg (Value.int .i64 x.1 :: Value.bool x.2.1 :: (nums .u8 (x.2.2.map bv))).toArray) (.agg (Value.int .i64 y.1 :: Value.bool y.2.1 :: (nums .u8 (y.2.2.map bv))).toArray) (decide (x = y)) false rfl e19 e23 (equal_it _ x y hx16 hy16) (by rw [decide_eq_true hxy]; rfl) rfl (guard_agg (by kernel_rfl)) (guard_agg (by kernel_rfl))) (hK_ _ _ ⟨qv_up hV (fun _ h => Option.some.inj h), hE⟩)⟩
          intro bq_ vq_ w_ hall hG
          obtain ⟨hV, hE⟩ := hG
          clear HS
          have HS := hE
          have hv0 := hV 0 _ rfl (hall 0 (by decide))
          have hv1 := hV 1 _ rfl (hall 1 (by decide))
          have hv2 := hV 2 _ rfl (hall 2 (by decide))
          have hv3 := hV 3 _ rfl (hall 3 (by decide))
          have hv4 := hV 4 _ rfl (hall 4 (by decide))
          have hv5 := hV 5 _ rfl (hall 5 (by decide))
          have hv6 := hV 6 _ rfl (hall 6 (by decide))
          have hv7 := hV 7 _ rfl (hall 7 (by decide))
          have hv8 := hV 8 _ rfl (hall 8 (by decide))
          clear hV hall
          rw [putSel_fr]
          simp only [tells, List.map_cons, List.map_nil, setAll, List.set_cons_succ, List.set_cons_zero, hv0, hv1, hv2, hv3, hv4, hv5, hv6, hv7, hv8]
          clear hv0 hv1 hv2 hv3 hv4 hv5 hv6 hv7 hv8
          generalize w_ = w900801 at HS ⊢
          refine fr_at (l' := (.slice (some ad) es.length c :: .slice (some ae) fs.length d :: undef :: undef :: u4 :: .int .i64 (j : Int) :: .slice (some ad) es.length c :: .int .i64 (es.length : Int) :: .slice (some ae) fs.length d :: .int .i64 (fs.length : Int) :: .bool false :: .slice (some ad) es.length c :: .int .i64 (es.length : Int) :: .int .i64 (j : Int) :: .bool (decide ((j : Int) < (es.length : Int))) :: .int .i64 (j : Int) :: .slice (some ad) es.length c :: .int .i64 (j : Int) :: .pointer (some ((ad).add (j * 18))) :: .agg (Value.int .i64 x.1 :: Value.bool x.2.1 :: (nums .u8 (x.2.2.map bv))).toArray :: .slice (some ae) fs.length d :: .int .i64 (j : Int) :: .pointer (some ((ae).add (j * 18))) :: .agg (Value.int .i64 y.1 :: Value.bool y.2.1 :: (nums .u8 (y.2.2.map bv))).toArray :: .bool false :: u25 :: [])) rfl ?_
          refine hK34 _ _ ?_
          refine c_false rfl ?_
          refine wp_skip ?_
          refine hK28 _ _ ?_
          refine c_region (fun ops900803 hops900802 => ?_)
          clear hops900802
          refine p_run _ (x_arith (k := .i64) (m := (j : Int)) (n := 1) .add (((j + 1 : Nat) : Int)) rfl rfl rfl (show IntKind.i64.wrap ((j : Int) + 1) = ((j + 1 : Nat) : Int) from ((wr64' (by omega)).trans (by omega))) rfl) rfl ?_
          refine p_run _ (x_move (.int .i64 ((j + 1 : Nat) : Int)) rfl rfl) rfl ?_
          refine wpList_nil ?_
          refine fr_at (l' := (.slice (some ad) es.length c :: .slice (some ae) fs.length d :: undef :: undef :: u4 :: .int .i64 (j : Int) :: .slice (some ad) es.length c :: .int .i64 (es.length : Int) :: .slice (some ae) fs.length d :: .int .i64 (fs.length : Int) :: .bool false :: .slice (some ad) es.length c :: .int .i64 (es.length : Int) :: .int .i64 ((j + 1 : Nat) : Int) :: .bool (decide ((j : Int) < (es.length : Int))) :: .int .i64 (j : Int) :: .slice (some ad) es.length c :: .int .i64 (j : Int) :: .pointer (some ((ad).add (j * 18))) :: .agg (Value.int .i64 x.1 :: Value.bool x.2.1 :: (nums .u8 (x.2.2.map bv))).toArray :: .slice (some ae) fs.length d :: .int .i64 (j : Int) :: .pointer (some ((ae).add (j * 18))) :: .agg (Value.int .i64 y.1 :: Value.bool y.2.1 :: (nums .u8 (y.2.2.map bv))).toArray :: .bool false :: .int .i64 ((j + 1 : Nat) : Int) :: [])) rfl ?_
          refine hJ18 (j + 1) _ _ ?_ ?_
          · show es.length - (j + 1) < es.length - j; omega
          · exact ⟨_, _, _, _, _, _, _, _, _, _, _, _, _, _, rfl, HS, ⟨(by omega), take_eq hI.2 hx hy hxy⟩⟩
        · skip
          refine free_frame (n := 9) (T := _) [0, 0, 3, 7, 0, 0, 48, 112, 255] [(0, 16), (1, 17), (2, 18), (3, 19), (4, 20), (5, 21), (6, 22), (7, 23), (8, 24)] (fun bq_ vq_ w_ => qv ((fun i_ => match i_ with | 0 => some (.slice (some ad) es.length c) | 1 => some (.int .i64 (j : Int)) | 2 => some (.pointer (some ((ad).add (j * 18)))) | 3 => some (.agg (Value.int .i64 x.1 :: Value.bool x.2.1 :: (nums .u8 (x.2.2.map bv))).toArray) | 4 => some (.slice (some ae) fs.length d) | 5 => some (.int .i64 (j : Int)) | 6 => some (.pointer (some ((ae).add (j * 18)))) | 7 => some (.agg (Value.int .i64 y.1 :: Value.bool y.2.1 :: (nums .u8 (y.2.2.map bv))).toArray) | 8 => some (.bool true) | _ => none) : Nat → Option Value) bq_ vq_ ∧ (St w (fun _ => False) w_ ([]))) (by kernel_rfl) rfl rfl (by kernel_rfl) (by kernel_rfl) rfl (by kernel_rfl) (by kernel_rfl) ⟨qv_none, HS.draw⟩ ?_ ?_
          · clear HS
            intro i_ hi_ bq_ vq_ a_ w_ hG hb_ hon hoff hfr hel hval
            obtain ⟨hV, hE⟩ := hG
            have hi_ := List.mem_range.1 hi_
            obtain ⟨l_, rfl⟩ := hfr
            have hv_ := fun (j t : Nat) (v : Value) (h1 : (j, t) ∈ [(0, 16), (1, 17), (2, 18), (3, 19), (4, 20), (5, 21), (6, 22), (7, 23), (8, 24)]) h2 h3 => (hval (j, t) h1 h3).trans (congrArg some (hV j v h2 h3))
            have hcs : i_ = 0 ∨ i_ = 1 ∨ i_ = 2 ∨ i_ = 3 ∨ i_ = 4 ∨ i_ = 5 ∨ i_ = 6 ∨ i_ = 7 ∨ i_ = 8 := by omega
            rcases hcs with rfl | rfl | rfl | rfl | rfl | rfl | rfl | rfl | rfl
            · have e0 : evl l_ (.tmp 0) = .slice (some ad) es.length c := evl_of ((hel 0 (by decide)).trans rfl)
              exact ⟨_, rfl, fun K_ hK_ => q_op _ (x_move (.slice (some ad) es.length c) rfl e0) (hK_ _ _ ⟨qv_up hV (fun _ h => Option.some.inj h), hE⟩)⟩
            · have e5 : evl l_ (.tmp 5) = .int .i64 (j : Int) := evl_of ((hel 5 (by decide)).trans rfl)
              exact ⟨_, rfl, fun K_ hK_ => q_op _ (x_move (.int .i64 (j : Int)) rfl e5) (hK_ _ _ ⟨qv_up hV (fun _ h => Option.some.inj h), hE⟩)⟩
            · have e16 : evl l_ (.tmp 16) = .slice (some ad) es.length c := evl_of (hv_ 0 16 _ (by decide) rfl (hon 0 (by decide)))
              have e17 : evl l_ (.tmp 17) = .int .i64 (j : Int) := evl_of (hv_ 1 17 _ (by decide) rfl (hon 1 (by decide)))
              exact ⟨_, rfl, fun K_ hK_ => q_op _ (x_index (A := ad) (j := j * 18) (sz := 18) rfl e16 e17 Try.underlying30 (by kernel_rfl) (by omega) rfl) (hK_ _ _ ⟨qv_up hV (fun _ h => Option.some.inj h), hE⟩)⟩
            · have hE0 := hE
              have HS := hE0
              have e18 : evl l_ (.tmp 18) = .pointer (some ((ad).add (j * 18))) := evl_of (hv_ 2 18 _ (by decide) rfl (hon 2 (by decide)))
              exact ⟨_, rfl, fun K_ hK_ => q_op _ (x_loads (Value.int .i64 x.1 :: Value.bool x.2.1 :: (nums .u8 (x.2.2.map bv))) 18 rfl e18 (it_cells (Kd.C_below hr HS.belowOf) hx) (by rfl) (by kernel_rfl) (by simp [List.length_map, hx16, nums_length])) (hK_ _ _ ⟨qv_up hV (fun _ h => Option.some.inj h), hE⟩)⟩
            · have e1 : evl l_ (.tmp 1) = .slice (some ae) fs.length d := evl_of ((hel 1 (by decide)).trans rfl)
              exact ⟨_, rfl, fun K_ hK_ => q_op _ (x_move (.slice (some ae) fs.length d) rfl e1) (hK_ _ _ ⟨qv_up hV (fun _ h => Option.some.inj h), hE⟩)⟩
            · have e5 : evl l_ (.tmp 5) = .int .i64 (j : Int) := evl_of ((hel 5 (by decide)).trans rfl)
              exact ⟨_, rfl, fun K_ hK_ => q_op _ (x_move (.int .i64 (j : Int)) rfl e5) (hK_ _ _ ⟨qv_up hV (fun _ h => Option.some.inj h), hE⟩)⟩
            · have e20 : evl l_ (.tmp 20) = .slice (some ae) fs.length d := evl_of (hv_ 4 20 _ (by decide) rfl (hon 4 (by decide)))
              have e21 : evl l_ (.tmp 21) = .int .i64 (j : Int) := evl_of (hv_ 5 21 _ (by decide) rfl (hon 5 (by decide)))
              exact ⟨_, rfl, fun K_ hK_ => q_op _ (x_index (A := ae) (j := j * 18) (sz := 18) rfl e20 e21 Try.underlying30 (by kernel_rfl) (by omega) rfl) (hK_ _ _ ⟨qv_up hV (fun _ h => Option.some.inj h), hE⟩)⟩
            · have hE0 := hE
              have HS := hE0
              have e22 : evl l_ (.tmp 22) = .pointer (some ((ae).add (j * 18))) := evl_of (hv_ 6 22 _ (by decide) rfl (hon 6 (by decide)))
              exact ⟨_, rfl, fun K_ hK_ => q_op _ (x_loads (Value.int .i64 y.1 :: Value.bool y.2.1 :: (nums .u8 (y.2.2.map bv))) 18 rfl e22 (it_cells (Kd.C_below hr2 HS.belowOf) hy) (by rfl) (by kernel_rfl) (by simp [List.length_map, hy16, nums_length])) (hK_ _ _ ⟨qv_up hV (fun _ h => Option.some.inj h), hE⟩)⟩
            · have hE0 := hE
              have HS := hE0
              have e19 : evl l_ (.tmp 19) = .agg (Value.int .i64 x.1 :: Value.bool x.2.1 :: (nums .u8 (x.2.2.map bv))).toArray := evl_of (hv_ 3 19 _ (by decide) rfl (hon 3 (by decide)))
              have e23 : evl l_ (.tmp 23) = .agg (Value.int .i64 y.1 :: Value.bool y.2.1 :: (nums .u8 (y.2.2.map bv))).toArray := evl_of (hv_ 7 23 _ (by decide) rfl (hon 7 (by decide)))
              exact ⟨_, rfl, fun K_ hK_ => q_op _ (x_eq .neq (.agg (Value.int .i64 x.1 :: Value.bool x.2.1 :: (nums .u8 (x.2.2.map bv))).toArray) (.agg (Value.int .i64 y.1 :: Value.bool y.2.1 :: (nums .u8 (y.2.2.map bv))).toArray) (decide (x = y)) true rfl e19 e23 (equal_it _ x y hx16 hy16) (by rw [decide_eq_false hxy]; rfl) rfl (guard_agg (by kernel_rfl)) (guard_agg (by kernel_rfl))) (hK_ _ _ ⟨qv_up hV (fun _ h => Option.some.inj h), hE⟩)⟩
          intro bq_ vq_ w_ hall hG
          obtain ⟨hV, hE⟩ := hG
          clear HS
          have HS := hE
          have hv0 := hV 0 _ rfl (hall 0 (by decide))
          have hv1 := hV 1 _ rfl (hall 1 (by decide))
          have hv2 := hV 2 _ rfl (hall 2 (by decide))
          have hv3 := hV 3 _ rfl (hall 3 (by decide))
          have hv4 := hV 4 _ rfl (hall 4 (by decide))
          have hv5 := hV 5 _ rfl (hall 5 (by decide))
          have hv6 := hV 6 _ rfl (hall 6 (by decide))
          have hv7 := hV 7 _ rfl (hall 7 (by decide))
          have hv8 := hV 8 _ rfl (hall 8 (by decide))
          clear hV hall
          rw [putSel_fr]
          simp only [tells, List.map_cons, List.map_nil, setAll, List.set_cons_succ, List.set_cons_zero, hv0, hv1, hv2, hv3, hv4, hv5, hv6, hv7, hv8]
          clear hv0 hv1 hv2 hv3 hv4 hv5 hv6 hv7 hv8
          generalize w_ = w900801 at HS ⊢
          refine fr_at (l' := (.slice (some ad) es.length c :: .slice (some ae) fs.length d :: undef :: undef :: u4 :: .int .i64 (j : Int) :: .slice (some ad) es.length c :: .int .i64 (es.length : Int) :: .slice (some ae) fs.length d :: .int .i64 (fs.length : Int) :: .bool false :: .slice (some ad) es.length c :: .int .i64 (es.length : Int) :: .int .i64 (j : Int) :: .bool (decide ((j : Int) < (es.length : Int))) :: .int .i64 (j : Int) :: .slice (some ad) es.length c :: .int .i64 (j : Int) :: .pointer (some ((ad).add (j * 18))) :: .agg (Value.int .i64 x.1 :: Value.bool x.2.1 :: (nums .u8 (x.2.2.map bv))).toArray :: .slice (some ae) fs.length d :: .int .i64 (j : Int) :: .pointer (some ((ae).add (j * 18))) :: .agg (Value.int .i64 y.1 :: Value.bool y.2.1 :: (nums .u8 (y.2.2.map bv))).toArray :: .bool true :: u25 :: [])) rfl ?_
          refine hK34 _ _ ?_
          refine c_true rfl ?_
          refine wp_seq_k (fun K900802 hK900803 => ?_)
          refine c_region (fun ops900805 hops900804 => ?_)
          clear hops900804
          refine p_run _ (x_assign (.bool false) rfl rfl) rfl ?_
          refine wpList_nil ?_
          refine hK900803 _ _ ?_
          refine wp_ret ?_
          try simp only [Exit.inBlock, Exit.then]
          refine c_ret (.bool false) (r_tmp rfl rfl) ?_
          have hne : decide (es = fs) = false := decide_eq_false (fun h => hxy (by rw [h, hy] at hx; injection hx with hx; exact hx.symm))
          rw [hne]
          exact ⟨rfl, HS.belowOf⟩
      · have hlt : j = es.length := by have := of_decide_eq_false hc26; omega
        subst hlt
        refine wp_exit ?_
        refine hK12 _ _ ?_
        refine wp_seq_k (fun K900806 hK900807 => ?_)
        refine c_region (fun ops900809 hops900808 => ?_)
        clear hops900808
        refine p_run _ (x_assign (.bool true) rfl rfl) rfl ?_
        refine wpList_nil ?_
        refine hK900807 _ _ ?_
        refine wp_ret ?_
        try simp only [Exit.inBlock, Exit.then]
        refine c_ret (.bool true) (r_tmp rfl rfl) ?_
        have hne : decide (es = fs) = true := decide_eq_true (by have h := hI.2; rw [List.take_length, hln, List.take_length] at h; exact h)
        rw [hne]
        exact ⟨rfl, HS.belowOf⟩
  · skip
    refine c_enter Try.func40 rfl 26 rfl (.slice A es.length c :: .slice B fs.length d :: U16g1 (U8g1 ([]))) rfl ?_
    refine wp_seq_k (fun K1 hK2 => ?_)
    refine c_region (fun ops4 hops3 => ?_)
    clear hops3
    refine p_run _ (x_assign (.bool false) rfl rfl) rfl ?_
    refine wpList_nil ?_
    refine hK2 _ _ ?_
    refine wp_seq_k (fun K5 hK6 => ?_)
    refine wp_seq_k (fun K7 hK8 => ?_)
    refine c_region (fun ops10 hops9 => ?_)
    clear hops9
    refine p_run _ (x_move (.slice A es.length c) rfl rfl) rfl ?_
    refine p_run _ (x_len rfl rfl Try.underlying30) rfl ?_
    refine p_run _ (x_move (.slice B fs.length d) rfl rfl) rfl ?_
    refine p_run _ (x_len rfl rfl Try.underlying30) rfl ?_
    refine p_run _ (x_cmp (k := .i64) (m := (es.length : Int)) (n := (fs.length : Int)) .neq true rfl rfl rfl (neqI (by omega)) rfl) rfl ?_
    refine wpList_nil ?_
    refine fr_at (l' := (.slice A es.length c :: .slice B fs.length d :: undef :: undef :: .bool false :: undef :: .slice A es.length c :: .int .i64 (es.length : Int) :: .slice B fs.length d :: .int .i64 (fs.length : Int) :: .bool true :: U8g1 (U4g1 (undef :: undef :: undef :: [])))) rfl ?_
    refine hK8 _ _ ?_
    refine c_true rfl ?_
    refine wp_seq_k (fun K11 hK12 => ?_)
    refine c_region (fun ops14 hops13 => ?_)
    clear hops13
    refine p_run _ (x_assign (.bool false) rfl rfl) rfl ?_
    refine wpList_nil ?_
    refine hK12 _ _ ?_
    refine wp_ret ?_
    try simp only [Exit.inBlock, Exit.then]
    refine c_ret (.bool false) (r_tmp rfl rfl) ?_
    have hne : decide (es = fs) = false := decide_eq_false (fun h => hln (by rw [h]))
    rw [hne]
    exact ⟨rfl, HS.belowOf⟩
theorem sm_no {m n : Mg} (h : m = n → False) : smB m n = false := Bool.eq_false_iff.2 (fun hb => h (smB_iff.1 hb))
theorem sm_fin {m n : Mg} (h : (((((((m.k = n.k ∧ m.e = n.e) ∧ m.s = n.s) ∧ (m.te = n.te ∧ m.ts = n.ts)) ∧ (m.be = n.be ∧ m.bs = n.bs)) ∧ m.ix = n.ix) ∧ m.tt = n.tt) ∧ m.tk = n.tk) ∧ (m.hvs.length : Int) = n.hvs.length) (hh : m.hvs = n.hvs) : smB m n = decide (m.its = n.its) := by
  obtain ⟨⟨⟨⟨⟨⟨⟨⟨a, b⟩, c⟩, d⟩, e⟩, f⟩, g⟩, i⟩, -⟩ := h
  unfold smB hdB rtB
  rw [decide_eq_true a, decide_eq_true b, decide_eq_true c, decide_eq_true d, decide_eq_true e, decide_eq_true f, decide_eq_true g, decide_eq_true i, decide_eq_true hh]
  simp
set_option maxRecDepth 10000 in
set_option maxHeartbeats 4000000 in
theorem r18same_any (w : World) (m : Mg) (A : Option Addr) (c : Nat) (hA : kIt.C w A m.its.length m.its) (B : Option Addr) (d : Nat) (hB : kHv.C w B m.hvs.length m.hvs) (hl : m.its.length ≤ 1000) (hl2 : m.hvs.length ≤ 1000) (n : Mg) (A2 : Option Addr) (c2 : Nat) (hA2 : kIt.C w A2 n.its.length n.its) (B2 : Option Addr) (d2 : Nat) (hB2 : kHv.C w B2 n.hvs.length n.hvs) (hn : n.its.length ≤ 1000) (hn2 : n.hvs.length ≤ 1000) : Calls Try.prog 17 #[mgV m A c B d, mgV n A2 c2 B2 d2] w fun e w' => e = .returned (.bool (smB m n)) ∧ Below w.heap.size w w' := by
  have HS := St.empty w
  · skip
    refine c_enter Try.func17 rfl 92 rfl (mgV m A c B d :: mgV n A2 c2 B2 d2 :: U64g1 (U16g1 (U8g1 (undef :: undef :: [])))) rfl ?_
    refine wp_seq_k (fun K1 hK2 => ?_)
    refine c_region (fun ops4 hops3 => ?_)
    clear hops3
    refine St.wBox HS (cs := [.int .i64 m.k, .int .u32 m.e, .int .u64 m.s, .int .u32 m.te, .int .u32 m.ts, .int .u32 m.be, .int .u32 m.bs, .int .i64 m.ix, .int .i64 m.tt, .int .u32 m.tk, .slice A m.its.length c, .slice B m.hvs.length d]) (mgV m A c B d) rfl rfl ?_
    clear HS
    intro g5 w6 hg7 HS
    refine St.wBox HS (cs := [.int .i64 n.k, .int .u32 n.e, .int .u64 n.s, .int .u32 n.te, .int .u32 n.ts, .int .u32 n.be, .int .u32 n.bs, .int .i64 n.ix, .int .i64 n.tt, .int .u32 n.tk, .slice A2 n.its.length c2, .slice B2 n.hvs.length d2]) (mgV n A2 c2 B2 d2) rfl rfl ?_
    clear HS
    intro g8 w9 hg10 HS
    refine p_run _ (x_assign (.bool false) rfl rfl) rfl ?_
    refine wpList_nil ?_
    refine hK2 _ _ ?_
    refine wp_seq_k (fun K11 hK12 => ?_)
    refine wp_seq_k (fun K13 hK14 => ?_)
    refine c_region (fun ops16 hops15 => ?_)
    refine p_run _ (x_field (j := 0) _ _ rfl rfl Try.underlying33 rfl (by rfl) rfl) rfl ?_
    refine p_run _ (x_load (.int .i64 m.k) rfl rfl (bkCell (HS.get (.tail _ (.head _))) 0 _ rfl) (by rfl)) rfl ?_
    refine p_run _ (x_field (j := 0) _ _ rfl rfl Try.underlying33 rfl (by rfl) rfl) rfl ?_
    refine p_run (l' := (mgV m A c B d :: mgV n A2 c2 B2 d2 :: .pointer (some ⟨g5, 0, none⟩) :: .pointer (some ⟨g8, 0, none⟩) :: .bool false :: undef :: .pointer (some ⟨g5, 0, none⟩) :: .int .i64 m.k :: .pointer (some ⟨g8, 0, none⟩) :: .int .i64 n.k :: U64g1 (U16g1 (undef :: undef :: [])))) _ (x_load (.int .i64 n.k) rfl rfl (bkCell (HS.get (.head _)) 0 _ rfl) (by rfl)) rfl ?_
    refine p_run _ (x_cmp (k := .i64) (m := m.k) (n := n.k) .neq (m.k != n.k) rfl rfl rfl rfl rfl) rfl ?_
    refine p_run _ (x_move (.bool (m.k != n.k)) rfl rfl) rfl ?_
    obtain ⟨bz17, hbz17⟩ : ∃ b_, b_ = ((m.k != n.k)) := ⟨_, rfl⟩
    rw [← hbz17]
    refine p_tail 6 (fun a_ w_ => ∃ (uz16 : Value) (qz19 : V8) (bz18 : Bool), a_ = fr (mgV m A c B d :: mgV n A2 c2 B2 d2 :: .pointer (some ⟨g5, 0, none⟩) :: .pointer (some ⟨g8, 0, none⟩) :: .bool false :: undef :: .pointer (some ⟨g5, 0, none⟩) :: .int .i64 m.k :: V8.l qz19 (uz16 :: .bool bz18 :: U64g1 (U8g1 (undef :: undef :: [])))) ∧ bz18 = (bz17 || (m.e != n.e)) ∧ St w (fun _ => False) w_ ([blk g8 [.int .i64 n.k, .int .u32 n.e, .int .u64 n.s, .int .u32 n.te, .int .u32 n.ts, .int .u32 n.be, .int .u32 n.bs, .int .i64 n.ix, .int .i64 n.tt, .int .u32 n.tk, .slice A2 n.its.length c2, .slice B2 n.hvs.length d2] 33, blk g5 [.int .i64 m.k, .int .u32 m.e, .int .u64 m.s, .int .u32 m.te, .int .u32 m.ts, .int .u32 m.be, .int .u32 m.bs, .int .i64 m.ix, .int .i64 m.tt, .int .u32 m.tk, .slice A m.its.length c, .slice B m.hvs.length d] 33])) (fun T20 => ?_) ?_
    · cases bz17
      · skip
        refine p_on rfl (by rw [hops15]; rfl) ?_
        refine p_run _ (x_field (j := 1) _ _ rfl rfl Try.underlying33 rfl (by rfl) rfl) rfl ?_
        refine p_on rfl (by rw [hops15]; rfl) ?_
        refine p_run _ (x_load (.int .u32 m.e) rfl rfl (bkCell (HS.get (.tail _ (.head _))) 1 _ rfl) (by rfl)) rfl ?_
        refine p_on rfl (by rw [hops15]; rfl) ?_
        refine p_run _ (x_field (j := 1) _ _ rfl rfl Try.underlying33 rfl (by rfl) rfl) rfl ?_
        refine p_on rfl (by rw [hops15]; rfl) ?_
        refine p_run _ (x_load (.int .u32 n.e) rfl rfl (bkCell (HS.get (.head _)) 1 _ rfl) (by rfl)) rfl ?_
        refine p_on rfl (by rw [hops15]; rfl) ?_
        refine p_run _ (x_cmp (k := .u32) (m := m.e) (n := n.e) .neq (m.e != n.e) rfl rfl rfl rfl rfl) rfl ?_
        refine p_run _ (x_pick false (.bool true) (.bool (m.e != n.e)) (.bool (m.e != n.e)) rfl rfl rfl rfl rfl) rfl ?_
        exact T20 _ _ ⟨(.bool (m.e != n.e)), ⟨.pointer (some ⟨g8, 0, none⟩), .int .i64 n.k, .bool false, .bool false, .pointer (some ⟨g5, 1, none⟩), .int .u32 m.e, .pointer (some ⟨g8, 1, none⟩), .int .u32 n.e⟩, (m.e != n.e), rfl, rfl, HS⟩
      · skip
        refine p_off (by rw [hops15]; rfl) rfl ?_
        refine p_off (by rw [hops15]; rfl) rfl ?_
        refine p_off (by rw [hops15]; rfl) rfl ?_
        refine p_off (by rw [hops15]; rfl) rfl ?_
        refine p_off (by rw [hops15]; rfl) rfl ?_
        refine p_run _ (x_pick true (.bool true) (undef) (.bool true) rfl rfl rfl rfl rfl) rfl ?_
        exact T20 _ _ ⟨undef, ⟨.pointer (some ⟨g8, 0, none⟩), .int .i64 n.k, .bool true, .bool true, undef, undef, undef, undef⟩, true, rfl, rfl, HS⟩
    clear HS
    rintro _ w_ ⟨uz16, qz19, bz18, rfl, hbz18, HS⟩
    skip
    refine p_run _ (x_move (.bool bz18) rfl rfl) rfl ?_
    refine p_tail 6 (fun a_ w_ => ∃ (qz23 : V8) (bz22 : Bool), a_ = fr (mgV m A c B d :: mgV n A2 c2 B2 d2 :: .pointer (some ⟨g5, 0, none⟩) :: .pointer (some ⟨g8, 0, none⟩) :: .bool false :: undef :: .pointer (some ⟨g5, 0, none⟩) :: .int .i64 m.k :: V8.l qz19 (V8.l qz23 (.bool bz22 :: U64g1 (undef :: undef :: undef :: [])))) ∧ bz22 = (bz18 || (m.s != n.s)) ∧ St w (fun _ => False) w_ ([blk g8 [.int .i64 n.k, .int .u32 n.e, .int .u64 n.s, .int .u32 n.te, .int .u32 n.ts, .int .u32 n.be, .int .u32 n.bs, .int .i64 n.ix, .int .i64 n.tt, .int .u32 n.tk, .slice A2 n.its.length c2, .slice B2 n.hvs.length d2] 33, blk g5 [.int .i64 m.k, .int .u32 m.e, .int .u64 m.s, .int .u32 m.te, .int .u32 m.ts, .int .u32 m.be, .int .u32 m.bs, .int .i64 m.ix, .int .i64 m.tt, .int .u32 m.tk, .slice A m.its.length c, .slice B m.hvs.length d] 33])) (fun T24 => ?_) ?_
    · cases bz18
      · skip
        refine p_on rfl (by rw [hops15]; rfl) ?_
        refine p_run _ (x_field (j := 2) _ _ rfl rfl Try.underlying33 rfl (by rfl) rfl) rfl ?_
        refine p_on rfl (by rw [hops15]; rfl) ?_
        refine p_run _ (x_load (.int .u64 m.s) rfl rfl (bkCell (HS.get (.tail _ (.head _))) 2 _ rfl) (by rfl)) rfl ?_
        refine p_on rfl (by rw [hops15]; rfl) ?_
        refine p_run _ (x_field (j := 2) _ _ rfl rfl Try.underlying33 rfl (by rfl) rfl) rfl ?_
        refine p_on rfl (by rw [hops15]; rfl) ?_
        refine p_run _ (x_load (.int .u64 n.s) rfl rfl (bkCell (HS.get (.head _)) 2 _ rfl) (by rfl)) rfl ?_
        refine p_on rfl (by rw [hops15]; rfl) ?_
        refine p_run _ (x_cmp (k := .u64) (m := m.s) (n := n.s) .neq (m.s != n.s) rfl rfl rfl rfl rfl) rfl ?_
        refine p_run _ (x_pick false (.bool true) (.bool (m.s != n.s)) (.bool (m.s != n.s)) rfl rfl rfl rfl rfl) rfl ?_
        exact T24 _ _ ⟨⟨uz16, .bool false, .bool false, .pointer (some ⟨g5, 2, none⟩), .int .u64 m.s, .pointer (some ⟨g8, 2, none⟩), .int .u64 n.s, .bool (m.s != n.s)⟩, (m.s != n.s), rfl, rfl, HS⟩
      · skip
        refine p_off (by rw [hops15]; rfl) rfl ?_
        refine p_off (by rw [hops15]; rfl) rfl ?_
        refine p_off (by rw [hops15]; rfl) rfl ?_
        refine p_off (by rw [hops15]; rfl) rfl ?_
        refine p_off (by rw [hops15]; rfl) rfl ?_
        refine p_run _ (x_pick true (.bool true) (undef) (.bool true) rfl rfl rfl rfl rfl) rfl ?_
        exact T24 _ _ ⟨⟨uz16, .bool true, .bool true, undef, undef, undef, undef, undef⟩, true, rfl, rfl, HS⟩
    clear HS
    rintro _ w_ ⟨qz23, bz22, rfl, hbz22, HS⟩
    skip
    refine p_run _ (x_move (.bool bz22) rfl rfl) rfl ?_
    refine p_tail 6 (fun a_ w_ => ∃ (uz26 uz27 uz28 uz29 uz30 : Value) (bz26 : Bool), a_ = fr (mgV m A c B d :: mgV n A2 c2 B2 d2 :: .pointer (some ⟨g5, 0, none⟩) :: .pointer (some ⟨g8, 0, none⟩) :: .bool false :: undef :: .pointer (some ⟨g5, 0, none⟩) :: .int .i64 m.k :: V8.l qz19 (V8.l qz23 (.bool bz22 :: .bool bz22 :: uz26 :: uz27 :: uz28 :: uz29 :: uz30 :: .bool bz26 :: U32g1 (U16g1 (U8g1 (U4g1 ([]))))))) ∧ bz26 = (bz22 || (!(decide (m.te = n.te ∧ m.ts = n.ts)))) ∧ St w (fun _ => False) w_ ([blk g8 [.int .i64 n.k, .int .u32 n.e, .int .u64 n.s, .int .u32 n.te, .int .u32 n.ts, .int .u32 n.be, .int .u32 n.bs, .int .i64 n.ix, .int .i64 n.tt, .int .u32 n.tk, .slice A2 n.its.length c2, .slice B2 n.hvs.length d2] 33, blk g5 [.int .i64 m.k, .int .u32 m.e, .int .u64 m.s, .int .u32 m.te, .int .u32 m.ts, .int .u32 m.be, .int .u32 m.bs, .int .i64 m.ix, .int .i64 m.tt, .int .u32 m.tk, .slice A m.its.length c, .slice B m.hvs.length d] 33])) (fun T27 => ?_) ?_
    · cases bz22
      · skip
        refine p_on rfl (by rw [hops15]; rfl) ?_
        refine p_run _ (x_field (j := 3) _ _ rfl rfl Try.underlying33 rfl (by rfl) rfl) rfl ?_
        refine p_on rfl (by rw [hops15]; rfl) ?_
        refine p_run _ (x_loads [.int .u32 m.te, .int .u32 m.ts] 2 rfl rfl (bkCells (HS.get (.tail _ (.head _))) 3 _ rfl) (by rfl) (by kernel_rfl) rfl) rfl ?_
        refine p_on rfl (by rw [hops15]; rfl) ?_
        refine p_run _ (x_field (j := 3) _ _ rfl rfl Try.underlying33 rfl (by rfl) rfl) rfl ?_
        refine p_on rfl (by rw [hops15]; rfl) ?_
        refine p_run _ (x_loads [.int .u32 n.te, .int .u32 n.ts] 2 rfl rfl (bkCells (HS.get (.head _)) 3 _ rfl) (by rfl) (by kernel_rfl) rfl) rfl ?_
        refine p_on rfl (by rw [hops15]; rfl) ?_
        refine p_run _ (x_eq .neq (.agg ([.int .u32 m.te, .int .u32 m.ts] : List Value).toArray) (.agg ([.int .u32 n.te, .int .u32 n.ts] : List Value).toArray) (decide (m.te = n.te ∧ m.ts = n.ts)) (!(decide (m.te = n.te ∧ m.ts = n.ts))) rfl rfl rfl (equal_lb _ _ _ _ _) rfl rfl (guard_agg (by kernel_rfl)) (guard_agg (by kernel_rfl))) rfl ?_
        refine p_run _ (x_pick false (.bool true) (.bool (!(decide (m.te = n.te ∧ m.ts = n.ts)))) (.bool (!(decide (m.te = n.te ∧ m.ts = n.ts)))) rfl rfl rfl rfl rfl) rfl ?_
        exact T27 _ _ ⟨(.pointer (some ⟨g5, 3, none⟩)), (.agg ([.int .u32 m.te, .int .u32 m.ts] : List Value).toArray), (.pointer (some ⟨g8, 3, none⟩)), (.agg ([.int .u32 n.te, .int .u32 n.ts] : List Value).toArray), (.bool (!(decide (m.te = n.te ∧ m.ts = n.ts)))), (!(decide (m.te = n.te ∧ m.ts = n.ts))), rfl, rfl, HS⟩
      · skip
        refine p_off (by rw [hops15]; rfl) rfl ?_
        refine p_off (by rw [hops15]; rfl) rfl ?_
        refine p_off (by rw [hops15]; rfl) rfl ?_
        refine p_off (by rw [hops15]; rfl) rfl ?_
        refine p_off (by rw [hops15]; rfl) rfl ?_
        refine p_run _ (x_pick true (.bool true) (undef) (.bool true) rfl rfl rfl rfl rfl) rfl ?_
        exact T27 _ _ ⟨undef, undef, undef, undef, undef, true, rfl, rfl, HS⟩
    clear HS
    rintro _ w_ ⟨uz26, uz27, uz28, uz29, uz30, bz26, rfl, hbz26, HS⟩
    skip
    refine p_run _ (x_move (.bool bz26) rfl rfl) rfl ?_
    refine p_tail 6 (fun a_ w_ => ∃ (uz33 uz34 uz35 uz36 uz37 : Value) (qz30 : V8) (bz29 : Bool), a_ = fr (mgV m A c B d :: mgV n A2 c2 B2 d2 :: .pointer (some ⟨g5, 0, none⟩) :: .pointer (some ⟨g8, 0, none⟩) :: .bool false :: undef :: .pointer (some ⟨g5, 0, none⟩) :: .int .i64 m.k :: V8.l qz19 (V8.l qz23 (V8.l qz30 (.bool bz26 :: uz33 :: uz34 :: uz35 :: uz36 :: uz37 :: .bool bz29 :: U32g1 (U16g1 (U4g1 (undef :: []))))))) ∧ bz29 = (bz26 || (!(decide (m.be = n.be ∧ m.bs = n.bs)))) ∧ St w (fun _ => False) w_ ([blk g8 [.int .i64 n.k, .int .u32 n.e, .int .u64 n.s, .int .u32 n.te, .int .u32 n.ts, .int .u32 n.be, .int .u32 n.bs, .int .i64 n.ix, .int .i64 n.tt, .int .u32 n.tk, .slice A2 n.its.length c2, .slice B2 n.hvs.length d2] 33, blk g5 [.int .i64 m.k, .int .u32 m.e, .int .u64 m.s, .int .u32 m.te, .int .u32 m.ts, .int .u32 m.be, .int .u32 m.bs, .int .i64 m.ix, .int .i64 m.tt, .int .u32 m.tk, .slice A m.its.length c, .slice B m.hvs.length d] 33])) (fun T31 => ?_) ?_
    · cases bz26
      · skip
        refine p_on rfl (by rw [hops15]; rfl) ?_
        refine p_run _ (x_field (j := 5) _ _ rfl rfl Try.underlying33 rfl (by rfl) rfl) rfl ?_
        refine p_on rfl (by rw [hops15]; rfl) ?_
        refine p_run _ (x_loads [.int .u32 m.be, .int .u32 m.bs] 2 rfl rfl (bkCells (HS.get (.tail _ (.head _))) 5 _ rfl) (by rfl) (by kernel_rfl) rfl) rfl ?_
        refine p_on rfl (by rw [hops15]; rfl) ?_
        refine p_run _ (x_field (j := 5) _ _ rfl rfl Try.underlying33 rfl (by rfl) rfl) rfl ?_
        refine p_on rfl (by rw [hops15]; rfl) ?_
        refine p_run _ (x_loads [.int .u32 n.be, .int .u32 n.bs] 2 rfl rfl (bkCells (HS.get (.head _)) 5 _ rfl) (by rfl) (by kernel_rfl) rfl) rfl ?_
        refine p_on rfl (by rw [hops15]; rfl) ?_
        refine p_run _ (x_eq .neq (.agg ([.int .u32 m.be, .int .u32 m.bs] : List Value).toArray) (.agg ([.int .u32 n.be, .int .u32 n.bs] : List Value).toArray) (decide (m.be = n.be ∧ m.bs = n.bs)) (!(decide (m.be = n.be ∧ m.bs = n.bs))) rfl rfl rfl (equal_lb _ _ _ _ _) rfl rfl (guard_agg (by kernel_rfl)) (guard_agg (by kernel_rfl))) rfl ?_
        refine p_run _ (x_pick false (.bool true) (.bool (!(decide (m.be = n.be ∧ m.bs = n.bs)))) (.bool (!(decide (m.be = n.be ∧ m.bs = n.bs)))) rfl rfl rfl rfl rfl) rfl ?_
        exact T31 _ _ ⟨(.pointer (some ⟨g5, 5, none⟩)), (.agg ([.int .u32 m.be, .int .u32 m.bs] : List Value).toArray), (.pointer (some ⟨g8, 5, none⟩)), (.agg ([.int .u32 n.be, .int .u32 n.bs] : List Value).toArray), (.bool (!(decide (m.be = n.be ∧ m.bs = n.bs)))), ⟨.bool bz22, .bool bz22, uz26, uz27, uz28, uz29, uz30, .bool false⟩, (!(decide (m.be = n.be ∧ m.bs = n.bs))), rfl, rfl, HS⟩
      · skip
        refine p_off (by rw [hops15]; rfl) rfl ?_
        refine p_off (by rw [hops15]; rfl) rfl ?_
        refine p_off (by rw [hops15]; rfl) rfl ?_
        refine p_off (by rw [hops15]; rfl) rfl ?_
        refine p_off (by rw [hops15]; rfl) rfl ?_
        refine p_run _ (x_pick true (.bool true) (undef) (.bool true) rfl rfl rfl rfl rfl) rfl ?_
        exact T31 _ _ ⟨undef, undef, undef, undef, undef, ⟨.bool bz22, .bool bz22, uz26, uz27, uz28, uz29, uz30, .bool true⟩, true, rfl, rfl, HS⟩
    clear HS
    rintro _ w_ ⟨uz33, uz34, uz35, uz36, uz37, qz30, bz29, rfl, hbz29, HS⟩
    skip
    refine p_run _ (x_move (.bool bz29) rfl rfl) rfl ?_
    refine p_tail 6 (fun a_ w_ => ∃ (uz40 uz41 uz42 uz43 uz44 : Value) (qz34 : V8) (bz33 : Bool), a_ = fr (mgV m A c B d :: mgV n A2 c2 B2 d2 :: .pointer (some ⟨g5, 0, none⟩) :: .pointer (some ⟨g8, 0, none⟩) :: .bool false :: undef :: .pointer (some ⟨g5, 0, none⟩) :: .int .i64 m.k :: V8.l qz19 (V8.l qz23 (V8.l qz30 (V8.l qz34 (uz40 :: uz41 :: uz42 :: uz43 :: uz44 :: .bool bz33 :: U32g1 (U8g1 (U4g1 (undef :: undef :: [])))))))) ∧ bz33 = (bz29 || (m.ix != n.ix)) ∧ St w (fun _ => False) w_ ([blk g8 [.int .i64 n.k, .int .u32 n.e, .int .u64 n.s, .int .u32 n.te, .int .u32 n.ts, .int .u32 n.be, .int .u32 n.bs, .int .i64 n.ix, .int .i64 n.tt, .int .u32 n.tk, .slice A2 n.its.length c2, .slice B2 n.hvs.length d2] 33, blk g5 [.int .i64 m.k, .int .u32 m.e, .int .u64 m.s, .int .u32 m.te, .int .u32 m.ts, .int .u32 m.be, .int .u32 m.bs, .int .i64 m.ix, .int .i64 m.tt, .int .u32 m.tk, .slice A m.its.length c, .slice B m.hvs.length d] 33])) (fun T35 => ?_) ?_
    · cases bz29
      · skip
        refine p_on rfl (by rw [hops15]; rfl) ?_
        refine p_run _ (x_field (j := 7) _ _ rfl rfl Try.underlying33 rfl (by rfl) rfl) rfl ?_
        refine p_on rfl (by rw [hops15]; rfl) ?_
        refine p_run _ (x_load (.int .i64 m.ix) rfl rfl (bkCell (HS.get (.tail _ (.head _))) 7 _ rfl) (by rfl)) rfl ?_
        refine p_on rfl (by rw [hops15]; rfl) ?_
        refine p_run _ (x_field (j := 7) _ _ rfl rfl Try.underlying33 rfl (by rfl) rfl) rfl ?_
        refine p_on rfl (by rw [hops15]; rfl) ?_
        refine p_run _ (x_load (.int .i64 n.ix) rfl rfl (bkCell (HS.get (.head _)) 7 _ rfl) (by rfl)) rfl ?_
        refine p_on rfl (by rw [hops15]; rfl) ?_
        refine p_run _ (x_cmp (k := .i64) (m := m.ix) (n := n.ix) .neq (m.ix != n.ix) rfl rfl rfl rfl rfl) rfl ?_
        refine p_run _ (x_pick false (.bool true) (.bool (m.ix != n.ix)) (.bool (m.ix != n.ix)) rfl rfl rfl rfl rfl) rfl ?_
        exact T35 _ _ ⟨(.pointer (some ⟨g5, 7, none⟩)), (.int .i64 m.ix), (.pointer (some ⟨g8, 7, none⟩)), (.int .i64 n.ix), (.bool (m.ix != n.ix)), ⟨.bool bz26, uz33, uz34, uz35, uz36, uz37, .bool false, .bool false⟩, (m.ix != n.ix), rfl, rfl, HS⟩
      · skip
        refine p_off (by rw [hops15]; rfl) rfl ?_
        refine p_off (by rw [hops15]; rfl) rfl ?_
        refine p_off (by rw [hops15]; rfl) rfl ?_
        refine p_off (by rw [hops15]; rfl) rfl ?_
        refine p_off (by rw [hops15]; rfl) rfl ?_
        refine p_run _ (x_pick true (.bool true) (undef) (.bool true) rfl rfl rfl rfl rfl) rfl ?_
        exact T35 _ _ ⟨undef, undef, undef, undef, undef, ⟨.bool bz26, uz33, uz34, uz35, uz36, uz37, .bool true, .bool true⟩, true, rfl, rfl, HS⟩
    clear HS
    rintro _ w_ ⟨uz40, uz41, uz42, uz43, uz44, qz34, bz33, rfl, hbz33, HS⟩
    skip
    refine p_run _ (x_move (.bool bz33) rfl rfl) rfl ?_
    refine p_tail 6 (fun a_ w_ => ∃ (uz48 uz49 uz50 uz51 : Value) (qz38 : V8) (bz37 : Bool), a_ = fr (mgV m A c B d :: mgV n A2 c2 B2 d2 :: .pointer (some ⟨g5, 0, none⟩) :: .pointer (some ⟨g8, 0, none⟩) :: .bool false :: undef :: .pointer (some ⟨g5, 0, none⟩) :: .int .i64 m.k :: V8.l qz19 (V8.l qz23 (V8.l qz30 (V8.l qz34 (V8.l qz38 (uz48 :: uz49 :: uz50 :: uz51 :: .bool bz37 :: U32g1 (U4g1 (undef :: undef :: undef :: [])))))))) ∧ bz37 = (bz33 || (m.tt != n.tt)) ∧ St w (fun _ => False) w_ ([blk g8 [.int .i64 n.k, .int .u32 n.e, .int .u64 n.s, .int .u32 n.te, .int .u32 n.ts, .int .u32 n.be, .int .u32 n.bs, .int .i64 n.ix, .int .i64 n.tt, .int .u32 n.tk, .slice A2 n.its.length c2, .slice B2 n.hvs.length d2] 33, blk g5 [.int .i64 m.k, .int .u32 m.e, .int .u64 m.s, .int .u32 m.te, .int .u32 m.ts, .int .u32 m.be, .int .u32 m.bs, .int .i64 m.ix, .int .i64 m.tt, .int .u32 m.tk, .slice A m.its.length c, .slice B m.hvs.length d] 33])) (fun T39 => ?_) ?_
    · cases bz33
      · skip
        refine p_on rfl (by rw [hops15]; rfl) ?_
        refine p_run _ (x_field (j := 8) _ _ rfl rfl Try.underlying33 rfl (by rfl) rfl) rfl ?_
        refine p_on rfl (by rw [hops15]; rfl) ?_
        refine p_run _ (x_load (.int .i64 m.tt) rfl rfl (bkCell (HS.get (.tail _ (.head _))) 8 _ rfl) (by rfl)) rfl ?_
        refine p_on rfl (by rw [hops15]; rfl) ?_
        refine p_run _ (x_field (j := 8) _ _ rfl rfl Try.underlying33 rfl (by rfl) rfl) rfl ?_
        refine p_on rfl (by rw [hops15]; rfl) ?_
        refine p_run _ (x_load (.int .i64 n.tt) rfl rfl (bkCell (HS.get (.head _)) 8 _ rfl) (by rfl)) rfl ?_
        refine p_on rfl (by rw [hops15]; rfl) ?_
        refine p_run _ (x_cmp (k := .i64) (m := m.tt) (n := n.tt) .neq (m.tt != n.tt) rfl rfl rfl rfl rfl) rfl ?_
        refine p_run _ (x_pick false (.bool true) (.bool (m.tt != n.tt)) (.bool (m.tt != n.tt)) rfl rfl rfl rfl rfl) rfl ?_
        exact T39 _ _ ⟨(.int .i64 m.tt), (.pointer (some ⟨g8, 8, none⟩)), (.int .i64 n.tt), (.bool (m.tt != n.tt)), ⟨uz40, uz41, uz42, uz43, uz44, .bool false, .bool false, .pointer (some ⟨g5, 8, none⟩)⟩, (m.tt != n.tt), rfl, rfl, HS⟩
      · skip
        refine p_off (by rw [hops15]; rfl) rfl ?_
        refine p_off (by rw [hops15]; rfl) rfl ?_
        refine p_off (by rw [hops15]; rfl) rfl ?_
        refine p_off (by rw [hops15]; rfl) rfl ?_
        refine p_off (by rw [hops15]; rfl) rfl ?_
        refine p_run _ (x_pick true (.bool true) (undef) (.bool true) rfl rfl rfl rfl rfl) rfl ?_
        exact T39 _ _ ⟨undef, undef, undef, undef, ⟨uz40, uz41, uz42, uz43, uz44, .bool true, .bool true, undef⟩, true, rfl, rfl, HS⟩
    clear HS
    rintro _ w_ ⟨uz48, uz49, uz50, uz51, qz38, bz37, rfl, hbz37, HS⟩
    skip
    refine p_run _ (x_move (.bool bz37) rfl rfl) rfl ?_
    refine p_tail 6 (fun a_ w_ => ∃ (uz56 uz57 uz58 : Value) (qz42 : V8) (bz41 : Bool), a_ = fr (mgV m A c B d :: mgV n A2 c2 B2 d2 :: .pointer (some ⟨g5, 0, none⟩) :: .pointer (some ⟨g8, 0, none⟩) :: .bool false :: undef :: .pointer (some ⟨g5, 0, none⟩) :: .int .i64 m.k :: V8.l qz19 (V8.l qz23 (V8.l qz30 (V8.l qz34 (V8.l qz38 (V8.l qz42 (uz56 :: uz57 :: uz58 :: .bool bz41 :: U32g1 ([])))))))) ∧ bz41 = (bz37 || (m.tk != n.tk)) ∧ St w (fun _ => False) w_ ([blk g8 [.int .i64 n.k, .int .u32 n.e, .int .u64 n.s, .int .u32 n.te, .int .u32 n.ts, .int .u32 n.be, .int .u32 n.bs, .int .i64 n.ix, .int .i64 n.tt, .int .u32 n.tk, .slice A2 n.its.length c2, .slice B2 n.hvs.length d2] 33, blk g5 [.int .i64 m.k, .int .u32 m.e, .int .u64 m.s, .int .u32 m.te, .int .u32 m.ts, .int .u32 m.be, .int .u32 m.bs, .int .i64 m.ix, .int .i64 m.tt, .int .u32 m.tk, .slice A m.its.length c, .slice B m.hvs.length d] 33])) (fun T43 => ?_) ?_
    · cases bz37
      · skip
        refine p_on rfl (by rw [hops15]; rfl) ?_
        refine p_run _ (x_field (j := 9) _ _ rfl rfl Try.underlying33 rfl (by rfl) rfl) rfl ?_
        refine p_on rfl (by rw [hops15]; rfl) ?_
        refine p_run _ (x_load (.int .u32 m.tk) rfl rfl (bkCell (HS.get (.tail _ (.head _))) 9 _ rfl) (by rfl)) rfl ?_
        refine p_on rfl (by rw [hops15]; rfl) ?_
        refine p_run _ (x_field (j := 9) _ _ rfl rfl Try.underlying33 rfl (by rfl) rfl) rfl ?_
        refine p_on rfl (by rw [hops15]; rfl) ?_
        refine p_run _ (x_load (.int .u32 n.tk) rfl rfl (bkCell (HS.get (.head _)) 9 _ rfl) (by rfl)) rfl ?_
        refine p_on rfl (by rw [hops15]; rfl) ?_
        refine p_run _ (x_cmp (k := .u32) (m := m.tk) (n := n.tk) .neq (m.tk != n.tk) rfl rfl rfl rfl rfl) rfl ?_
        refine p_run _ (x_pick false (.bool true) (.bool (m.tk != n.tk)) (.bool (m.tk != n.tk)) rfl rfl rfl rfl rfl) rfl ?_
        exact T43 _ _ ⟨(.pointer (some ⟨g8, 9, none⟩)), (.int .u32 n.tk), (.bool (m.tk != n.tk)), ⟨uz48, uz49, uz50, uz51, .bool false, .bool false, .pointer (some ⟨g5, 9, none⟩), .int .u32 m.tk⟩, (m.tk != n.tk), rfl, rfl, HS⟩
      · skip
        refine p_off (by rw [hops15]; rfl) rfl ?_
        refine p_off (by rw [hops15]; rfl) rfl ?_
        refine p_off (by rw [hops15]; rfl) rfl ?_
        refine p_off (by rw [hops15]; rfl) rfl ?_
        refine p_off (by rw [hops15]; rfl) rfl ?_
        refine p_run _ (x_pick true (.bool true) (undef) (.bool true) rfl rfl rfl rfl rfl) rfl ?_
        exact T43 _ _ ⟨undef, undef, undef, ⟨uz48, uz49, uz50, uz51, .bool true, .bool true, undef, undef⟩, true, rfl, rfl, HS⟩
    clear HS
    rintro _ w_ ⟨uz56, uz57, uz58, qz42, bz41, rfl, hbz41, HS⟩
    skip
    refine p_run _ (x_move (.bool bz41) rfl rfl) rfl ?_
    refine p_tail 8 (fun a_ w_ => ∃ (uz64 uz65 uz66 uz67 : Value) (qz46 : V8) (bz45 : Bool), a_ = fr (mgV m A c B d :: mgV n A2 c2 B2 d2 :: .pointer (some ⟨g5, 0, none⟩) :: .pointer (some ⟨g8, 0, none⟩) :: .bool false :: undef :: .pointer (some ⟨g5, 0, none⟩) :: .int .i64 m.k :: V8.l qz19 (V8.l qz23 (V8.l qz30 (V8.l qz34 (V8.l qz38 (V8.l qz42 (V8.l qz46 (uz64 :: uz65 :: uz66 :: uz67 :: .bool bz45 :: U16g1 (U4g1 (undef :: undef :: undef :: [])))))))))) ∧ bz45 = (bz41 || ((m.hvs.length : Int) != (n.hvs.length : Int))) ∧ St w (fun _ => False) w_ ([blk g8 [.int .i64 n.k, .int .u32 n.e, .int .u64 n.s, .int .u32 n.te, .int .u32 n.ts, .int .u32 n.be, .int .u32 n.bs, .int .i64 n.ix, .int .i64 n.tt, .int .u32 n.tk, .slice A2 n.its.length c2, .slice B2 n.hvs.length d2] 33, blk g5 [.int .i64 m.k, .int .u32 m.e, .int .u64 m.s, .int .u32 m.te, .int .u32 m.ts, .int .u32 m.be, .int .u32 m.bs, .int .i64 m.ix, .int .i64 m.tt, .int .u32 m.tk, .slice A m.its.length c, .slice B m.hvs.length d] 33])) (fun T47 => ?_) ?_
    · cases bz41
      · skip
        refine p_on rfl (by rw [hops15]; rfl) ?_
        refine p_run _ (x_field (j := 11) _ _ rfl rfl Try.underlying33 rfl (by rfl) rfl) rfl ?_
        refine p_on rfl (by rw [hops15]; rfl) ?_
        refine p_run _ (x_load (.slice B m.hvs.length d) rfl rfl (bkCell (HS.get (.tail _ (.head _))) 11 _ rfl) (by rfl)) rfl ?_
        refine p_on rfl (by rw [hops15]; rfl) ?_
        refine p_run _ (x_len rfl rfl Try.underlying31) rfl ?_
        refine p_on rfl (by rw [hops15]; rfl) ?_
        refine p_run _ (x_field (j := 11) _ _ rfl rfl Try.underlying33 rfl (by rfl) rfl) rfl ?_
        refine p_on rfl (by rw [hops15]; rfl) ?_
        refine p_run _ (x_load (.slice B2 n.hvs.length d2) rfl rfl (bkCell (HS.get (.head _)) 11 _ rfl) (by rfl)) rfl ?_
        refine p_on rfl (by rw [hops15]; rfl) ?_
        refine p_run _ (x_len rfl rfl Try.underlying31) rfl ?_
        refine p_on rfl (by rw [hops15]; rfl) ?_
        refine p_run (l' := (mgV m A c B d :: mgV n A2 c2 B2 d2 :: .pointer (some ⟨g5, 0, none⟩) :: .pointer (some ⟨g8, 0, none⟩) :: .bool false :: undef :: .pointer (some ⟨g5, 0, none⟩) :: .int .i64 m.k :: V8.l qz19 (V8.l qz23 (V8.l qz30 (V8.l qz34 (V8.l qz38 (V8.l qz42 (uz56 :: uz57 :: uz58 :: .bool false :: .bool false :: .pointer (some ⟨g5, 11, none⟩) :: .slice B m.hvs.length d :: .int .i64 (m.hvs.length : Int) :: .pointer (some ⟨g8, 11, none⟩) :: .slice B2 n.hvs.length d2 :: .int .i64 (n.hvs.length : Int) :: .bool ((m.hvs.length : Int) != (n.hvs.length : Int)) :: U16g1 (U8g1 ([])))))))))) _ (x_cmp (k := .i64) (m := (m.hvs.length : Int)) (n := (n.hvs.length : Int)) .neq ((m.hvs.length : Int) != (n.hvs.length : Int)) rfl rfl rfl rfl rfl) rfl ?_
        refine p_run _ (x_pick false (.bool true) (.bool ((m.hvs.length : Int) != (n.hvs.length : Int))) (.bool ((m.hvs.length : Int) != (n.hvs.length : Int))) rfl rfl rfl rfl rfl) rfl ?_
        exact T47 _ _ ⟨(.pointer (some ⟨g8, 11, none⟩)), (.slice B2 n.hvs.length d2), (.int .i64 (n.hvs.length : Int)), (.bool ((m.hvs.length : Int) != (n.hvs.length : Int))), ⟨uz56, uz57, uz58, .bool false, .bool false, .pointer (some ⟨g5, 11, none⟩), .slice B m.hvs.length d, .int .i64 (m.hvs.length : Int)⟩, ((m.hvs.length : Int) != (n.hvs.length : Int)), rfl, rfl, HS⟩
      · skip
        refine p_off (by rw [hops15]; rfl) rfl ?_
        refine p_off (by rw [hops15]; rfl) rfl ?_
        refine p_off (by rw [hops15]; rfl) rfl ?_
        refine p_off (by rw [hops15]; rfl) rfl ?_
        refine p_off (by rw [hops15]; rfl) rfl ?_
        refine p_off (by rw [hops15]; rfl) rfl ?_
        refine p_off (l' := (mgV m A c B d :: mgV n A2 c2 B2 d2 :: .pointer (some ⟨g5, 0, none⟩) :: .pointer (some ⟨g8, 0, none⟩) :: .bool false :: undef :: .pointer (some ⟨g5, 0, none⟩) :: .int .i64 m.k :: V8.l qz19 (V8.l qz23 (V8.l qz30 (V8.l qz34 (V8.l qz38 (V8.l qz42 (uz56 :: uz57 :: uz58 :: .bool true :: .bool true :: U16g1 (U8g1 (U4g1 (undef :: undef :: undef :: []))))))))))) (by rw [hops15]; rfl) rfl ?_
        refine p_run _ (x_pick true (.bool true) (undef) (.bool true) rfl rfl rfl rfl rfl) rfl ?_
        exact T47 _ _ ⟨undef, undef, undef, undef, ⟨uz56, uz57, uz58, .bool true, .bool true, undef, undef, undef⟩, true, rfl, rfl, HS⟩
    clear HS
    rintro _ w_ ⟨uz64, uz65, uz66, uz67, qz46, bz45, rfl, hbz45, HS⟩
    skip
    clear hops15
    refine wpList_nil ?_
    refine hK14 _ _ ?_
    refine c_cond (t := bz45) rfl (fun hc49 => ?_) (fun hc49 => ?_)
    · rw [hbz45, hbz41, hbz37, hbz33, hbz29, hbz26, hbz22, hbz18, hbz17] at hc49
      have hno : smB m n = false := sm_no (fun h => by subst h; simp at hc49)
      refine wp_seq_k (fun K50 hK51 => ?_)
      refine c_region (fun ops53 hops52 => ?_)
      clear hops52
      refine p_run _ (x_assign (.bool false) rfl rfl) rfl ?_
      refine wpList_nil ?_
      refine hK51 _ _ ?_
      refine wp_ret ?_
      try simp only [Exit.inBlock, Exit.then]
      refine c_ret (.bool false) (r_tmp rfl rfl) ?_
      rw [hno]
      exact ⟨rfl, HS.belowOf⟩
    · rw [hbz45, hbz41, hbz37, hbz33, hbz29, hbz26, hbz22, hbz18, hbz17] at hc49
      simp only [Bool.or_eq_false_iff, bne_eq_false_iff_eq, Bool.not_eq_eq_eq_not, Bool.not_false, decide_eq_true_eq] at hc49
      have bd := hc49
      clear hc49
      have hln : m.hvs.length = n.hvs.length := by omega
      refine wp_skip ?_
      refine hK12 _ _ ?_
      refine wp_seq_k (fun K54 hK55 => ?_)
      refine wp_seq_k (fun K56 hK57 => ?_)
      refine c_region (fun ops59 hops58 => ?_)
      clear hops58
      refine p_run _ (x_field (j := 11) _ _ rfl rfl Try.underlying33 rfl (by rfl) rfl) rfl ?_
      refine p_run _ (x_load (.slice B m.hvs.length d) rfl rfl (bkCell (HS.get (.tail _ (.head _))) 11 _ rfl) (by rfl)) rfl ?_
      refine p_run _ (x_len rfl rfl Try.underlying31) rfl ?_
      refine p_run _ (x_move (.int .i64 0) rfl rfl) rfl ?_
      refine wpList_nil ?_
      refine fr_at (l' := (mgV m A c B d :: mgV n A2 c2 B2 d2 :: .pointer (some ⟨g5, 0, none⟩) :: .pointer (some ⟨g8, 0, none⟩) :: .bool false :: undef :: .pointer (some ⟨g5, 0, none⟩) :: .int .i64 m.k :: V8.l qz19 (V8.l qz23 (V8.l qz30 (V8.l qz34 (V8.l qz38 (V8.l qz42 (V8.l qz46 (uz64 :: uz65 :: uz66 :: uz67 :: .bool bz45 :: .pointer (some ⟨g5, 11, none⟩) :: .slice B m.hvs.length d :: .int .i64 (m.hvs.length : Int) :: .int .i64 0 :: U16g1 (undef :: undef :: undef :: [])))))))))) rfl ?_
      refine hK57 _ _ ?_
      refine wp_block ?_
      refine c_loop (ι := Nat) (fun i_ a_ w_ => match i_ with | j => ∃ (u4 : Value) (u5 : Value) (u73 : Value) (u74 : Value) (u75 : Value) (u76 : Value) (u77 : Value) (u78 : Value) (u79 : Value) (u80 : Value) (u81 : Value) (u82 : Value) (u83 : Value) (u84 : Value) (u85 : Value) (u86 : Value), a_ = fr (mgV m A c B d :: mgV n A2 c2 B2 d2 :: .pointer (some ⟨g5, 0, none⟩) :: .pointer (some ⟨g8, 0, none⟩) :: u4 :: u5 :: .pointer (some ⟨g5, 0, none⟩) :: .int .i64 m.k :: V8.l qz19 (V8.l qz23 (V8.l qz30 (V8.l qz34 (V8.l qz38 (V8.l qz42 (V8.l qz46 (uz64 :: uz65 :: uz66 :: uz67 :: .bool bz45 :: .pointer (some ⟨g5, 11, none⟩) :: .slice B m.hvs.length d :: .int .i64 (m.hvs.length : Int) :: .int .i64 (j : Int) :: u73 :: u74 :: u75 :: u76 :: u77 :: u78 :: u79 :: u80 :: u81 :: u82 :: u83 :: u84 :: u85 :: u86 :: U4g1 (undef :: []))))))))) ∧ St w (fun _ => False) w_ ([blk g5 [.int .i64 m.k, .int .u32 m.e, .int .u64 m.s, .int .u32 m.te, .int .u32 m.ts, .int .u32 m.be, .int .u32 m.bs, .int .i64 m.ix, .int .i64 m.tt, .int .u32 m.tk, .slice A m.its.length c, .slice B m.hvs.length d] 33, blk g8 [.int .i64 n.k, .int .u32 n.e, .int .u64 n.s, .int .u32 n.te, .int .u32 n.ts, .int .u32 n.be, .int .u32 n.bs, .int .i64 n.ix, .int .i64 n.tt, .int .u32 n.tk, .slice A2 n.its.length c2, .slice B2 n.hvs.length d2] 33]) ∧ (j ≤ m.hvs.length ∧ m.hvs.take j = n.hvs.take j)) (fun i_ => match i_ with | j => m.hvs.length - j) 0 ?_ ?_
      · exact ⟨_, _, _, _, _, _, _, _, _, _, _, _, _, _, _, _, rfl, (HS.front 1 rfl), ⟨by omega, rfl⟩⟩
      · clear HS
        rintro j a_ w62 ⟨u4, u5, u73, u74, u75, u76, u77, u78, u79, u80, u81, u82, u83, u84, u85, u86, rfl, HS, hI⟩ J60 hJ61
        have hjl := hI.1
        refine wp_seq_k (fun K63 hK64 => ?_)
        refine c_region (fun ops66 hops65 => ?_)
        clear hops65
        refine p_run _ (x_cmp (k := .i64) (m := (j : Int)) (n := (m.hvs.length : Int)) .lss (decide ((j : Int) < (m.hvs.length : Int))) rfl rfl rfl rfl rfl) rfl ?_
        refine wpList_nil ?_
        refine hK64 _ _ ?_
        refine wp_seq_k (fun K67 hK68 => ?_)
        refine c_cond (t := decide ((j : Int) < (m.hvs.length : Int))) rfl (fun hc69 => ?_) (fun hc69 => ?_)
        · have hlt : j < m.hvs.length := by have := of_decide_eq_true hc69; omega
          obtain ⟨ad, x, rfl, hx, -⟩ := hv_get (Kd.C_below hB HS.belowOf) j hlt
          obtain ⟨ae, y, rfl, hy, -⟩ := hv_get (Kd.C_below hB2 HS.belowOf) j (by omega)
          refine wp_skip ?_
          refine hK68 _ _ ?_
          refine wp_seq_k (fun K70 hK71 => ?_)
          refine wp_block ?_
          refine wp_seq_k (fun K72 hK73 => ?_)
          refine c_region (fun ops75 hops74 => ?_)
          clear hops74
          refine p_run _ (x_move (.int .i64 (j : Int)) rfl rfl) rfl ?_
          refine p_run _ (x_assign (.int .i64 (j : Int)) rfl rfl) rfl ?_
          refine wpList_nil ?_
          refine hK73 _ _ ?_
          refine wp_seq_k (fun K76 hK77 => ?_)
          by_cases hxy : x = y
          · skip
            refine free_frame (n := 11) (T := _) [0, 1, 0, 7, 15, 0, 32, 0, 224, 480, 1023] [(0, 75), (1, 76), (2, 77), (3, 78), (4, 79), (5, 80), (6, 81), (7, 82), (8, 83), (9, 84), (10, 85)] (fun bq_ vq_ w_ => qv ((fun i_ => match i_ with | 0 => some (.pointer (some ⟨g5, 11, none⟩)) | 1 => some (.slice (some ad) m.hvs.length d) | 2 => some (.int .i64 (j : Int)) | 3 => some (.pointer (some ((ad).add (j * 3)))) | 4 => some (.agg ([.int .u32 x.1, .int .u32 x.2.1, .int .u32 x.2.2] : List Value).toArray) | 5 => some (.pointer (some ⟨g8, 11, none⟩)) | 6 => some (.slice (some ae) n.hvs.length d2) | 7 => some (.int .i64 (j : Int)) | 8 => some (.pointer (some ((ae).add (j * 3)))) | 9 => some (.agg ([.int .u32 y.1, .int .u32 y.2.1, .int .u32 y.2.2] : List Value).toArray) | 10 => some (.bool false) | _ => none) : Nat → Option Value) bq_ vq_ ∧ (St w (fun _ => False) w_ ([blk g5 [.int .i64 m.k, .int .u32 m.e, .int .u64 m.s, .int .u32 m.te, .int .u32 m.ts, .int .u32 m.be, .int .u32 m.bs, .int .i64 m.ix, .int .i64 m.tt, .int .u32 m.tk, .slice A m.its.length c, .slice (some ad) m.hvs.length d] 33, blk g8 [.int .i64 n.k, .int .u32 n.e, .int .u64 n.s, .int .u32 n.te, .int .u32 n.ts, .int .u32 n.be, .int .u32 n.bs, .int .i64 n.ix, .int .i64 n.tt, .int .u32 n.tk, .slice A2 n.its.length c2, .slice (some ae) n.hvs.length d2] 33]))) (by kernel_rfl) rfl rfl (by kernel_rfl) (by kernel_rfl) rfl (by kernel_rfl) (by kernel_rfl) ⟨qv_none, HS.draw⟩ ?_ ?_
            · clear HS
              intro i_ hi_ bq_ vq_ a_ w_ hG hb_ hon hoff hfr hel hval
              obtain ⟨hV, hE⟩ := hG
              have hi_ := List.mem_range.1 hi_
              obtain ⟨l_, rfl⟩ := hfr
              have hv_ := fun (j t : Nat) (v : Value) (h1 : (j, t) ∈ [(0, 75), (1, 76), (2, 77), (3, 78), (4, 79), (5, 80), (6, 81), (7, 82), (8, 83), (9, 84), (10, 85)]) h2 h3 => (hval (j, t) h1 h3).trans (congrArg some (hV j v h2 h3))
              have hcs : i_ = 0 ∨ i_ = 1 ∨ i_ = 2 ∨ i_ = 3 ∨ i_ = 4 ∨ i_ = 5 ∨ i_ = 6 ∨ i_ = 7 ∨ i_ = 8 ∨ i_ = 9 ∨ i_ = 10 := by omega
              rcases hcs with rfl | rfl | rfl | rfl | rfl | rfl | rfl | rfl | rfl | rfl | rfl
              · have e2 : evl l_ (.tmp 2) = .pointer (some ⟨g5, 0, none⟩) := evl_of ((hel 2 (by decide)).trans rfl)
                exact ⟨_, rfl, fun K_ hK_ => q_op _ (x_field (j := 11) _ _ rfl e2 Try.underlying33 rfl (by rfl) rfl) (hK_ _ _ ⟨qv_up hV (fun _ h => Option.some.inj h), hE⟩)⟩
              · have hE0 := hE
                have HS := hE0
                have e75 : evl l_ (.tmp 75) = .pointer (some ⟨g5, 11, none⟩) := evl_of (hv_ 0 75 _ (by decide) rfl (hon 0 (by decide)))
                exact ⟨_, rfl, fun K_ hK_ => q_op _ (x_load (.slice (some ad) m.hvs.length d) rfl e75 (bkCell (HS.get (.head _)) 11 _ rfl) (by rfl)) (hK_ _ _ ⟨qv_up hV (fun _ h => Option.some.inj h), hE⟩)⟩
              · have e5 : evl l_ (.tmp 5) = .int .i64 (j : Int) := evl_of ((hel 5 (by decide)).trans rfl)
                exact ⟨_, rfl, fun K_ hK_ => q_op _ (x_move (.int .i64 (j : Int)) rfl e5) (hK_ _ _ ⟨qv_up hV (fun _ h => Option.some.inj h), hE⟩)⟩
              · have e76 : evl l_ (.tmp 76) = .slice (some ad) m.hvs.length d := evl_of (hv_ 1 76 _ (by decide) rfl (hon 1 (by decide)))
                have e77 : evl l_ (.tmp 77) = .int .i64 (j : Int) := evl_of (hv_ 2 77 _ (by decide) rfl (hon 2 (by decide)))
                exact ⟨_, rfl, fun K_ hK_ => q_op _ (x_index (A := ad) (j := j * 3) (sz := 3) rfl e76 e77 Try.underlying31 (by kernel_rfl) (by omega) rfl) (hK_ _ _ ⟨qv_up hV (fun _ h => Option.some.inj h), hE⟩)⟩
              · have hE0 := hE
                have HS := hE0
                have e78 : evl l_ (.tmp 78) = .pointer (some ((ad).add (j * 3))) := evl_of (hv_ 3 78 _ (by decide) rfl (hon 3 (by decide)))
                exact ⟨_, rfl, fun K_ hK_ => q_op _ (x_loads [.int .u32 x.1, .int .u32 x.2.1, .int .u32 x.2.2] 3 rfl e78 (hv_cells (Kd.C_below hB HS.belowOf) hx) (by rfl) (by kernel_rfl) rfl) (hK_ _ _ ⟨qv_up hV (fun _ h => Option.some.inj h), hE⟩)⟩
              · have e3 : evl l_ (.tmp 3) = .pointer (some ⟨g8, 0, none⟩) := evl_of ((hel 3 (by decide)).trans rfl)
                exact ⟨_, rfl, fun K_ hK_ => q_op _ (x_field (j := 11) _ _ rfl e3 Try.underlying33 rfl (by rfl) rfl) (hK_ _ _ ⟨qv_up hV (fun _ h => Option.some.inj h), hE⟩)⟩
              · have hE0 := hE
                have HS := hE0
                have e80 : evl l_ (.tmp 80) = .pointer (some ⟨g8, 11, none⟩) := evl_of (hv_ 5 80 _ (by decide) rfl (hon 5 (by decide)))
                exact ⟨_, rfl, fun K_ hK_ => q_op _ (x_load (.slice (some ae) n.hvs.length d2) rfl e80 (bkCell (HS.get (.tail _ (.head _))) 11 _ rfl) (by rfl)) (hK_ _ _ ⟨qv_up hV (fun _ h => Option.some.inj h), hE⟩)⟩
              · have e5 : evl l_ (.tmp 5) = .int .i64 (j : Int) := evl_of ((hel 5 (by decide)).trans rfl)
                exact ⟨_, rfl, fun K_ hK_ => q_op _ (x_move (.int .i64 (j : Int)) rfl e5) (hK_ _ _ ⟨qv_up hV (fun _ h => Option.some.inj h), hE⟩)⟩
              · have e81 : evl l_ (.tmp 81) = .slice (some ae) n.hvs.length d2 := evl_of (hv_ 6 81 _ (by decide) rfl (hon 6 (by decide)))
                have e82 : evl l_ (.tmp 82) = .int .i64 (j : Int) := evl_of (hv_ 7 82 _ (by decide) rfl (hon 7 (by decide)))
                exact ⟨_, rfl, fun K_ hK_ => q_op _ (x_index (A := ae) (j := j * 3) (sz := 3) rfl e81 e82 Try.underlying31 (by kernel_rfl) (by omega) rfl) (hK_ _ _ ⟨qv_up hV (fun _ h => Option.some.inj h), hE⟩)⟩
              · have hE0 := hE
                have HS := hE0
                have e83 : evl l_ (.tmp 83) = .pointer (some ((ae).add (j * 3))) := evl_of (hv_ 8 83 _ (by decide) rfl (hon 8 (by decide)))
                exact ⟨_, rfl, fun K_ hK_ => q_op _ (x_loads [.int .u32 y.1, .int .u32 y.2.1, .int .u32 y.2.2] 3 rfl e83 (hv_cells (Kd.C_below hB2 HS.belowOf) hy) (by rfl) (by kernel_rfl) rfl) (hK_ _ _ ⟨qv_up hV (fun _ h => Option.some.inj h), hE⟩)⟩
              · have hE0 := hE
                have HS := hE0
                have e79 : evl l_ (.tmp 79) = .agg ([.int .u32 x.1, .int .u32 x.2.1, .int .u32 x.2.2] : List Value).toArray := evl_of (hv_ 4 79 _ (by decide) rfl (hon 4 (by decide)))
                have e84 : evl l_ (.tmp 84) = .agg ([.int .u32 y.1, .int .u32 y.2.1, .int .u32 y.2.2] : List Value).toArray := evl_of (hv_ 9 84 _ (by decide) rfl (hon 9 (by decide)))
                exact ⟨_, rfl, fun K_ hK_ => q_op _ (x_eq .neq (.agg ([.int .u32 x.1, .int .u32 x.2.1, .int .u32 x.2.2] : List Value).toArray) (.agg ([.int .u32 y.1, .int .u32 y.2.1, .int .u32 y.2.2] : List Value).toArray) (decide (x = y)) false rfl e79 e84 (equal_hv _ x y) (by rw [decide_eq_true hxy]; rfl) rfl (guard_agg (by kernel_rfl)) (guard_agg (by kernel_rfl))) (hK_ _ _ ⟨qv_up hV (fun _ h => Option.some.inj h), hE⟩)⟩
            intro bq_ vq_ w_ hall hG
            obtain ⟨hV, hE⟩ := hG
            clear HS
            have HS := hE
            have hv0 := hV 0 _ rfl (hall 0 (by decide))
            have hv1 := hV 1 _ rfl (hall 1 (by decide))
            have hv2 := hV 2 _ rfl (hall 2 (by decide))
            have hv3 := hV 3 _ rfl (hall 3 (by decide))
            have hv4 := hV 4 _ rfl (hall 4 (by decide))
            have hv5 := hV 5 _ rfl (hall 5 (by decide))
            have hv6 := hV 6 _ rfl (hall 6 (by decide))
            have hv7 := hV 7 _ rfl (hall 7 (by decide))
            have hv8 := hV 8 _ rfl (hall 8 (by decide))
            have hv9 := hV 9 _ rfl (hall 9 (by decide))
            have hv10 := hV 10 _ rfl (hall 10 (by decide))
            clear hV hall
            rw [putSel_fr]
            simp only [tells, List.map_cons, List.map_nil, setAll, List.set_cons_succ, List.set_cons_zero, hv0, hv1, hv2, hv3, hv4, hv5, hv6, hv7, hv8, hv9, hv10]
            clear hv0 hv1 hv2 hv3 hv4 hv5 hv6 hv7 hv8 hv9 hv10
            generalize w_ = w901001 at HS ⊢
            refine fr_at (l' := (mgV m A c (some ad) d :: mgV n A2 c2 (some ae) d2 :: .pointer (some ⟨g5, 0, none⟩) :: .pointer (some ⟨g8, 0, none⟩) :: u4 :: .int .i64 (j : Int) :: .pointer (some ⟨g5, 0, none⟩) :: .int .i64 m.k :: V8.l qz19 (V8.l qz23 (V8.l qz30 (V8.l qz34 (V8.l qz38 (V8.l qz42 (V8.l qz46 (uz64 :: uz65 :: uz66 :: uz67 :: .bool bz45 :: .pointer (some ⟨g5, 11, none⟩) :: .slice (some ad) m.hvs.length d :: .int .i64 (m.hvs.length : Int) :: .int .i64 (j : Int) :: .bool (decide ((j : Int) < (m.hvs.length : Int))) :: .int .i64 (j : Int) :: .pointer (some ⟨g5, 11, none⟩) :: .slice (some ad) m.hvs.length d :: .int .i64 (j : Int) :: .pointer (some ((ad).add (j * 3))) :: .agg ([.int .u32 x.1, .int .u32 x.2.1, .int .u32 x.2.2] : List Value).toArray :: .pointer (some ⟨g8, 11, none⟩) :: .slice (some ae) n.hvs.length d2 :: .int .i64 (j : Int) :: .pointer (some ((ae).add (j * 3))) :: .agg ([.int .u32 y.1, .int .u32 y.2.1, .int .u32 y.2.2] : List Value).toArray :: .bool false :: u86 :: U4g1 (undef :: [])))))))))) rfl ?_
            refine hK77 _ _ ?_
            refine c_false rfl ?_
            refine wp_skip ?_
            refine hK71 _ _ ?_
            refine c_region (fun ops901003 hops901002 => ?_)
            clear hops901002
            refine p_run _ (x_arith (k := .i64) (m := (j : Int)) (n := 1) .add (((j + 1 : Nat) : Int)) rfl rfl rfl (show IntKind.i64.wrap ((j : Int) + 1) = ((j + 1 : Nat) : Int) from ((wr64' (by omega)).trans (by omega))) rfl) rfl ?_
            refine p_run _ (x_move (.int .i64 ((j + 1 : Nat) : Int)) rfl rfl) rfl ?_
            refine wpList_nil ?_
            refine fr_at (l' := (mgV m A c (some ad) d :: mgV n A2 c2 (some ae) d2 :: .pointer (some ⟨g5, 0, none⟩) :: .pointer (some ⟨g8, 0, none⟩) :: u4 :: .int .i64 (j : Int) :: .pointer (some ⟨g5, 0, none⟩) :: .int .i64 m.k :: V8.l qz19 (V8.l qz23 (V8.l qz30 (V8.l qz34 (V8.l qz38 (V8.l qz42 (V8.l qz46 (uz64 :: uz65 :: uz66 :: uz67 :: .bool bz45 :: .pointer (some ⟨g5, 11, none⟩) :: .slice (some ad) m.hvs.length d :: .int .i64 (m.hvs.length : Int) :: .int .i64 ((j + 1 : Nat) : Int) :: .bool (decide ((j : Int) < (m.hvs.length : Int))) :: .int .i64 (j : Int) :: .pointer (some ⟨g5, 11, none⟩) :: .slice (some ad) m.hvs.length d :: .int .i64 (j : Int) :: .pointer (some ((ad).add (j * 3))) :: .agg ([.int .u32 x.1, .int .u32 x.2.1, .int .u32 x.2.2] : List Value).toArray :: .pointer (some ⟨g8, 11, none⟩) :: .slice (some ae) n.hvs.length d2 :: .int .i64 (j : Int) :: .pointer (some ((ae).add (j * 3))) :: .agg ([.int .u32 y.1, .int .u32 y.2.1, .int .u32 y.2.2] : List Value).toArray :: .bool false :: .int .i64 ((j + 1 : Nat) : Int) :: U4g1 (undef :: [])))))))))) rfl ?_
            refine hJ61 (j + 1) _ _ ?_ ?_
            · show m.hvs.length - (j + 1) < m.hvs.length - j; omega
            · exact ⟨_, _, _, _, _, _, _, _, _, _, _, _, _, _, _, _, rfl, ((HS.front 1 rfl).front 1 rfl), ⟨(by omega), take_eq hI.2 hx hy hxy⟩⟩
          · skip
            refine free_frame (n := 11) (T := _) [0, 1, 0, 7, 15, 0, 32, 0, 224, 480, 1023] [(0, 75), (1, 76), (2, 77), (3, 78), (4, 79), (5, 80), (6, 81), (7, 82), (8, 83), (9, 84), (10, 85)] (fun bq_ vq_ w_ => qv ((fun i_ => match i_ with | 0 => some (.pointer (some ⟨g5, 11, none⟩)) | 1 => some (.slice (some ad) m.hvs.length d) | 2 => some (.int .i64 (j : Int)) | 3 => some (.pointer (some ((ad).add (j * 3)))) | 4 => some (.agg ([.int .u32 x.1, .int .u32 x.2.1, .int .u32 x.2.2] : List Value).toArray) | 5 => some (.pointer (some ⟨g8, 11, none⟩)) | 6 => some (.slice (some ae) n.hvs.length d2) | 7 => some (.int .i64 (j : Int)) | 8 => some (.pointer (some ((ae).add (j * 3)))) | 9 => some (.agg ([.int .u32 y.1, .int .u32 y.2.1, .int .u32 y.2.2] : List Value).toArray) | 10 => some (.bool true) | _ => none) : Nat → Option Value) bq_ vq_ ∧ (St w (fun _ => False) w_ ([blk g5 [.int .i64 m.k, .int .u32 m.e, .int .u64 m.s, .int .u32 m.te, .int .u32 m.ts, .int .u32 m.be, .int .u32 m.bs, .int .i64 m.ix, .int .i64 m.tt, .int .u32 m.tk, .slice A m.its.length c, .slice (some ad) m.hvs.length d] 33, blk g8 [.int .i64 n.k, .int .u32 n.e, .int .u64 n.s, .int .u32 n.te, .int .u32 n.ts, .int .u32 n.be, .int .u32 n.bs, .int .i64 n.ix, .int .i64 n.tt, .int .u32 n.tk, .slice A2 n.its.length c2, .slice (some ae) n.hvs.length d2] 33]))) (by kernel_rfl) rfl rfl (by kernel_rfl) (by kernel_rfl) rfl (by kernel_rfl) (by kernel_rfl) ⟨qv_none, HS.draw⟩ ?_ ?_
            · clear HS
              intro i_ hi_ bq_ vq_ a_ w_ hG hb_ hon hoff hfr hel hval
              obtain ⟨hV, hE⟩ := hG
              have hi_ := List.mem_range.1 hi_
              obtain ⟨l_, rfl⟩ := hfr
              have hv_ := fun (j t : Nat) (v : Value) (h1 : (j, t) ∈ [(0, 75), (1, 76), (2, 77), (3, 78), (4, 79), (5, 80), (6, 81), (7, 82), (8, 83), (9, 84), (10, 85)]) h2 h3 => (hval (j, t) h1 h3).trans (congrArg some (hV j v h2 h3))
              have hcs : i_ = 0 ∨ i_ = 1 ∨ i_ = 2 ∨ i_ = 3 ∨ i_ = 4 ∨ i_ = 5 ∨ i_ = 6 ∨ i_ = 7 ∨ i_ = 8 ∨ i_ = 9 ∨ i_ = 10 := by omega
              rcases hcs with rfl | rfl | rfl | rfl | rfl | rfl | rfl | rfl | rfl | rfl | rfl
              · have e2 : evl l_ (.tmp 2) = .pointer (some ⟨g5, 0, none⟩) := evl_of ((hel 2 (by decide)).trans rfl)
                exact ⟨_, rfl, fun K_ hK_ => q_op _ (x_field (j := 11) _ _ rfl e2 Try.underlying33 rfl (by rfl) rfl) (hK_ _ _ ⟨qv_up hV (fun _ h => Option.some.inj h), hE⟩)⟩
              · have hE0 := hE
                have HS := hE0
                have e75 : evl l_ (.tmp 75) = .pointer (some ⟨g5, 11, none⟩) := evl_of (hv_ 0 75 _ (by decide) rfl (hon 0 (by decide)))
                exact ⟨_, rfl, fun K_ hK_ => q_op _ (x_load (.slice (some ad) m.hvs.length d) rfl e75 (bkCell (HS.get (.head _)) 11 _ rfl) (by rfl)) (hK_ _ _ ⟨qv_up hV (fun _ h => Option.some.inj h), hE⟩)⟩
              · have e5 : evl l_ (.tmp 5) = .int .i64 (j : Int) := evl_of ((hel 5 (by decide)).trans rfl)
                exact ⟨_, rfl, fun K_ hK_ => q_op _ (x_move (.int .i64 (j : Int)) rfl e5) (hK_ _ _ ⟨qv_up hV (fun _ h => Option.some.inj h), hE⟩)⟩
              · have e76 : evl l_ (.tmp 76) = .slice (some ad) m.hvs.length d := evl_of (hv_ 1 76 _ (by decide) rfl (hon 1 (by decide)))
                have e77 : evl l_ (.tmp 77) = .int .i64 (j : Int) := evl_of (hv_ 2 77 _ (by decide) rfl (hon 2 (by decide)))
                exact ⟨_, rfl, fun K_ hK_ => q_op _ (x_index (A := ad) (j := j * 3) (sz := 3) rfl e76 e77 Try.underlying31 (by kernel_rfl) (by omega) rfl) (hK_ _ _ ⟨qv_up hV (fun _ h => Option.some.inj h), hE⟩)⟩
              · have hE0 := hE
                have HS := hE0
                have e78 : evl l_ (.tmp 78) = .pointer (some ((ad).add (j * 3))) := evl_of (hv_ 3 78 _ (by decide) rfl (hon 3 (by decide)))
                exact ⟨_, rfl, fun K_ hK_ => q_op _ (x_loads [.int .u32 x.1, .int .u32 x.2.1, .int .u32 x.2.2] 3 rfl e78 (hv_cells (Kd.C_below hB HS.belowOf) hx) (by rfl) (by kernel_rfl) rfl) (hK_ _ _ ⟨qv_up hV (fun _ h => Option.some.inj h), hE⟩)⟩
              · have e3 : evl l_ (.tmp 3) = .pointer (some ⟨g8, 0, none⟩) := evl_of ((hel 3 (by decide)).trans rfl)
                exact ⟨_, rfl, fun K_ hK_ => q_op _ (x_field (j := 11) _ _ rfl e3 Try.underlying33 rfl (by rfl) rfl) (hK_ _ _ ⟨qv_up hV (fun _ h => Option.some.inj h), hE⟩)⟩
              · have hE0 := hE
                have HS := hE0
                have e80 : evl l_ (.tmp 80) = .pointer (some ⟨g8, 11, none⟩) := evl_of (hv_ 5 80 _ (by decide) rfl (hon 5 (by decide)))
                exact ⟨_, rfl, fun K_ hK_ => q_op _ (x_load (.slice (some ae) n.hvs.length d2) rfl e80 (bkCell (HS.get (.tail _ (.head _))) 11 _ rfl) (by rfl)) (hK_ _ _ ⟨qv_up hV (fun _ h => Option.some.inj h), hE⟩)⟩
              · have e5 : evl l_ (.tmp 5) = .int .i64 (j : Int) := evl_of ((hel 5 (by decide)).trans rfl)
                exact ⟨_, rfl, fun K_ hK_ => q_op _ (x_move (.int .i64 (j : Int)) rfl e5) (hK_ _ _ ⟨qv_up hV (fun _ h => Option.some.inj h), hE⟩)⟩
              · have e81 : evl l_ (.tmp 81) = .slice (some ae) n.hvs.length d2 := evl_of (hv_ 6 81 _ (by decide) rfl (hon 6 (by decide)))
                have e82 : evl l_ (.tmp 82) = .int .i64 (j : Int) := evl_of (hv_ 7 82 _ (by decide) rfl (hon 7 (by decide)))
                exact ⟨_, rfl, fun K_ hK_ => q_op _ (x_index (A := ae) (j := j * 3) (sz := 3) rfl e81 e82 Try.underlying31 (by kernel_rfl) (by omega) rfl) (hK_ _ _ ⟨qv_up hV (fun _ h => Option.some.inj h), hE⟩)⟩
              · have hE0 := hE
                have HS := hE0
                have e83 : evl l_ (.tmp 83) = .pointer (some ((ae).add (j * 3))) := evl_of (hv_ 8 83 _ (by decide) rfl (hon 8 (by decide)))
                exact ⟨_, rfl, fun K_ hK_ => q_op _ (x_loads [.int .u32 y.1, .int .u32 y.2.1, .int .u32 y.2.2] 3 rfl e83 (hv_cells (Kd.C_below hB2 HS.belowOf) hy) (by rfl) (by kernel_rfl) rfl) (hK_ _ _ ⟨qv_up hV (fun _ h => Option.some.inj h), hE⟩)⟩
              · have hE0 := hE
                have HS := hE0
                have e79 : evl l_ (.tmp 79) = .agg ([.int .u32 x.1, .int .u32 x.2.1, .int .u32 x.2.2] : List Value).toArray := evl_of (hv_ 4 79 _ (by decide) rfl (hon 4 (by decide)))
                have e84 : evl l_ (.tmp 84) = .agg ([.int .u32 y.1, .int .u32 y.2.1, .int .u32 y.2.2] : List Value).toArray := evl_of (hv_ 9 84 _ (by decide) rfl (hon 9 (by decide)))
                exact ⟨_, rfl, fun K_ hK_ => q_op _ (x_eq .neq (.agg ([.int .u32 x.1, .int .u32 x.2.1, .int .u32 x.2.2] : List Value).toArray) (.agg ([.int .u32 y.1, .int .u32 y.2.1, .int .u32 y.2.2] : List Value).toArray) (decide (x = y)) true rfl e79 e84 (equal_hv _ x y) (by rw [decide_eq_false hxy]; rfl) rfl (guard_agg (by kernel_rfl)) (guard_agg (by kernel_rfl))) (hK_ _ _ ⟨qv_up hV (fun _ h => Option.some.inj h), hE⟩)⟩
            intro bq_ vq_ w_ hall hG
            obtain ⟨hV, hE⟩ := hG
            clear HS
            have HS := hE
            have hv0 := hV 0 _ rfl (hall 0 (by decide))
            have hv1 := hV 1 _ rfl (hall 1 (by decide))
            have hv2 := hV 2 _ rfl (hall 2 (by decide))
            have hv3 := hV 3 _ rfl (hall 3 (by decide))
            have hv4 := hV 4 _ rfl (hall 4 (by decide))
            have hv5 := hV 5 _ rfl (hall 5 (by decide))
            have hv6 := hV 6 _ rfl (hall 6 (by decide))
            have hv7 := hV 7 _ rfl (hall 7 (by decide))
            have hv8 := hV 8 _ rfl (hall 8 (by decide))
            have hv9 := hV 9 _ rfl (hall 9 (by decide))
            have hv10 := hV 10 _ rfl (hall 10 (by decide))
            clear hV hall
            rw [putSel_fr]
            simp only [tells, List.map_cons, List.map_nil, setAll, List.set_cons_succ, List.set_cons_zero, hv0, hv1, hv2, hv3, hv4, hv5, hv6, hv7, hv8, hv9, hv10]
            clear hv0 hv1 hv2 hv3 hv4 hv5 hv6 hv7 hv8 hv9 hv10
            generalize w_ = w901001 at HS ⊢
            refine fr_at (l' := (mgV m A c (some ad) d :: mgV n A2 c2 (some ae) d2 :: .pointer (some ⟨g5, 0, none⟩) :: .pointer (some ⟨g8, 0, none⟩) :: u4 :: .int .i64 (j : Int) :: .pointer (some ⟨g5, 0, none⟩) :: .int .i64 m.k :: V8.l qz19 (V8.l qz23 (V8.l qz30 (V8.l qz34 (V8.l qz38 (V8.l qz42 (V8.l qz46 (uz64 :: uz65 :: uz66 :: uz67 :: .bool bz45 :: .pointer (some ⟨g5, 11, none⟩) :: .slice (some ad) m.hvs.length d :: .int .i64 (m.hvs.length : Int) :: .int .i64 (j : Int) :: .bool (decide ((j : Int) < (m.hvs.length : Int))) :: .int .i64 (j : Int) :: .pointer (some ⟨g5, 11, none⟩) :: .slice (some ad) m.hvs.length d :: .int .i64 (j : Int) :: .pointer (some ((ad).add (j * 3))) :: .agg ([.int .u32 x.1, .int .u32 x.2.1, .int .u32 x.2.2] : List Value).toArray :: .pointer (some ⟨g8, 11, none⟩) :: .slice (some ae) n.hvs.length d2 :: .int .i64 (j : Int) :: .pointer (some ((ae).add (j * 3))) :: .agg ([.int .u32 y.1, .int .u32 y.2.1, .int .u32 y.2.2] : List Value).toArray :: .bool true :: u86 :: U4g1 (undef :: [])))))))))) rfl ?_
            refine hK77 _ _ ?_
            refine c_true rfl ?_
            refine wp_seq_k (fun K901002 hK901003 => ?_)
            refine c_region (fun ops901005 hops901004 => ?_)
            clear hops901004
            refine p_run _ (x_assign (.bool false) rfl rfl) rfl ?_
            refine wpList_nil ?_
            refine hK901003 _ _ ?_
            refine wp_ret ?_
            try simp only [Exit.inBlock, Exit.then]
            refine c_ret (.bool false) (r_tmp rfl rfl) ?_
            have hno : smB m n = false := sm_no (fun h => by subst h; rw [hx] at hy; exact hxy (Option.some.inj hy))
            rw [hno]
            exact ⟨rfl, HS.belowOf⟩
        · have hlt : j = m.hvs.length := by have := of_decide_eq_false hc69; omega
          subst hlt
          refine wp_exit ?_
          refine hK55 _ _ ?_
          refine wp_seq_k (fun K901006 hK901007 => ?_)
          refine c_region (fun ops901009 hops901008 => ?_)
          clear hops901008
          refine p_run _ (x_field (j := 10) _ _ rfl rfl Try.underlying33 rfl (by rfl) rfl) rfl ?_
          refine p_run _ (x_load (.slice A m.its.length c) rfl rfl (bkCell (HS.get (.head _)) 10 _ rfl) (by rfl)) rfl ?_
          refine p_run _ (x_field (j := 10) _ _ rfl rfl Try.underlying33 rfl (by rfl) rfl) rfl ?_
          refine p_run _ (x_load (.slice A2 n.its.length c2) rfl rfl (bkCell (HS.get (.tail _ (.head _))) 10 _ rfl) (by rfl)) rfl ?_
          refine w_call [.slice A m.its.length c, .slice A2 n.its.length c2] Try.func40 (by kernel_rfl) (by rfl) rfl ?_
          refine (r17same_any _ A c m.its (Kd.C_below hA HS.belowOf) A2 c2 n.its (Kd.C_below hA2 HS.belowOf) hl hn).mono ?_
          rintro e w901010 ⟨rfl, hb_⟩
          replace HS := HS.here hb_
          clear hb_
          refine ⟨_, rfl, ?_⟩
          refine p_run (l' := (mgV m A c B d :: mgV n A2 c2 B2 d2 :: .pointer (some ⟨g5, 0, none⟩) :: .pointer (some ⟨g8, 0, none⟩) :: .bool (decide (m.its = n.its)) :: u5 :: .pointer (some ⟨g5, 0, none⟩) :: .int .i64 m.k :: V8.l qz19 (V8.l qz23 (V8.l qz30 (V8.l qz34 (V8.l qz38 (V8.l qz42 (V8.l qz46 (uz64 :: uz65 :: uz66 :: uz67 :: .bool bz45 :: .pointer (some ⟨g5, 11, none⟩) :: .slice B m.hvs.length d :: .int .i64 (m.hvs.length : Int) :: .int .i64 (m.hvs.length : Int) :: .bool (decide ((m.hvs.length : Int) < (m.hvs.length : Int))) :: u74 :: u75 :: u76 :: u77 :: u78 :: u79 :: u80 :: u81 :: u82 :: u83 :: u84 :: u85 :: u86 :: .pointer (some ⟨g5, 10, none⟩) :: .slice A m.its.length c :: .pointer (some ⟨g8, 10, none⟩) :: .slice A2 n.its.length c2 :: .bool (decide (m.its = n.its)) :: []))))))))) _ (x_assign (.bool (decide (m.its = n.its))) rfl rfl) rfl ?_
          refine wpList_nil ?_
          refine hK901007 _ _ ?_
          refine wp_ret ?_
          try simp only [Exit.inBlock, Exit.then]
          refine c_ret (.bool (decide (m.its = n.its))) (r_tmp rfl rfl) ?_
          have e1 : smB m n = decide (m.its = n.its) := sm_fin bd (by have h := hI.2; rw [List.take_length, hln, List.take_length] at h; exact h)
          rw [e1]
          exact ⟨rfl, HS.belowOf⟩
end Go.Proofs.Ytmachdikonelbaa
