/- RecordTells. -/
import Derived.Test.YtkiiangookibnaaZRecordTellsL14a
import Derived.Test.YtkiiangookibnaaZRecordTellsRk4
set_option linter.unusedVariables false
set_option linter.unusedSimpArgs false
namespace Go.Proofs.Ytkiiangookibnaa
open Go.RowKit Go.Proofs.YtkiiangookibnaaW.PrintWords Go.Proofs.YtkiiangookibnaaW.PrintLast
abbrev U4lb (l : List Value) : List Value := undef :: undef :: undef :: undef :: l
abbrev U8lb (l : List Value) : List Value := U4lb (U4lb l)
abbrev U16lb (l : List Value) : List Value := U8lb (U8lb l)
abbrev U32lb (l : List Value) : List Value := U16lb (U16lb l)
abbrev U64lb (l : List Value) : List Value := U32lb (U32lb l)
theorem seqS (a : List UInt8) : ((strB a).toList == (strB a).toList) = true := beq_self_eq_true _
def Seen (l : List Sn) (a b : Int) (j : Nat) (q : Sn) (f : Bool) : Prop := (f = false ∧ q = (0, 0, 0, 0) ∧ fdS l a b = fdS (l.drop j) a b) ∨ (f = true ∧ fdS l a b = some q)
theorem seen_hit {l : List Sn} {a b : Int} {j : Nat} {q x : Sn} (h : Seen l a b j q false) (hx : l[j]? = some x) (hd : decide (x.1 = a ∧ x.2.1 = b) = true) : Seen l a b (j + 1) x true := by
  rcases h with ⟨-, -, h⟩ | ⟨h, -⟩
  · rw [drop_at hx, fd_hit hd] at h; exact .inr ⟨rfl, h⟩
  · cases h
theorem seen_miss {l : List Sn} {a b : Int} {j : Nat} {q x : Sn} {f : Bool} (h : Seen l a b j q f) (hx : l[j]? = some x) (hd : (decide (x.1 = a ∧ x.2.1 = b) && !f) = false) : Seen l a b (j + 1) q f := by
  rcases h with ⟨h1, h2, h⟩ | h
  · subst h1
    rw [Bool.not_false, Bool.and_true] at hd
    rw [drop_at hx, fd_miss hd] at h
    exact .inl ⟨rfl, h2, h⟩
  · exact .inr h
theorem seen_end {l : List Sn} {a b : Int} {q : Sn} {f : Bool} (h : Seen l a b l.length q f) : fdO l a b = q ∧ fdB l a b = f := by
  unfold fdO fdB
  rcases h with ⟨h1, h2, h⟩ | ⟨h1, h⟩
  · rw [h, List.drop_length, h1, h2]; exact ⟨rfl, rfl⟩
  · rw [h, h1]; exact ⟨rfl, rfl⟩
theorem rrootsS_any (w : World) (r : Rc) (A : Option Addr) (c : Nat) (hA : kSn.C w A r.sn.length r.sn) (hl : r.sn.length ≤ 1000) : Calls Try.prog 20 #[rcV r A c] w fun e w' => ∃ A c, e = .returned (.slice A (rtsL r).length c) ∧ St w (fun _ => False) w' [row (Kd.int .i64) rfl 3 (.slice A (rtsL r).length c) (rtsL r)] := by
  refine (rroots_any w r A c hA hl).mono ?_
  rintro e w' ⟨v, rfl, HS⟩
  obtain ⟨A', c', hv, -, -⟩ := row_reads (HS.get (.head _))
  subst hv
  exact ⟨_, _, rfl, HS⟩
theorem r14rootsS_any (w : World) (r : Rc) (A : Option Addr) (c : Nat) (hA : kSn.C w A r.sn.length r.sn) (hl : r.sn.length ≤ 1000) : Calls Try.prog 21 #[rcV r A c] w fun e w' => ∃ A c, e = .returned (.slice A (rtsL r).length c) ∧ St w (fun _ => False) w' [row (Kd.int .i64) rfl 3 (.slice A (rtsL r).length c) (rtsL r)] := by
  refine (r14roots_any w r A c hA hl).mono ?_
  rintro e w' ⟨v, rfl, HS⟩
  obtain ⟨A', c', hv, -, -⟩ := row_reads (HS.get (.head _))
  subst hv
  exact ⟨_, _, rfl, HS⟩
theorem rts_len (r : Rc) : (rtsL r).length ≤ r.sn.length + 2 := by
  unfold rtsL flt
  have h := List.length_filter_le (fun x : Int => decide (x ≠ -1)) (r.l :: (r.sn.map (·.2.2.1) ++ [r.rt]))
  simp only [List.length_cons, List.length_append, List.length_map, List.length_nil] at h
  omega
set_option maxRecDepth 10000 in
set_option maxHeartbeats 8000000 in
theorem tells_law (w : World) (r : Rc) (hw : r.wf) (A : Option Addr) (c : Nat) (hA : kSn.C w A r.sn.length r.sn) (n : Rc) (hv : n.wf) (A2 : Option Addr) (c2 : Nat) (hA2 : kSn.C w A2 n.sn.length n.sn) (a b : Int) : Calls Try.prog 7 #[rcV r A c, rcV n A2 c2, .agg ([.int .u32 a, .int .u32 b] : List Value).toArray] w fun e w' => e = .returned (.bool true) ∧ Below w.heap.size w w' := by
  have HS := St.empty w
  rcases (by omega : 30 < r.sn.length ∨ (r.sn.length ≤ 30 ∧ 30 < n.sn.length) ∨ (r.sn.length ≤ 30 ∧ n.sn.length ≤ 30)) with hg | hg | hg
  · skip
    refine c_enter Try.func7 rfl 106 rfl (rcV r A c :: rcV n A2 c2 :: .agg ([.int .u32 a, .int .u32 b] : List Value).toArray :: U64lb (U32lb (U4lb (undef :: undef :: undef :: [])))) rfl ?_
    refine wp_seq_k (fun K1 hK2 => ?_)
    refine c_region (fun ops4 hops3 => ?_)
    clear hops3
    refine St.wBox HS (cs := (.int .u32 r.e :: .bool r.p :: .int .u32 r.b :: .int .u32 r.q :: .int .i64 r.l :: .int .u32 r.xe :: .int .u32 r.xq :: .slice A r.sn.length c :: .int .u64 r.s :: .int .u32 r.te :: .int .u32 r.tq :: .int .u32 r.be :: .int .u32 r.bq :: .int .i64 r.nx :: .int .i64 r.tt :: .int .i64 r.rt :: [])) (rcV r A c) rfl rfl ?_
    clear HS
    intro g5 w6 hg7 HS
    refine St.wBox HS (cs := (.int .u32 n.e :: .bool n.p :: .int .u32 n.b :: .int .u32 n.q :: .int .i64 n.l :: .int .u32 n.xe :: .int .u32 n.xq :: .slice A2 n.sn.length c2 :: .int .u64 n.s :: .int .u32 n.te :: .int .u32 n.tq :: .int .u32 n.be :: .int .u32 n.bq :: .int .i64 n.nx :: .int .i64 n.tt :: .int .i64 n.rt :: [])) (rcV n A2 c2) rfl rfl ?_
    clear HS
    intro g8 w9 hg10 HS
    refine St.wBox HS (cs := [.int .u32 a, .int .u32 b]) (.agg ([.int .u32 a, .int .u32 b] : List Value).toArray) rfl rfl ?_
    clear HS
    intro g11 w12 hg13 HS
    refine p_run _ (x_assign (.bool false) rfl rfl) rfl ?_
    refine wpList_nil ?_
    refine fr_at (l' := (rcV r A c :: rcV n A2 c2 :: .agg ([.int .u32 a, .int .u32 b] : List Value).toArray :: .pointer (some ⟨g5, 0, none⟩) :: .pointer (some ⟨g8, 0, none⟩) :: .pointer (some ⟨g11, 0, none⟩) :: .bool false :: U64lb (U32lb (undef :: undef :: undef :: [])))) rfl ?_
    refine hK2 _ _ ?_
    refine wp_seq_k (fun K14 hK15 => ?_)
    refine wp_seq_k (fun K16 hK17 => ?_)
    refine c_region (fun ops19 hops18 => ?_)
    clear hops18
    refine w_call [] Try.func10 (by kernel_rfl) (by rfl) rfl ?_
    refine (ralive_any _).mono ?_
    rintro e w20 ⟨rfl, hb_⟩
    replace HS := HS.here hb_
    clear hb_
    refine ⟨_, rfl, ?_⟩
    refine p_run _ (x_not true rfl rfl) rfl ?_
    refine wpList_nil ?_
    refine hK17 _ _ ?_
    refine c_false rfl ?_
    refine wp_skip ?_
    refine hK15 _ _ ?_
    refine wp_seq_k (fun K21 hK22 => ?_)
    refine wp_seq_k (fun K23 hK24 => ?_)
    refine c_region (fun ops26 hops25 => ?_)
    refine p_run _ (x_field (j := 7) _ _ rfl rfl Try.underlying34 rfl (by rfl) rfl) rfl ?_
    refine p_run _ (x_load (.slice A r.sn.length c) rfl rfl (bkCell (HS.get (.tail _ (.tail _ (.head _)))) 7 _ rfl) (by rfl)) rfl ?_
    refine p_run _ (x_len rfl rfl Try.underlying29) rfl ?_
    refine p_run (l' := (rcV r A c :: rcV n A2 c2 :: .agg ([.int .u32 a, .int .u32 b] : List Value).toArray :: .pointer (some ⟨g5, 0, none⟩) :: .pointer (some ⟨g8, 0, none⟩) :: .pointer (some ⟨g11, 0, none⟩) :: .bool false :: U8lb (undef :: undef :: .bool true :: .bool false :: .pointer (some ⟨g5, 7, none⟩) :: .slice A r.sn.length c :: .int .i64 (r.sn.length : Int) :: .bool true :: U64lb (U16lb (undef :: undef :: undef :: []))))) _ (x_cmp (k := .i64) (m := (r.sn.length : Int)) (n := 30) .gtr true rfl rfl rfl (show decide _ = true from decide_eq_true (by omega)) rfl) rfl ?_
    refine p_run _ (x_move (.bool true) rfl rfl) rfl ?_
    refine p_off (by rw [hops25]; rfl) rfl ?_
    refine p_off (by rw [hops25]; rfl) rfl ?_
    refine p_off (by rw [hops25]; rfl) rfl ?_
    refine p_off (by rw [hops25]; rfl) rfl ?_
    refine p_run (l' := (rcV r A c :: rcV n A2 c2 :: .agg ([.int .u32 a, .int .u32 b] : List Value).toArray :: .pointer (some ⟨g5, 0, none⟩) :: .pointer (some ⟨g8, 0, none⟩) :: .pointer (some ⟨g11, 0, none⟩) :: .bool false :: U8lb (undef :: undef :: .bool true :: .bool false :: .pointer (some ⟨g5, 7, none⟩) :: .slice A r.sn.length c :: .int .i64 (r.sn.length : Int) :: .bool true :: .bool true :: U4lb (.bool true :: U64lb (U8lb (U4lb (undef :: []))))))) _ (x_pick true (.bool true) (undef) (.bool true) rfl rfl rfl rfl rfl) rfl ?_
    clear hops25
    refine wpList_nil ?_
    refine hK24 _ _ ?_
    refine c_true rfl ?_
    refine wp_seq_k (fun K27 hK28 => ?_)
    refine c_region (fun ops30 hops29 => ?_)
    clear hops29
    refine p_run _ (x_assign (.bool true) rfl rfl) rfl ?_
    refine wpList_nil ?_
    refine hK28 _ _ ?_
    refine wp_ret ?_
    try simp only [Exit.inBlock, Exit.then]
    refine c_ret (.bool true) (r_tmp rfl rfl) ?_
    exact ⟨rfl, HS.belowOf⟩
  · skip
    refine c_enter Try.func7 rfl 106 rfl (rcV r A c :: rcV n A2 c2 :: .agg ([.int .u32 a, .int .u32 b] : List Value).toArray :: U64lb (U32lb (U4lb (undef :: undef :: undef :: [])))) rfl ?_
    refine wp_seq_k (fun K1 hK2 => ?_)
    refine c_region (fun ops4 hops3 => ?_)
    clear hops3
    refine St.wBox HS (cs := (.int .u32 r.e :: .bool r.p :: .int .u32 r.b :: .int .u32 r.q :: .int .i64 r.l :: .int .u32 r.xe :: .int .u32 r.xq :: .slice A r.sn.length c :: .int .u64 r.s :: .int .u32 r.te :: .int .u32 r.tq :: .int .u32 r.be :: .int .u32 r.bq :: .int .i64 r.nx :: .int .i64 r.tt :: .int .i64 r.rt :: [])) (rcV r A c) rfl rfl ?_
    clear HS
    intro g5 w6 hg7 HS
    refine St.wBox HS (cs := (.int .u32 n.e :: .bool n.p :: .int .u32 n.b :: .int .u32 n.q :: .int .i64 n.l :: .int .u32 n.xe :: .int .u32 n.xq :: .slice A2 n.sn.length c2 :: .int .u64 n.s :: .int .u32 n.te :: .int .u32 n.tq :: .int .u32 n.be :: .int .u32 n.bq :: .int .i64 n.nx :: .int .i64 n.tt :: .int .i64 n.rt :: [])) (rcV n A2 c2) rfl rfl ?_
    clear HS
    intro g8 w9 hg10 HS
    refine St.wBox HS (cs := [.int .u32 a, .int .u32 b]) (.agg ([.int .u32 a, .int .u32 b] : List Value).toArray) rfl rfl ?_
    clear HS
    intro g11 w12 hg13 HS
    refine p_run _ (x_assign (.bool false) rfl rfl) rfl ?_
    refine wpList_nil ?_
    refine fr_at (l' := (rcV r A c :: rcV n A2 c2 :: .agg ([.int .u32 a, .int .u32 b] : List Value).toArray :: .pointer (some ⟨g5, 0, none⟩) :: .pointer (some ⟨g8, 0, none⟩) :: .pointer (some ⟨g11, 0, none⟩) :: .bool false :: U64lb (U32lb (undef :: undef :: undef :: [])))) rfl ?_
    refine hK2 _ _ ?_
    refine wp_seq_k (fun K14 hK15 => ?_)
    refine wp_seq_k (fun K16 hK17 => ?_)
    refine c_region (fun ops19 hops18 => ?_)
    clear hops18
    refine w_call [] Try.func10 (by kernel_rfl) (by rfl) rfl ?_
    refine (ralive_any _).mono ?_
    rintro e w20 ⟨rfl, hb_⟩
    replace HS := HS.here hb_
    clear hb_
    refine ⟨_, rfl, ?_⟩
    refine p_run _ (x_not true rfl rfl) rfl ?_
    refine wpList_nil ?_
    refine hK17 _ _ ?_
    refine c_false rfl ?_
    refine wp_skip ?_
    refine hK15 _ _ ?_
    refine wp_seq_k (fun K21 hK22 => ?_)
    refine wp_seq_k (fun K23 hK24 => ?_)
    refine c_region (fun ops26 hops25 => ?_)
    refine p_run _ (x_field (j := 7) _ _ rfl rfl Try.underlying34 rfl (by rfl) rfl) rfl ?_
    refine p_run _ (x_load (.slice A r.sn.length c) rfl rfl (bkCell (HS.get (.tail _ (.tail _ (.head _)))) 7 _ rfl) (by rfl)) rfl ?_
    refine p_run _ (x_len rfl rfl Try.underlying29) rfl ?_
    refine p_run (l' := (rcV r A c :: rcV n A2 c2 :: .agg ([.int .u32 a, .int .u32 b] : List Value).toArray :: .pointer (some ⟨g5, 0, none⟩) :: .pointer (some ⟨g8, 0, none⟩) :: .pointer (some ⟨g11, 0, none⟩) :: .bool false :: U8lb (undef :: undef :: .bool true :: .bool false :: .pointer (some ⟨g5, 7, none⟩) :: .slice A r.sn.length c :: .int .i64 (r.sn.length : Int) :: .bool false :: U64lb (U16lb (undef :: undef :: undef :: []))))) _ (x_cmp (k := .i64) (m := (r.sn.length : Int)) (n := 30) .gtr false rfl rfl rfl (show decide _ = false from decide_eq_false (by omega)) rfl) rfl ?_
    refine p_run _ (x_move (.bool false) rfl rfl) rfl ?_
    refine p_on rfl (by rw [hops25]; rfl) ?_
    refine p_run _ (x_field (j := 7) _ _ rfl rfl Try.underlying34 rfl (by rfl) rfl) rfl ?_
    refine p_on rfl (by rw [hops25]; rfl) ?_
    refine p_run _ (x_load (.slice A2 n.sn.length c2) rfl rfl (bkCell (HS.get (.tail _ (.head _))) 7 _ rfl) (by rfl)) rfl ?_
    refine p_on rfl (by rw [hops25]; rfl) ?_
    refine p_run _ (x_len rfl rfl Try.underlying29) rfl ?_
    refine p_on rfl (by rw [hops25]; rfl) ?_
    refine p_run _ (x_cmp (k := .i64) (m := (n.sn.length : Int)) (n := 30) .gtr true rfl rfl rfl (show decide _ = true from decide_eq_true (by omega)) rfl) rfl ?_
    refine p_run (l' := (rcV r A c :: rcV n A2 c2 :: .agg ([.int .u32 a, .int .u32 b] : List Value).toArray :: .pointer (some ⟨g5, 0, none⟩) :: .pointer (some ⟨g8, 0, none⟩) :: .pointer (some ⟨g11, 0, none⟩) :: .bool false :: U8lb (undef :: undef :: .bool true :: .bool false :: .pointer (some ⟨g5, 7, none⟩) :: .slice A r.sn.length c :: .int .i64 (r.sn.length : Int) :: .bool false :: .bool false :: .pointer (some ⟨g8, 7, none⟩) :: .slice A2 n.sn.length c2 :: .int .i64 (n.sn.length : Int) :: .bool true :: .bool true :: U64lb (U8lb (U4lb (undef :: [])))))) _ (x_pick false (.bool true) (.bool true) (.bool true) rfl rfl rfl rfl rfl) rfl ?_
    clear hops25
    refine wpList_nil ?_
    refine hK24 _ _ ?_
    refine c_true rfl ?_
    refine wp_seq_k (fun K27 hK28 => ?_)
    refine c_region (fun ops30 hops29 => ?_)
    clear hops29
    refine p_run _ (x_assign (.bool true) rfl rfl) rfl ?_
    refine wpList_nil ?_
    refine hK28 _ _ ?_
    refine wp_ret ?_
    try simp only [Exit.inBlock, Exit.then]
    refine c_ret (.bool true) (r_tmp rfl rfl) ?_
    exact ⟨rfl, HS.belowOf⟩
  · skip
    refine c_enter Try.func7 rfl 106 rfl (rcV r A c :: rcV n A2 c2 :: .agg ([.int .u32 a, .int .u32 b] : List Value).toArray :: U64lb (U32lb (U4lb (undef :: undef :: undef :: [])))) rfl ?_
    refine wp_seq_k (fun K1 hK2 => ?_)
    refine c_region (fun ops4 hops3 => ?_)
    clear hops3
    refine St.wBox HS (cs := (.int .u32 r.e :: .bool r.p :: .int .u32 r.b :: .int .u32 r.q :: .int .i64 r.l :: .int .u32 r.xe :: .int .u32 r.xq :: .slice A r.sn.length c :: .int .u64 r.s :: .int .u32 r.te :: .int .u32 r.tq :: .int .u32 r.be :: .int .u32 r.bq :: .int .i64 r.nx :: .int .i64 r.tt :: .int .i64 r.rt :: [])) (rcV r A c) rfl rfl ?_
    clear HS
    intro g5 w6 hg7 HS
    refine St.wBox HS (cs := (.int .u32 n.e :: .bool n.p :: .int .u32 n.b :: .int .u32 n.q :: .int .i64 n.l :: .int .u32 n.xe :: .int .u32 n.xq :: .slice A2 n.sn.length c2 :: .int .u64 n.s :: .int .u32 n.te :: .int .u32 n.tq :: .int .u32 n.be :: .int .u32 n.bq :: .int .i64 n.nx :: .int .i64 n.tt :: .int .i64 n.rt :: [])) (rcV n A2 c2) rfl rfl ?_
    clear HS
    intro g8 w9 hg10 HS
    refine St.wBox HS (cs := [.int .u32 a, .int .u32 b]) (.agg ([.int .u32 a, .int .u32 b] : List Value).toArray) rfl rfl ?_
    clear HS
    intro g11 w12 hg13 HS
    refine p_run _ (x_assign (.bool false) rfl rfl) rfl ?_
    refine wpList_nil ?_
    refine fr_at (l' := (rcV r A c :: rcV n A2 c2 :: .agg ([.int .u32 a, .int .u32 b] : List Value).toArray :: .pointer (some ⟨g5, 0, none⟩) :: .pointer (some ⟨g8, 0, none⟩) :: .pointer (some ⟨g11, 0, none⟩) :: .bool false :: U64lb (U32lb (undef :: undef :: undef :: [])))) rfl ?_
    refine hK2 _ _ ?_
    refine wp_seq_k (fun K14 hK15 => ?_)
    refine wp_seq_k (fun K16 hK17 => ?_)
    refine c_region (fun ops19 hops18 => ?_)
    clear hops18
    refine w_call [] Try.func10 (by kernel_rfl) (by rfl) rfl ?_
    refine (ralive_any _).mono ?_
    rintro e w20 ⟨rfl, hb_⟩
    replace HS := HS.here hb_
    clear hb_
    refine ⟨_, rfl, ?_⟩
    refine p_run _ (x_not true rfl rfl) rfl ?_
    refine wpList_nil ?_
    refine hK17 _ _ ?_
    refine c_false rfl ?_
    refine wp_skip ?_
    refine hK15 _ _ ?_
    refine wp_seq_k (fun K21 hK22 => ?_)
    refine wp_seq_k (fun K23 hK24 => ?_)
    refine c_region (fun ops26 hops25 => ?_)
    refine p_run _ (x_field (j := 7) _ _ rfl rfl Try.underlying34 rfl (by rfl) rfl) rfl ?_
    refine p_run _ (x_load (.slice A r.sn.length c) rfl rfl (bkCell (HS.get (.tail _ (.tail _ (.head _)))) 7 _ rfl) (by rfl)) rfl ?_
    refine p_run _ (x_len rfl rfl Try.underlying29) rfl ?_
    refine p_run (l' := (rcV r A c :: rcV n A2 c2 :: .agg ([.int .u32 a, .int .u32 b] : List Value).toArray :: .pointer (some ⟨g5, 0, none⟩) :: .pointer (some ⟨g8, 0, none⟩) :: .pointer (some ⟨g11, 0, none⟩) :: .bool false :: U8lb (undef :: undef :: .bool true :: .bool false :: .pointer (some ⟨g5, 7, none⟩) :: .slice A r.sn.length c :: .int .i64 (r.sn.length : Int) :: .bool false :: U64lb (U16lb (undef :: undef :: undef :: []))))) _ (x_cmp (k := .i64) (m := (r.sn.length : Int)) (n := 30) .gtr false rfl rfl rfl (show decide _ = false from decide_eq_false (by omega)) rfl) rfl ?_
    refine p_run _ (x_move (.bool false) rfl rfl) rfl ?_
    refine p_on rfl (by rw [hops25]; rfl) ?_
    refine p_run _ (x_field (j := 7) _ _ rfl rfl Try.underlying34 rfl (by rfl) rfl) rfl ?_
    refine p_on rfl (by rw [hops25]; rfl) ?_
    refine p_run _ (x_load (.slice A2 n.sn.length c2) rfl rfl (bkCell (HS.get (.tail _ (.head _))) 7 _ rfl) (by rfl)) rfl ?_
    refine p_on rfl (by rw [hops25]; rfl) ?_
    refine p_run _ (x_len rfl rfl Try.underlying29) rfl ?_
    refine p_on rfl (by rw [hops25]; rfl) ?_
    refine p_run _ (x_cmp (k := .i64) (m := (n.sn.length : Int)) (n := 30) .gtr false rfl rfl rfl (show decide _ = false from decide_eq_false (by omega)) rfl) rfl ?_
    refine p_run (l' := (rcV r A c :: rcV n A2 c2 :: .agg ([.int .u32 a, .int .u32 b] : List Value).toArray :: .pointer (some ⟨g5, 0, none⟩) :: .pointer (some ⟨g8, 0, none⟩) :: .pointer (some ⟨g11, 0, none⟩) :: .bool false :: U8lb (undef :: undef :: .bool true :: .bool false :: .pointer (some ⟨g5, 7, none⟩) :: .slice A r.sn.length c :: .int .i64 (r.sn.length : Int) :: .bool false :: .bool false :: .pointer (some ⟨g8, 7, none⟩) :: .slice A2 n.sn.length c2 :: .int .i64 (n.sn.length : Int) :: .bool false :: .bool false :: U64lb (U8lb (U4lb (undef :: [])))))) _ (x_pick false (.bool true) (.bool false) (.bool false) rfl rfl rfl rfl rfl) rfl ?_
    clear hops25
    refine wpList_nil ?_
    refine hK24 _ _ ?_
    refine c_false rfl ?_
    refine wp_skip ?_
    refine hK22 _ _ ?_
    refine wp_seq_k (fun K27 hK28 => ?_)
    refine c_region (fun ops30 hops29 => ?_)
    clear hops29
    refine p_run _ (x_loads (.int .u32 r.e :: .bool r.p :: .int .u32 r.b :: .int .u32 r.q :: .int .i64 r.l :: .int .u32 r.xe :: .int .u32 r.xq :: .slice A r.sn.length c :: .int .u64 r.s :: .int .u32 r.te :: .int .u32 r.tq :: .int .u32 r.be :: .int .u32 r.bq :: .int .i64 r.nx :: .int .i64 r.tt :: .int .i64 r.rt :: []) 16 rfl rfl (bkCells (HS.get (.tail _ (.tail _ (.head _)))) 0 _ rfl) (by rfl) (by kernel_rfl) rfl) rfl ?_
    refine w_call [rcV r A c] Try.func8 (by kernel_rfl) (by rfl) rfl ?_
    refine (rbytes_law _ r A c (Kd.C_below hA HS.belowOf) (by omega) hw).mono ?_
    rintro e w33 ⟨A31, c32, rfl, hk_⟩
    replace HS := HS.more hk_
    clear hk_
    refine ⟨_, rfl, ?_⟩
    refine p_run _ (x_move (.tuple [.slice A31 ((bB r).length) c32, .int .i64 (bE r)].toArray) rfl rfl) rfl ?_
    refine p_run _ (x_extract (vs := [.slice A31 ((bB r).length) c32, .int .i64 (bE r)]) 0 (.slice A31 ((bB r).length) c32) rfl rfl rfl) rfl ?_
    refine p_run _ (x_extract (vs := [.slice A31 ((bB r).length) c32, .int .i64 (bE r)]) 1 (.int .i64 (bE r)) rfl rfl rfl) rfl ?_
    refine p_run (l' := (rcV r A c :: rcV n A2 c2 :: .agg ([.int .u32 a, .int .u32 b] : List Value).toArray :: .pointer (some ⟨g5, 0, none⟩) :: .pointer (some ⟨g8, 0, none⟩) :: .pointer (some ⟨g11, 0, none⟩) :: .bool false :: .slice A31 ((bB r).length) c32 :: U8lb (undef :: .bool true :: .bool false :: .pointer (some ⟨g5, 7, none⟩) :: .slice A r.sn.length c :: .int .i64 (r.sn.length : Int) :: .bool false :: .bool false :: .pointer (some ⟨g8, 7, none⟩) :: .slice A2 n.sn.length c2 :: .int .i64 (n.sn.length : Int) :: .bool false :: .bool false :: .tuple [.slice A31 ((bB r).length) c32, .int .i64 (bE r)].toArray :: rcV r A c :: .tuple [.slice A31 ((bB r).length) c32, .int .i64 (bE r)].toArray :: .slice A31 ((bB r).length) c32 :: .int .i64 (bE r) :: U64lb (U8lb ([]))))) _ (x_assign (.slice A31 ((bB r).length) c32) rfl rfl) rfl ?_
    refine p_run _ (x_assign (.int .i64 (bE r)) rfl rfl) rfl ?_
    refine wpList_nil ?_
    refine hK28 _ _ ?_
    refine wp_seq_k (fun K34 hK35 => ?_)
    refine c_region (fun ops37 hops36 => ?_)
    clear hops36
    refine p_run _ (x_loads (.int .u32 r.e :: .bool r.p :: .int .u32 r.b :: .int .u32 r.q :: .int .i64 r.l :: .int .u32 r.xe :: .int .u32 r.xq :: .slice A r.sn.length c :: .int .u64 r.s :: .int .u32 r.te :: .int .u32 r.tq :: .int .u32 r.be :: .int .u32 r.bq :: .int .i64 r.nx :: .int .i64 r.tt :: .int .i64 r.rt :: []) 16 rfl rfl (bkCells (HS.get (.tail _ (.tail _ (.tail _ (.head _))))) 0 _ rfl) (by rfl) (by kernel_rfl) rfl) rfl ?_
    refine w_call [rcV r A c] Try.func16 (by kernel_rfl) (by rfl) rfl ?_
    refine (r14bytes_law _ r A c (Kd.C_below hA HS.belowOf) (by omega) hw).mono ?_
    rintro e w40 ⟨A38, c39, rfl, hk_⟩
    replace HS := HS.more hk_
    clear hk_
    refine ⟨_, rfl, ?_⟩
    refine p_run _ (x_move (.tuple [.slice A38 ((bB r).length) c39, .int .i64 (bE r)].toArray) rfl rfl) rfl ?_
    refine p_run _ (x_extract (vs := [.slice A38 ((bB r).length) c39, .int .i64 (bE r)]) 0 (.slice A38 ((bB r).length) c39) rfl rfl rfl) rfl ?_
    refine p_run (l' := (rcV r A c :: rcV n A2 c2 :: .agg ([.int .u32 a, .int .u32 b] : List Value).toArray :: .pointer (some ⟨g5, 0, none⟩) :: .pointer (some ⟨g8, 0, none⟩) :: .pointer (some ⟨g11, 0, none⟩) :: .bool false :: .slice A31 ((bB r).length) c32 :: .int .i64 (bE r) :: U8lb (.bool true :: .bool false :: .pointer (some ⟨g5, 7, none⟩) :: .slice A r.sn.length c :: .int .i64 (r.sn.length : Int) :: .bool false :: .bool false :: .pointer (some ⟨g8, 7, none⟩) :: .slice A2 n.sn.length c2 :: .int .i64 (n.sn.length : Int) :: .bool false :: .bool false :: .tuple [.slice A31 ((bB r).length) c32, .int .i64 (bE r)].toArray :: rcV r A c :: .tuple [.slice A31 ((bB r).length) c32, .int .i64 (bE r)].toArray :: .slice A31 ((bB r).length) c32 :: .int .i64 (bE r) :: .tuple [.slice A38 ((bB r).length) c39, .int .i64 (bE r)].toArray :: rcV r A c :: .tuple [.slice A38 ((bB r).length) c39, .int .i64 (bE r)].toArray :: .slice A38 ((bB r).length) c39 :: .int .i64 (bE r) :: U64lb (undef :: undef :: undef :: [])))) _ (x_extract (vs := [.slice A38 ((bB r).length) c39, .int .i64 (bE r)]) 1 (.int .i64 (bE r)) rfl rfl rfl) rfl ?_
    refine p_run _ (x_assign (.slice A38 ((bB r).length) c39) rfl rfl) rfl ?_
    refine p_run _ (x_assign (.int .i64 (bE r)) rfl rfl) rfl ?_
    refine wpList_nil ?_
    refine hK35 _ _ ?_
    refine wp_seq_k (fun K41 hK42 => ?_)
    refine c_region (fun ops44 hops43 => ?_)
    clear hops43
    refine p_run _ (x_loads (.int .u32 r.e :: .bool r.p :: .int .u32 r.b :: .int .u32 r.q :: .int .i64 r.l :: .int .u32 r.xe :: .int .u32 r.xq :: .slice A r.sn.length c :: .int .u64 r.s :: .int .u32 r.te :: .int .u32 r.tq :: .int .u32 r.be :: .int .u32 r.bq :: .int .i64 r.nx :: .int .i64 r.tt :: .int .i64 r.rt :: []) 16 rfl rfl (bkCells (HS.get (.tail _ (.tail _ (.tail _ (.tail _ (.head _)))))) 0 _ rfl) (by rfl) (by kernel_rfl) rfl) rfl ?_
    refine p_run _ (x_loads [.int .u32 a, .int .u32 b] 2 rfl rfl (bkCells (HS.get (.tail _ (.tail _ (.head _)))) 0 _ rfl) (by rfl) (by kernel_rfl) rfl) rfl ?_
    refine w_call [rcV r A c, .agg ([.int .u32 a, .int .u32 b] : List Value).toArray] Try.func17 (by kernel_rfl) (by rfl) rfl ?_
    refine (rfind_any _ r A c (Kd.C_below hA HS.belowOf) (by omega) a b).mono ?_
    rintro e w45 ⟨rfl, hb_⟩
    replace HS := HS.here hb_
    clear hb_
    refine ⟨_, rfl, ?_⟩
    refine p_run (l' := (rcV r A c :: rcV n A2 c2 :: .agg ([.int .u32 a, .int .u32 b] : List Value).toArray :: .pointer (some ⟨g5, 0, none⟩) :: .pointer (some ⟨g8, 0, none⟩) :: .pointer (some ⟨g11, 0, none⟩) :: .bool false :: .slice A31 ((bB r).length) c32 :: .int .i64 (bE r) :: .slice A38 ((bB r).length) c39 :: .int .i64 (bE r) :: U4lb (undef :: undef :: .bool true :: .bool false :: .pointer (some ⟨g5, 7, none⟩) :: .slice A r.sn.length c :: .int .i64 (r.sn.length : Int) :: .bool false :: .bool false :: .pointer (some ⟨g8, 7, none⟩) :: .slice A2 n.sn.length c2 :: .int .i64 (n.sn.length : Int) :: .bool false :: .bool false :: .tuple [.slice A31 ((bB r).length) c32, .int .i64 (bE r)].toArray :: rcV r A c :: .tuple [.slice A31 ((bB r).length) c32, .int .i64 (bE r)].toArray :: .slice A31 ((bB r).length) c32 :: .int .i64 (bE r) :: .tuple [.slice A38 ((bB r).length) c39, .int .i64 (bE r)].toArray :: rcV r A c :: .tuple [.slice A38 ((bB r).length) c39, .int .i64 (bE r)].toArray :: .slice A38 ((bB r).length) c39 :: .int .i64 (bE r) :: .tuple [.agg ([.int .u32 ((fdO r.sn a b).1), .int .u32 ((fdO r.sn a b).2.1), .int .i64 ((fdO r.sn a b).2.2.1), .int .u32 ((fdO r.sn a b).2.2.2)] : List Value).toArray, .bool (fdB r.sn a b)].toArray :: rcV r A c :: .agg ([.int .u32 a, .int .u32 b] : List Value).toArray :: .tuple [.agg ([.int .u32 ((fdO r.sn a b).1), .int .u32 ((fdO r.sn a b).2.1), .int .i64 ((fdO r.sn a b).2.2.1), .int .u32 ((fdO r.sn a b).2.2.2)] : List Value).toArray, .bool (fdB r.sn a b)].toArray :: U32lb (U16lb (U8lb (U4lb (undef :: undef :: undef :: []))))))) _ (x_move (.tuple [.agg ([.int .u32 ((fdO r.sn a b).1), .int .u32 ((fdO r.sn a b).2.1), .int .i64 ((fdO r.sn a b).2.2.1), .int .u32 ((fdO r.sn a b).2.2.2)] : List Value).toArray, .bool (fdB r.sn a b)].toArray) rfl rfl) rfl ?_
    refine p_run _ (x_extract (vs := [.agg ([.int .u32 ((fdO r.sn a b).1), .int .u32 ((fdO r.sn a b).2.1), .int .i64 ((fdO r.sn a b).2.2.1), .int .u32 ((fdO r.sn a b).2.2.2)] : List Value).toArray, .bool (fdB r.sn a b)]) 0 (.agg ([.int .u32 ((fdO r.sn a b).1), .int .u32 ((fdO r.sn a b).2.1), .int .i64 ((fdO r.sn a b).2.2.1), .int .u32 ((fdO r.sn a b).2.2.2)] : List Value).toArray) rfl rfl rfl) rfl ?_
    refine p_run _ (x_extract (vs := [.agg ([.int .u32 ((fdO r.sn a b).1), .int .u32 ((fdO r.sn a b).2.1), .int .i64 ((fdO r.sn a b).2.2.1), .int .u32 ((fdO r.sn a b).2.2.2)] : List Value).toArray, .bool (fdB r.sn a b)]) 1 (.bool (fdB r.sn a b)) rfl rfl rfl) rfl ?_
    refine St.wAlloc HS (cs := [.int .u32 0, .int .u32 0, .int .i64 0, .int .u32 0]) (.agg [.int .u32 0, .int .u32 0, .int .i64 0, .int .u32 0].toArray) (by kernel_rfl) rfl ?_
    clear HS
    intro g46 w47 hg48 HS
    refine St.stores (cs' := [.int .u32 ((fdO r.sn a b).1), .int .u32 ((fdO r.sn a b).2.1), .int .i64 ((fdO r.sn a b).2.2.1), .int .u32 ((fdO r.sn a b).2.2.2)]) HS [.int .u32 ((fdO r.sn a b).1), .int .u32 ((fdO r.sn a b).2.1), .int .i64 ((fdO r.sn a b).2.2.1), .int .u32 ((fdO r.sn a b).2.2.2)] 4 rfl rfl (by rfl) (by kernel_rfl) rfl (by simp) rfl ?_
    clear HS
    intro w49 HS
    refine p_run _ (x_assign (.bool (fdB r.sn a b)) rfl rfl) rfl ?_
    refine wpList_nil ?_
    obtain ⟨qz50, hqz50⟩ : ∃ q_ : V8, q_ = ⟨.pointer (some ⟨g8, 7, none⟩), .slice A2 n.sn.length c2, .int .i64 (n.sn.length : Int), .bool false, .bool false, .tuple [.slice A31 ((bB r).length) c32, .int .i64 (bE r)].toArray, rcV r A c, .tuple [.slice A31 ((bB r).length) c32, .int .i64 (bE r)].toArray⟩ := ⟨_, rfl⟩
    obtain ⟨qz51, hqz51⟩ : ∃ q_ : V8, q_ = ⟨.slice A31 ((bB r).length) c32, .int .i64 (bE r), .tuple [.slice A38 ((bB r).length) c39, .int .i64 (bE r)].toArray, rcV r A c, .tuple [.slice A38 ((bB r).length) c39, .int .i64 (bE r)].toArray, .slice A38 ((bB r).length) c39, .int .i64 (bE r), .tuple [.agg ([.int .u32 ((fdO r.sn a b).1), .int .u32 ((fdO r.sn a b).2.1), .int .i64 ((fdO r.sn a b).2.2.1), .int .u32 ((fdO r.sn a b).2.2.2)] : List Value).toArray, .bool (fdB r.sn a b)].toArray⟩ := ⟨_, rfl⟩
    refine fr_at (l' := (rcV r A c :: rcV n A2 c2 :: .agg ([.int .u32 a, .int .u32 b] : List Value).toArray :: .pointer (some ⟨g5, 0, none⟩) :: .pointer (some ⟨g8, 0, none⟩) :: .pointer (some ⟨g11, 0, none⟩) :: .bool false :: .slice A31 ((bB r).length) c32 :: .int .i64 (bE r) :: .slice A38 ((bB r).length) c39 :: .int .i64 (bE r) :: .pointer (some ⟨g46, 0, none⟩) :: .bool (fdB r.sn a b) :: U4lb (.bool true :: .bool false :: .pointer (some ⟨g5, 7, none⟩) :: .slice A r.sn.length c :: .int .i64 (r.sn.length : Int) :: .bool false :: .bool false :: V8.l qz50 (V8.l qz51 (rcV r A c :: .agg ([.int .u32 a, .int .u32 b] : List Value).toArray :: .tuple [.agg ([.int .u32 ((fdO r.sn a b).1), .int .u32 ((fdO r.sn a b).2.1), .int .i64 ((fdO r.sn a b).2.2.1), .int .u32 ((fdO r.sn a b).2.2.2)] : List Value).toArray, .bool (fdB r.sn a b)].toArray :: .agg ([.int .u32 ((fdO r.sn a b).1), .int .u32 ((fdO r.sn a b).2.1), .int .i64 ((fdO r.sn a b).2.2.1), .int .u32 ((fdO r.sn a b).2.2.2)] : List Value).toArray :: .bool (fdB r.sn a b) :: U32lb (U16lb (U8lb (U4lb (undef :: []))))))))) (by subst hqz50 hqz51; rfl) ?_
    refine hK42 _ _ ?_
    refine wp_seq_k (fun K52 hK53 => ?_)
    refine c_region (fun ops55 hops54 => ?_)
    clear hops54
    refine p_run _ (x_build [.int .u32 0, .int .u32 0, .int .i64 0, .int .u32 0] rfl (by kernel_rfl)) rfl ?_
    refine St.wAlloc HS (cs := [.int .u32 0, .int .u32 0, .int .i64 0, .int .u32 0]) (.agg [.int .u32 0, .int .u32 0, .int .i64 0, .int .u32 0].toArray) (by kernel_rfl) rfl ?_
    clear HS
    intro g56 w57 hg58 HS
    refine St.stores (cs' := [.int .u32 0, .int .u32 0, .int .i64 0, .int .u32 0]) HS [.int .u32 0, .int .u32 0, .int .i64 0, .int .u32 0] 4 rfl rfl (by rfl) (by kernel_rfl) rfl (by simp) rfl ?_
    clear HS
    intro w59 HS
    refine p_run _ (x_assign (.bool false) rfl rfl) rfl ?_
    refine wpList_nil ?_
    refine hK53 _ _ ?_
    refine wp_seq_k (fun K60 hK61 => ?_)
    refine wp_seq_k (fun K62 hK63 => ?_)
    refine c_region (fun ops65 hops64 => ?_)
    clear hops64
    refine p_run _ (x_field (j := 7) _ _ rfl rfl Try.underlying34 rfl (by rfl) rfl) rfl ?_
    refine p_run _ (x_load (.slice A r.sn.length c) rfl rfl (bkCell (HS.get (.tail _ (.tail _ (.tail _ (.tail _ (.tail _ (.tail _ (.head _)))))))) 7 _ rfl) (by rfl)) rfl ?_
    refine p_run (l' := (rcV r A c :: rcV n A2 c2 :: .agg ([.int .u32 a, .int .u32 b] : List Value).toArray :: .pointer (some ⟨g5, 0, none⟩) :: .pointer (some ⟨g8, 0, none⟩) :: .pointer (some ⟨g11, 0, none⟩) :: .bool false :: .slice A31 ((bB r).length) c32 :: .int .i64 (bE r) :: .slice A38 ((bB r).length) c39 :: .int .i64 (bE r) :: .pointer (some ⟨g46, 0, none⟩) :: .bool (fdB r.sn a b) :: .pointer (some ⟨g56, 0, none⟩) :: .bool false :: undef :: undef :: .bool true :: .bool false :: .pointer (some ⟨g5, 7, none⟩) :: .slice A r.sn.length c :: .int .i64 (r.sn.length : Int) :: .bool false :: .bool false :: V8.l qz50 (V8.l qz51 (rcV r A c :: .agg ([.int .u32 a, .int .u32 b] : List Value).toArray :: .tuple [.agg ([.int .u32 ((fdO r.sn a b).1), .int .u32 ((fdO r.sn a b).2.1), .int .i64 ((fdO r.sn a b).2.2.1), .int .u32 ((fdO r.sn a b).2.2.2)] : List Value).toArray, .bool (fdB r.sn a b)].toArray :: .agg ([.int .u32 ((fdO r.sn a b).1), .int .u32 ((fdO r.sn a b).2.1), .int .i64 ((fdO r.sn a b).2.2.1), .int .u32 ((fdO r.sn a b).2.2.2)] : List Value).toArray :: .bool (fdB r.sn a b) :: .agg ([.int .u32 0, .int .u32 0, .int .i64 0, .int .u32 0] : List Value).toArray :: .pointer (some ⟨g5, 7, none⟩) :: .slice A r.sn.length c :: .int .i64 (r.sn.length : Int) :: U32lb (U16lb (U8lb (undef :: []))))))) _ (x_len rfl rfl Try.underlying29) rfl ?_
    refine p_run _ (x_move (.int .i64 0) rfl rfl) rfl ?_
    refine wpList_nil ?_
    refine fr_at (l' := (rcV r A c :: rcV n A2 c2 :: .agg ([.int .u32 a, .int .u32 b] : List Value).toArray :: .pointer (some ⟨g5, 0, none⟩) :: .pointer (some ⟨g8, 0, none⟩) :: .pointer (some ⟨g11, 0, none⟩) :: .bool false :: .slice A31 ((bB r).length) c32 :: .int .i64 (bE r) :: .slice A38 ((bB r).length) c39 :: .int .i64 (bE r) :: .pointer (some ⟨g46, 0, none⟩) :: .bool (fdB r.sn a b) :: .pointer (some ⟨g56, 0, none⟩) :: .bool false :: undef :: undef :: .bool true :: .bool false :: .pointer (some ⟨g5, 7, none⟩) :: .slice A r.sn.length c :: .int .i64 (r.sn.length : Int) :: .bool false :: .bool false :: V8.l qz50 (V8.l qz51 (rcV r A c :: .agg ([.int .u32 a, .int .u32 b] : List Value).toArray :: .tuple [.agg ([.int .u32 ((fdO r.sn a b).1), .int .u32 ((fdO r.sn a b).2.1), .int .i64 ((fdO r.sn a b).2.2.1), .int .u32 ((fdO r.sn a b).2.2.2)] : List Value).toArray, .bool (fdB r.sn a b)].toArray :: .agg ([.int .u32 ((fdO r.sn a b).1), .int .u32 ((fdO r.sn a b).2.1), .int .i64 ((fdO r.sn a b).2.2.1), .int .u32 ((fdO r.sn a b).2.2.2)] : List Value).toArray :: .bool (fdB r.sn a b) :: .agg ([.int .u32 0, .int .u32 0, .int .i64 0, .int .u32 0] : List Value).toArray :: .pointer (some ⟨g5, 7, none⟩) :: .slice A r.sn.length c :: .int .i64 (r.sn.length : Int) :: .int .i64 0 :: U32lb (U16lb (U8lb ([]))))))) rfl ?_
    refine hK63 _ _ ?_
    refine wp_block ?_
    refine c_loop (ι := Nat × Sn × Bool) (fun i_ a_ w_ => match i_ with | (j, q, f) => ∃ (u16 : Value) (u50 : Value) (u51 : Value) (u52 : Value) (u53 : Value) (u54 : Value) (u55 : Value) (u56 : Value) (u57 : Value) (u58 : Value) (u59 : Value) (u60 : Value) (u61 : Value) (u62 : Value), a_ = fr (rcV r A c :: rcV n A2 c2 :: .agg ([.int .u32 a, .int .u32 b] : List Value).toArray :: .pointer (some ⟨g5, 0, none⟩) :: .pointer (some ⟨g8, 0, none⟩) :: .pointer (some ⟨g11, 0, none⟩) :: .bool false :: .slice A31 ((bB r).length) c32 :: .int .i64 (bE r) :: .slice A38 ((bB r).length) c39 :: .int .i64 (bE r) :: .pointer (some ⟨g46, 0, none⟩) :: .bool (fdB r.sn a b) :: .pointer (some ⟨g56, 0, none⟩) :: .bool f :: undef :: u16 :: .bool true :: .bool false :: .pointer (some ⟨g5, 7, none⟩) :: .slice A r.sn.length c :: .int .i64 (r.sn.length : Int) :: .bool false :: .bool false :: V8.l qz50 (V8.l qz51 (rcV r A c :: .agg ([.int .u32 a, .int .u32 b] : List Value).toArray :: .tuple [.agg ([.int .u32 ((fdO r.sn a b).1), .int .u32 ((fdO r.sn a b).2.1), .int .i64 ((fdO r.sn a b).2.2.1), .int .u32 ((fdO r.sn a b).2.2.2)] : List Value).toArray, .bool (fdB r.sn a b)].toArray :: .agg ([.int .u32 ((fdO r.sn a b).1), .int .u32 ((fdO r.sn a b).2.1), .int .i64 ((fdO r.sn a b).2.2.1), .int .u32 ((fdO r.sn a b).2.2.2)] : List Value).toArray :: .bool (fdB r.sn a b) :: .agg ([.int .u32 0, .int .u32 0, .int .i64 0, .int .u32 0] : List Value).toArray :: .pointer (some ⟨g5, 7, none⟩) :: .slice A r.sn.length c :: .int .i64 (r.sn.length : Int) :: .int .i64 (j : Int) :: u50 :: u51 :: u52 :: u53 :: u54 :: u55 :: u56 :: u57 :: u58 :: u59 :: u60 :: u61 :: u62 :: U32lb (U8lb (undef :: undef :: undef :: []))))) ∧ St w (fun _ => False) w_ ([blk g56 [.int .u32 q.1, .int .u32 q.2.1, .int .i64 q.2.2.1, .int .u32 q.2.2.2] 48, blk g5 (.int .u32 r.e :: .bool r.p :: .int .u32 r.b :: .int .u32 r.q :: .int .i64 r.l :: .int .u32 r.xe :: .int .u32 r.xq :: .slice A r.sn.length c :: .int .u64 r.s :: .int .u32 r.te :: .int .u32 r.tq :: .int .u32 r.be :: .int .u32 r.bq :: .int .i64 r.nx :: .int .i64 r.tt :: .int .i64 r.rt :: []) 34, blk g8 (.int .u32 n.e :: .bool n.p :: .int .u32 n.b :: .int .u32 n.q :: .int .i64 n.l :: .int .u32 n.xe :: .int .u32 n.xq :: .slice A2 n.sn.length c2 :: .int .u64 n.s :: .int .u32 n.te :: .int .u32 n.tq :: .int .u32 n.be :: .int .u32 n.bq :: .int .i64 n.nx :: .int .i64 n.tt :: .int .i64 n.rt :: []) 34, blk g11 [.int .u32 a, .int .u32 b] 28, blk g46 [.int .u32 ((fdO r.sn a b).1), .int .u32 ((fdO r.sn a b).2.1), .int .i64 ((fdO r.sn a b).2.2.1), .int .u32 ((fdO r.sn a b).2.2.2)] 48, row kByte rfl 5 (.slice A38 ((bB r).length) c39) (bB r), row kByte rfl 5 (.slice A31 ((bB r).length) c32) (bB r)]) ∧ (j ≤ r.sn.length ∧ Seen r.sn a b j q f)) (fun i_ => match i_ with | (j, q, f) => r.sn.length - j) (0, (0, 0, 0, 0), false) ?_ ?_
    · exact ⟨_, _, _, _, _, _, _, _, _, _, _, _, _, _, rfl, (((((((HS.front 3 rfl).front 3 rfl).front 3 rfl).front 4 rfl).front 5 rfl).front 6 rfl).front 6 rfl), ⟨Nat.zero_le _, .inl ⟨rfl, rfl, rfl⟩⟩⟩
    · clear HS
      rintro ⟨j, q, f⟩ a_ w68 ⟨u16, u50, u51, u52, u53, u54, u55, u56, u57, u58, u59, u60, u61, u62, rfl, HS, hI⟩ J66 hJ67
      obtain ⟨hjl, hI2⟩ := hI
      refine wp_seq_k (fun K69 hK70 => ?_)
      refine c_region (fun ops72 hops71 => ?_)
      clear hops71
      refine p_run _ (x_cmp (k := .i64) (m := (j : Int)) (n := (r.sn.length : Int)) .lss (decide ((j : Int) < (r.sn.length : Int))) rfl rfl rfl rfl rfl) rfl ?_
      refine wpList_nil ?_
      refine hK70 _ _ ?_
      refine wp_seq_k (fun K73 hK74 => ?_)
      refine c_cond (t := decide ((j : Int) < (r.sn.length : Int))) rfl (fun hc75 => ?_) (fun hc75 => ?_)
      · have hlt : j < r.sn.length := by have := of_decide_eq_true hc75; omega
        obtain ⟨ad, x, rfl, hx, -⟩ := sn_get (Kd.C_below hA HS.belowOf) j hlt
        refine wp_skip ?_
        refine hK74 _ _ ?_
        refine wp_seq_k (fun K76 hK77 => ?_)
        have hT78 : ∀ (q2 : Sn) (f2 : Bool) (q79 : V8) (q80 : V8) (w81 : World), St w (fun _ => False) w81 ([blk g56 [.int .u32 q2.1, .int .u32 q2.2.1, .int .i64 q2.2.2.1, .int .u32 q2.2.2.2] 48, blk g5 (.int .u32 r.e :: .bool r.p :: .int .u32 r.b :: .int .u32 r.q :: .int .i64 r.l :: .int .u32 r.xe :: .int .u32 r.xq :: .slice (some ad) r.sn.length c :: .int .u64 r.s :: .int .u32 r.te :: .int .u32 r.tq :: .int .u32 r.be :: .int .u32 r.bq :: .int .i64 r.nx :: .int .i64 r.tt :: .int .i64 r.rt :: []) 34, blk g8 (.int .u32 n.e :: .bool n.p :: .int .u32 n.b :: .int .u32 n.q :: .int .i64 n.l :: .int .u32 n.xe :: .int .u32 n.xq :: .slice A2 n.sn.length c2 :: .int .u64 n.s :: .int .u32 n.te :: .int .u32 n.tq :: .int .u32 n.be :: .int .u32 n.bq :: .int .i64 n.nx :: .int .i64 n.tt :: .int .i64 n.rt :: []) 34, blk g11 [.int .u32 a, .int .u32 b] 28, blk g46 [.int .u32 ((fdO r.sn a b).1), .int .u32 ((fdO r.sn a b).2.1), .int .i64 ((fdO r.sn a b).2.2.1), .int .u32 ((fdO r.sn a b).2.2.2)] 48, row kByte rfl 5 (.slice A38 ((bB r).length) c39) (bB r), row kByte rfl 5 (.slice A31 ((bB r).length) c32) (bB r)]) → (Seen r.sn a b (j + 1) q2 f2) → K76 (fr (rcV r (some ad) c :: rcV n A2 c2 :: .agg ([.int .u32 a, .int .u32 b] : List Value).toArray :: .pointer (some ⟨g5, 0, none⟩) :: .pointer (some ⟨g8, 0, none⟩) :: .pointer (some ⟨g11, 0, none⟩) :: .bool false :: .slice A31 ((bB r).length) c32 :: .int .i64 (bE r) :: .slice A38 ((bB r).length) c39 :: .int .i64 (bE r) :: .pointer (some ⟨g46, 0, none⟩) :: .bool (fdB r.sn a b) :: .pointer (some ⟨g56, 0, none⟩) :: .bool f2 :: undef :: q79.a :: .bool true :: .bool false :: .pointer (some ⟨g5, 7, none⟩) :: .slice (some ad) r.sn.length c :: .int .i64 (r.sn.length : Int) :: .bool false :: .bool false :: V8.l qz50 (V8.l qz51 (rcV r (some ad) c :: .agg ([.int .u32 a, .int .u32 b] : List Value).toArray :: .tuple [.agg ([.int .u32 ((fdO r.sn a b).1), .int .u32 ((fdO r.sn a b).2.1), .int .i64 ((fdO r.sn a b).2.2.1), .int .u32 ((fdO r.sn a b).2.2.2)] : List Value).toArray, .bool (fdB r.sn a b)].toArray :: .agg ([.int .u32 ((fdO r.sn a b).1), .int .u32 ((fdO r.sn a b).2.1), .int .i64 ((fdO r.sn a b).2.2.1), .int .u32 ((fdO r.sn a b).2.2.2)] : List Value).toArray :: .bool (fdB r.sn a b) :: .agg ([.int .u32 0, .int .u32 0, .int .i64 0, .int .u32 0] : List Value).toArray :: .pointer (some ⟨g5, 7, none⟩) :: .slice (some ad) r.sn.length c :: .int .i64 (r.sn.length : Int) :: .int .i64 (j : Int) :: .bool (decide ((j : Int) < (r.sn.length : Int))) :: q79.b :: q79.c :: q79.d :: q79.e :: q79.f :: q79.g :: q79.h :: q80.a :: q80.b :: q80.c :: q80.d :: u62 :: U32lb (U8lb (undef :: undef :: undef :: [])))))) w81 := by
          clear HS
          intro q2 f2 q79 q80 w81 HS hJ
          refine hK77 _ _ ?_
          have hI3 := hJ
          refine c_region (fun ops83 hops82 => ?_)
          clear hops82
          refine p_run _ (x_arith (k := .i64) (m := (j : Int)) (n := 1) .add (((j + 1 : Nat) : Int)) rfl rfl rfl (show IntKind.i64.wrap ((j : Int) + 1) = ((j + 1 : Nat) : Int) from ((wr64' (by omega)).trans (by omega))) rfl) rfl ?_
          refine p_run _ (x_move (.int .i64 ((j + 1 : Nat) : Int)) rfl rfl) rfl ?_
          refine wpList_nil ?_
          refine fr_at (l' := (rcV r (some ad) c :: rcV n A2 c2 :: .agg ([.int .u32 a, .int .u32 b] : List Value).toArray :: .pointer (some ⟨g5, 0, none⟩) :: .pointer (some ⟨g8, 0, none⟩) :: .pointer (some ⟨g11, 0, none⟩) :: .bool false :: .slice A31 ((bB r).length) c32 :: .int .i64 (bE r) :: .slice A38 ((bB r).length) c39 :: .int .i64 (bE r) :: .pointer (some ⟨g46, 0, none⟩) :: .bool (fdB r.sn a b) :: .pointer (some ⟨g56, 0, none⟩) :: .bool f2 :: undef :: q79.a :: .bool true :: .bool false :: .pointer (some ⟨g5, 7, none⟩) :: .slice (some ad) r.sn.length c :: .int .i64 (r.sn.length : Int) :: .bool false :: .bool false :: V8.l qz50 (V8.l qz51 (rcV r (some ad) c :: .agg ([.int .u32 a, .int .u32 b] : List Value).toArray :: .tuple [.agg ([.int .u32 ((fdO r.sn a b).1), .int .u32 ((fdO r.sn a b).2.1), .int .i64 ((fdO r.sn a b).2.2.1), .int .u32 ((fdO r.sn a b).2.2.2)] : List Value).toArray, .bool (fdB r.sn a b)].toArray :: .agg ([.int .u32 ((fdO r.sn a b).1), .int .u32 ((fdO r.sn a b).2.1), .int .i64 ((fdO r.sn a b).2.2.1), .int .u32 ((fdO r.sn a b).2.2.2)] : List Value).toArray :: .bool (fdB r.sn a b) :: .agg ([.int .u32 0, .int .u32 0, .int .i64 0, .int .u32 0] : List Value).toArray :: .pointer (some ⟨g5, 7, none⟩) :: .slice (some ad) r.sn.length c :: .int .i64 (r.sn.length : Int) :: .int .i64 ((j + 1 : Nat) : Int) :: .bool (decide ((j : Int) < (r.sn.length : Int))) :: q79.b :: q79.c :: q79.d :: q79.e :: q79.f :: q79.g :: q79.h :: q80.a :: q80.b :: q80.c :: q80.d :: .int .i64 ((j + 1 : Nat) : Int) :: U32lb (U8lb (undef :: undef :: undef :: [])))))) rfl ?_
          refine hJ67 (j + 1, q2, f2) _ _ ?_ ?_
          · show r.sn.length - (j + 1) < r.sn.length - j; omega
          · exact ⟨_, _, _, _, _, _, _, _, _, _, _, _, _, _, rfl, (((((((HS.front 6 rfl).front 6 rfl).front 6 rfl).front 6 rfl).front 6 rfl).front 6 rfl).front 6 rfl), ⟨by omega, hI3⟩⟩
        clear hK77
        refine wp_block ?_
        refine wp_seq_k (fun K84 hK85 => ?_)
        refine c_region (fun ops87 hops86 => ?_)
        clear hops86
        refine p_run _ (x_index (A := ad) (j := j * 4) (sz := 4) rfl rfl rfl Try.underlying29 (by kernel_rfl) (by omega) rfl) rfl ?_
        refine p_run _ (x_loads [.int .u32 x.1, .int .u32 x.2.1, .int .i64 x.2.2.1, .int .u32 x.2.2.2] 4 rfl rfl (sn_cells (Kd.C_below hA HS.belowOf) hx) (by rfl) (by kernel_rfl) rfl) rfl ?_
        refine St.wAlloc HS (cs := [.int .u32 0, .int .u32 0, .int .i64 0, .int .u32 0]) (.agg [.int .u32 0, .int .u32 0, .int .i64 0, .int .u32 0].toArray) (by kernel_rfl) rfl ?_
        clear HS
        intro g88 w89 hg90 HS
        refine St.stores (cs' := [.int .u32 x.1, .int .u32 x.2.1, .int .i64 x.2.2.1, .int .u32 x.2.2.2]) HS [.int .u32 x.1, .int .u32 x.2.1, .int .i64 x.2.2.1, .int .u32 x.2.2.2] 4 rfl rfl (by rfl) (by kernel_rfl) rfl (by simp) rfl ?_
        clear HS
        intro w91 HS
        refine wpList_nil ?_
        refine hK85 _ _ ?_
        refine wp_seq_k (fun K92 hK93 => ?_)
        refine c_region (fun ops95 hops94 => ?_)
        refine p_run _ (x_field (j := 0) _ _ rfl rfl Try.underlying48 rfl (by rfl) rfl) rfl ?_
        refine p_run _ (x_loads [.int .u32 x.1, .int .u32 x.2.1] 2 rfl rfl (bkCells (HS.get (.head _)) 0 _ rfl) (by rfl) (by kernel_rfl) rfl) rfl ?_
        refine p_run (l' := (rcV r (some ad) c :: rcV n A2 c2 :: .agg ([.int .u32 a, .int .u32 b] : List Value).toArray :: .pointer (some ⟨g5, 0, none⟩) :: .pointer (some ⟨g8, 0, none⟩) :: .pointer (some ⟨g11, 0, none⟩) :: .bool false :: .slice A31 ((bB r).length) c32 :: .int .i64 (bE r) :: .slice A38 ((bB r).length) c39 :: .int .i64 (bE r) :: .pointer (some ⟨g46, 0, none⟩) :: .bool (fdB r.sn a b) :: .pointer (some ⟨g56, 0, none⟩) :: .bool f :: undef :: .pointer (some ⟨g88, 0, none⟩) :: .bool true :: .bool false :: .pointer (some ⟨g5, 7, none⟩) :: .slice (some ad) r.sn.length c :: .int .i64 (r.sn.length : Int) :: .bool false :: .bool false :: V8.l qz50 (V8.l qz51 (rcV r (some ad) c :: .agg ([.int .u32 a, .int .u32 b] : List Value).toArray :: .tuple [.agg ([.int .u32 ((fdO r.sn a b).1), .int .u32 ((fdO r.sn a b).2.1), .int .i64 ((fdO r.sn a b).2.2.1), .int .u32 ((fdO r.sn a b).2.2.2)] : List Value).toArray, .bool (fdB r.sn a b)].toArray :: .agg ([.int .u32 ((fdO r.sn a b).1), .int .u32 ((fdO r.sn a b).2.1), .int .i64 ((fdO r.sn a b).2.2.1), .int .u32 ((fdO r.sn a b).2.2.2)] : List Value).toArray :: .bool (fdB r.sn a b) :: .agg ([.int .u32 0, .int .u32 0, .int .i64 0, .int .u32 0] : List Value).toArray :: .pointer (some ⟨g5, 7, none⟩) :: .slice (some ad) r.sn.length c :: .int .i64 (r.sn.length : Int) :: .int .i64 (j : Int) :: .bool (decide ((j : Int) < (r.sn.length : Int))) :: .pointer (some ((ad).add (j * 4))) :: .agg ([.int .u32 x.1, .int .u32 x.2.1, .int .i64 x.2.2.1, .int .u32 x.2.2.2] : List Value).toArray :: .pointer (some ⟨g88, 0, none⟩) :: .agg ([.int .u32 x.1, .int .u32 x.2.1] : List Value).toArray :: .agg ([.int .u32 a, .int .u32 b] : List Value).toArray :: u56 :: u57 :: u58 :: u59 :: u60 :: u61 :: u62 :: U32lb (U8lb (undef :: undef :: undef :: [])))))) _ (x_loads [.int .u32 a, .int .u32 b] 2 rfl rfl (bkCells (HS.get (.tail _ (.tail _ (.tail _ (.tail _ (.head _)))))) 0 _ rfl) (by rfl) (by kernel_rfl) rfl) rfl ?_
        refine p_run _ (x_eq .eql (.agg ([.int .u32 x.1, .int .u32 x.2.1] : List Value).toArray) (.agg ([.int .u32 a, .int .u32 b] : List Value).toArray) (decide (x.1 = a ∧ x.2.1 = b)) ((decide (x.1 = a ∧ x.2.1 = b))) rfl rfl rfl (equal_lb _ x.1 x.2.1 a b) rfl rfl (guard_agg (by kernel_rfl)) (guard_agg (by kernel_rfl))) rfl ?_
        refine p_run _ (x_move (.bool (decide (x.1 = a ∧ x.2.1 = b))) rfl rfl) rfl ?_
        obtain ⟨bz96, hbz96⟩ : ∃ b_, b_ = ((decide (x.1 = a ∧ x.2.1 = b))) := ⟨_, rfl⟩
        rw [← hbz96]
        refine p_tail 3 (fun a_ w_ => ∃ (uz58 uz59 : Value) (bz97 : Bool), a_ = fr (rcV r (some ad) c :: rcV n A2 c2 :: .agg ([.int .u32 a, .int .u32 b] : List Value).toArray :: .pointer (some ⟨g5, 0, none⟩) :: .pointer (some ⟨g8, 0, none⟩) :: .pointer (some ⟨g11, 0, none⟩) :: .bool false :: .slice A31 ((bB r).length) c32 :: .int .i64 (bE r) :: .slice A38 ((bB r).length) c39 :: .int .i64 (bE r) :: .pointer (some ⟨g46, 0, none⟩) :: .bool (fdB r.sn a b) :: .pointer (some ⟨g56, 0, none⟩) :: .bool f :: undef :: .pointer (some ⟨g88, 0, none⟩) :: .bool true :: .bool false :: .pointer (some ⟨g5, 7, none⟩) :: .slice (some ad) r.sn.length c :: .int .i64 (r.sn.length : Int) :: .bool false :: .bool false :: V8.l qz50 (V8.l qz51 (rcV r (some ad) c :: .agg ([.int .u32 a, .int .u32 b] : List Value).toArray :: .tuple [.agg ([.int .u32 ((fdO r.sn a b).1), .int .u32 ((fdO r.sn a b).2.1), .int .i64 ((fdO r.sn a b).2.2.1), .int .u32 ((fdO r.sn a b).2.2.2)] : List Value).toArray, .bool (fdB r.sn a b)].toArray :: .agg ([.int .u32 ((fdO r.sn a b).1), .int .u32 ((fdO r.sn a b).2.1), .int .i64 ((fdO r.sn a b).2.2.1), .int .u32 ((fdO r.sn a b).2.2.2)] : List Value).toArray :: .bool (fdB r.sn a b) :: .agg ([.int .u32 0, .int .u32 0, .int .i64 0, .int .u32 0] : List Value).toArray :: .pointer (some ⟨g5, 7, none⟩) :: .slice (some ad) r.sn.length c :: .int .i64 (r.sn.length : Int) :: .int .i64 (j : Int) :: .bool (decide ((j : Int) < (r.sn.length : Int))) :: .pointer (some ((ad).add (j * 4))) :: .agg ([.int .u32 x.1, .int .u32 x.2.1, .int .i64 x.2.2.1, .int .u32 x.2.2.2] : List Value).toArray :: .pointer (some ⟨g88, 0, none⟩) :: .agg ([.int .u32 x.1, .int .u32 x.2.1] : List Value).toArray :: .agg ([.int .u32 a, .int .u32 b] : List Value).toArray :: .bool bz96 :: .bool bz96 :: uz58 :: uz59 :: .bool bz97 :: u61 :: u62 :: U32lb (U8lb (undef :: undef :: undef :: []))))) ∧ bz97 = (bz96 && (!f)) ∧ St w (fun _ => False) w_ ([blk g88 [.int .u32 x.1, .int .u32 x.2.1, .int .i64 x.2.2.1, .int .u32 x.2.2.2] 48, blk g56 [.int .u32 q.1, .int .u32 q.2.1, .int .i64 q.2.2.1, .int .u32 q.2.2.2] 48, blk g5 (.int .u32 r.e :: .bool r.p :: .int .u32 r.b :: .int .u32 r.q :: .int .i64 r.l :: .int .u32 r.xe :: .int .u32 r.xq :: .slice (some ad) r.sn.length c :: .int .u64 r.s :: .int .u32 r.te :: .int .u32 r.tq :: .int .u32 r.be :: .int .u32 r.bq :: .int .i64 r.nx :: .int .i64 r.tt :: .int .i64 r.rt :: []) 34, blk g8 (.int .u32 n.e :: .bool n.p :: .int .u32 n.b :: .int .u32 n.q :: .int .i64 n.l :: .int .u32 n.xe :: .int .u32 n.xq :: .slice A2 n.sn.length c2 :: .int .u64 n.s :: .int .u32 n.te :: .int .u32 n.tq :: .int .u32 n.be :: .int .u32 n.bq :: .int .i64 n.nx :: .int .i64 n.tt :: .int .i64 n.rt :: []) 34, blk g11 [.int .u32 a, .int .u32 b] 28, blk g46 [.int .u32 ((fdO r.sn a b).1), .int .u32 ((fdO r.sn a b).2.1), .int .i64 ((fdO r.sn a b).2.2.1), .int .u32 ((fdO r.sn a b).2.2.2)] 48, row kByte rfl 5 (.slice A38 ((bB r).length) c39) (bB r), row kByte rfl 5 (.slice A31 ((bB r).length) c32) (bB r)])) (fun T98 => ?_) ?_
        · cases bz96
          · skip
            refine p_off (by rw [hops94]; rfl) rfl ?_
            refine p_off (by rw [hops94]; rfl) rfl ?_
            refine p_run _ (x_pick false (undef) (.bool false) (.bool false) rfl rfl rfl rfl rfl) rfl ?_
            exact T98 _ _ ⟨undef, undef, false, rfl, rfl, HS⟩
          · skip
            refine p_on rfl (by rw [hops94]; rfl) ?_
            refine p_run _ (x_move (.bool f) rfl rfl) rfl ?_
            refine p_on rfl (by rw [hops94]; rfl) ?_
            refine p_run _ (x_not f rfl rfl) rfl ?_
            refine p_run _ (x_pick true (.bool (!f)) (.bool false) (.bool (!f)) rfl rfl rfl rfl rfl) rfl ?_
            exact T98 _ _ ⟨(.bool f), (.bool (!f)), (!f), rfl, rfl, HS⟩
        clear HS
        rintro _ w_ ⟨uz58, uz59, bz97, rfl, hbz97, HS⟩
        skip
        clear hops94
        refine wpList_nil ?_
        refine hK93 _ _ ?_
        refine c_cond (t := bz97) rfl (fun hc100 => ?_) (fun hc100 => ?_)
        · rw [hbz97, hbz96] at hc100
          refine wp_seq_k (fun K101 hK102 => ?_)
          refine c_region (fun ops104 hops103 => ?_)
          clear hops103
          refine p_run _ (x_loads [.int .u32 x.1, .int .u32 x.2.1, .int .i64 x.2.2.1, .int .u32 x.2.2.2] 4 rfl rfl (bkCells (HS.get (.head _)) 0 _ rfl) (by rfl) (by kernel_rfl) rfl) rfl ?_
          refine St.stores (cs' := [.int .u32 x.1, .int .u32 x.2.1, .int .i64 x.2.2.1, .int .u32 x.2.2.2]) (HS.front 1 rfl) [.int .u32 x.1, .int .u32 x.2.1, .int .i64 x.2.2.1, .int .u32 x.2.2.2] 4 rfl rfl (by rfl) (by kernel_rfl) rfl (by simp) rfl ?_
          clear HS
          intro w105 HS
          refine wpList_nil ?_
          refine hK102 _ _ ?_
          refine c_region (fun ops107 hops106 => ?_)
          clear hops106
          refine p_run _ (x_assign (.bool true) rfl rfl) rfl ?_
          refine wpList_nil ?_
          refine fr_at (l' := (rcV r (some ad) c :: rcV n A2 c2 :: .agg ([.int .u32 a, .int .u32 b] : List Value).toArray :: .pointer (some ⟨g5, 0, none⟩) :: .pointer (some ⟨g8, 0, none⟩) :: .pointer (some ⟨g11, 0, none⟩) :: .bool false :: .slice A31 ((bB r).length) c32 :: .int .i64 (bE r) :: .slice A38 ((bB r).length) c39 :: .int .i64 (bE r) :: .pointer (some ⟨g46, 0, none⟩) :: .bool (fdB r.sn a b) :: .pointer (some ⟨g56, 0, none⟩) :: .bool true :: undef :: .pointer (some ⟨g88, 0, none⟩) :: .bool true :: .bool false :: .pointer (some ⟨g5, 7, none⟩) :: .slice (some ad) r.sn.length c :: .int .i64 (r.sn.length : Int) :: .bool false :: .bool false :: V8.l qz50 (V8.l qz51 (rcV r (some ad) c :: .agg ([.int .u32 a, .int .u32 b] : List Value).toArray :: .tuple [.agg ([.int .u32 ((fdO r.sn a b).1), .int .u32 ((fdO r.sn a b).2.1), .int .i64 ((fdO r.sn a b).2.2.1), .int .u32 ((fdO r.sn a b).2.2.2)] : List Value).toArray, .bool (fdB r.sn a b)].toArray :: .agg ([.int .u32 ((fdO r.sn a b).1), .int .u32 ((fdO r.sn a b).2.1), .int .i64 ((fdO r.sn a b).2.2.1), .int .u32 ((fdO r.sn a b).2.2.2)] : List Value).toArray :: .bool (fdB r.sn a b) :: .agg ([.int .u32 0, .int .u32 0, .int .i64 0, .int .u32 0] : List Value).toArray :: .pointer (some ⟨g5, 7, none⟩) :: .slice (some ad) r.sn.length c :: .int .i64 (r.sn.length : Int) :: .int .i64 (j : Int) :: .bool (decide ((j : Int) < (r.sn.length : Int))) :: .pointer (some ((ad).add (j * 4))) :: .agg ([.int .u32 x.1, .int .u32 x.2.1, .int .i64 x.2.2.1, .int .u32 x.2.2.2] : List Value).toArray :: .pointer (some ⟨g88, 0, none⟩) :: .agg ([.int .u32 x.1, .int .u32 x.2.1] : List Value).toArray :: .agg ([.int .u32 a, .int .u32 b] : List Value).toArray :: .bool bz96 :: .bool bz96 :: uz58 :: uz59 :: .bool bz97 :: .agg ([.int .u32 x.1, .int .u32 x.2.1, .int .i64 x.2.2.1, .int .u32 x.2.2.2] : List Value).toArray :: u62 :: U32lb (U8lb (undef :: undef :: undef :: [])))))) rfl ?_
          rw [Bool.and_eq_true, Bool.not_eq_true'] at hc100
          obtain ⟨hd_, hf_⟩ := hc100
          subst hf_
          exact hT78 x true ⟨.pointer (some ⟨g88, 0, none⟩), .pointer (some ((ad).add (j * 4))), .agg ([.int .u32 x.1, .int .u32 x.2.1, .int .i64 x.2.2.1, .int .u32 x.2.2.2] : List Value).toArray, .pointer (some ⟨g88, 0, none⟩), .agg ([.int .u32 x.1, .int .u32 x.2.1] : List Value).toArray, .agg ([.int .u32 a, .int .u32 b] : List Value).toArray, .bool bz96, .bool bz96⟩ ⟨uz58, uz59, .bool bz97, .agg ([.int .u32 x.1, .int .u32 x.2.1, .int .i64 x.2.2.1, .int .u32 x.2.2.2] : List Value).toArray, undef, undef, undef, undef⟩ _ ((((((((HS.front 1 rfl).drop.front 6 rfl).front 6 rfl).front 6 rfl).front 6 rfl).front 6 rfl).front 6 rfl).front 6 rfl) (seen_hit hI2 hx hd_)
        · rw [hbz97, hbz96] at hc100
          refine wp_skip ?_
          exact hT78 q f ⟨.pointer (some ⟨g88, 0, none⟩), .pointer (some ((ad).add (j * 4))), .agg ([.int .u32 x.1, .int .u32 x.2.1, .int .i64 x.2.2.1, .int .u32 x.2.2.2] : List Value).toArray, .pointer (some ⟨g88, 0, none⟩), .agg ([.int .u32 x.1, .int .u32 x.2.1] : List Value).toArray, .agg ([.int .u32 a, .int .u32 b] : List Value).toArray, .bool bz96, .bool bz96⟩ ⟨uz58, uz59, .bool bz97, u61, undef, undef, undef, undef⟩ _ (((((((HS.drop.front 6 rfl).front 6 rfl).front 6 rfl).front 6 rfl).front 6 rfl).front 6 rfl).front 6 rfl) (seen_miss hI2 hx hc100)
      · have hlt : j = r.sn.length := by have := of_decide_eq_false hc75; omega
        subst hlt
        obtain ⟨hfo, hfb⟩ := seen_end hI2
        refine wp_exit ?_
        refine hK61 _ _ ?_
        refine wp_seq_k (fun K108 hK109 => ?_)
        refine free_frame (n := 44) (T := _) [0, 1, 0, 7, 15, 31, 63, 63, 255, 63, 63, 2047, 4095, 8191, 16383, 32767, 65535, 32767, 163839, 524287, 1048575, 2097151, 4194303, 4194303, 16777215, 33554431, 67108863, 134217727, 134217727, 536870911, 1073741823, 2147483647, 4294967295, 4294967295, 17179869183, 34359738367, 68719476735, 137438953471, 274877906943, 137438953471, 1099511627775, 2199023255551, 4398046511103, 8796093022207] [(0, 63), (1, 64), (2, 65), (3, 66), (4, 67), (5, 68), (6, 69), (7, 70), (8, 71), (9, 72), (10, 73), (11, 74), (12, 75), (13, 76), (14, 77), (15, 78), (16, 79), (17, 80), (18, 81), (19, 82), (20, 83), (21, 84), (22, 85), (23, 86), (24, 87), (25, 88), (26, 89), (27, 90), (28, 91), (29, 92), (30, 93), (31, 94), (32, 95), (33, 96), (34, 97), (35, 98), (36, 99), (37, 100), (38, 101), (39, 102), (40, 103), (41, 104), (42, 105), (43, 6)] (fun bq_ vq_ w_ => qv ((fun i_ => match i_ with | 0 => some (rcV r A c) | 2 => some (rcV r A c) | 4 => some (.bool true) | 5 => some (.bool true) | 6 => some (rcV r A c) | 7 => some (rcV n A2 c2) | 9 => some (rcV r A c) | 10 => some (rcV n A2 c2) | 12 => some (.bool true) | 13 => some (.bool true) | 14 => some (.bool true) | 15 => some (.slice A31 ((bB r).length) c32) | 16 => some (.string (strB (bB r))) | 17 => some (.slice A38 ((bB r).length) c39) | 18 => some (.string (strB (bB r))) | 19 => some (.bool true) | 20 => some (.bool true) | 21 => some (.bool true) | 22 => some (.int .i64 (bE r)) | 23 => some (.int .i64 (bE r)) | 24 => some (.bool true) | 25 => some (.bool true) | 26 => some (.bool true) | 27 => some (.agg ([.int .u32 ((fdO r.sn a b).1), .int .u32 ((fdO r.sn a b).2.1), .int .i64 ((fdO r.sn a b).2.2.1), .int .u32 ((fdO r.sn a b).2.2.2)] : List Value).toArray) | 28 => some (.agg ([.int .u32 q.1, .int .u32 q.2.1, .int .i64 q.2.2.1, .int .u32 q.2.2.2] : List Value).toArray) | 29 => some (.bool true) | 30 => some (.bool true) | 31 => some (.bool true) | 32 => some (.bool (fdB r.sn a b)) | 33 => some (.bool f) | 34 => some (.bool true) | 35 => some (.bool true) | 36 => some (.bool true) | 37 => some (rcV r A c) | 39 => some (rcV r A c) | 42 => some (.bool true) | 43 => some (.bool true) | _ => none) : Nat → Option Value) bq_ vq_ ∧ cond (bq_ 41) (∃ (oa116 : Option Addr) (nc117 : Nat) (oa119 : Option Addr) (nc120 : Nat), vq_ 1 = .bool (rcOk r) ∧ vq_ 3 = .bool (rcOk r) ∧ vq_ 8 = .bool (rcS r n) ∧ vq_ 11 = .bool (rcS r n) ∧ vq_ 38 = .slice oa116 ((rtsL r).length) nc117 ∧ vq_ 40 = .slice oa119 ((rtsL r).length) nc120 ∧ vq_ 41 = .bool true ∧ St w (fun _ => False) w_ ([row (Kd.int .i64) rfl 3 (.slice oa119 ((rtsL r).length) nc120) (rtsL r), row (Kd.int .i64) rfl 3 (.slice oa116 ((rtsL r).length) nc117) (rtsL r), blk g56 [.int .u32 q.1, .int .u32 q.2.1, .int .i64 q.2.2.1, .int .u32 q.2.2.2] 48, blk g5 (.int .u32 r.e :: .bool r.p :: .int .u32 r.b :: .int .u32 r.q :: .int .i64 r.l :: .int .u32 r.xe :: .int .u32 r.xq :: .slice A r.sn.length c :: .int .u64 r.s :: .int .u32 r.te :: .int .u32 r.tq :: .int .u32 r.be :: .int .u32 r.bq :: .int .i64 r.nx :: .int .i64 r.tt :: .int .i64 r.rt :: []) 34, blk g8 (.int .u32 n.e :: .bool n.p :: .int .u32 n.b :: .int .u32 n.q :: .int .i64 n.l :: .int .u32 n.xe :: .int .u32 n.xq :: .slice A2 n.sn.length c2 :: .int .u64 n.s :: .int .u32 n.te :: .int .u32 n.tq :: .int .u32 n.be :: .int .u32 n.bq :: .int .i64 n.nx :: .int .i64 n.tt :: .int .i64 n.rt :: []) 34, blk g11 [.int .u32 a, .int .u32 b] 28, blk g46 [.int .u32 ((fdO r.sn a b).1), .int .u32 ((fdO r.sn a b).2.1), .int .i64 ((fdO r.sn a b).2.2.1), .int .u32 ((fdO r.sn a b).2.2.2)] 48, row kByte rfl 5 (.slice A38 ((bB r).length) c39) (bB r), row kByte rfl 5 (.slice A31 ((bB r).length) c32) (bB r)])) (cond (bq_ 40) (∃ (oa116 : Option Addr) (nc117 : Nat) (oa119 : Option Addr) (nc120 : Nat), vq_ 1 = .bool (rcOk r) ∧ vq_ 3 = .bool (rcOk r) ∧ vq_ 8 = .bool (rcS r n) ∧ vq_ 11 = .bool (rcS r n) ∧ vq_ 38 = .slice oa116 ((rtsL r).length) nc117 ∧ vq_ 40 = .slice oa119 ((rtsL r).length) nc120 ∧ St w (fun _ => False) w_ ([row (Kd.int .i64) rfl 3 (.slice oa119 ((rtsL r).length) nc120) (rtsL r), row (Kd.int .i64) rfl 3 (.slice oa116 ((rtsL r).length) nc117) (rtsL r), blk g56 [.int .u32 q.1, .int .u32 q.2.1, .int .i64 q.2.2.1, .int .u32 q.2.2.2] 48, blk g5 (.int .u32 r.e :: .bool r.p :: .int .u32 r.b :: .int .u32 r.q :: .int .i64 r.l :: .int .u32 r.xe :: .int .u32 r.xq :: .slice A r.sn.length c :: .int .u64 r.s :: .int .u32 r.te :: .int .u32 r.tq :: .int .u32 r.be :: .int .u32 r.bq :: .int .i64 r.nx :: .int .i64 r.tt :: .int .i64 r.rt :: []) 34, blk g8 (.int .u32 n.e :: .bool n.p :: .int .u32 n.b :: .int .u32 n.q :: .int .i64 n.l :: .int .u32 n.xe :: .int .u32 n.xq :: .slice A2 n.sn.length c2 :: .int .u64 n.s :: .int .u32 n.te :: .int .u32 n.tq :: .int .u32 n.be :: .int .u32 n.bq :: .int .i64 n.nx :: .int .i64 n.tt :: .int .i64 n.rt :: []) 34, blk g11 [.int .u32 a, .int .u32 b] 28, blk g46 [.int .u32 ((fdO r.sn a b).1), .int .u32 ((fdO r.sn a b).2.1), .int .i64 ((fdO r.sn a b).2.2.1), .int .u32 ((fdO r.sn a b).2.2.2)] 48, row kByte rfl 5 (.slice A38 ((bB r).length) c39) (bB r), row kByte rfl 5 (.slice A31 ((bB r).length) c32) (bB r)])) (cond (bq_ 38) (∃ (oa116 : Option Addr) (nc117 : Nat), vq_ 1 = .bool (rcOk r) ∧ vq_ 3 = .bool (rcOk r) ∧ vq_ 8 = .bool (rcS r n) ∧ vq_ 11 = .bool (rcS r n) ∧ vq_ 38 = .slice oa116 ((rtsL r).length) nc117 ∧ St w (fun _ => False) w_ ([row (Kd.int .i64) rfl 3 (.slice oa116 ((rtsL r).length) nc117) (rtsL r), blk g56 [.int .u32 q.1, .int .u32 q.2.1, .int .i64 q.2.2.1, .int .u32 q.2.2.2] 48, blk g5 (.int .u32 r.e :: .bool r.p :: .int .u32 r.b :: .int .u32 r.q :: .int .i64 r.l :: .int .u32 r.xe :: .int .u32 r.xq :: .slice A r.sn.length c :: .int .u64 r.s :: .int .u32 r.te :: .int .u32 r.tq :: .int .u32 r.be :: .int .u32 r.bq :: .int .i64 r.nx :: .int .i64 r.tt :: .int .i64 r.rt :: []) 34, blk g8 (.int .u32 n.e :: .bool n.p :: .int .u32 n.b :: .int .u32 n.q :: .int .i64 n.l :: .int .u32 n.xe :: .int .u32 n.xq :: .slice A2 n.sn.length c2 :: .int .u64 n.s :: .int .u32 n.te :: .int .u32 n.tq :: .int .u32 n.be :: .int .u32 n.bq :: .int .i64 n.nx :: .int .i64 n.tt :: .int .i64 n.rt :: []) 34, blk g11 [.int .u32 a, .int .u32 b] 28, blk g46 [.int .u32 ((fdO r.sn a b).1), .int .u32 ((fdO r.sn a b).2.1), .int .i64 ((fdO r.sn a b).2.2.1), .int .u32 ((fdO r.sn a b).2.2.2)] 48, row kByte rfl 5 (.slice A38 ((bB r).length) c39) (bB r), row kByte rfl 5 (.slice A31 ((bB r).length) c32) (bB r)])) (cond (bq_ 11) (vq_ 1 = .bool (rcOk r) ∧ vq_ 3 = .bool (rcOk r) ∧ vq_ 8 = .bool (rcS r n) ∧ vq_ 11 = .bool (rcS r n) ∧ St w (fun _ => False) w_ ([blk g56 [.int .u32 q.1, .int .u32 q.2.1, .int .i64 q.2.2.1, .int .u32 q.2.2.2] 48, blk g5 (.int .u32 r.e :: .bool r.p :: .int .u32 r.b :: .int .u32 r.q :: .int .i64 r.l :: .int .u32 r.xe :: .int .u32 r.xq :: .slice A r.sn.length c :: .int .u64 r.s :: .int .u32 r.te :: .int .u32 r.tq :: .int .u32 r.be :: .int .u32 r.bq :: .int .i64 r.nx :: .int .i64 r.tt :: .int .i64 r.rt :: []) 34, blk g8 (.int .u32 n.e :: .bool n.p :: .int .u32 n.b :: .int .u32 n.q :: .int .i64 n.l :: .int .u32 n.xe :: .int .u32 n.xq :: .slice A2 n.sn.length c2 :: .int .u64 n.s :: .int .u32 n.te :: .int .u32 n.tq :: .int .u32 n.be :: .int .u32 n.bq :: .int .i64 n.nx :: .int .i64 n.tt :: .int .i64 n.rt :: []) 34, blk g11 [.int .u32 a, .int .u32 b] 28, blk g46 [.int .u32 ((fdO r.sn a b).1), .int .u32 ((fdO r.sn a b).2.1), .int .i64 ((fdO r.sn a b).2.2.1), .int .u32 ((fdO r.sn a b).2.2.2)] 48, row kByte rfl 5 (.slice A38 ((bB r).length) c39) (bB r), row kByte rfl 5 (.slice A31 ((bB r).length) c32) (bB r)])) (cond (bq_ 8) (vq_ 1 = .bool (rcOk r) ∧ vq_ 3 = .bool (rcOk r) ∧ vq_ 8 = .bool (rcS r n) ∧ St w (fun _ => False) w_ ([blk g56 [.int .u32 q.1, .int .u32 q.2.1, .int .i64 q.2.2.1, .int .u32 q.2.2.2] 48, blk g5 (.int .u32 r.e :: .bool r.p :: .int .u32 r.b :: .int .u32 r.q :: .int .i64 r.l :: .int .u32 r.xe :: .int .u32 r.xq :: .slice A r.sn.length c :: .int .u64 r.s :: .int .u32 r.te :: .int .u32 r.tq :: .int .u32 r.be :: .int .u32 r.bq :: .int .i64 r.nx :: .int .i64 r.tt :: .int .i64 r.rt :: []) 34, blk g8 (.int .u32 n.e :: .bool n.p :: .int .u32 n.b :: .int .u32 n.q :: .int .i64 n.l :: .int .u32 n.xe :: .int .u32 n.xq :: .slice A2 n.sn.length c2 :: .int .u64 n.s :: .int .u32 n.te :: .int .u32 n.tq :: .int .u32 n.be :: .int .u32 n.bq :: .int .i64 n.nx :: .int .i64 n.tt :: .int .i64 n.rt :: []) 34, blk g11 [.int .u32 a, .int .u32 b] 28, blk g46 [.int .u32 ((fdO r.sn a b).1), .int .u32 ((fdO r.sn a b).2.1), .int .i64 ((fdO r.sn a b).2.2.1), .int .u32 ((fdO r.sn a b).2.2.2)] 48, row kByte rfl 5 (.slice A38 ((bB r).length) c39) (bB r), row kByte rfl 5 (.slice A31 ((bB r).length) c32) (bB r)])) (cond (bq_ 3) (vq_ 1 = .bool (rcOk r) ∧ vq_ 3 = .bool (rcOk r) ∧ St w (fun _ => False) w_ ([blk g56 [.int .u32 q.1, .int .u32 q.2.1, .int .i64 q.2.2.1, .int .u32 q.2.2.2] 48, blk g5 (.int .u32 r.e :: .bool r.p :: .int .u32 r.b :: .int .u32 r.q :: .int .i64 r.l :: .int .u32 r.xe :: .int .u32 r.xq :: .slice A r.sn.length c :: .int .u64 r.s :: .int .u32 r.te :: .int .u32 r.tq :: .int .u32 r.be :: .int .u32 r.bq :: .int .i64 r.nx :: .int .i64 r.tt :: .int .i64 r.rt :: []) 34, blk g8 (.int .u32 n.e :: .bool n.p :: .int .u32 n.b :: .int .u32 n.q :: .int .i64 n.l :: .int .u32 n.xe :: .int .u32 n.xq :: .slice A2 n.sn.length c2 :: .int .u64 n.s :: .int .u32 n.te :: .int .u32 n.tq :: .int .u32 n.be :: .int .u32 n.bq :: .int .i64 n.nx :: .int .i64 n.tt :: .int .i64 n.rt :: []) 34, blk g11 [.int .u32 a, .int .u32 b] 28, blk g46 [.int .u32 ((fdO r.sn a b).1), .int .u32 ((fdO r.sn a b).2.1), .int .i64 ((fdO r.sn a b).2.2.1), .int .u32 ((fdO r.sn a b).2.2.2)] 48, row kByte rfl 5 (.slice A38 ((bB r).length) c39) (bB r), row kByte rfl 5 (.slice A31 ((bB r).length) c32) (bB r)])) (cond (bq_ 1) (vq_ 1 = .bool (rcOk r) ∧ St w (fun _ => False) w_ ([blk g56 [.int .u32 q.1, .int .u32 q.2.1, .int .i64 q.2.2.1, .int .u32 q.2.2.2] 48, blk g5 (.int .u32 r.e :: .bool r.p :: .int .u32 r.b :: .int .u32 r.q :: .int .i64 r.l :: .int .u32 r.xe :: .int .u32 r.xq :: .slice A r.sn.length c :: .int .u64 r.s :: .int .u32 r.te :: .int .u32 r.tq :: .int .u32 r.be :: .int .u32 r.bq :: .int .i64 r.nx :: .int .i64 r.tt :: .int .i64 r.rt :: []) 34, blk g8 (.int .u32 n.e :: .bool n.p :: .int .u32 n.b :: .int .u32 n.q :: .int .i64 n.l :: .int .u32 n.xe :: .int .u32 n.xq :: .slice A2 n.sn.length c2 :: .int .u64 n.s :: .int .u32 n.te :: .int .u32 n.tq :: .int .u32 n.be :: .int .u32 n.bq :: .int .i64 n.nx :: .int .i64 n.tt :: .int .i64 n.rt :: []) 34, blk g11 [.int .u32 a, .int .u32 b] 28, blk g46 [.int .u32 ((fdO r.sn a b).1), .int .u32 ((fdO r.sn a b).2.1), .int .i64 ((fdO r.sn a b).2.2.1), .int .u32 ((fdO r.sn a b).2.2.2)] 48, row kByte rfl 5 (.slice A38 ((bB r).length) c39) (bB r), row kByte rfl 5 (.slice A31 ((bB r).length) c32) (bB r)])) ((St w (fun _ => False) w_ ([blk g56 [.int .u32 q.1, .int .u32 q.2.1, .int .i64 q.2.2.1, .int .u32 q.2.2.2] 48, blk g5 (.int .u32 r.e :: .bool r.p :: .int .u32 r.b :: .int .u32 r.q :: .int .i64 r.l :: .int .u32 r.xe :: .int .u32 r.xq :: .slice A r.sn.length c :: .int .u64 r.s :: .int .u32 r.te :: .int .u32 r.tq :: .int .u32 r.be :: .int .u32 r.bq :: .int .i64 r.nx :: .int .i64 r.tt :: .int .i64 r.rt :: []) 34, blk g8 (.int .u32 n.e :: .bool n.p :: .int .u32 n.b :: .int .u32 n.q :: .int .i64 n.l :: .int .u32 n.xe :: .int .u32 n.xq :: .slice A2 n.sn.length c2 :: .int .u64 n.s :: .int .u32 n.te :: .int .u32 n.tq :: .int .u32 n.be :: .int .u32 n.bq :: .int .i64 n.nx :: .int .i64 n.tt :: .int .i64 n.rt :: []) 34, blk g11 [.int .u32 a, .int .u32 b] 28, blk g46 [.int .u32 ((fdO r.sn a b).1), .int .u32 ((fdO r.sn a b).2.1), .int .i64 ((fdO r.sn a b).2.2.1), .int .u32 ((fdO r.sn a b).2.2.2)] 48, row kByte rfl 5 (.slice A38 ((bB r).length) c39) (bB r), row kByte rfl 5 (.slice A31 ((bB r).length) c32) (bB r)])))))))))) (by kernel_rfl) rfl rfl (by kernel_rfl) (by kernel_rfl) rfl (by kernel_rfl) (by kernel_rfl) ⟨qv_none, HS.draw⟩ ?_ ?_
        · clear HS
          intro i_ hi_ bq_ vq_ a_ w_ hG hb_ hon hoff hfr hel hval
          obtain ⟨hV, hE⟩ := hG
          have hi_ := List.mem_range.1 hi_
          obtain ⟨l_, rfl⟩ := hfr
          have hv_ := fun (j t : Nat) (v : Value) (h1 : (j, t) ∈ [(0, 63), (1, 64), (2, 65), (3, 66), (4, 67), (5, 68), (6, 69), (7, 70), (8, 71), (9, 72), (10, 73), (11, 74), (12, 75), (13, 76), (14, 77), (15, 78), (16, 79), (17, 80), (18, 81), (19, 82), (20, 83), (21, 84), (22, 85), (23, 86), (24, 87), (25, 88), (26, 89), (27, 90), (28, 91), (29, 92), (30, 93), (31, 94), (32, 95), (33, 96), (34, 97), (35, 98), (36, 99), (37, 100), (38, 101), (39, 102), (40, 103), (41, 104), (42, 105), (43, 6)]) h2 h3 => (hval (j, t) h1 h3).trans (congrArg some (hV j v h2 h3))
          have hcs : i_ = 0 ∨ i_ = 1 ∨ i_ = 2 ∨ i_ = 3 ∨ i_ = 4 ∨ i_ = 5 ∨ i_ = 6 ∨ i_ = 7 ∨ i_ = 8 ∨ i_ = 9 ∨ i_ = 10 ∨ i_ = 11 ∨ i_ = 12 ∨ i_ = 13 ∨ i_ = 14 ∨ i_ = 15 ∨ i_ = 16 ∨ i_ = 17 ∨ i_ = 18 ∨ i_ = 19 ∨ i_ = 20 ∨ i_ = 21 ∨ i_ = 22 ∨ i_ = 23 ∨ i_ = 24 ∨ i_ = 25 ∨ i_ = 26 ∨ i_ = 27 ∨ i_ = 28 ∨ i_ = 29 ∨ i_ = 30 ∨ i_ = 31 ∨ i_ = 32 ∨ i_ = 33 ∨ i_ = 34 ∨ i_ = 35 ∨ i_ = 36 ∨ i_ = 37 ∨ i_ = 38 ∨ i_ = 39 ∨ i_ = 40 ∨ i_ = 41 ∨ i_ = 42 ∨ i_ = 43 := by omega
          rcases hcs with rfl | rfl | rfl | rfl | rfl | rfl | rfl | rfl | rfl | rfl | rfl | rfl | rfl | rfl | rfl | rfl | rfl | rfl | rfl | rfl | rfl | rfl | rfl | rfl | rfl | rfl | rfl | rfl | rfl | rfl | rfl | rfl | rfl | rfl | rfl | rfl | rfl | rfl | rfl | rfl | rfl | rfl | rfl | rfl
          · have hE0 := hE
            rw [show bq_ 41 = false from (hoff 41 (by decide))] at hE0
            rw [show bq_ 40 = false from (hoff 40 (by decide))] at hE0
            rw [show bq_ 38 = false from (hoff 38 (by decide))] at hE0
            rw [show bq_ 11 = false from (hoff 11 (by decide))] at hE0
            rw [show bq_ 8 = false from (hoff 8 (by decide))] at hE0
            rw [show bq_ 3 = false from (hoff 3 (by decide))] at hE0
            rw [show bq_ 1 = false from (hoff 1 (by decide))] at hE0
            simp only [cond_true, cond_false] at hE0
            have HS := hE0
            have e3 : evl l_ (.tmp 3) = .pointer (some ⟨g5, 0, none⟩) := evl_of ((hel 3 (by decide)).trans rfl)
            exact ⟨_, rfl, fun K_ hK_ => q_op _ (x_loads (.int .u32 r.e :: .bool r.p :: .int .u32 r.b :: .int .u32 r.q :: .int .i64 r.l :: .int .u32 r.xe :: .int .u32 r.xq :: .slice A r.sn.length c :: .int .u64 r.s :: .int .u32 r.te :: .int .u32 r.tq :: .int .u32 r.be :: .int .u32 r.bq :: .int .i64 r.nx :: .int .i64 r.tt :: .int .i64 r.rt :: []) 16 rfl e3 (bkCells (HS.get (.tail _ (.head _))) 0 _ rfl) (by rfl) (by kernel_rfl) rfl) (hK_ _ _ ⟨qv_up hV (fun _ h => Option.some.inj h), hE⟩)⟩
          · have h63 : (fr l_).tmps[63]? = some (rcV r A c) := hv_ 0 63 _ (by decide) rfl (hon 0 (by decide))
            have hE0 := hE
            rw [show bq_ 41 = false from (hoff 41 (by decide))] at hE0
            rw [show bq_ 40 = false from (hoff 40 (by decide))] at hE0
            rw [show bq_ 38 = false from (hoff 38 (by decide))] at hE0
            rw [show bq_ 11 = false from (hoff 11 (by decide))] at hE0
            rw [show bq_ 8 = false from (hoff 8 (by decide))] at hE0
            rw [show bq_ 3 = false from (hoff 3 (by decide))] at hE0
            rw [show bq_ 1 = false from hb_] at hE0
            simp only [cond_true, cond_false] at hE0
            have HS := hE0
            have e63 : evl l_ (.tmp 63) = rcV r A c := evl_of h63
            refine ⟨_, rfl, fun K_ hK_ => wp_of_list rfl ?_⟩
            intro ops_
            refine w_call [rcV r A c] Try.func14 (by kernel_rfl) (by rfl) (by simp only [List.map_cons, List.map_nil, e63] <;> rfl) ?_
            refine (rright_any _ r A c (Kd.C_below hA HS.belowOf) (by omega)).mono ?_
            rintro e w900101 ⟨rfl, hb_⟩
            replace HS := HS.here hb_
            clear hb_
            refine ⟨_, rfl, ?_⟩
            refine wpList_nil ?_
            refine norm_put (hK_ (.bool (rcOk r)) _ ⟨qv_up hV (by intro _ h; cases h), ?_⟩)
            show cond (bq_ 41) _ _
            rw [show bq_ 41 = false from hoff 41 (by decide), cond_false]
            show cond (bq_ 40) _ _
            rw [show bq_ 40 = false from hoff 40 (by decide), cond_false]
            show cond (bq_ 38) _ _
            rw [show bq_ 38 = false from hoff 38 (by decide), cond_false]
            show cond (bq_ 11) _ _
            rw [show bq_ 11 = false from hoff 11 (by decide), cond_false]
            show cond (bq_ 8) _ _
            rw [show bq_ 8 = false from hoff 8 (by decide), cond_false]
            show cond (bq_ 3) _ _
            rw [show bq_ 3 = false from hoff 3 (by decide), cond_false]
            show cond true _ _
            rw [cond_true]
            exact ⟨rfl, (((((((HS.front 6 rfl).front 6 rfl).front 6 rfl).front 6 rfl).front 6 rfl).front 6 rfl).front 6 rfl)⟩
          · rcases hq1 : bq_ 1 with _ | _
            · skip
              have hE0 := hE
              rw [show bq_ 41 = false from (hoff 41 (by decide))] at hE0
              rw [show bq_ 40 = false from (hoff 40 (by decide))] at hE0
              rw [show bq_ 38 = false from (hoff 38 (by decide))] at hE0
              rw [show bq_ 11 = false from (hoff 11 (by decide))] at hE0
              rw [show bq_ 8 = false from (hoff 8 (by decide))] at hE0
              rw [show bq_ 3 = false from (hoff 3 (by decide))] at hE0
              rw [show bq_ 1 = false from hq1] at hE0
              simp only [cond_true, cond_false] at hE0
              have HS := hE0
              have e3 : evl l_ (.tmp 3) = .pointer (some ⟨g5, 0, none⟩) := evl_of ((hel 3 (by decide)).trans rfl)
              exact ⟨_, rfl, fun K_ hK_ => q_op _ (x_loads (.int .u32 r.e :: .bool r.p :: .int .u32 r.b :: .int .u32 r.q :: .int .i64 r.l :: .int .u32 r.xe :: .int .u32 r.xq :: .slice A r.sn.length c :: .int .u64 r.s :: .int .u32 r.te :: .int .u32 r.tq :: .int .u32 r.be :: .int .u32 r.bq :: .int .i64 r.nx :: .int .i64 r.tt :: .int .i64 r.rt :: []) 16 rfl e3 (bkCells (HS.get (.tail _ (.head _))) 0 _ rfl) (by rfl) (by kernel_rfl) rfl) (hK_ _ _ ⟨qv_up hV (fun _ h => Option.some.inj h), hE⟩)⟩
            · have hE0 := hE
              rw [show bq_ 41 = false from (hoff 41 (by decide))] at hE0
              rw [show bq_ 40 = false from (hoff 40 (by decide))] at hE0
              rw [show bq_ 38 = false from (hoff 38 (by decide))] at hE0
              rw [show bq_ 11 = false from (hoff 11 (by decide))] at hE0
              rw [show bq_ 8 = false from (hoff 8 (by decide))] at hE0
              rw [show bq_ 3 = false from (hoff 3 (by decide))] at hE0
              rw [show bq_ 1 = true from hq1] at hE0
              simp only [cond_true, cond_false] at hE0
              obtain ⟨hv1, HS⟩ := hE0
              have e3 : evl l_ (.tmp 3) = .pointer (some ⟨g5, 0, none⟩) := evl_of ((hel 3 (by decide)).trans rfl)
              exact ⟨_, rfl, fun K_ hK_ => q_op _ (x_loads (.int .u32 r.e :: .bool r.p :: .int .u32 r.b :: .int .u32 r.q :: .int .i64 r.l :: .int .u32 r.xe :: .int .u32 r.xq :: .slice A r.sn.length c :: .int .u64 r.s :: .int .u32 r.te :: .int .u32 r.tq :: .int .u32 r.be :: .int .u32 r.bq :: .int .i64 r.nx :: .int .i64 r.tt :: .int .i64 r.rt :: []) 16 rfl e3 (bkCells (HS.get (.tail _ (.head _))) 0 _ rfl) (by rfl) (by kernel_rfl) rfl) (hK_ _ _ ⟨qv_up hV (fun _ h => Option.some.inj h), hE⟩)⟩
          · have h65 : (fr l_).tmps[65]? = some (rcV r A c) := hv_ 2 65 _ (by decide) rfl (hon 2 (by decide))
            have hE0 := hE
            rw [show bq_ 41 = false from (hoff 41 (by decide))] at hE0
            rw [show bq_ 40 = false from (hoff 40 (by decide))] at hE0
            rw [show bq_ 38 = false from (hoff 38 (by decide))] at hE0
            rw [show bq_ 11 = false from (hoff 11 (by decide))] at hE0
            rw [show bq_ 8 = false from (hoff 8 (by decide))] at hE0
            rw [show bq_ 3 = false from hb_] at hE0
            rw [show bq_ 1 = true from (hon 1 (by decide))] at hE0
            simp only [cond_true, cond_false] at hE0
            obtain ⟨hv1, HS⟩ := hE0
            have e65 : evl l_ (.tmp 65) = rcV r A c := evl_of h65
            refine ⟨_, rfl, fun K_ hK_ => wp_of_list rfl ?_⟩
            intro ops_
            refine w_call [rcV r A c] Try.func18 (by kernel_rfl) (by rfl) (by simp only [List.map_cons, List.map_nil, e65] <;> rfl) ?_
            refine (r14right_any _ r A c (Kd.C_below hA HS.belowOf) (by omega) hw).mono ?_
            rintro e w900301 ⟨rfl, hb_⟩
            replace HS := HS.here hb_
            clear hb_
            refine ⟨_, rfl, ?_⟩
            refine wpList_nil ?_
            refine norm_put (hK_ (.bool (rcOk r)) _ ⟨qv_up hV (by intro _ h; cases h), ?_⟩)
            show cond (bq_ 41) _ _
            rw [show bq_ 41 = false from hoff 41 (by decide), cond_false]
            show cond (bq_ 40) _ _
            rw [show bq_ 40 = false from hoff 40 (by decide), cond_false]
            show cond (bq_ 38) _ _
            rw [show bq_ 38 = false from hoff 38 (by decide), cond_false]
            show cond (bq_ 11) _ _
            rw [show bq_ 11 = false from hoff 11 (by decide), cond_false]
            show cond (bq_ 8) _ _
            rw [show bq_ 8 = false from hoff 8 (by decide), cond_false]
            show cond true _ _
            rw [cond_true]
            exact ⟨hv1, rfl, (((((((HS.front 6 rfl).front 6 rfl).front 6 rfl).front 6 rfl).front 6 rfl).front 6 rfl).front 6 rfl)⟩
          · have h64 := hval (1, 64) (by decide) (hon 1 (by decide))
            have h66 := hval (3, 66) (by decide) (hon 3 (by decide))
            have hE0 := hE
            rw [show bq_ 41 = false from (hoff 41 (by decide))] at hE0
            rw [show bq_ 40 = false from (hoff 40 (by decide))] at hE0
            rw [show bq_ 38 = false from (hoff 38 (by decide))] at hE0
            rw [show bq_ 11 = false from (hoff 11 (by decide))] at hE0
            rw [show bq_ 8 = false from (hoff 8 (by decide))] at hE0
            rw [show bq_ 3 = true from (hon 3 (by decide))] at hE0
            simp only [cond_true, cond_false] at hE0
            obtain ⟨hv1, hv3, HS⟩ := hE0
            rw [hv1] at h64
            rw [hv3] at h66
            have e64 : evl l_ (.tmp 64) = .bool (rcOk r) := evl_of h64
            have e66 : evl l_ (.tmp 66) = .bool (rcOk r) := evl_of h66
            exact ⟨_, rfl, fun K_ hK_ => q_op _ (x_boolcmp .eql (rcOk r) (rcOk r) true rfl e64 e66 Try.underlying4 (beq_self_eq_true _) rfl) (hK_ _ _ ⟨qv_up hV (fun _ h => Option.some.inj h), hE⟩)⟩
          · have e67 : evl l_ (.tmp 67) = .bool true := evl_of (hv_ 4 67 _ (by decide) rfl (hon 4 (by decide)))
            exact ⟨_, rfl, fun K_ hK_ => q_op _ (x_move (.bool true) rfl e67) (hK_ _ _ ⟨qv_up hV (fun _ h => Option.some.inj h), hE⟩)⟩
          · have h68 : (fr l_).tmps[68]? = some (.bool true) := hv_ 5 68 _ (by decide) rfl (hon 5 (by decide))
            have hE0 := hE
            rw [show bq_ 41 = false from (hoff 41 (by decide))] at hE0
            rw [show bq_ 40 = false from (hoff 40 (by decide))] at hE0
            rw [show bq_ 38 = false from (hoff 38 (by decide))] at hE0
            rw [show bq_ 11 = false from (hoff 11 (by decide))] at hE0
            rw [show bq_ 8 = false from (hoff 8 (by decide))] at hE0
            rw [show bq_ 3 = true from (hon 3 (by decide))] at hE0
            simp only [cond_true, cond_false] at hE0
            obtain ⟨hv1, hv3, HS⟩ := hE0
            have e3 : evl l_ (.tmp 3) = .pointer (some ⟨g5, 0, none⟩) := evl_of ((hel 3 (by decide)).trans rfl)
            have e68 : evl l_ (.tmp 68) = .bool true := evl_of h68
            exact ⟨_, rfl, fun K_ hK_ => q_opG (wanted_on (t := 68) rfl rfl rfl h68) _ (x_loads (.int .u32 r.e :: .bool r.p :: .int .u32 r.b :: .int .u32 r.q :: .int .i64 r.l :: .int .u32 r.xe :: .int .u32 r.xq :: .slice A r.sn.length c :: .int .u64 r.s :: .int .u32 r.te :: .int .u32 r.tq :: .int .u32 r.be :: .int .u32 r.bq :: .int .i64 r.nx :: .int .i64 r.tt :: .int .i64 r.rt :: []) 16 rfl e3 (bkCells (HS.get (.tail _ (.head _))) 0 _ rfl) (by rfl) (by kernel_rfl) rfl) (hK_ _ _ ⟨qv_up hV (fun _ h => Option.some.inj h), hE⟩)⟩
          · have h68 : (fr l_).tmps[68]? = some (.bool true) := hv_ 5 68 _ (by decide) rfl (hon 5 (by decide))
            have hE0 := hE
            rw [show bq_ 41 = false from (hoff 41 (by decide))] at hE0
            rw [show bq_ 40 = false from (hoff 40 (by decide))] at hE0
            rw [show bq_ 38 = false from (hoff 38 (by decide))] at hE0
            rw [show bq_ 11 = false from (hoff 11 (by decide))] at hE0
            rw [show bq_ 8 = false from (hoff 8 (by decide))] at hE0
            rw [show bq_ 3 = true from (hon 3 (by decide))] at hE0
            simp only [cond_true, cond_false] at hE0
            obtain ⟨hv1, hv3, HS⟩ := hE0
            have e4 : evl l_ (.tmp 4) = .pointer (some ⟨g8, 0, none⟩) := evl_of ((hel 4 (by decide)).trans rfl)
            have e68 : evl l_ (.tmp 68) = .bool true := evl_of h68
            exact ⟨_, rfl, fun K_ hK_ => q_opG (wanted_on (t := 68) rfl rfl rfl h68) _ (x_loads (.int .u32 n.e :: .bool n.p :: .int .u32 n.b :: .int .u32 n.q :: .int .i64 n.l :: .int .u32 n.xe :: .int .u32 n.xq :: .slice A2 n.sn.length c2 :: .int .u64 n.s :: .int .u32 n.te :: .int .u32 n.tq :: .int .u32 n.be :: .int .u32 n.bq :: .int .i64 n.nx :: .int .i64 n.tt :: .int .i64 n.rt :: []) 16 rfl e4 (bkCells (HS.get (.tail _ (.tail _ (.head _)))) 0 _ rfl) (by rfl) (by kernel_rfl) rfl) (hK_ _ _ ⟨qv_up hV (fun _ h => Option.some.inj h), hE⟩)⟩
          · have h68 : (fr l_).tmps[68]? = some (.bool true) := hv_ 5 68 _ (by decide) rfl (hon 5 (by decide))
            have h69 : (fr l_).tmps[69]? = some (rcV r A c) := hv_ 6 69 _ (by decide) rfl (hon 6 (by decide))
            have h70 : (fr l_).tmps[70]? = some (rcV n A2 c2) := hv_ 7 70 _ (by decide) rfl (hon 7 (by decide))
            have hE0 := hE
            rw [show bq_ 41 = false from (hoff 41 (by decide))] at hE0
            rw [show bq_ 40 = false from (hoff 40 (by decide))] at hE0
            rw [show bq_ 38 = false from (hoff 38 (by decide))] at hE0
            rw [show bq_ 11 = false from (hoff 11 (by decide))] at hE0
            rw [show bq_ 8 = false from hb_] at hE0
            rw [show bq_ 3 = true from (hon 3 (by decide))] at hE0
            simp only [cond_true, cond_false] at hE0
            obtain ⟨hv1, hv3, HS⟩ := hE0
            have e68 : evl l_ (.tmp 68) = .bool true := evl_of h68
            have e69 : evl l_ (.tmp 69) = rcV r A c := evl_of h69
            have e70 : evl l_ (.tmp 70) = rcV n A2 c2 := evl_of h70
            refine ⟨_, rfl, fun K_ hK_ => wp_of_listG rfl (wanted_on (t := 68) rfl rfl rfl h68) ?_⟩
            intro ops_
            refine w_call [rcV r A c, rcV n A2 c2] Try.func15 (by kernel_rfl) (by rfl) (by simp only [List.map_cons, List.map_nil, e69, e70] <;> rfl) ?_
            refine (rsame_any _ r A c (Kd.C_below hA HS.belowOf) (by omega) n A2 c2 (Kd.C_below hA2 HS.belowOf) (by omega)).mono ?_
            rintro e w900801 ⟨rfl, hb_⟩
            replace HS := HS.here hb_
            clear hb_
            refine ⟨_, rfl, ?_⟩
            refine wpList_nil ?_
            refine norm_put (hK_ (.bool (rcS r n)) _ ⟨qv_up hV (by intro _ h; cases h), ?_⟩)
            show cond (bq_ 41) _ _
            rw [show bq_ 41 = false from hoff 41 (by decide), cond_false]
            show cond (bq_ 40) _ _
            rw [show bq_ 40 = false from hoff 40 (by decide), cond_false]
            show cond (bq_ 38) _ _
            rw [show bq_ 38 = false from hoff 38 (by decide), cond_false]
            show cond (bq_ 11) _ _
            rw [show bq_ 11 = false from hoff 11 (by decide), cond_false]
            show cond true _ _
            rw [cond_true]
            exact ⟨hv1, hv3, rfl, (((((((HS.front 6 rfl).front 6 rfl).front 6 rfl).front 6 rfl).front 6 rfl).front 6 rfl).front 6 rfl)⟩
          · have h68 : (fr l_).tmps[68]? = some (.bool true) := hv_ 5 68 _ (by decide) rfl (hon 5 (by decide))
            rcases hq8 : bq_ 8 with _ | _
            · skip
              have hE0 := hE
              rw [show bq_ 41 = false from (hoff 41 (by decide))] at hE0
              rw [show bq_ 40 = false from (hoff 40 (by decide))] at hE0
              rw [show bq_ 38 = false from (hoff 38 (by decide))] at hE0
              rw [show bq_ 11 = false from (hoff 11 (by decide))] at hE0
              rw [show bq_ 8 = false from hq8] at hE0
              rw [show bq_ 3 = true from (hon 3 (by decide))] at hE0
              simp only [cond_true, cond_false] at hE0
              obtain ⟨hv1, hv3, HS⟩ := hE0
              have e3 : evl l_ (.tmp 3) = .pointer (some ⟨g5, 0, none⟩) := evl_of ((hel 3 (by decide)).trans rfl)
              have e68 : evl l_ (.tmp 68) = .bool true := evl_of h68
              exact ⟨_, rfl, fun K_ hK_ => q_opG (wanted_on (t := 68) rfl rfl rfl h68) _ (x_loads (.int .u32 r.e :: .bool r.p :: .int .u32 r.b :: .int .u32 r.q :: .int .i64 r.l :: .int .u32 r.xe :: .int .u32 r.xq :: .slice A r.sn.length c :: .int .u64 r.s :: .int .u32 r.te :: .int .u32 r.tq :: .int .u32 r.be :: .int .u32 r.bq :: .int .i64 r.nx :: .int .i64 r.tt :: .int .i64 r.rt :: []) 16 rfl e3 (bkCells (HS.get (.tail _ (.head _))) 0 _ rfl) (by rfl) (by kernel_rfl) rfl) (hK_ _ _ ⟨qv_up hV (fun _ h => Option.some.inj h), hE⟩)⟩
            · have hE0 := hE
              rw [show bq_ 41 = false from (hoff 41 (by decide))] at hE0
              rw [show bq_ 40 = false from (hoff 40 (by decide))] at hE0
              rw [show bq_ 38 = false from (hoff 38 (by decide))] at hE0
              rw [show bq_ 11 = false from (hoff 11 (by decide))] at hE0
              rw [show bq_ 8 = true from hq8] at hE0
              simp only [cond_true, cond_false] at hE0
              obtain ⟨hv1, hv3, hv8, HS⟩ := hE0
              have e3 : evl l_ (.tmp 3) = .pointer (some ⟨g5, 0, none⟩) := evl_of ((hel 3 (by decide)).trans rfl)
              have e68 : evl l_ (.tmp 68) = .bool true := evl_of h68
              exact ⟨_, rfl, fun K_ hK_ => q_opG (wanted_on (t := 68) rfl rfl rfl h68) _ (x_loads (.int .u32 r.e :: .bool r.p :: .int .u32 r.b :: .int .u32 r.q :: .int .i64 r.l :: .int .u32 r.xe :: .int .u32 r.xq :: .slice A r.sn.length c :: .int .u64 r.s :: .int .u32 r.te :: .int .u32 r.tq :: .int .u32 r.be :: .int .u32 r.bq :: .int .i64 r.nx :: .int .i64 r.tt :: .int .i64 r.rt :: []) 16 rfl e3 (bkCells (HS.get (.tail _ (.head _))) 0 _ rfl) (by rfl) (by kernel_rfl) rfl) (hK_ _ _ ⟨qv_up hV (fun _ h => Option.some.inj h), hE⟩)⟩
          · have h68 : (fr l_).tmps[68]? = some (.bool true) := hv_ 5 68 _ (by decide) rfl (hon 5 (by decide))
            rcases hq8 : bq_ 8 with _ | _
            · skip
              have hE0 := hE
              rw [show bq_ 41 = false from (hoff 41 (by decide))] at hE0
              rw [show bq_ 40 = false from (hoff 40 (by decide))] at hE0
              rw [show bq_ 38 = false from (hoff 38 (by decide))] at hE0
              rw [show bq_ 11 = false from (hoff 11 (by decide))] at hE0
              rw [show bq_ 8 = false from hq8] at hE0
              rw [show bq_ 3 = true from (hon 3 (by decide))] at hE0
              simp only [cond_true, cond_false] at hE0
              obtain ⟨hv1, hv3, HS⟩ := hE0
              have e4 : evl l_ (.tmp 4) = .pointer (some ⟨g8, 0, none⟩) := evl_of ((hel 4 (by decide)).trans rfl)
              have e68 : evl l_ (.tmp 68) = .bool true := evl_of h68
              exact ⟨_, rfl, fun K_ hK_ => q_opG (wanted_on (t := 68) rfl rfl rfl h68) _ (x_loads (.int .u32 n.e :: .bool n.p :: .int .u32 n.b :: .int .u32 n.q :: .int .i64 n.l :: .int .u32 n.xe :: .int .u32 n.xq :: .slice A2 n.sn.length c2 :: .int .u64 n.s :: .int .u32 n.te :: .int .u32 n.tq :: .int .u32 n.be :: .int .u32 n.bq :: .int .i64 n.nx :: .int .i64 n.tt :: .int .i64 n.rt :: []) 16 rfl e4 (bkCells (HS.get (.tail _ (.tail _ (.head _)))) 0 _ rfl) (by rfl) (by kernel_rfl) rfl) (hK_ _ _ ⟨qv_up hV (fun _ h => Option.some.inj h), hE⟩)⟩
            · have hE0 := hE
              rw [show bq_ 41 = false from (hoff 41 (by decide))] at hE0
              rw [show bq_ 40 = false from (hoff 40 (by decide))] at hE0
              rw [show bq_ 38 = false from (hoff 38 (by decide))] at hE0
              rw [show bq_ 11 = false from (hoff 11 (by decide))] at hE0
              rw [show bq_ 8 = true from hq8] at hE0
              simp only [cond_true, cond_false] at hE0
              obtain ⟨hv1, hv3, hv8, HS⟩ := hE0
              have e4 : evl l_ (.tmp 4) = .pointer (some ⟨g8, 0, none⟩) := evl_of ((hel 4 (by decide)).trans rfl)
              have e68 : evl l_ (.tmp 68) = .bool true := evl_of h68
              exact ⟨_, rfl, fun K_ hK_ => q_opG (wanted_on (t := 68) rfl rfl rfl h68) _ (x_loads (.int .u32 n.e :: .bool n.p :: .int .u32 n.b :: .int .u32 n.q :: .int .i64 n.l :: .int .u32 n.xe :: .int .u32 n.xq :: .slice A2 n.sn.length c2 :: .int .u64 n.s :: .int .u32 n.te :: .int .u32 n.tq :: .int .u32 n.be :: .int .u32 n.bq :: .int .i64 n.nx :: .int .i64 n.tt :: .int .i64 n.rt :: []) 16 rfl e4 (bkCells (HS.get (.tail _ (.tail _ (.head _)))) 0 _ rfl) (by rfl) (by kernel_rfl) rfl) (hK_ _ _ ⟨qv_up hV (fun _ h => Option.some.inj h), hE⟩)⟩
          · have h68 : (fr l_).tmps[68]? = some (.bool true) := hv_ 5 68 _ (by decide) rfl (hon 5 (by decide))
            have h72 : (fr l_).tmps[72]? = some (rcV r A c) := hv_ 9 72 _ (by decide) rfl (hon 9 (by decide))
            have h73 : (fr l_).tmps[73]? = some (rcV n A2 c2) := hv_ 10 73 _ (by decide) rfl (hon 10 (by decide))
            have hE0 := hE
            rw [show bq_ 41 = false from (hoff 41 (by decide))] at hE0
            rw [show bq_ 40 = false from (hoff 40 (by decide))] at hE0
            rw [show bq_ 38 = false from (hoff 38 (by decide))] at hE0
            rw [show bq_ 11 = false from hb_] at hE0
            rw [show bq_ 8 = true from (hon 8 (by decide))] at hE0
            simp only [cond_true, cond_false] at hE0
            obtain ⟨hv1, hv3, hv8, HS⟩ := hE0
            have e68 : evl l_ (.tmp 68) = .bool true := evl_of h68
            have e72 : evl l_ (.tmp 72) = rcV r A c := evl_of h72
            have e73 : evl l_ (.tmp 73) = rcV n A2 c2 := evl_of h73
            refine ⟨_, rfl, fun K_ hK_ => wp_of_listG rfl (wanted_on (t := 68) rfl rfl rfl h68) ?_⟩
            intro ops_
            refine w_call [rcV r A c, rcV n A2 c2] Try.func13 (by kernel_rfl) (by rfl) (by simp only [List.map_cons, List.map_nil, e72, e73] <;> rfl) ?_
            refine (r14same_any _ r A c (Kd.C_below hA HS.belowOf) (by omega) n A2 c2 (Kd.C_below hA2 HS.belowOf) (by omega)).mono ?_
            rintro e w901101 ⟨rfl, hb_⟩
            replace HS := HS.here hb_
            clear hb_
            refine ⟨_, rfl, ?_⟩
            refine wpList_nil ?_
            refine norm_put (hK_ (.bool (rcS r n)) _ ⟨qv_up hV (by intro _ h; cases h), ?_⟩)
            show cond (bq_ 41) _ _
            rw [show bq_ 41 = false from hoff 41 (by decide), cond_false]
            show cond (bq_ 40) _ _
            rw [show bq_ 40 = false from hoff 40 (by decide), cond_false]
            show cond (bq_ 38) _ _
            rw [show bq_ 38 = false from hoff 38 (by decide), cond_false]
            show cond true _ _
            rw [cond_true]
            exact ⟨hv1, hv3, hv8, rfl, (((((((HS.front 6 rfl).front 6 rfl).front 6 rfl).front 6 rfl).front 6 rfl).front 6 rfl).front 6 rfl)⟩
          · have h68 : (fr l_).tmps[68]? = some (.bool true) := hv_ 5 68 _ (by decide) rfl (hon 5 (by decide))
            have h71 := hval (8, 71) (by decide) (hon 8 (by decide))
            have h74 := hval (11, 74) (by decide) (hon 11 (by decide))
            have hE0 := hE
            rw [show bq_ 41 = false from (hoff 41 (by decide))] at hE0
            rw [show bq_ 40 = false from (hoff 40 (by decide))] at hE0
            rw [show bq_ 38 = false from (hoff 38 (by decide))] at hE0
            rw [show bq_ 11 = true from (hon 11 (by decide))] at hE0
            simp only [cond_true, cond_false] at hE0
            obtain ⟨hv1, hv3, hv8, hv11, HS⟩ := hE0
            rw [hv8] at h71
            rw [hv11] at h74
            have e68 : evl l_ (.tmp 68) = .bool true := evl_of h68
            have e71 : evl l_ (.tmp 71) = .bool (rcS r n) := evl_of h71
            have e74 : evl l_ (.tmp 74) = .bool (rcS r n) := evl_of h74
            exact ⟨_, rfl, fun K_ hK_ => q_opG (wanted_on (t := 68) rfl rfl rfl h68) _ (x_boolcmp .eql (rcS r n) (rcS r n) true rfl e71 e74 Try.underlying4 (beq_self_eq_true _) rfl) (hK_ _ _ ⟨qv_up hV (fun _ h => Option.some.inj h), hE⟩)⟩
          · have e68 : evl l_ (.tmp 68) = .bool true := evl_of (hv_ 5 68 _ (by decide) rfl (hon 5 (by decide)))
            have e75 : evl l_ (.tmp 75) = .bool true := evl_of (hv_ 12 75 _ (by decide) rfl (hon 12 (by decide)))
            exact ⟨_, rfl, fun K_ hK_ => q_op _ (x_pick true (.bool true) (.bool false) (.bool true) rfl e68 e75 rfl rfl) (hK_ _ _ ⟨qv_up hV (fun _ h => Option.some.inj h), hE⟩)⟩
          · have e76 : evl l_ (.tmp 76) = .bool true := evl_of (hv_ 13 76 _ (by decide) rfl (hon 13 (by decide)))
            exact ⟨_, rfl, fun K_ hK_ => q_op _ (x_move (.bool true) rfl e76) (hK_ _ _ ⟨qv_up hV (fun _ h => Option.some.inj h), hE⟩)⟩
          · have h77 : (fr l_).tmps[77]? = some (.bool true) := hv_ 14 77 _ (by decide) rfl (hon 14 (by decide))
            have e7 : evl l_ (.tmp 7) = .slice A31 ((bB r).length) c32 := evl_of ((hel 7 (by decide)).trans rfl)
            have e77 : evl l_ (.tmp 77) = .bool true := evl_of h77
            exact ⟨_, rfl, fun K_ hK_ => q_opG (wanted_on (t := 77) rfl rfl rfl h77) _ (x_move (.slice A31 ((bB r).length) c32) rfl e7) (hK_ _ _ ⟨qv_up hV (fun _ h => Option.some.inj h), hE⟩)⟩
          · have h77 : (fr l_).tmps[77]? = some (.bool true) := hv_ 14 77 _ (by decide) rfl (hon 14 (by decide))
            have hE0 := hE
            rw [show bq_ 41 = false from (hoff 41 (by decide))] at hE0
            rw [show bq_ 40 = false from (hoff 40 (by decide))] at hE0
            rw [show bq_ 38 = false from (hoff 38 (by decide))] at hE0
            rw [show bq_ 11 = true from (hon 11 (by decide))] at hE0
            simp only [cond_true, cond_false] at hE0
            obtain ⟨hv1, hv3, hv8, hv11, HS⟩ := hE0
            have e77 : evl l_ (.tmp 77) = .bool true := evl_of h77
            have e78 : evl l_ (.tmp 78) = .slice A31 ((bB r).length) c32 := evl_of (hv_ 15 78 _ (by decide) rfl (hon 15 (by decide)))
            exact ⟨_, rfl, fun K_ hK_ => q_opG (wanted_on (t := 77) rfl rfl rfl h77) _ (x_str (xs := (bB r)) (row_rd (HS.get (.tail _ (.tail _ (.tail _ (.tail _ (.tail _ (.tail _ (.head _))))))))).2.2 (by first | rfl | simp) rfl e78) (hK_ _ _ ⟨qv_up hV (fun _ h => Option.some.inj h), hE⟩)⟩
          · have h77 : (fr l_).tmps[77]? = some (.bool true) := hv_ 14 77 _ (by decide) rfl (hon 14 (by decide))
            have e9 : evl l_ (.tmp 9) = .slice A38 ((bB r).length) c39 := evl_of ((hel 9 (by decide)).trans rfl)
            have e77 : evl l_ (.tmp 77) = .bool true := evl_of h77
            exact ⟨_, rfl, fun K_ hK_ => q_opG (wanted_on (t := 77) rfl rfl rfl h77) _ (x_move (.slice A38 ((bB r).length) c39) rfl e9) (hK_ _ _ ⟨qv_up hV (fun _ h => Option.some.inj h), hE⟩)⟩
          · have h77 : (fr l_).tmps[77]? = some (.bool true) := hv_ 14 77 _ (by decide) rfl (hon 14 (by decide))
            have hE0 := hE
            rw [show bq_ 41 = false from (hoff 41 (by decide))] at hE0
            rw [show bq_ 40 = false from (hoff 40 (by decide))] at hE0
            rw [show bq_ 38 = false from (hoff 38 (by decide))] at hE0
            rw [show bq_ 11 = true from (hon 11 (by decide))] at hE0
            simp only [cond_true, cond_false] at hE0
            obtain ⟨hv1, hv3, hv8, hv11, HS⟩ := hE0
            have e77 : evl l_ (.tmp 77) = .bool true := evl_of h77
            have e80 : evl l_ (.tmp 80) = .slice A38 ((bB r).length) c39 := evl_of (hv_ 17 80 _ (by decide) rfl (hon 17 (by decide)))
            exact ⟨_, rfl, fun K_ hK_ => q_opG (wanted_on (t := 77) rfl rfl rfl h77) _ (x_str (xs := (bB r)) (row_rd (HS.get (.tail _ (.tail _ (.tail _ (.tail _ (.tail _ (.head _)))))))).2.2 (by first | rfl | simp) rfl e80) (hK_ _ _ ⟨qv_up hV (fun _ h => Option.some.inj h), hE⟩)⟩
          · have h77 : (fr l_).tmps[77]? = some (.bool true) := hv_ 14 77 _ (by decide) rfl (hon 14 (by decide))
            have e77 : evl l_ (.tmp 77) = .bool true := evl_of h77
            have e79 : evl l_ (.tmp 79) = .string (strB (bB r)) := evl_of (hv_ 16 79 _ (by decide) rfl (hon 16 (by decide)))
            have e81 : evl l_ (.tmp 81) = .string (strB (bB r)) := evl_of (hv_ 18 81 _ (by decide) rfl (hon 18 (by decide)))
            exact ⟨_, rfl, fun K_ hK_ => q_opG (wanted_on (t := 77) rfl rfl rfl h77) _ (x_streq .eql (strB (bB r)) (strB (bB r)) true rfl e79 e81 (seqS _) rfl) (hK_ _ _ ⟨qv_up hV (fun _ h => Option.some.inj h), hE⟩)⟩
          · have e77 : evl l_ (.tmp 77) = .bool true := evl_of (hv_ 14 77 _ (by decide) rfl (hon 14 (by decide)))
            have e82 : evl l_ (.tmp 82) = .bool true := evl_of (hv_ 19 82 _ (by decide) rfl (hon 19 (by decide)))
            exact ⟨_, rfl, fun K_ hK_ => q_op _ (x_pick true (.bool true) (.bool false) (.bool true) rfl e77 e82 rfl rfl) (hK_ _ _ ⟨qv_up hV (fun _ h => Option.some.inj h), hE⟩)⟩
          · have e83 : evl l_ (.tmp 83) = .bool true := evl_of (hv_ 20 83 _ (by decide) rfl (hon 20 (by decide)))
            exact ⟨_, rfl, fun K_ hK_ => q_op _ (x_move (.bool true) rfl e83) (hK_ _ _ ⟨qv_up hV (fun _ h => Option.some.inj h), hE⟩)⟩
          · have h84 : (fr l_).tmps[84]? = some (.bool true) := hv_ 21 84 _ (by decide) rfl (hon 21 (by decide))
            have e8 : evl l_ (.tmp 8) = .int .i64 (bE r) := evl_of ((hel 8 (by decide)).trans rfl)
            have e84 : evl l_ (.tmp 84) = .bool true := evl_of h84
            exact ⟨_, rfl, fun K_ hK_ => q_opG (wanted_on (t := 84) rfl rfl rfl h84) _ (x_move (.int .i64 (bE r)) rfl e8) (hK_ _ _ ⟨qv_up hV (fun _ h => Option.some.inj h), hE⟩)⟩
          · have h84 : (fr l_).tmps[84]? = some (.bool true) := hv_ 21 84 _ (by decide) rfl (hon 21 (by decide))
            have e10 : evl l_ (.tmp 10) = .int .i64 (bE r) := evl_of ((hel 10 (by decide)).trans rfl)
            have e84 : evl l_ (.tmp 84) = .bool true := evl_of h84
            exact ⟨_, rfl, fun K_ hK_ => q_opG (wanted_on (t := 84) rfl rfl rfl h84) _ (x_move (.int .i64 (bE r)) rfl e10) (hK_ _ _ ⟨qv_up hV (fun _ h => Option.some.inj h), hE⟩)⟩
          · have h84 : (fr l_).tmps[84]? = some (.bool true) := hv_ 21 84 _ (by decide) rfl (hon 21 (by decide))
            have e84 : evl l_ (.tmp 84) = .bool true := evl_of h84
            have e85 : evl l_ (.tmp 85) = .int .i64 (bE r) := evl_of (hv_ 22 85 _ (by decide) rfl (hon 22 (by decide)))
            have e86 : evl l_ (.tmp 86) = .int .i64 (bE r) := evl_of (hv_ 23 86 _ (by decide) rfl (hon 23 (by decide)))
            exact ⟨_, rfl, fun K_ hK_ => q_opG (wanted_on (t := 84) rfl rfl rfl h84) _ (x_cmp (k := .i64) (m := (bE r)) (n := (bE r)) .eql true rfl e85 e86 (by simp [cmpB]) rfl) (hK_ _ _ ⟨qv_up hV (fun _ h => Option.some.inj h), hE⟩)⟩
          · have e84 : evl l_ (.tmp 84) = .bool true := evl_of (hv_ 21 84 _ (by decide) rfl (hon 21 (by decide)))
            have e87 : evl l_ (.tmp 87) = .bool true := evl_of (hv_ 24 87 _ (by decide) rfl (hon 24 (by decide)))
            exact ⟨_, rfl, fun K_ hK_ => q_op _ (x_pick true (.bool true) (.bool false) (.bool true) rfl e84 e87 rfl rfl) (hK_ _ _ ⟨qv_up hV (fun _ h => Option.some.inj h), hE⟩)⟩
          · have e88 : evl l_ (.tmp 88) = .bool true := evl_of (hv_ 25 88 _ (by decide) rfl (hon 25 (by decide)))
            exact ⟨_, rfl, fun K_ hK_ => q_op _ (x_move (.bool true) rfl e88) (hK_ _ _ ⟨qv_up hV (fun _ h => Option.some.inj h), hE⟩)⟩
          · have h89 : (fr l_).tmps[89]? = some (.bool true) := hv_ 26 89 _ (by decide) rfl (hon 26 (by decide))
            have hE0 := hE
            rw [show bq_ 41 = false from (hoff 41 (by decide))] at hE0
            rw [show bq_ 40 = false from (hoff 40 (by decide))] at hE0
            rw [show bq_ 38 = false from (hoff 38 (by decide))] at hE0
            rw [show bq_ 11 = true from (hon 11 (by decide))] at hE0
            simp only [cond_true, cond_false] at hE0
            obtain ⟨hv1, hv3, hv8, hv11, HS⟩ := hE0
            have e11 : evl l_ (.tmp 11) = .pointer (some ⟨g46, 0, none⟩) := evl_of ((hel 11 (by decide)).trans rfl)
            have e89 : evl l_ (.tmp 89) = .bool true := evl_of h89
            exact ⟨_, rfl, fun K_ hK_ => q_opG (wanted_on (t := 89) rfl rfl rfl h89) _ (x_loads [.int .u32 ((fdO r.sn a b).1), .int .u32 ((fdO r.sn a b).2.1), .int .i64 ((fdO r.sn a b).2.2.1), .int .u32 ((fdO r.sn a b).2.2.2)] 4 rfl e11 (bkCells (HS.get (.tail _ (.tail _ (.tail _ (.tail _ (.head _)))))) 0 _ rfl) (by rfl) (by kernel_rfl) rfl) (hK_ _ _ ⟨qv_up hV (fun _ h => Option.some.inj h), hE⟩)⟩
          · have h89 : (fr l_).tmps[89]? = some (.bool true) := hv_ 26 89 _ (by decide) rfl (hon 26 (by decide))
            have hE0 := hE
            rw [show bq_ 41 = false from (hoff 41 (by decide))] at hE0
            rw [show bq_ 40 = false from (hoff 40 (by decide))] at hE0
            rw [show bq_ 38 = false from (hoff 38 (by decide))] at hE0
            rw [show bq_ 11 = true from (hon 11 (by decide))] at hE0
            simp only [cond_true, cond_false] at hE0
            obtain ⟨hv1, hv3, hv8, hv11, HS⟩ := hE0
            have e13 : evl l_ (.tmp 13) = .pointer (some ⟨g56, 0, none⟩) := evl_of ((hel 13 (by decide)).trans rfl)
            have e89 : evl l_ (.tmp 89) = .bool true := evl_of h89
            exact ⟨_, rfl, fun K_ hK_ => q_opG (wanted_on (t := 89) rfl rfl rfl h89) _ (x_loads [.int .u32 q.1, .int .u32 q.2.1, .int .i64 q.2.2.1, .int .u32 q.2.2.2] 4 rfl e13 (bkCells (HS.get (.head _)) 0 _ rfl) (by rfl) (by kernel_rfl) rfl) (hK_ _ _ ⟨qv_up hV (fun _ h => Option.some.inj h), hE⟩)⟩
          · have h89 : (fr l_).tmps[89]? = some (.bool true) := hv_ 26 89 _ (by decide) rfl (hon 26 (by decide))
            have hE0 := hE
            rw [show bq_ 41 = false from (hoff 41 (by decide))] at hE0
            rw [show bq_ 40 = false from (hoff 40 (by decide))] at hE0
            rw [show bq_ 38 = false from (hoff 38 (by decide))] at hE0
            rw [show bq_ 11 = true from (hon 11 (by decide))] at hE0
            simp only [cond_true, cond_false] at hE0
            obtain ⟨hv1, hv3, hv8, hv11, HS⟩ := hE0
            have e89 : evl l_ (.tmp 89) = .bool true := evl_of h89
            have e90 : evl l_ (.tmp 90) = .agg ([.int .u32 ((fdO r.sn a b).1), .int .u32 ((fdO r.sn a b).2.1), .int .i64 ((fdO r.sn a b).2.2.1), .int .u32 ((fdO r.sn a b).2.2.2)] : List Value).toArray := evl_of (hv_ 27 90 _ (by decide) rfl (hon 27 (by decide)))
            have e91 : evl l_ (.tmp 91) = .agg ([.int .u32 q.1, .int .u32 q.2.1, .int .i64 q.2.2.1, .int .u32 q.2.2.2] : List Value).toArray := evl_of (hv_ 28 91 _ (by decide) rfl (hon 28 (by decide)))
            exact ⟨_, rfl, fun K_ hK_ => q_opG (wanted_on (t := 89) rfl rfl rfl h89) _ (x_eq .eql (.agg (snC (fdO r.sn a b)).toArray) (.agg (snC q).toArray) (decide ((fdO r.sn a b) = q)) true rfl e90 e91 (equal_sn _ (fdO r.sn a b) q) (by rw [decide_eq_true hfo]; rfl) rfl (guard_agg (by kernel_rfl)) (guard_agg (by kernel_rfl))) (hK_ _ _ ⟨qv_up hV (fun _ h => Option.some.inj h), hE⟩)⟩
          · have e89 : evl l_ (.tmp 89) = .bool true := evl_of (hv_ 26 89 _ (by decide) rfl (hon 26 (by decide)))
            have e92 : evl l_ (.tmp 92) = .bool true := evl_of (hv_ 29 92 _ (by decide) rfl (hon 29 (by decide)))
            exact ⟨_, rfl, fun K_ hK_ => q_op _ (x_pick true (.bool true) (.bool false) (.bool true) rfl e89 e92 rfl rfl) (hK_ _ _ ⟨qv_up hV (fun _ h => Option.some.inj h), hE⟩)⟩
          · have e93 : evl l_ (.tmp 93) = .bool true := evl_of (hv_ 30 93 _ (by decide) rfl (hon 30 (by decide)))
            exact ⟨_, rfl, fun K_ hK_ => q_op _ (x_move (.bool true) rfl e93) (hK_ _ _ ⟨qv_up hV (fun _ h => Option.some.inj h), hE⟩)⟩
          · have h94 : (fr l_).tmps[94]? = some (.bool true) := hv_ 31 94 _ (by decide) rfl (hon 31 (by decide))
            have e12 : evl l_ (.tmp 12) = .bool (fdB r.sn a b) := evl_of ((hel 12 (by decide)).trans rfl)
            have e94 : evl l_ (.tmp 94) = .bool true := evl_of h94
            exact ⟨_, rfl, fun K_ hK_ => q_opG (wanted_on (t := 94) rfl rfl rfl h94) _ (x_move (.bool (fdB r.sn a b)) rfl e12) (hK_ _ _ ⟨qv_up hV (fun _ h => Option.some.inj h), hE⟩)⟩
          · have h94 : (fr l_).tmps[94]? = some (.bool true) := hv_ 31 94 _ (by decide) rfl (hon 31 (by decide))
            have e14 : evl l_ (.tmp 14) = .bool f := evl_of ((hel 14 (by decide)).trans rfl)
            have e94 : evl l_ (.tmp 94) = .bool true := evl_of h94
            exact ⟨_, rfl, fun K_ hK_ => q_opG (wanted_on (t := 94) rfl rfl rfl h94) _ (x_move (.bool f) rfl e14) (hK_ _ _ ⟨qv_up hV (fun _ h => Option.some.inj h), hE⟩)⟩
          · have h94 : (fr l_).tmps[94]? = some (.bool true) := hv_ 31 94 _ (by decide) rfl (hon 31 (by decide))
            have e94 : evl l_ (.tmp 94) = .bool true := evl_of h94
            have e95 : evl l_ (.tmp 95) = .bool (fdB r.sn a b) := evl_of (hv_ 32 95 _ (by decide) rfl (hon 32 (by decide)))
            have e96 : evl l_ (.tmp 96) = .bool f := evl_of (hv_ 33 96 _ (by decide) rfl (hon 33 (by decide)))
            exact ⟨_, rfl, fun K_ hK_ => q_opG (wanted_on (t := 94) rfl rfl rfl h94) _ (x_boolcmp .eql (fdB r.sn a b) f true rfl e95 e96 Try.underlying4 (show (fdB r.sn a b == f) = true by rw [hfb]; exact beq_self_eq_true _) rfl) (hK_ _ _ ⟨qv_up hV (fun _ h => Option.some.inj h), hE⟩)⟩
          · have e94 : evl l_ (.tmp 94) = .bool true := evl_of (hv_ 31 94 _ (by decide) rfl (hon 31 (by decide)))
            have e97 : evl l_ (.tmp 97) = .bool true := evl_of (hv_ 34 97 _ (by decide) rfl (hon 34 (by decide)))
            exact ⟨_, rfl, fun K_ hK_ => q_op _ (x_pick true (.bool true) (.bool false) (.bool true) rfl e94 e97 rfl rfl) (hK_ _ _ ⟨qv_up hV (fun _ h => Option.some.inj h), hE⟩)⟩
          · have e98 : evl l_ (.tmp 98) = .bool true := evl_of (hv_ 35 98 _ (by decide) rfl (hon 35 (by decide)))
            exact ⟨_, rfl, fun K_ hK_ => q_op _ (x_move (.bool true) rfl e98) (hK_ _ _ ⟨qv_up hV (fun _ h => Option.some.inj h), hE⟩)⟩
          · have h99 : (fr l_).tmps[99]? = some (.bool true) := hv_ 36 99 _ (by decide) rfl (hon 36 (by decide))
            have hE0 := hE
            rw [show bq_ 41 = false from (hoff 41 (by decide))] at hE0
            rw [show bq_ 40 = false from (hoff 40 (by decide))] at hE0
            rw [show bq_ 38 = false from (hoff 38 (by decide))] at hE0
            rw [show bq_ 11 = true from (hon 11 (by decide))] at hE0
            simp only [cond_true, cond_false] at hE0
            obtain ⟨hv1, hv3, hv8, hv11, HS⟩ := hE0
            have e3 : evl l_ (.tmp 3) = .pointer (some ⟨g5, 0, none⟩) := evl_of ((hel 3 (by decide)).trans rfl)
            have e99 : evl l_ (.tmp 99) = .bool true := evl_of h99
            exact ⟨_, rfl, fun K_ hK_ => q_opG (wanted_on (t := 99) rfl rfl rfl h99) _ (x_loads (.int .u32 r.e :: .bool r.p :: .int .u32 r.b :: .int .u32 r.q :: .int .i64 r.l :: .int .u32 r.xe :: .int .u32 r.xq :: .slice A r.sn.length c :: .int .u64 r.s :: .int .u32 r.te :: .int .u32 r.tq :: .int .u32 r.be :: .int .u32 r.bq :: .int .i64 r.nx :: .int .i64 r.tt :: .int .i64 r.rt :: []) 16 rfl e3 (bkCells (HS.get (.tail _ (.head _))) 0 _ rfl) (by rfl) (by kernel_rfl) rfl) (hK_ _ _ ⟨qv_up hV (fun _ h => Option.some.inj h), hE⟩)⟩
          · have h99 : (fr l_).tmps[99]? = some (.bool true) := hv_ 36 99 _ (by decide) rfl (hon 36 (by decide))
            have h100 : (fr l_).tmps[100]? = some (rcV r A c) := hv_ 37 100 _ (by decide) rfl (hon 37 (by decide))
            have hE0 := hE
            rw [show bq_ 41 = false from (hoff 41 (by decide))] at hE0
            rw [show bq_ 40 = false from (hoff 40 (by decide))] at hE0
            rw [show bq_ 38 = false from hb_] at hE0
            rw [show bq_ 11 = true from (hon 11 (by decide))] at hE0
            simp only [cond_true, cond_false] at hE0
            obtain ⟨hv1, hv3, hv8, hv11, HS⟩ := hE0
            have e99 : evl l_ (.tmp 99) = .bool true := evl_of h99
            have e100 : evl l_ (.tmp 100) = rcV r A c := evl_of h100
            refine ⟨_, rfl, fun K_ hK_ => wp_of_listG rfl (wanted_on (t := 99) rfl rfl rfl h99) ?_⟩
            intro ops_
            refine w_call [rcV r A c] Try.func20 (by kernel_rfl) (by rfl) (by simp only [List.map_cons, List.map_nil, e100] <;> rfl) ?_
            refine (rrootsS_any _ r A c (Kd.C_below hA HS.belowOf) (by omega)).mono ?_
            rintro e w903803 ⟨oa903801, nc903802, rfl, hk_⟩
            replace HS := HS.more hk_
            clear hk_
            refine ⟨_, rfl, ?_⟩
            refine wpList_nil ?_
            refine norm_put (hK_ (.slice oa903801 ((rtsL r).length) nc903802) _ ⟨qv_up hV (by intro _ h; cases h), ?_⟩)
            show cond (bq_ 41) _ _
            rw [show bq_ 41 = false from hoff 41 (by decide), cond_false]
            show cond (bq_ 40) _ _
            rw [show bq_ 40 = false from hoff 40 (by decide), cond_false]
            show cond true _ _
            rw [cond_true]
            exact ⟨oa903801, nc903802, hv1, hv3, hv8, hv11, rfl, ((((((((HS.front 7 rfl).front 7 rfl).front 7 rfl).front 7 rfl).front 7 rfl).front 7 rfl).front 7 rfl).front 7 rfl)⟩
          · have h99 : (fr l_).tmps[99]? = some (.bool true) := hv_ 36 99 _ (by decide) rfl (hon 36 (by decide))
            rcases hq38 : bq_ 38 with _ | _
            · skip
              have hE0 := hE
              rw [show bq_ 41 = false from (hoff 41 (by decide))] at hE0
              rw [show bq_ 40 = false from (hoff 40 (by decide))] at hE0
              rw [show bq_ 38 = false from hq38] at hE0
              rw [show bq_ 11 = true from (hon 11 (by decide))] at hE0
              simp only [cond_true, cond_false] at hE0
              obtain ⟨hv1, hv3, hv8, hv11, HS⟩ := hE0
              have e3 : evl l_ (.tmp 3) = .pointer (some ⟨g5, 0, none⟩) := evl_of ((hel 3 (by decide)).trans rfl)
              have e99 : evl l_ (.tmp 99) = .bool true := evl_of h99
              exact ⟨_, rfl, fun K_ hK_ => q_opG (wanted_on (t := 99) rfl rfl rfl h99) _ (x_loads (.int .u32 r.e :: .bool r.p :: .int .u32 r.b :: .int .u32 r.q :: .int .i64 r.l :: .int .u32 r.xe :: .int .u32 r.xq :: .slice A r.sn.length c :: .int .u64 r.s :: .int .u32 r.te :: .int .u32 r.tq :: .int .u32 r.be :: .int .u32 r.bq :: .int .i64 r.nx :: .int .i64 r.tt :: .int .i64 r.rt :: []) 16 rfl e3 (bkCells (HS.get (.tail _ (.head _))) 0 _ rfl) (by rfl) (by kernel_rfl) rfl) (hK_ _ _ ⟨qv_up hV (fun _ h => Option.some.inj h), hE⟩)⟩
            · have hE0 := hE
              rw [show bq_ 41 = false from (hoff 41 (by decide))] at hE0
              rw [show bq_ 40 = false from (hoff 40 (by decide))] at hE0
              rw [show bq_ 38 = true from hq38] at hE0
              simp only [cond_true, cond_false] at hE0
              obtain ⟨oa116, nc117, hv1, hv3, hv8, hv11, hv38, HS⟩ := hE0
              have e3 : evl l_ (.tmp 3) = .pointer (some ⟨g5, 0, none⟩) := evl_of ((hel 3 (by decide)).trans rfl)
              have e99 : evl l_ (.tmp 99) = .bool true := evl_of h99
              exact ⟨_, rfl, fun K_ hK_ => q_opG (wanted_on (t := 99) rfl rfl rfl h99) _ (x_loads (.int .u32 r.e :: .bool r.p :: .int .u32 r.b :: .int .u32 r.q :: .int .i64 r.l :: .int .u32 r.xe :: .int .u32 r.xq :: .slice A r.sn.length c :: .int .u64 r.s :: .int .u32 r.te :: .int .u32 r.tq :: .int .u32 r.be :: .int .u32 r.bq :: .int .i64 r.nx :: .int .i64 r.tt :: .int .i64 r.rt :: []) 16 rfl e3 (bkCells (HS.get (.tail _ (.tail _ (.head _)))) 0 _ rfl) (by rfl) (by kernel_rfl) rfl) (hK_ _ _ ⟨qv_up hV (fun _ h => Option.some.inj h), hE⟩)⟩
          · have h99 : (fr l_).tmps[99]? = some (.bool true) := hv_ 36 99 _ (by decide) rfl (hon 36 (by decide))
            have h102 : (fr l_).tmps[102]? = some (rcV r A c) := hv_ 39 102 _ (by decide) rfl (hon 39 (by decide))
            have hE0 := hE
            rw [show bq_ 41 = false from (hoff 41 (by decide))] at hE0
            rw [show bq_ 40 = false from hb_] at hE0
            rw [show bq_ 38 = true from (hon 38 (by decide))] at hE0
            simp only [cond_true, cond_false] at hE0
            obtain ⟨oa116, nc117, hv1, hv3, hv8, hv11, hv38, HS⟩ := hE0
            have e99 : evl l_ (.tmp 99) = .bool true := evl_of h99
            have e102 : evl l_ (.tmp 102) = rcV r A c := evl_of h102
            refine ⟨_, rfl, fun K_ hK_ => wp_of_listG rfl (wanted_on (t := 99) rfl rfl rfl h99) ?_⟩
            intro ops_
            refine w_call [rcV r A c] Try.func21 (by kernel_rfl) (by rfl) (by simp only [List.map_cons, List.map_nil, e102] <;> rfl) ?_
            refine (r14rootsS_any _ r A c (Kd.C_below hA HS.belowOf) (by omega)).mono ?_
            rintro e w904003 ⟨oa904001, nc904002, rfl, hk_⟩
            replace HS := HS.more hk_
            clear hk_
            refine ⟨_, rfl, ?_⟩
            refine wpList_nil ?_
            refine norm_put (hK_ (.slice oa904001 ((rtsL r).length) nc904002) _ ⟨qv_up hV (by intro _ h; cases h), ?_⟩)
            show cond (bq_ 41) _ _
            rw [show bq_ 41 = false from hoff 41 (by decide), cond_false]
            show cond true _ _
            rw [cond_true]
            exact ⟨oa116, nc117, oa904001, nc904002, hv1, hv3, hv8, hv11, hv38, rfl, (((((((((HS.front 8 rfl).front 8 rfl).front 8 rfl).front 8 rfl).front 8 rfl).front 8 rfl).front 8 rfl).front 8 rfl).front 8 rfl)⟩
          · have h99 : (fr l_).tmps[99]? = some (.bool true) := hv_ 36 99 _ (by decide) rfl (hon 36 (by decide))
            have h101 := hval (38, 101) (by decide) (hon 38 (by decide))
            have h103 := hval (40, 103) (by decide) (hon 40 (by decide))
            have hE0 := hE
            rw [show bq_ 41 = false from hb_] at hE0
            rw [show bq_ 40 = true from (hon 40 (by decide))] at hE0
            simp only [cond_true, cond_false] at hE0
            obtain ⟨oa116, nc117, oa119, nc120, hv1, hv3, hv8, hv11, hv38, hv40, HS⟩ := hE0
            rw [hv38] at h101
            rw [hv40] at h103
            have e99 : evl l_ (.tmp 99) = .bool true := evl_of h99
            have e101 : evl l_ (.tmp 101) = .slice oa116 ((rtsL r).length) nc117 := evl_of h101
            have e103 : evl l_ (.tmp 103) = .slice oa119 ((rtsL r).length) nc120 := evl_of h103
            refine ⟨_, rfl, fun K_ hK_ => wp_of_listG rfl (wanted_on (t := 99) rfl rfl rfl h99) ?_⟩
            intro ops_
            refine w_call [.slice oa116 ((rtsL r).length) nc117, .slice oa119 ((rtsL r).length) nc120] Try.func19 (by kernel_rfl) (by rfl) (by simp only [List.map_cons, List.map_nil, e101, e103] <;> rfl) ?_
            refine (ieq_any _ oa116 nc117 (rtsL r) (row_C (HS.get (.tail _ (.head _)))).2.2 oa119 nc120 (rtsL r) (row_C (HS.get (.head _))).2.2 (by have := rts_len r; omega) (by have := rts_len r; omega)).mono ?_
            rintro e w904101 ⟨he_, hb_⟩
            rw [decide_eq_true rfl] at he_
            subst he_
            replace HS := HS.here hb_
            clear hb_
            refine ⟨_, rfl, ?_⟩
            refine wpList_nil ?_
            refine norm_put (hK_ (.bool true) _ ⟨qv_up hV (by intro _ h; cases h), ?_⟩)
            show cond true _ _
            rw [cond_true]
            exact ⟨oa116, nc117, oa119, nc120, hv1, hv3, hv8, hv11, hv38, hv40, rfl, (((((((((HS.front 8 rfl).front 8 rfl).front 8 rfl).front 8 rfl).front 8 rfl).front 8 rfl).front 8 rfl).front 8 rfl).front 8 rfl)⟩
          · have h104 := hval (41, 104) (by decide) (hon 41 (by decide))
            have hE0 := hE
            rw [show bq_ 41 = true from (hon 41 (by decide))] at hE0
            simp only [cond_true, cond_false] at hE0
            obtain ⟨oa116, nc117, oa119, nc120, hv1, hv3, hv8, hv11, hv38, hv40, hv41, HS⟩ := hE0
            rw [hv41] at h104
            have e99 : evl l_ (.tmp 99) = .bool true := evl_of (hv_ 36 99 _ (by decide) rfl (hon 36 (by decide)))
            have e104 : evl l_ (.tmp 104) = .bool true := evl_of h104
            exact ⟨_, rfl, fun K_ hK_ => q_op _ (x_pick true (.bool true) (.bool false) (.bool true) rfl e99 e104 rfl rfl) (hK_ _ _ ⟨qv_up hV (fun _ h => Option.some.inj h), hE⟩)⟩
          · have e105 : evl l_ (.tmp 105) = .bool true := evl_of (hv_ 42 105 _ (by decide) rfl (hon 42 (by decide)))
            exact ⟨_, rfl, fun K_ hK_ => q_op _ (x_assign (.bool true) rfl e105) (hK_ _ _ ⟨qv_up hV (fun _ h => Option.some.inj h), hE⟩)⟩
        intro bq_ vq_ w_ hall hG
        obtain ⟨hV, hE⟩ := hG
        clear HS
        rw [show bq_ 41 = true from hall 41 (by decide)] at hE
        simp only [cond_true] at hE
        obtain ⟨oa116, nc117, oa119, nc120, hv1, hv3, hv8, hv11, hv38, hv40, hv41, HS⟩ := hE
        have hv0 := hV 0 _ rfl (hall 0 (by decide))
        have hv2 := hV 2 _ rfl (hall 2 (by decide))
        have hv4 := hV 4 _ rfl (hall 4 (by decide))
        have hv5 := hV 5 _ rfl (hall 5 (by decide))
        have hv6 := hV 6 _ rfl (hall 6 (by decide))
        have hv7 := hV 7 _ rfl (hall 7 (by decide))
        have hv9 := hV 9 _ rfl (hall 9 (by decide))
        have hv10 := hV 10 _ rfl (hall 10 (by decide))
        have hv12 := hV 12 _ rfl (hall 12 (by decide))
        have hv13 := hV 13 _ rfl (hall 13 (by decide))
        have hv14 := hV 14 _ rfl (hall 14 (by decide))
        have hv15 := hV 15 _ rfl (hall 15 (by decide))
        have hv16 := hV 16 _ rfl (hall 16 (by decide))
        have hv17 := hV 17 _ rfl (hall 17 (by decide))
        have hv18 := hV 18 _ rfl (hall 18 (by decide))
        have hv19 := hV 19 _ rfl (hall 19 (by decide))
        have hv20 := hV 20 _ rfl (hall 20 (by decide))
        have hv21 := hV 21 _ rfl (hall 21 (by decide))
        have hv22 := hV 22 _ rfl (hall 22 (by decide))
        have hv23 := hV 23 _ rfl (hall 23 (by decide))
        have hv24 := hV 24 _ rfl (hall 24 (by decide))
        have hv25 := hV 25 _ rfl (hall 25 (by decide))
        have hv26 := hV 26 _ rfl (hall 26 (by decide))
        have hv27 := hV 27 _ rfl (hall 27 (by decide))
        have hv28 := hV 28 _ rfl (hall 28 (by decide))
        have hv29 := hV 29 _ rfl (hall 29 (by decide))
        have hv30 := hV 30 _ rfl (hall 30 (by decide))
        have hv31 := hV 31 _ rfl (hall 31 (by decide))
        have hv32 := hV 32 _ rfl (hall 32 (by decide))
        have hv33 := hV 33 _ rfl (hall 33 (by decide))
        have hv34 := hV 34 _ rfl (hall 34 (by decide))
        have hv35 := hV 35 _ rfl (hall 35 (by decide))
        have hv36 := hV 36 _ rfl (hall 36 (by decide))
        have hv37 := hV 37 _ rfl (hall 37 (by decide))
        have hv39 := hV 39 _ rfl (hall 39 (by decide))
        have hv42 := hV 42 _ rfl (hall 42 (by decide))
        have hv43 := hV 43 _ rfl (hall 43 (by decide))
        clear hV hall
        rw [putSel_fr]
        simp only [tells, List.map_cons, List.map_nil, setAll, List.set_cons_succ, List.set_cons_zero, hv0, hv1, hv2, hv3, hv4, hv5, hv6, hv7, hv8, hv9, hv10, hv11, hv12, hv13, hv14, hv15, hv16, hv17, hv18, hv19, hv20, hv21, hv22, hv23, hv24, hv25, hv26, hv27, hv28, hv29, hv30, hv31, hv32, hv33, hv34, hv35, hv36, hv37, hv38, hv39, hv40, hv41, hv42, hv43]
        clear hv0 hv1 hv2 hv3 hv4 hv5 hv6 hv7 hv8 hv9 hv10 hv11 hv12 hv13 hv14 hv15 hv16 hv17 hv18 hv19 hv20 hv21 hv22 hv23 hv24 hv25 hv26 hv27 hv28 hv29 hv30 hv31 hv32 hv33 hv34 hv35 hv36 hv37 hv38 hv39 hv40 hv41 hv42 hv43
        generalize w_ = w904201 at HS ⊢
        refine fr_at (l' := (rcV r A c :: rcV n A2 c2 :: .agg ([.int .u32 a, .int .u32 b] : List Value).toArray :: .pointer (some ⟨g5, 0, none⟩) :: .pointer (some ⟨g8, 0, none⟩) :: .pointer (some ⟨g11, 0, none⟩) :: .bool true :: .slice A31 ((bB r).length) c32 :: .int .i64 (bE r) :: .slice A38 ((bB r).length) c39 :: .int .i64 (bE r) :: .pointer (some ⟨g46, 0, none⟩) :: .bool (fdB r.sn a b) :: .pointer (some ⟨g56, 0, none⟩) :: .bool f :: undef :: u16 :: .bool true :: .bool false :: .pointer (some ⟨g5, 7, none⟩) :: .slice A r.sn.length c :: .int .i64 (r.sn.length : Int) :: .bool false :: .bool false :: V8.l qz50 (V8.l qz51 (rcV r A c :: .agg ([.int .u32 a, .int .u32 b] : List Value).toArray :: .tuple [.agg ([.int .u32 ((fdO r.sn a b).1), .int .u32 ((fdO r.sn a b).2.1), .int .i64 ((fdO r.sn a b).2.2.1), .int .u32 ((fdO r.sn a b).2.2.2)] : List Value).toArray, .bool (fdB r.sn a b)].toArray :: .agg ([.int .u32 ((fdO r.sn a b).1), .int .u32 ((fdO r.sn a b).2.1), .int .i64 ((fdO r.sn a b).2.2.1), .int .u32 ((fdO r.sn a b).2.2.2)] : List Value).toArray :: .bool (fdB r.sn a b) :: .agg ([.int .u32 0, .int .u32 0, .int .i64 0, .int .u32 0] : List Value).toArray :: .pointer (some ⟨g5, 7, none⟩) :: .slice A r.sn.length c :: .int .i64 (r.sn.length : Int) :: .int .i64 (r.sn.length : Int) :: .bool (decide ((r.sn.length : Int) < (r.sn.length : Int))) :: u51 :: u52 :: u53 :: u54 :: u55 :: u56 :: u57 :: u58 :: u59 :: u60 :: u61 :: u62 :: rcV r A c :: .bool (rcOk r) :: rcV r A c :: .bool (rcOk r) :: .bool true :: .bool true :: rcV r A c :: rcV n A2 c2 :: .bool (rcS r n) :: rcV r A c :: rcV n A2 c2 :: .bool (rcS r n) :: .bool true :: .bool true :: .bool true :: .slice A31 ((bB r).length) c32 :: .string (strB (bB r)) :: .slice A38 ((bB r).length) c39 :: .string (strB (bB r)) :: .bool true :: .bool true :: .bool true :: .int .i64 (bE r) :: .int .i64 (bE r) :: .bool true :: .bool true :: .bool true :: .agg ([.int .u32 ((fdO r.sn a b).1), .int .u32 ((fdO r.sn a b).2.1), .int .i64 ((fdO r.sn a b).2.2.1), .int .u32 ((fdO r.sn a b).2.2.2)] : List Value).toArray :: .agg ([.int .u32 q.1, .int .u32 q.2.1, .int .i64 q.2.2.1, .int .u32 q.2.2.2] : List Value).toArray :: .bool true :: .bool true :: .bool true :: .bool (fdB r.sn a b) :: .bool f :: .bool true :: .bool true :: .bool true :: rcV r A c :: .slice oa116 ((rtsL r).length) nc117 :: rcV r A c :: .slice oa119 ((rtsL r).length) nc120 :: .bool true :: .bool true :: [])))) rfl ?_
        refine hK109 _ _ ?_
        refine wp_ret ?_
        try simp only [Exit.inBlock, Exit.then]
        refine c_ret (.bool true) (r_tmp rfl rfl) ?_
        exact ⟨rfl, HS.belowOf⟩
theorem retells_any (r : Rc) (A : Option Addr) (c : Nat) (n : Rc) (A2 : Option Addr) (c2 : Nat) (a b : Int) (w : World) (hw : r.wf) (hA : kSn.C w A r.sn.length r.sn) (hv : n.wf) (hA2 : kSn.C w A2 n.sn.length n.sn) : Calls Try.prog 7 #[rcV r A c, rcV n A2 c2, .agg #[.int .u32 a, .int .u32 b]] w fun e w' => e = .returned (.bool true) ∧ Below w.heap.size w w' := tells_law w r hw A c hA n hv A2 c2 hA2 a b
end Go.Proofs.Ytkiiangookibnaa
