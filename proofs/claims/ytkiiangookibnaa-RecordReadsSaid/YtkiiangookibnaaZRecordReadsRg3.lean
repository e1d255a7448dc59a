/- The document's reader; its Read of messages. -/
import Derived.Test.YtkiiangookibnaaZRecordReadsRq2
import Derived.Test.YtkiiangookibnaaZRecordReadsWkSS
set_option linter.unusedVariables false
set_option linter.unusedSimpArgs false
namespace Go.Proofs.Ytkiiangookibnaa
open Go.RowKit Go.Proofs.YtkiiangookibnaaW.PrintWords Go.Proofs.YtkiiangookibnaaW.PrintLast
abbrev U4g3 (l : List Value) : List Value := undef :: undef :: undef :: undef :: l
abbrev U8g3 (l : List Value) : List Value := U4g3 (U4g3 l)
abbrev U16g3 (l : List Value) : List Value := U8g3 (U8g3 l)
abbrev U32g3 (l : List Value) : List Value := U16g3 (U16g3 l)
theorem tk_bad (bs : List UInt8) (at_ : Nat) (f : Bool) (n : Int) (h : at_ ≤ bs.length) : takeBad (bs.drop at_) f n = ((f || decide (n < 0)) || decide (n > (bs.length : Int) - (at_ : Int))) := by
  unfold takeBad
  rw [List.length_drop]
  congr 1
  exact decide_eq_decide.2 (by omega)
theorem wide_ok {n : Int} (h : n = 1 ∨ n = 4 ∨ n = 8) : wideB n = true := by rcases h with rfl | rfl | rfl <;> rfl
theorem leN_snoc (l : List UInt8) (x : UInt8) : leN (l ++ [x]) = leN l + 256 ^ l.length * x.toNat := by
  induction l with
  | nil => simp [leN]
  | cons c l ih =>
    have e : 256 * (256 ^ l.length * x.toNat) = 256 ^ l.length * 256 * x.toNat := by rw [Nat.mul_comm (256 ^ l.length) 256, Nat.mul_assoc]
    simp only [List.cons_append, leN, ih, List.length_cons, Nat.pow_succ]
    rw [Nat.mul_add, e]
    omega
set_option maxRecDepth 10000 in
theorem r1right_any (w : World) (n : Int) (hn : n = 1 ∨ n = 4 ∨ n = 8) : Calls Try.prog 61 #[.int .i64 n] w fun e w' => e = .returned (.bool true) ∧ Below w.heap.size w w' := by
  have HS := St.empty w
  · skip
    refine c_enter Try.func61 rfl 17 rfl (.int .i64 n :: U16g3 ([])) rfl ?_
    refine wp_seq_k (fun K1 hK2 => ?_)
    refine c_region (fun ops4 hops3 => ?_)
    clear hops3
    refine p_run _ (x_assign (.bool false) rfl rfl) rfl ?_
    refine wpList_nil ?_
    refine hK2 _ _ ?_
    refine wp_seq_k (fun K5 hK6 => ?_)
    refine c_region (fun ops8 hops7 => ?_)
    refine p_run _ (x_move (.int .i64 n) rfl rfl) rfl ?_
    refine p_run _ (x_cmp (k := .i64) (m := n) (n := 1) .eql (n == 1) rfl rfl rfl rfl rfl) rfl ?_
    refine p_run _ (x_move (.bool (n == 1)) rfl rfl) rfl ?_
    obtain ⟨bz9, hbz9⟩ : ∃ b_, b_ = ((n == 1)) := ⟨_, rfl⟩
    rw [← hbz9]
    refine p_tail 3 (fun a_ w_ => ∃ (uz6 uz7 : Value) (bz10 : Bool), a_ = fr (.int .i64 n :: undef :: .bool false :: .int .i64 n :: .bool bz9 :: .bool bz9 :: uz6 :: uz7 :: .bool bz10 :: U8g3 ([])) ∧ bz10 = (bz9 || (n == 2)) ∧ St w (fun _ => False) w_ ([])) (fun T11 => ?_) ?_
    · cases bz9
      · skip
        refine p_on rfl (by rw [hops7]; rfl) ?_
        refine p_run _ (x_move (.int .i64 n) rfl rfl) rfl ?_
        refine p_on rfl (by rw [hops7]; rfl) ?_
        refine p_run _ (x_cmp (k := .i64) (m := n) (n := 2) .eql (n == 2) rfl rfl rfl rfl rfl) rfl ?_
        refine p_run _ (x_pick false (.bool true) (.bool (n == 2)) (.bool (n == 2)) rfl rfl rfl rfl rfl) rfl ?_
        exact T11 _ _ ⟨(.int .i64 n), (.bool (n == 2)), (n == 2), rfl, rfl, HS⟩
      · skip
        refine p_off (by rw [hops7]; rfl) rfl ?_
        refine p_off (by rw [hops7]; rfl) rfl ?_
        refine p_run _ (x_pick true (.bool true) (undef) (.bool true) rfl rfl rfl rfl rfl) rfl ?_
        exact T11 _ _ ⟨undef, undef, true, rfl, rfl, HS⟩
    clear HS
    rintro _ w_ ⟨uz6, uz7, bz10, rfl, hbz10, HS⟩
    skip
    refine p_run _ (x_move (.bool bz10) rfl rfl) rfl ?_
    refine p_tail 3 (fun a_ w_ => ∃ (uz10 uz11 : Value) (bz13 : Bool), a_ = fr (.int .i64 n :: undef :: .bool false :: .int .i64 n :: .bool bz9 :: .bool bz9 :: uz6 :: uz7 :: .bool bz10 :: .bool bz10 :: uz10 :: uz11 :: .bool bz13 :: U4g3 ([])) ∧ bz13 = (bz10 || (n == 4)) ∧ St w (fun _ => False) w_ ([])) (fun T14 => ?_) ?_
    · cases bz10
      · skip
        refine p_on rfl (by rw [hops7]; rfl) ?_
        refine p_run _ (x_move (.int .i64 n) rfl rfl) rfl ?_
        refine p_on rfl (by rw [hops7]; rfl) ?_
        refine p_run _ (x_cmp (k := .i64) (m := n) (n := 4) .eql (n == 4) rfl rfl rfl rfl rfl) rfl ?_
        refine p_run _ (x_pick false (.bool true) (.bool (n == 4)) (.bool (n == 4)) rfl rfl rfl rfl rfl) rfl ?_
        exact T14 _ _ ⟨(.int .i64 n), (.bool (n == 4)), (n == 4), rfl, rfl, HS⟩
      · skip
        refine p_off (by rw [hops7]; rfl) rfl ?_
        refine p_off (by rw [hops7]; rfl) rfl ?_
        refine p_run _ (x_pick true (.bool true) (undef) (.bool true) rfl rfl rfl rfl rfl) rfl ?_
        exact T14 _ _ ⟨undef, undef, true, rfl, rfl, HS⟩
    clear HS
    rintro _ w_ ⟨uz10, uz11, bz13, rfl, hbz13, HS⟩
    skip
    refine p_run _ (x_move (.bool bz13) rfl rfl) rfl ?_
    refine p_tail 3 (fun a_ w_ => ∃ (qz17 : V8) (bz16 : Bool), a_ = fr (.int .i64 n :: undef :: .bool false :: .int .i64 n :: .bool bz9 :: .bool bz9 :: uz6 :: uz7 :: V8.l qz17 (.bool bz16 :: [])) ∧ bz16 = (bz13 || (n == 8)) ∧ St w (fun _ => False) w_ ([])) (fun T18 => ?_) ?_
    · cases bz13
      · skip
        refine p_on rfl (by rw [hops7]; rfl) ?_
        refine p_run _ (x_move (.int .i64 n) rfl rfl) rfl ?_
        refine p_on rfl (by rw [hops7]; rfl) ?_
        refine p_run _ (x_cmp (k := .i64) (m := n) (n := 8) .eql (n == 8) rfl rfl rfl rfl rfl) rfl ?_
        refine p_run _ (x_pick false (.bool true) (.bool (n == 8)) (.bool (n == 8)) rfl rfl rfl rfl rfl) rfl ?_
        exact T18 _ _ ⟨⟨.bool bz10, .bool bz10, uz10, uz11, .bool false, .bool false, .int .i64 n, .bool (n == 8)⟩, (n == 8), rfl, rfl, HS⟩
      · skip
        refine p_off (by rw [hops7]; rfl) rfl ?_
        refine p_off (by rw [hops7]; rfl) rfl ?_
        refine p_run _ (x_pick true (.bool true) (undef) (.bool true) rfl rfl rfl rfl rfl) rfl ?_
        exact T18 _ _ ⟨⟨.bool bz10, .bool bz10, uz10, uz11, .bool true, .bool true, undef, undef⟩, true, rfl, rfl, HS⟩
    clear HS
    rintro _ w_ ⟨qz17, bz16, rfl, hbz16, HS⟩
    skip
    refine p_run _ (x_assign (.bool bz16) rfl rfl) rfl ?_
    clear hops7
    refine wpList_nil ?_
    refine hK6 _ _ ?_
    refine wp_ret ?_
    try simp only [Exit.inBlock, Exit.then]
    refine c_ret (.bool bz16) (r_tmp rfl rfl) ?_
    have e1 : bz16 = true := by
      rw [hbz16, hbz13, hbz10, hbz9]
      rcases hn with rfl | rfl | rfl <;> rfl
    rw [e1]
    exact ⟨rfl, HS.belowOf⟩
theorem mid_rd {w : World} {B : Option Addr} {cb : Nat} {bs : List UInt8} (h : Sl w B cb bs) (a k : Nat) (hk : a + k ≤ bs.length) : kByte.C w (if cb = a then B else B.map (·.add (a * 1))) k ((bs.drop a).take k) := by
  have hl : ((bs.drop a).take k).length = k := by rw [List.length_take, List.length_drop]; omega
  have hc := h.cap
  by_cases e : cb = a
  · have : k = 0 := by omega
    subst this
    rw [List.take_zero]
    exact ⟨rfl, Nat.zero_le _, fun h => absurd h (by simp)⟩
  · rw [if_neg e, Nat.mul_one]
    have h1 := ((h.drop a (by omega)).take k (by rw [List.length_drop]; omega)).rd
    have h2 : Rd w (B.map (·.add a)) ((bs.drop a).take k) := h1
    rw [show k = ((bs.drop a).take k).length from hl.symm]
    rw [hl]
    have h3 : kByte.C w (B.map (·.add a)) ((bs.drop a).take k).length ((bs.drop a).take k) := h2
    rwa [hl] at h3
set_option maxRecDepth 10000 in
set_option maxHeartbeats 2000000 in
theorem r1take_any (w : World) (B : Option Addr) (cb : Nat) (bs : List UInt8) (hr : Sl w B cb bs) (hl : bs.length ≤ 100000) (at_ : Nat) (ha : at_ ≤ bs.length) (f : Bool) (n : Int) (hn : -1000 ≤ n ∧ n ≤ 1000) : Calls Try.prog 62 #[.agg ([.slice B bs.length cb, .int .i64 (at_ : Int), .bool f] : List Value).toArray, .int .i64 n] w fun e w' => ∃ (at' : Nat) (A : Option Addr) (c : Nat), e = .returned (.tuple #[.agg #[.slice B bs.length cb, .int .i64 (at' : Int), .bool (takeBad (bs.drop at_) f n)], .slice A (takeOut (bs.drop at_) f n).length c]) ∧ (bs.drop at' = takeRest (bs.drop at_) f n ∧ at' ≤ bs.length) ∧ St w (fun _ => False) w' [row kByte rfl 5 (.slice A (takeOut (bs.drop at_) f n).length c) (takeOut (bs.drop at_) f n)] := by
  have HS := St.empty w
  have hcap := hr.cap
  · skip
    refine c_enter Try.func62 rfl 43 rfl (.agg ([.slice B bs.length cb, .int .i64 (at_ : Int), .bool f] : List Value).toArray :: .int .i64 n :: U32g3 (U8g3 (undef :: []))) rfl ?_
    refine wp_seq_k (fun K1 hK2 => ?_)
    refine c_region (fun ops4 hops3 => ?_)
    clear hops3
    refine St.wBox HS (cs := [.slice B bs.length cb, .int .i64 (at_ : Int), .bool f]) (.agg ([.slice B bs.length cb, .int .i64 (at_ : Int), .bool f] : List Value).toArray) rfl rfl ?_
    clear HS
    intro g5 w6 hg7 HS
    refine St.wAlloc HS (cs := [.slice none 0 0, .int .i64 0, .bool false]) (.agg [.slice none 0 0, .int .i64 0, .bool false].toArray) (by kernel_rfl) rfl ?_
    clear HS
    intro g8 w9 hg10 HS
    refine p_run _ (x_assign (.slice none 0 0) rfl rfl) rfl ?_
    refine wpList_nil ?_
    refine hK2 _ _ ?_
    refine wp_seq_k (fun K11 hK12 => ?_)
    refine wp_seq_k (fun K13 hK14 => ?_)
    refine c_region (fun ops16 hops15 => ?_)
    refine p_run _ (x_field (j := 2) _ _ rfl rfl Try.underlying71 rfl (by rfl) rfl) rfl ?_
    refine p_run _ (x_load (.bool f) rfl rfl (bkCell (HS.get (.tail _ (.head _))) 2 _ rfl) (by rfl)) rfl ?_
    refine p_run _ (x_move (.bool f) rfl rfl) rfl ?_
    refine p_tail 3 (fun a_ w_ => ∃ (uz10 uz11 : Value) (bz17 : Bool), a_ = fr (.agg ([.slice B bs.length cb, .int .i64 (at_ : Int), .bool f] : List Value).toArray :: .int .i64 n :: .pointer (some ⟨g5, 0, none⟩) :: undef :: .pointer (some ⟨g8, 0, none⟩) :: .slice none 0 0 :: undef :: .pointer (some ⟨g5, 2, none⟩) :: .bool f :: .bool f :: uz10 :: uz11 :: .bool bz17 :: U16g3 (U8g3 (U4g3 (undef :: undef :: [])))) ∧ bz17 = (f || (decide (n < 0))) ∧ St w (fun _ => False) w_ ([blk g8 [.slice none 0 0, .int .i64 0, .bool false] 71, blk g5 [.slice B bs.length cb, .int .i64 (at_ : Int), .bool f] 71])) (fun T18 => ?_) ?_
    · cases f
      · skip
        refine p_on rfl (by rw [hops15]; rfl) ?_
        refine p_run _ (x_move (.int .i64 n) rfl rfl) rfl ?_
        refine p_on rfl (by rw [hops15]; rfl) ?_
        refine p_run _ (x_cmp (k := .i64) (m := n) (n := 0) .lss (decide (n < 0)) rfl rfl rfl rfl rfl) rfl ?_
        refine p_run _ (x_pick false (.bool true) (.bool (decide (n < 0))) (.bool (decide (n < 0))) rfl rfl rfl rfl rfl) rfl ?_
        exact T18 _ _ ⟨(.int .i64 n), (.bool (decide (n < 0))), (decide (n < 0)), rfl, rfl, HS⟩
      · skip
        refine p_off (by rw [hops15]; rfl) rfl ?_
        refine p_off (by rw [hops15]; rfl) rfl ?_
        refine p_run _ (x_pick true (.bool true) (undef) (.bool true) rfl rfl rfl rfl rfl) rfl ?_
        exact T18 _ _ ⟨undef, undef, true, rfl, rfl, HS⟩
    clear HS
    rintro _ w_ ⟨uz10, uz11, bz17, rfl, hbz17, HS⟩
    skip
    refine p_run _ (x_move (.bool bz17) rfl rfl) rfl ?_
    refine p_tail 9 (fun a_ w_ => ∃ (uz16 uz17 uz18 uz19 uz20 uz21 : Value) (qz21 : V8) (bz20 : Bool), a_ = fr (.agg ([.slice B bs.length cb, .int .i64 (at_ : Int), .bool f] : List Value).toArray :: .int .i64 n :: .pointer (some ⟨g5, 0, none⟩) :: undef :: .pointer (some ⟨g8, 0, none⟩) :: .slice none 0 0 :: undef :: .pointer (some ⟨g5, 2, none⟩) :: V8.l qz21 (uz16 :: uz17 :: uz18 :: uz19 :: uz20 :: uz21 :: .bool bz20 :: U16g3 (U4g3 ([])))) ∧ bz20 = (bz17 || (decide (n > ((bs.length : Int) - (at_ : Int))))) ∧ St w (fun _ => False) w_ ([blk g8 [.slice none 0 0, .int .i64 0, .bool false] 71, blk g5 [.slice B bs.length cb, .int .i64 (at_ : Int), .bool f] 71])) (fun T22 => ?_) ?_
    · cases bz17
      · skip
        refine p_on rfl (by rw [hops15]; rfl) ?_
        refine p_run _ (x_move (.int .i64 n) rfl rfl) rfl ?_
        refine p_on rfl (by rw [hops15]; rfl) ?_
        refine p_run _ (x_field (j := 0) _ _ rfl rfl Try.underlying71 rfl (by rfl) rfl) rfl ?_
        refine p_on rfl (by rw [hops15]; rfl) ?_
        refine p_run _ (x_load (.slice B bs.length cb) rfl rfl (bkCell (HS.get (.tail _ (.head _))) 0 _ rfl) (by rfl)) rfl ?_
        refine p_on rfl (by rw [hops15]; rfl) ?_
        refine p_run _ (x_len rfl rfl Try.underlying22) rfl ?_
        refine p_on rfl (by rw [hops15]; rfl) ?_
        refine p_run _ (x_field (j := 1) _ _ rfl rfl Try.underlying71 rfl (by rfl) rfl) rfl ?_
        refine p_on rfl (by rw [hops15]; rfl) ?_
        refine p_run _ (x_load (.int .i64 (at_ : Int)) rfl rfl (bkCell (HS.get (.tail _ (.head _))) 1 _ rfl) (by rfl)) rfl ?_
        refine p_on rfl (by rw [hops15]; rfl) ?_
        refine p_run (l' := (.agg ([.slice B bs.length cb, .int .i64 (at_ : Int), .bool f] : List Value).toArray :: .int .i64 n :: .pointer (some ⟨g5, 0, none⟩) :: undef :: .pointer (some ⟨g8, 0, none⟩) :: .slice none 0 0 :: undef :: .pointer (some ⟨g5, 2, none⟩) :: .bool f :: .bool f :: uz10 :: uz11 :: .bool false :: .bool false :: .int .i64 n :: .pointer (some ⟨g5, 0, none⟩) :: .slice B bs.length cb :: .int .i64 (bs.length : Int) :: .pointer (some ⟨g5, 1, none⟩) :: .int .i64 (at_ : Int) :: .int .i64 ((bs.length : Int) - (at_ : Int)) :: U16g3 (U4g3 (undef :: undef :: [])))) _ (x_arith (k := .i64) (m := (bs.length : Int)) (n := (at_ : Int)) .sub (((bs.length : Int) - (at_ : Int))) rfl rfl rfl (show IntKind.i64.wrap ((bs.length : Int) - (at_ : Int)) = ((bs.length : Int) - (at_ : Int)) from (wr64' (by omega))) rfl) rfl ?_
        refine p_on rfl (by rw [hops15]; rfl) ?_
        refine p_run _ (x_cmp (k := .i64) (m := n) (n := ((bs.length : Int) - (at_ : Int))) .gtr (decide (n > ((bs.length : Int) - (at_ : Int)))) rfl rfl rfl rfl rfl) rfl ?_
        refine p_run _ (x_pick false (.bool true) (.bool (decide (n > ((bs.length : Int) - (at_ : Int))))) (.bool (decide (n > ((bs.length : Int) - (at_ : Int))))) rfl rfl rfl rfl rfl) rfl ?_
        exact T22 _ _ ⟨(.slice B bs.length cb), (.int .i64 (bs.length : Int)), (.pointer (some ⟨g5, 1, none⟩)), (.int .i64 (at_ : Int)), (.int .i64 ((bs.length : Int) - (at_ : Int))), (.bool (decide (n > ((bs.length : Int) - (at_ : Int))))), ⟨.bool f, .bool f, uz10, uz11, .bool false, .bool false, .int .i64 n, .pointer (some ⟨g5, 0, none⟩)⟩, (decide (n > ((bs.length : Int) - (at_ : Int)))), rfl, rfl, HS⟩
      · skip
        refine p_off (by rw [hops15]; rfl) rfl ?_
        refine p_off (by rw [hops15]; rfl) rfl ?_
        refine p_off (by rw [hops15]; rfl) rfl ?_
        refine p_off (by rw [hops15]; rfl) rfl ?_
        refine p_off (by rw [hops15]; rfl) rfl ?_
        refine p_off (by rw [hops15]; rfl) rfl ?_
        refine p_off (l' := (.agg ([.slice B bs.length cb, .int .i64 (at_ : Int), .bool f] : List Value).toArray :: .int .i64 n :: .pointer (some ⟨g5, 0, none⟩) :: undef :: .pointer (some ⟨g8, 0, none⟩) :: .slice none 0 0 :: undef :: .pointer (some ⟨g5, 2, none⟩) :: .bool f :: .bool f :: uz10 :: uz11 :: .bool true :: .bool true :: U16g3 (U8g3 (U4g3 (undef :: []))))) (by rw [hops15]; rfl) rfl ?_
        refine p_off (by rw [hops15]; rfl) rfl ?_
        refine p_run _ (x_pick true (.bool true) (undef) (.bool true) rfl rfl rfl rfl rfl) rfl ?_
        exact T22 _ _ ⟨undef, undef, undef, undef, undef, undef, ⟨.bool f, .bool f, uz10, uz11, .bool true, .bool true, undef, undef⟩, true, rfl, rfl, HS⟩
    clear HS
    rintro _ w_ ⟨uz16, uz17, uz18, uz19, uz20, uz21, qz21, bz20, rfl, hbz20, HS⟩
    skip
    clear hops15
    refine wpList_nil ?_
    refine hK14 _ _ ?_
    refine c_cond (t := bz20) rfl (fun hc24 => ?_) (fun hc24 => ?_)
    · rw [hbz20, hbz17, ← tk_bad bs at_ f n ha] at hc24
      have hbad := hc24
      refine wp_seq_k (fun K25 hK26 => ?_)
      refine c_region (fun ops28 hops27 => ?_)
      clear hops27
      refine p_run _ (x_field (j := 2) _ _ rfl rfl Try.underlying71 rfl (by rfl) rfl) rfl ?_
      refine St.store (cs' := [.slice B bs.length cb, .int .i64 (at_ : Int), .bool true]) (HS.front 1 rfl) (.bool true) rfl rfl rfl (by kernel_rfl) (by rfl) rfl ?_
      clear HS
      intro w29 HS
      refine wpList_nil ?_
      refine hK26 _ _ ?_
      refine wp_seq_k (fun K30 hK31 => ?_)
      refine c_region (fun ops33 hops32 => ?_)
      clear hops32
      refine p_run _ (x_loads [.slice B bs.length cb, .int .i64 (at_ : Int), .bool true] 3 rfl rfl (bkCells (HS.get (.head _)) 0 _ rfl) (by rfl) (by kernel_rfl) rfl) rfl ?_
      refine St.stores (cs' := [.slice B bs.length cb, .int .i64 (at_ : Int), .bool true]) (HS.front 1 rfl) [.slice B bs.length cb, .int .i64 (at_ : Int), .bool true] 3 rfl rfl (by rfl) (by kernel_rfl) rfl (by simp) rfl ?_
      clear HS
      intro w34 HS
      refine p_run _ (x_assign (.slice none 0 0) rfl rfl) rfl ?_
      refine wpList_nil ?_
      refine hK31 _ _ ?_
      refine wp_ret ?_
      try simp only [Exit.inBlock, Exit.then]
      refine c_ret (.tuple [.agg ([.slice B bs.length cb, .int .i64 (at_ : Int), .bool true] : List Value).toArray, .slice none 0 0].toArray) (r_ct rfl rfl (run_loadVar_aggn (by rfl) [.slice B bs.length cb, .int .i64 (at_ : Int), .bool true] 3 (by kernel_rfl) rfl (bkCells (HS.get (.head _)) 0 _ (whole _))) rfl) ?_
      replace HS := HS.nil kByte rfl 5
      have e1 : takeOut (bs.drop at_) f n = [] := if_pos hbad
      have e2 : takeRest (bs.drop at_) f n = bs.drop at_ := if_pos hbad
      rw [e1, e2, hbad]
      exact ⟨at_, none, 0, rfl, ⟨rfl, ha⟩, ((HS.front 1 rfl).drop.front 1 rfl).drop⟩
    · rw [hbz20, hbz17, ← tk_bad bs at_ f n ha] at hc24
      have hbad := hc24
      have hfb := hbad
      rw [tk_bad bs at_ f n ha] at hfb
      simp only [Bool.or_eq_false_iff, decide_eq_false_iff_not] at hfb
      obtain ⟨⟨hf_, hn0⟩, hn1⟩ := hfb
      obtain ⟨k, rfl⟩ := Int.eq_ofNat_of_zero_le (show 0 ≤ n by omega)
      refine wp_skip ?_
      refine hK12 _ _ ?_
      refine wp_seq_k (fun K35 hK36 => ?_)
      refine c_region (fun ops38 hops37 => ?_)
      clear hops37
      refine St.wLit0 HS kByte rfl 1 (.int .u8 0) Try.underlying22 (by kernel_rfl) ?_
      clear HS
      intro v39 w40 HS
      refine p_run _ (x_field (j := 0) _ _ rfl rfl Try.underlying71 rfl (by rfl) rfl) rfl ?_
      refine p_run _ (x_load (.slice B bs.length cb) rfl rfl (bkCell (HS.get (.tail _ (.tail _ (.head _)))) 0 _ rfl) (by rfl)) rfl ?_
      refine p_run (l' := (.agg ([.slice B bs.length cb, .int .i64 (at_ : Int), .bool f] : List Value).toArray :: .int .i64 (k : Int) :: .pointer (some ⟨g5, 0, none⟩) :: undef :: .pointer (some ⟨g8, 0, none⟩) :: .slice none 0 0 :: undef :: .pointer (some ⟨g5, 2, none⟩) :: V8.l qz21 (uz16 :: uz17 :: uz18 :: uz19 :: uz20 :: uz21 :: .bool bz20 :: undef :: undef :: v39 :: .pointer (some ⟨g5, 0, none⟩) :: .slice B bs.length cb :: .pointer (some ⟨g5, 1, none⟩) :: U8g3 (U4g3 (undef :: undef :: []))))) _ (x_field (j := 1) _ _ rfl rfl Try.underlying71 rfl (by rfl) rfl) rfl ?_
      refine p_run _ (x_load (.int .i64 (at_ : Int)) rfl rfl (bkCell (HS.get (.tail _ (.tail _ (.head _)))) 1 _ rfl) (by rfl)) rfl ?_
      refine p_run _ (x_field (j := 1) _ _ rfl rfl Try.underlying71 rfl (by rfl) rfl) rfl ?_
      refine p_run _ (x_load (.int .i64 (at_ : Int)) rfl rfl (bkCell (HS.get (.tail _ (.tail _ (.head _)))) 1 _ rfl) (by rfl)) rfl ?_
      refine p_run _ (x_move (.int .i64 (k : Int)) rfl rfl) rfl ?_
      refine p_run _ (x_arith (k := .i64) (m := (at_ : Int)) (n := (k : Int)) .add (((at_ + k : Nat) : Int)) rfl rfl rfl (show IntKind.i64.wrap ((at_ : Int) + (k : Int)) = ((at_ + k : Nat) : Int) from ((wr64' (by omega)).trans (by omega))) rfl) rfl ?_
      refine p_run (.slice (if cb = at_ then B else B.map (·.add (at_ * 1))) k (cb - at_)) ((x_slice (sz := 1) (L := (some (.tmp 29))) (H := (some (.tmp 33))) (lo := at_) (hi := (at_ + k : Nat)) (if cb = at_ then B else B.map (·.add (at_ * 1))) rfl rfl Try.underlying22 (by kernel_rfl) ⟨_, _, rfl, (by omega), rfl⟩ ⟨_, _, rfl, (by omega), rfl⟩ (by omega) (by omega) rfl).trans (by first | rfl | (rw [show (at_ + k : Nat) - at_ = k from (by omega), show cb - at_ = cb - at_ from (by omega)]))) rfl ?_
      refine St.wAppend HS (.int .u8 0) 1 Try.underlying22 (by kernel_rfl) rfl (by decide) (by decide) ((bs.drop at_).take k) _ _ _ rfl rfl (mid_rd (hr.below HS.belowOf) at_ k (by omega)) (fun _ _ h => h) (by simp only [List.length_nil]; omega) ?_
      clear HS
      intro v41 w42 HS
      refine fr_to (l' := (.agg ([.slice B bs.length cb, .int .i64 (at_ : Int), .bool f] : List Value).toArray :: .int .i64 (k : Int) :: .pointer (some ⟨g5, 0, none⟩) :: undef :: .pointer (some ⟨g8, 0, none⟩) :: .slice none 0 0 :: undef :: .pointer (some ⟨g5, 2, none⟩) :: V8.l qz21 (uz16 :: uz17 :: uz18 :: uz19 :: uz20 :: uz21 :: .bool bz20 :: undef :: undef :: v39 :: .pointer (some ⟨g5, 0, none⟩) :: .slice B bs.length cb :: .pointer (some ⟨g5, 1, none⟩) :: .int .i64 (at_ : Int) :: .pointer (some ⟨g5, 1, none⟩) :: .int .i64 (at_ : Int) :: .int .i64 (k : Int) :: .int .i64 ((at_ + k : Nat) : Int) :: .slice (if cb = at_ then B else B.map (·.add (at_ * 1))) k (cb - at_) :: v41 :: U4g3 (undef :: undef :: undef :: [])))) rfl ?_
      refine p_run _ (x_assign (v41) rfl rfl) rfl ?_
      refine wpList_nil ?_
      refine hK36 _ _ ?_
      refine wp_seq_k (fun K43 hK44 => ?_)
      refine c_region (fun ops46 hops45 => ?_)
      clear hops45
      refine p_run _ (x_field (j := 1) _ _ rfl rfl Try.underlying71 rfl (by rfl) rfl) rfl ?_
      refine p_run _ (x_load (.int .i64 (at_ : Int)) rfl rfl (bkCell (HS.get (.tail _ (.tail _ (.head _)))) 1 _ rfl) (by rfl)) rfl ?_
      refine p_run _ (x_move (.int .i64 (k : Int)) rfl rfl) rfl ?_
      refine p_run _ (x_arith (k := .i64) (m := (at_ : Int)) (n := (k : Int)) .add (((at_ + k : Nat) : Int)) rfl rfl rfl (show IntKind.i64.wrap ((at_ : Int) + (k : Int)) = ((at_ + k : Nat) : Int) from ((wr64' (by omega)).trans (by omega))) rfl) rfl ?_
      refine p_run _ (x_field (j := 1) _ _ rfl rfl Try.underlying71 rfl (by rfl) rfl) rfl ?_
      refine St.store (cs' := [.slice B bs.length cb, .int .i64 ((at_ + k : Nat) : Int), .bool f]) (HS.front 2 rfl) (.int .i64 ((at_ + k : Nat) : Int)) rfl rfl rfl (by kernel_rfl) (by rfl) rfl ?_
      clear HS
      intro w47 HS
      refine wpList_nil ?_
      obtain ⟨qz48, hqz48⟩ : ∃ q_ : V8, q_ = ⟨uz16, uz17, uz18, uz19, uz20, uz21, .bool bz20, undef⟩ := ⟨_, rfl⟩
      obtain ⟨qz49, hqz49⟩ : ∃ q_ : V8, q_ = ⟨undef, v39, .pointer (some ⟨g5, 0, none⟩), .slice B bs.length cb, .pointer (some ⟨g5, 1, none⟩), .int .i64 (at_ : Int), .pointer (some ⟨g5, 1, none⟩), .int .i64 (at_ : Int)⟩ := ⟨_, rfl⟩
      obtain ⟨qz50, hqz50⟩ : ∃ q_ : V8, q_ = ⟨.int .i64 (k : Int), .int .i64 ((at_ + k : Nat) : Int), .slice (if cb = at_ then B else B.map (·.add (at_ * 1))) k (cb - at_), v41, .pointer (some ⟨g5, 1, none⟩), .int .i64 (at_ : Int), .int .i64 (k : Int), .int .i64 ((at_ + k : Nat) : Int)⟩ := ⟨_, rfl⟩
      refine fr_at (l' := (.agg ([.slice B bs.length cb, .int .i64 (at_ : Int), .bool f] : List Value).toArray :: .int .i64 (k : Int) :: .pointer (some ⟨g5, 0, none⟩) :: undef :: .pointer (some ⟨g8, 0, none⟩) :: .slice none 0 0 :: v41 :: .pointer (some ⟨g5, 2, none⟩) :: V8.l qz21 (V8.l qz48 (V8.l qz49 (V8.l qz50 (.pointer (some ⟨g5, 1, none⟩) :: undef :: undef :: [])))))) (by subst hqz48 hqz49 hqz50; rfl) ?_
      refine hK44 _ _ ?_
      refine wp_seq_k (fun K51 hK52 => ?_)
      refine c_region (fun ops54 hops53 => ?_)
      clear hops53
      refine p_run _ (x_loads [.slice B bs.length cb, .int .i64 ((at_ + k : Nat) : Int), .bool f] 3 rfl rfl (bkCells (HS.get (.head _)) 0 _ rfl) (by rfl) (by kernel_rfl) rfl) rfl ?_
      refine p_run _ (x_move (v41) rfl rfl) rfl ?_
      refine St.stores (cs' := [.slice B bs.length cb, .int .i64 ((at_ + k : Nat) : Int), .bool f]) (HS.front 2 rfl) [.slice B bs.length cb, .int .i64 ((at_ + k : Nat) : Int), .bool f] 3 rfl rfl (by rfl) (by kernel_rfl) rfl (by simp) rfl ?_
      clear HS
      intro w55 HS
      refine p_run _ (x_assign (v41) rfl rfl) rfl ?_
      refine wpList_nil ?_
      refine hK52 _ _ ?_
      refine wp_ret ?_
      try simp only [Exit.inBlock, Exit.then]
      refine c_ret (.tuple [.agg ([.slice B bs.length cb, .int .i64 ((at_ + k : Nat) : Int), .bool f] : List Value).toArray, v41].toArray) (r_ct rfl rfl (run_loadVar_aggn (by rfl) [.slice B bs.length cb, .int .i64 ((at_ + k : Nat) : Int), .bool f] 3 (by kernel_rfl) rfl (bkCells (HS.get (.head _)) 0 _ (whole _))) rfl) ?_
      have e1 : takeOut (bs.drop at_) f (k : Int) = (bs.drop at_).take k := if_neg (by rw [hbad]; decide)
      have e2 : takeRest (bs.drop at_) f (k : Int) = (bs.drop at_).drop k := if_neg (by rw [hbad]; decide)
      rw [e1, e2, hbad, hf_]
      rw [List.nil_append] at HS
      obtain ⟨A', c', hv_, -, -⟩ := row_reads (HS.get (.tail _ (.tail _ (.head _))))
      subst hv_
      exact ⟨at_ + k, _, _, rfl, ⟨List.drop_drop.symm, by omega⟩, HS.drop.drop⟩
theorem tkO8 {xs : List UInt8} {f : Bool} {n : Int} (hn : n = 1 ∨ n = 4 ∨ n = 8) : (takeOut xs f n).length ≤ 8 := by
  unfold takeOut
  split
  · exact Nat.zero_le _
  · rw [List.length_take]; omega
def pw (j : Nat) : Int := IntKind.u64.wrap ((256 ^ j : Nat) : Int)
def sm (xs : List UInt8) (j : Nat) : Int := (leN (xs.take j) : Int)
theorem u64_bv (c : UInt8) : IntKind.u64.wrap (bv c) = bv c := by have := c.toNat_lt; unfold bv; rw [IntKind.wrap_u64]; omega
theorem pw_step {j : Nat} (h : j ≤ 8) : IntKind.u64.wrap (pw j * 256) = pw (j + 1) := by
  unfold pw
  have : j = 0 ∨ j = 1 ∨ j = 2 ∨ j = 3 ∨ j = 4 ∨ j = 5 ∨ j = 6 ∨ j = 7 ∨ j = 8 := by omega
  rcases this with rfl | rfl | rfl | rfl | rfl | rfl | rfl | rfl | rfl <;> decide
theorem sm_step {xs : List UInt8} {j : Nat} (h8 : xs.length ≤ 8) (hj : j < xs.length) : IntKind.u64.wrap (sm xs j + IntKind.u64.wrap (pw j * bv xs[j])) = sm xs (j + 1) := by
  have e1 : xs.take (j + 1) = xs.take j ++ [xs[j]] := List.take_succ_eq_append_getElem hj
  have l1 : (xs.take j).length = j := by rw [List.length_take]; omega
  have hb := leN_lt (xs.take (j + 1))
  have l2 : (xs.take (j + 1)).length = j + 1 := by rw [List.length_take]; omega
  have hp : 256 ^ (xs.take (j + 1)).length ≤ 256 ^ 8 := Nat.pow_le_pow_right (by decide) (by omega)
  have hb2 : leN (xs.take (j + 1)) < 18446744073709551616 := Nat.lt_of_lt_of_le hb (Nat.le_trans hp (by decide))
  clear hb hp
  have hs : leN (xs.take (j + 1)) = leN (xs.take j) + 256 ^ j * (xs[j]).toNat := by rw [e1, leN_snoc, l1]
  have hpj : pw j = ((256 ^ j : Nat) : Int) := by
    unfold pw
    have hq : 256 ^ j < 18446744073709551616 := Nat.lt_of_lt_of_le (Nat.pow_lt_pow_right (n := 8) (by decide) (by omega)) (by decide)
    generalize 256 ^ j = p at hq ⊢
    rw [IntKind.wrap_u64]; omega
  unfold sm
  rw [hpj]
  unfold bv
  rw [show ((256 ^ j : Nat) : Int) * ((xs[j]).toNat : Int) = ((256 ^ j * (xs[j]).toNat : Nat) : Int) from (Int.natCast_mul _ _).symm, IntKind.wrap_u64, IntKind.wrap_u64]
  obtain ⟨q, hq⟩ : ∃ q, q = 256 ^ j * (xs[j]).toNat := ⟨_, rfl⟩
  rw [← hq] at hs ⊢
  rw [hs] at hb2 ⊢
  clear hs hq hpj e1
  generalize leN (xs.take j) = p at *
  omega
theorem rn_sm {n : Int} {xs : List UInt8} {f : Bool} (hn : n = 1 ∨ n = 4 ∨ n = 8) (h8 : (takeOut xs f n).length ≤ 8) : rn n (xs, f) = sm (takeOut xs f n) (takeOut xs f n).length := by
  unfold rn sm
  rw [List.take_length, wide_ok hn]
  show numB (takeOut xs (f || false) n) = _
  rw [Bool.or_false, numB_eq _ h8]
theorem rs_wide {n : Int} {xs : List UInt8} {f : Bool} (hn : n = 1 ∨ n = 4 ∨ n = 8) : rs n (xs, f) = (takeRest xs f n, takeBad xs f n) := by
  unfold rs
  rw [wide_ok hn]
  show (takeRest xs (f || false) n, takeBad xs (f || false) n) = _
  rw [Bool.or_false]
set_option maxRecDepth 10000 in
set_option maxHeartbeats 2000000 in
theorem r1num_any (w : World) (B : Option Addr) (cb : Nat) (bs : List UInt8) (hr : Sl w B cb bs) (hl : bs.length ≤ 100000) (at_ : Nat) (ha : at_ ≤ bs.length) (f : Bool) (n : Int) (hn : n = 1 ∨ n = 4 ∨ n = 8) : Calls Try.prog 53 #[.agg ([.slice B bs.length cb, .int .i64 (at_ : Int), .bool f] : List Value).toArray, .int .i64 n] w fun e w' => ∃ (at' : Nat), e = .returned (.tuple #[.agg #[.slice B bs.length cb, .int .i64 (at' : Int), .bool (rs n (bs.drop at_, f)).2], .int .u64 (rn n (bs.drop at_, f))]) ∧ (bs.drop at' = (rs n (bs.drop at_, f)).1 ∧ at' ≤ bs.length) ∧ Below w.heap.size w w' := by
  have HS := St.empty w
  · skip
    refine c_enter Try.func53 rfl 39 rfl (.agg ([.slice B bs.length cb, .int .i64 (at_ : Int), .bool f] : List Value).toArray :: .int .i64 n :: U32g3 (U4g3 (undef :: []))) rfl ?_
    refine wp_seq_k (fun K1 hK2 => ?_)
    refine c_region (fun ops4 hops3 => ?_)
    clear hops3
    refine St.wBox HS (cs := [.slice B bs.length cb, .int .i64 (at_ : Int), .bool f]) (.agg ([.slice B bs.length cb, .int .i64 (at_ : Int), .bool f] : List Value).toArray) rfl rfl ?_
    clear HS
    intro g5 w6 hg7 HS
    refine St.wAlloc HS (cs := [.slice none 0 0, .int .i64 0, .bool false]) (.agg [.slice none 0 0, .int .i64 0, .bool false].toArray) (by kernel_rfl) rfl ?_
    clear HS
    intro g8 w9 hg10 HS
    refine p_run _ (x_assign (.int .u64 0) rfl rfl) rfl ?_
    refine wpList_nil ?_
    refine hK2 _ _ ?_
    refine wp_seq_k (fun K11 hK12 => ?_)
    refine wp_seq_k (fun K13 hK14 => ?_)
    refine c_region (fun ops16 hops15 => ?_)
    clear hops15
    refine p_run _ (x_move (.int .i64 n) rfl rfl) rfl ?_
    refine w_call [.int .i64 n] Try.func61 (by kernel_rfl) (by rfl) rfl ?_
    refine (r1right_any _ n hn).mono ?_
    rintro e w17 ⟨rfl, hb_⟩
    replace HS := HS.here hb_
    clear hb_
    refine ⟨_, rfl, ?_⟩
    refine p_run _ (x_not true rfl rfl) rfl ?_
    refine wpList_nil ?_
    refine fr_at (l' := (.agg ([.slice B bs.length cb, .int .i64 (at_ : Int), .bool f] : List Value).toArray :: .int .i64 n :: .pointer (some ⟨g5, 0, none⟩) :: undef :: .pointer (some ⟨g8, 0, none⟩) :: .int .u64 0 :: U4g3 (undef :: .int .i64 n :: .bool true :: .bool false :: U16g3 (U8g3 (undef :: []))))) rfl ?_
    refine hK14 _ _ ?_
    refine c_false rfl ?_
    refine wp_skip ?_
    refine hK12 _ _ ?_
    refine wp_seq_k (fun K18 hK19 => ?_)
    refine c_region (fun ops21 hops20 => ?_)
    clear hops20
    refine p_run _ (x_loads [.slice B bs.length cb, .int .i64 (at_ : Int), .bool f] 3 rfl rfl (bkCells (HS.get (.tail _ (.head _))) 0 _ rfl) (by rfl) (by kernel_rfl) rfl) rfl ?_
    refine p_run _ (x_move (.int .i64 n) rfl rfl) rfl ?_
    refine w_call [.agg ([.slice B bs.length cb, .int .i64 (at_ : Int), .bool f] : List Value).toArray, .int .i64 n] Try.func62 (by kernel_rfl) (by rfl) rfl ?_
    refine (r1take_any _ B cb bs (hr.below HS.belowOf) hl at_ ha f n (by omega)).mono ?_
    rintro e w22 ⟨at', A, c, rfl, hat, hk_⟩
    replace HS := HS.more hk_
    clear hk_
    refine ⟨_, rfl, ?_⟩
    refine p_run _ (x_move (.tuple [.agg ([.slice B bs.length cb, .int .i64 (at' : Int), .bool (takeBad (bs.drop at_) f n)] : List Value).toArray, .slice A ((takeOut (bs.drop at_) f n).length) c].toArray) rfl rfl) rfl ?_
    refine p_run _ (x_extract (vs := [.agg ([.slice B bs.length cb, .int .i64 (at' : Int), .bool (takeBad (bs.drop at_) f n)] : List Value).toArray, .slice A ((takeOut (bs.drop at_) f n).length) c]) 0 (.agg ([.slice B bs.length cb, .int .i64 (at' : Int), .bool (takeBad (bs.drop at_) f n)] : List Value).toArray) rfl rfl rfl) rfl ?_
    refine p_run _ (x_extract (vs := [.agg ([.slice B bs.length cb, .int .i64 (at' : Int), .bool (takeBad (bs.drop at_) f n)] : List Value).toArray, .slice A ((takeOut (bs.drop at_) f n).length) c]) 1 (.slice A ((takeOut (bs.drop at_) f n).length) c) rfl rfl rfl) rfl ?_
    refine St.stores (cs' := [.slice B bs.length cb, .int .i64 (at' : Int), .bool (takeBad (bs.drop at_) f n)]) (HS.front 2 rfl) [.slice B bs.length cb, .int .i64 (at' : Int), .bool (takeBad (bs.drop at_) f n)] 3 rfl rfl (by rfl) (by kernel_rfl) rfl (by simp) rfl ?_
    clear HS
    intro w23 HS
    refine p_run (l' := (.agg ([.slice B bs.length cb, .int .i64 (at_ : Int), .bool f] : List Value).toArray :: .int .i64 n :: .pointer (some ⟨g5, 0, none⟩) :: undef :: .pointer (some ⟨g8, 0, none⟩) :: .int .u64 0 :: .slice A ((takeOut (bs.drop at_) f n).length) c :: U4g3 (.int .i64 n :: .bool true :: .bool false :: undef :: undef :: .tuple [.agg ([.slice B bs.length cb, .int .i64 (at' : Int), .bool (takeBad (bs.drop at_) f n)] : List Value).toArray, .slice A ((takeOut (bs.drop at_) f n).length) c].toArray :: .agg ([.slice B bs.length cb, .int .i64 (at_ : Int), .bool f] : List Value).toArray :: .int .i64 n :: .tuple [.agg ([.slice B bs.length cb, .int .i64 (at' : Int), .bool (takeBad (bs.drop at_) f n)] : List Value).toArray, .slice A ((takeOut (bs.drop at_) f n).length) c].toArray :: .agg ([.slice B bs.length cb, .int .i64 (at' : Int), .bool (takeBad (bs.drop at_) f n)] : List Value).toArray :: .slice A ((takeOut (bs.drop at_) f n).length) c :: U16g3 (undef :: [])))) _ (x_assign (.slice A ((takeOut (bs.drop at_) f n).length) c) rfl rfl) rfl ?_
    refine wpList_nil ?_
    refine hK19 _ _ ?_
    refine wp_seq_k (fun K24 hK25 => ?_)
    refine c_region (fun ops27 hops26 => ?_)
    clear hops26
    refine p_run _ (x_assign (.int .u64 0) rfl rfl) rfl ?_
    refine wpList_nil ?_
    refine hK25 _ _ ?_
    refine wp_seq_k (fun K28 hK29 => ?_)
    refine c_region (fun ops31 hops30 => ?_)
    clear hops30
    refine p_run _ (x_assign (.int .u64 1) rfl rfl) rfl ?_
    refine wpList_nil ?_
    refine hK29 _ _ ?_
    refine wp_seq_k (fun K32 hK33 => ?_)
    refine wp_seq_k (fun K34 hK35 => ?_)
    refine c_region (fun ops37 hops36 => ?_)
    clear hops36
    refine p_run _ (x_move (.slice A ((takeOut (bs.drop at_) f n).length) c) rfl rfl) rfl ?_
    refine p_run _ (x_len rfl rfl Try.underlying22) rfl ?_
    refine p_run _ (x_move (.int .i64 0) rfl rfl) rfl ?_
    refine wpList_nil ?_
    refine fr_at (l' := (.agg ([.slice B bs.length cb, .int .i64 (at_ : Int), .bool f] : List Value).toArray :: .int .i64 n :: .pointer (some ⟨g5, 0, none⟩) :: undef :: .pointer (some ⟨g8, 0, none⟩) :: .int .u64 0 :: .slice A ((takeOut (bs.drop at_) f n).length) c :: .int .u64 0 :: .int .u64 1 :: undef :: undef :: .int .i64 n :: .bool true :: .bool false :: undef :: undef :: .tuple [.agg ([.slice B bs.length cb, .int .i64 (at' : Int), .bool (takeBad (bs.drop at_) f n)] : List Value).toArray, .slice A ((takeOut (bs.drop at_) f n).length) c].toArray :: .agg ([.slice B bs.length cb, .int .i64 (at_ : Int), .bool f] : List Value).toArray :: .int .i64 n :: .tuple [.agg ([.slice B bs.length cb, .int .i64 (at' : Int), .bool (takeBad (bs.drop at_) f n)] : List Value).toArray, .slice A ((takeOut (bs.drop at_) f n).length) c].toArray :: .agg ([.slice B bs.length cb, .int .i64 (at' : Int), .bool (takeBad (bs.drop at_) f n)] : List Value).toArray :: .slice A ((takeOut (bs.drop at_) f n).length) c :: .slice A ((takeOut (bs.drop at_) f n).length) c :: .int .i64 ((takeOut (bs.drop at_) f n).length : Int) :: .int .i64 0 :: U8g3 (U4g3 (undef :: undef :: [])))) rfl ?_
    refine hK35 _ _ ?_
    refine wp_block ?_
    have hO8 : (takeOut (bs.drop at_) f n).length ≤ 8 := tkO8 hn
    refine c_loop (ι := Nat) (fun i_ a_ w_ => match i_ with | j => ∃ (u10 : Value) (u25 : Value) (u26 : Value) (u27 : Value) (u28 : Value) (u29 : Value) (u30 : Value) (u31 : Value) (u32 : Value) (u33 : Value) (u34 : Value) (u35 : Value) (u36 : Value), a_ = fr (.agg ([.slice B bs.length cb, .int .i64 (at_ : Int), .bool f] : List Value).toArray :: .int .i64 n :: .pointer (some ⟨g5, 0, none⟩) :: undef :: .pointer (some ⟨g8, 0, none⟩) :: .int .u64 0 :: .slice A ((takeOut (bs.drop at_) f n).length) c :: .int .u64 (sm (takeOut (bs.drop at_) f n) j) :: .int .u64 (pw j) :: undef :: u10 :: .int .i64 n :: .bool true :: .bool false :: undef :: undef :: .tuple [.agg ([.slice B bs.length cb, .int .i64 (at' : Int), .bool (takeBad (bs.drop at_) f n)] : List Value).toArray, .slice A ((takeOut (bs.drop at_) f n).length) c].toArray :: .agg ([.slice B bs.length cb, .int .i64 (at_ : Int), .bool f] : List Value).toArray :: .int .i64 n :: .tuple [.agg ([.slice B bs.length cb, .int .i64 (at' : Int), .bool (takeBad (bs.drop at_) f n)] : List Value).toArray, .slice A ((takeOut (bs.drop at_) f n).length) c].toArray :: .agg ([.slice B bs.length cb, .int .i64 (at' : Int), .bool (takeBad (bs.drop at_) f n)] : List Value).toArray :: .slice A ((takeOut (bs.drop at_) f n).length) c :: .slice A ((takeOut (bs.drop at_) f n).length) c :: .int .i64 ((takeOut (bs.drop at_) f n).length : Int) :: .int .i64 (j : Int) :: u25 :: u26 :: u27 :: u28 :: u29 :: u30 :: u31 :: u32 :: u33 :: u34 :: u35 :: u36 :: undef :: undef :: []) ∧ St w (fun _ => False) w_ ([blk g5 [.slice B bs.length cb, .int .i64 (at' : Int), .bool (takeBad (bs.drop at_) f n)] 71, row kByte rfl 5 (.slice A ((takeOut (bs.drop at_) f n).length) c) (takeOut (bs.drop at_) f n), blk g8 [.slice none 0 0, .int .i64 0, .bool false] 71]) ∧ (j ≤ (takeOut (bs.drop at_) f n).length)) (fun i_ => match i_ with | j => (takeOut (bs.drop at_) f n).length - j) 0 ?_ ?_
    · exact ⟨_, _, _, _, _, _, _, _, _, _, _, _, _, rfl, (((HS.front 2 rfl).front 2 rfl).front 2 rfl), (by omega)⟩
    · clear HS
      rintro j a_ w40 ⟨u10, u25, u26, u27, u28, u29, u30, u31, u32, u33, u34, u35, u36, rfl, HS, hI⟩ J38 hJ39
      have hjl := hI
      refine wp_seq_k (fun K41 hK42 => ?_)
      refine c_region (fun ops44 hops43 => ?_)
      clear hops43
      refine p_run _ (x_cmp (k := .i64) (m := (j : Int)) (n := ((takeOut (bs.drop at_) f n).length : Int)) .lss (decide ((j : Int) < ((takeOut (bs.drop at_) f n).length : Int))) rfl rfl rfl rfl rfl) rfl ?_
      refine wpList_nil ?_
      refine hK42 _ _ ?_
      refine wp_seq_k (fun K45 hK46 => ?_)
      refine c_cond (t := decide ((j : Int) < ((takeOut (bs.drop at_) f n).length : Int))) rfl (fun hc47 => ?_) (fun hc47 => ?_)
      · have hlt : j < (takeOut (bs.drop at_) f n).length := by have := of_decide_eq_true hc47; omega
        have hrd_ := (row_rd (HS.get (.tail _ (.head _)))).2.2
        obtain ⟨ad, hA_⟩ := rd_some hrd_ (by omega)
        subst hA_
        refine wp_skip ?_
        refine hK46 _ _ ?_
        refine wp_seq_k (fun K48 hK49 => ?_)
        refine wp_block ?_
        refine wp_seq_k (fun K50 hK51 => ?_)
        refine c_region (fun ops53 hops52 => ?_)
        clear hops52
        refine p_run _ (x_index (A := ad) (j := j * 1) (sz := 1) rfl rfl rfl Try.underlying22 (by kernel_rfl) (by omega) rfl) rfl ?_
        refine p_run _ (x_load (.int .u8 (bv (takeOut (bs.drop at_) f n)[j])) rfl rfl (rd_cell hrd_ j hlt) (by rfl)) rfl ?_
        refine p_run _ (x_assign (.int .u8 (bv (takeOut (bs.drop at_) f n)[j])) rfl rfl) rfl ?_
        refine wpList_nil ?_
        refine fr_at (l' := (.agg ([.slice B bs.length cb, .int .i64 (at_ : Int), .bool f] : List Value).toArray :: .int .i64 n :: .pointer (some ⟨g5, 0, none⟩) :: undef :: .pointer (some ⟨g8, 0, none⟩) :: .int .u64 0 :: .slice (some ad) ((takeOut (bs.drop at_) f n).length) c :: .int .u64 (sm (takeOut (bs.drop at_) f n) j) :: .int .u64 (pw j) :: undef :: .int .u8 (bv (takeOut (bs.drop at_) f n)[j]) :: .int .i64 n :: .bool true :: .bool false :: undef :: undef :: .tuple [.agg ([.slice B bs.length cb, .int .i64 (at' : Int), .bool (takeBad (bs.drop at_) f n)] : List Value).toArray, .slice (some ad) ((takeOut (bs.drop at_) f n).length) c].toArray :: .agg ([.slice B bs.length cb, .int .i64 (at_ : Int), .bool f] : List Value).toArray :: .int .i64 n :: .tuple [.agg ([.slice B bs.length cb, .int .i64 (at' : Int), .bool (takeBad (bs.drop at_) f n)] : List Value).toArray, .slice (some ad) ((takeOut (bs.drop at_) f n).length) c].toArray :: .agg ([.slice B bs.length cb, .int .i64 (at' : Int), .bool (takeBad (bs.drop at_) f n)] : List Value).toArray :: .slice (some ad) ((takeOut (bs.drop at_) f n).length) c :: .slice (some ad) ((takeOut (bs.drop at_) f n).length) c :: .int .i64 ((takeOut (bs.drop at_) f n).length : Int) :: .int .i64 (j : Int) :: .bool (decide ((j : Int) < ((takeOut (bs.drop at_) f n).length : Int))) :: .pointer (some ((ad).add (j * 1))) :: .int .u8 (bv (takeOut (bs.drop at_) f n)[j]) :: u28 :: u29 :: u30 :: u31 :: u32 :: u33 :: u34 :: u35 :: u36 :: undef :: undef :: [])) rfl ?_
        refine hK51 _ _ ?_
        refine wp_seq_k (fun K54 hK55 => ?_)
        refine c_region (fun ops57 hops56 => ?_)
        clear hops56
        refine p_run _ (x_move (.int .u64 (sm (takeOut (bs.drop at_) f n) j)) rfl rfl) rfl ?_
        refine p_run _ (x_move (.int .u64 (pw j)) rfl rfl) rfl ?_
        refine p_run _ (x_move (.int .u8 (bv (takeOut (bs.drop at_) f n)[j])) rfl rfl) rfl ?_
        refine p_run _ (x_conv (k := .u8) (m := (bv (takeOut (bs.drop at_) f n)[j])) .u64 ((bv (takeOut (bs.drop at_) f n)[j])) rfl (by rw [Try.underlying5]; rfl) Try.underlying30 rfl (u64_bv _)) rfl ?_
        refine p_run _ (x_arith (k := .u64) (m := (pw j)) (n := (bv (takeOut (bs.drop at_) f n)[j])) .mul (IntKind.u64.wrap (pw j * bv (takeOut (bs.drop at_) f n)[j])) rfl rfl rfl rfl rfl) rfl ?_
        refine p_run _ (x_arith (k := .u64) (m := (sm (takeOut (bs.drop at_) f n) j)) (n := IntKind.u64.wrap (pw j * bv (takeOut (bs.drop at_) f n)[j])) .add ((sm (takeOut (bs.drop at_) f n) (j + 1))) rfl rfl rfl (show IntKind.u64.wrap ((sm (takeOut (bs.drop at_) f n) j) + (IntKind.u64.wrap (pw j * bv (takeOut (bs.drop at_) f n)[j]))) = (sm (takeOut (bs.drop at_) f n) (j + 1)) from (sm_step hO8 hlt)) rfl) rfl ?_
        refine p_run (l' := (.agg ([.slice B bs.length cb, .int .i64 (at_ : Int), .bool f] : List Value).toArray :: .int .i64 n :: .pointer (some ⟨g5, 0, none⟩) :: undef :: .pointer (some ⟨g8, 0, none⟩) :: .int .u64 0 :: .slice (some ad) ((takeOut (bs.drop at_) f n).length) c :: .int .u64 (sm (takeOut (bs.drop at_) f n) (j + 1)) :: .int .u64 (pw j) :: undef :: .int .u8 (bv (takeOut (bs.drop at_) f n)[j]) :: .int .i64 n :: .bool true :: .bool false :: undef :: undef :: .tuple [.agg ([.slice B bs.length cb, .int .i64 (at' : Int), .bool (takeBad (bs.drop at_) f n)] : List Value).toArray, .slice (some ad) ((takeOut (bs.drop at_) f n).length) c].toArray :: .agg ([.slice B bs.length cb, .int .i64 (at_ : Int), .bool f] : List Value).toArray :: .int .i64 n :: .tuple [.agg ([.slice B bs.length cb, .int .i64 (at' : Int), .bool (takeBad (bs.drop at_) f n)] : List Value).toArray, .slice (some ad) ((takeOut (bs.drop at_) f n).length) c].toArray :: .agg ([.slice B bs.length cb, .int .i64 (at' : Int), .bool (takeBad (bs.drop at_) f n)] : List Value).toArray :: .slice (some ad) ((takeOut (bs.drop at_) f n).length) c :: .slice (some ad) ((takeOut (bs.drop at_) f n).length) c :: .int .i64 ((takeOut (bs.drop at_) f n).length : Int) :: .int .i64 (j : Int) :: .bool (decide ((j : Int) < ((takeOut (bs.drop at_) f n).length : Int))) :: .pointer (some ((ad).add (j * 1))) :: .int .u8 (bv (takeOut (bs.drop at_) f n)[j]) :: .int .u64 (sm (takeOut (bs.drop at_) f n) j) :: .int .u64 (pw j) :: .int .u8 (bv (takeOut (bs.drop at_) f n)[j]) :: .int .u64 (bv (takeOut (bs.drop at_) f n)[j]) :: .int .u64 (IntKind.u64.wrap (pw j * bv (takeOut (bs.drop at_) f n)[j])) :: .int .u64 (sm (takeOut (bs.drop at_) f n) (j + 1)) :: u34 :: u35 :: u36 :: undef :: undef :: [])) _ (x_assign (.int .u64 (sm (takeOut (bs.drop at_) f n) (j + 1))) rfl rfl) rfl ?_
        refine wpList_nil ?_
        refine hK55 _ _ ?_
        refine c_region (fun ops59 hops58 => ?_)
        clear hops58
        refine p_run _ (x_move (.int .u64 (pw j)) rfl rfl) rfl ?_
        refine p_run _ (x_arith (k := .u64) (m := (pw j)) (n := 256) .mul ((pw (j + 1))) rfl rfl rfl (show IntKind.u64.wrap ((pw j) * 256) = (pw (j + 1)) from (pw_step (by omega))) rfl) rfl ?_
        refine p_run _ (x_assign (.int .u64 (pw (j + 1))) rfl rfl) rfl ?_
        refine wpList_nil ?_
        refine hK49 _ _ ?_
        refine c_region (fun ops61 hops60 => ?_)
        clear hops60
        refine p_run _ (x_arith (k := .i64) (m := (j : Int)) (n := 1) .add (((j + 1 : Nat) : Int)) rfl rfl rfl (show IntKind.i64.wrap ((j : Int) + 1) = ((j + 1 : Nat) : Int) from ((wr64' (by omega)).trans (by omega))) rfl) rfl ?_
        refine p_run _ (x_move (.int .i64 ((j + 1 : Nat) : Int)) rfl rfl) rfl ?_
        refine wpList_nil ?_
        refine fr_at (l' := (.agg ([.slice B bs.length cb, .int .i64 (at_ : Int), .bool f] : List Value).toArray :: .int .i64 n :: .pointer (some ⟨g5, 0, none⟩) :: undef :: .pointer (some ⟨g8, 0, none⟩) :: .int .u64 0 :: .slice (some ad) ((takeOut (bs.drop at_) f n).length) c :: .int .u64 (sm (takeOut (bs.drop at_) f n) (j + 1)) :: .int .u64 (pw (j + 1)) :: undef :: .int .u8 (bv (takeOut (bs.drop at_) f n)[j]) :: .int .i64 n :: .bool true :: .bool false :: undef :: undef :: .tuple [.agg ([.slice B bs.length cb, .int .i64 (at' : Int), .bool (takeBad (bs.drop at_) f n)] : List Value).toArray, .slice (some ad) ((takeOut (bs.drop at_) f n).length) c].toArray :: .agg ([.slice B bs.length cb, .int .i64 (at_ : Int), .bool f] : List Value).toArray :: .int .i64 n :: .tuple [.agg ([.slice B bs.length cb, .int .i64 (at' : Int), .bool (takeBad (bs.drop at_) f n)] : List Value).toArray, .slice (some ad) ((takeOut (bs.drop at_) f n).length) c].toArray :: .agg ([.slice B bs.length cb, .int .i64 (at' : Int), .bool (takeBad (bs.drop at_) f n)] : List Value).toArray :: .slice (some ad) ((takeOut (bs.drop at_) f n).length) c :: .slice (some ad) ((takeOut (bs.drop at_) f n).length) c :: .int .i64 ((takeOut (bs.drop at_) f n).length : Int) :: .int .i64 ((j + 1 : Nat) : Int) :: .bool (decide ((j : Int) < ((takeOut (bs.drop at_) f n).length : Int))) :: .pointer (some ((ad).add (j * 1))) :: .int .u8 (bv (takeOut (bs.drop at_) f n)[j]) :: .int .u64 (sm (takeOut (bs.drop at_) f n) j) :: .int .u64 (pw j) :: .int .u8 (bv (takeOut (bs.drop at_) f n)[j]) :: .int .u64 (bv (takeOut (bs.drop at_) f n)[j]) :: .int .u64 (IntKind.u64.wrap (pw j * bv (takeOut (bs.drop at_) f n)[j])) :: .int .u64 (sm (takeOut (bs.drop at_) f n) (j + 1)) :: .int .u64 (pw j) :: .int .u64 (pw (j + 1)) :: .int .i64 ((j + 1 : Nat) : Int) :: undef :: undef :: [])) rfl ?_
        refine hJ39 (j + 1) _ _ ?_ ?_
        · show (takeOut (bs.drop at_) f n).length - (j + 1) < (takeOut (bs.drop at_) f n).length - j; omega
        · exact ⟨_, _, _, _, _, _, _, _, _, _, _, _, _, rfl, (((HS.front 2 rfl).front 2 rfl).front 2 rfl), (by omega)⟩
      · have hlt : j = (takeOut (bs.drop at_) f n).length := by have := of_decide_eq_false hc47; omega
        subst hlt
        refine wp_exit ?_
        refine hK33 _ _ ?_
        refine wp_seq_k (fun K62 hK63 => ?_)
        refine c_region (fun ops65 hops64 => ?_)
        clear hops64
        refine p_run _ (x_loads [.slice B bs.length cb, .int .i64 (at' : Int), .bool (takeBad (bs.drop at_) f n)] 3 rfl rfl (bkCells (HS.get (.head _)) 0 _ rfl) (by rfl) (by kernel_rfl) rfl) rfl ?_
        refine p_run _ (x_move (.int .u64 (sm (takeOut (bs.drop at_) f n) (takeOut (bs.drop at_) f n).length)) rfl rfl) rfl ?_
        refine St.stores (cs' := [.slice B bs.length cb, .int .i64 (at' : Int), .bool (takeBad (bs.drop at_) f n)]) (HS.front 2 rfl) [.slice B bs.length cb, .int .i64 (at' : Int), .bool (takeBad (bs.drop at_) f n)] 3 rfl rfl (by rfl) (by kernel_rfl) rfl (by simp) rfl ?_
        clear HS
        intro w66 HS
        refine p_run _ (x_assign (.int .u64 (sm (takeOut (bs.drop at_) f n) (takeOut (bs.drop at_) f n).length)) rfl rfl) rfl ?_
        refine wpList_nil ?_
        refine hK63 _ _ ?_
        refine wp_ret ?_
        try simp only [Exit.inBlock, Exit.then]
        refine c_ret (.tuple [.agg ([.slice B bs.length cb, .int .i64 (at' : Int), .bool (takeBad (bs.drop at_) f n)] : List Value).toArray, .int .u64 (sm (takeOut (bs.drop at_) f n) (takeOut (bs.drop at_) f n).length)].toArray) (r_ct rfl rfl (run_loadVar_aggn (by rfl) [.slice B bs.length cb, .int .i64 (at' : Int), .bool (takeBad (bs.drop at_) f n)] 3 (by kernel_rfl) rfl (bkCells (HS.get (.head _)) 0 _ (whole _))) rfl) ?_
        have e1 : rn n (bs.drop at_, f) = sm (takeOut (bs.drop at_) f n) (takeOut (bs.drop at_) f n).length := rn_sm hn hO8
        have e2 : rs n (bs.drop at_, f) = (takeRest (bs.drop at_) f n, takeBad (bs.drop at_) f n) := rs_wide hn
        rw [e1, e2]
        exact ⟨at', rfl, hat, HS.belowOf⟩
section
variable {w W : World} {L : List Res} {B : Option Addr} {cb R at_ : Nat} {bs : List UInt8} {s : Rs}
set_option maxRecDepth 10000 in
set_option maxHeartbeats 1000000 in
theorem r18num_any (HS : St w (fun _ => False) W (blk R [.slice B bs.length cb, .int .i64 (at_ : Int), .bool s.2] 71 :: L)) (hr : Sl w B cb bs) (hl : bs.length ≤ 100000) (hs : bs.drop at_ = s.1 ∧ at_ ≤ bs.length) {n : Int} (hn : n = 1 ∨ n = 4 ∨ n = 8) : Calls Try.prog 31 #[.pointer (some ⟨R, 0, none⟩), .int .i64 n] W fun e w' => ∃ (at' : Nat), e = .returned (.int .u64 (rn n s)) ∧ (bs.drop at' = (rs n s).1 ∧ at' ≤ bs.length) ∧ St w (fun _ => False) w' (blk R [.slice B bs.length cb, .int .i64 (at' : Int), .bool (rs n s).2] 71 :: L) := by
  skip
  · skip
    refine c_enter Try.func31 rfl 19 rfl (.pointer (some ⟨R, 0, none⟩) :: .int .i64 n :: U16g3 (undef :: [])) rfl ?_
    refine wp_seq_k (fun K1 hK2 => ?_)
    refine c_region (fun ops4 hops3 => ?_)
    clear hops3
    refine p_run _ (x_assign (.int .u64 0) rfl rfl) rfl ?_
    refine wpList_nil ?_
    refine hK2 _ _ ?_
    refine wp_seq_k (fun K5 hK6 => ?_)
    refine c_region (fun ops8 hops7 => ?_)
    clear hops7
    refine p_run _ (x_move (.pointer (some ⟨R, 0, none⟩)) rfl rfl) rfl ?_
    refine p_run _ (x_nil rfl rfl) rfl ?_
    refine p_run _ (x_loads [.slice B bs.length cb, .int .i64 (at_ : Int), .bool s.2] 3 rfl rfl (bkCells (HS.get (.head _)) 0 _ rfl) (by rfl) (by kernel_rfl) rfl) rfl ?_
    refine p_run _ (x_move (.int .i64 n) rfl rfl) rfl ?_
    refine w_call [.agg ([.slice B bs.length cb, .int .i64 (at_ : Int), .bool s.2] : List Value).toArray, .int .i64 n] Try.func53 (by kernel_rfl) (by rfl) rfl ?_
    have hp_ : (bs.drop at_, s.2) = s := by rw [hs.1]
    refine (r1num_any _ B cb bs (hr.below HS.belowOf) hl at_ hs.2 s.2 n hn).mono ?_
    rw [hp_]
    rintro e w9 ⟨at', rfl, hat, hk_⟩
    replace HS := HS.here hk_
    clear hk_
    refine ⟨_, rfl, ?_⟩
    refine p_run (l' := (.pointer (some ⟨R, 0, none⟩) :: .int .i64 n :: undef :: undef :: .int .u64 0 :: undef :: undef :: .tuple [.agg ([.slice B bs.length cb, .int .i64 (at' : Int), .bool ((rs n s).2)] : List Value).toArray, .int .u64 (rn n s)].toArray :: .pointer (some ⟨R, 0, none⟩) :: .pointer (some ⟨R, 0, none⟩) :: .agg ([.slice B bs.length cb, .int .i64 (at_ : Int), .bool s.2] : List Value).toArray :: .int .i64 n :: .tuple [.agg ([.slice B bs.length cb, .int .i64 (at' : Int), .bool ((rs n s).2)] : List Value).toArray, .int .u64 (rn n s)].toArray :: U4g3 (undef :: undef :: []))) _ (x_move (.tuple [.agg ([.slice B bs.length cb, .int .i64 (at' : Int), .bool ((rs n s).2)] : List Value).toArray, .int .u64 (rn n s)].toArray) rfl rfl) rfl ?_
    refine p_run _ (x_extract (vs := [.agg ([.slice B bs.length cb, .int .i64 (at' : Int), .bool ((rs n s).2)] : List Value).toArray, .int .u64 (rn n s)]) 0 (.agg ([.slice B bs.length cb, .int .i64 (at' : Int), .bool ((rs n s).2)] : List Value).toArray) rfl rfl rfl) rfl ?_
    refine p_run _ (x_extract (vs := [.agg ([.slice B bs.length cb, .int .i64 (at' : Int), .bool ((rs n s).2)] : List Value).toArray, .int .u64 (rn n s)]) 1 (.int .u64 (rn n s)) rfl rfl rfl) rfl ?_
    refine St.wAlloc HS (cs := [.slice none 0 0, .int .i64 0, .bool false]) (.agg [.slice none 0 0, .int .i64 0, .bool false].toArray) (by kernel_rfl) rfl ?_
    clear HS
    intro g10 w11 hg12 HS
    refine St.stores (cs' := [.slice B bs.length cb, .int .i64 (at' : Int), .bool ((rs n s).2)]) HS [.slice B bs.length cb, .int .i64 (at' : Int), .bool ((rs n s).2)] 3 rfl rfl (by rfl) (by kernel_rfl) rfl (by simp) rfl ?_
    clear HS
    intro w13 HS
    refine p_run _ (x_assign (.int .u64 (rn n s)) rfl rfl) rfl ?_
    refine wpList_nil ?_
    refine fr_at (l' := (.pointer (some ⟨R, 0, none⟩) :: .int .i64 n :: undef :: undef :: .int .u64 0 :: .pointer (some ⟨g10, 0, none⟩) :: .int .u64 (rn n s) :: .tuple [.agg ([.slice B bs.length cb, .int .i64 (at' : Int), .bool ((rs n s).2)] : List Value).toArray, .int .u64 (rn n s)].toArray :: .pointer (some ⟨R, 0, none⟩) :: .pointer (some ⟨R, 0, none⟩) :: .agg ([.slice B bs.length cb, .int .i64 (at_ : Int), .bool s.2] : List Value).toArray :: .int .i64 n :: .tuple [.agg ([.slice B bs.length cb, .int .i64 (at' : Int), .bool ((rs n s).2)] : List Value).toArray, .int .u64 (rn n s)].toArray :: .agg ([.slice B bs.length cb, .int .i64 (at' : Int), .bool ((rs n s).2)] : List Value).toArray :: .int .u64 (rn n s) :: U4g3 ([]))) rfl ?_
    refine hK6 _ _ ?_
    refine wp_seq_k (fun K14 hK15 => ?_)
    refine c_region (fun ops17 hops16 => ?_)
    clear hops16
    refine p_run _ (x_move (.pointer (some ⟨R, 0, none⟩)) rfl rfl) rfl ?_
    refine p_run _ (x_loads [.slice B bs.length cb, .int .i64 (at' : Int), .bool ((rs n s).2)] 3 rfl rfl (bkCells (HS.get (.head _)) 0 _ rfl) (by rfl) (by kernel_rfl) rfl) rfl ?_
    refine p_run _ (x_nil rfl rfl) rfl ?_
    refine St.stores (cs' := [.slice B bs.length cb, .int .i64 (at' : Int), .bool ((rs n s).2)]) (HS.front 1 rfl) [.slice B bs.length cb, .int .i64 (at' : Int), .bool ((rs n s).2)] 3 rfl rfl (by rfl) (by kernel_rfl) rfl (by simp) rfl ?_
    clear HS
    intro w18 HS
    refine wpList_nil ?_
    refine hK15 _ _ ?_
    refine wp_seq_k (fun K19 hK20 => ?_)
    refine c_region (fun ops22 hops21 => ?_)
    clear hops21
    refine p_run _ (x_move (.int .u64 (rn n s)) rfl rfl) rfl ?_
    refine p_run _ (x_assign (.int .u64 (rn n s)) rfl rfl) rfl ?_
    refine wpList_nil ?_
    obtain ⟨qz23, hqz23⟩ : ∃ q_ : V8, q_ = ⟨.pointer (some ⟨R, 0, none⟩), .pointer (some ⟨R, 0, none⟩), .agg ([.slice B bs.length cb, .int .i64 (at_ : Int), .bool s.2] : List Value).toArray, .int .i64 n, .tuple [.agg ([.slice B bs.length cb, .int .i64 (at' : Int), .bool ((rs n s).2)] : List Value).toArray, .int .u64 (rn n s)].toArray, .agg ([.slice B bs.length cb, .int .i64 (at' : Int), .bool ((rs n s).2)] : List Value).toArray, .int .u64 (rn n s), .pointer (some ⟨R, 0, none⟩)⟩ := ⟨_, rfl⟩
    refine fr_at (l' := (.pointer (some ⟨R, 0, none⟩) :: .int .i64 n :: undef :: undef :: .int .u64 (rn n s) :: .pointer (some ⟨g10, 0, none⟩) :: .int .u64 (rn n s) :: .tuple [.agg ([.slice B bs.length cb, .int .i64 (at' : Int), .bool ((rs n s).2)] : List Value).toArray, .int .u64 (rn n s)].toArray :: V8.l qz23 (.agg ([.slice B bs.length cb, .int .i64 (at' : Int), .bool ((rs n s).2)] : List Value).toArray :: .pointer (some ⟨R, 0, none⟩) :: .int .u64 (rn n s) :: []))) (by subst hqz23; rfl) ?_
    refine hK20 _ _ ?_
    refine wp_ret ?_
    try simp only [Exit.inBlock, Exit.then]
    refine c_ret (.int .u64 (rn n s)) (r_tmp rfl rfl) ?_
    exact ⟨at', rfl, hat, (HS.front 1 rfl).drop⟩
set_option maxRecDepth 10000 in
set_option maxHeartbeats 1000000 in
theorem r18lab_any (HS : St w (fun _ => False) W (blk R [.slice B bs.length cb, .int .i64 (at_ : Int), .bool s.2] 71 :: L)) (hr : Sl w B cb bs) (hl : bs.length ≤ 100000) (hs : bs.drop at_ = s.1 ∧ at_ ≤ bs.length) : Calls Try.prog 32 #[.pointer (some ⟨R, 0, none⟩)] W fun e w' => ∃ (at' : Nat), e = .returned (.agg #[.int .u32 (rn 4 s), .int .u32 (rn 4 (rs 4 s))]) ∧ (bs.drop at' = (rs 4 (rs 4 s)).1 ∧ at' ≤ bs.length) ∧ St w (fun _ => False) w' (blk R [.slice B bs.length cb, .int .i64 (at' : Int), .bool (rs 4 (rs 4 s)).2] 71 :: L) := by
  skip
  · skip
    refine c_enter Try.func32 rfl 14 rfl (.pointer (some ⟨R, 0, none⟩) :: U8g3 (U4g3 (undef :: []))) rfl ?_
    refine wp_seq_k (fun K1 hK2 => ?_)
    refine c_region (fun ops4 hops3 => ?_)
    clear hops3
    refine St.wAlloc HS (cs := [.int .u32 0, .int .u32 0]) (.agg [.int .u32 0, .int .u32 0].toArray) (by kernel_rfl) rfl ?_
    clear HS
    intro g5 w6 hg7 HS
    refine wpList_nil ?_
    refine hK2 _ _ ?_
    refine wp_seq_k (fun K8 hK9 => ?_)
    refine c_region (fun ops11 hops10 => ?_)
    clear hops10
    refine p_run _ (x_build [.int .u32 0, .int .u32 0] rfl (by kernel_rfl)) rfl ?_
    refine St.wAlloc HS (cs := [.int .u32 0, .int .u32 0]) (.agg [.int .u32 0, .int .u32 0].toArray) (by kernel_rfl) rfl ?_
    clear HS
    intro g12 w13 hg14 HS
    refine St.stores (cs' := [.int .u32 0, .int .u32 0]) HS [.int .u32 0, .int .u32 0] 2 rfl rfl (by rfl) (by kernel_rfl) rfl (by simp) rfl ?_
    clear HS
    intro w15 HS
    refine wpList_nil ?_
    refine hK9 _ _ ?_
    refine wp_seq_k (fun K16 hK17 => ?_)
    refine c_region (fun ops19 hops18 => ?_)
    clear hops18
    refine p_run _ (x_move (.pointer (some ⟨R, 0, none⟩)) rfl rfl) rfl ?_
    refine w_call [.pointer (some ⟨R, 0, none⟩), .int .i64 4] Try.func31 (by kernel_rfl) (by rfl) rfl ?_
    replace HS := (HS.front 2 rfl)
    refine (r18num_any (s := s) (at_ := at_) HS hr hl hs (n := 4) (.inr (.inl rfl))).mono ?_
    clear HS
    rintro e w22 ⟨at20, rfl, hat21, HS⟩
    refine ⟨_, rfl, ?_⟩
    refine p_run _ (x_conv (k := .u64) (m := (rn 4 s)) .u32 ((rn 4 s)) rfl (by rw [Try.underlying30]; rfl) Try.underlying26 rfl (wu32 (bd4 _))) rfl ?_
    refine p_run (l' := (.pointer (some ⟨R, 0, none⟩) :: undef :: .pointer (some ⟨g5, 0, none⟩) :: .pointer (some ⟨g12, 0, none⟩) :: .agg ([.int .u32 0, .int .u32 0] : List Value).toArray :: .pointer (some ⟨R, 0, none⟩) :: .int .u64 (rn 4 s) :: .int .u32 (rn 4 s) :: .pointer (some ⟨g12, 0, none⟩) :: U4g3 (undef :: []))) _ (x_field (j := 0) _ _ rfl rfl Try.underlying28 rfl (by rfl) rfl) rfl ?_
    refine St.store (cs' := [.int .u32 (rn 4 s), .int .u32 0]) (HS.front 1 rfl) (.int .u32 (rn 4 s)) rfl rfl rfl (by kernel_rfl) (by rfl) rfl ?_
    clear HS
    intro w23 HS
    refine wpList_nil ?_
    refine hK17 _ _ ?_
    refine wp_seq_k (fun K24 hK25 => ?_)
    refine c_region (fun ops27 hops26 => ?_)
    clear hops26
    refine p_run _ (x_move (.pointer (some ⟨R, 0, none⟩)) rfl rfl) rfl ?_
    refine w_call [.pointer (some ⟨R, 0, none⟩), .int .i64 4] Try.func31 (by kernel_rfl) (by rfl) rfl ?_
    replace HS := (HS.front 1 rfl)
    refine (r18num_any (s := (rs 4 s)) (at_ := at20) HS hr hl hat21 (n := 4) (.inr (.inl rfl))).mono ?_
    clear HS
    rintro e w30 ⟨at28, rfl, hat29, HS⟩
    refine ⟨_, rfl, ?_⟩
    refine p_run _ (x_conv (k := .u64) (m := (rn 4 (rs 4 s))) .u32 ((rn 4 (rs 4 s))) rfl (by rw [Try.underlying30]; rfl) Try.underlying26 rfl (wu32 (bd4 _))) rfl ?_
    refine p_run _ (x_field (j := 1) _ _ rfl rfl Try.underlying28 rfl (by rfl) rfl) rfl ?_
    refine St.store (cs' := [.int .u32 (rn 4 s), .int .u32 (rn 4 (rs 4 s))]) (HS.front 1 rfl) (.int .u32 (rn 4 (rs 4 s))) rfl rfl rfl (by kernel_rfl) (by rfl) rfl ?_
    clear HS
    intro w31 HS
    refine wpList_nil ?_
    refine fr_at (l' := (.pointer (some ⟨R, 0, none⟩) :: undef :: .pointer (some ⟨g5, 0, none⟩) :: .pointer (some ⟨g12, 0, none⟩) :: .agg ([.int .u32 0, .int .u32 0] : List Value).toArray :: .pointer (some ⟨R, 0, none⟩) :: .int .u64 (rn 4 s) :: .int .u32 (rn 4 s) :: .pointer (some ⟨g12, 0, none⟩) :: .pointer (some ⟨R, 0, none⟩) :: .int .u64 (rn 4 (rs 4 s)) :: .int .u32 (rn 4 (rs 4 s)) :: .pointer (some ⟨g12, 1, none⟩) :: undef :: [])) rfl ?_
    refine hK25 _ _ ?_
    refine wp_seq_k (fun K32 hK33 => ?_)
    refine c_region (fun ops35 hops34 => ?_)
    clear hops34
    refine p_run _ (x_loads [.int .u32 (rn 4 s), .int .u32 (rn 4 (rs 4 s))] 2 rfl rfl (bkCells (HS.get (.head _)) 0 _ rfl) (by rfl) (by kernel_rfl) rfl) rfl ?_
    refine St.stores (cs' := [.int .u32 (rn 4 s), .int .u32 (rn 4 (rs 4 s))]) (HS.front 2 rfl) [.int .u32 (rn 4 s), .int .u32 (rn 4 (rs 4 s))] 2 rfl rfl (by rfl) (by kernel_rfl) rfl (by simp) rfl ?_
    clear HS
    intro w36 HS
    refine wpList_nil ?_
    refine hK33 _ _ ?_
    refine wp_ret ?_
    try simp only [Exit.inBlock, Exit.then]
    refine c_ret (.agg ([.int .u32 (rn 4 s), .int .u32 (rn 4 (rs 4 s))] : List Value).toArray) (r_c rfl rfl (run_loadVar_aggn (by rfl) [.int .u32 (rn 4 s), .int .u32 (rn 4 (rs 4 s))] 2 (by kernel_rfl) rfl (bkCells (HS.get (.head _)) 0 _ (whole _)))) ?_
    exact ⟨_, rfl, hat29, HS.drop.drop⟩
end
end Go.Proofs.Ytkiiangookibnaa
